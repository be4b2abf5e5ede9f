import PyProof.Rows.All
import Wide.All
import OpenK.AllK
import Wide.FinOn
import HandS.ForMost
import HandS.Exc
import HandS.TryOnly
import HandS.ExcOwn
import HandS.WordsExc
import HandS.Wide
import HandS.IsInst
import HandS.SortRule
import HandS.SortInts
import HandS.EndBits
import HandS.Conv
import HandS.TupAny
import HandS.Defaults
import KE.GoesMore
import KE.GoesEnum
import HandS.ExcInit
import KE.KExcSuper
import HandS.ExcIs
import PyProof.ReprRoads
import PyProof.ReprLen
import HandS.Gcd
import HandS.More
import PyProof.StrOps2
import HandS.Strs
import HandS.Dict
import PyProof.P3Eq
import HandS.HotCalls
import HandS.ExcCtx
import HandS.TryMany
import PySem.Challenge.RW_gapsproved_k10_graphs
set_option Elab.async false
set_option maxRecDepth 100000
set_option linter.all false
/-! G1: data by value over the hand layer: what a value stands for (D, Rep), the state of a body by slots (SR), and its readings. -/
namespace G
open PySem L2

inductive D where
  | non | bl (b : Bool) | int (i : Int) | str (x : Str)
  | tup (l : List D) | lst (l : List D) | ins (C : Addr) (fs : List (Str × D)) | any | vl (v : V) | scr (ns : List Int) | exc (a dx : Addr) (fs : List (Str × D)) | dct

mutual
inductive Rep (K : PySem.W.Frag) (B : Hp) : V → D → Prop
  | non : Rep K B .non .non
  | bl (b : Bool) : Rep K B (.bl b) (.bl b)
  | int (i : Int) : Rep K B (.int i) (.int i)
  | str (x : Str) : Rep K B (.str x) (.str x)
  | any (v : V) : Rep K B v .any
  | vl (v : V) : Rep K B v (.vl v)
  | scr {a : Addr} {ns : List Int} : (∀ H, Same B H → SqL K H a (ns.map V.int)) → Rep K B (.ref a) (.scr ns)
  | exc {a dx : Addr} {vs : List (Str × V)} {fs : List (Str × D)} : B dx = some (.xd vs) → RepF K B vs fs → Rep K B (.ref a) (.exc a dx fs)
  | dct {a : Addr} : ((∃ kvs, B a = some (.dK kvs)) ∨ ∃ kvs, B a = some (.dT kvs)) → Rep K B (.ref a) .dct
  | lst {a : Addr} {xs : List V} {ds : List D} : B a = some (.lst xs) → Reps K B xs ds → Rep K B (.ref a) (.lst ds)
  | tup {a : Addr} {xs : List V} {ds : List D} : B a = some (.tup xs) → Reps K B xs ds → Rep K B (.ref a) (.tup ds)
  | ins {a C dx : Addr} {vs : List (Str × V)} {fs : List (Str × D)} : B a = some (.ins C dx vs) → RepF K B vs fs → Rep K B (.ref a) (.ins C fs)
inductive Reps (K : PySem.W.Frag) (B : Hp) : List V → List D → Prop
  | nil : Reps K B [] []
  | cons {v : V} {vs : List V} {d : D} {ds : List D} : Rep K B v d → Reps K B vs ds → Reps K B (v :: vs) (d :: ds)
inductive RepF (K : PySem.W.Frag) (B : Hp) : List (Str × V) → List (Str × D) → Prop
  | nil : RepF K B [] []
  | cons {f : Str} {v : V} {vs : List (Str × V)} {d : D} {ds : List (Str × D)} : Rep K B v d → RepF K B vs ds → RepF K B ((f, v) :: vs) ((f, d) :: ds)
end

theorem Same.seqT {K : PySem.W.Frag} {H H' : Hp} {a : Addr} {xs : List V} (e : Same H H') (h : SqT K H a xs) : SqT K H' a xs := by
  rcases h with (h | ⟨o, h⟩) | h
  · exact .inl (.inl (e _ _ h))
  · exact .inl (.inr ⟨o, e _ _ h⟩)
  · exact .inr h
section
variable {K : PySem.W.Frag} {B B' : Hp}
mutual
theorem Rep.mono (s : Same B B') : ∀ {v : V} {d : D}, Rep K B v d → Rep K B' v d
  | _, _, .non => .non
  | _, _, .bl b => .bl b
  | _, _, .int i => .int i
  | _, _, .str x => .str x
  | _, _, .any v => .any v
  | _, _, .vl v => .vl v
  | _, _, .scr h => .scr fun H e => h H (s.trans e)
  | _, _, .exc h r => .exc (s _ _ h) (RepF.mono s r)
  | _, _, .dct h => .dct (h.imp (fun ⟨k, z⟩ => ⟨k, s _ _ z⟩) fun ⟨k, z⟩ => ⟨k, s _ _ z⟩)
  | _, _, .lst h r => .lst (s _ _ h) (Reps.mono s r)
  | _, _, .tup h r => .tup (s _ _ h) (Reps.mono s r)
  | _, _, .ins h r => .ins (s _ _ h) (RepF.mono s r)
theorem Reps.mono (s : Same B B') : ∀ {vs : List V} {ds : List D}, Reps K B vs ds → Reps K B' vs ds
  | _, _, .nil => .nil
  | _, _, .cons h r => .cons (Rep.mono s h) (Reps.mono s r)
theorem RepF.mono (s : Same B B') : ∀ {vs : List (Str × V)} {ds : List (Str × D)}, RepF K B vs ds → RepF K B' vs ds
  | _, _, .nil => .nil
  | _, _, .cons h r => .cons (Rep.mono s h) (RepF.mono s r)
end
theorem Reps.len : ∀ {vs : List V} {ds : List D}, Reps K B vs ds → vs.length = ds.length
  | _, _, .nil => rfl
  | _, _, .cons _ r => congrArg (· + 1) (Reps.len r)
theorem Reps.get : ∀ {vs : List V} {ds : List D} {i : Nat} {d : D}, Reps K B vs ds → ds[i]? = some d → ∃ v, vs[i]? = some v ∧ Rep K B v d
  | _, _, _, _, .nil, e => by simp at e
  | _, _, 0, _, .cons h _, e => by simp at e; subst e; exact ⟨_, rfl, h⟩
  | _, _, i + 1, d, .cons _ r, e => by
    obtain ⟨v, h1, h2⟩ := Reps.get (i := i) (d := d) r (by simpa using e)
    exact ⟨v, by simpa using h1, h2⟩
theorem Reps.getV : ∀ {vs : List V} {ds : List D} {i : Nat} {v : V}, Reps K B vs ds → vs[i]? = some v → ∃ d, ds[i]? = some d ∧ Rep K B v d
  | _, _, _, _, .nil, e => by simp at e
  | _, _, 0, _, .cons h _, e => by simp at e; subst e; exact ⟨_, rfl, h⟩
  | _, _, i + 1, v, .cons _ r, e => by
    obtain ⟨d, h1, h2⟩ := Reps.getV (i := i) (v := v) r (by simpa using e)
    exact ⟨d, by simpa using h1, h2⟩
theorem Reps.append : ∀ {vs ws : List V} {ds es : List D}, Reps K B vs ds → Reps K B ws es → Reps K B (vs ++ ws) (ds ++ es)
  | _, _, _, _, .nil, s => s
  | _, _, _, _, .cons h r, s => .cons h (Reps.append r s)
theorem Reps.set {v : V} {d : D} (h : Rep K B v d) : ∀ {vs : List V} {ds : List D} (i : Nat), Reps K B vs ds → Reps K B (vs.set i v) (ds.set i d)
  | _, _, _, .nil => .nil
  | _, _, 0, .cons _ r => .cons h r
  | _, _, i + 1, .cons q r => .cons q (Reps.set h i r)
theorem Reps.erase : ∀ {vs : List V} {ds : List D} (i : Nat), Reps K B vs ds → Reps K B (vs.eraseIdx i) (ds.eraseIdx i)
  | _, _, _, .nil => .nil
  | _, _, 0, .cons _ r => r
  | _, _, i + 1, .cons q r => .cons q (Reps.erase i r)
theorem Reps.take : ∀ {vs : List V} {ds : List D} (i : Nat), Reps K B vs ds → Reps K B (vs.take i) (ds.take i)
  | _, _, 0, _ => .nil
  | _, _, _ + 1, .nil => .nil
  | _, _, i + 1, .cons q r => .cons q (Reps.take i r)
theorem Reps.drop : ∀ {vs : List V} {ds : List D} (i : Nat), Reps K B vs ds → Reps K B (vs.drop i) (ds.drop i)
  | _, _, 0, r => r
  | _, _, _ + 1, .nil => .nil
  | _, _, i + 1, .cons _ r => Reps.drop i r
/-- a list of ints is what it is -/
theorem Reps.ints : ∀ {vs : List V} {ns : List Int}, Reps K B vs (ns.map D.int) → vs = ns.map V.int
  | _, [], .nil => rfl
  | _, n :: ns, .cons h r => by
    cases h
    rw [Reps.ints r]
    rfl
theorem Reps.bls : ∀ {vs : List V} {ns : List Bool}, Reps K B vs (ns.map D.bl) → vs = ns.map V.bl
  | _, [], .nil => rfl
  | _, n :: ns, .cons h r => by
    cases h
    rw [Reps.bls r]
    rfl
theorem Reps.ofInts : ∀ (ns : List Int), Reps K B (ns.map V.int) (ns.map D.int)
  | [] => .nil
  | n :: ns => .cons (.int n) (Reps.ofInts ns)
theorem Reps.rep {v : V} {d : D} (h : Rep K B v d) : ∀ n : Nat, Reps K B (List.replicate n v) (List.replicate n d)
  | 0 => .nil
  | n + 1 => .cons h (Reps.rep h n)
theorem RepF.look : ∀ {vs : List (Str × V)} {fs : List (Str × D)} {f : Str} {d : D}, RepF K B vs fs → fs.lookup f = some d → ∃ v, vs.lookup f = some v ∧ Rep K B v d
  | _, _, _, _, .nil, e => by simp at e
  | _, _, f, d, .cons (f := g) h r, e => by
    rw [List.lookup_cons] at e ⊢
    cases q : (f == g) with
    | true => rw [q] at e; cases e; exact ⟨_, rfl, h⟩
    | false => rw [q] at e; exact RepF.look r e
theorem RepF.none : ∀ {vs : List (Str × V)} {fs : List (Str × D)} {f : Str}, RepF K B vs fs → fs.lookup f = Option.none → vs.lookup f = Option.none
  | _, _, _, .nil, _ => rfl
  | _, _, f, .cons (f := g) h r, e => by
    rw [List.lookup_cons] at e ⊢
    cases q : (f == g) with
    | true => rw [q] at e; cases e
    | false => rw [q] at e; exact RepF.none r e
theorem RepF.len : ∀ {vs : List (Str × V)} {ds : List (Str × D)}, RepF K B vs ds → vs.length = ds.length
  | _, _, .nil => rfl
  | _, _, .cons _ r => congrArg (· + 1) (RepF.len r)
end

/-! ### what a slot owns -/
inductive W where
  | l (ds : List D)
  | rows (as : List Addr) (dss : List (List D))
  | ob (C : Addr) (fs : List (Str × D))
  | raw (o : HO)
inductive Slot where
  | un | fr (d : D) | ow (a : Addr) (w : W) | pr (a : Addr) (w : W)
def W.foot (a : Addr) : W → List Addr
  | .rows as _ => a :: as
  | _ => [a]
def Slot.foot : Slot → List Addr
  | .ow a w => w.foot a
  | .pr a w => w.foot a
  | _ => []
def OwnV (K : PySem.W.Frag) (B H : Hp) (a : Addr) : W → Prop
  | .l ds => ∃ xs, H a = some (.lst xs) ∧ Reps K B xs ds
  | .rows as dss => H a = some (.lst (as.map .ref)) ∧ as.length = dss.length ∧ (a :: as).Nodup ∧ ∀ (i : Nat) (b : Addr) (ds : List D), as[i]? = some b → dss[i]? = some ds → ∃ xs, H b = some (.lst xs) ∧ Reps K B xs ds
  | .ob C fs => ∃ dx vs, H a = some (.ins C dx vs) ∧ RepF K B vs fs
  | .raw o => H a = some o
def SlotOk (K : PySem.W.Frag) (B H : Hp) (x : Option (Option V)) : Slot → Prop
  | .un => True
  | .fr d => ∃ v, x = some (some v) ∧ Rep K B v d
  | .ow a w => x = some (some (.ref a)) ∧ OwnV K B H a w
  | .pr a w => x = some (some (.ref a)) ∧ OwnV K B H a w

/-- a body's own world: what was frozen and what stood at the entry, what is lent to it -/
structure Wd where
  B0 : Hp
  H0 : Hp
  S : List Addr
structure SR (K : PySem.W.Frag) (w : Wd) (B H : Hp) (σ : L2.St) (ρ : List Slot) : Prop where
  ext : Same B H
  ex0 : Same w.B0 B
  frame : ∀ a o, w.H0 a = some o → a ∉ w.S → H a = some o
  dom : ∀ a, w.H0 a ≠ none → H a ≠ none
  new : ∀ a o, B a = some o → w.B0 a = some o ∨ w.H0 a = none
  len : σ.length = ρ.length
  ok : ∀ (i : Nat) (s : Slot), ρ[i]? = some s → SlotOk K B H σ[i]? s
  apart : ∀ (i j : Nat) (s t : Slot), i ≠ j → ρ[i]? = some s → ρ[j]? = some t → ∀ b ∈ s.foot, b ∉ t.foot
  sep : ∀ (i : Nat) (s : Slot), ρ[i]? = some s → ∀ b ∈ s.foot, B b = none
  own : ∀ (i : Nat) (a : Addr) (v : W), ρ[i]? = some (.ow a v) → ∀ b ∈ v.foot a, w.H0 b = none
  par : ∀ (i : Nat) (a : Addr) (v : W), ρ[i]? = some (.pr a v) → ∀ b ∈ v.foot a, b ∈ w.S

section
variable {K : PySem.W.Frag} {w : Wd} {B B' H H' : Hp} {σ : L2.St} {ρ : List Slot}
theorem OwnV.there {a : Addr} {v : W} (h : OwnV K B H a v) : ∀ b ∈ v.foot a, H b ≠ none := by
  cases v with
  | l ds =>
    obtain ⟨xs, e, _⟩ := h
    intro b hb
    simp only [W.foot, List.mem_singleton] at hb
    rw [hb, e]; simp
  | raw o =>
    intro b hb
    simp only [W.foot, List.mem_singleton] at hb
    rw [hb, show H a = some o from h]; simp
  | ob C fs =>
    obtain ⟨dx, vs, e, _⟩ := h
    intro b hb
    simp only [W.foot, List.mem_singleton] at hb
    rw [hb, e]; simp
  | rows as dss =>
    obtain ⟨e, hl, _, h⟩ := h
    intro b hb
    simp only [W.foot, List.mem_cons] at hb
    rcases hb with hb | hb
    · rw [hb, e]; simp
    · obtain ⟨i, hi⟩ := List.getElem?_of_mem hb
      have hlt : i < dss.length := by rw [← hl]; exact (List.getElem?_eq_some_iff.mp hi).1
      obtain ⟨xs, q, _⟩ := h i b dss[i] hi (List.getElem?_eq_getElem hlt)
      rw [q]; simp
theorem SlotOk.there {x : Option (Option V)} {s : Slot} (h : SlotOk K B H x s) : ∀ b ∈ s.foot, H b ≠ none := by
  cases s with
  | un => intro b hb; cases hb
  | fr d => intro b hb; cases hb
  | ow a v => exact h.2.there
  | pr a v => exact h.2.there
/-- what is owned is the same in a heap that is the same at its foot -/
theorem OwnV.keep {a : Addr} {v : W} (h : OwnV K B H a v) (s : Same B B') (k : ∀ b ∈ v.foot a, H' b = H b) : OwnV K B' H' a v := by
  cases v with
  | l ds =>
    obtain ⟨xs, e, r⟩ := h
    exact ⟨xs, by rw [k a (by simp [W.foot]), e], r.mono s⟩
  | raw o => exact (k a (by simp [W.foot])).trans h
  | ob C fs =>
    obtain ⟨dx, vs, e, r⟩ := h
    exact ⟨dx, vs, by rw [k a (by simp [W.foot]), e], r.mono s⟩
  | rows as dss =>
    obtain ⟨e, hl, nd, h⟩ := h
    refine ⟨by rw [k a (by simp [W.foot]), e], hl, nd, fun i b ds hi hd => ?_⟩
    obtain ⟨xs, q, r⟩ := h i b ds hi hd
    exact ⟨xs, by rw [k b (by simp [W.foot, List.mem_of_getElem? hi]), q], r.mono s⟩
theorem SlotOk.keep {x : Option (Option V)} {s : Slot} (h : SlotOk K B H x s) (e : Same B B') (k : ∀ b ∈ s.foot, H' b = H b) : SlotOk K B' H' x s := by
  cases s with
  | un => trivial
  | fr d => obtain ⟨v, q, r⟩ := h; exact ⟨v, q, r.mono e⟩
  | ow a v => exact ⟨h.1, h.2.keep e k⟩
  | pr a v => exact ⟨h.1, h.2.keep e k⟩

/-- things were made, nothing was changed -/
structure Grow (B H B' H' : Hp) : Prop where
  b : Same B B'
  h : Same H H'
  ext : Same B' H'
  new : ∀ a o, B' a = some o → B a = some o ∨ H a = none
theorem Grow.refl (e : Same B H) : Grow B H B H := ⟨Same.refl B, Same.refl H, e, fun _ _ h => .inl h⟩
theorem Same.ne {a : Addr} (s : Same H H') (h : H a ≠ none) : H' a ≠ none := by
  intro q
  apply h
  exact s.free q
theorem Grow.trans {B1 H1 : Hp} (x : Grow B H B1 H1) (y : Grow B1 H1 B' H') : Grow B H B' H' := ⟨x.b.trans y.b, x.h.trans y.h, y.ext, fun a o e => by
  rcases y.new a o e with q | q
  · exact x.new a o q
  · exact .inr (x.h.free q)⟩
theorem SR.grow (R : SR K w B H σ ρ) (g : Grow B H B' H') : SR K w B' H' σ ρ := by
  have kp : ∀ (i : Nat) (s : Slot), ρ[i]? = some s → ∀ b ∈ s.foot, H' b = H b := fun i s hs b hb => by
    have t := (R.ok i s hs).there b hb
    cases q : H b with
    | none => exact absurd q t
    | some o => exact g.h b o q
  refine ⟨g.ext, R.ex0.trans g.b, fun a o e n => g.h a o (R.frame a o e n), fun a e => Same.ne g.h (R.dom a e), fun a o e => ?_, R.len, fun i s hs => (R.ok i s hs).keep g.b (kp i s hs), R.apart, fun i s hs b hb => ?_, R.own, R.par⟩
  · rcases g.new a o e with q | q
    · exact R.new a o q
    · refine .inr ?_
      cases z : w.H0 a with
      | none => rfl
      | some u => exact absurd q (R.dom a (by rw [z]; simp))
  · have n := R.sep i s hs b hb
    cases z : B' b with
    | none => rfl
    | some o =>
      rcases g.new b o z with q | q
      · rw [n] at q; cases q
      · exact absurd q ((R.ok i s hs).there b hb)
/-- a new frozen object -/
theorem Grow.lay {p : Addr} {o : HO} (e : Same B H) (hp : H p = none) : Grow B H (upd B p o) (upd H p o) := by
  have bp : B p = none := e.free hp
  have sm : ∀ {H : Hp}, H p = none → Same H (upd H p o) := fun hp a u q => by rw [upd_ne (ne_of_none q hp)]; exact q
  refine ⟨sm bp, sm hp, fun a u q => ?_, fun a u q => ?_⟩
  · by_cases h : a = p
    · subst h; rw [upd_same] at q ⊢; exact q
    · rw [upd_ne h] at q ⊢; exact e a u q
  · by_cases h : a = p
    · subst h; exact .inr hp
    · rw [upd_ne h] at q; exact .inl q
/-- a new object, not frozen -/
theorem Grow.make {p : Addr} {o : HO} (e : Same B H) (hp : H p = none) : Grow B H B (upd H p o) := by
  have sm : Same H (upd H p o) := fun a u q => by rw [upd_ne (ne_of_none q hp)]; exact q
  exact ⟨Same.refl B, sm, e.trans sm, fun a u q => .inl q⟩
/-- what was made and belongs to no slot is frozen -/
structure Fresh (w : Wd) (B : Hp) (ρ : List Slot) (a : Addr) : Prop where
  h0 : w.H0 a = none
  b : B a = none
  foot : ∀ (i : Nat) (s : Slot), ρ[i]? = some s → a ∉ s.foot
theorem Fresh.of (R : SR K w B H σ ρ) {p : Addr} (hp : H p = none) : Fresh w B ρ p := by
  refine ⟨?_, R.ext.free hp, fun i s hs hb => (R.ok i s hs).there p hb hp⟩
  cases z : w.H0 p with
  | none => rfl
  | some u => exact absurd hp (R.dom p (by rw [z]; simp))
theorem SR.freeze {a : Addr} {o : HO} (R : SR K w B H σ ρ) (f : Fresh w B ρ a) (h : H a = some o) : SR K w (upd B a o) H σ ρ := by
  have sm : Same B (upd B a o) := fun b u q => by rw [upd_ne (ne_of_none q f.b)]; exact q
  refine ⟨fun b u q => ?_, R.ex0.trans sm, R.frame, R.dom, fun b u q => ?_, R.len, fun i s hs => (R.ok i s hs).keep sm fun _ _ => rfl, R.apart, fun i s hs b hb => ?_, R.own, R.par⟩
  · by_cases e : b = a
    · subst e; rw [upd_same] at q; cases q; exact h
    · rw [upd_ne e] at q; exact R.ext b u q
  · by_cases e : b = a
    · subst e; exact .inr f.h0
    · rw [upd_ne e] at q; exact R.new b u q
  · have n : b ≠ a := fun e => f.foot i s hs (e ▸ hb)
    rw [upd_ne n]
    exact R.sep i s hs b hb
theorem Grow.freezeB {a : Addr} {o : HO} (n : B a = none) : Same B (upd B a o) := fun b u q => by rw [upd_ne (ne_of_none q n)]; exact q

theorem set_cases {α : Type} {l : List α} {i j : Nat} {x y : α} (h : (l.set i x)[j]? = some y) : (i = j ∧ y = x ∧ i < l.length) ∨ (i ≠ j ∧ l[j]? = some y) := by
  by_cases e : i = j
  · subst e
    by_cases hl : i < l.length
    · rw [List.getElem?_set_self hl] at h
      cases h
      exact .inl ⟨rfl, rfl, hl⟩
    · rw [List.getElem?_eq_none (by simpa using hl)] at h
      cases h
  · rw [List.getElem?_set_ne e] at h
    exact .inr ⟨e, h⟩
/-- a slot is stored -/
theorem SR.put {i : Nat} {v : V} {s : Slot} (R : SR K w B H σ ρ) (hl : i < σ.length) (h : SlotOk K B H (some (some v)) s) (ap : ∀ (j : Nat) (t : Slot), i ≠ j → ρ[j]? = some t → ∀ b ∈ s.foot, b ∉ t.foot) (sp : ∀ b ∈ s.foot, B b = none)
    (ow : ∀ (a : Addr) (u : W), s = .ow a u → ∀ b ∈ u.foot a, w.H0 b = none) (pr : ∀ (a : Addr) (u : W), s = .pr a u → ∀ b ∈ u.foot a, b ∈ w.S) : SR K w B H (σ.set i (some v)) (ρ.set i s) := by
  refine ⟨R.ext, R.ex0, R.frame, R.dom, R.new, by rw [List.length_set, List.length_set]; exact R.len, fun j t hj => ?_, fun j k t u hne hj hk => ?_, fun j t hj => ?_, fun j a u hj => ?_, fun j a u hj => ?_⟩
  · rcases set_cases hj with ⟨rfl, rfl, _⟩ | ⟨n, hj⟩
    · rw [List.getElem?_set_self hl]; exact h
    · rw [List.getElem?_set_ne n]; exact R.ok j t hj
  · rcases set_cases hj with ⟨rfl, rfl, _⟩ | ⟨n, hj1⟩
    · rcases set_cases hk with ⟨e, _, _⟩ | ⟨m, hk1⟩
      · exact absurd e hne
      · exact ap k u m hk1
    · rcases set_cases hk with ⟨rfl, rfl, _⟩ | ⟨m, hk1⟩
      · exact fun b hb hc => ap j t n hj1 b hc hb
      · exact R.apart j k t u hne hj1 hk1
  · rcases set_cases hj with ⟨rfl, rfl, _⟩ | ⟨n, hj⟩
    · exact sp
    · exact R.sep j t hj
  · rcases set_cases hj with ⟨rfl, e, _⟩ | ⟨n, hj⟩
    · exact ow a u e.symm
    · exact R.own j a u hj
  · rcases set_cases hj with ⟨rfl, e, _⟩ | ⟨n, hj⟩
    · exact pr a u e.symm
    · exact R.par j a u hj
theorem SR.putF {i : Nat} {v : V} {d : D} (R : SR K w B H σ ρ) (hl : i < σ.length) (h : Rep K B v d) : SR K w B H (σ.set i (some v)) (ρ.set i (.fr d)) :=
  R.put hl ⟨v, rfl, h⟩ (fun _ _ _ _ _ z => nomatch z) (fun _ z => nomatch z) (fun _ _ z => nomatch z) (fun _ _ z => nomatch z)
/-- a new list comes to a slot as its own -/
theorem SR.putL {i : Nat} {a : Addr} {xs : List V} {ds : List D} (R : SR K w B H σ ρ) (hl : i < σ.length) (f : Fresh w B ρ a) (h : H a = some (.lst xs)) (r : Reps K B xs ds) : SR K w B H (σ.set i (some (.ref a))) (ρ.set i (.ow a (.l ds))) := by
  refine R.put hl ⟨rfl, xs, h, r⟩ (fun j t _ hj b hb => ?_) (fun b hb => ?_) (fun c u z b hb => ?_) (fun _ _ z => nomatch z)
  · have e : b = a := by simpa [Slot.foot, W.foot] using hb
    rw [e]; exact f.foot j t hj
  · have e : b = a := by simpa [Slot.foot, W.foot] using hb
    rw [e]; exact f.b
  · cases z
    have e : b = a := by simpa [W.foot] using hb
    rw [e]; exact f.h0
/-- less is known of the slots -/
theorem SR.weak {σ' : L2.St} {ρ' : List Slot} (R : SR K w B H σ ρ) (l1 : σ'.length = σ.length) (l2 : ρ'.length = ρ.length) (h : ∀ (i : Nat) (s : Slot), ρ'[i]? = some s → s = .un ∨ (ρ[i]? = some s ∧ σ'[i]? = σ[i]?)) : SR K w B H σ' ρ' := by
  refine ⟨R.ext, R.ex0, R.frame, R.dom, R.new, by rw [l1, l2]; exact R.len, fun i s hs => ?_, fun i j s t hne hs ht b hb hc => ?_, fun i s hs b hb => ?_, fun i a u hs => ?_, fun i a u hs => ?_⟩
  · rcases h i s hs with rfl | ⟨q, e⟩
    · trivial
    · rw [e]; exact R.ok i s q
  · rcases h i s hs with rfl | ⟨q, _⟩
    · cases hb
    · rcases h j t ht with rfl | ⟨q', _⟩
      · cases hc
      · exact R.apart i j s t hne q q' b hb hc
  · rcases h i s hs with rfl | ⟨q, _⟩
    · cases hb
    · exact R.sep i s q b hb
  · rcases h i _ hs with z | ⟨q, _⟩
    · cases z
    · exact R.own i a u q
  · rcases h i _ hs with z | ⟨q, _⟩
    · cases z
    · exact R.par i a u q
/-- an owned thing is written: at its foot alone, things may have been made besides -/
theorem SR.write {i : Nat} {s s' : Slot} (R : SR K w B H σ ρ) (hs : ρ[i]? = some s) (hf : s'.foot = s.foot) (hk : (∃ (a : Addr) (u u' : W), s = .ow a u ∧ s' = .ow a u') ∨ (∃ (a : Addr) (u u' : W), s = .pr a u ∧ s' = .pr a u')) (sm : Same B B') (ext : Same B' H')
    (new : ∀ a o, B' a = some o → B a = some o ∨ H a = none) (fr : ∀ a o, H a = some o → a ∉ s.foot → H' a = some o) (dom : ∀ a, H a ≠ none → H' a ≠ none) (h : SlotOk K B' H' σ[i]? s') : SR K w B' H' σ (ρ.set i s') := by
  have bn : ∀ b, B b = none → H b ≠ none → B' b = none := fun b h1 h2 => by
    cases z : B' b with
    | none => rfl
    | some o =>
      rcases new b o z with q | q
      · rw [h1] at q; cases q
      · exact absurd q h2
  have h0 : ∀ b o, w.H0 b = some o → b ∉ w.S → b ∉ s.foot := fun b o e n hb => by
    rcases hk with ⟨a, u, u', rfl, _⟩ | ⟨a, u, u', rfl, _⟩
    · have := R.own i a u hs b hb
      rw [this] at e; cases e
    · exact n (R.par i a u hs b hb)
  refine ⟨ext, R.ex0.trans sm, fun a o e n => fr a o (R.frame a o e n) (h0 a o e n), fun a e => dom a (R.dom a e), fun a o e => ?_, by rw [List.length_set]; exact R.len, fun j t hj => ?_, fun j k t u hne hj hk => ?_, fun j t hj b hb => ?_, fun j a u hj => ?_, fun j a u hj => ?_⟩
  · rcases new a o e with q | q
    · exact R.new a o q
    · refine .inr ?_
      cases z : w.H0 a with
      | none => rfl
      | some u => exact absurd q (R.dom a (by rw [z]; simp))
  · rcases set_cases hj with ⟨rfl, rfl, _⟩ | ⟨n, hj⟩
    · exact h
    · refine (R.ok j t hj).keep sm fun b hb => ?_
      have t1 := (R.ok j t hj).there b hb
      cases q : H b with
      | none => exact absurd q t1
      | some o => exact fr b o q fun z => R.apart i j s t n hs hj b z hb
  · rcases set_cases hj with ⟨rfl, rfl, _⟩ | ⟨n, hj1⟩
    · rcases set_cases hk with ⟨e, _, _⟩ | ⟨m, hk1⟩
      · exact absurd e hne
      · rw [hf]; exact R.apart i k s u m hs hk1
    · rcases set_cases hk with ⟨rfl, rfl, _⟩ | ⟨m, hk1⟩
      · rw [hf]; exact R.apart j i t s (Ne.symm n) hj1 hs
      · exact R.apart j k t u hne hj1 hk1
  · rcases set_cases hj with ⟨rfl, rfl, _⟩ | ⟨n, hj⟩
    · rw [hf] at hb
      exact bn b (R.sep i s hs b hb) ((R.ok i s hs).there b hb)
    · exact bn b (R.sep j t hj b hb) ((R.ok j t hj).there b hb)
  · rcases set_cases hj with ⟨rfl, e, _⟩ | ⟨n, hj⟩
    · rcases hk with ⟨a', u1, u2, rfl, rfl⟩ | ⟨a', u1, u2, rfl, rfl⟩
      · cases e
        intro b hb
        exact R.own i a u1 hs b (by have q := hf; simp only [Slot.foot] at q; rw [← q]; exact hb)
      · cases e
    · exact R.own j a u hj
  · rcases set_cases hj with ⟨rfl, e, _⟩ | ⟨n, hj⟩
    · rcases hk with ⟨a', u1, u2, rfl, rfl⟩ | ⟨a', u1, u2, rfl, rfl⟩
      · cases e
      · cases e
        intro b hb
        exact R.par i a u1 hs b (by have q := hf; simp only [Slot.foot] at q; rw [← q]; exact hb)
    · exact R.par j a u hj
end
end G

set_option Elab.async false
set_option maxRecDepth 100000
set_option linter.all false
/-! G2: readings over the slots' state: expressions. -/
namespace G
open PySem L2
abbrev Rho := List Slot
variable {X : Cx}

theorem PE.imp {e : Expr} {t t' : TE} (h : PE X e t) (i : ∀ σ H Q, t' σ H Q → t σ H Q) : PE X e t' := ⟨fun pins s σ H Q I q => h.run pins s σ H Q I (i σ H Q q)⟩
theorem PT.imp {e : Expr} {t t' : TT} (h : PT X e t) (i : ∀ σ H Q, t' σ H Q → t σ H Q) : PT X e t' := ⟨fun pins s σ H Q I q => h.run pins s σ H Q I (i σ H Q q)⟩
theorem PW.imp {e : Expr} {t t' : TT} (h : PW X e t) (i : ∀ σ H Q, t' σ H Q → t σ H Q) : PW X e t' := ⟨fun wh pins s σ H Q I q => h.run wh pins s σ H Q I (i σ H Q q)⟩
theorem PA.imp {e : List Expr} {t t' : TA} (h : PA X e t) (i : ∀ σ H Q, t' σ H Q → t σ H Q) : PA X e t' := ⟨fun pos pins s σ H Q I q => h.run pos pins s σ H Q I (i σ H Q q)⟩
theorem PSs.imp {e : List Stmt} {t t' : TS} (h : PSs X e t) (i : ∀ D σ H, t' D σ H → t D σ H) : PSs X e t' := ⟨fun pins s σ H D I q => h.run pins s σ H D I (i D σ H q)⟩
theorem PS.imp {e : Stmt} {t t' : TS} (h : PS X e t) (i : ∀ D σ H, t' D σ H → t D σ H) : PS X e t' := ⟨fun pins s σ H D I q => h.run pins s σ H D I (i D σ H q)⟩
theorem PSs.ex {α : Sort _} {e : List Stmt} {t : α → TS} (h : ∀ a, PSs X e (t a)) : PSs X e (fun D σ H => ∃ a, t a D σ H) := ⟨fun pins s σ H D I ⟨a, q⟩ => (h a).run pins s σ H D I q⟩
theorem PE.ex {α : Sort _} {e : Expr} {t : α → TE} (h : ∀ a, PE X e (t a)) : PE X e (fun σ H Q => ∃ a, t a σ H Q) := ⟨fun pins s σ H Q I ⟨a, q⟩ => (h a).run pins s σ H Q I q⟩
theorem PT.ex {α : Sort _} {e : Expr} {t : α → TT} (h : ∀ a, PT X e (t a)) : PT X e (fun σ H Q => ∃ a, t a σ H Q) := ⟨fun pins s σ H Q I ⟨a, q⟩ => (h a).run pins s σ H Q I q⟩

/-! ### the readings -/
/-- a step from one state to another: what nobody of the slots has, and is not frozen, stays so; p: nothing that stood was changed -/
structure Stp (p : Bool) (ρ : Rho) (B H : Hp) (ρ' : Rho) (B' H' : Hp) : Prop where
  b : Same B B'
  dom : ∀ a, H a ≠ none → H' a ≠ none
  al : ∀ a o, H a = some o → B a = none → (∀ (i : Nat) (s : Slot), ρ[i]? = some s → a ∉ s.foot) → H' a = some o ∧ B' a = none ∧ ∀ (i : Nat) (s : Slot), ρ'[i]? = some s → a ∉ s.foot
  g : p = true → Grow B H B' H'
theorem andt {a b : Bool} (h : (a && b) = true) : a = true ∧ b = true := by simpa using h
theorem Stp.ofGrow {p : Bool} {ρ : Rho} {B H B' H' : Hp} (g : Grow B H B' H') : Stp p ρ B H ρ B' H' := ⟨g.b, fun a h => Same.ne g.h h, fun a o h n f => ⟨g.h a o h, (by
  cases z : B' a with
  | none => rfl
  | some u =>
    rcases g.new a u z with q | q
    · rw [n] at q; cases q
    · rw [h] at q; cases q), f⟩, fun _ => g⟩
theorem Stp.refl {p : Bool} {ρ : Rho} {B H : Hp} (e : Same B H) : Stp p ρ B H ρ B H := .ofGrow (Grow.refl e)
theorem Stp.trans {p q : Bool} {ρ ρ1 ρ2 : Rho} {B H B1 H1 B2 H2 : Hp} (x : Stp p ρ B H ρ1 B1 H1) (y : Stp q ρ1 B1 H1 ρ2 B2 H2) : Stp (p && q) ρ B H ρ2 B2 H2 :=
  ⟨x.b.trans y.b, fun a h => y.dom a (x.dom a h), fun a o h n f => let ⟨h1, n1, f1⟩ := x.al a o h n f; y.al a o h1 n1 f1, fun h => (x.g (andt h).1).trans (y.g (andt h).2)⟩
theorem Stp.add {p : Bool} {ρ ρ1 : Rho} {B H B1 H1 B2 H2 : Hp} (x : Stp p ρ B H ρ1 B1 H1) (y : Grow B1 H1 B2 H2) : Stp p ρ B H ρ1 B2 H2 := by
  have q := x.trans (Stp.ofGrow (p := true) (ρ := ρ1) y)
  rw [Bool.and_true] at q
  exact q
theorem Stp.free {p : Bool} {ρ ρ1 : Rho} {B H B1 H1 : Hp} {a : Addr} (x : Stp p ρ B H ρ1 B1 H1) (h : H1 a = none) : H a = none := by
  cases z : H a with
  | none => rfl
  | some o => exact absurd h (x.dom a (by rw [z]; simp))
theorem Stp.left {p q : Bool} {ρ ρ1 : Rho} {B H B1 H1 : Hp} (x : Stp p ρ B H ρ1 B1 H1) (h : q = true → p = true) : Stp q ρ B H ρ1 B1 H1 := ⟨x.b, x.dom, x.al, fun z => x.g (h z)⟩
/-- a value that stands for d; p: nothing that stood was changed -/
def tEV (K : PySem.W.Frag) (p : Bool) (ρ : Rho) (d : D) (ρ' : Rho) : TE := fun σ H Q => ∃ w B, SR K w B H σ ρ ∧
  ∀ B' H' v, SR K w B' H' σ ρ' → Stp p ρ B H ρ' B' H' → Rep K B' v d → Q v H'
/-- a list that stands for ds, frozen or a slot's own, for the moment -/
def tEL (K : PySem.W.Frag) (p : Bool) (ρ : Rho) (ds : List D) (ρ' : Rho) : TE := fun σ H Q => ∃ w B, SR K w B H σ ρ ∧
  ∀ B' H' a xs, SR K w B' H' σ ρ' → Stp p ρ B H ρ' B' H' → H' a = some (.lst xs) → Reps K B' xs ds → Q (.ref a) H'
/-- a new list that nobody else has -/
def tEN (K : PySem.W.Frag) (p : Bool) (ρ : Rho) (ds : List D) (ρ' : Rho) : TE := fun σ H Q => ∃ w B, SR K w B H σ ρ ∧
  ∀ B' H' a xs, SR K w B' H' σ ρ' → Stp p ρ B H ρ' B' H' → H a = none → Fresh w B' ρ' a → H' a = some (.lst xs) → Reps K B' xs ds → Q (.ref a) H'
def tET (K : PySem.W.Frag) (p : Bool) (ρ : Rho) (b : Bool) (ρ' : Rho) : TT := fun σ H Q => ∃ w B, SR K w B H σ ρ ∧
  ∀ B' H', SR K w B' H' σ ρ' → Stp p ρ B H ρ' B' H' → Q b H'
def tEA (K : PySem.W.Frag) (p : Bool) (ρ : Rho) (ds : List D) (ρ' : Rho) : TA := fun σ H Q => ∃ w B, SR K w B H σ ρ ∧
  ∀ B' H' vs, SR K w B' H' σ ρ' → Stp p ρ B H ρ' B' H' → Reps K B' vs ds → Q vs H'
abbrev EV (X : Cx) (e : Expr) (p : Bool) (ρ : Rho) (d : D) (ρ' : Rho) : Prop := PE X e (tEV X.K p ρ d ρ')
abbrev EL (X : Cx) (e : Expr) (p : Bool) (ρ : Rho) (ds : List D) (ρ' : Rho) : Prop := PE X e (tEL X.K p ρ ds ρ')
abbrev EN (X : Cx) (e : Expr) (p : Bool) (ρ : Rho) (ds : List D) (ρ' : Rho) : Prop := PE X e (tEN X.K p ρ ds ρ')
abbrev ET (X : Cx) (e : Expr) (p : Bool) (ρ : Rho) (b : Bool) (ρ' : Rho) : Prop := PT X e (tET X.K p ρ b ρ')
abbrev EW (X : Cx) (e : Expr) (p : Bool) (ρ : Rho) (b : Bool) (ρ' : Rho) : Prop := PW X e (tET X.K p ρ b ρ')
abbrev EA (X : Cx) (es : List Expr) (p : Bool) (ρ : Rho) (ds : List D) (ρ' : Rho) : Prop := PA X es (tEA X.K p ρ ds ρ')

/-! ### between them -/
theorem ev_ofN {e : Expr} {p : Bool} {ρ ρ' : Rho} {ds : List D} (h : EN X e p ρ ds ρ') : EV X e p ρ (.lst ds) ρ' := PE.imp h fun σ H Q ⟨w, B, R, k⟩ => ⟨w, B, R, fun B' H' a xs R' s n f h r =>
  k (upd B' a (.lst xs)) H' (.ref a) (R'.freeze f h) ⟨s.b.trans (Grow.freezeB f.b), s.dom, fun x o q m ft => by
    obtain ⟨h1, h2, h3⟩ := s.al x o q m ft
    have ne : x ≠ a := fun e => by subst e; rw [n] at q; cases q
    exact ⟨h1, by rw [upd_ne ne]; exact h2, h3⟩, fun hp => ⟨s.b.trans (Grow.freezeB f.b), (s.g hp).h, (R'.freeze f h).ext, fun x o q => by
    by_cases e : x = a
    · subst e; exact .inr n
    · rw [upd_ne e] at q; exact (s.g hp).new x o q⟩⟩ (.lst upd_same (r.mono (Grow.freezeB f.b)))⟩
theorem el_ofN {e : Expr} {p : Bool} {ρ ρ' : Rho} {ds : List D} (h : EN X e p ρ ds ρ') : EL X e p ρ ds ρ' := PE.imp h fun σ H Q ⟨w, B, R, k⟩ => ⟨w, B, R, fun B' H' a xs R' s _ _ h r => k B' H' a xs R' s h r⟩
theorem el_ofV {e : Expr} {p : Bool} {ρ ρ' : Rho} {ds : List D} (h : EV X e p ρ (.lst ds) ρ') : EL X e p ρ ds ρ' := PE.imp h fun σ H Q ⟨w, B, R, k⟩ => ⟨w, B, R, fun B' H' v R' s r => by
  cases r with
  | lst e r => exact k B' H' _ _ R' s (R'.ext _ _ e) r⟩
theorem ev_weak {e : Expr} {p : Bool} {ρ ρ' : Rho} {d : D} (h : EV X e p ρ d ρ') : EV X e false ρ d ρ' := PE.imp h fun σ H Q ⟨w, B, R, k⟩ => ⟨w, B, R, fun B' H' v R' s r => k B' H' v R' (s.left fun z => nomatch z) r⟩
theorem ev_is {e : Expr} {p : Bool} {ρ ρ' : Rho} {d d' : D} (h : EV X e p ρ d ρ') (q : d = d') : EV X e p ρ d' ρ' := q ▸ h
theorem et_is {e : Expr} {p : Bool} {ρ ρ' : Rho} {d d' : Bool} (h : ET X e p ρ d ρ') (q : d = d') : ET X e p ρ d' ρ' := q ▸ h
theorem en_is {e : Expr} {p : Bool} {ρ ρ' : Rho} {d d' : List D} (h : EN X e p ρ d ρ') (q : d = d') : EN X e p ρ d' ρ' := q ▸ h

/-! ### names and constants -/
theorem ev_var {x : Str} {pos : Pos} {ρ : Rho} {d : D} (i : Nat) (hN : X.N[i]? = some x := by rfl) (hv : Vis X.env.scope x := by first | exact Or.inl rfl | exact Or.inr (Or.inl rfl) | exact Or.inr (Or.inr rfl)) (hs : ρ[i]? = some (.fr d) := by rfl)
    (hd : (x == ("__debug__" : Str)) = false := by decide) (hcd : (x == ("__classdict__" : Str)) = false := by decide) : EV X (.Name x pos) true ρ d ρ :=
  PE.imp (pe_var hN hv hd hcd) fun σ H Q ⟨w, B, R, k⟩ => by
    obtain ⟨v, e, r⟩ := R.ok i _ hs
    exact ⟨v, e, k B H v R (Stp.refl R.ext) r⟩
theorem el_own {x : Str} {pos : Pos} {ρ : Rho} {a : Addr} {ds : List D} (i : Nat) (hN : X.N[i]? = some x := by rfl) (hv : Vis X.env.scope x := by first | exact Or.inl rfl | exact Or.inr (Or.inl rfl) | exact Or.inr (Or.inr rfl)) (hs : ρ[i]? = some (.ow a (.l ds)) := by rfl)
    (hd : (x == ("__debug__" : Str)) = false := by decide) (hcd : (x == ("__classdict__" : Str)) = false := by decide) : EL X (.Name x pos) true ρ ds ρ :=
  PE.imp (pe_var hN hv hd hcd) fun σ H Q ⟨w, B, R, k⟩ => by
    obtain ⟨e, xs, h, r⟩ := R.ok i _ hs
    exact ⟨_, e, k B H a xs R (Stp.refl R.ext) h r⟩
theorem el_par {x : Str} {pos : Pos} {ρ : Rho} {a : Addr} {ds : List D} (i : Nat) (hN : X.N[i]? = some x := by rfl) (hv : Vis X.env.scope x := by first | exact Or.inl rfl | exact Or.inr (Or.inl rfl) | exact Or.inr (Or.inr rfl)) (hs : ρ[i]? = some (.pr a (.l ds)) := by rfl)
    (hd : (x == ("__debug__" : Str)) = false := by decide) (hcd : (x == ("__classdict__" : Str)) = false := by decide) : EL X (.Name x pos) true ρ ds ρ :=
  PE.imp (pe_var hN hv hd hcd) fun σ H Q ⟨w, B, R, k⟩ => by
    obtain ⟨e, xs, h, r⟩ := R.ok i _ hs
    exact ⟨_, e, k B H a xs R (Stp.refl R.ext) h r⟩
/-- an own list, given away for good -/
theorem ev_give {x : Str} {pos : Pos} {ρ : Rho} {a : Addr} {ds : List D} (i : Nat) (hN : X.N[i]? = some x := by rfl) (hv : Vis X.env.scope x := by first | exact Or.inl rfl | exact Or.inr (Or.inl rfl) | exact Or.inr (Or.inr rfl)) (hs : ρ[i]? = some (.ow a (.l ds)) := by rfl)
    (hd : (x == ("__debug__" : Str)) = false := by decide) (hcd : (x == ("__classdict__" : Str)) = false := by decide) : EV X (.Name x pos) false ρ (.lst ds) (ρ.set i (.fr (.lst ds))) :=
  PE.imp (pe_var hN hv hd hcd) fun σ H Q ⟨w, B, R, k⟩ => by
    obtain ⟨e, xs, h, r⟩ := R.ok i _ hs
    have hi : i < σ.length := (List.getElem?_eq_some_iff.mp e).1
    have R1 : SR X.K w B H σ (ρ.set i .un) := R.weak rfl (by rw [List.length_set]) fun j s hj => by
      rcases set_cases hj with ⟨_, e, _⟩ | ⟨_, hj⟩
      · exact .inl e
      · exact .inr ⟨hj, rfl⟩
    have f : Fresh w B (ρ.set i .un) a := ⟨R.own i a _ hs a (by simp [W.foot]), R.sep i _ hs a (by simp [Slot.foot, W.foot]), fun j s hj => by
      rcases set_cases hj with ⟨_, e, _⟩ | ⟨n, hj⟩
      · subst e; simp [Slot.foot]
      · exact R.apart i j _ s n hs hj a (by simp [Slot.foot, W.foot])⟩
    have R2 := R1.freeze f h
    have rep : Rep X.K (upd B a (.lst xs)) (.ref a) (.lst ds) := .lst upd_same (r.mono (Grow.freezeB f.b))
    have R3 := R2.putF (i := i) hi rep
    have e1 : σ.set i (some (.ref a)) = σ := by
      apply List.ext_getElem?
      intro j
      by_cases hj : i = j
      · subst hj; rw [List.getElem?_set_self hi, e]
      · rw [List.getElem?_set_ne hj]
    rw [e1, List.set_set] at R3
    refine ⟨_, e, k _ H (.ref a) R3 ⟨Grow.freezeB f.b, fun _ h => h, fun x o q m ft => ?_, fun z => nomatch z⟩ rep⟩
    have ne : x ≠ a := fun z => ft i _ hs (by simp [Slot.foot, W.foot, z])
    refine ⟨q, by rw [upd_ne ne]; exact m, fun j s hj => ?_⟩
    rcases set_cases hj with ⟨_, e, _⟩ | ⟨n, hj⟩
    · subst e; simp [Slot.foot]
    · exact ft j s hj
theorem ev_c {c : Const} {j : Nat} {pos : Pos} {v : V} {d : D} {ρ : Rho} (h : PE X (.Constant c j pos) (tC v)) (r : ∀ B, Rep X.K B v d) : EV X (.Constant c j pos) true ρ d ρ := PE.imp h fun σ H Q ⟨w, B, R, k⟩ => k B H v R (Stp.refl R.ext) (r B)
theorem ev_int {i j pos} {ρ : Rho} : EV X (.Constant (.int i) j pos) true ρ (.int i) ρ := ev_c pe_int fun B => .int i
theorem ev_bl {i j pos} {ρ : Rho} : EV X (.Constant (.bool i) j pos) true ρ (.bl i) ρ := ev_c pe_bl fun B => .bl i
theorem ev_non {j pos} {ρ : Rho} : EV X (.Constant .none j pos) true ρ .non ρ := ev_c pe_non fun B => .non
theorem ev_str {i j pos} {ρ : Rho} : EV X (.Constant (.str i) j pos) true ρ (.str i) ρ := ev_c pe_str fun B => .str i
/-- a module's constant that is an int -/
theorem ev_globI {x : Str} {pos : Pos} {ρ : Rho} {i : Int} {t : Tok} (h : PE X (.Name x pos) (tC (.int i))) : EV X (.Name x pos) true ρ (.int i) ρ := PE.imp h fun σ H Q ⟨w, B, R, k⟩ => k B H _ R (Stp.refl R.ext) (.int i)

/-! ### arguments -/
theorem ea_nil {ρ : Rho} : EA X [] true ρ [] ρ := PA.imp pa_nil fun σ H Q ⟨w, B, R, k⟩ => k B H [] R (Stp.refl R.ext) .nil
theorem ea_cons {e : Expr} {es : List Expr} {p q : Bool} {ρ ρ1 ρ2 : Rho} {d : D} {ds : List D} (h : EV X e p ρ d ρ1) (hr : EA X es q ρ1 ds ρ2) (hs : starEach (e :: es) X.env = (false, eval e X.env) :: starEach es X.env := by rfl) : EA X (e :: es) (p && q) ρ (d :: ds) ρ2 :=
  PA.imp (pa_cons h hr hs) fun σ H Q ⟨w, B, R, k⟩ => ⟨w, B, R, fun B1 H1 v R1 s1 r1 => ⟨w, B1, R1, fun B2 H2 vs R2 s2 r2 => k B2 H2 (v :: vs) R2 (s1.trans s2) (.cons (r1.mono s2.b) r2)⟩⟩

/-! ### operators, by values -/
/-- what a rule on two values gives -/
def VOp (K : PySem.W.Frag) (r : R2) (x y z : D) : Prop := ∀ B H v u Q, Same B H → Rep K B v x → Rep K B u y → (∀ B' H' t, Grow B H B' H' → Rep K B' t z → Q t H') → r v u H Q
def VUn (K : PySem.W.Frag) (r : V → Hp → VK → Prop) (x z : D) : Prop := ∀ B H v Q, Same B H → Rep K B v x → (∀ B' H' t, Grow B H B' H' → Rep K B' t z → Q t H') → r v H Q
def VCall (K : PySem.W.Frag) (r : List V → Hp → VK → Prop) (xs : List D) (z : D) : Prop := ∀ B H vs Q, Same B H → Reps K B vs xs → (∀ B' H' t, Grow B H B' H' → Rep K B' t z → Q t H') → r vs H Q
section
variable {a b c : Expr} {p q s : Bool} {ρ ρ1 ρ2 ρ3 : Rho} {x y z u : D} {pos : Pos}
theorem op_red {r : R2} (h : VOp X.K r x y z) : ∀ σ H Q, tEV X.K (p && q) ρ z ρ2 σ H Q → tOp r (tEV X.K p ρ x ρ1) (tEV X.K q ρ1 y ρ2) σ H Q := fun σ H Q ⟨w, B, R, k⟩ =>
  ⟨w, B, R, fun B1 H1 v R1 s1 r1 => ⟨w, B1, R1, fun B2 H2 v2 R2 s2 r2 => h B2 H2 v v2 Q R2.ext (r1.mono s2.b) r2 fun B3 H3 t g r => k B3 H3 t (R2.grow g) ((s1.trans s2).add g) r⟩⟩
theorem ev_bin {op : Operator} {r : R2} (ho : OpR X (binaryOp op) r) (h : VOp X.K r x y z) (ha : EV X a p ρ x ρ1) (hb : EV X b q ρ1 y ρ2) : EV X (.BinOp a op b pos) (p && q) ρ z ρ2 := PE.imp (pe_op ho ha hb) (op_red h)
theorem ev_cmp {op : CmpOp} {r : R2} (ho : OpR X (compareOp op) r) (h : VOp X.K r x y z) (ha : EV X a p ρ x ρ1) (hb : EV X b q ρ1 y ρ2) (hm : behindInMarks op b = false) : EV X (.Compare a [op] [b] pos) (p && q) ρ z ρ2 := PE.imp (pe_cmpR ho ha hb hm) (op_red h)
theorem et_cmp {op : CmpOp} {r : R2} {k : Bool} (ho : OpR X (compareOp op) r) (h : VOp X.K r x y (.bl k)) (ha : EV X a p ρ x ρ1) (hb : EV X b q ρ1 y ρ2) (hm : behindInMarks op b = false) : ET X (.Compare a [op] [b] pos) (p && q) ρ k ρ2 :=
  PT.imp (pt_cmpR ho ha hb hm) fun σ H Q ⟨w, B, R, kk⟩ => op_red h σ H _ ⟨w, B, R, fun B' H' v R' s r => by
    cases r
    exact ⟨k, rfl, kk B' H' R' s⟩⟩
theorem ev_un {op : UnaryOp} {r : V → Hp → VK → Prop} (ho : UnR X (unaryOp op) r) (h : VUn X.K r x z) (ha : EV X a p ρ x ρ1) : EV X (.UnaryOp op a pos) p ρ z ρ1 := PE.imp (pe_un ho ha) fun σ H Q ⟨w, B, R, k⟩ =>
  ⟨w, B, R, fun B1 H1 v R1 s1 r1 => h B1 H1 v Q R1.ext r1 fun B3 H3 t g r => k B3 H3 t (R1.grow g) (s1.add g) r⟩
theorem ev_ix {r : R2} (ho : IxR X r) (h : VOp X.K r x y z) (ha : EV X a p ρ x ρ1) (hb : EV X b q ρ1 y ρ2) (hs : PlainIx b := by exact fun _ _ => rfl) : EV X (.Subscript a b pos) (p && q) ρ z ρ2 := PE.imp (pe_ix ho ha hb hs) (op_red h)
theorem ev_chain {op op' : CmpOp} {r r' : R2} {k k' : Bool} (ho : OpR X (compareOp op) r) (ho' : OpR X (compareOp op') r') (h : VOp X.K r x y (.bl k)) (h' : VOp X.K r' y z (.bl k')) (ha : EV X a true ρ x ρ) (hb : EV X b true ρ y ρ) (hc : EV X c true ρ z ρ)
    (hm : lastMarks [op, op'] [b, c] = false := by with_unfolding_all rfl) : EV X (.Compare a [op, op'] [b, c] pos) true ρ (.bl (k && k')) ρ :=
  PE.imp (pe_chain ho ho' ha hb hc hm) fun σ H Q ⟨w, B, R, kk⟩ => ⟨w, B, R, fun B1 H1 v R1 s1 r1 => ⟨w, B1, R1, fun B2 H2 v2 R2 s2 r2 => h B2 H2 v v2 _ R2.ext (r1.mono s2.b) r2 fun B3 H3 t g r => by
    cases r
    refine ⟨k, rfl, ?_⟩
    have R3 := R2.grow g
    have G3 := ((s1.g rfl).trans (s2.g rfl)).trans g
    cases k with
    | false => exact kk B3 H3 _ R3 (Stp.ofGrow G3) (.bl false)
    | true => exact ⟨w, B3, R3, fun B4 H4 v4 R4 s4 r4 => h' B4 H4 v2 v4 Q R4.ext ((r2.mono g.b).mono s4.b) r4 fun B5 H5 t g5 r => kk B5 H5 t (R4.grow g5) (.ofGrow ((G3.trans (s4.g rfl)).trans g5)) r⟩⟩⟩
theorem et_chain {op op' : CmpOp} {r r' : R2} {k k' : Bool} (ho : OpR X (compareOp op) r) (ho' : OpR X (compareOp op') r') (h : VOp X.K r x y (.bl k)) (h' : VOp X.K r' y z (.bl k')) (ha : EV X a true ρ x ρ) (hb : EV X b true ρ y ρ) (hc : EV X c true ρ z ρ)
    (hm : lastMarks [op, op'] [b, c] = false := by with_unfolding_all rfl) : ET X (.Compare a [op, op'] [b, c] pos) true ρ (k && k') ρ :=
  PT.imp (pt_chain ho ho' ha hb hc hm) fun σ H Q ⟨w, B, R, kk⟩ => ⟨w, B, R, fun B1 H1 v R1 s1 r1 => ⟨w, B1, R1, fun B2 H2 v2 R2 s2 r2 => h B2 H2 v v2 _ R2.ext (r1.mono s2.b) r2 fun B3 H3 t g r => by
    cases r
    refine ⟨k, rfl, ?_⟩
    have R3 := R2.grow g
    have G3 := ((s1.g rfl).trans (s2.g rfl)).trans g
    cases k with
    | false => exact ⟨false, rfl, kk B3 H3 R3 (Stp.ofGrow G3)⟩
    | true => exact ⟨w, B3, R3, fun B4 H4 v4 R4 s4 r4 => h' B4 H4 v2 v4 _ R4.ext ((r2.mono g.b).mono s4.b) r4 fun B5 H5 t g5 r => by
        cases r
        exact ⟨k', rfl, kk B5 H5 (R4.grow g5) (.ofGrow ((G3.trans (s4.g rfl)).trans g5))⟩⟩⟩⟩

/-! values -/
variable {K : PySem.W.Frag}
theorem VOp.now {r : R2} (h : ∀ B H v u Q, Same B H → Rep K B v x → Rep K B u y → (∀ t, Rep K B t z → Q t H) → r v u H Q) : VOp K r x y z := fun B H v u Q e rv ru k => h B H v u Q e rv ru fun t r => k B H t (Grow.refl e) r
theorem vi0 {g : Int → Int → V} {f : D} {i j : Int} (h : ∀ B, Rep K B (g i j) f) : VOp K (rI0 g) (.int i) (.int j) f := .now fun B H v u Q e rv ru k => by
  cases rv
  cases ru
  exact ⟨i, j, rfl, rfl, k _ (h B)⟩
theorem vi {C : Int → Int → Prop} {g : Int → Int → V} {f : D} {i j : Int} (hc : C i j) (h : ∀ B, Rep K B (g i j) f) : VOp K (rI C g) (.int i) (.int j) f := .now fun B H v u Q e rv ru k => by
  cases rv
  cases ru
  exact ⟨i, j, rfl, rfl, hc, k _ (h B)⟩
variable {i j : Int}
theorem ev_add (ha : EV X a p ρ (.int i) ρ1) (hb : EV X b q ρ1 (.int j) ρ2) : EV X (.BinOp a .Add b pos) (p && q) ρ (.int (i + j)) ρ2 := ev_bin op_add (vi0 fun _ => .int _) ha hb
theorem ev_sub (ha : EV X a p ρ (.int i) ρ1) (hb : EV X b q ρ1 (.int j) ρ2) : EV X (.BinOp a .Sub b pos) (p && q) ρ (.int (i - j)) ρ2 := ev_bin op_sub (vi0 fun _ => .int _) ha hb
theorem ev_mul (ha : EV X a p ρ (.int i) ρ1) (hb : EV X b q ρ1 (.int j) ρ2) (h : CMul i j) : EV X (.BinOp a .Mult b pos) (p && q) ρ (.int (i * j)) ρ2 := ev_bin op_mul (vi h fun _ => .int _) ha hb
theorem ev_fdiv (ha : EV X a p ρ (.int i) ρ1) (hb : EV X b q ρ1 (.int j) ρ2) (h : CDivW i j) : EV X (.BinOp a .FloorDiv b pos) (p && q) ρ (.int (i / j)) ρ2 := ev_bin op_fdivW (vi h fun _ => .int _) ha hb
theorem ev_mod (ha : EV X a p ρ (.int i) ρ1) (hb : EV X b q ρ1 (.int j) ρ2) (h : 0 < j) : EV X (.BinOp a .Mod b pos) (p && q) ρ (.int (i % j)) ρ2 := ev_bin op_mod (vi h fun _ => .int _) ha hb
theorem ev_pow (ha : EV X a p ρ (.int i) ρ1) (hb : EV X b q ρ1 (.int j) ρ2) (h : CPow i j) : EV X (.BinOp a .Pow b pos) (p && q) ρ (.int (i ^ j.toNat)) ρ2 := ev_bin op_pow (vi h fun _ => .int _) ha hb
theorem ev_neg (ha : EV X a p ρ (.int i) ρ1) : EV X (.UnaryOp .USub a pos) p ρ (.int (-i)) ρ1 := ev_un un_neg (fun B H v Q e rv k => by
  cases rv
  exact ⟨i, rfl, k B H _ (Grow.refl e) (.int _)⟩) ha
theorem vlt : VOp K (rI0 fun i j => .bl (decide (i < j))) (.int i) (.int j) (.bl (decide (i < j))) := vi0 fun _ => .bl _
theorem vle : VOp K (rI0 fun i j => .bl (decide (i ≤ j))) (.int i) (.int j) (.bl (decide (i ≤ j))) := vi0 fun _ => .bl _
theorem vgt : VOp K (rI0 fun i j => .bl (decide (j < i))) (.int i) (.int j) (.bl (decide (j < i))) := vi0 fun _ => .bl _
theorem vge : VOp K (rI0 fun i j => .bl (decide (j ≤ i))) (.int i) (.int j) (.bl (decide (j ≤ i))) := vi0 fun _ => .bl _
theorem veqI : VOp K rEq (.int i) (.int j) (.bl (decide (i = j))) := .now fun B H v u Q e rv ru k => by
  cases rv
  cases ru
  refine ⟨rfl, ?_⟩
  have e : decide (V.int i = V.int j) = decide (i = j) := by
    rw [Bool.eq_iff_iff]
    simp
  rw [e]
  exact k _ (.bl _)
theorem vneI : VOp K rNe (.int i) (.int j) (.bl (!decide (i = j))) := .now fun B H v u Q e rv ru k => by
  cases rv
  cases ru
  refine ⟨rfl, ?_⟩
  have e : decide (V.int i = V.int j) = decide (i = j) := by
    rw [Bool.eq_iff_iff]
    simp
  rw [e]
  exact k _ (.bl _)
theorem veqB {i j : Bool} : VOp K rEq (.bl i) (.bl j) (.bl (decide (i = j))) := .now fun B H v u Q e rv ru k => by
  cases rv
  cases ru
  refine ⟨rfl, ?_⟩
  have e : decide (V.bl i = V.bl j) = decide (i = j) := by
    rw [Bool.eq_iff_iff]
    simp
  rw [e]
  exact k _ (.bl _)
theorem veqS {i j : Str} : VOp K rEq (.str i) (.str j) (.bl (decide (i = j))) := .now fun B H v u Q e rv ru k => by
  cases rv
  cases ru
  refine ⟨rfl, ?_⟩
  have e : decide (V.str i = V.str j) = decide (i = j) := by
    rw [Bool.eq_iff_iff]
    simp
  rw [e]
  exact k _ (.bl _)
theorem et_lt (ha : EV X a p ρ (.int i) ρ1) (hb : EV X b q ρ1 (.int j) ρ2) : ET X (.Compare a [.Lt] [b] pos) (p && q) ρ (decide (i < j)) ρ2 := et_cmp op_lt vlt ha hb (nomark _)
theorem et_le (ha : EV X a p ρ (.int i) ρ1) (hb : EV X b q ρ1 (.int j) ρ2) : ET X (.Compare a [.LtE] [b] pos) (p && q) ρ (decide (i ≤ j)) ρ2 := et_cmp op_le vle ha hb (nomark _)
theorem et_gt (ha : EV X a p ρ (.int i) ρ1) (hb : EV X b q ρ1 (.int j) ρ2) : ET X (.Compare a [.Gt] [b] pos) (p && q) ρ (decide (j < i)) ρ2 := et_cmp op_gt vgt ha hb (nomark _)
theorem et_ge (ha : EV X a p ρ (.int i) ρ1) (hb : EV X b q ρ1 (.int j) ρ2) : ET X (.Compare a [.GtE] [b] pos) (p && q) ρ (decide (j ≤ i)) ρ2 := et_cmp op_ge vge ha hb (nomark _)
theorem et_eqI (ha : EV X a p ρ (.int i) ρ1) (hb : EV X b q ρ1 (.int j) ρ2) : ET X (.Compare a [.Eq] [b] pos) (p && q) ρ (decide (i = j)) ρ2 := et_cmp op_eq veqI ha hb (nomark _)
theorem et_neI (ha : EV X a p ρ (.int i) ρ1) (hb : EV X b q ρ1 (.int j) ρ2) : ET X (.Compare a [.NotEq] [b] pos) (p && q) ρ (!decide (i = j)) ρ2 := et_cmp op_ne vneI ha hb (nomark _)
theorem ev_lt (ha : EV X a p ρ (.int i) ρ1) (hb : EV X b q ρ1 (.int j) ρ2) : EV X (.Compare a [.Lt] [b] pos) (p && q) ρ (.bl (decide (i < j))) ρ2 := ev_cmp op_lt vlt ha hb (nomark _)
theorem ev_le (ha : EV X a p ρ (.int i) ρ1) (hb : EV X b q ρ1 (.int j) ρ2) : EV X (.Compare a [.LtE] [b] pos) (p && q) ρ (.bl (decide (i ≤ j))) ρ2 := ev_cmp op_le vle ha hb (nomark _)
theorem ev_gt (ha : EV X a p ρ (.int i) ρ1) (hb : EV X b q ρ1 (.int j) ρ2) : EV X (.Compare a [.Gt] [b] pos) (p && q) ρ (.bl (decide (j < i))) ρ2 := ev_cmp op_gt vgt ha hb (nomark _)
theorem ev_ge (ha : EV X a p ρ (.int i) ρ1) (hb : EV X b q ρ1 (.int j) ρ2) : EV X (.Compare a [.GtE] [b] pos) (p && q) ρ (.bl (decide (j ≤ i))) ρ2 := ev_cmp op_ge vge ha hb (nomark _)
theorem ev_eqI (ha : EV X a p ρ (.int i) ρ1) (hb : EV X b q ρ1 (.int j) ρ2) : EV X (.Compare a [.Eq] [b] pos) (p && q) ρ (.bl (decide (i = j))) ρ2 := ev_cmp op_eq veqI ha hb (nomark _)
theorem ev_neI (ha : EV X a p ρ (.int i) ρ1) (hb : EV X b q ρ1 (.int j) ρ2) : EV X (.Compare a [.NotEq] [b] pos) (p && q) ρ (.bl (!decide (i = j))) ρ2 := ev_cmp op_ne vneI ha hb (nomark _)
theorem ev_eqS {i j : Str} (ha : EV X a p ρ (.str i) ρ1) (hb : EV X b q ρ1 (.str j) ρ2) : EV X (.Compare a [.Eq] [b] pos) (p && q) ρ (.bl (decide (i = j))) ρ2 := ev_cmp op_eq veqS ha hb (nomark _)
theorem ev_eqB {i j : Bool} (ha : EV X a p ρ (.bl i) ρ1) (hb : EV X b q ρ1 (.bl j) ρ2) : EV X (.Compare a [.Eq] [b] pos) (p && q) ρ (.bl (decide (i = j))) ρ2 := ev_cmp op_eq veqB ha hb (nomark _)
def D.isNon : D → Bool
  | .non => true
  | _ => false
def D.known : D → Bool
  | .any => false
  | .vl _ => false
  | .scr _ => false
  | .exc _ _ _ => false
  | _ => true
theorem Rep.isNon {B : Hp} {v : V} {x : D} (r : Rep K B v x) (h : x.known = true) : decide (v = V.non) = x.isNon := by
  cases r <;> first | (cases h; done) | simp [D.isNon]
theorem vIsN (h : x.known = true) : VOp K (fun x y H Q => y = .non ∧ Q (.bl (decide (x = .non))) H) x .non (.bl x.isNon) := .now fun B H v u Q e rv ru k => by
  cases ru
  refine ⟨rfl, ?_⟩
  rw [rv.isNon h]
  exact k _ (.bl _)
theorem vNotN (h : x.known = true) : VOp K (fun x y H Q => y = .non ∧ Q (.bl (!decide (x = .non))) H) x .non (.bl (!x.isNon)) := .now fun B H v u Q e rv ru k => by
  cases ru
  refine ⟨rfl, ?_⟩
  rw [rv.isNon h]
  exact k _ (.bl _)
theorem et_isN {k pb} (ha : EV X a p ρ x ρ1) (h : x.known = true := by rfl) : ET X (.Compare a [.Is] [.Constant .none k pb] pos) (p && true) ρ x.isNon ρ1 := et_cmp op_isN (vIsN h) ha ev_non (nomark _)
theorem et_notN {k pb} (ha : EV X a p ρ x ρ1) (h : x.known = true := by rfl) : ET X (.Compare a [.IsNot] [.Constant .none k pb] pos) (p && true) ρ (!x.isNon) ρ1 := et_cmp op_notN (vNotN h) ha ev_non (nomark _)
theorem ev_isN {k pb} (ha : EV X a p ρ x ρ1) (h : x.known = true := by rfl) : EV X (.Compare a [.Is] [.Constant .none k pb] pos) (p && true) ρ (.bl x.isNon) ρ1 := ev_cmp op_isN (vIsN h) ha ev_non (nomark _)

/-! ### tests -/
theorem et_val {k : Bool} (ha : EV X a p ρ (.bl k) ρ1) (he : ∀ whole, isTrue a X.env whole = (do let v ← whole; standAt a.pos; holding [v] (truthy v)) := by intro _; rfl) : ET X a p ρ k ρ1 := PT.imp (pt_val ha he) fun σ H Q ⟨w, B, R, kk⟩ => ⟨w, B, R, fun B' H' v R' s r => by
  cases r
  exact ⟨k, rfl, kk B' H' R' s⟩⟩
/-- a value's truth -/
def D.tru : D → Bool
  | .non => false
  | .bl b => b
  | .int i => i != 0
  | .str x => (x.length : Int) != 0
  | .tup l => !l.isEmpty
  | .lst l => !l.isEmpty
  | .ins _ _ => true
  | .any => true
  | .vl _ => true
  | .scr _ => true
  | .exc _ _ _ => true
  | .dct => true
def D.plain0 : D → Prop
  | .str x => x.length ≤ sizeLine
  | .ins _ _ => False
  | .any => False
  | .vl _ => False
  | .scr _ => False
  | .exc _ _ _ => False
  | .dct => False
  | _ => True
theorem Reps.isEmpty {B : Hp} {xs : List V} {ds : List D} (r : Reps K B xs ds) : xs.isEmpty = ds.isEmpty := by cases r <;> rfl
theorem et_truth (ha : EV X a p ρ x ρ1) (hp : x.plain0) (he : ∀ whole, isTrue a X.env whole = (do let v ← whole; standAt a.pos; holding [v] (truthy v)) := by intro _; rfl) : ET X a p ρ x.tru ρ1 := PT.imp (pt_truth ha he) fun σ H Q ⟨w, B, R, kk⟩ => ⟨w, B, R, fun B' H' v R' s r => by
  refine ⟨x.tru, ?_, kk B' H' R' s⟩
  cases r with
  | non => rfl
  | bl b => rfl
  | int i => rfl
  | str y => exact ⟨hp, rfl⟩
  | lst e r => exact .inl ⟨_, SqL.of (R'.ext _ _ e), by rw [r.isEmpty]; rfl⟩
  | tup e r => exact .inr (.inl ⟨_, SqT.of (R'.ext _ _ e), by rw [r.isEmpty]; rfl⟩)
  | ins e r => exact hp.elim
  | any => exact hp.elim
  | vl => exact hp.elim
  | scr _ => exact hp.elim
  | exc _ _ => exact hp.elim
  | dct _ => exact hp.elim⟩
theorem et_truthL {ds : List D} (ha : EL X a p ρ ds ρ1) (he : ∀ whole, isTrue a X.env whole = (do let v ← whole; standAt a.pos; holding [v] (truthy v)) := by intro _; rfl) : ET X a p ρ (!ds.isEmpty) ρ1 := PT.imp (pt_truth ha he) fun σ H Q ⟨w, B, R, kk⟩ => ⟨w, B, R, fun B' H' a xs R' s e r =>
  ⟨!ds.isEmpty, .inl ⟨_, SqL.of e, by rw [r.isEmpty]⟩, kk B' H' R' s⟩⟩
theorem et_not {k : Bool} (ha : ET X a p ρ k ρ1) : ET X (.UnaryOp .Not a pos) p ρ (!k) ρ1 := PT.imp (pt_not ha) fun σ H Q ⟨w, B, R, kk⟩ => ⟨w, B, R, fun B' H' R' s => kk B' H' R' s⟩
theorem ew_and1 {k : Bool} (ha : ET X a p ρ k ρ1) : EW X (.BoolOp .And [a] pos) p ρ k ρ1 := pw_and1 ha
theorem ew_or1 {k : Bool} (ha : ET X a p ρ k ρ1) : EW X (.BoolOp .Or [a] pos) p ρ k ρ1 := pw_or1 ha
theorem ew_and {rest : List Expr} {k l : Bool} (ha : ET X a p ρ k ρ1) (hb : k = true → EW X (.BoolOp .And (b :: rest) pos) q ρ1 l ρ1) : EW X (.BoolOp .And (a :: b :: rest) pos) (p && q) ρ (k && l) ρ1 := by
  cases k with
  | true =>
    exact PW.imp (pw_and ha (hb rfl)) fun σ H Q ⟨w, B, R, kk⟩ => ⟨w, B, R, fun B1 H1 R1 s1 => iteT ⟨w, B1, R1, fun B2 H2 R2 s2 => kk B2 H2 R2 (s1.trans s2)⟩⟩
  | false =>
    refine ⟨fun wh pins s σ H Q I h => ?_⟩
    obtain ⟨w, B, R, kk⟩ := h
    refine PyProof.Rows.isTrue_and (thn (ha.run pins s σ H (fun c H1 => c = false ∧ Q false H1) I ⟨w, B, R, fun B1 H1 R1 s1 => ⟨rfl, kk B1 H1 R1 (s1.left fun h => (andt h).1)⟩⟩) fun c s1 ⟨H1, I1, e, q1⟩ => ?_)
    subst e
    exact ⟨H1, I1, q1⟩
theorem ew_or {rest : List Expr} {k l : Bool} (ha : ET X a p ρ k ρ1) (hb : k = false → EW X (.BoolOp .Or (b :: rest) pos) q ρ1 l ρ1) : EW X (.BoolOp .Or (a :: b :: rest) pos) (p && q) ρ (k || l) ρ1 := by
  cases k with
  | false =>
    exact PW.imp (pw_or ha (hb rfl)) fun σ H Q ⟨w, B, R, kk⟩ => ⟨w, B, R, fun B1 H1 R1 s1 => iteF ⟨w, B1, R1, fun B2 H2 R2 s2 => kk B2 H2 R2 (s1.trans s2)⟩⟩
  | true =>
    refine ⟨fun wh pins s σ H Q I h => ?_⟩
    obtain ⟨w, B, R, kk⟩ := h
    refine PyProof.Rows.isTrue_or (thn (ha.run pins s σ H (fun c H1 => c = true ∧ Q true H1) I ⟨w, B, R, fun B1 H1 R1 s1 => ⟨rfl, kk B1 H1 R1 (s1.left fun h => (andt h).1)⟩⟩) fun c s1 ⟨H1, I1, e, q1⟩ => ?_)
    subst e
    exact ⟨H1, I1, q1⟩
theorem et_w {k : Bool} (h : EW X a p ρ k ρ1) : ET X a p ρ k ρ1 := PW.pt h
theorem ev_ifT {k : Bool} (ht : ET X c p ρ k ρ1) (ha : k = true → EV X a q ρ1 x ρ2) (hb : k = false → EV X b q ρ1 x ρ2) : EV X (.IfExp c a b pos) (p && q) ρ x ρ2 := by
  have A : PE X a (fun σ H Q => ∃ h : k = true, tEV X.K q ρ1 x ρ2 σ H Q) := PE.ex ha
  have B : PE X b (fun σ H Q => ∃ h : k = false, tEV X.K q ρ1 x ρ2 σ H Q) := PE.ex hb
  exact PE.imp (pe_ifExp ht A B) fun σ H Q ⟨w, B, R, kk⟩ => ⟨w, B, R, fun B1 H1 R1 s1 => by
    have fin : tEV X.K q ρ1 x ρ2 σ H1 Q := ⟨w, B1, R1, fun B2 H2 v R2 s2 r => kk B2 H2 v R2 (s1.trans s2) r⟩
    cases k with
    | true => exact iteT ⟨rfl, fin⟩
    | false => exact iteF ⟨rfl, fin⟩⟩
/-- and, or as values of True and False -/
theorem ev_one {op} {d : D} (h : EV X a p ρ d ρ1) : EV X (.BoolOp op [a] pos) p ρ d ρ1 := pe_one h
theorem ev_and {rest : List Expr} {k l : Bool} (ha : EV X a p ρ (.bl k) ρ1) (hb : k = true → EV X (.BoolOp .And (b :: rest) pos) q ρ1 (.bl l) ρ1) : EV X (.BoolOp .And (a :: b :: rest) pos) (p && q) ρ (.bl (k && l)) ρ1 := by
  have Bp : PE X (.BoolOp .And (b :: rest) pos) (fun σ H Q => ∃ h : k = true, tEV X.K q ρ1 (.bl l) ρ1 σ H Q) := PE.ex hb
  cases k with
  | true =>
    exact PE.imp (pe_and ha Bp) fun σ H Q ⟨w, B, R, kk⟩ => ⟨w, B, R, fun B1 H1 v R1 s1 r1 => by
      cases r1
      exact ⟨true, rfl, iteT ⟨rfl, w, B1, R1, fun B2 H2 v R2 s2 r2 => kk B2 H2 v R2 (s1.trans s2) r2⟩⟩⟩
  | false =>
    refine ⟨fun pins s σ H Q I h => ?_⟩
    obtain ⟨w, B, R, kk⟩ := h
    refine PyProof.Rows.BoolOp_and (thn (ha.run pins s σ H (fun v H1 => v = .bl false ∧ Q (.bl false) H1) I ⟨w, B, R, fun B1 H1 v R1 s1 r1 => ?_⟩) fun v s1 ⟨x, H1, I1, r1, e, q1⟩ => ?_)
    · cases r1
      exact ⟨rfl, kk B1 H1 _ R1 (s1.left fun h => (andt h).1) (.bl false)⟩
    · subst e
      cases r1
      exact wpAny_truthy_bool ⟨.bl false, H1, I1, rfl, q1⟩
theorem ev_or {rest : List Expr} {k l : Bool} (ha : EV X a p ρ (.bl k) ρ1) (hb : k = false → EV X (.BoolOp .Or (b :: rest) pos) q ρ1 (.bl l) ρ1) : EV X (.BoolOp .Or (a :: b :: rest) pos) (p && q) ρ (.bl (k || l)) ρ1 := by
  have Bp : PE X (.BoolOp .Or (b :: rest) pos) (fun σ H Q => ∃ h : k = false, tEV X.K q ρ1 (.bl l) ρ1 σ H Q) := PE.ex hb
  cases k with
  | false =>
    exact PE.imp (pe_or ha Bp) fun σ H Q ⟨w, B, R, kk⟩ => ⟨w, B, R, fun B1 H1 v R1 s1 r1 => by
      cases r1
      exact ⟨false, rfl, iteF ⟨rfl, w, B1, R1, fun B2 H2 v R2 s2 r2 => kk B2 H2 v R2 (s1.trans s2) r2⟩⟩⟩
  | true =>
    refine ⟨fun pins s σ H Q I h => ?_⟩
    obtain ⟨w, B, R, kk⟩ := h
    refine PyProof.Rows.BoolOp_or (thn (ha.run pins s σ H (fun v H1 => v = .bl true ∧ Q (.bl true) H1) I ⟨w, B, R, fun B1 H1 v R1 s1 r1 => ?_⟩) fun v s1 ⟨x, H1, I1, r1, e, q1⟩ => ?_)
    · cases r1
      exact ⟨rfl, kk B1 H1 _ R1 (s1.left fun h => (andt h).1) (.bl true)⟩
    · subst e
      cases r1
      exact wpAny_truthy_bool ⟨.bl true, H1, I1, rfl, q1⟩
theorem ev_not {k : Bool} (ha : EV X a p ρ (.bl k) ρ1) : EV X (.UnaryOp .Not a pos) p ρ (.bl (!k)) ρ1 := PE.imp (pe_not ha) fun σ H Q ⟨w, B, R, kk⟩ => ⟨w, B, R, fun B1 H1 v R1 s1 r1 => by
  cases r1
  exact ⟨k, rfl, kk B1 H1 _ R1 s1 (.bl _)⟩⟩
end
end G

set_option Elab.async false
set_option maxRecDepth 100000
set_option linter.all false
/-! G3: readings over the slots' state: lists, tuples, built-ins, calls of defs. -/
namespace G
open PySem L2
variable {X : Cx}
section
variable {K : PySem.W.Frag} {B : Hp}
theorem Reps.atI {xs : List V} {ds : List D} {i : Int} {d : D} (r : Reps K B xs ds) (h : L2.atI ds i = some d) : ∃ v, L2.atI xs i = some v ∧ Rep K B v d := by
  unfold L2.atI at h ⊢
  rw [r.len]
  cases e : ixN ds.length i with
  | none => rw [e] at h; cases h
  | some j =>
    rw [e] at h
    exact r.get h
theorem Reps.flat {n : Nat} {xs : List V} {ds : List D} (r : Reps K B xs ds) : Reps K B (List.replicate n xs).flatten (List.replicate n ds).flatten := by
  induction n with
  | zero => exact .nil
  | succ n ih =>
    rw [List.replicate_succ, List.replicate_succ, List.flatten_cons, List.flatten_cons]
    exact r.append ih
end
section
variable {a b c e : Expr} {es : List Expr} {p q : Bool} {ρ ρ1 ρ2 ρ3 : Rho} {x y z : D} {ds ds' : List D} {pos : Pos} {K : PySem.W.Frag} {i j : Int}

/-! ### subscripts -/
theorem vIxL (h : L2.atI ds i = some z) : VOp K (rIxL K) (.lst ds) (.int i) z := .now fun B H v u Q e rv ru k => by
  cases ru
  cases rv with
  | lst hb r =>
    obtain ⟨w, h1, h2⟩ := r.atI h
    exact ⟨_, _, _, w, rfl, rfl, SqL.of (e _ _ hb), h1, k _ h2⟩
theorem vIxT (h : L2.atI ds i = some z) : VOp K (rIxT K) (.tup ds) (.int i) z := .now fun B H v u Q e rv ru k => by
  cases ru
  cases rv with
  | tup hb r =>
    obtain ⟨w, h1, h2⟩ := r.atI h
    exact ⟨_, _, _, w, rfl, rfl, SqT.of (e _ _ hb), h1, k _ h2⟩
theorem ev_ixF (ha : EV X a p ρ (.lst ds) ρ1) (hb : EV X b q ρ1 (.int i) ρ2) (h : L2.atI ds i = some z) (hs : PlainIx b := by exact fun _ _ => rfl) : EV X (.Subscript a b pos) (p && q) ρ z ρ2 := ev_ix ix_list (vIxL h) ha hb hs
theorem ev_ixT (ha : EV X a p ρ (.tup ds) ρ1) (hb : EV X b q ρ1 (.int i) ρ2) (h : L2.atI ds i = some z) (hs : PlainIx b := by exact fun _ _ => rfl) : EV X (.Subscript a b pos) (p && q) ρ z ρ2 := ev_ix ix_tup (vIxT h) ha hb hs
theorem ev_ixL (ha : EL X a p ρ ds ρ1) (hb : EV X b true ρ1 (.int i) ρ1) (h : L2.atI ds i = some z) (hs : PlainIx b := by exact fun _ _ => rfl) : EV X (.Subscript a b pos) p ρ z ρ1 :=
  PE.imp (pe_ix ix_list ha hb hs) fun σ H Q ⟨w, B, R, k⟩ => ⟨w, B, R, fun B1 H1 l xs R1 s1 hl r1 => ⟨w, B1, R1, fun B2 H2 v2 R2 s2 r2 => by
    cases r2
    obtain ⟨v, h1, h2⟩ := (r1.mono s2.b).atI h
    exact ⟨l, xs, i, v, rfl, rfl, SqL.of ((s2.g rfl).h _ _ hl), h1, k B2 H2 v R2 ((s1.trans s2).left fun h => by rw [h]; rfl) h2⟩⟩⟩
/-- rows[i] as a list of the slot's own -/
theorem el_row {x : Str} {px : Pos} {l : Addr} {as : List Addr} {dss : List (List D)} {n : Nat} {row : List D} (i : Nat) (hb : EV X b true ρ (.int (n : Int)) ρ) (hr : dss[n]? = some row) (hN : X.N[i]? = some x := by rfl)
    (hv : Vis X.env.scope x := by first | exact Or.inl rfl | exact Or.inr (Or.inl rfl) | exact Or.inr (Or.inr rfl)) (hsl : ρ[i]? = some (.ow l (.rows as dss)) := by rfl)
    (hs : PlainIx b := by exact fun _ _ => rfl) (hd : (x == ("__debug__" : Str)) = false := by decide) (hcd : (x == ("__classdict__" : Str)) = false := by decide) : EL X (.Subscript (.Name x px) b pos) true ρ row ρ :=
  PE.imp (pe_ix ix_list (pe_var hN hv hd hcd) hb hs) fun σ H Q ⟨w, B, R, k⟩ => by
    obtain ⟨e, hl, hlen, nd, hrow⟩ := R.ok i _ hsl
    refine ⟨_, e, w, B, R, fun B2 H2 v2 R2 s2 r2 => ?_⟩
    cases r2
    obtain ⟨e', hl', _, _, hrow'⟩ := R2.ok i _ hsl
    have hn : n < as.length := by rw [hlen]; exact (List.getElem?_eq_some_iff.mp hr).1
    obtain ⟨xs, h1, h2⟩ := hrow' n as[n] row (List.getElem?_eq_getElem hn) hr
    exact ⟨l, _, (n : Int), .ref as[n], rfl, rfl, SqL.of hl', atI_nat (by rw [List.getElem?_map, List.getElem?_eq_getElem hn]; rfl), k B2 H2 _ xs R2 s2 h1 h2⟩

/-! ### displays -/
theorem ev_tup {k} (h : EA X es p ρ ds ρ1) (hz : ds.length ≤ 100000 := by decide) : EV X (.Tuple es k pos) p ρ (.tup ds) ρ1 := PE.imp (pe_tup h) fun σ H Q ⟨w, B, R, k⟩ => ⟨w, B, R, fun B1 H1 vs R1 s1 r1 => by
  have hz1 : ds.length ≤ sizeLine := Nat.le_trans hz (by decide)
  refine ⟨by rw [r1.len]; exact hz1, fun t ht => ?_⟩
  have g := Grow.lay (o := .tup vs) R1.ext ht
  exact k _ _ _ (R1.grow g) (s1.add g) (.tup upd_same (r1.mono g.b))⟩
theorem en_lst (h : EA X es p ρ ds ρ1) (hz : ds.length ≤ 100000 := by decide) : EN X (.List es pos) p ρ ds ρ1 := PE.imp (pe_lst h) fun σ H Q ⟨w, B, R, k⟩ => ⟨w, B, R, fun B1 H1 vs R1 s1 r1 => by
  have hz1 : ds.length ≤ sizeLine := Nat.le_trans hz (by decide)
  refine ⟨by rw [r1.len]; exact hz1, fun t ht => ?_⟩
  have g := Grow.make (o := .lst vs) R1.ext ht
  have f := Fresh.of R1 ht
  exact k _ _ _ vs (R1.grow g) (s1.add g) (s1.free ht) f upd_same (r1.mono g.b)⟩
theorem ev_lst (h : EA X es p ρ ds ρ1) (hz : ds.length ≤ 100000 := by decide) : EV X (.List es pos) p ρ (.lst ds) ρ1 := ev_ofN (en_lst h hz)

/-! ### what a rule on values makes anew -/
/-- a list made of two values -/
def VNew (K : PySem.W.Frag) (r : R2) (x y : D) (ds : List D) : Prop := ∀ B H v u Q, Same B H → Rep K B v x → Rep K B u y → (∀ H' t xs, Grow B H B H' → H t = none → H' t = some (.lst xs) → Reps K B xs ds → Q (.ref t) H') → r v u H Q
theorem en_bin {op : Operator} {r : R2} (ho : OpR X (binaryOp op) r) (h : VNew X.K r x y ds) (ha : EV X a p ρ x ρ1) (hb : EV X b q ρ1 y ρ2) : EN X (.BinOp a op b pos) (p && q) ρ ds ρ2 := PE.imp (pe_op ho ha hb) fun σ H Q ⟨w, B, R, k⟩ =>
  ⟨w, B, R, fun B1 H1 v R1 s1 r1 => ⟨w, B1, R1, fun B2 H2 v2 R2 s2 r2 => h B2 H2 v v2 Q R2.ext (r1.mono s2.b) r2 fun H3 t xs g ht e r => by
    have f := Fresh.of R2 ht
    exact k B2 H3 t xs (R2.grow g) ((s1.trans s2).add g) ((s1.trans s2).free ht) f e r⟩⟩
theorem vcat (hz : ds.length + ds'.length ≤ 16777216) : VNew K rCat (.lst ds) (.lst ds') (ds ++ ds') := fun B H v u Q e rv ru k => by
  cases rv with
  | lst hb r =>
    cases ru with
    | lst hb' r' =>
      refine ⟨_, _, _, _, rfl, rfl, e _ _ hb, e _ _ hb', ?_, fun t ht => k _ t _ (Grow.make e ht) ht upd_same (r.append r')⟩
      rw [r.len, r'.len, sizeLine_eq]
      exact hz
/-- xs + ys -/
theorem en_cat (ha : EV X a p ρ (.lst ds) ρ1) (hb : EV X b q ρ1 (.lst ds') ρ2) (hz : ds.length + ds'.length ≤ 16777216) : EN X (.BinOp a .Add b pos) (p && q) ρ (ds ++ ds') ρ2 := en_bin op_cat (vcat hz) ha hb
theorem ev_cat (ha : EV X a p ρ (.lst ds) ρ1) (hb : EV X b q ρ1 (.lst ds') ρ2) (hz : ds.length + ds'.length ≤ 16777216) : EV X (.BinOp a .Add b pos) (p && q) ρ (.lst (ds ++ ds')) ρ2 := ev_ofN (en_cat ha hb hz)
/-- xs * n -/
theorem vrep (h0 : 0 ≤ i) (hz : ds.length * i.toNat ≤ 16777216) (h1 : i ≤ 16777216) : VNew K rRep (.lst ds) (.int i) (List.replicate i.toNat ds).flatten := fun B H v u Q e rv ru k => by
  cases ru
  cases rv with
  | lst hb r =>
    refine ⟨_, i, _, rfl, rfl, e _ _ hb, by omega, by omega, ?_, fun t ht => k _ t _ (Grow.make e ht) ht upd_same r.flat⟩
    rw [r.len, sizeLine_eq]
    exact hz
theorem en_rep (ha : EV X a p ρ (.lst ds) ρ1) (hb : EV X b q ρ1 (.int i) ρ2) (h0 : 0 ≤ i) (h1 : i ≤ 16777216) (hz : ds.length * i.toNat ≤ 16777216) : EN X (.BinOp a .Mult b pos) (p && q) ρ (List.replicate i.toNat ds).flatten ρ2 := en_bin op_rep (vrep h0 hz h1) ha hb
/-- [x] * n -/
theorem en_rep1 (ha : EV X a p ρ (.lst [z]) ρ1) (hb : EV X b q ρ1 (.int i) ρ2) (h0 : 0 ≤ i) (h1 : i ≤ 16777216) : EN X (.BinOp a .Mult b pos) (p && q) ρ (List.replicate i.toNat z) ρ2 :=
  en_is (en_rep ha hb h0 h1 (by simp; omega)) (by induction i.toNat with
    | zero => rfl
    | succ n ih => rw [List.replicate_succ, List.replicate_succ, List.flatten_cons, ih]; rfl)
/-- t + u, tuples -/
theorem vcatT (hz : ds.length + ds'.length ≤ 16777216) : VOp K (rCatA K) (.tup ds) (.tup ds') (.tup (ds ++ ds')) := fun B H v u Q e rv ru k => by
  cases rv with
  | @tup a0 xs0 _ hb r =>
    cases ru with
    | @tup a1 xs1 _ hb' r' =>
      refine ⟨_, _, _, _, rfl, rfl, SqT.of (e _ _ hb), SqT.of (e _ _ hb'), ?_, fun h => ?_, fun _ h => ?_, fun _ _ t ht => ?_⟩
      · rw [r.len, r'.len, sizeLine_eq]
        exact hz
      · subst h
        cases r
        exact k B H _ (Grow.refl e) (.tup hb' r')
      · subst h
        cases r'
        rw [List.append_nil] at k
        exact k B H _ (Grow.refl e) (.tup hb r)
      · have g := Grow.lay (o := .tup (xs0 ++ xs1)) e ht
        exact k _ _ _ g (.tup upd_same ((r.append r').mono g.b))
theorem ev_catT (ha : EV X a p ρ (.tup ds) ρ1) (hb : EV X b q ρ1 (.tup ds') ρ2) (hz : ds.length + ds'.length ≤ 16777216) : EV X (.BinOp a .Add b pos) (p && q) ρ (.tup (ds ++ ds')) ρ2 := ev_bin op_catA (vcatT hz) ha hb

/-! ### built-ins by name -/
section
variable {x : Str} {id T : String} {r : List V → Hp → VK → Prop} {pp : Pos}
theorem ev_callB (hc : CallR X (.builtin id) r) (h : VCall X.K r ds z) (hm : X.mg x = none) (hv : bootBuiltins x = some (.builtin id)) (ha : EA X (e :: es) p ρ ds ρ1) (hg : Gl X x := by rfl) (hn : x ≠ "__name__" := by decide) (hdb : (x == ("__debug__" : Str)) = false := by decide)
    (he : starEach (e :: es) X.env = (false, eval e X.env) :: starEach es X.env := by rfl) (hpl : (backTo pos (starEach es X.env)).any (·.1) = false := by rfl) : EV X (.Call (.Name x pp) (e :: es) [] pos) p ρ z ρ1 :=
  PE.imp (pe_callB hc hg hm hv ha hn hdb he hpl) fun σ H Q ⟨w, B, R, k⟩ => ⟨w, B, R, fun B1 H1 vs R1 s1 r1 => h B1 H1 vs Q R1.ext r1 fun B2 H2 t g r2 => k B2 H2 t (R1.grow g) (s1.add g) r2⟩
theorem ev_callTy (hc : CallR X (.type T) r) (h : VCall X.K r ds z) (hm : X.mg x = none) (hv : bootBuiltins x = some (.type T)) (ha : EA X (e :: es) p ρ ds ρ1) (hg : Gl X x := by rfl) (hn : x ≠ "__name__" := by decide) (hdb : (x == ("__debug__" : Str)) = false := by decide)
    (he : starEach (e :: es) X.env = (false, eval e X.env) :: starEach es X.env := by rfl) (hpl : (backTo pos (starEach es X.env)).any (·.1) = false := by rfl) : EV X (.Call (.Name x pp) (e :: es) [] pos) p ρ z ρ1 :=
  PE.imp (pe_callTy hc hg hm hv ha hn hdb he hpl) fun σ H Q ⟨w, B, R, k⟩ => ⟨w, B, R, fun B1 H1 vs R1 s1 r1 => h B1 H1 vs Q R1.ext r1 fun B2 H2 t g r2 => k B2 H2 t (R1.grow g) (s1.add g) r2⟩
/-- of a list for the moment -/
def VCallL (K : PySem.W.Frag) (r : List V → Hp → VK → Prop) (xs : List D) (z : D) : Prop := ∀ B H a vs Q, Same B H → H a = some (.lst vs) → Reps K B vs xs → (∀ B' H' t, Grow B H B' H' → Rep K B' t z → Q t H') → r [.ref a] H Q
def VNewL (K : PySem.W.Frag) (r : List V → Hp → VK → Prop) (xs : List D) (zs : List D) : Prop := ∀ B H a vs Q, Same B H → H a = some (.lst vs) → Reps K B vs xs → (∀ H' t ys, Grow B H B H' → H t = none → H' t = some (.lst ys) → Reps K B ys zs → Q (.ref t) H') → r [.ref a] H Q
theorem callL_red {r : List V → Hp → VK → Prop} (h : VCallL X.K r ds z) : ∀ σ H Q, tEV X.K p ρ z ρ1 σ H Q → tCB r (tCons (tEL X.K p ρ ds ρ1) tNil) σ H Q := fun σ H Q ⟨w, B, R, k⟩ =>
  ⟨w, B, R, fun B1 H1 a vs R1 s1 ea r1 => h B1 H1 a vs Q R1.ext ea r1 fun B2 H2 t g r2 => k B2 H2 t (R1.grow g) (s1.add g) r2⟩
theorem newL_red {r : List V → Hp → VK → Prop} {zs : List D} (h : VNewL X.K r ds zs) : ∀ σ H Q, tEN X.K p ρ zs ρ1 σ H Q → tCB r (tCons (tEL X.K p ρ ds ρ1) tNil) σ H Q := fun σ H Q ⟨w, B, R, k⟩ =>
  ⟨w, B, R, fun B1 H1 a vs R1 s1 ea r1 => h B1 H1 a vs Q R1.ext ea r1 fun H2 t ys g ht e2 r2 => by
    have f := Fresh.of R1 ht
    exact k B1 H2 t ys (R1.grow g) (s1.add g) (s1.free ht) f e2 r2⟩
theorem ev_callBL (hc : CallR X (.builtin id) r) (h : VCallL X.K r ds z) (hm : X.mg x = none) (hv : bootBuiltins x = some (.builtin id)) (ha : EL X e p ρ ds ρ1) (hg : Gl X x := by rfl) (hn : x ≠ "__name__" := by decide) (hdb : (x == ("__debug__" : Str)) = false := by decide)
    (he : starEach [e] X.env = (false, eval e X.env) :: starEach [] X.env := by rfl) (hpl : (backTo pos (starEach [] X.env)).any (·.1) = false := by rfl) : EV X (.Call (.Name x pp) [e] [] pos) p ρ z ρ1 :=
  PE.imp (pe_callB hc hg hm hv (pa_cons ha pa_nil he) hn hdb he hpl) (callL_red h)
theorem ev_callTyL (hc : CallR X (.type T) r) (h : VCallL X.K r ds z) (hm : X.mg x = none) (hv : bootBuiltins x = some (.type T)) (ha : EL X e p ρ ds ρ1) (hg : Gl X x := by rfl) (hn : x ≠ "__name__" := by decide) (hdb : (x == ("__debug__" : Str)) = false := by decide)
    (he : starEach [e] X.env = (false, eval e X.env) :: starEach [] X.env := by rfl) (hpl : (backTo pos (starEach [] X.env)).any (·.1) = false := by rfl) : EV X (.Call (.Name x pp) [e] [] pos) p ρ z ρ1 :=
  PE.imp (pe_callTy hc hg hm hv (pa_cons ha pa_nil he) hn hdb he hpl) (callL_red h)
theorem en_callBL {zs : List D} (hc : CallR X (.builtin id) r) (h : VNewL X.K r ds zs) (hm : X.mg x = none) (hv : bootBuiltins x = some (.builtin id)) (ha : EL X e p ρ ds ρ1) (hg : Gl X x := by rfl) (hn : x ≠ "__name__" := by decide) (hdb : (x == ("__debug__" : Str)) = false := by decide)
    (he : starEach [e] X.env = (false, eval e X.env) :: starEach [] X.env := by rfl) (hpl : (backTo pos (starEach [] X.env)).any (·.1) = false := by rfl) : EN X (.Call (.Name x pp) [e] [] pos) p ρ zs ρ1 :=
  PE.imp (pe_callB hc hg hm hv (pa_cons ha pa_nil he) hn hdb he hpl) (newL_red h)
theorem en_callTyL {zs : List D} (hc : CallR X (.type T) r) (h : VNewL X.K r ds zs) (hm : X.mg x = none) (hv : bootBuiltins x = some (.type T)) (ha : EL X e p ρ ds ρ1) (hg : Gl X x := by rfl) (hn : x ≠ "__name__" := by decide) (hdb : (x == ("__debug__" : Str)) = false := by decide)
    (he : starEach [e] X.env = (false, eval e X.env) :: starEach [] X.env := by rfl) (hpl : (backTo pos (starEach [] X.env)).any (·.1) = false := by rfl) : EN X (.Call (.Name x pp) [e] [] pos) p ρ zs ρ1 :=
  PE.imp (pe_callTy hc hg hm hv (pa_cons ha pa_nil he) hn hdb he hpl) (newL_red h)
end
section
variable {pp : Pos}
/-- len of a list for the moment, of a tuple -/
theorem ev_lenL (hm : X.mg "len" = none) (ha : EL X e p ρ ds ρ1) (hg : Gl X "len" := by rfl) (he : starEach [e] X.env = (false, eval e X.env) :: starEach [] X.env := by rfl) : EV X (.Call (.Name "len" pp) [e] [] pos) p ρ (.int (ds.length : Nat)) ρ1 :=
  ev_callBL call_len_seq (fun B H a vs Q e ea r k => ⟨a, vs, rfl, .inl (SqL.of ea), by rw [r.len]; exact k B H _ (Grow.refl e) (.int _)⟩) hm PySem.boot_len ha hg (by decide) (by decide) he rfl
theorem ev_lenT (hm : X.mg "len" = none) (ha : EV X e p ρ (.tup ds) ρ1) (hg : Gl X "len" := by rfl) (he : starEach [e] X.env = (false, eval e X.env) :: starEach [] X.env := by rfl) : EV X (.Call (.Name "len" pp) [e] [] pos) (p && true) ρ (.int (ds.length : Nat)) ρ1 :=
  ev_callB call_len_seq (fun B H vs Q e r k => by
    cases r with
    | cons r rr =>
      cases rr
      cases r with
      | tup hb r => exact ⟨_, _, rfl, .inr (SqT.of (e _ _ hb)), by rw [r.len]; exact k B H _ (Grow.refl e) (.int _)⟩) hm PySem.boot_len (ea_cons ha ea_nil he) hg (by decide) (by decide) he rfl
/-- int(n), int(flag) -/
theorem ev_intI (hm : X.mg "int" = none) (ha : EV X e p ρ (.int i) ρ1) (hg : Gl X "int" := by rfl) (he : starEach [e] X.env = (false, eval e X.env) :: starEach [] X.env := by rfl) : EV X (.Call (.Name "int" pp) [e] [] pos) (p && true) ρ (.int i) ρ1 :=
  ev_callTy call_int1 (fun B H vs Q e r k => by
    cases r with
    | cons r rr =>
      cases rr
      cases r
      exact .inl ⟨i, rfl, k B H _ (Grow.refl e) (.int _)⟩) hm (by decide +kernel) (ea_cons ha ea_nil he) hg (by decide) (by decide) he rfl
theorem ev_intB {k : Bool} (hm : X.mg "int" = none) (ha : EV X e p ρ (.bl k) ρ1) (hg : Gl X "int" := by rfl) (he : starEach [e] X.env = (false, eval e X.env) :: starEach [] X.env := by rfl) : EV X (.Call (.Name "int" pp) [e] [] pos) (p && true) ρ (.int (if k then 1 else 0)) ρ1 :=
  ev_callTy call_int1 (fun B H vs Q e r kk => by
    cases r with
    | cons r rr =>
      cases rr
      cases r
      exact .inr ⟨k, rfl, kk B H _ (Grow.refl e) (.int _)⟩) hm (by decide +kernel) (ea_cons ha ea_nil he) hg (by decide) (by decide) he rfl
/-- tuple(xs), list(xs) -/
theorem ev_tupleL (hm : X.mg "tuple" = none) (ha : EL X e p ρ ds ρ1) (hg : Gl X "tuple" := by rfl) (he : starEach [e] X.env = (false, eval e X.env) :: starEach [] X.env := by rfl) : EV X (.Call (.Name "tuple" pp) [e] [] pos) p ρ (.tup ds) ρ1 :=
  ev_callTyL call_tuple_of (fun B H a vs Q e ea r k => ⟨a, vs, rfl, .inl ⟨SqL.of ea, fun l hl => by
    have g := Grow.lay (o := .tup vs) e hl
    exact k _ _ _ g (.tup upd_same (r.mono g.b))⟩⟩) hm (by decide +kernel) ha hg (by decide) (by decide) he rfl
theorem ev_tupleT (hm : X.mg "tuple" = none) (ha : EV X e p ρ (.tup ds) ρ1) (hg : Gl X "tuple" := by rfl) (he : starEach [e] X.env = (false, eval e X.env) :: starEach [] X.env := by rfl) : EV X (.Call (.Name "tuple" pp) [e] [] pos) (p && true) ρ (.tup ds) ρ1 :=
  ev_callTy call_tuple_of (fun B H vs Q e r k => by
    cases r with
    | cons r rr =>
      cases rr
      cases r with
      | tup hb r => exact ⟨_, _, rfl, .inr ⟨SqT.of (e _ _ hb), k B H _ (Grow.refl e) (.tup hb r)⟩⟩) hm (by decide +kernel) (ea_cons ha ea_nil he) hg (by decide) (by decide) he rfl
theorem en_listL (hm : X.mg "list" = none) (ha : EL X e p ρ ds ρ1) (hg : Gl X "list" := by rfl) (he : starEach [e] X.env = (false, eval e X.env) :: starEach [] X.env := by rfl) : EN X (.Call (.Name "list" pp) [e] [] pos) p ρ ds ρ1 :=
  en_callTyL call_list_of (fun B H a vs Q e ea r k => ⟨a, vs, rfl, .inl (SqL.of ea), fun l hl => k _ l vs (Grow.make e hl) hl upd_same r⟩) hm (by decide +kernel) ha hg (by decide) (by decide) he rfl
theorem en_listT (hm : X.mg "list" = none) (ha : EV X e p ρ (.tup ds) ρ1) (hg : Gl X "list" := by rfl) (he : starEach [e] X.env = (false, eval e X.env) :: starEach [] X.env := by rfl) : EN X (.Call (.Name "list" pp) [e] [] pos) p ρ ds ρ1 :=
  PE.imp (L2.pe_callTy call_list_of hg hm (by decide +kernel) (pa_cons ha pa_nil he) (by decide) (by decide) he rfl) fun σ H Q ⟨w, B, R, k⟩ => ⟨w, B, R, fun B1 H1 v R1 s1 r1 => by
    cases r1 with
    | @tup a0 xs0 _ hb r =>
      refine ⟨_, _, rfl, .inr (SqT.of (R1.ext _ _ hb)), fun l hl => ?_⟩
      have f := Fresh.of R1 hl
      have g := Grow.make (o := .lst xs0) R1.ext hl
      exact k B1 _ l _ (R1.grow g) (s1.add g) (s1.free hl) f upd_same r⟩
/-- list(range(n)) -/
theorem rgV0 (n : Int) : rgV 0 n = ((List.range n.toNat).map fun (i : Nat) => (i : Int)).map V.int := by
  unfold rgV
  rw [List.map_map, Int.sub_zero]
  apply List.map_congr_left
  intro i _
  show V.int (0 + (i : Nat)) = _
  rw [Int.zero_add]
  rfl
theorem en_listR {a : Expr} {p2 pos2 : Pos} {n : Int} (hc : X.calm = true) (hm : X.mg "list" = none) (hm2 : X.mg "range" = none) (ha : EV X a p ρ (.int n) ρ1) (h0 : 0 ≤ n) (h1 : n ≤ 16777216) (hg : Gl X "list" := by rfl) (hg2 : Gl X "range" := by rfl)
    (na : starEach [a] X.env = (false, eval a X.env) :: starEach [] X.env := by rfl) (he : starEach [Expr.Call (.Name "range" p2) [a] [] pos2] X.env = (false, eval (Expr.Call (.Name "range" p2) [a] [] pos2) X.env) :: starEach [] X.env := by rfl) :
    EN X (.Call (.Name "list" pp) [.Call (.Name "range" p2) [a] [] pos2] [] pos) p ρ (((List.range n.toNat).map fun (i : Nat) => (i : Int)).map D.int) ρ1 :=
  PE.imp (pe_listRg hc hg hm (prg_1 hg2 hm2 ha na) he) fun σ H Q ⟨w, B, R, k⟩ => ⟨w, B, R, fun B1 H1 v R1 s1 r1 => by
    cases r1
    refine ⟨n, rfl, RgOk.of_le (Int.le_refl _) h1 (by decide) h0, fun l hl => ?_⟩
    have f := Fresh.of R1 hl
    have g := Grow.make (o := .lst (rgV 0 n)) R1.ext hl
    exact k B1 _ l _ (R1.grow g) (s1.add g) (s1.free hl) f upd_same (by rw [rgV0]; exact Reps.ofInts _)⟩
/-- sum, all, any -/
theorem ev_sumL {ns : List Int} (hc : X.calm = true) (hm : X.mg "sum" = none) (ha : EL X e p ρ (ns.map D.int) ρ1) (hg : Gl X "sum" := by rfl) (he : starEach [e] X.env = (false, eval e X.env) :: starEach [] X.env := by rfl) : EV X (.Call (.Name "sum" pp) [e] [] pos) p ρ (.int ns.sum) ρ1 :=
  ev_callBL (cr_sum hc) (fun B H a vs Q e ea r k => ⟨a, ns, rfl, by rw [← r.ints]; exact SqL.of ea, k B H _ (Grow.refl e) (.int _)⟩) hm (by decide +kernel) ha hg (by decide) (by decide) he rfl
theorem ev_allL {bs : List Bool} (hc : X.calm = true) (hm : X.mg "all" = none) (ha : EL X e p ρ (bs.map D.bl) ρ1) (hg : Gl X "all" := by rfl) (he : starEach [e] X.env = (false, eval e X.env) :: starEach [] X.env := by rfl) : EV X (.Call (.Name "all" pp) [e] [] pos) p ρ (.bl (bs.all id)) ρ1 :=
  ev_callBL (cr_all hc) (fun B H a vs Q e ea r k => ⟨a, bs, rfl, by rw [← r.bls]; exact SqL.of ea, k B H _ (Grow.refl e) (.bl _)⟩) hm (by decide +kernel) ha hg (by decide) (by decide) he rfl
theorem ev_anyL {bs : List Bool} (hc : X.calm = true) (hm : X.mg "any" = none) (ha : EL X e p ρ (bs.map D.bl) ρ1) (hg : Gl X "any" := by rfl) (he : starEach [e] X.env = (false, eval e X.env) :: starEach [] X.env := by rfl) : EV X (.Call (.Name "any" pp) [e] [] pos) p ρ (.bl (bs.any id)) ρ1 :=
  ev_callBL (cr_any hc) (fun B H a vs Q e ea r k => ⟨a, bs, rfl, by rw [← r.bls]; exact SqL.of ea, k B H _ (Grow.refl e) (.bl _)⟩) hm (by decide +kernel) ha hg (by decide) (by decide) he rfl
/-- max, min of two ints -/
theorem ev_max2 {b : Expr} (hc : X.calm = true) (hm : X.mg "max" = none) (ha : EV X e p ρ (.int i) ρ1) (hb : EV X b q ρ1 (.int j) ρ2) (hg : Gl X "max" := by rfl) (he : starEach [e, b] X.env = (false, eval e X.env) :: starEach [b] X.env := by rfl)
    (he2 : starEach [b] X.env = (false, eval b X.env) :: starEach [] X.env := by rfl) (hpl : (backTo pos (starEach [b] X.env)).any (·.1) = false := by rfl) : EV X (.Call (.Name "max" pp) [e, b] [] pos) (p && (q && true)) ρ (.int (if j > i then j else i)) ρ2 :=
  ev_callB (call_max2 hc) (fun B H vs Q e r k => by
    cases r with
    | cons r rr =>
      cases rr with
      | cons r' rr =>
        cases rr
        cases r
        cases r'
        exact ⟨i, j, rfl, k B H _ (Grow.refl e) (.int _)⟩) hm (by decide +kernel) (ea_cons ha (ea_cons hb ea_nil he2) he) hg (by decide) (by decide) he hpl
theorem ev_min2 {b : Expr} (hc : X.calm = true) (hm : X.mg "min" = none) (ha : EV X e p ρ (.int i) ρ1) (hb : EV X b q ρ1 (.int j) ρ2) (hg : Gl X "min" := by rfl) (he : starEach [e, b] X.env = (false, eval e X.env) :: starEach [b] X.env := by rfl)
    (he2 : starEach [b] X.env = (false, eval b X.env) :: starEach [] X.env := by rfl) (hpl : (backTo pos (starEach [b] X.env)).any (·.1) = false := by rfl) : EV X (.Call (.Name "min" pp) [e, b] [] pos) (p && (q && true)) ρ (.int (if j < i then j else i)) ρ2 :=
  ev_callB (call_min2 hc) (fun B H vs Q e r k => by
    cases r with
    | cons r rr =>
      cases rr with
      | cons r' rr =>
        cases rr
        cases r
        cases r'
        exact ⟨i, j, rfl, k B H _ (Grow.refl e) (.int _)⟩) hm (by decide +kernel) (ea_cons ha (ea_cons hb ea_nil he2) he) hg (by decide) (by decide) he hpl
end
end
end G

set_option Elab.async false
set_option maxRecDepth 100000
set_option linter.all false
/-! G4: promises of defs by data, their calls, statements, loops, comprehensions. -/
namespace G
open PySem L2 PyProof.Rows
/-! ### promises -/
/-- arguments by value in, a value out, nothing changed -/
abbrev CP := List D → (D → Prop) → Prop
def spP (K : PySem.W.Frag) (C : CP) : Sp := fun vs H Q _ => ∃ B ds R, C ds R ∧ Same B H ∧ Reps K B vs ds ∧ ∀ B' H' v d, Grow B H B' H' → R d → Rep K B' v d → Q v H'
/-- the first argument a list that is lent -/
abbrev CM := List D → List D → (D → List D → Prop) → Prop
/-- things were made, the list at a was changed -/
structure GrowM (a : Addr) (B H B' H' : Hp) : Prop where
  b : Same B B'
  ext : Same B' H'
  fr : ∀ x o, H x = some o → x ≠ a → H' x = some o
  dom : ∀ x, H x ≠ none → H' x ≠ none
  new : ∀ x o, B' x = some o → B x = some o ∨ H x = none
  na : B' a = none
def spM (K : PySem.W.Frag) (C : CM) : Sp := fun vs H Q _ => ∃ B a us xs ws ds R, vs = .ref a :: us ∧ C ws ds R ∧ Same B H ∧ Reps K B us ds ∧ H a = some (.lst xs) ∧ B a = none ∧ Reps K B xs ws ∧
  ∀ B' H' v d xs' ws', GrowM a B H B' H' → H' a = some (.lst xs') → Reps K B' xs' ws' → R d ws' → Rep K B' v d → Q v H'

structure DEnds where
  nx : Rho → Prop
  rt : D → Rho → Prop
  bk : Rho → Prop := fun _ => False
  ct : Rho → Prop := fun _ => False
  W : WX := fun _ _ _ _ => False
  ex : Value → Option (List (Str × D)) → Rho → Prop := fun _ _ _ => False
/-- what an exception bears -/
def PayOk (K : PySem.W.Frag) (B : Hp) : Option (List (Str × D)) → Option Addr → Prop
  | none, d => d = none
  | some fs, d => ∃ dd vs, d = some dd ∧ B dd = some (.xd vs) ∧ RepF K B vs fs
/-- what is wanted behind a statement, by data; from a state whose frozen part is B -/
structure Go (K : PySem.W.Frag) (n : Nat) (w : Wd) (B : Hp) (DD : DEnds) (E : Ends) : Prop where
  nx : ∀ ρ' σ' B' H', DD.nx ρ' → SR K w B' H' σ' ρ' → Same B B' → σ'.length = n → E.nx σ' H'
  rt : ∀ d ρ' σ' B' H' v, DD.rt d ρ' → SR K w B' H' σ' ρ' → Rep K B' v d → E.rt v H'
  bk : ∀ ρ' σ' B' H', DD.bk ρ' → SR K w B' H' σ' ρ' → Same B B' → σ'.length = n → E.bk σ' H'
  ct : ∀ ρ' σ' B' H', DD.ct ρ' → SR K w B' H' σ' ρ' → Same B B' → σ'.length = n → E.ct σ' H'
  ex : ∀ cls pay ρ' σ' B' H' d, DD.ex cls pay ρ' → SR K w B' H' σ' ρ' → Same B B' → σ'.length = n → PayOk K B' pay d → DD.W cls d σ' H'
theorem Go.mono {K : PySem.W.Frag} {n : Nat} {w : Wd} {B B1 : Hp} {DD : DEnds} {E : Ends} (g : Go K n w B DD E) (s : Same B B1) : Go K n w B1 DD E :=
  ⟨fun ρ' σ' B' H' h R e l => g.nx ρ' σ' B' H' h R (s.trans e) l, g.rt, fun ρ' σ' B' H' h R e l => g.bk ρ' σ' B' H' h R (s.trans e) l, fun ρ' σ' B' H' h R e l => g.ct ρ' σ' B' H' h R (s.trans e) l, fun cls pay ρ' σ' B' H' d h R e l po => g.ex cls pay ρ' σ' B' H' d h R (s.trans e) l po⟩
def tST (K : PySem.W.Frag) (n : Nat) (ρ : Rho) (DD : DEnds) : TS := fun E σ H => ∃ w B, SR K w B H σ ρ ∧ σ.length = n ∧ Go K n w B DD E
abbrev ST (X : Cx) (ss : List Stmt) (ρ : Rho) (DD : DEnds) : Prop := PSs X ss (tST X.K X.N.length ρ DD)
abbrev S1 (X : Cx) (s : Stmt) (ρ : Rho) (DD : DEnds) : Prop := PS X s (tST X.K X.N.length ρ DD)

theorem map_get {α β : Type} {f : α → β} {l : List α} {i : Nat} {y : β} (h : (l.map f)[i]? = some y) : ∃ x, l[i]? = some x ∧ y = f x := by
  rw [List.getElem?_map] at h
  cases e : l[i]? with
  | none => rw [e] at h; cases h
  | some x => rw [e] at h; cases h; exact ⟨x, rfl, rfl⟩
section
variable {K : PySem.W.Frag} {B H : Hp}
/-- the slots at a call: frozen arguments -/
theorem SR.args {vs : List V} {ds : List D} (e : Same B H) (r : Reps K B vs ds) : SR K ⟨B, H, []⟩ B H (vs.map some) (ds.map .fr) := by
  have nf : ∀ (i : Nat) (s : Slot), (ds.map Slot.fr)[i]? = some s → s.foot = [] ∧ ∃ d, s = .fr d ∧ ds[i]? = some d := fun i s h => by
    obtain ⟨d, h1, rfl⟩ := map_get h
    exact ⟨rfl, d, rfl, h1⟩
  refine ⟨e, Same.refl B, fun a o h _ => h, fun a h => h, fun a o h => .inl h, by rw [List.length_map, List.length_map]; exact r.len, fun i s h => ?_, fun i j s t _ h _ b hb => ?_, fun i s h b hb => ?_, fun i a v h => ?_, fun i a v h => ?_⟩
  · obtain ⟨_, d, rfl, h1⟩ := nf i s h
    obtain ⟨v, h2, h3⟩ := r.get h1
    exact ⟨v, by rw [List.getElem?_map, h2]; rfl, h3⟩
  · rw [(nf i s h).1] at hb; cases hb
  · rw [(nf i s h).1] at hb; cases hb
  · obtain ⟨_, d, e, _⟩ := nf i _ h; cases e
  · obtain ⟨_, d, e, _⟩ := nf i _ h; cases e
theorem SR.argsM {vs : List V} {ds ws : List D} {a : Addr} {xs : List V} (e : Same B H) (r : Reps K B vs ds) (ha : H a = some (.lst xs)) (hb : B a = none) (rw' : Reps K B xs ws) :
    SR K ⟨B, H, [a]⟩ B H ((V.ref a :: vs).map some) (.pr a (.l ws) :: ds.map .fr) := by
  have nf : ∀ (i : Nat) (s : Slot), (Slot.pr a (.l ws) :: ds.map Slot.fr)[i]? = some s → (i = 0 ∧ s = .pr a (.l ws)) ∨ (s.foot = [] ∧ ∃ d j, i = j + 1 ∧ s = .fr d ∧ ds[j]? = some d) := fun i s h => by
    cases i with
    | zero => cases h; exact .inl ⟨rfl, rfl⟩
    | succ j =>
      obtain ⟨d, h1, rfl⟩ := map_get (show (ds.map Slot.fr)[j]? = some s by simpa using h)
      exact .inr ⟨rfl, d, j, rfl, rfl, h1⟩
  refine ⟨e, Same.refl B, fun a o h _ => h, fun a h => h, fun a o h => .inl h, by simp [r.len], fun i s h => ?_, fun i j s t n h h' b hb hc => ?_, fun i s h b hb' => ?_, fun i c v h => ?_, fun i c v h b hb' => ?_⟩
  · rcases nf i s h with ⟨rfl, rfl⟩ | ⟨_, d, j, rfl, rfl, h1⟩
    · exact ⟨rfl, xs, ha, rw'⟩
    · obtain ⟨v, h2, h3⟩ := r.get h1
      exact ⟨v, by rw [List.map_cons, List.getElem?_cons_succ, List.getElem?_map, h2]; rfl, h3⟩
  · rcases nf i s h with ⟨rfl, rfl⟩ | ⟨z, _⟩
    · rcases nf j t h' with ⟨rfl, rfl⟩ | ⟨z, _⟩
      · exact n rfl
      · rw [z] at hc; cases hc
    · rw [z] at hb; cases hb
  · rcases nf i s h with ⟨rfl, rfl⟩ | ⟨z, _⟩
    · have q : b = a := by simpa [Slot.foot, W.foot] using hb'
      rw [q]; exact hb
    · rw [z] at hb'; cases hb'
  · rcases nf i _ h with ⟨_, z⟩ | ⟨_, _, _, _, z, _⟩ <;> cases z
  · rcases nf i _ h with ⟨_, z⟩ | ⟨_, _, _, _, z, _⟩
    · cases z
      simpa [W.foot] using hb'
    · cases z
/-- slots without a value behind the arguments -/
theorem SR.pad {w : Wd} {σ : L2.St} {ρ : Rho} {n m : Nat} (R : SR K w B H σ ρ) (hl : σ.length = ρ.length) (hm : n = m) : SR K w B H (σ ++ List.replicate n none) (ρ ++ List.replicate m .un) := by
  have g : ∀ (i : Nat) (s : Slot), (ρ ++ List.replicate m Slot.un)[i]? = some s → s = .un ∨ (i < ρ.length ∧ ρ[i]? = some s) := fun i s h => by
    by_cases hi : i < ρ.length
    · rw [List.getElem?_append_left hi] at h; exact .inr ⟨hi, h⟩
    · rw [List.getElem?_append_right (by omega), List.getElem?_replicate] at h
      split at h
      · cases h; exact .inl rfl
      · cases h
  refine ⟨R.ext, R.ex0, R.frame, R.dom, R.new, by rw [List.length_append, List.length_append, List.length_replicate, List.length_replicate, hl, hm], fun i s h => ?_, fun i j s t n h h' b hb hc => ?_, fun i s h b hb => ?_, fun i a v h => ?_, fun i a v h => ?_⟩
  · rcases g i s h with rfl | ⟨hi, h⟩
    · trivial
    · rw [List.getElem?_append_left (by omega)]; exact R.ok i s h
  · rcases g i s h with rfl | ⟨_, h⟩
    · cases hb
    · rcases g j t h' with rfl | ⟨_, h'⟩
      · cases hc
      · exact R.apart i j s t n h h' b hb hc
  · rcases g i s h with rfl | ⟨_, h⟩
    · cases hb
    · exact R.sep i s h b hb
  · rcases g i _ h with z | ⟨_, h⟩
    · cases z
    · exact R.own i a v h
  · rcases g i _ h with z | ⟨_, h⟩
    · cases z
    · exact R.par i a v h
theorem SR.grown {σ : L2.St} {ρ : Rho} {B' H' : Hp} (R : SR K ⟨B, H, []⟩ B' H' σ ρ) : Grow B H B' H' := ⟨R.ex0, fun a o h => R.frame a o h (by simp), R.ext, R.new⟩
end

/-! ### a def's own proof -/
section
variable {P : Program} {w : World} {K : PySem.W.Frag} {mg : Str → Option Value} {base : Heap}
theorem fnP {x qual : Str} {st : Stmt} {f : Addr} {fd : FuncData} {N ps : List Str} {k : Nat} {C : CP} (F : Fun K x qual st f fd) (S : FnScope N ps (defScope st)) (len : ∀ ds R, C ds R → ds.length = ps.length)
    (body : ∀ (cdv : Value) (A : Around) (outer : List Env) (s : Shared) (H : Hp) (E : XK) (ds : List D) (R : D → Prop), Room k (A.deeper (envOfC qual (defScope st) s.heap.objs.size f cdv)) → C ds R →
      ST (cxOf CX0 P w K mg base N qual (defScope st) f cdv A outer s H E).nox (defBody st) (ds.map .fr ++ List.replicate (N.length - ds.length) .un) { nx := fun _ => R .non, rt := fun d _ => R d }) : FnOk P w K mg base CX0 (k + 1) f fd ps (spP K C) := by
  refine F.ok S (fun vs H Q E h => ?_) (fun cdv A outer s H vs Q E hr h => ?_)
  · obtain ⟨B, ds, R, hC, _, r, _⟩ := h
    rw [r.len]
    exact len ds R hC
  · obtain ⟨B, ds, R, hC, e, r, q⟩ := h
    have hl : vs.length ≤ N.length := by
      have q := congrArg List.length S.pre
      rw [List.length_take] at q
      rw [r.len, len ds R hC]
      omega
    refine ⟨_, body cdv A outer s H E ds R hr hC, ⟨B, H, []⟩, B, ?_, ?_, ?_⟩
    · unfold L2.start
      exact (SR.args e r).pad (by rw [List.length_map, List.length_map, r.len]) (by rw [r.len])
    · unfold L2.start
      rw [List.length_append, List.length_map, List.length_replicate]
      show _ = N.length
      omega
    · exact ⟨fun ρ' σ' B' H' hR R' _ _ => q B' H' .non .non R'.grown hR .non, fun d ρ' σ' B' H' v hR R' rv => q B' H' v d R'.grown hR rv, fun _ _ _ _ z => z.elim, fun _ _ _ _ z => z.elim, fun _ _ _ _ _ _ _ z => z.elim⟩
theorem fnM {x qual : Str} {st : Stmt} {f : Addr} {fd : FuncData} {N ps : List Str} {k : Nat} {C : CM} (F : Fun K x qual st f fd) (S : FnScope N ps (defScope st)) (len : ∀ ws ds R, C ws ds R → ds.length + 1 = ps.length)
    (body : ∀ (cdv : Value) (A : Around) (outer : List Env) (s : Shared) (H : Hp) (E : XK) (a : Addr) (ws ds : List D) (R : D → List D → Prop), Room k (A.deeper (envOfC qual (defScope st) s.heap.objs.size f cdv)) → C ws ds R →
      ST (cxOf CX0 P w K mg base N qual (defScope st) f cdv A outer s H E).nox (defBody st) (.pr a (.l ws) :: ds.map .fr ++ List.replicate (N.length - (ds.length + 1)) .un)
        { nx := fun ρ => ∃ ws', ρ[0]? = some (.pr a (.l ws')) ∧ R .non ws', rt := fun d ρ => ∃ ws', ρ[0]? = some (.pr a (.l ws')) ∧ R d ws' }) : FnOk P w K mg base CX0 (k + 1) f fd ps (spM K C) := by
  refine F.ok S (fun vs H Q E h => ?_) (fun cdv A outer s H vs Q E hr h => ?_)
  · obtain ⟨B, a, us, xs, ws, ds, R, rfl, hC, _, r, _⟩ := h
    rw [List.length_cons, r.len]
    exact len ws ds R hC
  · obtain ⟨B, a, us, xs, ws, ds, R, rfl, hC, e, r, ha, hb, rx, q⟩ := h
    have fin : ∀ {ρ' : Rho} {σ' : L2.St} {B' H' : Hp} {v : V} {d : D} {ws' : List D}, ρ'[0]? = some (.pr a (.l ws')) → R d ws' → SR K ⟨B, H, [a]⟩ B' H' σ' ρ' → Rep K B' v d → Q v H' := fun {ρ' σ' B' H' v d ws'} h0 hR R' rv => by
      obtain ⟨_, xs', h1, h2⟩ := R'.ok 0 _ h0
      exact q B' H' v d xs' ws' ⟨R'.ex0, R'.ext, fun x o h n => R'.frame x o h (by simpa using n), R'.dom, R'.new, R'.sep 0 _ h0 a (by simp [Slot.foot, W.foot])⟩ h1 h2 hR rv
    have hl : us.length + 1 ≤ N.length := by
      have q := congrArg List.length S.pre
      rw [List.length_take] at q
      rw [r.len, len ws ds R hC]
      omega
    refine ⟨_, body cdv A outer s H E a ws ds R hr hC, ⟨B, H, [a]⟩, B, ?_, ?_, ?_⟩
    · unfold L2.start
      exact (SR.argsM e r ha hb rx).pad (by simp [r.len]) (by simp [r.len])
    · unfold L2.start
      rw [List.length_append, List.length_map, List.length_replicate, List.length_cons]
      show _ = N.length
      omega
    · exact ⟨fun ρ' σ' B' H' ⟨ws', h0, hR⟩ R' _ _ => fin h0 hR R' .non, fun d ρ' σ' B' H' v ⟨ws', h0, hR⟩ R' rv => fin h0 hR R' rv, fun _ _ _ _ z => z.elim, fun _ _ _ _ z => z.elim, fun _ _ _ _ _ _ _ z => z.elim⟩
end

/-! ### calls -/
section
variable {X : Cx} {k : Nat} {f : Addr} {fd : FuncData} {ps : List Str} {x : Str} {pp pos : Pos} {e : Expr} {es : List Expr} {p : Bool} {ρ ρ1 : Rho} {ds : List D} {z : D}
theorem ev_call {C : CP} (F : FnOk X.prog X.w X.K X.mg X.base CX0 k f fd ps (spP X.K C)) (hr : Room k X.A) (hm : X.mg x = some (.ref f)) (hk : PySem.W.keepIn X.K (.ref f) = true) (hb : Binds X.K fd ps []) (ha : EA X (e :: es) p ρ ds ρ1) (hC : C ds (fun d => d = z))
    (hg : Gl X x := by rfl) (hdb : (x == ("__debug__" : Str)) = false := by decide) (he : starEach (e :: es) X.env = (false, eval e X.env) :: starEach es X.env := by rfl) (hpl : (backTo pos (starEach es X.env)).any (·.1) = false := by rfl) :
    EV X (.Call (.Name x pp) (e :: es) [] pos) p ρ z ρ1 := PE.imp (pe_call F hr hg hm hk hb .nil pass0 ha hdb he hpl) fun σ H Q ⟨w, B, R, kk⟩ => ⟨w, B, R, fun B1 H1 vs R1 s1 r1 => by
  show spP X.K C (vs ++ []) H1 Q E0
  rw [List.append_nil]
  exact ⟨B1, ds, _, hC, R1.ext, r1, fun B' H' v d g hd rv => by
    subst hd
    exact kk B' H' v (R1.grow g) (s1.add g) rv⟩⟩
def relend (s : Slot) (ws : List D) : Slot := match s with | .ow a _ => .ow a (.l ws) | .pr a _ => .pr a (.l ws) | t => t
theorem lent {K : PySem.W.Frag} {w : Wd} {B H B' H' : Hp} {σ : L2.St} {ρ : Rho} {a : Addr} {ws ws' : List D} {xs' : List V} {i : Nat} {s : Slot} (R : SR K w B H σ ρ) (hs : ρ[i]? = some s) (hk : s = .ow a (.l ws) ∨ s = .pr a (.l ws)) (g : GrowM a B H B' H') (h : H' a = some (.lst xs')) (r : Reps K B' xs' ws') :
    SR K w B' H' σ (ρ.set i (relend s ws')) := by
  have sl := R.ok i s hs
  rcases hk with rfl | rfl
  · exact R.write hs rfl (.inl ⟨a, _, _, rfl, rfl⟩) g.b g.ext g.new (fun x o h n => g.fr x o h (by simpa [Slot.foot, W.foot] using n)) g.dom ⟨sl.1, xs', h, r⟩
  · exact R.write hs rfl (.inr ⟨a, _, _, rfl, rfl⟩) g.b g.ext g.new (fun x o h n => g.fr x o h (by simpa [Slot.foot, W.foot] using n)) g.dom ⟨sl.1, xs', h, r⟩
/-- f(pool, e, ..), pool a slot's own or lent list -/
theorem ev_callM {C : CM} {px : Pos} {y : Str} {a : Addr} {ws ws' : List D} {s : Slot} (i : Nat) (F : FnOk X.prog X.w X.K X.mg X.base CX0 k f fd ps (spM X.K C)) (hr : Room k X.A) (hm : X.mg x = some (.ref f)) (hk : PySem.W.keepIn X.K (.ref f) = true) (hb : Binds X.K fd ps [])
    (hs : ρ1[i]? = some s) (hsk : s = .ow a (.l ws) ∨ s = .pr a (.l ws)) (hs0 : ∃ ws0, ρ[i]? = some (relend s ws0)) (ha : EA X es p ρ ds ρ1) (hC : C ws ds (fun d w => d = z ∧ w = ws'))
    (hN : X.N[i]? = some y := by rfl) (hv : Vis X.env.scope y := by first | exact Or.inl rfl | exact Or.inr (Or.inl rfl) | exact Or.inr (Or.inr rfl)) (hd : (y == ("__debug__" : Str)) = false := by decide) (hcd : (y == ("__classdict__" : Str)) = false := by decide)
    (hg : Gl X x := by rfl) (hdb : (x == ("__debug__" : Str)) = false := by decide) (he : starEach (.Name y px :: es) X.env = (false, eval (.Name y px) X.env) :: starEach es X.env := by rfl) (hpl : (backTo pos (starEach es X.env)).any (·.1) = false := by rfl) :
    EV X (.Call (.Name x pp) (.Name y px :: es) [] pos) false ρ z (ρ1.set i (relend s ws')) := PE.imp (pe_call F hr hg hm hk hb .nil pass0 (pa_cons (pe_var hN hv hd hcd) ha he) hdb he hpl) fun σ H Q ⟨w, B, R, kk⟩ => by
  obtain ⟨ws0, hs0⟩ := hs0
  have sl : σ[i]? = some (some (.ref a)) := by
    have q := R.ok i _ hs0
    rcases hsk with rfl | rfl
    · exact q.1
    · exact q.1
  refine ⟨_, sl, w, B, R, fun B1 H1 vs R1 s1 r1 => ?_⟩
  show spM X.K C ((V.ref a :: vs) ++ []) H1 Q E0
  rw [List.append_nil]
  have ow := R1.ok i _ hs
  have sp := R1.sep i _ hs a (by rcases hsk with rfl | rfl <;> simp [Slot.foot, W.foot])
  obtain ⟨xs, h1, h2⟩ : ∃ xs, H1 a = some (.lst xs) ∧ Reps X.K B1 xs ws := by rcases hsk with rfl | rfl <;> exact ow.2
  refine ⟨B1, a, vs, xs, ws, ds, _, rfl, hC, R1.ext, r1, h1, sp, h2, fun B' H' v d xs' ws2 g e2 r2 hd rv => ?_⟩
  obtain ⟨rfl, rfl⟩ := hd
  have ft : (relend s ws2).foot = s.foot := by rcases hsk with rfl | rfl <;> rfl
  have st : Stp false ρ1 B1 H1 (ρ1.set i (relend s ws2)) B' H' := ⟨g.b, g.dom, fun x o q m ft' => by
    have ne : x ≠ a := fun z => ft' i _ hs (by rcases hsk with rfl | rfl <;> simp [Slot.foot, W.foot, z])
    refine ⟨g.fr x o q ne, ?_, fun j t hj => ?_⟩
    · cases z : B' x with
      | none => rfl
      | some u =>
        rcases g.new x u z with q' | q'
        · rw [m] at q'; cases q'
        · rw [q] at q'; cases q'
    · rcases set_cases hj with ⟨rfl, rfl, _⟩ | ⟨_, hj⟩
      · rw [ft]; exact ft' _ s hs
      · exact ft' j t hj, fun z => nomatch z⟩
  exact kk B' H' v (lent R1 hs hsk g e2 r2) ((s1.trans st).left fun z => nomatch z) rv
end

/-! ### statements -/
section
variable {X : Cx} {e c : Expr} {s : Stmt} {rest body orelse : List Stmt} {p : Bool} {ρ ρ1 ρ2 : Rho} {d : D} {ds : List D} {DD : DEnds} {pos pos' : Pos} {x : Str}
theorem st_nil (h : DD.nx ρ) : ST X [] ρ DD := PSs.imp pss_nil fun E σ H ⟨w, B, R, hl, g⟩ => g.nx ρ σ B H h R (Same.refl B) hl
theorem st_cons {M : Rho → Prop} (h : S1 X s ρ { DD with nx := M }) (hr : ∀ ρ', M ρ' → ST X rest ρ' DD) : ST X (s :: rest) ρ DD := by
  have A : PSs X rest (fun E σ H => ∃ q : { q : Rho // M q }, tST X.K X.N.length q.1 DD E σ H) := PSs.ex fun q => hr q.1 q.2
  exact PSs.imp (pss_cons h A) fun E σ H ⟨w, B, R, hl, g⟩ => ⟨w, B, R, hl, ⟨fun ρ' σ' B' H' hM R' s l => ⟨⟨ρ', hM⟩, w, B', R', l, g.mono s⟩, g.rt, g.bk, g.ct, g.ex⟩⟩
theorem st_one {M : Rho → Prop} (h : S1 X s ρ DD) : ST X [s] ρ DD := pss_one h
/-- one way behind s -/
theorem st_to (h : S1 X s ρ { DD with nx := fun r => r = ρ2 }) (hr : ST X rest ρ2 DD) : ST X (s :: rest) ρ DD := st_cons h fun ρ' e => e ▸ hr
/-- all ways behind s go on with the rest at once -/
theorem st_thru (h : S1 X s ρ { DD with nx := fun r => ST X rest r DD }) : ST X (s :: rest) ρ DD := st_cons h fun _ q => q
theorem slot_lt {i : Nat} {n : Nat} {σ : L2.St} (hN : X.N[i]? = some x) (hl : σ.length = X.N.length) : i < σ.length := by rw [hl]; exact (List.getElem?_eq_some_iff.mp hN).1
section
variable (i : Nat) (nd : X.N.Nodup)
theorem s_asg {i : Nat} (h : EV X e p ρ d ρ1) (nd : X.N.Nodup) (k : DD.nx (ρ1.set i (.fr d))) (hN : X.N[i]? = some x := by rfl) (hx : Loc X.env.scope x := by first | exact Or.inl rfl | exact Or.inr rfl) (hs : swapsWith e (some (.Name x pos')) pos.line X.env = pure false := by rfl)
    (hf : X.fn x = true ∨ X.env.scope.names.lookup x = some .local := by first | exact .inl rfl | exact .inr rfl) : S1 X (.Assign [.Name x pos'] e pos) ρ DD :=
  PS.imp (ps_set nd hN hx h hs hf) fun E σ H ⟨w, B, R, hl, g⟩ => ⟨w, B, R, fun B' H' v R' s r => g.nx _ _ B' H' k (R'.putF (slot_lt (n := 0) hN hl) r) s.b (by rw [List.length_set]; exact hl)⟩
/-- a new list comes to the name as its own -/
theorem s_new {i : Nat} (h : EN X e p ρ ds ρ1) (nd : X.N.Nodup) (k : ∀ a, DD.nx (ρ1.set i (.ow a (.l ds)))) (hN : X.N[i]? = some x := by rfl) (hx : Loc X.env.scope x := by first | exact Or.inl rfl | exact Or.inr rfl) (hs : swapsWith e (some (.Name x pos')) pos.line X.env = pure false := by rfl)
    (hf : X.fn x = true ∨ X.env.scope.names.lookup x = some .local := by first | exact .inl rfl | exact .inr rfl) : S1 X (.Assign [.Name x pos'] e pos) ρ DD :=
  PS.imp (ps_set nd hN hx h hs hf) fun E σ H ⟨w, B, R, hl, g⟩ => ⟨w, B, R, fun B' H' a xs R' s _ f h r => g.nx _ _ B' H' (k a) (R'.putL (slot_lt (n := 0) hN hl) f h r) s.b (by rw [List.length_set]; exact hl)⟩
theorem s_expr (h : EV X e p ρ d ρ1) (k : DD.nx ρ1) (he : ∀ env : Env, True := by intro _; trivial) {pe : PS X (.Expr e pos) (tDrop (tEV X.K p ρ d ρ1))} : S1 X (.Expr e pos) ρ DD :=
  PS.imp pe fun E σ H ⟨w, B, R, hl, g⟩ => ⟨w, B, R, fun B' H' v R' s r => g.nx _ _ B' H' k R' s.b hl⟩
end
theorem s_ret (h : EV X e p ρ d ρ1) (k : DD.rt d ρ1) : S1 X (.Return (some e) pos) ρ DD :=
  PS.imp (ps_ret h) fun E σ H ⟨w, B, R, hl, g⟩ => ⟨w, B, R, fun B' H' v R' s r => g.rt d ρ1 σ B' H' v k R' r⟩
theorem st_ret (h : EV X e p ρ d ρ1) (k : DD.rt d ρ1) : ST X (.Return (some e) pos :: rest) ρ DD := st_cons (M := fun _ => False) (s_ret h k) fun _ z => z.elim
theorem s_if {b : Bool} (h : ET X c p ρ b ρ1) (h1 : b = true → ST X body ρ1 DD) (h2 : b = false → ST X orelse ρ1 DD) : S1 X (.If c body orelse pos) ρ DD := by
  have A : PSs X body (fun E σ H => ∃ q : b = true, tST X.K X.N.length ρ1 DD E σ H) := PSs.ex h1
  have B : PSs X orelse (fun E σ H => ∃ q : b = false, tST X.K X.N.length ρ1 DD E σ H) := PSs.ex h2
  exact PS.imp (ps_if h A B) fun E σ H ⟨w, B, R, hl, g⟩ => ⟨w, B, R, fun B' H' R' s => by
    have fin : tST X.K X.N.length ρ1 DD E σ H' := ⟨w, B', R', hl, g.mono s.b⟩
    cases b with
    | true => exact iteT ⟨rfl, fin⟩
    | false => exact iteF ⟨rfl, fin⟩⟩
theorem st_if {b : Bool} (h : ET X c p ρ b ρ1) (h1 : b = true → ST X body ρ1 { DD with nx := fun r => ST X rest r DD }) (h2 : b = false → ST X orelse ρ1 { DD with nx := fun r => ST X rest r DD }) : ST X (.If c body orelse pos :: rest) ρ DD := st_thru (s_if h h1 h2)
theorem s_break (h : DD.bk ρ) : S1 X (.Break pos) ρ DD := PS.imp ps_break fun E σ H ⟨w, B, R, hl, g⟩ => g.bk ρ σ B H h R (Same.refl B) hl
theorem s_cont (h : DD.ct ρ) : S1 X (.Continue pos) ρ DD := PS.imp ps_continue fun E σ H ⟨w, B, R, hl, g⟩ => g.ct ρ σ B H h R (Same.refl B) hl
theorem s_pass (h : DD.nx ρ) : S1 X (.Pass pos) ρ DD := PS.imp ps_pass fun E σ H ⟨w, B, R, hl, g⟩ => g.nx ρ σ B H h R (Same.refl B) hl
end
end G

set_option Elab.async false
set_option maxRecDepth 100000
set_option linter.all false
/-! G5: lists changed in place, targets, loops, comprehensions. -/
namespace G
open PySem L2 PyProof.Rows
section
variable {X : Cx} {K : PySem.W.Frag}
/-! ### a slot's own list is written -/
theorem own_write {w : Wd} {B H : Hp} {σ : L2.St} {ρ : Rho} {a : Addr} {ws ws' : List D} {xs' : List V} {i : Nat} {s : Slot} (R : SR K w B H σ ρ) (hs : ρ[i]? = some s) (hk : s = .ow a (.l ws) ∨ s = .pr a (.l ws)) (r : Reps K B xs' ws') :
    SR K w B (upd H a (.lst xs')) σ (ρ.set i (relend s ws')) ∧ Stp false ρ B H (ρ.set i (relend s ws')) B (upd H a (.lst xs')) := by
  have sp := R.sep i s hs a (by rcases hk with rfl | rfl <;> simp [Slot.foot, W.foot])
  have g : GrowM a B H B (upd H a (.lst xs')) := ⟨Same.refl B, fun b o q => by rw [upd_ne (ne_of_none q sp)]; exact R.ext b o q, fun x o h n => by rw [upd_ne n]; exact h, fun x h => by
    by_cases e : x = a
    · subst e; rw [upd_same]; simp
    · rw [upd_ne e]; exact h, fun x o h => .inl h, sp⟩
  refine ⟨lent R hs hk g upd_same r, ⟨Same.refl B, g.dom, fun x o q m ft => ?_, fun z => nomatch z⟩⟩
  have ne : x ≠ a := fun z => ft i _ hs (by rcases hk with rfl | rfl <;> simp [Slot.foot, W.foot, z])
  refine ⟨by rw [upd_ne ne]; exact q, m, fun j t hj => ?_⟩
  rcases set_cases hj with ⟨rfl, rfl, _⟩ | ⟨_, hj⟩
  · have ft2 : (relend s ws').foot = s.foot := by rcases hk with rfl | rfl <;> rfl
    rw [ft2]; exact ft _ s hs
  · exact ft j t hj
theorem relend_is {s : Slot} {a : Addr} {ws ws' : List D} (hk : s = .ow a (.l ws) ∨ s = .pr a (.l ws)) : relend s ws' = .ow a (.l ws') ∨ relend s ws' = .pr a (.l ws') := by
  rcases hk with h | h
  · rw [h]; exact .inl rfl
  · rw [h]; exact .inr rfl
theorem own_at {w : Wd} {B H : Hp} {σ : L2.St} {ρ : Rho} {a : Addr} {ws : List D} {i : Nat} {s : Slot} (R : SR K w B H σ ρ) (hs : ρ[i]? = some s) (hk : s = .ow a (.l ws) ∨ s = .pr a (.l ws)) : σ[i]? = some (some (.ref a)) ∧ ∃ xs, H a = some (.lst xs) ∧ Reps K B xs ws := by
  have q := R.ok i s hs
  rcases hk with rfl | rfl <;> exact q
section
variable {e b : Expr} {p q : Bool} {ρ ρ1 ρ2 : Rho} {d : D} {ds : List D} {DD : DEnds} {pos pos' px apos : Pos} {x : Str} {a : Addr} {s : Slot}
/-- x.append(e) -/
theorem s_append (i : Nat) (h : EV X e p ρ d ρ1) (hs : ρ1[i]? = some s) (hk : s = .ow a (.l ds) ∨ s = .pr a (.l ds)) (hs0 : ∃ ws0, ρ[i]? = some (relend s ws0)) (hz : ds.length < 16777216) (k : DD.nx (ρ1.set i (relend s (ds ++ [d])))) (hN : X.N[i]? = some x := by rfl)
    (hv : Vis X.env.scope x := by first | exact Or.inl rfl | exact Or.inr (Or.inl rfl) | exact Or.inr (Or.inr rfl)) (hd : (x == ("__debug__" : Str)) = false := by decide) (hcd : (x == ("__classdict__" : Str)) = false := by decide)
    (hbase : attributeBase (.Name x px) "append" X.env (eval (.Name x px) X.env) = eval (.Name x px) X.env := by rfl)
    (hfew : ((backTo pos' (starEach [e] X.env)).all (fun x => !x.1) && (backToKw pos' (keywordEach [] X.env)).all (fun x => x.1.isSome) && decide ([e].length + ([] : List Keyword).length + (if ([] : List Keyword).isEmpty then 0 else 1) < 30)) = true := by rfl)
    (hline : (apos.endLine == pos'.line) = true := by rfl) (hst : starEach [e] X.env = (false, eval e X.env) :: starEach [] X.env := by rfl) (hpl : (backTo pos' (starEach [] X.env)).any (·.1) = false := by rfl)
    (hsw : swapsWith (.Call (.Attribute (.Name x px) "append" apos) [e] [] pos') none pos.line X.env = pure false := by rfl) :
    S1 X (.Expr (.Call (.Attribute (.Name x px) "append" apos) [e] [] pos') pos) ρ DD :=
  PS.imp (ps_expr (pe_bm PySem.F.plainAttrs_list PySem.F.slot_list_append PySem.F.type_list_append (fun pins s σ H x xs v us Q I rx rv h => mt_append pins s σ H x xs v us Q I rx rv h) (pe_var hN hv hd hcd) (pa_cons h pa_nil hst) hbase hfew hline hst hpl) hsw) fun E σ H ⟨w, B, R, hl, g⟩ => by
    obtain ⟨ws0, hs0⟩ := hs0
    obtain ⟨e0, xs0, h0, r0⟩ := own_at (a := a) (ws := ws0) R hs0 (relend_is hk)
    refine ⟨_, e0, .inl ⟨rfl, _, SqL.of h0⟩, w, B, R, fun B1 H1 v R1 s1 r1 => ?_⟩
    obtain ⟨_, xs, h1, r2⟩ := own_at R1 hs hk
    refine ⟨a, xs, v, rfl, rfl, h1, by rw [r2.len, sizeLine_eq]; exact hz, ?_⟩
    obtain ⟨R2, s2⟩ := own_write R1 hs hk (r2.append (.cons r1 .nil))
    exact g.nx _ σ _ _ k R2 (s1.b.trans s2.b) hl
/-- x[k] = e -/
theorem s_setI {kk : Int} {j : Nat} (i : Nat) (h : EV X e p ρ d ρ1) (hi : EV X b true ρ1 (.int kk) ρ1) (hs : ρ1[i]? = some s) (hk : s = .ow a (.l ds) ∨ s = .pr a (.l ds)) (hj : ixN ds.length kk = some j) (k : DD.nx (ρ1.set i (relend s (ds.set j d)))) (hN : X.N[i]? = some x := by rfl)
    (hv : Vis X.env.scope x := by first | exact Or.inl rfl | exact Or.inr (Or.inl rfl) | exact Or.inr (Or.inr rfl)) (hd : (x == ("__debug__" : Str)) = false := by decide) (hcd : (x == ("__classdict__" : Str)) = false := by decide)
    (ha : ∀ v, assign (.Subscript (.Name x px) b pos') X.env v = (do
      let ov ← holding [v] (eval (.Name x px) X.env)
      let iv ← holding [v, ov] (eval b X.env)
      standAt pos'
      holding [v, ov, iv] (setItem ov iv v)
      release [v, ov, iv] []) := by intro _; rfl)
    (hsw : swapsWithSole [.Subscript (.Name x px) b pos'] e pos.line X.env = pure false := by rfl) (hw : swappedStores [.Subscript (.Name x px) b pos'] e X.env = pure none := by rfl) (h1 : (assignEach [.Subscript (.Name x px) b pos'] X.env).map (·.2) = [assign (.Subscript (.Name x px) b pos') X.env] := by rfl) :
    S1 X (.Assign [.Subscript (.Name x px) b pos'] e pos) ρ DD :=
  PS.imp (ps_asg h (pg_sub (pe_var hN hv hd hcd) hi set_list ha) hsw hw h1) fun E σ H ⟨w, B, R, hl, g⟩ => ⟨w, B, R, fun B1 H1 v R1 s1 r1 => by
    obtain ⟨e0, xs0, h0, r0⟩ := own_at R1 hs hk
    refine ⟨_, e0, w, B1, R1, fun B2 H2 v2 R2 s2 r2 => ?_⟩
    cases r2
    obtain ⟨_, xs, h1, r3⟩ := own_at R2 hs hk
    refine ⟨a, xs, kk, j, rfl, rfl, h1, by rw [r3.len]; exact hj, ?_⟩
    obtain ⟨R3, s3⟩ := own_write R2 hs hk (r3.set (r1.mono s2.b) j)
    exact g.nx _ σ _ _ k R3 ((s1.b.trans s2.b).trans s3.b) hl⟩
/-- x.pop(k) as a value -/
theorem ev_popAt {kk : Int} {j : Nat} (i : Nat) (h : EV X e p ρ (.int kk) ρ1) (hs : ρ1[i]? = some s) (hk : s = .ow a (.l ds) ∨ s = .pr a (.l ds)) (hs0 : ∃ ws0, ρ[i]? = some (relend s ws0)) (hk0 : -(2 ^ 63) ≤ kk) (hk1 : kk < 2 ^ 63) (hj : seqIndex? kk ds.length = some j) (hd' : ds[j]? = some d) (hN : X.N[i]? = some x := by rfl)
    (hv : Vis X.env.scope x := by first | exact Or.inl rfl | exact Or.inr (Or.inl rfl) | exact Or.inr (Or.inr rfl)) (hd : (x == ("__debug__" : Str)) = false := by decide) (hcd : (x == ("__classdict__" : Str)) = false := by decide)
    (hbase : attributeBase (.Name x px) "pop" X.env (eval (.Name x px) X.env) = eval (.Name x px) X.env := by rfl)
    (hfew : ((backTo pos' (starEach [e] X.env)).all (fun x => !x.1) && (backToKw pos' (keywordEach [] X.env)).all (fun x => x.1.isSome) && decide ([e].length + ([] : List Keyword).length + (if ([] : List Keyword).isEmpty then 0 else 1) < 30)) = true := by rfl)
    (hline : (apos.endLine == pos'.line) = true := by rfl) (hst : starEach [e] X.env = (false, eval e X.env) :: starEach [] X.env := by rfl) (hpl : (backTo pos' (starEach [] X.env)).any (·.1) = false := by rfl) :
    EV X (.Call (.Attribute (.Name x px) "pop" apos) [e] [] pos') false ρ d (ρ1.set i (relend s (ds.eraseIdx j))) :=
  PE.imp (pe_bm PySem.F.plainAttrs_list PySem.F.slot_list_pop PySem.F.type_list_pop (fun pins s σ H x xs v us Q I rx rv h => mt_popAt pins s σ H x xs v us Q I rx rv h) (pe_var hN hv hd hcd) (pa_cons h pa_nil hst) hbase hfew hline hst hpl) fun σ H Q ⟨w, B, R, kq⟩ => by
    obtain ⟨ws0, hs0⟩ := hs0
    obtain ⟨e0, xs0, h0, r0⟩ := own_at (a := a) (ws := ws0) R hs0 (relend_is hk)
    refine ⟨_, e0, .inl ⟨rfl, _, SqL.of h0⟩, w, B, R, fun B1 H1 v R1 s1 r1 => ?_⟩
    cases r1
    obtain ⟨_, xs, h1, r2⟩ := own_at R1 hs hk
    obtain ⟨y, hy, ry⟩ := r2.get hd'
    refine ⟨a, xs, kk, j, y, rfl, rfl, h1, hk0, hk1, by rw [r2.len]; exact hj, hy, ?_⟩
    obtain ⟨R2, s2⟩ := own_write R1 hs hk (r2.erase j)
    exact kq B1 _ y R2 ((s1.trans s2).left fun z => nomatch z) ry
end

/-! ### targets -/
def tTG (K : PySem.W.Frag) (js : List Nat) (d : D) (ρ ρ' : Rho) : TG := fun v σ H Q => ∃ w B, SR K w B H σ ρ ∧ (∀ j ∈ js, j < σ.length) ∧ Rep K B v d ∧
  ∀ σ', SR K w B H σ' ρ' → σ'.length = σ.length → (∀ j, j ∉ js → σ'[j]? = σ[j]?) → (∀ (i : Nat) (s : Slot), ρ'[i]? = some s → s.foot = [] ∨ ρ[i]? = some s) → Q σ' H
theorem PG.imp {e : Expr} {t t' : TG} (h : PG X e t) (i : ∀ v σ H Q, t' v σ H Q → t v σ H Q) : PG X e t' := ⟨fun pins s σ H v u Q I r q => h.run pins s σ H v u Q I r (i v σ H Q q)⟩
theorem PG.ex {α : Sort _} {e : Expr} {t : α → TG} (h : ∀ a, PG X e (t a)) : PG X e (fun v σ H Q => ∃ a, t a v σ H Q) := ⟨fun pins s σ H v u Q I r ⟨a, q⟩ => (h a).run pins s σ H v u Q I r q⟩
abbrev TGT (X : Cx) (tg : Expr) (js : List Nat) (d : D) (ρ ρ' : Rho) : Prop := PG X tg (tTG X.K js d ρ ρ')
section
variable {d d1 d2 : D} {ρ ρ1 ρ2 : Rho} {pos : Pos} {x : Str} {t1 t2 : Expr} {js1 js2 : List Nat}
theorem tg_name (i : Nat) (nd : X.N.Nodup) (hN : X.N[i]? = some x := by rfl) (hx : Loc X.env.scope x := by first | exact Or.inl rfl | exact Or.inr rfl) (hf : X.fn x = true ∨ X.env.scope.names.lookup x = some .local := by first | exact .inl rfl | exact .inr rfl) : TGT X (.Name x pos) [i] d ρ (ρ.set i (.fr d)) :=
  PG.imp (pg_name nd hN hx hf) fun v σ H Q ⟨w, B, R, hj, r, k⟩ => k _ (R.putF (hj i (by simp)) r) (by rw [List.length_set]) (fun j hj => by
    rw [List.getElem?_set_ne (by intro e; exact hj (by simp [e]))]) fun j s hs => by
    rcases set_cases hs with ⟨_, e, _⟩ | ⟨_, h⟩
    · subst e; exact .inl rfl
    · exact .inr h
theorem tg_tup2 {k : Nat} (h1 : TGT X t1 js1 d1 ρ ρ1) (h2 : TGT X t2 js2 d2 ρ1 ρ2) (hc : X.calm = true := by rfl) (hn : (assignEach [t1, t2] X.env).length = 2 := by rfl) (hst : (assignEach [t1, t2] X.env).findIdx? (·.1) = none := by rfl)
    (hs1 : (assignEach [t1, t2] X.env).map (·.2) = assign t1 X.env :: (assignEach [t2] X.env).map (·.2) := by rfl) (hs2 : (assignEach [t2] X.env).map (·.2) = assign t2 X.env :: (assignEach [] X.env).map (·.2) := by rfl) :
    TGT X (.Tuple [t1, t2] k pos) (js1 ++ js2) (.tup [d1, d2]) ρ ρ2 :=
  PG.imp (pg_tup hc (pgs_cons h1 (pgs_cons h2 pgs_nil hs2) hs1) hn hst) fun v σ H Q ⟨w, B, R, hj, r, kq⟩ => by
    cases r with
    | tup hb rs =>
      cases rs with
      | cons r1 rs =>
        cases rs with
        | cons r2 rs =>
          cases rs
          refine ⟨_, _, rfl, SqT.of (R.ext _ _ hb), rfl, _, _, rfl, w, B, R, fun j h => hj j (List.mem_append_left _ h), r1, fun σ1 R1 l1 k1 f1 => ⟨_, _, rfl, w, B, R1, fun j h => by rw [l1]; exact hj j (List.mem_append_right _ h), r2, fun σ2 R2 l2 k2 f2 => ⟨rfl, kq σ2 R2 (l2.trans l1) (fun j h => ?_) fun j s hs => (f2 j s hs).elim .inl (f1 j s)⟩⟩⟩
          rw [k2 j fun z => h (List.mem_append_right _ z), k1 j fun z => h (List.mem_append_left _ z)]
theorem s_asgT {e tg : Expr} {p : Bool} {js : List Nat} {DD : DEnds} {pos : Pos} (h : EV X e p ρ d ρ1) (ht : TGT X tg js d ρ1 ρ2) (k : DD.nx ρ2) (hj : js.all (fun j => decide (j < X.N.length)) = true := by rfl) (hs : swapsWithSole [tg] e pos.line X.env = pure false := by rfl) (hw : swappedStores [tg] e X.env = pure none := by rfl)
    (h1 : (assignEach [tg] X.env).map (·.2) = [assign tg X.env] := by rfl) : S1 X (.Assign [tg] e pos) ρ DD :=
  PS.imp (ps_asg h ht hs hw h1) fun E σ H ⟨w, B, R, hl, g⟩ => ⟨w, B, R, fun B1 H1 v R1 s1 r1 => ⟨w, B1, R1, fun j q => by rw [hl]; exact of_decide_eq_true (List.all_eq_true.mp hj j q), r1, fun σ' R2 l2 _ _ => g.nx ρ2 σ' B1 H1 k R2 s1.b (l2.trans hl)⟩⟩
end

/-! ### what is walked -/
/-- J yields what stands for ds, one by one, in any heap that has what B0 has -/
def Serves (K : PySem.W.Frag) (B0 : Hp) (J : It) (ds : List D) : Prop := ∀ (i : Nat) (B H : Hp), Same B0 B → Same B H →
  (∀ d, ds[i]? = some d → J.go i H ∧ ∀ x H', J.yld i H x H' → ∃ B', Grow B H B' H' ∧ Rep K B' x d) ∧ (ds.length ≤ i → J.stop i H)
def tIT (K : PySem.W.Frag) (p : Bool) (ρ : Rho) (ds : List D) (ρ' : Rho) : TI := fun σ H R => ∃ w B, SR K w B H σ ρ ∧ ∀ B' H' J, SR K w B' H' σ ρ' → Stp p ρ B H ρ' B' H' → Serves K B' J ds → R J H'
theorem PI.imp {tg e : Expr} {t t' : TI} (h : PI X tg e t) (i : ∀ σ H R, t' σ H R → t σ H R) : PI X tg e t' := ⟨fun pins s σ H R I q => h.run pins s σ H R I (i σ H R q)⟩
abbrev ITR (X : Cx) (tg e : Expr) (p : Bool) (ρ : Rho) (ds : List D) (ρ' : Rho) : Prop := PI X tg e (tIT X.K p ρ ds ρ')
theorem serves_list {B : Hp} {a : Addr} {xs : List V} {ds : List D} (h : B a = some (.lst xs)) (r : Reps K B xs ds) : Serves K B (Itl K a) ds := fun i B1 H e0 e1 => by
  have sq : SqL K H a xs := SqL.of (e1 _ _ (e0 _ _ h))
  refine ⟨fun d hd => ?_, fun hle => ⟨xs, sq, by rw [r.len]; exact hle⟩⟩
  obtain ⟨v, hv, rv⟩ := r.get hd
  refine ⟨⟨xs, v, sq, hv⟩, fun x H' ⟨e, y⟩ => ?_⟩
  subst e
  have q := y xs sq
  rw [hv] at q
  cases q
  exact ⟨B1, Grow.refl e1, rv.mono e0⟩
theorem serves_tup {B : Hp} {a : Addr} {xs : List V} {ds : List D} (h : B a = some (.tup xs)) (r : Reps K B xs ds) : Serves K B (Itt K a) ds := fun i B1 H e0 e1 => by
  have sq : SqT K H a xs := SqT.of (e1 _ _ (e0 _ _ h))
  refine ⟨fun d hd => ?_, fun hle => ⟨xs, sq, by rw [r.len]; exact hle⟩⟩
  obtain ⟨v, hv, rv⟩ := r.get hd
  refine ⟨⟨xs, v, sq, hv⟩, fun x H' ⟨e, y⟩ => ?_⟩
  subst e
  have q := y xs sq
  rw [hv] at q
  cases q
  exact ⟨B1, Grow.refl e1, rv.mono e0⟩
/-- lo, lo + 1, .. -/
def rgD (lo : Int) (n : Nat) : List D := (List.range n).map fun (i : Nat) => D.int (lo + i)
theorem rgD_get {lo : Int} {n i : Nat} {d : D} (h : (rgD lo n)[i]? = some d) : i < n ∧ d = .int (lo + i) := by
  unfold rgD at h
  obtain ⟨j, h1, rfl⟩ := map_get h
  have hi : i < n := by
    have q := (List.getElem?_eq_some_iff.mp h1).1
    simpa using q
  rw [List.getElem?_range hi] at h1
  cases h1
  exact ⟨hi, rfl⟩
theorem rgD_len {lo : Int} {n : Nat} : (rgD lo n).length = n := by unfold rgD; simp
theorem serves_range {B : Hp} {lo : Int} {n : Nat} : Serves K B (Itr lo n) (rgD lo n) := fun i B1 H e0 e1 => by
  refine ⟨fun d hd => ?_, fun hle => ?_⟩
  · obtain ⟨hi, rfl⟩ := rgD_get hd
    refine ⟨hi, fun x H' ⟨e, y⟩ => ?_⟩
    subst e y
    exact ⟨B1, Grow.refl e1, .int _⟩
  · rw [rgD_len] at hle
    exact hle
theorem serves_enum {B : Hp} {a : Addr} {xs : List V} {ds : List D} (h : B a = some (.lst xs)) (r : Reps K B xs ds) : Serves K B (Ite K a) (ds.zipIdx.map fun x => .tup [.int (x.2 : Nat), x.1]) := fun i B1 H e0 e1 => by
  have sq : SqL K H a xs := SqL.of (e1 _ _ (e0 _ _ h))
  refine ⟨fun d hd => ?_, fun hle => ⟨xs, sq, by rw [r.len]; simpa using hle⟩⟩
  obtain ⟨⟨d1, k⟩, h1, rfl⟩ := map_get hd
  have h2 : ds[i]? = some d1 ∧ k = i := by
    rw [List.getElem?_zipIdx] at h1
    cases e : ds[i]? with
    | none => rw [e] at h1; cases h1
    | some u => rw [e] at h1; simp at h1; exact ⟨by rw [h1.1], h1.2.symm⟩
  obtain ⟨h2, rfl⟩ := h2
  obtain ⟨v, hv, rv⟩ := r.get h2
  refine ⟨⟨xs, v, sq, hv⟩, fun x H' ⟨T, y, ex, hT, eH, hy⟩ => ?_⟩
  subst ex eH
  have q := hy xs sq
  rw [hv] at q
  cases q
  have g := Grow.lay (o := .tup [.int (k : Nat), v]) e1 hT
  exact ⟨_, g, .tup upd_same (.cons (.int _) (.cons ((rv.mono e0).mono g.b) .nil))⟩
section
variable {tg e : Expr} {p q : Bool} {ρ ρ1 ρ2 : Rho} {ds : List D} {pos pp : Pos}
theorem it_list (h : EV X e p ρ (.lst ds) ρ1) : ITR X tg e p ρ ds ρ1 := PI.imp (pi_list h) fun σ H R0 ⟨w, B, R, k⟩ => ⟨w, B, R, fun B1 H1 v R1 s1 r1 => by
  cases r1 with
  | lst hb r => exact ⟨_, rfl, ⟨_, SqL.of (R1.ext _ _ hb)⟩, k B1 H1 _ R1 s1 (serves_list hb r)⟩⟩
theorem it_tup (h : EV X e p ρ (.tup ds) ρ1) : ITR X tg e p ρ ds ρ1 := PI.imp (pi_tup h) fun σ H R0 ⟨w, B, R, k⟩ => ⟨w, B, R, fun B1 H1 v R1 s1 r1 => by
  cases r1 with
  | tup hb r => exact ⟨_, rfl, ⟨_, SqT.of (R1.ext _ _ hb)⟩, k B1 H1 _ R1 s1 (serves_tup hb r)⟩⟩
theorem it_range {n : Int} (h : EV X e p ρ (.int n) ρ1) (hm : X.mg "range" = none) (h0 : -(2 ^ 62) ≤ n) (h1 : n < 2 ^ 62) (hg : Gl X "range" := by rfl) (hs : starEach [e] X.env = [(false, eval e X.env)] := by rfl) : ITR X tg (.Call (.Name "range" pp) [e] [] pos) p ρ (rgD 0 n.toNat) ρ1 :=
  PI.imp (pi_range1 hg hm (pa_cons h pa_nil hs) hs) fun σ H R0 ⟨w, B, R, k⟩ => ⟨w, B, R, fun B1 H1 v R1 s1 r1 => by
    cases r1
    exact ⟨n, rfl, h0, h1, k B1 H1 _ R1 s1 serves_range⟩⟩
theorem it_range2 {a b : Expr} {n m : Int} (ha : EV X a p ρ (.int n) ρ1) (hb : EV X b q ρ1 (.int m) ρ2) (hm : X.mg "range" = none) (h0 : -(2 ^ 62) ≤ n) (h1 : n < 2 ^ 62) (h2 : -(2 ^ 62) ≤ m) (h3 : m < 2 ^ 62) (hg : Gl X "range" := by rfl)
    (hs : starEach [a, b] X.env = [(false, eval a X.env), (false, eval b X.env)] := by rfl) (hs2 : starEach [b] X.env = [(false, eval b X.env)] := by rfl) : ITR X tg (.Call (.Name "range" pp) [a, b] [] pos) (p && q) ρ (rgD n (m - n).toNat) ρ2 :=
  PI.imp (pi_range2 hg hm (pa_cons ha (pa_cons hb pa_nil hs2) (by rw [hs, hs2])) hs hs2) fun σ H R0 ⟨w, B, R, k⟩ => ⟨w, B, R, fun B1 H1 v R1 s1 r1 => ⟨w, B1, R1, fun B2 H2 u R2 s2 r2 => by
    cases r1
    cases r2
    exact ⟨n, m, rfl, ⟨h0, h1, h2, h3⟩, k B2 H2 _ R2 (s1.trans s2) serves_range⟩⟩⟩
theorem it_enum {elts : List Expr} {kk : Nat} {tpos : Pos} (h : EV X e p ρ (.lst ds) ρ1) (hm : X.mg "enumerate" = none) (hg : Gl X "enumerate" := by rfl) (hs : starEach [e] X.env = [(false, eval e X.env)] := by rfl) :
    ITR X (.Tuple elts kk tpos) (.Call (.Name "enumerate" pp) [e] [] pos) p ρ (ds.zipIdx.map fun x => .tup [.int (x.2 : Nat), x.1]) ρ1 := PI.imp (pi_enum hg hm (pa_cons h pa_nil hs) hs) fun σ H R0 ⟨w, B, R, k⟩ => ⟨w, B, R, fun B1 H1 v R1 s1 r1 => by
  cases r1 with
  | lst hb r => exact ⟨_, _, rfl, SqL.of (R1.ext _ _ hb), k B1 H1 _ R1 s1 (serves_enum hb r)⟩⟩

/-! ### for -/
theorem s_for {body : List Stmt} {js : List Nat} {DD : DEnds} (I : Nat → Rho → Prop) (hi : ITR X tg e p ρ ds ρ1) (h0 : I 0 ρ1)
    (hb : ∀ i d ρ, ds[i]? = some d → I i ρ → ∃ ρt, TGT X tg js d ρ ρt ∧ ST X body ρt { DD with nx := I (i + 1), ct := I (i + 1), bk := DD.nx }) (hn : ∀ ρ, I ds.length ρ → DD.nx ρ) (hj : js.all (fun j => decide (j < X.N.length)) = true := by rfl)
    (hp : PassesOwn (model X.prog X.w) X.A X.env X.xe := by first | exact PassesOwn.never | exact passes_of rfl) (hc : X.calm = true := by rfl) (hs : ∀ x, foldedSetIterable e X.env x = pure x := by intro _; rfl) : S1 X (.For tg e body [] pos) ρ DD := by
  have tgx : ∀ q : { q : Nat × D × Rho // ds[q.1]? = some q.2.1 ∧ I q.1 q.2.2 }, ∃ ρt, TGT X tg js q.1.2.1 q.1.2.2 ρt ∧ ST X body ρt { DD with nx := I (q.1.1 + 1), ct := I (q.1.1 + 1), bk := DD.nx } := fun q => hb q.1.1 q.1.2.1 q.1.2.2 q.2.1 q.2.2
  have A : PG X tg (fun v σ H Q => ∃ q : { q : Nat × D × Rho // ds[q.1]? = some q.2.1 ∧ I q.1 q.2.2 }, tTG X.K js q.1.2.1 q.1.2.2 (Classical.choose (tgx q)) v σ H Q) := PG.ex fun q => (Classical.choose_spec (tgx q)).1
  have Bd : PSs X body (fun E σ H => ∃ q : { q : Nat × D × Rho // ds[q.1]? = some q.2.1 ∧ I q.1 q.2.2 }, tST X.K X.N.length (Classical.choose (tgx q)) { DD with nx := I (q.1.1 + 1), ct := I (q.1.1 + 1), bk := DD.nx } E σ H) := PSs.ex fun q => (Classical.choose_spec (tgx q)).2
  refine PS.imp (ps_for hp hc hi A Bd hs) fun E σ H ⟨w, B, R, hl, g⟩ => ⟨w, B, R, fun B1 H1 J R1 s1 sv => ?_⟩
  refine ⟨fun i m σ' H' => m = ds.length - i ∧ i ≤ ds.length ∧ ∃ B' ρ', SR X.K w B' H' σ' ρ' ∧ Same B1 B' ∧ σ'.length = X.N.length ∧ I i ρ', ⟨_, rfl, Nat.zero_le _, B1, ρ1, R1, Same.refl _, hl, h0⟩, ?_⟩
  rintro i m σ' H' ⟨rfl, hle, B', ρ', R', e', l', hI⟩
  obtain ⟨sv1, sv2⟩ := sv i B' H' e' R'.ext
  by_cases hlt : i < ds.length
  · have hd : ds[i]? = some ds[i] := List.getElem?_eq_getElem hlt
    obtain ⟨go, yl⟩ := sv1 _ hd
    refine .inr ⟨go, fun σ2 H2 => ∃ B2 ρ2, SR X.K w B2 H2 σ2 ρ2 ∧ Same B1 B2 ∧ σ2.length = X.N.length ∧ I (i + 1) ρ2, fun σ2 H2 h => ⟨_, (by omega : ds.length - (i + 1) < ds.length - i), rfl, hlt, h⟩, fun x H2 y => ?_⟩
    obtain ⟨B2, g2, rx⟩ := yl x H2 y
    have R2 := R'.grow g2
    refine ⟨⟨(i, ds[i], ρ'), hd, hI⟩, w, B2, R2, fun j q => by rw [l']; exact of_decide_eq_true (List.all_eq_true.mp hj j q), rx, fun σ3 R3 l3 _ _ => ⟨⟨(i, ds[i], ρ'), hd, hI⟩, w, B2, R3, l3.trans l', ?_⟩⟩
    have e2 : Same B1 B2 := e'.trans g2.b
    exact ⟨fun ρ4 σ4 B4 H4 h4 R4 s4 l4 => ⟨B4, ρ4, R4, e2.trans s4, l4, h4⟩, g.rt, fun ρ4 σ4 B4 H4 h4 R4 s4 l4 => g.nx ρ4 σ4 B4 H4 h4 R4 ((s1.b.trans e2).trans s4) l4, fun ρ4 σ4 B4 H4 h4 R4 s4 l4 => ⟨B4, ρ4, R4, e2.trans s4, l4, h4⟩, fun cls pay ρ4 σ4 B4 H4 d h4 R4 s4 l4 po => g.ex cls pay ρ4 σ4 B4 H4 d h4 R4 ((s1.b.trans e2).trans s4) l4 po⟩
  · have e : i = ds.length := by omega
    subst e
    exact .inl ⟨sv2 (Nat.le_refl _), g.nx ρ' σ' B' H' (hn _ hI) R' (s1.b.trans e') l'⟩

/-! ### comprehensions -/
theorem wipe_get {σ : L2.St} : ∀ {vs : List Nat} {i : Nat}, (wipe σ vs)[i]? = if i ∈ vs then (σ[i]?).map (fun _ => none) else σ[i]?
  | [], i => by simp [wipe]
  | v :: vs, i => by
    unfold wipe
    by_cases e : v = i
    · subst e
      by_cases hl : v < (wipe σ vs).length
      · rw [List.getElem?_set_self hl, if_pos (by simp)]
        rw [wipe_length] at hl
        rw [List.getElem?_eq_getElem hl]; rfl
      · rw [List.getElem?_eq_none (by simpa using hl), if_pos (by simp)]
        rw [wipe_length] at hl
        rw [List.getElem?_eq_none (by simpa using hl)]; rfl
    · rw [List.getElem?_set_ne e, wipe_get (vs := vs)]
      by_cases h : i ∈ vs
      · rw [if_pos h, if_pos (by simp [h])]
      · rw [if_neg h, if_neg (by simp [h]; exact fun z => e z.symm)]
theorem wipe_eq {σ σ2 : L2.St} {vs : List Nat} (hl : σ2.length = (wipe σ vs).length) (h : ∀ j, j ∉ vs → σ2[j]? = (wipe σ vs)[j]?) : wipe σ2 vs = wipe σ vs := by
  apply List.ext_getElem?
  intro i
  by_cases hi : i ∈ vs
  · rw [wipe_get, wipe_get, if_pos hi, if_pos hi]
    rw [wipe_length] at hl
    by_cases h1 : i < σ.length
    · rw [List.getElem?_eq_getElem h1, List.getElem?_eq_getElem (by omega : i < σ2.length)]; rfl
    · rw [List.getElem?_eq_none (by omega : σ.length ≤ i), List.getElem?_eq_none (by omega : σ2.length ≤ i)]
  · rw [wipe_get (σ := σ2), if_neg hi, h i hi]
/-- the slots at vs forgotten -/
def unR (ρ : Rho) : List Nat → Rho
  | [] => ρ
  | v :: vs => (unR ρ vs).set v .un
theorem unR_get {ρ : Rho} : ∀ {vs : List Nat} {i : Nat} {s : Slot}, (unR ρ vs)[i]? = some s → s = .un ∨ (i ∉ vs ∧ ρ[i]? = some s)
  | [], i, s, h => .inr ⟨by simp, h⟩
  | v :: vs, i, s, h => by
    unfold unR at h
    rcases set_cases h with ⟨_, e, _⟩ | ⟨n, h⟩
    · exact .inl e
    · rcases unR_get h with e | ⟨h1, h2⟩
      · exact .inl e
      · exact .inr ⟨by simp [h1]; exact fun z => n z.symm, h2⟩
theorem unR_len {ρ : Rho} : ∀ {vs : List Nat}, (unR ρ vs).length = ρ.length
  | [] => rfl
  | v :: vs => by unfold unR; rw [List.length_set, unR_len]
theorem SR.wiped {w : Wd} {B H : Hp} {σ σ' : L2.St} {ρ : Rho} {vs : List Nat} (R : SR K w B H σ ρ) (hl : σ'.length = σ.length) (h : ∀ j, j ∉ vs → σ'[j]? = σ[j]?) : SR K w B H σ' (unR ρ vs) := R.weak hl unR_len fun i s hs => by
  rcases unR_get hs with e | ⟨h1, h2⟩
  · exact .inl e
  · exact .inr ⟨h2, h i h1⟩
def Out (a : Addr) (ρ : Rho) : Prop := ∀ (i : Nat) (s : Slot), ρ[i]? = some s → a ∉ s.foot
theorem Out.un {a : Addr} {ρ : Rho} {vs : List Nat} (h : Out a ρ) : Out a (unR ρ vs) := fun i s hs => by
  rcases unR_get hs with e | ⟨_, h2⟩
  · subst e; simp [Slot.foot]
  · exact h i s h2
/-- an object that no slot has, and is not frozen, is written -/
theorem SR.alien {w : Wd} {B H : Hp} {σ : L2.St} {ρ : Rho} {a : Addr} {o : HO} (R : SR K w B H σ ρ) (h0 : w.H0 a = none) (hb : B a = none) (ho : Out a ρ) : SR K w B (upd H a o) σ ρ := by
  refine ⟨fun x u q => by rw [upd_ne (ne_of_none q hb)]; exact R.ext x u q, R.ex0, fun x u q n => by rw [upd_ne (ne_of_none q h0)]; exact R.frame x u q n, fun x q => ?_, R.new, R.len,
    fun i s hs => (R.ok i s hs).keep (Same.refl B) fun b hb' => upd_ne (fun z => by subst z; exact ho i s hs hb'), R.apart, R.sep, R.own, R.par⟩
  by_cases e : x = a
  · subst e; rw [upd_same]; simp
  · rw [upd_ne e]; exact R.dom x q
end
end
end G

set_option Elab.async false
set_option maxRecDepth 100000
set_option linter.all false
/-! G6: the same where an outcome is only known to be one of some (draws): Q tells which. -/
namespace G
open PySem L2 PyProof.Rows
def tWE (K : PySem.W.Frag) (ρ : Rho) (P : D → Rho → Prop) : TE := fun σ H Q => ∃ w B, SR K w B H σ ρ ∧ ∀ B' H' v d ρ', P d ρ' → SR K w B' H' σ ρ' → Stp false ρ B H ρ' B' H' → Rep K B' v d → Q v H'
def tWN (K : PySem.W.Frag) (ρ : Rho) (P : List D → Rho → Prop) : TE := fun σ H Q => ∃ w B, SR K w B H σ ρ ∧ ∀ B' H' a xs ds ρ', P ds ρ' → SR K w B' H' σ ρ' → Stp false ρ B H ρ' B' H' → H a = none → Fresh w B' ρ' a → H' a = some (.lst xs) → Reps K B' xs ds → Q (.ref a) H'
def tWT (K : PySem.W.Frag) (ρ : Rho) (P : Bool → Rho → Prop) : TT := fun σ H Q => ∃ w B, SR K w B H σ ρ ∧ ∀ B' H' b ρ', P b ρ' → SR K w B' H' σ ρ' → Stp false ρ B H ρ' B' H' → Q b H'
def tWA (K : PySem.W.Frag) (ρ : Rho) (P : List D → Rho → Prop) : TA := fun σ H Q => ∃ w B, SR K w B H σ ρ ∧ ∀ B' H' vs ds ρ', P ds ρ' → SR K w B' H' σ ρ' → Stp false ρ B H ρ' B' H' → Reps K B' vs ds → Q vs H'
def tWI (K : PySem.W.Frag) (ρ : Rho) (P : List D → Rho → Prop) : TI := fun σ H R => ∃ w B, SR K w B H σ ρ ∧ ∀ B' H' J ds ρ', P ds ρ' → SR K w B' H' σ ρ' → Stp false ρ B H ρ' B' H' → Serves K B' J ds → R J H'
abbrev WE (X : Cx) (e : Expr) (ρ : Rho) (P : D → Rho → Prop) : Prop := PE X e (tWE X.K ρ P)
abbrev WN (X : Cx) (e : Expr) (ρ : Rho) (P : List D → Rho → Prop) : Prop := PE X e (tWN X.K ρ P)
abbrev WT (X : Cx) (e : Expr) (ρ : Rho) (P : Bool → Rho → Prop) : Prop := PT X e (tWT X.K ρ P)
abbrev WW (X : Cx) (e : Expr) (ρ : Rho) (P : Bool → Rho → Prop) : Prop := PW X e (tWT X.K ρ P)
abbrev WA (X : Cx) (e : List Expr) (ρ : Rho) (P : List D → Rho → Prop) : Prop := PA X e (tWA X.K ρ P)
abbrev WI (X : Cx) (tg e : Expr) (ρ : Rho) (P : List D → Rho → Prop) : Prop := PI X tg e (tWI X.K ρ P)
theorem Stp.lax {p : Bool} {ρ ρ1 : Rho} {B H B1 H1 : Hp} (x : Stp p ρ B H ρ1 B1 H1) : Stp false ρ B H ρ1 B1 H1 := x.left fun z => nomatch z
theorem PA.ex {α : Sort _} {X : Cx} {e : List Expr} {t : α → TA} (h : ∀ a, PA X e (t a)) : PA X e (fun σ H Q => ∃ a, t a σ H Q) := ⟨fun pos pins s σ H Q I ⟨a, q⟩ => (h a).run pos pins s σ H Q I q⟩
theorem PW.ex {α : Sort _} {X : Cx} {e : Expr} {t : α → TT} (h : ∀ a, PW X e (t a)) : PW X e (fun σ H Q => ∃ a, t a σ H Q) := ⟨fun wh pins s σ H Q I ⟨a, q⟩ => (h a).run wh pins s σ H Q I q⟩
section
variable {X : Cx} {a b c e tg : Expr} {es : List Expr} {p : Bool} {ρ ρ1 : Rho} {d : D} {ds : List D} {P Q : D → Rho → Prop} {PL QL : List D → Rho → Prop} {PB QB : Bool → Rho → Prop} {pos : Pos}
/-! ### what is known is one of some -/
theorem we_of (h : EV X e p ρ d ρ1) (k : P d ρ1) : WE X e ρ P := PE.imp h fun σ H Q ⟨w, B, R, q⟩ => ⟨w, B, R, fun B' H' v R' s r => q B' H' v d ρ1 k R' s.lax r⟩
theorem wn_of (h : EN X e p ρ ds ρ1) (k : PL ds ρ1) : WN X e ρ PL := PE.imp h fun σ H Q ⟨w, B, R, q⟩ => ⟨w, B, R, fun B' H' a xs R' s n f h r => q B' H' a xs ds ρ1 k R' s.lax n f h r⟩
theorem wt_of {k : Bool} (h : ET X e p ρ k ρ1) (kk : PB k ρ1) : WT X e ρ PB := PT.imp h fun σ H Q ⟨w, B, R, q⟩ => ⟨w, B, R, fun B' H' R' s => q B' H' k ρ1 kk R' s.lax⟩
theorem wa_of (h : EA X es p ρ ds ρ1) (k : PL ds ρ1) : WA X es ρ PL := PA.imp h fun σ H Q ⟨w, B, R, q⟩ => ⟨w, B, R, fun B' H' vs R' s r => q B' H' vs ds ρ1 k R' s.lax r⟩
theorem wi_of (h : ITR X tg e p ρ ds ρ1) (k : PL ds ρ1) : WI X tg e ρ PL := PI.imp h fun σ H Q ⟨w, B, R, q⟩ => ⟨w, B, R, fun B' H' J R' s r => q B' H' J ds ρ1 k R' s.lax r⟩
theorem WE.mono (h : WE X e ρ P) (k : ∀ d r, P d r → Q d r) : WE X e ρ Q := PE.imp h fun σ H Q ⟨w, B, R, q⟩ => ⟨w, B, R, fun B' H' v d r hp => q B' H' v d r (k d r hp)⟩
theorem WT.mono (h : WT X e ρ PB) (k : ∀ d r, PB d r → QB d r) : WT X e ρ QB := PT.imp h fun σ H Q ⟨w, B, R, q⟩ => ⟨w, B, R, fun B' H' d r hp => q B' H' d r (k d r hp)⟩
theorem WI.mono (h : WI X tg e ρ PL) (k : ∀ d r, PL d r → QL d r) : WI X tg e ρ QL := PI.imp h fun σ H Q ⟨w, B, R, q⟩ => ⟨w, B, R, fun B' H' v d r hp => q B' H' v d r (k d r hp)⟩
theorem we_ofN (h : WN X e ρ PL) : WE X e ρ (fun d r => ∃ ds, d = .lst ds ∧ PL ds r) := PE.imp h fun σ H Q ⟨w, B, R, k⟩ => ⟨w, B, R, fun B' H' a xs ds ρ' hp R' s n f h r => by
  refine k (upd B' a (.lst xs)) H' (.ref a) (.lst ds) ρ' ⟨ds, rfl, hp⟩ (R'.freeze f h) ⟨s.b.trans (Grow.freezeB f.b), s.dom, fun x o q m ft => ?_, fun z => nomatch z⟩ (.lst upd_same (r.mono (Grow.freezeB f.b)))
  obtain ⟨h1, h2, h3⟩ := s.al x o q m ft
  have ne : x ≠ a := fun e => by subst e; rw [n] at q; cases q
  exact ⟨h1, by rw [upd_ne ne]; exact h2, h3⟩⟩
/-! ### arguments -/
theorem wa_cons (h : WE X e ρ P) (hr : ∀ d r, P d r → WA X es r (fun ds r' => PL (d :: ds) r')) (hs : starEach (e :: es) X.env = (false, eval e X.env) :: starEach es X.env := by rfl) : WA X (e :: es) ρ PL := by
  have A : PA X es (fun σ H Q => ∃ q : { q : D × Rho // P q.1 q.2 }, tWA X.K q.1.2 (fun ds r' => PL (q.1.1 :: ds) r') σ H Q) := PA.ex fun q => hr q.1.1 q.1.2 q.2
  exact PA.imp (pa_cons h A hs) fun σ H Q ⟨w, B, R, k⟩ => ⟨w, B, R, fun B1 H1 v d r hp R1 s1 r1 => ⟨⟨(d, r), hp⟩, w, B1, R1, fun B2 H2 vs ds r' hq R2 s2 r2 => k B2 H2 (v :: vs) (d :: ds) r' hq R2 (s1.trans s2) (.cons (r1.mono s2.b) r2)⟩⟩
theorem wa_nil (h : PL [] ρ) : WA X [] ρ PL := wa_of ea_nil h

/-! ### operators -/
theorem w_red {r : R2} {P2 : D → Rho → D → Rho → Prop} (h : ∀ x r1 y r2, P x r1 → P2 x r1 y r2 → ∃ z, VOp X.K r x y z ∧ Q z r2) : ∀ σ H QV, tWE X.K ρ Q σ H QV → tOp r (tWE X.K ρ P) (fun σ H Q => ∃ q : { q : D × Rho // P q.1 q.2 }, tWE X.K q.1.2 (P2 q.1.1 q.1.2) σ H Q) σ H QV := fun σ H QV ⟨w, B, R, k⟩ =>
  ⟨w, B, R, fun B1 H1 v x ρ1 hp R1 s1 r1 => ⟨⟨(x, ρ1), hp⟩, w, B1, R1, fun B2 H2 u y ρ2 hp2 R2 s2 r2 => by
    obtain ⟨z, vo, hz⟩ := h x ρ1 y ρ2 hp hp2
    exact vo B2 H2 v u QV R2.ext (r1.mono s2.b) r2 fun B3 H3 t g r => k B3 H3 t z ρ2 hz (R2.grow g) ((s1.trans s2).add g) r⟩⟩
theorem we_bin {op : Operator} {r : R2} {P2 : D → Rho → D → Rho → Prop} (ho : OpR X (binaryOp op) r) (ha : WE X a ρ P) (hb : ∀ x r, P x r → WE X b r (P2 x r)) (h : ∀ x r1 y r2, P x r1 → P2 x r1 y r2 → ∃ z, VOp X.K r x y z ∧ Q z r2) : WE X (.BinOp a op b pos) ρ Q :=
  PE.imp (pe_op ho ha (PE.ex fun q : { q : D × Rho // P q.1 q.2 } => hb q.1.1 q.1.2 q.2)) (w_red h)
theorem we_cmp {op : CmpOp} {r : R2} {P2 : D → Rho → D → Rho → Prop} (ho : OpR X (compareOp op) r) (ha : WE X a ρ P) (hb : ∀ x r, P x r → WE X b r (P2 x r)) (hm : behindInMarks op b = false) (h : ∀ x r1 y r2, P x r1 → P2 x r1 y r2 → ∃ z, VOp X.K r x y z ∧ Q z r2) : WE X (.Compare a [op] [b] pos) ρ Q :=
  PE.imp (pe_cmpR ho ha (PE.ex fun q : { q : D × Rho // P q.1 q.2 } => hb q.1.1 q.1.2 q.2) hm) (w_red h)
theorem wt_cmp {op : CmpOp} {r : R2} {P2 : D → Rho → D → Rho → Prop} (ho : OpR X (compareOp op) r) (ha : WE X a ρ P) (hb : ∀ x r, P x r → WE X b r (P2 x r)) (hm : behindInMarks op b = false) (h : ∀ x r1 y r2, P x r1 → P2 x r1 y r2 → ∃ k, VOp X.K r x y (.bl k) ∧ PB k r2) : WT X (.Compare a [op] [b] pos) ρ PB :=
  PT.imp (pt_cmpR ho ha (PE.ex fun q : { q : D × Rho // P q.1 q.2 } => hb q.1.1 q.1.2 q.2) hm) fun σ H QV ⟨w, B, R, k⟩ => w_red (Q := fun d r => ∃ b, d = .bl b ∧ PB b r) (fun x r1 y r2 h1 h2 => let ⟨b, vo, hb⟩ := h x r1 y r2 h1 h2; ⟨.bl b, vo, b, rfl, hb⟩) σ H _ ⟨w, B, R, fun B' H' v d r' ⟨b, e, hb⟩ R' s rv => by
    subst e
    cases rv
    exact ⟨b, rfl, k B' H' b r' hb R' s⟩⟩
theorem we_ix {r : R2} {P2 : D → Rho → D → Rho → Prop} (ho : IxR X r) (ha : WE X a ρ P) (hb : ∀ x r, P x r → WE X b r (P2 x r)) (h : ∀ x r1 y r2, P x r1 → P2 x r1 y r2 → ∃ z, VOp X.K r x y z ∧ Q z r2) (hs : PlainIx b := by exact fun _ _ => rfl) : WE X (.Subscript a b pos) ρ Q :=
  PE.imp (pe_ix ho ha (PE.ex fun q : { q : D × Rho // P q.1 q.2 } => hb q.1.1 q.1.2 q.2) hs) (w_red h)
/-! ### displays -/
theorem we_tup {k} (h : WA X es ρ PL) (hz : ∀ ds r, PL ds r → ds.length ≤ 100000) (kk : ∀ ds r, PL ds r → Q (.tup ds) r) : WE X (.Tuple es k pos) ρ Q := PE.imp (pe_tup h) fun σ H QV ⟨w, B, R, k⟩ => ⟨w, B, R, fun B1 H1 vs ds r hp R1 s1 r1 => by
  have hz1 : ds.length ≤ sizeLine := Nat.le_trans (hz ds r hp) (by decide)
  refine ⟨by rw [r1.len]; exact hz1, fun t ht => ?_⟩
  have g := Grow.lay (o := .tup vs) R1.ext ht
  exact k _ _ _ _ r (kk ds r hp) (R1.grow g) (s1.add g) (.tup upd_same (r1.mono g.b))⟩
theorem wn_lst (h : WA X es ρ PL) (hz : ∀ ds r, PL ds r → ds.length ≤ 100000) : WN X (.List es pos) ρ PL := PE.imp (pe_lst h) fun σ H QV ⟨w, B, R, k⟩ => ⟨w, B, R, fun B1 H1 vs ds r hp R1 s1 r1 => by
  have hz1 : ds.length ≤ sizeLine := Nat.le_trans (hz ds r hp) (by decide)
  refine ⟨by rw [r1.len]; exact hz1, fun t ht => ?_⟩
  have g := Grow.make (o := .lst vs) R1.ext ht
  have f := Fresh.of R1 ht
  exact k _ _ _ vs ds r hp (R1.grow g) (s1.add g) (s1.free ht) f upd_same (r1.mono g.b)⟩
/-! ### tests -/
theorem wt_val (ha : WE X a ρ (fun d r => ∃ b, d = .bl b ∧ PB b r)) (he : ∀ whole, isTrue a X.env whole = (do let v ← whole; standAt a.pos; holding [v] (truthy v)) := by intro _; rfl) : WT X a ρ PB := PT.imp (pt_val ha he) fun σ H Q ⟨w, B, R, kk⟩ => ⟨w, B, R, fun B' H' v d r' ⟨b, e, hb⟩ R' s r => by
  subst e
  cases r
  exact ⟨b, rfl, kk B' H' b r' hb R' s⟩⟩
theorem wt_not (ha : WT X a ρ PB) : WT X (.UnaryOp .Not a pos) ρ (fun b r => PB (!b) r) := PT.imp (pt_not ha) fun σ H Q ⟨w, B, R, kk⟩ => ⟨w, B, R, fun B' H' b r hp R' s => kk B' H' (!b) r (by show PB (!(!b)) r; rw [Bool.not_not]; exact hp) R' s⟩
theorem ww_and1 (ha : WT X a ρ PB) : WW X (.BoolOp .And [a] pos) ρ PB := pw_and1 ha
theorem ww_or1 (ha : WT X a ρ PB) : WW X (.BoolOp .Or [a] pos) ρ PB := pw_or1 ha
theorem ww_and {rest : List Expr} (ha : WT X a ρ PB) (hb : ∀ r, PB true r → WW X (.BoolOp .And (b :: rest) pos) r QB) (hf : ∀ r, PB false r → QB false r) : WW X (.BoolOp .And (a :: b :: rest) pos) ρ QB :=
  PW.imp (pw_and ha (PW.ex fun q : { q : Rho // PB true q } => hb q.1 q.2)) fun σ H Q ⟨w, B, R, kk⟩ => ⟨w, B, R, fun B1 H1 b r hp R1 s1 => by
    cases b with
    | true => exact iteT ⟨⟨r, hp⟩, w, B1, R1, fun B2 H2 b2 r2 hq R2 s2 => kk B2 H2 b2 r2 hq R2 (s1.trans s2)⟩
    | false => exact iteF (kk B1 H1 false r (hf r hp) R1 s1)⟩
theorem ww_or {rest : List Expr} (ha : WT X a ρ PB) (hb : ∀ r, PB false r → WW X (.BoolOp .Or (b :: rest) pos) r QB) (hf : ∀ r, PB true r → QB true r) : WW X (.BoolOp .Or (a :: b :: rest) pos) ρ QB :=
  PW.imp (pw_or ha (PW.ex fun q : { q : Rho // PB false q } => hb q.1 q.2)) fun σ H Q ⟨w, B, R, kk⟩ => ⟨w, B, R, fun B1 H1 b r hp R1 s1 => by
    cases b with
    | false => exact iteF ⟨⟨r, hp⟩, w, B1, R1, fun B2 H2 b2 r2 hq R2 s2 => kk B2 H2 b2 r2 hq R2 (s1.trans s2)⟩
    | true => exact iteT (kk B1 H1 true r (hf r hp) R1 s1)⟩
theorem wt_w (h : WW X a ρ PB) : WT X a ρ PB := PW.pt h
theorem we_if (ht : WT X c ρ PB) (ha : ∀ r, PB true r → WE X a r Q) (hb : ∀ r, PB false r → WE X b r Q) : WE X (.IfExp c a b pos) ρ Q :=
  PE.imp (pe_ifExp ht (PE.ex fun q : { q : Rho // PB true q } => ha q.1 q.2) (PE.ex fun q : { q : Rho // PB false q } => hb q.1 q.2)) fun σ H Q ⟨w, B, R, kk⟩ => ⟨w, B, R, fun B1 H1 b r hp R1 s1 => by
    cases b with
    | true => exact iteT ⟨⟨r, hp⟩, w, B1, R1, fun B2 H2 v d r2 hq R2 s2 r => kk B2 H2 v d r2 hq R2 (s1.trans s2) r⟩
    | false => exact iteF ⟨⟨r, hp⟩, w, B1, R1, fun B2 H2 v d r2 hq R2 s2 r => kk B2 H2 v d r2 hq R2 (s1.trans s2) r⟩⟩

/-! ### calls -/
section
variable {k : Nat} {f : Addr} {fd : FuncData} {ps : List Str} {x : Str} {pp : Pos} {id T : String} {r : List V → Hp → VK → Prop}
theorem we_callB (hc : CallR X (.builtin id) r) (h : ∀ ds r1, PL ds r1 → ∃ z, VCall X.K r ds z ∧ Q z r1) (hm : X.mg x = none) (hv : bootBuiltins x = some (.builtin id)) (ha : WA X (e :: es) ρ PL) (hg : Gl X x := by rfl) (hn : x ≠ "__name__" := by decide) (hdb : (x == ("__debug__" : Str)) = false := by decide)
    (he : starEach (e :: es) X.env = (false, eval e X.env) :: starEach es X.env := by rfl) (hpl : (backTo pos (starEach es X.env)).any (·.1) = false := by rfl) : WE X (.Call (.Name x pp) (e :: es) [] pos) ρ Q :=
  PE.imp (pe_callB hc hg hm hv ha hn hdb he hpl) fun σ H Q ⟨w, B, R, k⟩ => ⟨w, B, R, fun B1 H1 vs ds r1 hp R1 s1 rr => by
    obtain ⟨z, vc, hz⟩ := h ds r1 hp
    exact vc B1 H1 vs Q R1.ext rr fun B2 H2 t g r2 => k B2 H2 t z r1 hz (R1.grow g) (s1.add g) r2⟩
theorem we_callTy (hc : CallR X (.type T) r) (h : ∀ ds r1, PL ds r1 → ∃ z, VCall X.K r ds z ∧ Q z r1) (hm : X.mg x = none) (hv : bootBuiltins x = some (.type T)) (ha : WA X (e :: es) ρ PL) (hg : Gl X x := by rfl) (hn : x ≠ "__name__" := by decide) (hdb : (x == ("__debug__" : Str)) = false := by decide)
    (he : starEach (e :: es) X.env = (false, eval e X.env) :: starEach es X.env := by rfl) (hpl : (backTo pos (starEach es X.env)).any (·.1) = false := by rfl) : WE X (.Call (.Name x pp) (e :: es) [] pos) ρ Q :=
  PE.imp (pe_callTy hc hg hm hv ha hn hdb he hpl) fun σ H Q ⟨w, B, R, k⟩ => ⟨w, B, R, fun B1 H1 vs ds r1 hp R1 s1 rr => by
    obtain ⟨z, vc, hz⟩ := h ds r1 hp
    exact vc B1 H1 vs Q R1.ext rr fun B2 H2 t g r2 => k B2 H2 t z r1 hz (R1.grow g) (s1.add g) r2⟩
theorem we_call {C : CP} (F : FnOk X.prog X.w X.K X.mg X.base CX0 k f fd ps (spP X.K C)) (hr : Room k X.A) (hm : X.mg x = some (.ref f)) (hk : PySem.W.keepIn X.K (.ref f) = true) (hb : Binds X.K fd ps []) (ha : WA X (e :: es) ρ (fun ds r => C ds (fun d => Q d r)))
    (hg : Gl X x := by rfl) (hdb : (x == ("__debug__" : Str)) = false := by decide) (he : starEach (e :: es) X.env = (false, eval e X.env) :: starEach es X.env := by rfl) (hpl : (backTo pos (starEach es X.env)).any (·.1) = false := by rfl) :
    WE X (.Call (.Name x pp) (e :: es) [] pos) ρ Q := PE.imp (pe_call F hr hg hm hk hb .nil pass0 ha hdb he hpl) fun σ H QV ⟨w, B, R, kk⟩ => ⟨w, B, R, fun B1 H1 vs ds r hC R1 s1 r1 => by
  show spP X.K C (vs ++ []) H1 QV E0
  rw [List.append_nil]
  exact ⟨B1, ds, _, hC, R1.ext, r1, fun B' H' v d g hd rv => kk B' H' v d r hd (R1.grow g) (s1.add g) rv⟩⟩
/-- f(pool, e, ..) -/
theorem we_callM {C : CM} {px : Pos} {y : Str} {a : Addr} {ws0 : List D} {s0 : Slot} (i : Nat) (F : FnOk X.prog X.w X.K X.mg X.base CX0 k f fd ps (spM X.K C)) (hr : Room k X.A) (hm : X.mg x = some (.ref f)) (hk : PySem.W.keepIn X.K (.ref f) = true) (hb : Binds X.K fd ps [])
    (hs0 : ρ[i]? = some s0) (hsk : s0 = .ow a (.l ws0) ∨ s0 = .pr a (.l ws0)) (ha : WA X es ρ (fun ds r => ∃ ws, r[i]? = some (relend s0 ws) ∧ C ws ds (fun d w => Q d (r.set i (relend s0 w)))))
    (hN : X.N[i]? = some y := by rfl) (hv : Vis X.env.scope y := by first | exact Or.inl rfl | exact Or.inr (Or.inl rfl) | exact Or.inr (Or.inr rfl)) (hd : (y == ("__debug__" : Str)) = false := by decide) (hcd : (y == ("__classdict__" : Str)) = false := by decide)
    (hg : Gl X x := by rfl) (hdb : (x == ("__debug__" : Str)) = false := by decide) (he : starEach (.Name y px :: es) X.env = (false, eval (.Name y px) X.env) :: starEach es X.env := by rfl) (hpl : (backTo pos (starEach es X.env)).any (·.1) = false := by rfl) :
    WE X (.Call (.Name x pp) (.Name y px :: es) [] pos) ρ Q := PE.imp (pe_call F hr hg hm hk hb .nil pass0 (pa_cons (pe_var hN hv hd hcd) ha he) hdb he hpl) fun σ H QV ⟨w, B, R, kk⟩ => by
  have sl : σ[i]? = some (some (.ref a)) := (own_at R hs0 hsk).1
  refine ⟨_, sl, w, B, R, fun B1 H1 vs ds r ⟨ws, hs, hC⟩ R1 s1 r1 => ?_⟩
  show spM X.K C ((V.ref a :: vs) ++ []) H1 QV E0
  rw [List.append_nil]
  have hk1 := relend_is (ws' := ws) hsk
  have hre : ∀ w, relend (relend s0 ws) w = relend s0 w := fun w => by rcases hsk with h | h <;> rw [h] <;> rfl
  obtain ⟨_, xs, h1, h2⟩ := own_at R1 hs hk1
  have sp := R1.sep i _ hs a (by rcases hk1 with h | h <;> rw [h] <;> simp [Slot.foot, W.foot])
  refine ⟨B1, a, vs, xs, ws, ds, _, rfl, hC, R1.ext, r1, h1, sp, h2, fun B' H' v d xs' ws2 g e2 r2 hd rv => ?_⟩
  have L := lent R1 hs hk1 g e2 r2
  rw [hre] at L
  have ft : (relend s0 ws2).foot = (relend s0 ws).foot := by rcases hsk with h | h <;> rw [h] <;> rfl
  have st : Stp false r B1 H1 (r.set i (relend s0 ws2)) B' H' := ⟨g.b, g.dom, fun x o q m ft' => by
    have ne : x ≠ a := fun z => ft' i _ hs (by rcases hk1 with h | h <;> rw [h] <;> simp [Slot.foot, W.foot, z])
    refine ⟨g.fr x o q ne, ?_, fun j t hj => ?_⟩
    · cases z : B' x with
      | none => rfl
      | some u =>
        rcases g.new x u z with q' | q'
        · rw [m] at q'; cases q'
        · rw [q] at q'; cases q'
    · rcases set_cases hj with ⟨rfl, rfl, _⟩ | ⟨_, hj⟩
      · rw [ft]; exact ft' _ _ hs
      · exact ft' j t hj, fun z => nomatch z⟩
  exact kk B' H' v d _ hd L (s1.trans st) rv
end

/-! ### statements -/
section
variable {x : Str} {pos' : Pos} {DD : DEnds} {body orelse rest : List Stmt} {js : List Nat}
theorem s_asgW {i : Nat} (h : WE X e ρ P) (nd : X.N.Nodup) (k : ∀ d r, P d r → DD.nx (r.set i (.fr d))) (hN : X.N[i]? = some x := by rfl) (hx : Loc X.env.scope x := by first | exact Or.inl rfl | exact Or.inr rfl) (hs : swapsWith e (some (.Name x pos')) pos.line X.env = pure false := by rfl)
    (hf : X.fn x = true ∨ X.env.scope.names.lookup x = some .local := by first | exact .inl rfl | exact .inr rfl) : S1 X (.Assign [.Name x pos'] e pos) ρ DD :=
  PS.imp (ps_set nd hN hx h hs hf) fun E σ H ⟨w, B, R, hl, g⟩ => ⟨w, B, R, fun B' H' v d r hp R' s rv => g.nx _ _ B' H' (k d r hp) (R'.putF (slot_lt (n := 0) hN hl) rv) s.b (by rw [List.length_set]; exact hl)⟩
theorem s_newW {i : Nat} (h : WN X e ρ PL) (nd : X.N.Nodup) (k : ∀ ds r a, PL ds r → DD.nx (r.set i (.ow a (.l ds)))) (hN : X.N[i]? = some x := by rfl) (hx : Loc X.env.scope x := by first | exact Or.inl rfl | exact Or.inr rfl) (hs : swapsWith e (some (.Name x pos')) pos.line X.env = pure false := by rfl)
    (hf : X.fn x = true ∨ X.env.scope.names.lookup x = some .local := by first | exact .inl rfl | exact .inr rfl) : S1 X (.Assign [.Name x pos'] e pos) ρ DD :=
  PS.imp (ps_set nd hN hx h hs hf) fun E σ H ⟨w, B, R, hl, g⟩ => ⟨w, B, R, fun B' H' a xs ds r hp R' s _ f h rv => g.nx _ _ B' H' (k ds r a hp) (R'.putL (slot_lt (n := 0) hN hl) f h rv) s.b (by rw [List.length_set]; exact hl)⟩
theorem s_retW (h : WE X e ρ P) (k : ∀ d r, P d r → DD.rt d r) : S1 X (.Return (some e) pos) ρ DD :=
  PS.imp (ps_ret h) fun E σ H ⟨w, B, R, hl, g⟩ => ⟨w, B, R, fun B' H' v d r hp R' s rv => g.rt d r σ B' H' v (k d r hp) R' rv⟩
theorem st_retW (h : WE X e ρ P) (k : ∀ d r, P d r → DD.rt d r) : ST X (.Return (some e) pos :: rest) ρ DD := st_cons (M := fun _ => False) (s_retW h k) fun _ z => z.elim
theorem s_ifW (h : WT X c ρ PB) (h1 : ∀ r, PB true r → ST X body r DD) (h2 : ∀ r, PB false r → ST X orelse r DD) : S1 X (.If c body orelse pos) ρ DD :=
  PS.imp (ps_if h (PSs.ex fun q : { q : Rho // PB true q } => h1 q.1 q.2) (PSs.ex fun q : { q : Rho // PB false q } => h2 q.1 q.2)) fun E σ H ⟨w, B, R, hl, g⟩ => ⟨w, B, R, fun B' H' b r hp R' s => by
    cases b with
    | true => exact iteT ⟨⟨r, hp⟩, w, B', R', hl, g.mono s.b⟩
    | false => exact iteF ⟨⟨r, hp⟩, w, B', R', hl, g.mono s.b⟩⟩
theorem st_ifW (h : WT X c ρ PB) (h1 : ∀ r, PB true r → ST X body r { DD with nx := fun r => ST X rest r DD }) (h2 : ∀ r, PB false r → ST X orelse r { DD with nx := fun r => ST X rest r DD }) : ST X (.If c body orelse pos :: rest) ρ DD := st_thru (s_ifW h h1 h2)
theorem s_exprW (h : WE X e ρ P) (k : ∀ d r, P d r → DD.nx r) (hs : swapsWith e none pos.line X.env = pure false := by rfl) : S1 X (.Expr e pos) ρ DD :=
  PS.imp (ps_expr h hs) fun E σ H ⟨w, B, R, hl, g⟩ => ⟨w, B, R, fun B' H' v d r hp R' s rv => g.nx r σ B' H' (k d r hp) R' s.b hl⟩
/-- target = e, the outcome one of some -/
theorem s_asgTW (h : WE X e ρ P) (ht : ∀ d r, P d r → ∃ r', TGT X tg js d r r' ∧ DD.nx r') (hj : js.all (fun j => decide (j < X.N.length)) = true := by rfl) (hs : swapsWithSole [tg] e pos.line X.env = pure false := by rfl) (hw : swappedStores [tg] e X.env = pure none := by rfl)
    (h1 : (assignEach [tg] X.env).map (·.2) = [assign tg X.env] := by rfl) : S1 X (.Assign [tg] e pos) ρ DD := by
  have W := fun q : { q : D × Rho // P q.1 q.2 } => ht q.1.1 q.1.2 q.2
  obtain ⟨f, W⟩ := Classical.axiomOfChoice W
  exact PS.imp (ps_asg h (PG.ex fun q => (W q).1) hs hw h1) fun E σ H ⟨w, B, R, hl, g⟩ => ⟨w, B, R, fun B1 H1 v d r hp R1 s1 r1 => ⟨⟨(d, r), hp⟩, w, B1, R1, fun j q => by rw [hl]; exact of_decide_eq_true (List.all_eq_true.mp hj j q), r1, fun σ' R2 l2 _ _ => g.nx _ σ' B1 H1 (W ⟨(d, r), hp⟩).2 R2 s1.b (l2.trans hl)⟩⟩
/-- a for whose items are one of some rows -/
theorem s_forW (I : List D → Nat → Rho → Prop) (hi : WI X tg e ρ PL) (h0 : ∀ ds r, PL ds r → I ds 0 r)
    (hb : ∀ ds i d ρ, ds[i]? = some d → I ds i ρ → ∃ ρt, TGT X tg js d ρ ρt ∧ ST X body ρt { DD with nx := I ds (i + 1), ct := I ds (i + 1), bk := DD.nx }) (hn : ∀ ds ρ, I ds ds.length ρ → DD.nx ρ) (hj : js.all (fun j => decide (j < X.N.length)) = true := by rfl)
    (hp : PassesOwn (model X.prog X.w) X.A X.env X.xe := by first | exact PassesOwn.never | exact passes_of rfl) (hc : X.calm = true := by rfl) (hs : ∀ x, foldedSetIterable e X.env x = pure x := by intro _; rfl) : S1 X (.For tg e body [] pos) ρ DD := by
  have tgx := fun q : { q : List D × Nat × D × Rho // q.1[q.2.1]? = some q.2.2.1 ∧ I q.1 q.2.1 q.2.2.2 } => hb q.1.1 q.1.2.1 q.1.2.2.1 q.1.2.2.2 q.2.1 q.2.2
  obtain ⟨f, W⟩ := Classical.axiomOfChoice tgx
  refine PS.imp (ps_for hp hc hi (PG.ex fun q => (W q).1) (PSs.ex fun q => (W q).2) hs) fun E σ H ⟨w, B, R, hl, g⟩ => ⟨w, B, R, fun B1 H1 J ds ρ1 hpl R1 s1 sv => ?_⟩
  refine ⟨fun i m σ' H' => m = ds.length - i ∧ i ≤ ds.length ∧ ∃ B' ρ', SR X.K w B' H' σ' ρ' ∧ Same B1 B' ∧ σ'.length = X.N.length ∧ I ds i ρ', ⟨_, rfl, Nat.zero_le _, B1, ρ1, R1, Same.refl _, hl, h0 ds ρ1 hpl⟩, ?_⟩
  rintro i m σ' H' ⟨rfl, hle, B', ρ', R', e', l', hI⟩
  obtain ⟨sv1, sv2⟩ := sv i B' H' e' R'.ext
  by_cases hlt : i < ds.length
  · have hd : ds[i]? = some ds[i] := List.getElem?_eq_getElem hlt
    obtain ⟨go, yl⟩ := sv1 _ hd
    refine .inr ⟨go, fun σ2 H2 => ∃ B2 ρ2, SR X.K w B2 H2 σ2 ρ2 ∧ Same B1 B2 ∧ σ2.length = X.N.length ∧ I ds (i + 1) ρ2, fun σ2 H2 h => ⟨_, (by omega : ds.length - (i + 1) < ds.length - i), rfl, hlt, h⟩, fun x H2 y => ?_⟩
    obtain ⟨B2, g2, rx⟩ := yl x H2 y
    have R2 := R'.grow g2
    refine ⟨⟨(ds, i, ds[i], ρ'), hd, hI⟩, w, B2, R2, fun j q => by rw [l']; exact of_decide_eq_true (List.all_eq_true.mp hj j q), rx, fun σ3 R3 l3 _ _ => ⟨⟨(ds, i, ds[i], ρ'), hd, hI⟩, w, B2, R3, l3.trans l', ?_⟩⟩
    have e2 : Same B1 B2 := e'.trans g2.b
    exact ⟨fun ρ4 σ4 B4 H4 h4 R4 s4 l4 => ⟨B4, ρ4, R4, e2.trans s4, l4, h4⟩, g.rt, fun ρ4 σ4 B4 H4 h4 R4 s4 l4 => g.nx ρ4 σ4 B4 H4 h4 R4 ((s1.b.trans e2).trans s4) l4, fun ρ4 σ4 B4 H4 h4 R4 s4 l4 => ⟨B4, ρ4, R4, e2.trans s4, l4, h4⟩, fun cls pay ρ4 σ4 B4 H4 d h4 R4 s4 l4 po => g.ex cls pay ρ4 σ4 B4 H4 d h4 R4 ((s1.b.trans e2).trans s4) l4 po⟩
  · have e : i = ds.length := by omega
    subst e
    exact .inl ⟨sv2 (Nat.le_refl _), g.nx ρ' σ' B' H' (hn ds _ hI) R' (s1.b.trans e') l'⟩
end
/-! what is walked -/
section
variable {pp : Pos}
theorem wi_list (h : WE X e ρ (fun d r => ∃ ds, d = .lst ds ∧ PL ds r)) : WI X tg e ρ PL := PI.imp (pi_list h) fun σ H R0 ⟨w, B, R, k⟩ => ⟨w, B, R, fun B1 H1 v d r ⟨ds, e, hp⟩ R1 s1 r1 => by
  subst e
  cases r1 with
  | lst hb r' => exact ⟨_, rfl, ⟨_, SqL.of (R1.ext _ _ hb)⟩, k B1 H1 _ ds r hp R1 s1 (serves_list hb r')⟩⟩
theorem wi_tup (h : WE X e ρ (fun d r => ∃ ds, d = .tup ds ∧ PL ds r)) : WI X tg e ρ PL := PI.imp (pi_tup h) fun σ H R0 ⟨w, B, R, k⟩ => ⟨w, B, R, fun B1 H1 v d r ⟨ds, e, hp⟩ R1 s1 r1 => by
  subst e
  cases r1 with
  | tup hb r' => exact ⟨_, rfl, ⟨_, SqT.of (R1.ext _ _ hb)⟩, k B1 H1 _ ds r hp R1 s1 (serves_tup hb r')⟩⟩
theorem wi_range (h : WE X e ρ (fun d r => ∃ n : Int, d = .int n ∧ -(2 ^ 62) ≤ n ∧ n < 2 ^ 62 ∧ PL (rgD 0 n.toNat) r)) (hm : X.mg "range" = none) (hg : Gl X "range" := by rfl) (hs : starEach [e] X.env = [(false, eval e X.env)] := by rfl) : WI X tg (.Call (.Name "range" pp) [e] [] pos) ρ PL :=
  PI.imp (pi_range1 hg hm (pa_cons h pa_nil hs) hs) fun σ H R0 ⟨w, B, R, k⟩ => ⟨w, B, R, fun B1 H1 v d r ⟨n, e, h0, h1, hp⟩ R1 s1 r1 => by
    subst e
    cases r1
    exact ⟨n, rfl, h0, h1, k B1 H1 _ _ r hp R1 s1 serves_range⟩⟩
end

/-! ### comprehensions -/
theorem lc_ex {elt : Expr} {ifs : List Expr} {scope : Scope} {own : List (Str × Nat)} (I : List D → Nat → List D → Rho → Prop) (hi : WI X tg e ρ PL) (nd : X.N.Nodup) (ok : BlkOk X.N X.env.scope scope own)
    (h0 : ∀ ds r, PL ds r → I ds 0 [] (unR r (own.map (·.2))) ∧ ds.length < 16777216 ∧ (own.map (·.2)).all (fun j => decide (j < r.length)) = true)
    (hb : ∀ ds i d acc ρ, ds[i]? = some d → I ds i acc ρ → ∃ ρt PT, (∀ (s : Shared) (H : Hp) (C : Addr) (cl : List (Str × Addr)) (fp : List Addr), TGT (X.blk s H scope (compEnvC scope cl C X.env) fp) tg (own.map (·.2)) d ρ ρt) ∧
      (∀ (s : Shared) (H : Hp) (C : Addr) (cl : List (Str × Addr)) (fp : List Addr), PTs (X.blk s H scope (compEnvC scope cl C X.env) fp) ifs (tWT X.K ρt PT)) ∧
      (∀ r, PT false r → I ds (i + 1) acc (unR r (own.map (·.2)))) ∧
      (∀ r, PT true r → ∀ (s : Shared) (H : Hp) (C : Addr) (cl : List (Str × Addr)) (fp : List Addr), WE (X.blk s H scope (compEnvC scope cl C X.env) fp) elt r (fun z r2 => I ds (i + 1) (acc ++ [z]) (unR r2 (own.map (·.2))))))
    : ∃ (wi : TI) (g : TG) (tt : TT) (te : TE), PI X tg e wi ∧ (∀ (s : Shared) (H : Hp) (C : Addr) (cl : List (Str × Addr)) (fp : List Addr), PG (X.blk s H scope (compEnvC scope cl C X.env) fp) tg g) ∧ (∀ (s : Shared) (H : Hp) (C : Addr) (cl : List (Str × Addr)) (fp : List Addr), PTs (X.blk s H scope (compEnvC scope cl C X.env) fp) ifs tt) ∧
      (∀ (s : Shared) (H : Hp) (C : Addr) (cl : List (Str × Addr)) (fp : List Addr), PE (X.blk s H scope (compEnvC scope cl C X.env) fp) elt te) ∧ ∀ σ H Q, tWN X.K ρ (fun zs r => ∃ ds r', I ds ds.length zs r' ∧ r = unR r' (own.map (·.2))) σ H Q → tLc wi g tt te (own.map (·.2)) σ H Q := by
  have W := fun q : { q : List D × Nat × D × List D × Rho // q.1[q.2.1]? = some q.2.2.1 ∧ I q.1 q.2.1 q.2.2.2.1 q.2.2.2.2 } => hb q.1.1 q.1.2.1 q.1.2.2.1 q.1.2.2.2.1 q.1.2.2.2.2 q.2.1 q.2.2
  obtain ⟨fρt, W⟩ := Classical.axiomOfChoice W
  obtain ⟨fPT, W⟩ := Classical.axiomOfChoice W
  have A : ∀ (s : Shared) (H : Hp) (C : Addr) (cl : List (Str × Addr)) (fp : List Addr), PG (X.blk s H scope (compEnvC scope cl C X.env) fp) tg (fun v σ H Q => ∃ q, tTG X.K (own.map (·.2)) q.1.2.2.1 q.1.2.2.2.2 (fρt q) v σ H Q) := fun s H C cl fp => PG.ex fun q => (W q).1 s H C cl fp
  have T : ∀ (s : Shared) (H : Hp) (C : Addr) (cl : List (Str × Addr)) (fp : List Addr), PTs (X.blk s H scope (compEnvC scope cl C X.env) fp) ifs (fun σ H Q => ∃ q, tWT X.K (fρt q) (fPT q) σ H Q) := fun s H C cl fp =>
    ⟨fun pins s' σ' H' Q I' ⟨q, h⟩ => ((W q).2.1 s H C cl fp).run pins s' σ' H' Q I' h⟩
  have Ev : ∀ (s : Shared) (H : Hp) (C : Addr) (cl : List (Str × Addr)) (fp : List Addr), PE (X.blk s H scope (compEnvC scope cl C X.env) fp) elt (fun σ H Q => ∃ q : { q : { q : List D × Nat × D × List D × Rho // q.1[q.2.1]? = some q.2.2.1 ∧ I q.1 q.2.1 q.2.2.2.1 q.2.2.2.2 } × Rho // fPT q.1 true q.2 },
      tWE X.K q.1.2 (fun z r2 => I q.1.1.1.1 (q.1.1.1.2.1 + 1) (q.1.1.1.2.2.2.1 ++ [z]) (unR r2 (own.map (·.2)))) σ H Q) := fun s H C cl fp => PE.ex fun q => (W q.1.1).2.2.2 q.1.2 q.2 s H C cl fp
  refine ⟨_, _, _, _, hi, A, T, Ev, fun σ H Q ⟨w, B, R, k⟩ => ⟨w, B, R, fun B1 H1 J ds ρ1 hpl R1 s1 sv => ?_⟩⟩
  intro dl hD
  obtain ⟨h0, hz, hj⟩ := h0 ds ρ1 hpl
  have fD := Fresh.of R1 hD
  have g0 := Grow.make (o := .lst []) R1.ext hD
  have R1' := R1.grow g0
  let St : Nat → Hp → Prop := fun i H' => ∃ B' ρ' acc xs, SR X.K w B' H' (wipe σ (own.map (·.2))) ρ' ∧ Same B1 B' ∧ H' dl = some (.lst xs) ∧ B' dl = none ∧ Out dl ρ' ∧ Reps X.K B' xs acc ∧ I ds i acc ρ' ∧ acc.length ≤ i ∧
    (∀ a o, H1 a = some o → B1 a = none → Out a ρ1 → H' a = some o ∧ B' a = none ∧ Out a ρ') ∧ (∀ a, H1 a ≠ none → H' a ≠ none) ∧ ρ'.length = ρ1.length
  have wl : ∀ j, j ∉ own.map (·.2) → (wipe σ (own.map (·.2)))[j]? = σ[j]? := fun j hj => by rw [wipe_get, if_neg hj]
  refine ⟨fun i m H' => m = ds.length - i ∧ i ≤ ds.length ∧ St i H', ⟨_, rfl, Nat.zero_le _, B1, unR ρ1 (own.map (·.2)), [], [], R1'.wiped (wipe_length _ _) wl, Same.refl _, upd_same, fD.b, Out.un fD.foot, .nil, h0, Nat.le_refl _,
    fun a o h n f => ⟨g0.h a o h, n, Out.un f⟩, fun a h => Same.ne g0.h h, unR_len⟩, ?_⟩
  rintro i m H' ⟨rfl, hle, B', ρ', acc, xs, R', e', hx, bD, fD', rx, hI, hal, al, dm, lenρ⟩
  obtain ⟨sv1, sv2⟩ := sv i B' H' e' R'.ext
  by_cases hlt : i < ds.length
  · have hd : ds[i]? = some ds[i] := List.getElem?_eq_getElem hlt
    obtain ⟨go, yl⟩ := sv1 _ hd
    refine .inr ⟨go, St (i + 1), fun H2 h => ⟨ds.length - (i + 1), by omega, rfl, hlt, h⟩, fun x H2 y => ?_⟩
    obtain ⟨B2, g2, rv⟩ := yl x H2 y
    have R2 := R'.grow g2
    let q : { q : List D × Nat × D × List D × Rho // q.1[q.2.1]? = some q.2.2.1 ∧ I q.1 q.2.1 q.2.2.2.1 q.2.2.2.2 } := ⟨(ds, i, ds[i], acc, ρ'), hd, hI⟩
    have gs2 : Stp true ρ' B' H' ρ' B2 H2 := Stp.ofGrow g2
    refine ⟨q, w, B2, R2, fun j hq => by rw [wipe_length, R1.len]; exact of_decide_eq_true (List.all_eq_true.mp hj j hq), rv, fun σ3 R3 l3 k3 f3 => ⟨wipe_eq l3 k3, q, w, B2, R3, fun B3 H3 b ρa hb R4 s4 => ?_⟩⟩
    have ch : ∀ a o, H' a = some o → B' a = none → Out a ρ' → H3 a = some o ∧ B3 a = none ∧ Out a ρa := fun a o h n f => by
      obtain ⟨h2, n2, f2⟩ := gs2.al a o h n f
      refine s4.al a o h2 n2 fun j s hs => ?_
      rcases f3 j s hs with z | z
      · rw [z]; simp
      · exact f2 j s z
    obtain ⟨hx3, bD3, oD3⟩ := ch dl _ hx bD fD'
    have back : ∀ {B : Hp} {H : Hp} {ρ : Rho}, SR X.K w B H σ3 ρ → SR X.K w B H (wipe σ (own.map (·.2))) (unR ρ (own.map (·.2))) := fun {B H ρ} R => R.wiped l3.symm fun j hj => (k3 j hj).symm
    have dm3 : ∀ a, H1 a ≠ none → H3 a ≠ none := fun a h => s4.dom a (Same.ne g2.h (dm a h))
    have l4 : ρa.length = ρ1.length := by rw [← R4.len, l3, wipe_length, R1.len]
    cases b with
    | true =>
      refine iteT ⟨⟨(q, ρa), hb⟩, w, B3, R4, fun B4 H4 v z ρb hI2 R5 s5 r5 => ?_⟩
      obtain ⟨hx4, bD4, oD4⟩ := s5.al dl _ hx3 bD3 oD3
      have rx4 : Reps X.K B4 xs acc := rx.mono ((g2.b.trans s4.b).trans s5.b)
      refine ⟨xs, hx4, by rw [rx.len, sizeLine_eq]; omega, B4, _, acc ++ [z], xs ++ [v], (back R5).alien fD.h0 bD4 (Out.un oD4), e'.trans ((g2.b.trans s4.b).trans s5.b), upd_same, bD4, Out.un oD4, rx4.append (.cons r5 .nil), hI2, by rw [List.length_append, List.length_singleton]; omega, fun a o h n f => ?_, fun a h => ?_, ?_⟩
      · obtain ⟨h1, n1, f1⟩ := al a o h n f
        obtain ⟨h2, n2, f2⟩ := ch a o h1 n1 f1
        obtain ⟨h3, n3, f3⟩ := s5.al a o h2 n2 f2
        have ne : a ≠ dl := fun z => by rw [z, hD] at h; cases h
        exact ⟨by rw [upd_ne ne]; exact h3, n3, Out.un f3⟩
      · by_cases ne : a = dl
        · subst ne; rw [upd_same]; simp
        · rw [upd_ne ne]; exact s5.dom a (dm3 a h)
      · rw [unR_len, ← R5.len, l3, wipe_length, R1.len]
    | false =>
      refine iteF ⟨B3, _, acc, xs, back R4, e'.trans (g2.b.trans s4.b), hx3, bD3, Out.un oD3, rx.mono (g2.b.trans s4.b), (W q).2.2.1 ρa hb, by omega, fun a o h n f => ?_, dm3, by rw [unR_len]; exact l4⟩
      obtain ⟨h1, n1, f1⟩ := al a o h n f
      obtain ⟨h2, n2, f2⟩ := ch a o h1 n1 f1
      exact ⟨h2, n2, Out.un f2⟩
  · have e : i = ds.length := by omega
    subst e
    refine .inl ⟨sv2 (Nat.le_refl _), k B' H' dl xs acc _ ⟨ds, ρ', hI, rfl⟩ (R'.wiped (wipe_length _ _).symm fun j hj => (wl j hj).symm) ?_ (s1.free hD) ⟨fD.h0, bD, Out.un fD'⟩ hx rx⟩
    have st : Stp false ρ1 B1 H1 (unR ρ' (own.map (·.2))) B' H' := ⟨e', dm, fun a o h n f => by
      obtain ⟨h1, n1, f1⟩ := al a o h n f
      exact ⟨h1, n1, Out.un f1⟩, fun z => nomatch z⟩
    exact (s1.trans st).left fun z => nomatch z
theorem wn_lc {elt : Expr} {ifs : List Expr} {scope : Scope} {own : List (Str × Nat)} (I : List D → Nat → List D → Rho → Prop) (hi : WI X tg e ρ PL) (nd : X.N.Nodup) (ok : BlkOk X.N X.env.scope scope own)
    (h0 : ∀ ds r, PL ds r → I ds 0 [] (unR r (own.map (·.2))) ∧ ds.length < 16777216 ∧ (own.map (·.2)).all (fun j => decide (j < r.length)) = true)
    (hb : ∀ ds i d acc ρ, ds[i]? = some d → I ds i acc ρ → ∃ ρt PT, (∀ (s : Shared) (H : Hp) (C : Addr) (cl : List (Str × Addr)) (fp : List Addr), TGT (X.blk s H scope (compEnvC scope cl C X.env) fp) tg (own.map (·.2)) d ρ ρt) ∧
      (∀ (s : Shared) (H : Hp) (C : Addr) (cl : List (Str × Addr)) (fp : List Addr), PTs (X.blk s H scope (compEnvC scope cl C X.env) fp) ifs (tWT X.K ρt PT)) ∧
      (∀ r, PT false r → I ds (i + 1) acc (unR r (own.map (·.2)))) ∧
      (∀ r, PT true r → ∀ (s : Shared) (H : Hp) (C : Addr) (cl : List (Str × Addr)) (fp : List Addr), WE (X.blk s H scope (compEnvC scope cl C X.env) fp) elt r (fun z r2 => I ds (i + 1) (acc ++ [z]) (unR r2 (own.map (·.2))))))
    (hn : ∀ ds zs r, I ds ds.length zs r → QL zs (unR r (own.map (·.2))))
    (hc : X.calm = true := by rfl) (hs : ∀ x, foldedSetIterable e X.env x = pure x := by intro _; rfl) : WN X (.ListComp elt [⟨tg, e, ifs, 0⟩] scope pos) ρ QL := by
  obtain ⟨wi, g, tt, te, h1, h2, h3, h4, h5⟩ := lc_ex I hi nd ok h0 hb
  exact PE.imp (pe_lc hc nd h1 ok h2 h3 h4 hs) fun σ H Q ⟨w, B, R, k⟩ => h5 σ H Q ⟨w, B, R, fun B' H' a xs ds r ⟨ds', r', hI, e⟩ => k B' H' a xs ds r (e ▸ hn ds' ds r' hI)⟩
/-- y = [..] on one line, y a local: the new list y's own -/
theorem s_setLc {y : Str} {py : Pos} {DD : DEnds} {i : Nat} {elt : Expr} {ifs : List Expr} {scope : Scope} {own : List (Str × Nat)} (I : List D → Nat → List D → Rho → Prop) (hi : WI X tg e ρ PL) (nd : X.N.Nodup) (ok : BlkOk X.N X.env.scope scope own)
    (h0 : ∀ ds r, PL ds r → I ds 0 [] (unR r (own.map (·.2))) ∧ ds.length < 16777216 ∧ (own.map (·.2)).all (fun j => decide (j < r.length)) = true)
    (hb : ∀ ds i d acc ρ, ds[i]? = some d → I ds i acc ρ → ∃ ρt PT, (∀ (s : Shared) (H : Hp) (C : Addr) (cl : List (Str × Addr)) (fp : List Addr), TGT (X.blk s H scope (compEnvC scope cl C X.env) fp) tg (own.map (·.2)) d ρ ρt) ∧
      (∀ (s : Shared) (H : Hp) (C : Addr) (cl : List (Str × Addr)) (fp : List Addr), PTs (X.blk s H scope (compEnvC scope cl C X.env) fp) ifs (tWT X.K ρt PT)) ∧
      (∀ r, PT false r → I ds (i + 1) acc (unR r (own.map (·.2)))) ∧
      (∀ r, PT true r → ∀ (s : Shared) (H : Hp) (C : Addr) (cl : List (Str × Addr)) (fp : List Addr), WE (X.blk s H scope (compEnvC scope cl C X.env) fp) elt r (fun z r2 => I ds (i + 1) (acc ++ [z]) (unR r2 (own.map (·.2))))))
    (k : ∀ ds zs r a, I ds ds.length zs r → DD.nx ((unR r (own.map (·.2))).set i (.ow a (.l zs)))) (hy : X.N[i]? = some y := by rfl) (hyl : X.env.scope.names.lookup y = some .local := by rfl)
    {spos : Pos} (hsw : swapsWith (.ListComp elt [⟨tg, e, ifs, 0⟩] scope pos) (some (.Name y py)) spos.line X.env = pure true := by exact sw_true rfl rfl rfl (by decide +kernel))
    (hc : X.calm = true := by rfl) (hs : ∀ x, foldedSetIterable e X.env x = pure x := by intro _; rfl) : S1 X (.Assign [.Name y py] (.ListComp elt [⟨tg, e, ifs, 0⟩] scope pos) spos) ρ DD := by
  obtain ⟨wi, g, tt, te, h1, h2, h3, h4, h5⟩ := lc_ex I hi nd ok h0 hb
  exact PS.imp (ps_setLc hc nd hy hyl hsw h1 ok h2 h3 h4 hs) fun E σ H ⟨w, B, R, hl, g⟩ => h5 σ H _ ⟨w, B, R, fun B' H' a xs ds r ⟨ds', r', hI, e⟩ R' s _ f h rv => by
    subst e
    exact g.nx _ _ B' H' (k ds' ds r' a hI) (R'.putL (slot_lt (n := 0) hy hl) f h rv) s.b (by rw [List.length_set]; exact hl)⟩
theorem s_setLcF {y : Str} {py : Pos} {DD : DEnds} {i : Nat} {elt : Expr} {ifs : List Expr} {scope : Scope} {own : List (Str × Nat)} (I : List D → Nat → List D → Rho → Prop) (hi : WI X tg e ρ PL) (nd : X.N.Nodup) (ok : BlkOk X.N X.env.scope scope own)
    (h0 : ∀ ds r, PL ds r → I ds 0 [] (unR r (own.map (·.2))) ∧ ds.length < 16777216 ∧ (own.map (·.2)).all (fun j => decide (j < r.length)) = true)
    (hb : ∀ ds i d acc ρ, ds[i]? = some d → I ds i acc ρ → ∃ ρt PT, (∀ (s : Shared) (H : Hp) (C : Addr) (cl : List (Str × Addr)) (fp : List Addr), TGT (X.blk s H scope (compEnvC scope cl C X.env) fp) tg (own.map (·.2)) d ρ ρt) ∧
      (∀ (s : Shared) (H : Hp) (C : Addr) (cl : List (Str × Addr)) (fp : List Addr), PTs (X.blk s H scope (compEnvC scope cl C X.env) fp) ifs (tWT X.K ρt PT)) ∧
      (∀ r, PT false r → I ds (i + 1) acc (unR r (own.map (·.2)))) ∧
      (∀ r, PT true r → ∀ (s : Shared) (H : Hp) (C : Addr) (cl : List (Str × Addr)) (fp : List Addr), WE (X.blk s H scope (compEnvC scope cl C X.env) fp) elt r (fun z r2 => I ds (i + 1) (acc ++ [z]) (unR r2 (own.map (·.2))))))
    (k : ∀ ds zs r, I ds ds.length zs r → DD.nx ((unR r (own.map (·.2))).set i (.fr (.lst zs)))) (hy : X.N[i]? = some y := by rfl) (hyl : X.env.scope.names.lookup y = some .local := by rfl)
    {spos : Pos} (hsw : swapsWith (.ListComp elt [⟨tg, e, ifs, 0⟩] scope pos) (some (.Name y py)) spos.line X.env = pure true := by exact sw_true rfl rfl rfl (by decide +kernel))
    (hc : X.calm = true := by rfl) (hs : ∀ x, foldedSetIterable e X.env x = pure x := by intro _; rfl) : S1 X (.Assign [.Name y py] (.ListComp elt [⟨tg, e, ifs, 0⟩] scope pos) spos) ρ DD := by
  obtain ⟨wi, g, tt, te, h1, h2, h3, h4, h5⟩ := lc_ex I hi nd ok h0 hb
  exact PS.imp (ps_setLc hc nd hy hyl hsw h1 ok h2 h3 h4 hs) fun E σ H ⟨w, B, R, hl, g⟩ => h5 σ H _ ⟨w, B, R, fun B' H' a xs ds r ⟨ds', r', hI, e⟩ R' s _ f h rv => by
    subst e
    have R2 := R'.freeze f h
    have b2 : Same B' (upd B' a (.lst xs)) := Grow.freezeB f.b
    exact g.nx _ _ _ H' (k ds' ds r' hI) (R2.putF (slot_lt (n := 0) hy hl) (.lst upd_same (rv.mono b2))) (s.b.trans b2) (by rw [List.length_set]; exact hl)⟩
/-- x = e, e a new list that is not changed any more -/
theorem ev_ofW {ρ2 : Rho} (h : WE X e ρ (fun d' r => d' = d ∧ r = ρ2)) : EV X e false ρ d ρ2 := PE.imp h fun σ H Q ⟨w, B, R, k⟩ => ⟨w, B, R, fun B' H' v d' r ⟨e1, e2⟩ R' s rv => by
  subst e1 e2
  exact k B' H' v R' s rv⟩
theorem en_ofW {ρ2 : Rho} (h : WN X e ρ (fun d' r => d' = ds ∧ r = ρ2)) : EN X e false ρ ds ρ2 := PE.imp h fun σ H Q ⟨w, B, R, k⟩ => ⟨w, B, R, fun B' H' a xs d' r ⟨e1, e2⟩ R' s n f h' rv => by
  subst e1 e2
  exact k B' H' a xs R' s n f h' rv⟩
theorem WN.mono (h : WN X e ρ PL) (k : ∀ d r, PL d r → QL d r) : WN X e ρ QL := PE.imp h fun σ H Q ⟨w, B, R, q⟩ => ⟨w, B, R, fun B' H' a xs d r hp => q B' H' a xs d r (k d r hp)⟩
theorem we_bl {b : Bool} (h : WE X e ρ P) (k : ∀ d r, P d r → Q d r) : WE X e ρ Q := h.mono k
theorem pts_nilW {Y : Cx} : PTs Y [] (tWT Y.K ρ (fun b r => b = true ∧ r = ρ)) := ⟨fun pins s σ H Q I ⟨w, B, R, k⟩ => pts_nil.run pins s σ H Q I (k B H true ρ ⟨rfl, rfl⟩ R (Stp.refl R.ext))⟩
theorem pts_oneW {Y : Cx} {c : Expr} (h : WT Y c ρ PB) : PTs Y [c] (tWT Y.K ρ PB) := pts_one h
theorem pts_nilE {Y : Cx} : PTs Y [] (tET Y.K true ρ true ρ) := ⟨fun pins s σ H Q I ⟨w, B, R, k⟩ => pts_nil.run pins s σ H Q I (k B H R (Stp.refl R.ext))⟩
theorem pts_oneE {Y : Cx} {c : Expr} {k : Bool} (h : ET Y c p ρ k ρ1) : PTs Y [c] (tET Y.K p ρ k ρ1) := pts_one h
end
end G

set_option Elab.async false
set_option maxRecDepth 100000
set_option linter.all false
/-! G7: what the module binds; the pool of draws. -/
namespace G
open PySem L2 PyProof.Rows
/-- a def of the module: its body, how it binds, its name -/
structure Df (K : PySem.W.Frag) (mg : Str → Option Value) (x qual : Str) (st : Stmt) (ps : List Str) (f : Addr) (fd : FuncData) : Prop where
  F : Fun K x qual st f fd
  b : Binds K fd ps []
  g : mg x = some (.ref f)
/-- built-in names that the module does not bind -/
structure Bn (mg : Str → Option Value) : Prop where
  len : mg "len" = none
  int : mg "int" = none
  range : mg "range" = none
  list : mg "list" = none
  tuple : mg "tuple" = none
  sorted : mg "sorted" = none
  sum : mg "sum" = none
  all : mg "all" = none
  any : mg "any" = none
  min : mg "min" = none
  max : mg "max" = none
  isinstance : mg "isinstance" = none
  bool : mg "bool" = none
  str : mg "str" = none
  enumerate : mg "enumerate" = none

/-! ### the pool -/
structure Pool where
  cells : List Int
  at' : Nat
  rest : Int
  st : Int
def Pool.enc (q : Pool) : List D := [.lst (q.cells.map .int), .int (q.at' : Nat), .int q.rest, .int q.st]
structure Pool.Ok (q : Pool) : Prop where
  c : ∀ x ∈ q.cells, 0 ≤ x
  r : 0 ≤ q.rest
  s0 : 0 ≤ q.st
  s1 : q.st < 2147483647
/-- a draw: some number below m, and the pool is a pool -/
def Draw (m : Int) (ws : List D) (R : D → List D → Prop) : Prop := ∃ q : Pool, ws = q.enc ∧ q.Ok ∧ ∀ (v : Nat) (q' : Pool), (v : Int) < m → q'.Ok → R (.int (v : Nat)) q'.enc
/-- m is at least 1, and not monstrous -/
def CTake : CM := fun ws ds R => ∃ m : Int, ds = [.int m] ∧ 0 < m ∧ m.natAbs < 2 ^ 8000 ∧ Draw m ws R
/-- the same where a rest is left over -/
def CTake1 : CM := fun ws ds R => ∃ (m : Int) (q : Pool), ds = [.int m] ∧ 0 < m ∧ m.natAbs < 2 ^ 8000 ∧ ws = q.enc ∧ q.Ok ∧ 0 < q.rest ∧ ∀ (v : Nat) (q' : Pool), (v : Int) < m → q'.Ok → R (.int (v : Nat)) q'.enc
theorem toNat_mod {i m : Int} (h : 0 < m) : ∃ v : Nat, i % m = (v : Int) ∧ (v : Int) < m := ⟨(i % m).toNat, by have := Int.emod_nonneg i (show m ≠ 0 by omega); omega, by have := Int.emod_nonneg i (show m ≠ 0 by omega); have := Int.emod_lt_of_pos i h; omega⟩
theorem cdivw {i m : Int} (h : 0 < m) (h8 : m.natAbs < 2 ^ 8000) : CDivW i m := wide_div h h8 (by decide) (by decide)
theorem cmul_l {i j : Int} (h : -(2 ^ 64) < i ∧ i < 2 ^ 64) : CMul i j := .inl h
theorem cmul_r {i j : Int} (h : -(2 ^ 64) < j ∧ j < 2 ^ 64) : CMul i j := .inr h
theorem atI_map {α β : Type} {f : α → β} {xs : List α} {n : Nat} {x : α} (h : xs[n]? = some x) : L2.atI (xs.map f) (n : Int) = some (f x) := atI_nat (by rw [List.getElem?_map, h]; rfl)
end G

set_option Elab.async false
set_option maxRecDepth 100000
set_option linter.all false
/-! G8: isinstance, fields, sorting. -/
namespace G
open PySem L2 PyProof.Rows
section
variable {X : Cx} {K : PySem.W.Frag} {e : Expr} {p : Bool} {ρ ρ1 : Rho} {d : D} {ds : List D} {pos pp p2 : Pos} {C : Addr}
/-- the name of the built-in type of what d is -/
def D.tyn : D → String
  | .non => "NoneType"
  | .bl _ => "bool"
  | .int _ => "int"
  | .str _ => "str"
  | .tup _ => "tuple"
  | .lst _ => "list"
  | .dct => "dict"
  | _ => ""
def D.plain : D → Bool
  | .ins _ _ => false
  | .any => false
  | .vl _ => false
  | .scr _ => false
  | .exc _ _ _ => false
  | _ => true
theorem Rep.tyx {B H : Hp} {v : V} {d : D} (r : Rep K B v d) (e : Same B H) (h : d.plain = true) : TyX K H v (.type d.tyn) := by
  cases r with
  | non => exact .base .non
  | bl b => exact .base (.bl b)
  | int i => exact .base (.int i)
  | str x => exact .base (.str x)
  | lst hb _ => exact .base (.lst (e _ _ hb))
  | tup hb _ =>
    exact .base (.tup (e _ _ hb))
  | ins _ _ => cases h
  | any _ => cases h
  | vl _ => cases h
  | scr _ => cases h
  | exc _ _ => cases h
  | dct q0 => exact q0.elim (fun q => .base (.dK (e _ _ q.choose_spec))) (fun q => .base (.dT (e _ _ q.choose_spec)))
/-- isinstance(e, T), T a built-in type -/
theorem ev_isi {n : String} {x : Str} {b : Bool} (ha : EV X e p ρ d ρ1) (hp : d.plain = true) (hb : kitB d.tyn n = some b) (hm : X.mg "isinstance" = none) (hmx : X.mg x = none) (hv : bootBuiltins x = some (.type n)) (hgx : Gl X x := by rfl) (hn : x ≠ "__name__" := by decide) (hdb : (x == ("__debug__" : Str)) = false := by decide)
    (hg : Gl X "isinstance" := by rfl) (he : starEach [e, .Name x p2] X.env = (false, eval e X.env) :: starEach [.Name x p2] X.env := by rfl) (he2 : starEach [.Name x p2] X.env = (false, eval (.Name x p2) X.env) :: starEach [] X.env := by rfl)
    (hpl : (backTo pos (starEach [.Name x p2] X.env)).any (·.1) = false := by rfl) : EV X (.Call (.Name "isinstance" pp) [e, .Name x p2] [] pos) p ρ (.bl b) ρ1 :=
  PE.imp (pe_callB call_isi hg hm (by decide +kernel) (pa_cons ha (pa_cons (pe_bltn hgx hmx hv (v := .ty n) rfl hn hdb) pa_nil he2) he) (by decide) (by decide) he hpl) fun σ H Q ⟨w, B, R, k⟩ => ⟨w, B, R, fun B1 H1 v R1 s1 r1 =>
    ⟨v, .ty n, _, _, b, rfl, .ty n, r1.tyx R1.ext hp, kit_ty hb, k B1 H1 _ R1 s1 (.bl b)⟩⟩
/-- isinstance(e, (T, U)) -/
theorem ev_isi2 {n m : String} {x y : Str} {b b1 b2 : Bool} {kk : Nat} {pt p3 : Pos} (ha : EV X e p ρ d ρ1) (hp : d.plain = true) (hb1 : kitB d.tyn n = some b1) (hb2 : kitB d.tyn m = some b2) (hb : (b1 || b2) = b) (hm : X.mg "isinstance" = none) (hmx : X.mg x = none) (hv : bootBuiltins x = some (.type n)) (hmy : X.mg y = none) (hvy : bootBuiltins y = some (.type m))
    (hgx : Gl X x := by rfl) (hgy : Gl X y := by rfl) (hn : x ≠ "__name__" := by decide) (hdb : (x == ("__debug__" : Str)) = false := by decide) (hn2 : y ≠ "__name__" := by decide) (hdb2 : (y == ("__debug__" : Str)) = false := by decide)
    (hg : Gl X "isinstance" := by rfl) (he : starEach [e, .Tuple [.Name x p2, .Name y p3] kk pt] X.env = (false, eval e X.env) :: starEach [.Tuple [.Name x p2, .Name y p3] kk pt] X.env := by rfl)
    (he2 : starEach [.Tuple [.Name x p2, .Name y p3] kk pt] X.env = (false, eval (.Tuple [.Name x p2, .Name y p3] kk pt) X.env) :: starEach [] X.env := by rfl)
    (he3 : starEach [.Name x p2, .Name y p3] X.env = (false, eval (.Name x p2) X.env) :: starEach [.Name y p3] X.env := by rfl) (he4 : starEach [.Name y p3] X.env = (false, eval (.Name y p3) X.env) :: starEach [] X.env := by rfl)
    (hpl : (backTo pos (starEach [.Tuple [.Name x p2, .Name y p3] kk pt] X.env)).any (·.1) = false := by rfl) : EV X (.Call (.Name "isinstance" pp) [e, .Tuple [.Name x p2, .Name y p3] kk pt] [] pos) p ρ (.bl b) ρ1 :=
  PE.imp (pe_callB call_isiT hg hm (by decide +kernel) (pa_cons ha (pa_cons (pe_tup (pa_cons (pe_bltn hgx hmx hv (v := .ty n) rfl hn hdb) (pa_cons (pe_bltn hgy hmy hvy (v := .ty m) rfl hn2 hdb2) pa_nil he4) he3)) pa_nil he2) he) (by decide) (by decide) he hpl) fun σ H Q ⟨w, B, R, k⟩ => ⟨w, B, R, fun B1 H1 v R1 s1 r1 =>
    ⟨by show 2 ≤ sizeLine; decide, fun t ht => by
      have g := Grow.make (o := .tup [.ty n, .ty m]) R1.ext ht
      refine ⟨v, t, [.ty n, .ty m], _, [.type n, .type m], b, rfl, upd_same, .cons (.ty n) (.cons (.ty m) .nil), (r1.mono (Same.refl _)).tyx g.ext hp, ?_, k B1 _ _ (R1.grow g) (s1.add g) (.bl b)⟩
      refine kitAny_cons (kit_ty hb1) (fun h => ?_) (fun h => ?_)
      · refine kitAny_cons (kit_ty hb2) (fun h' => ?_) (fun h' => ?_)
        · rw [← hb, h, h']; exact kitAny_nil
        · rw [← hb, h, h']; rfl
      · rw [← hb, h]; rfl⟩⟩
/-- e.f of an instance -/
theorem ev_fld {f : Str} {fs : List (Str × D)} {z : D} (ha : EV X e p ρ (.ins C fs) ρ1) (c : Cls X.K C) (n : NoAttr X.K C f) (h : fs.lookup f = some z) (hb : attributeBase e f X.env (eval e X.env) = eval e X.env := by rfl) : EV X (.Attribute e f pos) p ρ z ρ1 :=
  PE.imp (pe_fld ha hb) fun σ H Q ⟨w, B, R, k⟩ => ⟨w, B, R, fun B1 H1 v R1 s1 r1 => by
    cases r1 with
    | ins hB r =>
      obtain ⟨u, h1, h2⟩ := r.look h
      exact ⟨_, C, _, _, u, rfl, R1.ext _ _ hB, c, n, h1, k B1 H1 u R1 s1 h2⟩⟩
/-! ### sorting -/
/-- sorted(xs), a list of ints -/
theorem sort_ints {ns ms : List Int} (hp : ms.Perm ns) (hs : ms.Pairwise (· ≤ ·)) : ms = ns.mergeSort := by
  have h1 : (ns.mergeSort).Perm ns := List.mergeSort_perm ns _
  have h2 : (ns.mergeSort).Pairwise (· ≤ ·) := by
    have q := List.pairwise_mergeSort (le := fun (a b : Int) => decide (a ≤ b)) (fun a b c h1 h2 => by simp at *; omega) (fun a b => by simp; omega) ns
    exact q.imp (by simp)
  exact (hp.trans h1.symm).eq_of_pairwise (fun a b _ _ h1 h2 => by omega) hs h2
theorem en_sortI {ns : List Int} (hm : X.mg "sorted" = none) (ha : EL X e p ρ (ns.map D.int) ρ1) (hg : Gl X "sorted" := by rfl) (he : starEach [e] X.env = (false, eval e X.env) :: starEach [] X.env := by rfl) : EN X (.Call (.Name "sorted" pp) [e] [] pos) p ρ (ns.mergeSort.map D.int) ρ1 :=
  en_callBL cr_sortedI (fun B H a vs Q e ea r k => ⟨a, ns, rfl, by rw [← r.ints]; exact SqL.of ea, fun ns' t hp hs ht => by
    rw [← sort_ints hp hs] at k
    exact k _ t _ (Grow.make e ht) ht upd_same (Reps.ofInts _)⟩) hm (by decide +kernel) ha hg (by decide) (by decide) he rfl
/-- a pair of ints -/
def pairD (x : Int × Int) : D := .tup [.int x.1, .int x.2]
def pairLe (x y : Int × Int) : Bool := decide (x.1 < y.1) || (decide (x.1 = y.1) && decide (x.2 ≤ y.2))
theorem sort_pairs {ns ms : List (Int × Int)} (hp : ms.Perm ns) (hs : ms.Pairwise (fun x y => pairLe x y = true)) : ms = ns.mergeSort pairLe := by
  have tr : ∀ a b c : Int × Int, pairLe a b = true → pairLe b c = true → pairLe a c = true := fun a b c h1 h2 => by simp [pairLe] at *; omega
  have to : ∀ a b : Int × Int, (pairLe a b || pairLe b a) = true := fun a b => by simp [pairLe]; omega
  have h1 : (ns.mergeSort pairLe).Perm ns := List.mergeSort_perm ns _
  have h2 := List.pairwise_mergeSort tr to ns
  exact (hp.trans h1.symm).eq_of_pairwise (fun a b _ _ h1 h2 => by
    simp [pairLe] at h1 h2
    exact Prod.ext (by omega) (by omega)) hs h2
theorem pairs_at {B : Hp} : ∀ {xs : List V} {es : List (Int × Int)}, Reps K B xs (es.map pairD) → ∀ x ∈ xs, ∃ t i j, x = V.ref t ∧ B t = some (.tup [.int i, .int j])
  | _, [], .nil, x, h => by cases h
  | _, e :: es, .cons h r, x, hx => by
    rcases List.mem_cons.mp hx with rfl | hx
    · cases h with
      | tup hb rs =>
        cases rs with
        | cons r1 rs =>
          cases rs with
          | cons r2 rs =>
            cases rs
            cases r1
            cases r2
            exact ⟨_, _, _, rfl, hb⟩
    · exact pairs_at r x hx
/-- the pair that stands at a value -/
noncomputable def pairAt (B : Hp) (v : V) : Int × Int := match v with
  | .ref t => match B t with
    | some (.tup [.int i, .int j]) => (i, j)
    | _ => (0, 0)
  | _ => (0, 0)
theorem pairAt_eq {B : Hp} : ∀ {xs : List V} {es : List (Int × Int)}, Reps K B xs (es.map pairD) → xs.map (pairAt B) = es
  | _, [], .nil => rfl
  | _, e :: es, .cons h r => by
    rw [List.map_cons, pairAt_eq r]
    cases h with
    | tup hb rs =>
      cases rs with
      | cons r1 rs =>
        cases rs with
        | cons r2 rs =>
          cases rs
          cases r1
          cases r2
          simp only [pairAt, hb]
theorem reps_perm {K : PySem.W.Frag} {B : Hp} {xs : List V} {es : List (Int × Int)} (h : ∀ x ∈ xs, Rep K B x (pairD (pairAt B x))) : Reps K B xs ((xs.map (pairAt B)).map pairD) := by
  induction xs with
  | nil => exact .nil
  | cons x xs ih => exact .cons (h x (by simp)) (ih fun y hy => h y (by simp [hy]))
theorem lexB_le {x y : Int × Int} : SrtO.lexB y x = false ↔ pairLe x y = true := by
  rw [SrtO.lexB_no]
  simp [pairLe]
  omega
theorem en_sortP {es : List (Int × Int)} (hm : X.mg "sorted" = none) (ha : EL X e p ρ (es.map pairD) ρ1) (hg : Gl X "sorted" := by rfl) (he : starEach [e] X.env = (false, eval e X.env) :: starEach [] X.env := by rfl) : EN X (.Call (.Name "sorted" pp) [e] [] pos) p ρ ((es.mergeSort pairLe).map pairD) ρ1 :=
  en_callBL cr_sortedPO (fun B H a vs Q e ea r k => ⟨a, vs, pairAt B, rfl, SqL.of ea, fun x hx => by
    obtain ⟨t, i, j, rfl, hB⟩ := pairs_at r x hx
    refine ⟨t, rfl, ?_⟩
    simp only [pairAt, hB]
    exact e _ _ hB, fun ys t hs hp ht => by
    have mem : ∀ y ∈ ys, y ∈ vs := fun y hy => hp.perm.mem_iff.mp hy
    have R2 : Reps X.K B ys ((ys.map (pairAt B)).map pairD) := reps_perm (es := es) fun y hy => by
      obtain ⟨t, i, j, rfl, hB⟩ := pairs_at r y (mem y hy)
      simp only [pairAt, hB]
      exact .tup hB (.cons (.int _) (.cons (.int _) .nil))
    have q : ys.map (pairAt B) = es.mergeSort pairLe := by
      refine sort_pairs ?_ ?_
      · have := hp.perm.map (pairAt B)
        rw [pairAt_eq r] at this
        exact this
      · refine List.pairwise_map.mpr (hs.imp fun {a b} h => ?_)
        exact lexB_le.mp h
    rw [q] at R2
    exact k _ t _ (Grow.make e ht) ht upd_same R2⟩) hm (by decide +kernel) ha hg (by decide) (by decide) he rfl
end
end G

set_option Elab.async false
set_option maxRecDepth 100000
set_option linter.all false
/-! G9: further rules where an outcome is one of some. -/
namespace G
open PySem L2 PyProof.Rows
section
variable {X : Cx} {e b : Expr} {p : Bool} {ρ ρ1 : Rho} {d : D} {ds : List D} {DD : DEnds} {pos pos' px apos : Pos} {x : Str} {a : Addr} {s : Slot} {P Q : D → Rho → Prop} {rest : List Stmt}
theorem st_new {i : Nat} (h : EN X e p ρ ds ρ1) (nd : X.N.Nodup) (k : ∀ a, ST X rest (ρ1.set i (.ow a (.l ds))) DD) (hN : X.N[i]? = some x := by rfl) (hx : Loc X.env.scope x := by first | exact Or.inl rfl | exact Or.inr rfl) (hs : swapsWith e (some (.Name x pos')) pos.line X.env = pure false := by rfl)
    (hf : X.fn x = true ∨ X.env.scope.names.lookup x = some .local := by first | exact .inl rfl | exact .inr rfl) : ST X (.Assign [.Name x pos'] e pos :: rest) ρ DD := st_thru (s_new h nd k hN hx hs hf)
/-- x.append(e), e one of some -/
theorem s_appendW (i : Nat) {s0 : Slot} {ws0 : List D} (h : WE X e ρ P) (hs0 : ρ[i]? = some s0) (hk : s0 = .ow a (.l ws0) ∨ s0 = .pr a (.l ws0)) (k : ∀ d r, P d r → ∃ ds, r[i]? = some (relend s0 ds) ∧ ds.length < 16777216 ∧ DD.nx (r.set i (relend s0 (ds ++ [d])))) (hN : X.N[i]? = some x := by rfl)
    (hv : Vis X.env.scope x := by first | exact Or.inl rfl | exact Or.inr (Or.inl rfl) | exact Or.inr (Or.inr rfl)) (hd : (x == ("__debug__" : Str)) = false := by decide) (hcd : (x == ("__classdict__" : Str)) = false := by decide)
    (hbase : attributeBase (.Name x px) "append" X.env (eval (.Name x px) X.env) = eval (.Name x px) X.env := by rfl)
    (hfew : ((backTo pos' (starEach [e] X.env)).all (fun x => !x.1) && (backToKw pos' (keywordEach [] X.env)).all (fun x => x.1.isSome) && decide ([e].length + ([] : List Keyword).length + (if ([] : List Keyword).isEmpty then 0 else 1) < 30)) = true := by rfl)
    (hline : (apos.endLine == pos'.line) = true := by rfl) (hst : starEach [e] X.env = (false, eval e X.env) :: starEach [] X.env := by rfl) (hpl : (backTo pos' (starEach [] X.env)).any (·.1) = false := by rfl)
    (hsw : swapsWith (.Call (.Attribute (.Name x px) "append" apos) [e] [] pos') none pos.line X.env = pure false := by rfl) :
    S1 X (.Expr (.Call (.Attribute (.Name x px) "append" apos) [e] [] pos') pos) ρ DD :=
  PS.imp (ps_expr (pe_bm PySem.F.plainAttrs_list PySem.F.slot_list_append PySem.F.type_list_append (fun pins s σ H x xs v us Q I rx rv h => mt_append pins s σ H x xs v us Q I rx rv h) (pe_var hN hv hd hcd) (pa_cons h pa_nil hst) hbase hfew hline hst hpl) hsw) fun E σ H ⟨w, B, R, hl, g⟩ => by
    obtain ⟨e0, xs0, h0, r0⟩ := own_at (a := a) (ws := ws0) R hs0 hk
    refine ⟨_, e0, .inl ⟨rfl, _, SqL.of h0⟩, w, B, R, fun B1 H1 v d r hp R1 s1 r1 => ?_⟩
    obtain ⟨ds, hs, hz, kk⟩ := k d r hp
    have hk1 := relend_is (ws' := ds) hk
    obtain ⟨_, xs, h1, r2⟩ := own_at R1 hs hk1
    refine ⟨a, xs, v, rfl, rfl, h1, by rw [r2.len, sizeLine_eq]; exact hz, ?_⟩
    obtain ⟨R2, s2⟩ := own_write R1 hs hk1 (r2.append (.cons r1 .nil))
    have e2 : relend (relend s0 ds) (ds ++ [d]) = relend s0 (ds ++ [d]) := by rcases hk with h | h <;> rw [h] <;> rfl
    rw [e2] at R2 s2
    exact g.nx _ σ _ _ kk R2 (s1.b.trans s2.b) hl
/-- x.pop(e) as a value, e one of some -/
theorem we_popAt (i : Nat) {s0 : Slot} {ws0 : List D} (h : WE X e ρ P) (hs0 : ρ[i]? = some s0) (hk : s0 = .ow a (.l ws0) ∨ s0 = .pr a (.l ws0))
    (k : ∀ d r, P d r → ∃ (kk : Int) (ds : List D) (j : Nat) (z : D), d = .int kk ∧ r[i]? = some (relend s0 ds) ∧ -(2 ^ 63) ≤ kk ∧ kk < 2 ^ 63 ∧ seqIndex? kk ds.length = some j ∧ ds[j]? = some z ∧ Q z (r.set i (relend s0 (ds.eraseIdx j)))) (hN : X.N[i]? = some x := by rfl)
    (hv : Vis X.env.scope x := by first | exact Or.inl rfl | exact Or.inr (Or.inl rfl) | exact Or.inr (Or.inr rfl)) (hd : (x == ("__debug__" : Str)) = false := by decide) (hcd : (x == ("__classdict__" : Str)) = false := by decide)
    (hbase : attributeBase (.Name x px) "pop" X.env (eval (.Name x px) X.env) = eval (.Name x px) X.env := by rfl)
    (hfew : ((backTo pos' (starEach [e] X.env)).all (fun x => !x.1) && (backToKw pos' (keywordEach [] X.env)).all (fun x => x.1.isSome) && decide ([e].length + ([] : List Keyword).length + (if ([] : List Keyword).isEmpty then 0 else 1) < 30)) = true := by rfl)
    (hline : (apos.endLine == pos'.line) = true := by rfl) (hst : starEach [e] X.env = (false, eval e X.env) :: starEach [] X.env := by rfl) (hpl : (backTo pos' (starEach [] X.env)).any (·.1) = false := by rfl) :
    WE X (.Call (.Attribute (.Name x px) "pop" apos) [e] [] pos') ρ Q :=
  PE.imp (pe_bm PySem.F.plainAttrs_list PySem.F.slot_list_pop PySem.F.type_list_pop (fun pins s σ H x xs v us Q I rx rv h => mt_popAt pins s σ H x xs v us Q I rx rv h) (pe_var hN hv hd hcd) (pa_cons h pa_nil hst) hbase hfew hline hst hpl) fun σ H QV ⟨w, B, R, kq⟩ => by
    obtain ⟨e0, xs0, h0, r0⟩ := own_at (a := a) (ws := ws0) R hs0 hk
    refine ⟨_, e0, .inl ⟨rfl, _, SqL.of h0⟩, w, B, R, fun B1 H1 v d r hp R1 s1 r1 => ?_⟩
    obtain ⟨kk, ds, j, z, rfl, hs, hk0, hk1, hj, hz, q⟩ := k d r hp
    cases r1
    have hkk := relend_is (ws' := ds) hk
    obtain ⟨_, xs, h1, r2⟩ := own_at R1 hs hkk
    obtain ⟨y, hy, ry⟩ := r2.get hz
    refine ⟨a, xs, kk, j, y, rfl, rfl, h1, hk0, hk1, by rw [r2.len]; exact hj, hy, ?_⟩
    obtain ⟨R2, s2⟩ := own_write R1 hs hkk (r2.erase j)
    have e2 : relend (relend s0 ds) (ds.eraseIdx j) = relend s0 (ds.eraseIdx j) := by rcases hk with h | h <;> rw [h] <;> rfl
    rw [e2] at R2 s2
    exact kq B1 _ y z _ q R2 (s1.trans s2) ry
end
theorem VNew.vop {K : PySem.W.Frag} {r : R2} {x y : D} {ds : List D} (h : VNew K r x y ds) : VOp K r x y (.lst ds) := fun B H v u Q e rv ru k => h B H v u Q e rv ru fun H' t xs g ht et rx => by
  have bt : B t = none := e.free ht
  have sm : Same B (upd B t (.lst xs)) := Grow.freezeB bt
  refine k (upd B t (.lst xs)) H' (.ref t) ⟨sm, g.h, fun a o q => ?_, fun a o q => ?_⟩ (.lst upd_same (rx.mono sm))
  · by_cases n : a = t
    · subst n; rw [upd_same] at q; cases q; exact et
    · rw [upd_ne n] at q; exact g.ext a o q
  · by_cases n : a = t
    · subst n; exact .inr ht
    · rw [upd_ne n] at q; exact .inl q
/-! ### plain lists -/
theorem perm_erase {α : Type} : ∀ {l : List α} {i : Nat} {x : α}, l[i]? = some x → (x :: l.eraseIdx i).Perm l
  | [], i, x, h => by simp at h
  | y :: l, 0, x, h => by
    simp at h
    subst h
    exact List.Perm.refl _
  | y :: l, i + 1, x, h => by
    have q := perm_erase (l := l) (i := i) (x := x) (by simpa using h)
    exact (List.Perm.swap y x _).trans (q.cons y)
theorem map_erase {α β : Type} (f : α → β) : ∀ (l : List α) (i : Nat), (l.map f).eraseIdx i = (l.eraseIdx i).map f
  | [], _ => rfl
  | _ :: _, 0 => rfl
  | x :: l, i + 1 => by
    show f x :: (l.map f).eraseIdx i = f x :: (l.eraseIdx i).map f
    rw [map_erase f l i]
theorem small8 {i : Int} (h : i.natAbs ≤ 10 ^ 40) : i.natAbs < 2 ^ 8000 := Nat.lt_of_le_of_lt h (Nat.lt_of_lt_of_le (by decide : 10 ^ 40 < 2 ^ 200) (Nat.pow_le_pow_right (by decide) (by decide)))
theorem seqIx {v n : Nat} (h : v < n) : seqIndex? (v : Int) n = some v := by
  rw [seqIndex_of (by omega) (by omega)]
  simp
/-! ### isinstance of data -/
theorem kit_NoneType_tuple : kitB "NoneType" "tuple" = some false := by decide +kernel
theorem kit_NoneType_list : kitB "NoneType" "list" = some false := by decide +kernel
theorem kit_NoneType_bool : kitB "NoneType" "bool" = some false := by decide +kernel
theorem kit_NoneType_str : kitB "NoneType" "str" = some false := by decide +kernel
theorem kit_NoneType_int : kitB "NoneType" "int" = some false := by decide +kernel
theorem kit_bool_tuple : kitB "bool" "tuple" = some false := by decide +kernel
theorem kit_bool_list : kitB "bool" "list" = some false := by decide +kernel
theorem kit_bool_bool : kitB "bool" "bool" = some true := by decide +kernel
theorem kit_bool_str : kitB "bool" "str" = some false := by decide +kernel
theorem kit_bool_int : kitB "bool" "int" = some true := by decide +kernel
theorem kit_int_tuple : kitB "int" "tuple" = some false := by decide +kernel
theorem kit_int_list : kitB "int" "list" = some false := by decide +kernel
theorem kit_int_bool : kitB "int" "bool" = some false := by decide +kernel
theorem kit_int_str : kitB "int" "str" = some false := by decide +kernel
theorem kit_int_int : kitB "int" "int" = some true := by decide +kernel
theorem kit_str_tuple : kitB "str" "tuple" = some false := by decide +kernel
theorem kit_str_list : kitB "str" "list" = some false := by decide +kernel
theorem kit_str_bool : kitB "str" "bool" = some false := by decide +kernel
theorem kit_str_str : kitB "str" "str" = some true := by decide +kernel
theorem kit_str_int : kitB "str" "int" = some false := by decide +kernel
theorem kit_tuple_tuple : kitB "tuple" "tuple" = some true := by decide +kernel
theorem kit_tuple_list : kitB "tuple" "list" = some false := by decide +kernel
theorem kit_tuple_bool : kitB "tuple" "bool" = some false := by decide +kernel
theorem kit_tuple_str : kitB "tuple" "str" = some false := by decide +kernel
theorem kit_tuple_int : kitB "tuple" "int" = some false := by decide +kernel
theorem kit_list_tuple : kitB "list" "tuple" = some false := by decide +kernel
theorem kit_list_list : kitB "list" "list" = some true := by decide +kernel
theorem kit_list_bool : kitB "list" "bool" = some false := by decide +kernel
theorem kit_list_str : kitB "list" "str" = some false := by decide +kernel
theorem kit_dict_tuple : kitB "dict" "tuple" = some false := by decide +kernel
theorem kit_dict_list : kitB "dict" "list" = some false := by decide +kernel
theorem kit_dict_bool : kitB "dict" "bool" = some false := by decide +kernel
theorem kit_dict_str : kitB "dict" "str" = some false := by decide +kernel
theorem kit_dict_int : kitB "dict" "int" = some false := by decide +kernel
theorem kit_list_int : kitB "list" "int" = some false := by decide +kernel
end G

set_option Elab.async false
set_option maxRecDepth 100000
set_option linter.all false
namespace G
open PySem L2 PyProof.Rows
def top (i : Nat) : Stmt := PySem.Challenge.pw_gapsproved_k10_graphs.main.body.getD i (.Pass ⟨0, 0, 0, 0⟩)
abbrev sBadGraphInit : Stmt := inClass (top 6) 0
abbrev nBadGraphInit : List Str := ["self", "number", "reason"]  -- 0=self 1=number 2=reason
abbrev sNoPlaceInit : Stmt := inClass (top 7) 0
abbrev nNoPlaceInit : List Str := ["self", "place"]  -- 0=self 1=place
abbrev sIsWhole : Stmt := top 8
abbrev nIsWhole : List Str := ["value"]  -- 0=value
theorem scIsWhole : FnScope nIsWhole ["value"] (defScope sIsWhole) := ⟨rfl, rfl, rfl, by decide +kernel, rfl, by decide +kernel, by decide +kernel⟩
abbrev sEdgeFault : Stmt := top 9
abbrev nEdgeFault : List Str := ["edge", "n", "place"]  -- 0=edge 1=n 2=place
theorem scEdgeFault : FnScope nEdgeFault ["edge", "n"] (defScope sEdgeFault) := ⟨rfl, rfl, rfl, by decide +kernel, rfl, by decide +kernel, by decide +kernel⟩
abbrev sEndsOf : Stmt := top 10
abbrev nEndsOf : List Str := ["n", "edges", "found", "one", "other"]  -- 0=n 1=edges 2=found 3=one 4=other
theorem scEndsOf : FnScope nEndsOf ["n", "edges"] (defScope sEndsOf) := ⟨rfl, rfl, rfl, by decide +kernel, rfl, by decide +kernel, by decide +kernel⟩
abbrev sGraphInit : Stmt := inClass (top 11) 0
abbrev nGraphInit : List Str := ["self", "n", "edges", "number", "edge", "reason", "ends", "place"]  -- 0=self 1=n 2=edges 3=number 4=edge 5=reason 6=ends 7=place
theorem scGraphInit : FnScope nGraphInit ["self", "n", "edges"] (defScope sGraphInit) := ⟨rfl, rfl, rfl, by decide +kernel, rfl, by decide +kernel, by decide +kernel⟩
abbrev sGraphEq : Stmt := inClass (top 11) 1
abbrev nGraphEq : List Str := ["self", "other"]  -- 0=self 1=other
theorem scGraphEq : FnScope nGraphEq ["self", "other"] (defScope sGraphEq) := ⟨rfl, rfl, rfl, by decide +kernel, rfl, by decide +kernel, by decide +kernel⟩
abbrev sGraphTable : Stmt := inClass (top 11) 2
abbrev nGraphTable : List Str := ["self"]  -- 0=self
theorem scGraphTable : FnScope nGraphTable ["self"] (defScope sGraphTable) := ⟨rfl, rfl, rfl, by decide +kernel, rfl, by decide +kernel, by decide +kernel⟩
abbrev sTableOf : Stmt := top 12
abbrev nTableOf : List Str := ["n", "edges", "rows", "one", "other", "place", "row"]  -- 0=n 1=edges 2=rows 3=one 4=other 5=place 6=row
theorem scTableOf : FnScope nTableOf ["n", "edges"] (defScope sTableOf) := ⟨rfl, rfl, rfl, by decide +kernel, rfl, by decide +kernel, by decide +kernel⟩
abbrev sCheckPlace : Stmt := top 13
abbrev nCheckPlace : List Str := ["graph", "place"]  -- 0=graph 1=place
theorem scCheckPlace : FnScope nCheckPlace ["graph", "place"] (defScope sCheckPlace) := ⟨rfl, rfl, rfl, by decide +kernel, rfl, by decide +kernel, by decide +kernel⟩
abbrev sRow : Stmt := top 14
abbrev nRow : List Str := ["graph", "place"]  -- 0=graph 1=place
theorem scRow : FnScope nRow ["graph", "place"] (defScope sRow) := ⟨rfl, rfl, rfl, by decide +kernel, rfl, by decide +kernel, by decide +kernel⟩
abbrev sLawPool : Stmt := top 16
abbrev nLawPool : List Str := ["script", "cell"]  -- 0=script 1=cell
theorem scLawPool : FnScope nLawPool ["script"] (defScope sLawPool) := ⟨rfl, rfl, rfl, by decide +kernel, rfl, by decide +kernel, by decide +kernel⟩
abbrev sLawTake : Stmt := top 17
abbrev nLawTake : List Str := ["pool", "many", "digit", "cell", "mixed"]  -- 0=pool 1=many 2=digit 3=cell 4=mixed
theorem scLawTake : FnScope nLawTake ["pool", "many"] (defScope sLawTake) := ⟨rfl, rfl, rfl, by decide +kernel, rfl, by decide +kernel, by decide +kernel⟩
abbrev sLawPick : Stmt := top 18
abbrev nLawPick : List Str := ["pool", "rows"]  -- 0=pool 1=rows
theorem scLawPick : FnScope nLawPick ["pool", "rows"] (defScope sLawPick) := ⟨rfl, rfl, rfl, by decide +kernel, rfl, by decide +kernel, by decide +kernel⟩
abbrev sLawIsInteger : Stmt := top 19
abbrev nLawIsInteger : List Str := ["actual"]  -- 0=actual
theorem scLawIsInteger : FnScope nLawIsInteger ["actual"] (defScope sLawIsInteger) := ⟨rfl, rfl, rfl, by decide +kernel, rfl, by decide +kernel, by decide +kernel⟩
abbrev sLawSame : Stmt := top 20
abbrev nLawSame : List Str := ["actual", "due", "k"]  -- 0=actual 1=due 2=k
theorem scLawSame : FnScope nLawSame ["actual", "due"] (defScope sLawSame) := ⟨rfl, rfl, rfl, by decide +kernel, rfl, by decide +kernel, by decide +kernel⟩
abbrev sLawOrder : Stmt := top 21
abbrev nLawOrder : List Str := ["pool", "many", "left", "found", "k"]  -- 0=pool 1=many 2=left 3=found 4=k
theorem scLawOrder : FnScope nLawOrder ["pool", "many"] (defScope sLawOrder) := ⟨rfl, rfl, rfl, by decide +kernel, rfl, by decide +kernel, by decide +kernel⟩
abbrev sLawPower : Stmt := top 22
abbrev nLawPower : List Str := ["base", "many", "found", "turn"]  -- 0=base 1=many 2=found 3=turn
theorem scLawPower : FnScope nLawPower ["base", "many"] (defScope sLawPower) := ⟨rfl, rfl, rfl, by decide +kernel, rfl, by decide +kernel, by decide +kernel⟩
abbrev sLawAllPairs : Stmt := top 23
abbrev nLawAllPairs : List Str := ["n", "found", "v", "u"]  -- 0=n 1=found 2=v 3=u
theorem scLawAllPairs : FnScope nLawAllPairs ["n"] (defScope sLawAllPairs) := ⟨rfl, rfl, rfl, by decide +kernel, rfl, by decide +kernel, by decide +kernel⟩
abbrev sLawDigitEdges : Stmt := top 24
abbrev nLawDigitEdges : List Str := ["deep", "found", "size", "k", "u"]  -- 0=deep 1=found 2=size 3=k 4=u
theorem scLawDigitEdges : FnScope nLawDigitEdges ["deep"] (defScope sLawDigitEdges) := ⟨rfl, rfl, rfl, by decide +kernel, rfl, by decide +kernel, by decide +kernel⟩
abbrev sLawPairing : Stmt := top 25
abbrev nLawPairing : List Str := ["pool", "n", "is_loose", "order", "found", "at", "turn"]  -- 0=pool 1=n 2=is_loose 3=order 4=found 5=at 6=turn
theorem scLawPairing : FnScope nLawPairing ["pool", "n", "is_loose"] (defScope sLawPairing) := ⟨rfl, rfl, rfl, by decide +kernel, rfl, by decide +kernel, by decide +kernel⟩
abbrev sLawCircleEdges : Stmt := top 26
abbrev nLawCircleEdges : List Str := ["n", "shifts", "found", "place", "shift", "other"]  -- 0=n 1=shifts 2=found 3=place 4=shift 5=other
theorem scLawCircleEdges : FnScope nLawCircleEdges ["n", "shifts"] (defScope sLawCircleEdges) := ⟨rfl, rfl, rfl, by decide +kernel, rfl, by decide +kernel, by decide +kernel⟩
abbrev sLawGraph : Stmt := top 27
abbrev nLawGraph : List Str := ["pool", "most", "kind", "n", "edges", "turn", "shift", "half", "order", "deep", "u", "v", "k"]  -- 0=pool 1=most 2=kind 3=n 4=edges 5=turn 6=shift 7=half 8=order 9=deep 10=u 11=v 12=k
theorem scLawGraph : FnScope nLawGraph ["pool", "most"] (defScope sLawGraph) := ⟨rfl, rfl, rfl, by decide +kernel, rfl, by decide +kernel, by decide +kernel⟩
abbrev sLawTable : Stmt := top 28
abbrev nLawTable : List Str := ["n", "edges", "rows", "one", "other", "place"]  -- 0=n 1=edges 2=rows 3=one 4=other 5=place
theorem scLawTable : FnScope nLawTable ["n", "edges"] (defScope sLawTable) := ⟨rfl, rfl, rfl, by decide +kernel, rfl, by decide +kernel, by decide +kernel⟩
abbrev sLawTold : Stmt := top 29
abbrev nLawTold : List Str := ["n", "edges", "graph", "wrong"]  -- 0=n 1=edges 2=graph 3=wrong
theorem scLawTold : FnScope nLawTold ["n", "edges"] (defScope sLawTold) := ⟨rfl, rfl, rfl, by decide +kernel, rfl, by decide +kernel, by decide +kernel⟩
abbrev sLawEnds : Stmt := top 30
abbrev nLawEnds : List Str := ["n", "edges", "found", "one", "other"]  -- 0=n 1=edges 2=found 3=one 4=other
theorem scLawEnds : FnScope nLawEnds ["n", "edges"] (defScope sLawEnds) := ⟨rfl, rfl, rfl, by decide +kernel, rfl, by decide +kernel, by decide +kernel⟩
abbrev sLawWrongSo : Stmt := top 31
abbrev nLawWrongSo : List Str := ["pool", "n", "edges", "odd", "none", "rows", "cells", "at", "wrong", "reason", "place", "more", "due", "ends", "unlike", "k"]  -- 0=pool 1=n 2=edges 3=odd 4=none 5=rows 6=cells 7=at 8=wrong 9=reason 10=place 11=more 12=due 13=ends 14=unlike 15=k
theorem scLawWrongSo : FnScope nLawWrongSo ["pool", "n", "edges"] (defScope sLawWrongSo) := ⟨rfl, rfl, rfl, by decide +kernel, rfl, by decide +kernel, by decide +kernel⟩
abbrev sLawManySo : Stmt := top 32
abbrev nLawManySo : List Str := ["pool", "n", "degree", "edges", "told", "place"]  -- 0=pool 1=n 2=degree 3=edges 4=told 5=place
theorem scLawManySo : FnScope nLawManySo ["pool"] (defScope sLawManySo) := ⟨rfl, rfl, rfl, by decide +kernel, rfl, by decide +kernel, by decide +kernel⟩
abbrev sLawRaises : Stmt := top 33
abbrev nLawRaises : List Str := ["graph", "place", "wrong"]  -- 0=graph 1=place 2=wrong
theorem scLawRaises : FnScope nLawRaises ["graph", "place"] (defScope sLawRaises) := ⟨rfl, rfl, rfl, by decide +kernel, rfl, by decide +kernel, by decide +kernel⟩
abbrev sLaw : Stmt := top 34
abbrev nLaw : List Str := ["script", "pool", "before", "turn", "n", "edges", "handed", "kept", "graph", "table", "due", "place", "same", "other", "k", "edge"]  -- 0=script 1=pool 2=before 3=turn 4=n 5=edges 6=handed 7=kept 8=graph 9=table 10=due 11=place 12=same 13=other 14=k 15=edge
theorem scLaw : FnScope nLaw ["script"] (defScope sLaw) := ⟨rfl, rfl, rfl, by decide +kernel, rfl, by decide +kernel, by decide +kernel⟩
end G

set_option Elab.async false
set_option maxRecDepth 100000
set_option maxHeartbeats 4000000
set_option linter.all false
namespace G
open PySem L2 PyProof.Rows
local macro_rules | `(tactic| walk_at "rho") => `(tactic| (show (_ : List Slot) = _; (try dsimp only [List.set_cons_succ, List.set_cons_zero, List.map_cons, List.map_nil, List.cons_append, List.nil_append, relend]); all_goals exact rfl))

section
variable {P : Program} {w : World} {K : PySem.W.Frag} {mg : Str → Option Value} {base : Heap} {f : Addr} {fd : FuncData}
theorem ok_take1 (F : Df K mg "_law_take" "_law_take" sLawTake ["pool", "many"] f fd) (T : Bn mg) : FnOk P w K mg base CX0 1 f fd ["pool", "many"] (spM K CTake1) := by
  refine fnM F.F scLawTake (fun ws ds R hC => ?_) (fun cdv A outer s H E a ws ds R hr hC => ?_)
  · obtain ⟨m, q, rfl, _⟩ := hC; rfl
  · obtain ⟨m, q, rfl, h0, h8, rfl, ok, hr0, k⟩ := hC
    show ST _ _ [.pr a (.l q.enc), .fr (.int m), .un, .un, .un] _
    refine st_if (et_gt (ev_ixL (el_par 0) ev_int rfl) ev_int) (fun hb => ?_) (fun hb => ?_)
    · refine st_to (s_asg (i := 2) (ev_mod (ev_intI T.int (ev_ixL (el_par 0) ev_int rfl)) (ev_var 1) h0) scLawTake.nd (by walk_at "rho")) ?_
      refine st_to (s_setI 0 (ev_fdiv (ev_ixL (el_par 0) ev_int rfl) (ev_var 1) (cdivw h0 h8)) ev_int rfl (.inr rfl) rfl (by walk_at "rho")) ?_
      obtain ⟨v, e, hv⟩ := toNat_mod (i := q.rest) h0
      refine st_ret (ev_var 2) ⟨_, rfl, ?_⟩
      rw [e]
      exact k v { q with rest := q.rest / m } hv ⟨ok.c, Int.ediv_nonneg ok.r (Int.le_of_lt h0), ok.s0, ok.s1⟩
    · simp at hb
      omega
theorem ok_take (F : Df K mg "_law_take" "_law_take" sLawTake ["pool", "many"] f fd) (T : Bn mg) : FnOk P w K mg base CX0 2 f fd ["pool", "many"] (spM K CTake) := by
  have G1 : FnOk P w K mg base CX0 1 f fd ["pool", "many"] (spM K CTake1) := ok_take1 F T
  refine fnM F.F scLawTake (fun ws ds R hC => ?_) (fun cdv A outer s H E a ws ds R hr hC => ?_)
  · obtain ⟨m, rfl, _⟩ := hC; rfl
  · obtain ⟨m, rfl, h0, h8, q, rfl, ok, k⟩ := hC
    show ST _ _ [.pr a (.l q.enc), .fr (.int m), .un, .un, .un] _
    refine st_if (et_gt (ev_ixL (el_par 0) ev_int rfl) ev_int) (fun hb => ?_) (fun hb => ?_)
    · refine st_to (s_asg (i := 2) (ev_mod (ev_intI T.int (ev_ixL (el_par 0) ev_int rfl)) (ev_var 1) h0) scLawTake.nd (by walk_at "rho")) ?_
      refine st_to (s_setI 0 (ev_fdiv (ev_ixL (el_par 0) ev_int rfl) (ev_var 1) (cdivw h0 h8)) ev_int rfl (.inr rfl) rfl (by walk_at "rho")) ?_
      obtain ⟨v, e, hv⟩ := toNat_mod (i := q.rest) h0
      refine st_ret (ev_var 2) ⟨_, rfl, ?_⟩
      rw [e]
      exact k v { q with rest := q.rest / m } hv ⟨ok.c, Int.ediv_nonneg ok.r (Int.le_of_lt h0), ok.s0, ok.s1⟩
    · refine st_nil ?_
      refine st_to (s_asg (i := 3) ev_int scLawTake.nd (by walk_at "rho")) ?_
      refine st_cons (M := fun r => ∃ c : Int, 0 ≤ c ∧ r = [.pr a (.l q.enc), .fr (.int m), .un, .fr (.int c), .un]) (s_if (et_lt (ev_ixL (el_par 0) ev_int rfl) (ev_lenL T.len (el_ofV (ev_ixL (el_par 0) ev_int rfl)))) (fun hb => ?_) (fun hb => ?_)) ?_
      · have hb' : q.at' < q.cells.length := by simpa using hb
        refine st_to (s_asg (i := 3) (ev_ixF (ev_ixL (el_par 0) ev_int rfl) (ev_ixL (el_par 0) ev_int rfl) (atI_map (List.getElem?_eq_getElem hb'))) scLawTake.nd (by walk_at "rho")) ?_
        exact st_nil ⟨q.cells[q.at'], ok.c _ (List.getElem_mem _), rfl⟩
      · exact st_nil ⟨0, Int.le_refl _, rfl⟩
      rintro _ ⟨c, hc, rfl⟩
      refine st_to (s_setI 0 (ev_add (ev_ixL (el_par 0) ev_int rfl) ev_int) ev_int rfl (.inr rfl) rfl (by walk_at "rho")) ?_
      refine st_if (et_ge (ev_var 3) (ev_pow ev_int ev_int ⟨by decide, by decide, by decide⟩)) (fun hb => ?_) (fun hb => ?_)
      · have hb' : (10 : Int) ^ 18 ≤ c := by simpa using hb
        refine st_to (s_setI 0 (ev_fdiv (ev_var 3) ev_int (wide_div (b := 2) (by decide) (by decide) (by decide) (by decide))) ev_int rfl (.inr rfl) rfl (by walk_at "rho")) ?_
        refine st_retW (we_callM 0 G1 hr F.g F.F.kp F.b rfl (.inr rfl) (wa_of (ea_cons (ev_var 1) ea_nil) ⟨_, rfl, m, { q with at' := q.at' + 1, rest := c / 2 }, rfl, h0, h8, rfl, ⟨ok.c, Int.ediv_nonneg hc (by decide), ok.s0, ok.s1⟩, ?_, fun v q' hv ok' => ⟨_, rfl, k v q' hv ok'⟩⟩)) fun d r h => h
        show 0 < c / 2
        omega
      · refine st_nil ?_
        refine st_to (s_setI 0 (ev_mod (ev_intI T.int (ev_add (ev_add (ev_mul (ev_ixL (el_par 0) ev_int rfl) ev_int (cmul_r (by decide))) (ev_mul (ev_var 3) ev_int (cmul_r (by decide)))) (ev_mul (ev_ixL (el_par 0) ev_int rfl) ev_int (cmul_r (by decide))))) ev_int (by decide)) ev_int rfl (.inr rfl) rfl (by walk_at "rho")) ?_
        generalize hs' : (q.st * 48271 + c * 69621 + ((q.at' : Int) + 1) * 613) % 2147483647 = s'
        have s0 : 0 ≤ s' := by rw [← hs']; exact Int.emod_nonneg _ (by decide)
        have s1 : s' < 2147483647 := by rw [← hs']; exact Int.emod_lt_of_pos _ (by decide)
        refine st_to (s_asg (i := 4) (ev_mod (ev_intI T.int (ev_add (ev_add (ev_mul (ev_ixL (el_par 0) ev_int rfl) (ev_ixL (el_par 0) ev_int rfl) (cmul_r ⟨by omega, by omega⟩)) (ev_mul (ev_ixL (el_par 0) ev_int rfl) ev_int (cmul_r (by decide)))) ev_int)) ev_int (by decide)) scLawTake.nd (by walk_at "rho")) ?_
        obtain ⟨v, e, hv⟩ := toNat_mod (i := (s' * s' + s' * 7919 + 104729) % 1000000007 / 3) h0
        refine st_ret (ev_mod (ev_intI T.int (ev_fdiv (ev_var 4) ev_int (wide_div (b := 2) (by decide) (by decide) (by decide) (by decide)))) (ev_var 1) h0) ⟨_, rfl, ?_⟩
        rw [e]
        exact k v { q with at' := q.at' + 1, st := s' } hv ⟨ok.c, ok.r, s0, s1⟩
end
end G

set_option Elab.async false
set_option maxRecDepth 100000
set_option maxHeartbeats 4000000
set_option linter.all false
namespace G
open PySem L2 PyProof.Rows
local macro_rules | `(tactic| walk_at "rho") => `(tactic| (show (_ : List Slot) = _; (try dsimp only [List.set_cons_succ, List.set_cons_zero, List.map_cons, List.map_nil, List.cons_append, List.nil_append, relend]); all_goals exact rfl))
def CPick : CM := fun ws ds R => ∃ (rows : List D) (q : Pool), ds = [.lst rows] ∧ 0 < rows.length ∧ rows.length ≤ 16777216 ∧ ws = q.enc ∧ q.Ok ∧ ∀ (i : Nat) d (q' : Pool), rows[i]? = some d → q'.Ok → R d q'.enc
def natsD (l : List Nat) : List D := l.map fun i => .int (i : Nat)
def COrder : CM := fun ws ds R => ∃ (m : Nat) (q : Pool), ds = [.int (m : Nat)] ∧ m ≤ 1000000 ∧ ws = q.enc ∧ q.Ok ∧ ∀ (π : List Nat) (q' : Pool), π.Perm (List.range m) → q'.Ok → R (.tup (natsD π)) q'.enc
def CPower : CP := fun ds R => ∃ (b : Int) (n : Nat), ds = [.int b, .int (n : Nat)] ∧ -(2 ^ 64) < b ∧ b < 2 ^ 64 ∧ n ≤ 1000000 ∧ R (.int (b ^ n))
section
variable {P : Program} {w : World} {K : PySem.W.Frag} {mg : Str → Option Value} {base : Heap} {f f2 : Addr} {fd fd2 : FuncData}
theorem ok_pick (F : Df K mg "_law_pick" "_law_pick" sLawPick ["pool", "rows"] f fd) (F2 : Df K mg "_law_take" "_law_take" sLawTake ["pool", "many"] f2 fd2) (T : Bn mg) : FnOk P w K mg base CX0 3 f fd ["pool", "rows"] (spM K CPick) := by
  have G2 : FnOk P w K mg base CX0 2 f2 fd2 ["pool", "many"] (spM K CTake) := ok_take F2 T
  refine fnM F.F scLawPick (fun ws ds R hC => ?_) (fun cdv A outer s H E a ws ds R hr hC => ?_)
  · obtain ⟨m, q, rfl, _⟩ := hC; rfl
  · obtain ⟨rows, q, rfl, h0, h1, rfl, ok, k⟩ := hC
    show ST _ _ [.pr a (.l q.enc), .fr (.lst rows)] _
    refine st_retW (P := fun d r => ∃ q' : Pool, q'.Ok ∧ (∃ i : Nat, rows[i]? = some d) ∧ r = [.pr a (.l q'.enc), .fr (.lst rows)]) (we_ix ix_list (P := fun x r => x = .lst rows ∧ r = [.pr a (.l q.enc), .fr (.lst rows)]) (P2 := fun _ _ y r => ∃ (v : Nat) (q' : Pool), (v : Int) < rows.length ∧ q'.Ok ∧ y = .int v ∧ r = [.pr a (.l q'.enc), .fr (.lst rows)])
      (we_of (ev_var 1) ⟨rfl, rfl⟩) (fun x r h => ?_) (fun x r1 y r2 h h2 => ?_)) fun d r h => ?_
    · obtain ⟨rfl, rfl⟩ := h
      refine we_callM 0 G2 hr F2.g F2.F.kp F2.b rfl (.inr rfl) (wa_of (ea_cons (ev_lenL T.len (el_ofV (ev_var 1))) ea_nil) ⟨_, rfl, _, rfl, by omega, ?_, q, rfl, ok, fun v q' hv ok' => ⟨v, q', hv, ok', rfl, rfl⟩⟩)
      exact small8 (by omega)
    · obtain ⟨rfl, rfl⟩ := h
      obtain ⟨v, q', hv, ok', rfl, rfl⟩ := h2
      have hv' : v < rows.length := by omega
      exact ⟨rows[v], vIxL (atI_nat (List.getElem?_eq_getElem hv')), q', ok', ⟨v, List.getElem?_eq_getElem hv'⟩, rfl⟩
    · obtain ⟨q', ok', ⟨i, hi⟩, rfl⟩ := h
      exact ⟨_, rfl, k i d q' hi ok'⟩
theorem natsD_get {l : List Nat} {i : Nat} {d : D} (h : (natsD l)[i]? = some d) : ∃ n, l[i]? = some n ∧ d = .int (n : Nat) := map_get h
theorem natsD_len {l : List Nat} : (natsD l).length = l.length := List.length_map _
theorem ok_order (F : Df K mg "_law_order" "_law_order" sLawOrder ["pool", "many"] f fd) (F2 : Df K mg "_law_take" "_law_take" sLawTake ["pool", "many"] f2 fd2) (T : Bn mg) : FnOk P w K mg base CX0 3 f fd ["pool", "many"] (spM K COrder) := by
  have G2 : FnOk P w K mg base CX0 2 f2 fd2 ["pool", "many"] (spM K CTake) := ok_take F2 T
  refine fnM F.F scLawOrder (fun ws ds R hC => ?_) (fun cdv A outer s H E a ws ds R hr hC => ?_)
  · obtain ⟨m, q, rfl, _⟩ := hC; rfl
  · obtain ⟨m, q, rfl, hm, rfl, ok, k⟩ := hC
    show ST _ _ [.pr a (.l q.enc), .fr (.int (m : Nat)), .un, .un, .un] _
    refine st_new (i := 2) (en_listR rfl T.list T.range (ev_var 1) (by omega) (by omega)) scLawOrder.nd fun b => ?_
    refine st_to (s_asg (i := 3) (ev_tup ea_nil) scLawOrder.nd (by walk_at "rho")) ?_
    refine st_cons (M := fun r => ∃ (π : List Nat) (q' : Pool) (s2 s4 : Slot), π.Perm (List.range m) ∧ q'.Ok ∧ r = [.pr a (.l q'.enc), .fr (.int (m : Nat)), s2, .fr (.tup (natsD π)), s4])
      (s_for (js := [4]) (fun i r => ∃ (left π : List Nat) (q' : Pool) (s4 : Slot), (π ++ left).Perm (List.range m) ∧ π.length = i ∧ q'.Ok ∧ r = [.pr a (.l q'.enc), .fr (.int (m : Nat)), .ow b (.l (natsD left)), .fr (.tup (natsD π)), s4])
        (it_range (ev_var 1) T.range (by omega) (by omega)) ⟨List.range m, [], q, .un, by simp, rfl, ok, ?_⟩ (fun i d r hd hI => ?_) (fun r hI => ?_)) (fun r hM => ?_)
    · show [Slot.pr a (.l q.enc), .fr (.int (m : Nat)), .ow b (.l (((List.range (m : Int).toNat).map fun (i : Nat) => (i : Int)).map D.int)), .fr (.tup []), .un] = _
      rw [List.map_map]
      rfl
    · obtain ⟨hi, rfl⟩ := rgD_get hd
      obtain ⟨left, π, q', s4, hp, hl, ok', rfl⟩ := hI
      have hlen := hp.length_eq
      rw [List.length_append, List.length_range, hl] at hlen
      have hi' : i < m := by simpa using hi
      refine ⟨_, tg_name 4 scLawOrder.nd, ?_⟩
      show ST _ _ [.pr a (.l q'.enc), .fr (.int (m : Nat)), .ow b (.l (natsD left)), .fr (.tup (natsD π)), .fr _] _
      refine st_one (M := fun _ => True) (s_asgW (P := fun d r => ∃ (v : Nat) (q2 : Pool) (n : Nat), left[v]? = some n ∧ q2.Ok ∧ d = .tup (natsD (π ++ [n])) ∧ r = [.pr a (.l q2.enc), .fr (.int (m : Nat)), .ow b (.l (natsD (left.eraseIdx v))), .fr (.tup (natsD π)), .fr (.int (0 + (i : Nat)))])
        (we_bin op_catA (P := fun x r => x = .tup (natsD π) ∧ r = [.pr a (.l q'.enc), .fr (.int (m : Nat)), .ow b (.l (natsD left)), .fr (.tup (natsD π)), .fr (.int (0 + (i : Nat)))])
          (P2 := fun _ _ y r => ∃ (v : Nat) (q2 : Pool) (n : Nat), left[v]? = some n ∧ q2.Ok ∧ y = .tup [.int (n : Nat)] ∧ r = [.pr a (.l q2.enc), .fr (.int (m : Nat)), .ow b (.l (natsD (left.eraseIdx v))), .fr (.tup (natsD π)), .fr (.int (0 + (i : Nat)))])
          (we_of (ev_var 3) ⟨rfl, rfl⟩) (fun x r h => ?_) (fun x r1 y r2 h h2 => ?_)) scLawOrder.nd (fun d r h => ?_) (i := 3))
      · obtain ⟨rfl, rfl⟩ := h
        refine we_tup (PL := fun ds r => ∃ (v : Nat) (q2 : Pool) (n : Nat), left[v]? = some n ∧ q2.Ok ∧ ds = [.int (n : Nat)] ∧ r = [.pr a (.l q2.enc), .fr (.int (m : Nat)), .ow b (.l (natsD (left.eraseIdx v))), .fr (.tup (natsD π)), .fr (.int (0 + (i : Nat)))])
          (wa_cons (P := fun d r => ∃ (v : Nat) (q2 : Pool) (n : Nat), left[v]? = some n ∧ q2.Ok ∧ d = .int (n : Nat) ∧ r = [.pr a (.l q2.enc), .fr (.int (m : Nat)), .ow b (.l (natsD (left.eraseIdx v))), .fr (.tup (natsD π)), .fr (.int (0 + (i : Nat)))])
            (we_popAt 2 (P := fun y r => ∃ (v : Nat) (q2 : Pool), (v : Int) < left.length ∧ q2.Ok ∧ y = .int v ∧ r = [.pr a (.l q2.enc), .fr (.int (m : Nat)), .ow b (.l (natsD left)), .fr (.tup (natsD π)), .fr (.int (0 + (i : Nat)))])
              (we_callM 0 G2 hr F2.g F2.F.kp F2.b rfl (.inr rfl) (wa_of (ea_cons (ev_lenL T.len (el_own 2)) ea_nil) ⟨_, rfl, _, rfl, by rw [natsD_len]; omega, ?_, q', rfl, ok', fun v q2 hv ok2 => ⟨v, q2, by rw [natsD_len] at hv; exact hv, ok2, rfl, rfl⟩⟩)) rfl (.inl rfl) (fun d r h => ?_))
            (fun d r h => wa_nil ?_)) (fun ds r h => ?_) (fun ds r h => ?_)
        · rw [natsD_len]
          exact small8 (by omega)
        · obtain ⟨v, q2, hv, ok2, rfl, rfl⟩ := h
          have hv' : v < left.length := by omega
          refine ⟨(v : Int), natsD left, v, .int (left[v] : Nat), rfl, rfl, by omega, by omega, ?_, ?_, v, q2, left[v], List.getElem?_eq_getElem hv', ok2, rfl, ?_⟩
          · rw [natsD_len]; exact seqIx hv'
          · unfold natsD
            rw [List.getElem?_map, List.getElem?_eq_getElem hv']
            rfl
          · show [Slot.pr a (.l q2.enc), .fr (.int (m : Nat)), .ow b (.l ((natsD left).eraseIdx v)), .fr (.tup (natsD π)), .fr (.int (0 + (i : Nat)))] = _
            have : (natsD left).eraseIdx v = natsD (left.eraseIdx v) := map_erase _ _ _
            rw [this]
        · obtain ⟨v, q2, n, h1, h2, rfl, rfl⟩ := h
          exact ⟨v, q2, n, h1, h2, rfl, rfl⟩
        · obtain ⟨v, q2, n, h1, h2, rfl, rfl⟩ := h
          show 1 ≤ 100000
          decide
        · obtain ⟨v, q2, n, h1, h2, rfl, rfl⟩ := h
          exact ⟨v, q2, n, h1, h2, rfl, rfl⟩
      · obtain ⟨rfl, rfl⟩ := h
        obtain ⟨v, q2, n, h1, h2, rfl, rfl⟩ := h2
        refine ⟨_, vcatT (by rw [natsD_len]; simp; omega), v, q2, n, h1, h2, ?_, rfl⟩
        unfold natsD
        rw [List.map_append]
        rfl
      · obtain ⟨v, q2, n, h1, h2, rfl, rfl⟩ := h
        refine ⟨left.eraseIdx v, π ++ [n], q2, _, ?_, by rw [List.length_append, hl]; rfl, h2, rfl⟩
        refine List.Perm.trans ?_ hp
        rw [List.append_assoc]
        refine List.Perm.append_left π ?_
        exact perm_erase h1
    · obtain ⟨left, π, q', s4, hp, hl, ok', rfl⟩ := hI
      rw [rgD_len] at hl
      have hlen := hp.length_eq
      rw [List.length_append, List.length_range, hl] at hlen
      have : left = [] := by
        apply List.eq_nil_of_length_eq_zero
        have : ((m : Int)).toNat = m := by omega
        omega
      subst this
      rw [List.append_nil] at hp
      exact ⟨π, q', _, s4, hp, ok', rfl⟩
    · obtain ⟨π, q', s2, s4, hp, ok', rfl⟩ := hM
      exact st_ret (ev_var 3) ⟨_, rfl, k π q' hp ok'⟩
end
end G

set_option Elab.async false
set_option maxRecDepth 100000
set_option maxHeartbeats 4000000
set_option linter.all false
namespace G
open PySem L2 PyProof.Rows
local macro_rules | `(tactic| walk_at "rho") => `(tactic| (show (_ : List Slot) = _; (try dsimp only [List.set_cons_succ, List.set_cons_zero, List.map_cons, List.map_nil, List.cons_append, List.nil_append, relend]); all_goals exact rfl))
abbrev Edges := List (Nat × Nat)
def encE (e : Nat × Nat) : D := .tup [.int (e.1 : Nat), .int (e.2 : Nat)]
def edgesD (es : Edges) : List D := es.map encE
theorem edgesD_len {es : Edges} : (edgesD es).length = es.length := List.length_map _
def allPairs (n : Nat) : Edges := (List.range n).flatMap fun v => (List.range v).map fun u => (u, v)
def CAllPairs : CP := fun ds R => ∃ n : Nat, ds = [.int (n : Nat)] ∧ n ≤ 1000 ∧ R (.lst (edgesD (allPairs n)))
theorem flatMap_range_succ {α : Type} (f : Nat → List α) (n : Nat) : (List.range (n + 1)).flatMap f = (List.range n).flatMap f ++ f n := by
  rw [List.range_succ, List.flatMap_append]
  simp
theorem allPairs_len (n : Nat) : (allPairs n).length ≤ n * n := by
  induction n with
  | zero => simp [allPairs]
  | succ n ih =>
    unfold allPairs at *
    rw [flatMap_range_succ, List.length_append, List.length_map, List.length_range, Nat.succ_mul, Nat.mul_succ]
    omega
section
variable {P : Program} {w : World} {K : PySem.W.Frag} {mg : Str → Option Value} {base : Heap} {f f2 f3 : Addr} {fd fd2 fd3 : FuncData}
theorem ok_power (F : Df K mg "_law_power" "_law_power" sLawPower ["base", "many"] f fd) (T : Bn mg) : FnOk P w K mg base CX0 1 f fd ["base", "many"] (spP K CPower) := by
  refine fnP F.F scLawPower (fun ds R hC => ?_) (fun cdv A outer s H E ds R hr hC => ?_)
  · obtain ⟨b, n, rfl, _⟩ := hC; rfl
  · obtain ⟨b, n, rfl, h1, h2, hn, k⟩ := hC
    show ST _ _ [.fr (.int b), .fr (.int (n : Nat)), .un, .un] _
    refine st_to (s_asg (i := 2) ev_int scLawPower.nd (by walk_at "rho")) ?_
    refine st_cons (M := fun r => ∃ s3, r = [.fr (.int b), .fr (.int (n : Nat)), .fr (.int (b ^ n)), s3])
      (s_for (js := [3]) (fun i r => ∃ s3, r = [.fr (.int b), .fr (.int (n : Nat)), .fr (.int (b ^ i)), s3]) (it_range (ev_var 1) T.range (by omega) (by omega)) ⟨.un, by simp⟩ (fun i d r hd hI => ?_) (fun r hI => ?_)) (fun r hM => ?_)
    · obtain ⟨s3, rfl⟩ := hI
      exact ⟨_, tg_name 3 scLawPower.nd, st_one (M := fun _ => True) (s_asg (i := 2) (ev_is (ev_mul (ev_var 2) (ev_var 0) (cmul_r ⟨h1, h2⟩)) (congrArg D.int (Int.pow_succ b i).symm)) scLawPower.nd ⟨_, rfl⟩)⟩
    · obtain ⟨s3, rfl⟩ := hI
      rw [rgD_len]
      exact ⟨s3, by simp⟩
    · obtain ⟨s3, rfl⟩ := hM
      exact st_ret (ev_var 2) k
theorem ok_allPairs (F : Df K mg "_law_all_pairs" "_law_all_pairs" sLawAllPairs ["n"] f fd) (T : Bn mg) : FnOk P w K mg base CX0 1 f fd ["n"] (spP K CAllPairs) := by
  refine fnP F.F scLawAllPairs (fun ds R hC => ?_) (fun cdv A outer s H E ds R hr hC => ?_)
  · obtain ⟨n, rfl, _⟩ := hC; rfl
  · obtain ⟨n, rfl, hn, k⟩ := hC
    show ST _ _ [.fr (.int (n : Nat)), .un, .un, .un] _
    refine st_to (s_asg (i := 1) (ev_lst ea_nil) scLawAllPairs.nd (by walk_at "rho")) ?_
    refine st_cons (M := fun r => ∃ s2, r = [.fr (.int (n : Nat)), .fr (.lst (edgesD (allPairs n))), s2, .un])
      (s_for (js := [2]) (fun i r => ∃ s2, r = [.fr (.int (n : Nat)), .fr (.lst (edgesD (allPairs i))), s2, .un]) (it_range (ev_var 0) T.range (by omega) (by omega)) ⟨.un, rfl⟩ (fun i d r hd hI => ?_) (fun r hI => ?_)) (fun r hM => ?_)
    · obtain ⟨s2, rfl⟩ := hI
      obtain ⟨hi, rfl⟩ := rgD_get hd
      have hi' : i < n := by simpa using hi
      have e : edgesD (allPairs i) ++ (List.range i).map (fun u => encE (u, i)) = edgesD (allPairs (i + 1)) := by
        unfold edgesD allPairs
        rw [flatMap_range_succ, List.map_append, List.map_map]
        rfl
      refine ⟨_, tg_name 2 scLawAllPairs.nd, st_one (M := fun _ => True) (s_asg (i := 1) (ev_is (ev_cat (ds' := (List.range i).map fun u => encE (u, i)) (ev_var 1) (ev_ofN (en_ofW (ρ2 := [.fr (.int (n : Nat)), .fr (.lst (edgesD (allPairs i))), .fr (.int (0 + (i : Nat))), .un]) (wn_lc (own := [("u", 3)]) (PL := fun ds r => ds = rgD 0 i ∧ r = [.fr (.int (n : Nat)), .fr (.lst (edgesD (allPairs i))), .fr (.int (0 + (i : Nat))), .un])
        (fun ds j acc r => ds = rgD 0 i ∧ acc = (List.range j).map (fun u => encE (u, i)) ∧ r = [.fr (.int (n : Nat)), .fr (.lst (edgesD (allPairs i))), .fr (.int (0 + (i : Nat))), .un])
        (wi_of (it_range (ev_var 2) T.range (by omega) (by omega)) ⟨by simp, rfl⟩) scLawAllPairs.nd (blkOk_by (N := nLawAllPairs) (sc := defScope sLawAllPairs) (by decide +kernel)) (fun ds r h => ?_) (fun ds j d acc r hd hI => ?_) (fun ds zs r hI => ?_)))) ?_) (congrArg D.lst e)) scLawAllPairs.nd ⟨_, rfl⟩)⟩
      · obtain ⟨rfl, rfl⟩ := h
        exact ⟨⟨rfl, rfl, rfl⟩, by rw [rgD_len]; omega, rfl⟩
      · obtain ⟨rfl, rfl, rfl⟩ := hI
        obtain ⟨hj, rfl⟩ := rgD_get hd
        refine ⟨_, _, fun _ _ _ _ _ => tg_name 3 scLawAllPairs.nd, fun _ _ _ _ _ => pts_nilW, fun r h => ?_, fun r h _ _ _ _ _ => ?_⟩
        · obtain ⟨h, _⟩ := h; cases h
        · obtain ⟨_, rfl⟩ := h
          refine we_of (ev_tup (ea_cons (ev_var 3) (ea_cons (ev_var 2) ea_nil)) (by show 2 ≤ 100000; decide)) ⟨rfl, ?_, rfl⟩
          rw [List.range_succ, List.map_append]
          simp [encE]
      · obtain ⟨rfl, rfl, rfl⟩ := hI
        rw [rgD_len]
        exact ⟨rfl, rfl⟩
      · rw [edgesD_len, List.length_map, List.length_range]
        have h1 := allPairs_len i
        have h2 : i * i ≤ 1000 * 1000 := Nat.mul_le_mul (by omega) (by omega)
        omega
    · obtain ⟨s2, rfl⟩ := hI
      rw [rgD_len]
      exact ⟨s2, by simp⟩
    · obtain ⟨s2, rfl⟩ := hM
      exact st_ret (ev_var 1) k
end
end G

set_option Elab.async false
set_option maxRecDepth 100000
set_option maxHeartbeats 4000000
set_option linter.all false
namespace G
open PySem L2 PyProof.Rows
local macro_rules | `(tactic| walk_at "rho") => `(tactic| (show (_ : List Slot) = _; (try dsimp only [List.set_cons_succ, List.set_cons_zero, List.map_cons, List.map_nil, List.cons_append, List.nil_append, relend]); all_goals exact rfl))
def digitTest (k u : Nat) : Bool := decide (u / 2 ^ k % 2 = 0)
def digitRow (n k : Nat) : Edges := ((List.range (2 ^ n)).filter (digitTest k)).map fun u => (u, u + 2 ^ k)
def digitEdges (n : Nat) : Edges := (List.range n).flatMap (digitRow n)
def digitUpTo (n i : Nat) : Edges := (List.range i).flatMap (digitRow n)
def CDigit : CP := fun ds R => ∃ n : Nat, ds = [.int (n : Nat)] ∧ n ≤ 6 ∧ R (.lst (edgesD (digitEdges n)))
theorem digitRow_len (n k : Nat) : (digitRow n k).length ≤ 2 ^ n := by
  unfold digitRow
  rw [List.length_map]
  exact Nat.le_trans (List.length_filter_le _ _) (by simp)
theorem digitUpTo_len (n i : Nat) : (digitUpTo n i).length ≤ i * 2 ^ n := by
  induction i with
  | zero => simp [digitUpTo]
  | succ i ih =>
    unfold digitUpTo at *
    rw [flatMap_range_succ, List.length_append, Nat.succ_mul]
    have := digitRow_len n i
    omega
abbrev rDig (n i : Nat) (s3 : Slot) : Rho := [.fr (.int (n : Nat)), .fr (.lst (edgesD (digitUpTo n i))), .fr (.int ((2 ^ i : Nat) : Nat)), s3, .un]
section
variable {P : Program} {w : World} {K : PySem.W.Frag} {mg : Str → Option Value} {base : Heap} {f f2 f3 : Addr} {fd fd2 fd3 : FuncData}
theorem ok_digitEdges (F : Df K mg "_law_digit_edges" "_law_digit_edges" sLawDigitEdges ["deep"] f fd) (F2 : Df K mg "_law_power" "_law_power" sLawPower ["base", "many"] f2 fd2) (T : Bn mg) : FnOk P w K mg base CX0 2 f fd ["deep"] (spP K CDigit) := by
  have G2 : FnOk P w K mg base CX0 1 f2 fd2 ["base", "many"] (spP K CPower) := ok_power F2 T
  refine fnP F.F scLawDigitEdges (fun ds R hC => ?_) (fun cdv A outer s H E ds R hr hC => ?_)
  · obtain ⟨n, rfl, _⟩ := hC; rfl
  · obtain ⟨n, rfl, hn, k⟩ := hC
    show ST _ _ [.fr (.int (n : Nat)), .un, .un, .un, .un] _
    refine st_to (s_asg (i := 1) (ev_lst ea_nil) scLawDigitEdges.nd (by walk_at "rho")) ?_
    refine st_to (s_asg (i := 2) ev_int scLawDigitEdges.nd (by walk_at "rho")) ?_
    refine st_cons (M := fun r => ∃ s3, r = rDig n n s3)
      (s_for (js := [3]) (fun i r => ∃ s3, r = rDig n i s3) (it_range (ev_var 0) T.range (by omega) (by omega)) ⟨.un, rfl⟩ (fun i d r hd hI => ?_) (fun r hI => ?_)) (fun r hM => ?_)
    · obtain ⟨s3, rfl⟩ := hI
      obtain ⟨hi, rfl⟩ := rgD_get hd
      have hi' : i < n := by simpa using hi
      have h64 : 2 ^ n ≤ 2 ^ 6 := Nat.pow_le_pow_right (by decide) hn
      have h64i : 2 ^ i ≤ 2 ^ 6 := Nat.pow_le_pow_right (by decide) (by omega)
      have e : edgesD (digitUpTo n i) ++ edgesD (digitRow n i) = edgesD (digitUpTo n (i + 1)) := by
        unfold edgesD digitUpTo
        rw [flatMap_range_succ, List.map_append]
      refine ⟨_, tg_name 3 scLawDigitEdges.nd, ?_⟩
      refine st_to (s_asg (i := 1) (ev_is (ev_cat (ds' := edgesD (digitRow n i)) (ev_var 1) (ev_ofN (en_ofW (ρ2 := rDig n i (.fr (.int (0 + (i : Nat))))) (wn_lc (own := [("u", 4)]) (PL := fun ds r => ds = rgD 0 (2 ^ n) ∧ r = rDig n i (.fr (.int (0 + (i : Nat)))))
        (fun ds j acc r => ds = rgD 0 (2 ^ n) ∧ acc = ((List.range j).filter (digitTest i)).map (fun u => encE (u, u + 2 ^ i)) ∧ r = rDig n i (.fr (.int (0 + (i : Nat)))))
        (wi_of (it_range (ev_call G2 hr F2.g F2.F.kp F2.b (ea_cons ev_int (ea_cons (ev_var 0) ea_nil)) ⟨2, n, rfl, by decide, by decide, by omega, rfl⟩) T.range ?_ ?_) ⟨?_, rfl⟩) scLawDigitEdges.nd (blkOk_by (N := nLawDigitEdges) (sc := defScope sLawDigitEdges) (by decide +kernel)) (fun ds r h => ?_) (fun ds j d acc r hd hI => ?_) (fun ds zs r hI => ?_)))) ?_) (congrArg D.lst e)) scLawDigitEdges.nd (by walk_at "rho")) ?_
      · have : (0 : Int) < 2 ^ n := Int.pow_pos (by decide)
        omega
      · have : (2 : Int) ^ n = ((2 ^ n : Nat) : Int) := by simp
        omega
      · have : (2 : Int) ^ n = ((2 ^ n : Nat) : Int) := by simp
        rw [this, Int.toNat_natCast]
      · obtain ⟨rfl, rfl⟩ := h
        exact ⟨⟨rfl, rfl, rfl⟩, by rw [rgD_len]; omega, rfl⟩
      · obtain ⟨rfl, rfl, rfl⟩ := hI
        obtain ⟨hj, rfl⟩ := rgD_get hd
        have hp : 0 < 2 ^ i := Nat.pow_pos (by decide)
        refine ⟨_, fun b r => b = digitTest i j ∧ r = [.fr (.int (n : Nat)), .fr (.lst (edgesD (digitUpTo n i))), .fr (.int ((2 ^ i : Nat) : Nat)), .fr (.int (0 + (i : Nat))), .fr (.int (0 + (j : Nat)))], fun _ _ _ _ _ => tg_name 4 scLawDigitEdges.nd, fun _ _ _ _ _ => pts_oneW (wt_of (et_eqI (ev_mod (ev_intI T.int (ev_fdiv (ev_var 4) (ev_var 2) (wide_div (b := 10) (by omega) ?_ (by decide) (by decide)))) ev_int (by decide)) ev_int) ⟨?_, rfl⟩), fun r h => ?_, fun r h _ _ _ _ _ => ?_⟩
        · have : (2 : Nat) ^ 6 < 2 ^ 10 := by decide
          omega
        · unfold digitTest
          rw [Bool.eq_iff_iff, decide_eq_true_eq, decide_eq_true_eq]
          have e1 : (0 + (j : Int)) / ((2 ^ i : Nat) : Int) % 2 = ((j / 2 ^ i % 2 : Nat) : Int) := by rw [Int.zero_add]; rfl
          rw [e1]
          omega
        · obtain ⟨h, rfl⟩ := h
          refine ⟨rfl, ?_, rfl⟩
          rw [List.range_succ, List.filter_append, List.filter_cons, if_neg (by rw [← h]; decide)]
          simp
        · obtain ⟨h, rfl⟩ := h
          refine we_of (ev_tup (ea_cons (ev_var 4) (ea_cons (ev_add (ev_var 4) (ev_var 2)) ea_nil)) (by show 2 ≤ 100000; decide)) ⟨rfl, ?_, rfl⟩
          rw [List.range_succ, List.filter_append, List.filter_cons, if_pos h.symm, List.map_append]
          simp [encE]
      · obtain ⟨rfl, rfl, rfl⟩ := hI
        rw [rgD_len]
        refine ⟨?_, rfl⟩
        unfold edgesD digitRow
        rw [List.map_map]
        rfl
      · rw [edgesD_len, edgesD_len]
        have h1 := digitUpTo_len n i
        have h2 := digitRow_len n i
        have h3 : i * 2 ^ n ≤ 6 * 2 ^ 6 := Nat.mul_le_mul (by omega) h64
        omega
      · refine st_one (M := fun _ => True) (s_asg (i := 2) (ev_is (ev_mul ev_int (ev_var 2) (cmul_l (by decide))) (d' := .int ((2 ^ (i + 1) : Nat) : Nat)) ?_) scLawDigitEdges.nd ⟨_, rfl⟩)
        rw [Nat.pow_succ]
        congr 1
        omega
    · obtain ⟨s3, rfl⟩ := hI
      rw [rgD_len]
      exact ⟨s3, by simp⟩
    · obtain ⟨s3, rfl⟩ := hM
      exact st_ret (ev_var 1) k
end
end G

set_option Elab.async false
set_option maxRecDepth 100000
set_option maxHeartbeats 4000000
set_option linter.all false
namespace G
open PySem L2 PyProof.Rows
local macro_rules | `(tactic| walk_at "rho") => `(tactic| (show (_ : List Slot) = _; (try dsimp only [List.set_cons_succ, List.set_cons_zero, List.map_cons, List.map_nil, List.cons_append, List.nil_append, relend]); all_goals exact rfl))
/-- the ends of edges: a loop has one -/
def ends1 (e : Nat × Nat) : List Nat := if e.1 = e.2 then [e.1] else [e.1, e.2]
def endsL (es : Edges) : List Nat := es.flatMap ends1
def EdgeOk (n : Nat) (es : Edges) : Prop := ∀ e ∈ es, e.1 ≤ e.2 ∧ e.2 < n
theorem endsL_app (es fs : Edges) : endsL (es ++ fs) = endsL es ++ endsL fs := List.flatMap_append
theorem EdgeOk.app {n : Nat} {es fs : Edges} (h1 : EdgeOk n es) (h2 : EdgeOk n fs) : EdgeOk n (es ++ fs) := fun e he => (List.mem_append.mp he).elim (h1 e) (h2 e)
/-- one end more at each place -/
def Pairing (n : Nat) (es : Edges) : Prop := EdgeOk n es ∧ (endsL es).Perm (List.range n)
theorem ends_len (es : Edges) : es.length ≤ (endsL es).length := by
  induction es with
  | nil => simp
  | cons e es ih =>
    unfold endsL at *
    rw [List.flatMap_cons, List.length_append, List.length_cons]
    have : 1 ≤ (ends1 e).length := by unfold ends1; split <;> simp
    omega
theorem Pairing.len {n : Nat} {es : Edges} (h : Pairing n es) : es.length ≤ n := by
  have := ends_len es
  rw [h.2.length_eq, List.length_range] at this
  exact this
def CPairing : CM := fun ws ds R => ∃ (n : Nat) (b : Bool) (q : Pool), ds = [.int (n : Nat), .bl b] ∧ n ≤ 1000 ∧ ws = q.enc ∧ q.Ok ∧ ∀ (es : Edges) (q' : Pool), Pairing n es → q'.Ok → R (.lst (edgesD es)) q'.enc
abbrev rPair (l : Addr) (q : Pool) (n : Nat) (b : Bool) (π : List Nat) (c : Addr) (es : Edges) (at' : Nat) (s6 : Slot) : Rho := [.pr l (.l q.enc), .fr (.int (n : Nat)), .fr (.bl b), .fr (.tup (natsD π)), .ow c (.l (edgesD es)), .fr (.int (at' : Nat)), s6]
theorem natsD_at {l : List Nat} {i : Nat} {n : Nat} (h : l[i]? = some n) : L2.atI (natsD l) (i : Int) = some (.int (n : Nat)) := atI_map h
section
variable {P : Program} {w : World} {K : PySem.W.Frag} {mg : Str → Option Value} {base : Heap} {f f2 f3 : Addr} {fd fd2 fd3 : FuncData}
theorem ok_pairing (F : Df K mg "_law_pairing" "_law_pairing" sLawPairing ["pool", "n", "is_loose"] f fd) (F2 : Df K mg "_law_take" "_law_take" sLawTake ["pool", "many"] f2 fd2) (F3 : Df K mg "_law_order" "_law_order" sLawOrder ["pool", "many"] f3 fd3) (T : Bn mg) : FnOk P w K mg base CX0 4 f fd ["pool", "n", "is_loose"] (spM K CPairing) := by
  have G2 : FnOk P w K mg base CX0 2 f2 fd2 ["pool", "many"] (spM K CTake) := ok_take F2 T
  have G3 : FnOk P w K mg base CX0 3 f3 fd3 ["pool", "many"] (spM K COrder) := ok_order F3 F2 T
  refine fnM F.F scLawPairing (fun ws ds R hC => ?_) (fun cdv A outer s H E a ws ds R hr hC => ?_)
  · obtain ⟨n, b, q, rfl, _⟩ := hC; rfl
  · obtain ⟨n, b, q, rfl, hn, rfl, ok, k⟩ := hC
    have hr2 : Room 2 _ := hr.mono (by decide)
    show ST _ _ [.pr a (.l q.enc), .fr (.int (n : Nat)), .fr (.bl b), .un, .un, .un, .un] _
    refine st_cons (M := fun r => ∃ (π : List Nat) (q' : Pool), π.Perm (List.range n) ∧ q'.Ok ∧ r = [.pr a (.l q'.enc), .fr (.int (n : Nat)), .fr (.bl b), .fr (.tup (natsD π)), .un, .un, .un])
      (s_asgW (i := 3) (P := fun d r => ∃ (π : List Nat) (q' : Pool), π.Perm (List.range n) ∧ q'.Ok ∧ d = .tup (natsD π) ∧ r = [.pr a (.l q'.enc), .fr (.int (n : Nat)), .fr (.bl b), .un, .un, .un, .un])
        (we_callM 0 G3 hr F3.g F3.F.kp F3.b rfl (.inr rfl) (wa_of (ea_cons (ev_var 1) ea_nil) ⟨_, rfl, n, q, rfl, by omega, rfl, ok, fun π q' hp ok' => ⟨π, q', hp, ok', rfl, rfl⟩⟩)) scLawPairing.nd (fun d r h => ?_)) ?_
    · obtain ⟨π, q', hp, ok', rfl, rfl⟩ := h
      exact ⟨π, q', hp, ok', rfl⟩
    rintro _ ⟨π, q1, hp, ok1, rfl⟩
    have hπ : π.length = n := by rw [hp.length_eq, List.length_range]
    have mem : ∀ (i v : Nat), π[i]? = some v → v < n := fun i v h => by
      have := hp.mem_iff.mp (List.mem_of_getElem? h)
      simpa using this
    refine st_new (i := 4) (en_lst ea_nil) scLawPairing.nd fun c => ?_
    refine st_to (s_asg (i := 5) ev_int scLawPairing.nd (by walk_at "rho")) ?_
    refine st_cons (M := fun r => ∃ (q' : Pool) (es : Edges) (s6 : Slot), Pairing n es ∧ q'.Ok ∧ r = rPair a q' n b π c es n s6)
      (s_for (js := [6]) (fun i r => ∃ (q' : Pool) (es : Edges) (at' : Nat) (s6 : Slot), EdgeOk n es ∧ (endsL es).Perm (π.take at') ∧ (i ≤ at') ∧ at' ≤ n ∧ q'.Ok ∧ r = rPair a q' n b π c es at' s6)
        (it_range (ev_var 1) T.range (by omega) (by omega)) ⟨q1, [], 0, .un, (by intro e h; cases h), by simp [endsL], Nat.le_refl _, Nat.zero_le _, ok1, rfl⟩ (fun i d r hd hI => ?_) (fun r hI => ?_)) (fun r hM => ?_)
    · obtain ⟨q', es, at', s6, h1, h2, h3, h4, ok', rfl⟩ := hI
      obtain ⟨hi, rfl⟩ := rgD_get hd
      have hi' : i < n := by simpa using hi
      have esl : es.length ≤ n := by
        have := ends_len es
        rw [h2.length_eq, List.length_take] at this
        omega
      refine ⟨_, tg_name 6 scLawPairing.nd, ?_⟩
      show ST _ _ (rPair a q' n b π c es at' (.fr (.int (0 + (i : Nat))))) _
      refine st_if (et_ge (ev_var 5) (ev_var 1)) (fun hb => ?_) (fun hb => ?_)
      · have e : at' = n := by
          have : (n : Int) ≤ at' := by simpa using hb
          omega
        subst e
        rw [List.take_of_length_le (by omega)] at h2
        exact st_one (M := fun _ => True) (s_break ⟨q', es, _, ⟨h1, h2.trans hp⟩, ok', rfl⟩)
      · have hlt : at' < n := by
          have : ¬ (n : Int) ≤ at' := by simpa using hb
          omega
        refine st_nil ?_
        have g0 : π[at']? = some π[at'] := List.getElem?_eq_getElem (by omega)
        have m0 := mem _ _ g0
        refine st_one (M := fun _ => True) (s_ifW (PB := fun bb r => ∃ q2 : Pool, q2.Ok ∧ (bb = false → at' + 1 < n) ∧ r = rPair a q2 n b π c es at' (.fr (.int (0 + (i : Nat)))))
          (wt_w (ww_or (PB := fun bb r => (bb = false → at' + 1 < n) ∧ r = rPair a q' n b π c es at' (.fr (.int (0 + (i : Nat))))) (wt_of (et_eqI (ev_var 5) (ev_sub (ev_var 1) ev_int)) ⟨fun h => ?_, rfl⟩) (fun r h => ?_) (fun r h => ?_))) (fun r h => ?_) (fun r h => ?_))
        · have : ¬ (at' : Int) = (n : Int) - 1 := by simpa using h
          omega
        · obtain ⟨hlt2, rfl⟩ := h
          have hlt2 := hlt2 rfl
          refine ww_or1 (wt_w (ww_and (PB := fun bb r => r = rPair a q' n b π c es at' (.fr (.int (0 + (i : Nat))))) (wt_of (et_val (ev_var 2)) rfl) (fun r h => ?_) (fun r h => ⟨q', ok', fun _ => hlt2, h⟩)))
          subst h
          refine ww_and1 (wt_cmp op_eq (P := fun x r => ∃ (v : Nat) (q2 : Pool), q2.Ok ∧ x = .int (v : Nat) ∧ r = rPair a q2 n b π c es at' (.fr (.int (0 + (i : Nat))))) (P2 := fun _ r y r2 => y = .int 0 ∧ r2 = r)
            (we_callM 0 G2 hr2 F2.g F2.F.kp F2.b rfl (.inr rfl) (wa_of (ea_cons ev_int ea_nil) ⟨_, rfl, 5, rfl, by decide, small8 (by decide), q', rfl, ok', fun v q2 hv ok2 => ⟨v, q2, ok2, rfl, rfl⟩⟩)) (fun x r h => we_of ev_int ⟨rfl, rfl⟩) (nomark _) (fun x r1 y r2 h h2 => ?_))
          obtain ⟨v, q2, ok2, rfl, rfl⟩ := h
          obtain ⟨rfl, rfl⟩ := h2
          exact ⟨_, veqI, q2, ok2, fun _ => hlt2, rfl⟩
        · obtain ⟨_, rfl⟩ := h
          exact ⟨q', ok', (fun z => nomatch z), rfl⟩
        · obtain ⟨q2, ok2, _, rfl⟩ := h
          refine st_to (s_append 4 (ev_tup (ea_cons (ev_ixT (ev_var 3) (ev_var 5) (natsD_at g0)) (ea_cons (ev_ixT (ev_var 3) (ev_var 5) (natsD_at g0)) ea_nil)) (by show 2 ≤ 100000; decide)) rfl (.inl rfl) ⟨_, rfl⟩ (by rw [edgesD_len]; omega) (by walk_at "rho")) ?_
          refine st_one (M := fun _ => True) (s_asg (i := 5) (ev_add (ev_var 5) ev_int) scLawPairing.nd ⟨q2, es ++ [(π[at'], π[at'])], at' + 1, .fr (.int (0 + (i : Nat))), h1.app (fun e he => ?_), ?_, by omega, hlt, ok2, ?_⟩)
          · have : e = (π[at'], π[at']) := by simpa using he
            subst this
            exact ⟨Nat.le_refl _, m0⟩
          · rw [endsL_app, List.take_succ, g0]
            refine h2.append ?_
            simp [endsL, ends1]
          · show [Slot.pr a (.l q2.enc), .fr (.int (n : Nat)), .fr (.bl b), .fr (.tup (natsD π)), .ow c (.l (edgesD es ++ [encE (π[at'], π[at'])])), .fr (.int ((at' : Int) + 1)), .fr (.int (0 + (i : Nat)))] = _
            unfold edgesD
            rw [← List.map_singleton (f := encE), ← List.map_append]
            rfl
        · obtain ⟨q2, ok2, hlt2, rfl⟩ := h
          have hlt2 := hlt2 rfl
          have g1 : π[at' + 1]? = some π[at' + 1] := List.getElem?_eq_getElem (by omega)
          have m1 := mem _ _ g1
          have c1 : ((at' : Int) + 1) = ((at' + 1 : Nat) : Int) := by omega
          have i1 : L2.atI (natsD π) ((at' : Int) + 1) = some (.int (π[at' + 1] : Nat)) := by rw [c1]; exact natsD_at g1
          have ne : π[at'] ≠ π[at' + 1] := fun z => by
            have nd : π.Nodup := hp.nodup_iff.mpr List.nodup_range
            have := (List.getElem_inj nd).mp z
            omega
          generalize hx : π[at'] = x at *
          generalize hy : π[at' + 1] = y at *
          have e1 : (if (y : Int) < (x : Int) then (y : Int) else (x : Int)) = ((min x y : Nat) : Int) := by
            rw [Nat.min_def]; split <;> split <;> omega
          have e2 : (if (y : Int) > (x : Int) then (y : Int) else (x : Int)) = ((max x y : Nat) : Int) := by
            rw [Nat.max_def]; split <;> split <;> omega
          refine st_to (s_append 4 (d := encE (min x y, max x y)) (ev_is (ev_tup (ea_cons (ev_min2 rfl T.min (ev_ixT (ev_var 3) (ev_var 5) (natsD_at g0)) (ev_ixT (ev_var 3) (ev_add (ev_var 5) ev_int) i1)) (ea_cons (ev_max2 rfl T.max (ev_ixT (ev_var 3) (ev_var 5) (natsD_at g0)) (ev_ixT (ev_var 3) (ev_add (ev_var 5) ev_int) i1)) ea_nil)) (by show 2 ≤ 100000; decide)) (by rw [e1, e2]; rfl)) rfl (.inl rfl) ⟨_, rfl⟩ (by rw [edgesD_len]; omega) (by walk_at "rho")) ?_
          refine st_one (M := fun _ => True) (s_asg (i := 5) (ev_add (ev_var 5) ev_int) scLawPairing.nd ⟨q2, es ++ [(min x y, max x y)], at' + 2, .fr (.int (0 + (i : Nat))), h1.app (fun e he => ?_), ?_, by omega, hlt2, ok2, ?_⟩)
          · have : e = (min x y, max x y) := by simpa using he
            subst this
            exact ⟨by simp only [Nat.min_def, Nat.max_def]; split <;> omega, by simp only [Nat.max_def]; split <;> omega⟩
          · rw [endsL_app, List.take_succ, List.take_succ, g0, g1, List.append_assoc]
            refine h2.append ?_
            by_cases hxy : x ≤ y
            · rw [Nat.min_eq_left hxy, Nat.max_eq_right hxy]
              simp [endsL, ends1, ne]
            · rw [Nat.min_eq_right (by omega), Nat.max_eq_left (by omega)]
              simp [endsL, ends1, Ne.symm ne]
              exact List.Perm.swap _ _ _
          · show [Slot.pr a (.l q2.enc), .fr (.int (n : Nat)), .fr (.bl b), .fr (.tup (natsD π)), .ow c (.l (edgesD es ++ [encE (min x y, max x y)])), .fr (.int ((at' : Int) + 2)), .fr (.int (0 + (i : Nat)))] = _
            unfold edgesD
            rw [← List.map_singleton (f := encE), ← List.map_append]
            rfl
    · obtain ⟨q', es, at', s6, h1, h2, h3, h4, ok', rfl⟩ := hI
      rw [rgD_len] at h3
      have e : at' = n := by
        have : ((n : Int)).toNat = n := by omega
        omega
      subst e
      rw [List.take_of_length_le (by omega)] at h2
      exact ⟨q', es, s6, ⟨h1, h2.trans hp⟩, ok', rfl⟩
    · obtain ⟨q', es, s6, hP, ok', rfl⟩ := hM
      exact st_ret (ev_give 4) ⟨_, rfl, k es q' hP ok'⟩
end
end G

set_option Elab.async false
set_option maxRecDepth 100000
set_option maxHeartbeats 4000000
set_option linter.all false
namespace G
open PySem L2 PyProof.Rows
local macro_rules | `(tactic| walk_at "rho") => `(tactic| (show (_ : List Slot) = _; (try dsimp only [List.set_cons_succ, List.set_cons_zero, List.map_cons, List.map_nil, List.cons_append, List.nil_append, relend]); all_goals exact rfl))
def circ1 (n p s : Nat) : Edges := if p ≤ (p + s) % n then [(p, (p + s) % n)] else []
def circRow (n : Nat) (shifts : List Nat) (p : Nat) : Edges := shifts.flatMap (circ1 n p)
def circ (n : Nat) (shifts : List Nat) : Edges := (List.range n).flatMap (circRow n shifts)
def CCircle : CP := fun ds R => ∃ (n : Nat) (shifts : List Nat), ds = [.int (n : Nat), .lst (natsD shifts)] ∧ 0 < n ∧ n ≤ 1000 ∧ shifts.length ≤ 1000 ∧ R (.lst (edgesD (circ n shifts)))
theorem circRow_len (n : Nat) (shifts : List Nat) (p : Nat) : (circRow n shifts p).length ≤ shifts.length := by
  unfold circRow
  induction shifts with
  | nil => simp
  | cons s l ih =>
    rw [List.flatMap_cons, List.length_append, List.length_cons]
    have : (circ1 n p s).length ≤ 1 := by unfold circ1; split <;> simp
    omega
theorem circ_len (n : Nat) (shifts : List Nat) (i : Nat) : ((List.range i).flatMap (circRow n shifts)).length ≤ i * shifts.length := by
  induction i with
  | zero => simp
  | succ i ih =>
    rw [flatMap_range_succ, List.length_append, Nat.succ_mul]
    have := circRow_len n shifts i
    omega
theorem take_succ_of {α : Type} {l : List α} {j : Nat} {x : α} (h : l[j]? = some x) : l.take (j + 1) = l.take j ++ [x] := by rw [List.take_succ, h]; rfl
abbrev rCirc (n : Nat) (shifts : List Nat) (c : Addr) (es : Edges) (s3 s4 s5 : Slot) : Rho := [.fr (.int (n : Nat)), .fr (.lst (natsD shifts)), .ow c (.l (edgesD es)), s3, s4, s5]
theorem edgesD_snoc (es : Edges) (e : Nat × Nat) : edgesD es ++ [encE e] = edgesD (es ++ [e]) := by unfold edgesD; rw [List.map_append]; rfl
section
variable {P : Program} {w : World} {K : PySem.W.Frag} {mg : Str → Option Value} {base : Heap} {f f2 f3 : Addr} {fd fd2 fd3 : FuncData}
theorem ok_circle (F : Df K mg "_law_circle_edges" "_law_circle_edges" sLawCircleEdges ["n", "shifts"] f fd) (T : Bn mg) : FnOk P w K mg base CX0 1 f fd ["n", "shifts"] (spP K CCircle) := by
  refine fnP F.F scLawCircleEdges (fun ds R hC => ?_) (fun cdv A outer s H E ds R hr hC => ?_)
  · obtain ⟨n, sh, rfl, _⟩ := hC; rfl
  · obtain ⟨n, sh, rfl, hn0, hn, hs, k⟩ := hC
    show ST _ _ [.fr (.int (n : Nat)), .fr (.lst (natsD sh)), .un, .un, .un, .un] _
    refine st_new (i := 2) (en_lst ea_nil) scLawCircleEdges.nd fun c => ?_
    have hmul : n * sh.length ≤ 1000 * 1000 := Nat.mul_le_mul hn hs
    refine st_cons (M := fun r => ∃ s3 s4 s5, r = rCirc n sh c (circ n sh) s3 s4 s5)
      (s_for (js := [3]) (fun i r => ∃ s3 s4 s5, r = rCirc n sh c ((List.range i).flatMap (circRow n sh)) s3 s4 s5) (it_range (ev_var 0) T.range (by omega) (by omega)) ⟨.un, .un, .un, rfl⟩ (fun i d r hd hI => ?_) (fun r hI => ?_)) (fun r hM => ?_)
    · obtain ⟨s3, s4, s5, rfl⟩ := hI
      obtain ⟨hi, rfl⟩ := rgD_get hd
      have hi' : i < n := by simpa using hi
      refine ⟨_, tg_name 3 scLawCircleEdges.nd, ?_⟩
      refine st_one (M := fun _ => True) (s_for (js := [4]) (fun j r => ∃ s4 s5, r = rCirc n sh c ((List.range i).flatMap (circRow n sh) ++ (sh.take j).flatMap (circ1 n i)) (.fr (.int (0 + (i : Nat)))) s4 s5) (it_list (ev_var 1)) ⟨s4, s5, by simp⟩ (fun j d r hd hI => ?_) (fun r hI => ?_))
      · obtain ⟨s4, s5, rfl⟩ := hI
        obtain ⟨sv, hsv, rfl⟩ := natsD_get hd
        have hj : j < sh.length := (List.getElem?_eq_some_iff.mp hsv).1
        have hlen : ((List.range i).flatMap (circRow n sh) ++ (sh.take j).flatMap (circ1 n i)).length ≤ n * sh.length := by
          rw [List.length_append]
          have h1 := circ_len n sh i
          have h2 : ((sh.take j).flatMap (circ1 n i)).length ≤ j := by
            have := circRow_len n (sh.take j) i
            unfold circRow at this
            rw [List.length_take] at this
            omega
          have h3 : (i + 1) * sh.length ≤ n * sh.length := Nat.mul_le_mul_right _ hi'
          rw [Nat.succ_mul] at h3
          omega
        have e0 : (0 + (i : Int) + (sv : Int)) % (n : Int) = (((i + sv) % n : Nat) : Int) := by rw [Int.zero_add]; rfl
        refine ⟨_, tg_name 4 scLawCircleEdges.nd, ?_⟩
        refine st_to (s_asg (i := 5) (ev_is (ev_mod (ev_intI T.int (ev_add (ev_var 3) (ev_var 4))) (ev_var 0) (by omega)) (congrArg D.int e0)) scLawCircleEdges.nd (by walk_at "rho")) ?_
        refine st_one (M := fun _ => True) (s_if (et_le (ev_var 3) (ev_var 5)) (fun hb => ?_) (fun hb => ?_))
        · have hb' : i ≤ (i + sv) % n := by
            have : (0 : Int) + i ≤ ((i + sv) % n : Nat) := by simpa using hb
            omega
          refine st_one (M := fun _ => True) (s_append 2 (d := encE (i, (i + sv) % n)) (ev_is (ev_tup (ea_cons (ev_var 3) (ea_cons (ev_var 5) ea_nil)) (by show 2 ≤ 100000; decide)) (by rw [Int.zero_add]; rfl)) rfl (.inl rfl) ⟨_, rfl⟩ (by rw [edgesD_len]; omega) ⟨.fr (.int (sv : Nat)), .fr (.int (((i + sv) % n : Nat) : Nat)), ?_⟩)
          rw [take_succ_of hsv, List.flatMap_append]
          show [Slot.fr (.int (n : Nat)), .fr (.lst (natsD sh)), .ow c (.l (edgesD _ ++ [encE (i, (i + sv) % n)])), _, _, _] = _
          rw [edgesD_snoc, List.append_assoc]
          simp [circ1, hb']
        · have hb' : ¬ i ≤ (i + sv) % n := by
            have : ¬ (0 : Int) + i ≤ ((i + sv) % n : Nat) := by simpa using hb
            omega
          refine st_nil ⟨.fr (.int (sv : Nat)), .fr (.int (((i + sv) % n : Nat) : Nat)), ?_⟩
          rw [take_succ_of hsv, List.flatMap_append]
          simp [circ1, hb']
      · obtain ⟨s4, s5, rfl⟩ := hI
        refine ⟨.fr (.int (0 + (i : Nat))), s4, s5, ?_⟩
        rw [flatMap_range_succ, natsD_len, List.take_length]
        rfl
    · obtain ⟨s3, s4, s5, rfl⟩ := hI
      rw [rgD_len]
      refine ⟨s3, s4, s5, ?_⟩
      have : ((n : Int)).toNat = n := by omega
      rw [this]
      rfl
    · obtain ⟨s3, s4, s5, rfl⟩ := hM
      exact st_ret (ev_give 2) k
/-! ### sameness of data -/
/-- data of at most so many layers, no instance in it -/
inductive Pl : Nat → D → Prop
  | non (n) : Pl n .non
  | bl (n b) : Pl n (.bl b)
  | int (n i) : Pl n (.int i)
  | str (n x) : Pl n (.str x)
  | tup (n l) : (∀ d ∈ l, Pl n d) → l.length < 16777216 → Pl (n + 1) (.tup l)
  | lst (n l) : (∀ d ∈ l, Pl n d) → l.length < 16777216 → Pl (n + 1) (.lst l)
def CSame (n : Nat) : CP := fun ds R => ∃ d, ds = [d, d] ∧ Pl n d ∧ R (.bl true)
def CIsInt : CP := fun ds R => ∃ i, ds = [.int i] ∧ R (.bl true)
theorem ok_isInt (F : Df K mg "_law_is_integer" "_law_is_integer" sLawIsInteger ["actual"] f fd) (T : Bn mg) : FnOk P w K mg base CX0 1 f fd ["actual"] (spP K CIsInt) := by
  refine fnP F.F scLawIsInteger (fun ds R hC => ?_) (fun cdv A outer s H E ds R hr hC => ?_)
  · obtain ⟨n, rfl, _⟩ := hC; rfl
  · obtain ⟨i, rfl, k⟩ := hC
    show ST _ _ [.fr (.int i)] _
    exact st_ret (ev_and (ev_isi (d := .int i) (ev_var 0) rfl kit_int_int T.isinstance T.int (by decide +kernel)) fun _ => ev_one (ev_not (ev_isi (d := .int i) (ev_var 0) rfl kit_int_bool T.isinstance T.bool (by decide +kernel)))) k
theorem wi_cells {l : List D} {i : Nat} {d : D} (h : l[i]? = some d) : L2.atI l (0 + (i : Int)) = some d := by rw [Int.zero_add]; exact atI_nat h
abbrev rSame (d : D) : Rho := [.fr d, .fr d, .un]
theorem same_step (F : Df K mg "_law_same" "_law_same" sLawSame ["actual", "due"] f fd) (F2 : Df K mg "_law_is_integer" "_law_is_integer" sLawIsInteger ["actual"] f2 fd2) (T : Bn mg) (n : Nat) (ih : ∀ m, n = m + 1 → FnOk P w K mg base CX0 (m + 2) f fd ["actual", "due"] (spP K (CSame m))) : FnOk P w K mg base CX0 (n + 2) f fd ["actual", "due"] (spP K (CSame n)) := by
  have G2 : FnOk P w K mg base CX0 1 f2 fd2 ["actual"] (spP K CIsInt) := ok_isInt F2 T
  refine fnP F.F scLawSame (fun ds R hC => ?_) (fun cdv A outer s H E ds R hr hC => ?_)
  · obtain ⟨d, rfl, _⟩ := hC; rfl
  · obtain ⟨d, rfl, hd, k⟩ := hC
    show ST _ _ (rSame d) _
    cases hd with
    | tup m l hl hz =>
      have G1 := ih m rfl
      refine st_if (et_val (ev_isi (d := .tup l) (ev_var 1) rfl kit_tuple_tuple T.isinstance T.tuple (by decide +kernel))) (fun _ => ?_) (fun h => nomatch h)
      refine st_if (et_w (ew_or (et_not (et_val (ev_isi (d := .tup l) (ev_var 0) rfl kit_tuple_tuple T.isinstance T.tuple (by decide +kernel)))) fun _ => ew_or1 (et_neI (ev_lenT (ds := l) T.len (ev_var 0)) (ev_lenT (ds := l) T.len (ev_var 1))))) (fun h => ?_) (fun _ => ?_)
      · simp at h
      refine st_nil ?_
      refine st_ret (ev_is (ev_allL (bs := List.replicate l.length true) rfl T.all (el_ofN (en_ofW (ρ2 := rSame (.tup l)) (wn_lc (own := [("k", 2)]) (PL := fun ds r => ds = rgD 0 l.length ∧ r = rSame (.tup l))
        (fun ds j acc r => ds = rgD 0 l.length ∧ acc = (List.replicate j true).map D.bl ∧ r = rSame (.tup l)) (wi_of (it_range (ev_lenT (ds := l) T.len (ev_var 1)) T.range (by omega) (by omega)) ⟨rfl, rfl⟩) scLawSame.nd (blkOk_by (N := nLawSame) (sc := defScope sLawSame) (by decide +kernel)) (fun ds r h => ?_) (fun ds j d acc r hd hI => ?_) (fun ds zs r hI => ?_))))) (d' := .bl true) (by simp)) k
      · obtain ⟨rfl, rfl⟩ := h
        exact ⟨⟨rfl, rfl, rfl⟩, by rw [rgD_len]; omega, rfl⟩
      · obtain ⟨rfl, rfl, rfl⟩ := hI
        obtain ⟨hj, rfl⟩ := rgD_get hd
        have g := List.getElem?_eq_getElem hj
        refine ⟨_, _, fun _ _ _ _ _ => tg_name 2 scLawSame.nd, fun _ _ _ _ _ => pts_nilW, fun r h => ?_, fun r h _ _ _ _ _ => ?_⟩
        · obtain ⟨h, _⟩ := h; cases h
        · obtain ⟨_, rfl⟩ := h
          refine we_of (ev_call G1 hr F.g F.F.kp F.b (ea_cons (ev_ixT (ds := l) (ev_var 0) (ev_var 2) (wi_cells g)) (ea_cons (ev_ixT (ds := l) (ev_var 1) (ev_var 2) (wi_cells g)) ea_nil)) ⟨_, rfl, hl _ (List.getElem_mem _), rfl⟩) ⟨rfl, ?_, rfl⟩
          rw [List.replicate_succ', List.map_append]
          rfl
      · obtain ⟨rfl, rfl, rfl⟩ := hI
        rw [rgD_len]
        exact ⟨rfl, rfl⟩
    | lst m l hl hz =>
      have G1 := ih m rfl
      refine st_if (et_val (ev_isi (d := .lst l) (ev_var 1) rfl kit_list_tuple T.isinstance T.tuple (by decide +kernel))) (fun h => nomatch h) (fun _ => ?_)
      refine st_nil ?_
      refine st_if (et_val (ev_isi (d := .lst l) (ev_var 1) rfl kit_list_list T.isinstance T.list (by decide +kernel))) (fun _ => ?_) (fun h => nomatch h)
      refine st_if (et_w (ew_or (et_not (et_val (ev_isi (d := .lst l) (ev_var 0) rfl kit_list_list T.isinstance T.list (by decide +kernel)))) fun _ => ew_or1 (et_neI (ev_lenL T.len (el_ofV (ds := l) (ev_var 0))) (ev_lenL T.len (el_ofV (ds := l) (ev_var 1)))))) (fun h => ?_) (fun _ => ?_)
      · simp at h
      refine st_nil ?_
      refine st_ret (ev_is (ev_allL (bs := List.replicate l.length true) rfl T.all (el_ofN (en_ofW (ρ2 := rSame (.lst l)) (wn_lc (own := [("k", 2)]) (PL := fun ds r => ds = rgD 0 l.length ∧ r = rSame (.lst l))
        (fun ds j acc r => ds = rgD 0 l.length ∧ acc = (List.replicate j true).map D.bl ∧ r = rSame (.lst l)) (wi_of (it_range (ev_lenL T.len (el_ofV (ds := l) (ev_var 1))) T.range (by omega) (by omega)) ⟨rfl, rfl⟩) scLawSame.nd (blkOk_by (N := nLawSame) (sc := defScope sLawSame) (by decide +kernel)) (fun ds r h => ?_) (fun ds j d acc r hd hI => ?_) (fun ds zs r hI => ?_))))) (d' := .bl true) (by simp)) k
      · obtain ⟨rfl, rfl⟩ := h
        exact ⟨⟨rfl, rfl, rfl⟩, by rw [rgD_len]; omega, rfl⟩
      · obtain ⟨rfl, rfl, rfl⟩ := hI
        obtain ⟨hj, rfl⟩ := rgD_get hd
        have g := List.getElem?_eq_getElem hj
        refine ⟨_, _, fun _ _ _ _ _ => tg_name 2 scLawSame.nd, fun _ _ _ _ _ => pts_nilW, fun r h => ?_, fun r h _ _ _ _ _ => ?_⟩
        · obtain ⟨h, _⟩ := h; cases h
        · obtain ⟨_, rfl⟩ := h
          refine we_of (ev_call G1 hr F.g F.F.kp F.b (ea_cons (ev_ixF (ds := l) (ev_var 0) (ev_var 2) (wi_cells g)) (ea_cons (ev_ixF (ds := l) (ev_var 1) (ev_var 2) (wi_cells g)) ea_nil)) ⟨_, rfl, hl _ (List.getElem_mem _), rfl⟩) ⟨rfl, ?_, rfl⟩
          rw [List.replicate_succ', List.map_append]
          rfl
      · obtain ⟨rfl, rfl, rfl⟩ := hI
        rw [rgD_len]
        exact ⟨rfl, rfl⟩
    | non =>
      refine st_if (et_val (ev_isi (d := .non) (ev_var 1) rfl kit_NoneType_tuple T.isinstance T.tuple (by decide +kernel))) (fun h => nomatch h) (fun _ => ?_)
      refine st_nil ?_
      refine st_if (et_val (ev_isi (d := .non) (ev_var 1) rfl kit_NoneType_list T.isinstance T.list (by decide +kernel))) (fun h => nomatch h) (fun _ => ?_)
      refine st_nil ?_
      refine st_if (et_isN (x := .non) (ev_var 1)) (fun _ => ?_) (fun h => nomatch h)
      exact st_ret (ev_isN (x := .non) (ev_var 0)) k
    | bl _ b =>
      refine st_if (et_val (ev_isi (d := .bl b) (ev_var 1) rfl kit_bool_tuple T.isinstance T.tuple (by decide +kernel))) (fun h => nomatch h) (fun _ => ?_)
      refine st_nil ?_
      refine st_if (et_val (ev_isi (d := .bl b) (ev_var 1) rfl kit_bool_list T.isinstance T.list (by decide +kernel))) (fun h => nomatch h) (fun _ => ?_)
      refine st_nil ?_
      refine st_if (et_isN (x := .bl b) (ev_var 1)) (fun h => nomatch h) (fun _ => ?_)
      refine st_nil ?_
      refine st_if (et_val (ev_isi (d := .bl b) (ev_var 1) rfl kit_bool_bool T.isinstance T.bool (by decide +kernel))) (fun _ => ?_) (fun h => nomatch h)
      exact st_ret (ev_is (ev_and (ev_isi (d := .bl b) (ev_var 0) rfl kit_bool_bool T.isinstance T.bool (by decide +kernel)) fun _ => ev_one (ev_eqB (i := b) (j := b) (ev_var 0) (ev_var 1))) (d' := .bl true) (by simp)) k
    | int _ i =>
      refine st_if (et_val (ev_isi (d := .int i) (ev_var 1) rfl kit_int_tuple T.isinstance T.tuple (by decide +kernel))) (fun h => nomatch h) (fun _ => ?_)
      refine st_nil ?_
      refine st_if (et_val (ev_isi (d := .int i) (ev_var 1) rfl kit_int_list T.isinstance T.list (by decide +kernel))) (fun h => nomatch h) (fun _ => ?_)
      refine st_nil ?_
      refine st_if (et_isN (x := .int i) (ev_var 1)) (fun h => nomatch h) (fun _ => ?_)
      refine st_nil ?_
      refine st_if (et_val (ev_isi (d := .int i) (ev_var 1) rfl kit_int_bool T.isinstance T.bool (by decide +kernel))) (fun h => nomatch h) (fun _ => ?_)
      refine st_nil ?_
      refine st_if (et_val (ev_isi (d := .int i) (ev_var 1) rfl kit_int_str T.isinstance T.str (by decide +kernel))) (fun h => nomatch h) (fun _ => ?_)
      refine st_nil ?_
      exact st_ret (ev_is (ev_and (k := true) (ev_call G2 (hr.mono (by omega)) F2.g F2.F.kp F2.b (ea_cons (d := .int i) (ev_var 0) ea_nil) ⟨i, rfl, rfl⟩) fun _ => ev_one (ev_eqI (i := i) (j := i) (ev_var 0) (ev_var 1))) (d' := .bl true) (by simp)) k
    | str _ x =>
      refine st_if (et_val (ev_isi (d := .str x) (ev_var 1) rfl kit_str_tuple T.isinstance T.tuple (by decide +kernel))) (fun h => nomatch h) (fun _ => ?_)
      refine st_nil ?_
      refine st_if (et_val (ev_isi (d := .str x) (ev_var 1) rfl kit_str_list T.isinstance T.list (by decide +kernel))) (fun h => nomatch h) (fun _ => ?_)
      refine st_nil ?_
      refine st_if (et_isN (x := .str x) (ev_var 1)) (fun h => nomatch h) (fun _ => ?_)
      refine st_nil ?_
      refine st_if (et_val (ev_isi (d := .str x) (ev_var 1) rfl kit_str_bool T.isinstance T.bool (by decide +kernel))) (fun h => nomatch h) (fun _ => ?_)
      refine st_nil ?_
      refine st_if (et_val (ev_isi (d := .str x) (ev_var 1) rfl kit_str_str T.isinstance T.str (by decide +kernel))) (fun _ => ?_) (fun h => nomatch h)
      exact st_ret (ev_is (ev_and (ev_isi (d := .str x) (ev_var 0) rfl kit_str_str T.isinstance T.str (by decide +kernel)) fun _ => ev_one (ev_eqS (i := x) (j := x) (ev_var 0) (ev_var 1))) (d' := .bl true) (by simp)) k
theorem ok_same (F : Df K mg "_law_same" "_law_same" sLawSame ["actual", "due"] f fd) (F2 : Df K mg "_law_is_integer" "_law_is_integer" sLawIsInteger ["actual"] f2 fd2) (T : Bn mg) : ∀ n, FnOk P w K mg base CX0 (n + 2) f fd ["actual", "due"] (spP K (CSame n))
  | 0 => same_step F F2 T 0 (fun m h => by omega)
  | n + 1 => same_step F F2 T (n + 1) (fun m h => by
    have : m = n := by omega
    subst this
    exact ok_same F F2 T m)
end
end G

set_option Elab.async false
set_option maxRecDepth 100000
set_option maxHeartbeats 4000000
set_option linter.all false
/-! L1: regular graphs, plain. -/
namespace G
def dg (es : Edges) (p : Nat) : Nat := (endsL es).count p
theorem dg_app (es fs : Edges) (p : Nat) : dg (es ++ fs) p = dg es p + dg fs p := by unfold dg; rw [endsL_app, List.count_append]
theorem dg_nil (p : Nat) : dg [] p = 0 := rfl
theorem ends1_count (e : Nat × Nat) (p : Nat) : (ends1 e).count p = if e.1 = p ∨ e.2 = p then 1 else 0 := by
  unfold ends1
  by_cases h : e.1 = e.2
  · rw [if_pos h, h, List.count_singleton]
    simp
  · rw [if_neg h, List.count_cons, List.count_singleton]
    by_cases h1 : e.1 = p
    · have h2 : ¬ e.2 = p := fun z => h (h1.trans z.symm)
      simp [h1, h2]
    · by_cases h2 : e.2 = p <;> simp [h1, h2]
theorem dg_cons (e : Nat × Nat) (es : Edges) (p : Nat) : dg (e :: es) p = (if e.1 = p ∨ e.2 = p then 1 else 0) + dg es p := by
  unfold dg endsL
  rw [List.flatMap_cons, List.count_append, ends1_count]
theorem dg_one (e : Nat × Nat) (p : Nat) : dg [e] p = if e.1 = p ∨ e.2 = p then 1 else 0 := by rw [dg_cons, dg_nil]; simp
/-- places have d ends each -/
def Reg (n d : Nat) (es : Edges) : Prop := EdgeOk n es ∧ ∀ p, p < n → dg es p = d
theorem Reg.app {n d d' : Nat} {es fs : Edges} (h : Reg n d es) (h' : Reg n d' fs) : Reg n (d + d') (es ++ fs) := ⟨h.1.app h'.1, fun p hp => by rw [dg_app, h.2 p hp, h'.2 p hp]⟩
theorem Reg.nil (n : Nat) : Reg n 0 [] := ⟨fun e he => (by cases he), fun _ _ => rfl⟩
theorem count_range (n p : Nat) : (List.range n).count p = if p < n then 1 else 0 := by
  induction n with
  | zero => simp
  | succ n ih =>
    rw [List.range_succ, List.count_append, ih, List.count_singleton]
    simp only [beq_iff_eq]
    (repeat' split) <;> omega
theorem Pairing.reg {n : Nat} {es : Edges} (h : Pairing n es) : Reg n 1 es := ⟨h.1, fun p hp => by
  unfold dg
  rw [h.2.count_eq, count_range, if_pos hp]⟩
theorem Reg.perm {n d : Nat} {es fs : Edges} (h : Reg n d es) (p : fs.Perm es) : Reg n d fs := ⟨fun e he => h.1 e (p.mem_iff.mp he), fun q hq => by
  rw [← h.2 q hq]
  unfold dg endsL
  exact (p.flatMap_right _).count_eq _⟩
/-! sums over ranges -/
theorem dg_flatMap {α : Type} (l : List α) (f : α → Edges) (p : Nat) : dg (l.flatMap f) p = (l.map fun x => dg (f x) p).sum := by
  induction l with
  | nil => rfl
  | cons x l ih => rw [List.flatMap_cons, dg_app, ih, List.map_cons, List.sum_cons]
theorem sum_point (n a c : Nat) : ((List.range n).map fun i => if i = a then c else 0).sum = if a < n then c else 0 := by
  induction n with
  | zero => simp
  | succ n ih =>
    rw [List.range_succ, List.map_append, List.sum_append, ih]
    simp only [List.map_cons, List.map_nil, List.sum_cons, List.sum_nil]
    (repeat' split) <;> omega
theorem sum_add' {α : Type} (l : List α) (f g : α → Nat) : (l.map fun i => f i + g i).sum = (l.map f).sum + (l.map g).sum := by
  induction l with
  | nil => rfl
  | cons x l ih => simp only [List.map_cons, List.sum_cons, ih]; omega
theorem sum_congr' {α : Type} {l : List α} {f g : α → Nat} (h : ∀ x ∈ l, f x = g x) : (l.map f).sum = (l.map g).sum := by
  rw [List.map_congr_left h]
theorem mod_small {n a : Nat} (h : a < 2 * n) : a % n = if a < n then a else a - n := by
  by_cases h1 : a < n
  · rw [if_pos h1, Nat.mod_eq_of_lt h1]
  · rw [if_neg h1, Nat.mod_eq_sub_mod (by omega), Nat.mod_eq_of_lt (by omega)]
/-! circles -/
theorem circ1_dg {n p q s : Nat} (hn : 0 < n) (hs : s < n) (hp : p < n) (hq : q < n) : dg (circ1 n q s) p = (if q = p then (if p ≤ (p + s) % n then 1 else 0) else 0) + (if q = (p + n - s) % n then (if (p + n - s) % n < p then 1 else 0) else 0) := by
  unfold circ1
  have e1 : (q + s) % n = if q + s < n then q + s else q + s - n := mod_small (by omega)
  have e2 : (p + s) % n = if p + s < n then p + s else p + s - n := mod_small (by omega)
  have e3 : (p + n - s) % n = if p + n - s < n then p + n - s else p + n - s - n := mod_small (by omega)
  have dgi : ∀ (c : Prop) [Decidable c] (o : Nat), dg (if c then [(q, o)] else []) p = if c then (if q = p ∨ o = p then 1 else 0) else 0 := fun c _ o => by
    by_cases h : c
    · rw [if_pos h, if_pos h, dg_one]
    · rw [if_neg h, if_neg h, dg_nil]
  rw [dgi, e1, e2, e3]
  by_cases a1 : q + s < n <;> by_cases a2 : p + s < n <;> by_cases a3 : p + n - s < n <;> simp only [a1, a2, a3, if_true, if_false] <;> (repeat' split) <;> omega
def circS (n s : Nat) : Edges := (List.range n).flatMap fun q => circ1 n q s
theorem circS_dg {n p s : Nat} (hn : 0 < n) (hs : s < n) (hp : p < n) : dg (circS n s) p = (if p ≤ (p + s) % n then 1 else 0) + (if (p + n - s) % n < p then 1 else 0) := by
  unfold circS
  rw [dg_flatMap, sum_congr' fun q hq => circ1_dg hn hs hp (by simpa using hq), sum_add', sum_point, sum_point, if_pos hp, if_pos (Nat.mod_lt _ hn)]
theorem circ_ok {n : Nat} (hn : 0 < n) (sh : List Nat) : EdgeOk n (circ n sh) := fun e he => by
  unfold circ circRow at he
  obtain ⟨q, hq, he⟩ := List.mem_flatMap.mp he
  obtain ⟨s, _, he⟩ := List.mem_flatMap.mp he
  unfold circ1 at he
  split at he
  · have : e = (q, (q + s) % n) := by simpa using he
    subst this
    exact ⟨by assumption, Nat.mod_lt _ hn⟩
  · cases he
theorem circ_one {n s : Nat} (hn : 0 < n) (hs : s < n) (h : 2 * s % n = 0) : Reg n 1 (circ n [s]) := by
  refine ⟨circ_ok hn _, fun p hp => ?_⟩
  have e : circ n [s] = circS n s := by
    unfold circ circS circRow
    congr 1
    funext q
    simp
  rw [e, circS_dg hn hs hp]
  have h2 : s = 0 ∨ 2 * s = n := by
    rw [mod_small (by omega)] at h
    split at h <;> omega
  have e2 : (p + s) % n = if p + s < n then p + s else p + s - n := mod_small (by omega)
  have e3 : (p + n - s) % n = if p + n - s < n then p + n - s else p + n - s - n := mod_small (by omega)
  rw [e2, e3]
  (repeat' split) <;> omega
theorem circ_two {n s : Nat} (hn : 0 < n) (hs : s < n) (h : 2 * s % n ≠ 0) : Reg n 2 (circ n [s, n - s]) := by
  refine ⟨circ_ok hn _, fun p hp => ?_⟩
  have s0 : 0 < s := by
    rcases Nat.eq_zero_or_pos s with z | z
    · subst z; simp at h
    · exact z
  have e : dg (circ n [s, n - s]) p = dg (circS n s) p + dg (circS n (n - s)) p := by
    unfold circ circS circRow
    rw [dg_flatMap, dg_flatMap, dg_flatMap, ← sum_add']
    apply sum_congr'
    intro q _
    simp only [List.flatMap_cons, List.flatMap_nil, List.append_nil]
    rw [dg_app]
  rw [e, circS_dg hn hs hp, circS_dg hn (by omega) hp]
  have e2 : (p + s) % n = if p + s < n then p + s else p + s - n := mod_small (by omega)
  have e3 : (p + n - s) % n = if p + n - s < n then p + n - s else p + n - s - n := mod_small (by omega)
  have e4 : (p + (n - s)) % n = if p + (n - s) < n then p + (n - s) else p + (n - s) - n := mod_small (by omega)
  have e5 : (p + n - (n - s)) % n = if p + n - (n - s) < n then p + n - (n - s) else p + n - (n - s) - n := mod_small (by omega)
  rw [e2, e3, e4, e5]
  (repeat' split) <;> omega
/-! all pairs -/
theorem allPairs_dg (n p : Nat) : dg (allPairs n) p = if p < n then n - 1 else 0 := by
  induction n with
  | zero => simp [allPairs, dg_nil]
  | succ n ih =>
    have e : allPairs (n + 1) = allPairs n ++ (List.range n).map fun u => (u, n) := by unfold allPairs; exact flatMap_range_succ _ _
    have row : ∀ m, dg ((List.range m).map fun u => (u, n)) p = if p = n then m else if p < m then 1 else 0 := fun m => by
      induction m with
      | zero => simp [dg_nil]
      | succ m im =>
        rw [List.range_succ, List.map_append, dg_app, im]
        simp only [List.map_cons, List.map_nil]
        rw [dg_one]
        simp only
        (repeat' split) <;> omega
    rw [e, dg_app, ih, row]
    (repeat' split) <;> omega
theorem allPairs_reg (n : Nat) : Reg n (n - 1) (allPairs n) := by
  refine ⟨fun e he => ?_, fun p hp => by rw [allPairs_dg, if_pos hp]⟩
  unfold allPairs at he
  obtain ⟨v, hv, he⟩ := List.mem_flatMap.mp he
  obtain ⟨u, hu, rfl⟩ := List.mem_map.mp he
  simp at hv hu
  exact ⟨Nat.le_of_lt hu, hv⟩
/-! two halves -/
def halves (h : Nat) (π : List Nat) : Edges := (List.range h).map fun u => (u, h + π.getD u 0)
theorem halves_reg {h : Nat} {π : List Nat} (hp : π.Perm (List.range h)) : Reg (2 * h) 1 (halves h π) := by
  have hl : π.length = h := by rw [hp.length_eq, List.length_range]
  have hm : ∀ u, u < h → π.getD u 0 < h := fun u hu => by
    rw [List.getD_eq_getElem?_getD, List.getElem?_eq_getElem (by omega)]
    have := hp.mem_iff.mp (List.getElem_mem (l := π) (n := u) (by omega))
    simpa using this
  refine ⟨fun e he => ?_, fun p hp2 => ?_⟩
  · obtain ⟨u, hu, rfl⟩ := List.mem_map.mp he
    have hu : u < h := by simpa using hu
    have := hm u hu
    exact ⟨by show u ≤ h + _; omega, by show h + _ < _; omega⟩
  · -- the ends below h are the places, those above are the row's
    have key : ∀ m, m ≤ h → dg ((List.range m).map fun u => (u, h + π.getD u 0)) p = (List.range m).count p + ((π.take m).map (h + ·)).count p := fun m => by
      induction m with
      | zero => intro _; simp [dg_nil]
      | succ m im =>
        intro hm1
        have g : π[m]? = some π[m] := List.getElem?_eq_getElem (by omega)
        have gd : π.getD m 0 = π[m] := by rw [List.getD_eq_getElem?_getD, g]; rfl
        rw [List.range_succ, List.map_append, dg_app, im (by omega), List.count_append, take_succ_of g, List.map_append, List.count_append]
        simp only [List.map_cons, List.map_nil]
        rw [dg_one, List.count_singleton, List.count_singleton, gd]
        simp only [beq_iff_eq]
        have := hm m (by omega)
        (repeat' split) <;> omega
    unfold halves
    rw [key h (Nat.le_refl _), List.take_of_length_le (by omega)]
    have pm : (π.map (h + ·)).Perm ((List.range h).map (h + ·)) := hp.map _
    rw [pm.count_eq, ← List.count_append, ← List.range_add, count_range, if_pos (by omega)]
/-- a graph and its copy beside it -/
theorem twice_reg {h d : Nat} {es : Edges} (r : Reg h d es) : Reg (2 * h) d (es ++ es.map fun e => (e.1 + h, e.2 + h)) := by
  have sh : ∀ (l : Edges) p, dg (l.map fun e => (e.1 + h, e.2 + h)) p = if h ≤ p then dg l (p - h) else 0 := fun l p => by
    induction l with
    | nil => simp [dg_nil]
    | cons e l ih =>
      rw [List.map_cons, dg_cons, ih, dg_cons]
      simp only
      (repeat' split) <;> omega
  have out : ∀ (l : Edges), EdgeOk h l → ∀ p, h ≤ p → dg l p = 0 := fun l => by
    induction l with
    | nil => intro _ _ _; rfl
    | cons e l ih =>
      intro ok p hp
      have h1 := ok e (by simp)
      rw [dg_cons, ih (fun x hx => ok x (by simp [hx])) p hp, if_neg (by omega)]
  refine ⟨fun e he => ?_, fun p hp => ?_⟩
  · rcases List.mem_append.mp he with q | q
    · have := r.1 e q; exact ⟨this.1, by omega⟩
    · obtain ⟨x, hx, rfl⟩ := List.mem_map.mp q
      have := r.1 x hx
      exact ⟨by show x.1 + h ≤ x.2 + h; omega, by show x.2 + h < _; omega⟩
  · rw [dg_app, sh]
    by_cases c : h ≤ p
    · rw [if_pos c, out es r.1 p c, r.2 (p - h) (by omega)]; omega
    · rw [if_neg c, r.2 p (by omega)]; omega
/-! other numbers -/
def relab (π : List Nat) (e : Nat × Nat) : Nat × Nat := (min (π.getD e.1 0) (π.getD e.2 0), max (π.getD e.1 0) (π.getD e.2 0))
theorem relab_reg {n d : Nat} {π : List Nat} (hp : π.Perm (List.range n)) {es : Edges} (r : Reg n d es) : Reg n d (es.map (relab π)) := by
  have hl : π.length = n := by rw [hp.length_eq, List.length_range]
  have gd : ∀ u (hu : u < n), π.getD u 0 = π[u]'(by omega) := fun u hu => by
    rw [List.getD_eq_getElem?_getD, List.getElem?_eq_getElem (by omega)]; rfl
  have hm : ∀ u, u < n → π.getD u 0 < n := fun u hu => by
    rw [gd u hu]
    have := hp.mem_iff.mp (List.getElem_mem (l := π) (n := u) (by omega))
    simpa using this
  have nd : π.Nodup := hp.nodup_iff.mpr List.nodup_range
  have inj : ∀ u v, u < n → v < n → π.getD u 0 = π.getD v 0 → u = v := fun u v hu hv h => by
    rw [gd u hu, gd v hv] at h
    exact (List.getElem_inj nd).mp h
  refine ⟨fun e he => ?_, fun p hpn => ?_⟩
  · obtain ⟨x, hx, rfl⟩ := List.mem_map.mp he
    have := r.1 x hx
    have h1 := hm x.1 (by omega)
    have h2 := hm x.2 (by omega)
    unfold relab
    exact ⟨by simp only; omega, by simp only; omega⟩
  · obtain ⟨i, hi, hpi⟩ : ∃ i, i < n ∧ π.getD i 0 = p := by
      have : p ∈ π := hp.mem_iff.mpr (by simpa using hpn)
      obtain ⟨i, hi, e⟩ := List.getElem_of_mem this
      exact ⟨i, by omega, by rw [gd i (by omega)]; exact e⟩
    rw [← r.2 i hi]
    have : ∀ l : Edges, EdgeOk n l → dg (l.map (relab π)) p = dg l i := fun l => by
      induction l with
      | nil => intro _; rfl
      | cons e l ih =>
        intro ok
        have h1 := ok e (by simp)
        rw [List.map_cons, dg_cons, dg_cons, ih fun x hx => ok x (by simp [hx])]
        congr 1
        have c1 : (π.getD e.1 0 = p) ↔ e.1 = i := ⟨fun h => inj _ _ (by omega) hi (h.trans hpi.symm), fun h => by rw [h]; exact hpi⟩
        have c2 : (π.getD e.2 0 = p) ↔ e.2 = i := ⟨fun h => inj _ _ (by omega) hi (h.trans hpi.symm), fun h => by rw [h]; exact hpi⟩
        have c3 : ((relab π e).1 = p ∨ (relab π e).2 = p) ↔ (e.1 = i ∨ e.2 = i) := by
          unfold relab
          rw [← c1, ← c2]
          simp only
          omega
        by_cases q : e.1 = i ∨ e.2 = i
        · rw [if_pos q, if_pos (c3.mpr q)]
        · rw [if_neg q, if_neg fun z => q (c3.mp z)]
    exact this es r.1
/-- few edges -/
theorem sum_dg {n d : Nat} {es : Edges} (r : Reg n d es) : (endsL es).length = n * d := by
  have : ∀ (l : List Nat), (∀ x ∈ l, x < n) → l.length = ((List.range n).map fun p => l.count p).sum := fun l => by
    induction l with
    | nil =>
      intro _
      have : ∀ m : Nat, ((List.range m).map fun p => ([] : List Nat).count p).sum = 0 := fun m => by
        induction m with
        | zero => rfl
        | succ m ih => rw [List.range_succ, List.map_append, List.sum_append, ih]; rfl
      rw [this]; rfl
    | cons x l ih =>
      intro h
      have hx := h x (by simp)
      rw [List.length_cons, ih fun y hy => h y (by simp [hy])]
      have e : (fun p => (x :: l).count p) = fun p => l.count p + (if p = x then 1 else 0) := by
        funext p
        rw [List.count_cons]
        simp only [beq_iff_eq]
        by_cases q : x = p
        · rw [if_pos q, if_pos q.symm]
        · rw [if_neg q, if_neg fun z => q z.symm]
      rw [e, sum_add', sum_point, if_pos hx]
  rw [this]
  · have q : ((List.range n).map fun p => (endsL es).count p).sum = ((List.range n).map fun _ => d).sum := sum_congr' fun p hp => r.2 p (by simpa using hp)
    rw [q]
    have : ∀ m : Nat, ((List.range m).map fun _ => d).sum = m * d := fun m => by
      induction m with
      | zero => simp
      | succ m ih => rw [List.range_succ, List.map_append, List.sum_append, ih, Nat.succ_mul]; simp
    rw [this]
  · intro x hx
    unfold endsL at hx
    obtain ⟨e, he, hx⟩ := List.mem_flatMap.mp hx
    have := r.1 e he
    unfold ends1 at hx
    split at hx <;> simp at hx <;> omega
theorem Reg.few {n d : Nat} {es : Edges} (r : Reg n d es) : es.length ≤ n * d := by
  have := ends_len es
  rw [sum_dg r] at this
  exact this
theorem digit_reg : ∀ n, n ≤ 3 → Reg (2 ^ n) n (digitEdges n) := by
  intro n hn
  have h : ∀ n, n ≤ 3 → (∀ e ∈ digitEdges n, e.1 ≤ e.2 ∧ e.2 < 2 ^ n) ∧ ∀ p, p < 2 ^ n → dg (digitEdges n) p = n := by decide
  exact h n hn
end G

set_option Elab.async false
set_option maxRecDepth 100000
set_option maxHeartbeats 4000000
set_option linter.all false
namespace G
open PySem L2 PyProof.Rows
local macro_rules | `(tactic| walk_at "rho") => `(tactic| (show (_ : List Slot) = _; (try dsimp only [List.set_cons_succ, List.set_cons_zero, List.map_cons, List.map_nil, List.cons_append, List.nil_append, relend]); all_goals exact rfl))
def CGraph : CM := fun ws ds R => ∃ (m : Nat) (q : Pool), ds = [.int (m : Nat)] ∧ 1 ≤ m ∧ m ≤ 64 ∧ ws = q.enc ∧ q.Ok ∧ ∀ (n d : Nat) (es : Edges) (q' : Pool), 1 ≤ n → n ≤ max m 2 → Reg n d es → d ≤ 63 → q'.Ok → R (.tup [.int (n : Nat), .lst (edgesD es)]) q'.enc
abbrev rG (a : Addr) (q : Pool) (m k n : Nat) (es : Edges) (s5 s6 s7 s8 s9 : Slot) : Rho := [.pr a (.l q.enc), .fr (.int (m : Nat)), .fr (.int (k : Nat)), .fr (.int (n : Nat)), .fr (.lst (edgesD es)), s5, s6, s7, s8, s9, .un, .un, .un]
def GrM (a : Addr) (m : Nat) (r : Rho) : Prop := ∃ (q : Pool) (k n d : Nat) (es : Edges) (s5 s6 s7 s8 s9 : Slot), q.Ok ∧ 1 ≤ n ∧ n ≤ max m 2 ∧ Reg n d es ∧ d ≤ 63 ∧ r = rG a q m k n es s5 s6 s7 s8 s9
theorem edgesD_app (es fs : Edges) : edgesD es ++ edgesD fs = edgesD (es ++ fs) := by unfold edgesD; rw [List.map_append]
theorem Reg.few64 {n d : Nat} {es : Edges} (r : Reg n d es) (hn : n ≤ 64) (hd : d ≤ 64) : es.length ≤ 4096 := by
  have h1 := r.few
  have h2 : n * d ≤ 64 * 64 := Nat.mul_le_mul hn hd
  omega
section
variable {P : Program} {w : World} {K : PySem.W.Frag} {mg : Str → Option Value} {base : Heap} {f f2 f3 f4 f5 f6 f7 f8 : Addr} {fd fd2 fd3 fd4 fd5 fd6 fd7 fd8 : FuncData}
theorem ok_graph (F : Df K mg "_law_graph" "_law_graph" sLawGraph ["pool", "most"] f fd) (F2 : Df K mg "_law_take" "_law_take" sLawTake ["pool", "many"] f2 fd2) (F3 : Df K mg "_law_order" "_law_order" sLawOrder ["pool", "many"] f3 fd3) (F4 : Df K mg "_law_pairing" "_law_pairing" sLawPairing ["pool", "n", "is_loose"] f4 fd4)
    (F5 : Df K mg "_law_circle_edges" "_law_circle_edges" sLawCircleEdges ["n", "shifts"] f5 fd5) (F6 : Df K mg "_law_all_pairs" "_law_all_pairs" sLawAllPairs ["n"] f6 fd6) (F7 : Df K mg "_law_power" "_law_power" sLawPower ["base", "many"] f7 fd7) (F8 : Df K mg "_law_digit_edges" "_law_digit_edges" sLawDigitEdges ["deep"] f8 fd8)
    (T : Bn mg) : FnOk P w K mg base CX0 5 f fd ["pool", "most"] (spM K CGraph) := by
  have G2 : FnOk P w K mg base CX0 2 f2 fd2 ["pool", "many"] (spM K CTake) := ok_take F2 T
  have G3 : FnOk P w K mg base CX0 3 f3 fd3 ["pool", "many"] (spM K COrder) := ok_order F3 F2 T
  have G4 : FnOk P w K mg base CX0 4 f4 fd4 ["pool", "n", "is_loose"] (spM K CPairing) := ok_pairing F4 F2 F3 T
  have G5 : FnOk P w K mg base CX0 1 f5 fd5 ["n", "shifts"] (spP K CCircle) := ok_circle F5 T
  have G6 : FnOk P w K mg base CX0 1 f6 fd6 ["n"] (spP K CAllPairs) := ok_allPairs F6 T
  have G7 : FnOk P w K mg base CX0 1 f7 fd7 ["base", "many"] (spP K CPower) := ok_power F7 T
  have G8 : FnOk P w K mg base CX0 2 f8 fd8 ["deep"] (spP K CDigit) := ok_digitEdges F8 F7 T
  refine fnM F.F scLawGraph (fun ws ds R hC => ?_) (fun cdv A outer s H E a ws ds R hr hC => ?_)
  · obtain ⟨m, q, rfl, _⟩ := hC; rfl
  · obtain ⟨m, q0, rfl, hm1, hm, rfl, ok0, kk⟩ := hC
    have r1 : Room 1 _ := hr.mono (by decide)
    have r2 : Room 2 _ := hr.mono (by decide)
    have r3 : Room 3 _ := hr.mono (by decide)
    show ST _ _ [.pr a (.l q0.enc), .fr (.int (m : Nat)), .un, .un, .un, .un, .un, .un, .un, .un, .un, .un, .un] _
    -- kind, n
    refine st_cons (M := fun r => ∃ (k : Nat) (q : Pool), q.Ok ∧ r = [.pr a (.l q.enc), .fr (.int (m : Nat)), .fr (.int (k : Nat)), .un, .un, .un, .un, .un, .un, .un, .un, .un, .un])
      (s_asgW (i := 2) (P := fun d r => ∃ (k : Nat) (q : Pool), q.Ok ∧ d = .int (k : Nat) ∧ r = [.pr a (.l q.enc), .fr (.int (m : Nat)), .un, .un, .un, .un, .un, .un, .un, .un, .un, .un, .un])
        (we_callM 0 G2 r2 F2.g F2.F.kp F2.b rfl (.inr rfl) (wa_of (ea_cons ev_int ea_nil) ⟨_, rfl, 9, rfl, by decide, small8 (by decide), q0, rfl, ok0, fun v q2 hv ok2 => ⟨v, q2, ok2, rfl, rfl⟩⟩)) scLawGraph.nd (fun d r h => ?_)) ?_
    · obtain ⟨k, q, ok, rfl, rfl⟩ := h
      exact ⟨k, q, ok, rfl⟩
    rintro _ ⟨k, q1, ok1, rfl⟩
    refine st_cons (M := fun r => ∃ (n : Nat) (q : Pool), 1 ≤ n ∧ n ≤ m ∧ q.Ok ∧ r = [.pr a (.l q.enc), .fr (.int (m : Nat)), .fr (.int (k : Nat)), .fr (.int (n : Nat)), .un, .un, .un, .un, .un, .un, .un, .un, .un])
      (s_asgW (i := 3) (P := fun d r => ∃ (n : Nat) (q : Pool), 1 ≤ n ∧ n ≤ m ∧ q.Ok ∧ d = .int (n : Nat) ∧ r = [.pr a (.l q.enc), .fr (.int (m : Nat)), .fr (.int (k : Nat)), .un, .un, .un, .un, .un, .un, .un, .un, .un, .un])
        (we_bin op_add (P := fun x r => x = .int 1 ∧ r = [.pr a (.l q1.enc), .fr (.int (m : Nat)), .fr (.int (k : Nat)), .un, .un, .un, .un, .un, .un, .un, .un, .un, .un])
          (P2 := fun _ _ y r => ∃ (v : Nat) (q : Pool), v < m ∧ q.Ok ∧ y = .int (v : Nat) ∧ r = [.pr a (.l q.enc), .fr (.int (m : Nat)), .fr (.int (k : Nat)), .un, .un, .un, .un, .un, .un, .un, .un, .un, .un]) (we_of ev_int ⟨rfl, rfl⟩) (fun x r h => ?_) (fun x ra y rb h h2 => ?_)) scLawGraph.nd (fun d r h => ?_)) ?_
    · obtain ⟨rfl, rfl⟩ := h
      exact we_callM 0 G2 r2 F2.g F2.F.kp F2.b rfl (.inr rfl) (wa_of (ea_cons (ev_var 1) ea_nil) ⟨_, rfl, _, rfl, by omega, small8 (by omega), q1, rfl, ok1, fun v q2 hv ok2 => ⟨v, q2, by omega, ok2, rfl, rfl⟩⟩)
    · obtain ⟨rfl, rfl⟩ := h
      obtain ⟨v, q, hv, ok, rfl, rfl⟩ := h2
      exact ⟨_, vi0 fun _ => .int _, v + 1, q, by omega, by omega, ok, by congr 1; omega, rfl⟩
    · obtain ⟨n, q, h1, h2, ok, rfl, rfl⟩ := h
      exact ⟨n, q, h1, h2, ok, rfl⟩
    rintro _ ⟨n, q2, hn1, hnm, ok2, rfl⟩
    have hn64 : n ≤ 64 := by omega
    refine st_to (s_asg (i := 4) (ev_lst ea_nil) scLawGraph.nd (by walk_at "rho")) ?_
    refine st_cons (M := GrM a m) ?_ ?_
    · -- the kinds
      show S1 _ _ (rG a q2 m k n [] .un .un .un .un .un) _
      refine s_if (et_lt (ev_var 2) ev_int) (fun _ => ?_) (fun _ => st_one (M := fun _ => True) (s_if (et_eqI (ev_var 2) ev_int) (fun _ => ?_) (fun _ => st_one (M := fun _ => True) (s_if (et_eqI (ev_var 2) ev_int) (fun _ => ?_) (fun _ => st_one (M := fun _ => True) (s_if (et_eqI (ev_var 2) ev_int) (fun _ => ?_) (fun _ => st_one (M := fun _ => True) (s_if (et_eqI (ev_var 2) ev_int) (fun _ => ?_) (fun _ => ?_)))))))))
      · -- pairings
        refine st_one (M := fun _ => True) (s_forW (js := [5]) (PL := fun ds r => ∃ (v : Nat) (q : Pool), v < 6 ∧ q.Ok ∧ ds = rgD 0 v ∧ r = rG a q m k n [] .un .un .un .un .un)
          (fun ds i r => ∃ (q : Pool) (es : Edges) (s5 : Slot), ds.length < 6 ∧ q.Ok ∧ Reg n i es ∧ r = rG a q m k n es s5 .un .un .un .un)
          (wi_range ((we_callM 0 G2 r2 F2.g F2.F.kp F2.b rfl (.inr rfl) (wa_of (ea_cons ev_int ea_nil) ⟨_, rfl, 6, rfl, by decide, small8 (by decide), q2, rfl, ok2, fun v q hv ok => ⟨(v : Nat), rfl, by omega, by omega, v, q, by omega, ok, by simp, rfl⟩⟩))) T.range) (fun ds r h => ?_) (fun ds i d r hd hI => ?_) (fun ds r hI => ?_))
        · obtain ⟨v, q, hv, ok, rfl, rfl⟩ := h
          exact ⟨q, [], .un, by rw [rgD_len]; exact hv, ok, Reg.nil n, rfl⟩
        · obtain ⟨q, es, s5, hl, ok, hR, rfl⟩ := hI
          have hi : i < ds.length := (List.getElem?_eq_some_iff.mp hd).1
          refine ⟨_, tg_name 5 scLawGraph.nd, ?_⟩
          refine st_one (M := fun _ => True) (s_asgW (i := 4) (P := fun x r => ∃ (q' : Pool) (fs : Edges), q'.Ok ∧ Pairing n fs ∧ x = .lst (edgesD (es ++ fs)) ∧ r = rG a q' m k n es (.fr d) .un .un .un .un)
            (we_bin op_cat (P := fun x r => x = .lst (edgesD es) ∧ r = rG a q m k n es (.fr d) .un .un .un .un) (P2 := fun _ _ y r => ∃ (q' : Pool) (fs : Edges), q'.Ok ∧ Pairing n fs ∧ y = .lst (edgesD fs) ∧ r = rG a q' m k n es (.fr d) .un .un .un .un)
              (we_of (ev_var 4) ⟨rfl, rfl⟩) (fun x r h => ?_) (fun x ra y rb h h2 => ?_)) scLawGraph.nd (fun x r h => ?_))
          · obtain ⟨rfl, rfl⟩ := h
            exact we_callM 0 G4 hr F4.g F4.F.kp F4.b rfl (.inr rfl) (wa_of (ea_cons (ev_var 3) (ea_cons (ev_eqI (ev_var 2) ev_int) ea_nil)) ⟨_, rfl, n, _, q, rfl, by omega, rfl, ok, fun fs q' hP ok' => ⟨q', fs, ok', hP, rfl, rfl⟩⟩)
          · obtain ⟨rfl, rfl⟩ := h
            obtain ⟨q', fs, ok', hP, rfl, rfl⟩ := h2
            refine ⟨_, (vcat ?_).vop, q', fs, ok', hP, by rw [edgesD_app], rfl⟩
            have h1 := hR.few64 hn64 (by omega)
            have h2 := hP.len
            rw [edgesD_len, edgesD_len]
            omega
          · obtain ⟨q', fs, ok', hP, rfl, rfl⟩ := h
            exact ⟨q', es ++ fs, .fr d, hl, ok', hR.app hP.reg, rfl⟩
        · obtain ⟨q, es, s5, hl, ok, hR, rfl⟩ := hI
          exact ⟨q, k, n, ds.length, es, s5, .un, .un, .un, .un, ok, hn1, by omega, hR, by omega, rfl⟩
      · -- circles
        refine st_one (M := fun _ => True) (s_forW (js := [5]) (PL := fun ds r => ∃ (v : Nat) (q : Pool), v < 4 ∧ q.Ok ∧ ds = rgD 0 v ∧ r = rG a q m k n [] .un .un .un .un .un)
          (fun ds i r => ∃ (q : Pool) (d : Nat) (es : Edges) (s5 s6 : Slot), ds.length < 4 ∧ q.Ok ∧ d ≤ 2 * i ∧ Reg n d es ∧ r = rG a q m k n es s5 s6 .un .un .un)
          (wi_range (we_bin op_add (P := fun x r => x = .int 1 ∧ r = rG a q2 m k n [] .un .un .un .un .un) (P2 := fun _ _ y r => ∃ (v : Nat) (q : Pool), v < 3 ∧ q.Ok ∧ y = .int (v : Nat) ∧ r = rG a q m k n [] .un .un .un .un .un) (we_of ev_int ⟨rfl, rfl⟩) (fun x r h => ?_) (fun x ra y rb h h2 => ?_)) T.range) (fun ds r h => ?_) (fun ds i d r hd hI => ?_) (fun ds r hI => ?_))
        · obtain ⟨rfl, rfl⟩ := h
          exact we_callM 0 G2 r2 F2.g F2.F.kp F2.b rfl (.inr rfl) (wa_of (ea_cons ev_int ea_nil) ⟨_, rfl, 3, rfl, by decide, small8 (by decide), q2, rfl, ok2, fun v q hv ok => ⟨v, q, by omega, ok, rfl, rfl⟩⟩)
        · obtain ⟨rfl, rfl⟩ := h
          obtain ⟨v, q, hv, ok, rfl, rfl⟩ := h2
          exact ⟨_, vi0 fun _ => .int _, _, rfl, by omega, by omega, v + 1, q, by omega, ok, by congr 1; omega, rfl⟩
        · obtain ⟨v, q, hv, ok, rfl, rfl⟩ := h
          exact ⟨q, 0, [], .un, .un, by rw [rgD_len]; exact hv, ok, Nat.zero_le _, Reg.nil n, rfl⟩
        · obtain ⟨q, d', es, s5, s6, hl, ok, hd', hR, rfl⟩ := hI
          have hi : i < ds.length := (List.getElem?_eq_some_iff.mp hd).1
          refine ⟨_, tg_name 5 scLawGraph.nd, ?_⟩
          refine st_cons (M := fun r => ∃ (v : Nat) (q' : Pool), v < n ∧ q'.Ok ∧ r = rG a q' m k n es (.fr d) (.fr (.int (v : Nat))) .un .un .un) (s_asgW (i := 6) (P := fun x r => ∃ (v : Nat) (q' : Pool), v < n ∧ q'.Ok ∧ x = .int (v : Nat) ∧ r = rG a q' m k n es (.fr d) s6 .un .un .un)
            (we_callM 0 G2 r2 F2.g F2.F.kp F2.b rfl (.inr rfl) (wa_of (ea_cons (ev_var 3) ea_nil) ⟨_, rfl, _, rfl, by omega, small8 (by omega), q, rfl, ok, fun v q' hv ok' => ⟨v, q', by omega, ok', rfl, rfl⟩⟩)) scLawGraph.nd (fun x r h => ?_)) ?_
          · obtain ⟨v, q', hv, ok', rfl, rfl⟩ := h
            exact ⟨v, q', hv, ok', rfl⟩
          · rintro _ ⟨v, q', hv, ok', rfl⟩
            have hc : Reg n (if 2 * v % n = 0 then 1 else 2) (circ n (if 2 * v % n = 0 then [v] else [v, n - v])) := by
              by_cases c : 2 * v % n = 0
              · rw [if_pos c, if_pos c]; exact circ_one (by omega) hv c
              · rw [if_neg c, if_neg c]; exact circ_two (by omega) hv c
            have ec : (decide ((2 : Int) * (v : Int) % (n : Int) = 0)) = decide (2 * v % n = 0) := by
              rw [Bool.eq_iff_iff, decide_eq_true_eq, decide_eq_true_eq]
              have e1 : (2 : Int) * (v : Int) % (n : Int) = ((2 * v % n : Nat) : Int) := rfl
              rw [e1]
              omega
            refine st_one (M := fun _ => True) (s_asg (i := 4) (ev_is (ev_cat (ds' := edgesD (circ n (if 2 * v % n = 0 then [v] else [v, n - v]))) (ev_var 4) (ev_call G5 r1 F5.g F5.F.kp F5.b (ea_cons (ev_var 3) (ea_cons (d := .lst (natsD (if 2 * v % n = 0 then [v] else [v, n - v]))) (ev_ifT (q := true) (ρ2 := rG a q' m k n es (.fr d) (.fr (.int (v : Nat))) .un .un .un) (et_is (et_eqI (ev_mod (ev_intI T.int (ev_mul ev_int (ev_var 6) (cmul_l (by decide)))) (ev_var 3) (by omega)) ev_int) ec) (fun c => ?_) (fun c => ?_)) ea_nil)) ⟨n, _, rfl, by omega, by omega, ?_, rfl⟩) ?_) (d' := .lst (edgesD (es ++ circ n (if 2 * v % n = 0 then [v] else [v, n - v])))) (by rw [edgesD_app])) scLawGraph.nd
              ⟨q', d' + (if 2 * v % n = 0 then 1 else 2), _, .fr d, .fr (.int (v : Nat)), hl, ok', by split <;> omega, hR.app hc, rfl⟩)
            · have c : 2 * v % n = 0 := by simpa using c
              rw [if_pos c]
              exact ev_lst (ea_cons (ev_var 6) ea_nil) (by show 1 ≤ 100000; decide)
            · have c : ¬ 2 * v % n = 0 := by simpa using c
              rw [if_neg c]
              exact ev_is (ev_lst (ea_cons (ev_var 6) (ea_cons (ev_sub (ev_var 3) (ev_var 6)) ea_nil)) (by show 2 ≤ 100000; decide)) (by
                show D.lst [.int (v : Nat), .int ((n : Int) - (v : Int))] = D.lst [.int (v : Nat), .int ((n - v : Nat) : Nat)]
                rw [Int.ofNat_sub (by omega)])
            · split <;> simp
            · rw [edgesD_len, edgesD_len]
              have h1 := hR.few64 hn64 (by omega)
              have h2 := hc.few64 hn64 (by split <;> omega)
              omega
        · obtain ⟨q, d', es, s5, s6, hl, ok, hd', hR, rfl⟩ := hI
          exact ⟨q, k, n, d', es, s5, s6, .un, .un, .un, ok, hn1, by omega, hR, by omega, rfl⟩
      · -- all pairs
        have hR := allPairs_reg n
        exact st_one (M := fun _ => True) (s_asg (i := 4) (ev_call G6 r1 F6.g F6.F.kp F6.b (ea_cons (ev_var 3) ea_nil) ⟨n, rfl, by omega, rfl⟩) scLawGraph.nd ⟨q2, k, n, n - 1, allPairs n, .un, .un, .un, .un, .un, ok2, hn1, by omega, hR, by omega, rfl⟩)
      · -- two halves
        have hh : (if (n : Int) / 2 > 1 then (n : Int) / 2 else 1) = ((max 1 (n / 2) : Nat) : Int) := by
          rw [Nat.max_def]
          split <;> split <;> omega
        have h1' : 1 ≤ max 1 (n / 2) := Nat.le_max_left _ _
        have h2' : 2 * max 1 (n / 2) ≤ max m 2 := by omega
        generalize hg : max 1 (n / 2) = h at *
        refine st_to (s_asg (i := 7) (ev_is (ev_max2 rfl T.max ev_int (ev_intI T.int (ev_fdiv (ev_var 3) ev_int (wide_div (b := 2) (by decide) (by decide) (by decide) (by decide))))) (congrArg D.int hh)) scLawGraph.nd (by walk_at "rho")) ?_
        refine st_to (s_asg (i := 3) (ev_is (ev_mul ev_int (ev_var 7) (cmul_l (by decide))) (d' := .int ((2 * h : Nat) : Nat)) rfl) scLawGraph.nd (by walk_at "rho")) ?_
        refine st_one (M := fun _ => True) (s_forW (js := [5]) (PL := fun ds r => ∃ (v : Nat) (q : Pool), v < 4 ∧ q.Ok ∧ ds = rgD 0 v ∧ r = rG a q m k (2 * h) [] .un .un (.fr (.int (h : Nat))) .un .un)
          (fun ds i r => ∃ (q : Pool) (es : Edges) (s5 s8 : Slot), ds.length < 4 ∧ q.Ok ∧ Reg (2 * h) i es ∧ r = rG a q m k (2 * h) es s5 .un (.fr (.int (h : Nat))) s8 .un)
          (wi_range (we_bin op_add (P := fun x r => x = .int 1 ∧ r = rG a q2 m k (2 * h) [] .un .un (.fr (.int (h : Nat))) .un .un) (P2 := fun _ _ y r => ∃ (v : Nat) (q : Pool), v < 3 ∧ q.Ok ∧ y = .int (v : Nat) ∧ r = rG a q m k (2 * h) [] .un .un (.fr (.int (h : Nat))) .un .un) (we_of ev_int ⟨rfl, rfl⟩) (fun x r hx => ?_) (fun x ra y rb hx h2 => ?_)) T.range) (fun ds r hx => ?_) (fun ds i d r hd hI => ?_) (fun ds r hI => ?_))
        · obtain ⟨rfl, rfl⟩ := hx
          exact we_callM 0 G2 r2 F2.g F2.F.kp F2.b rfl (.inr rfl) (wa_of (ea_cons ev_int ea_nil) ⟨_, rfl, 3, rfl, by decide, small8 (by decide), q2, rfl, ok2, fun v q hv ok => ⟨v, q, by omega, ok, rfl, rfl⟩⟩)
        · obtain ⟨rfl, rfl⟩ := hx
          obtain ⟨v, q, hv, ok, rfl, rfl⟩ := h2
          exact ⟨_, vi0 fun _ => .int _, _, rfl, by omega, by omega, v + 1, q, by omega, ok, by congr 1; omega, rfl⟩
        · obtain ⟨v, q, hv, ok, rfl, rfl⟩ := hx
          exact ⟨q, [], .un, .un, by rw [rgD_len]; exact hv, ok, Reg.nil _, rfl⟩
        · obtain ⟨q, es, s5, s8, hl, ok, hR, rfl⟩ := hI
          have hi : i < ds.length := (List.getElem?_eq_some_iff.mp hd).1
          refine ⟨_, tg_name 5 scLawGraph.nd, ?_⟩
          refine st_cons (M := fun r => ∃ (π : List Nat) (q' : Pool), π.Perm (List.range h) ∧ q'.Ok ∧ r = rG a q' m k (2 * h) es (.fr d) .un (.fr (.int (h : Nat))) (.fr (.tup (natsD π))) .un) (s_asgW (i := 8) (P := fun x r => ∃ (π : List Nat) (q' : Pool), π.Perm (List.range h) ∧ q'.Ok ∧ x = .tup (natsD π) ∧ r = rG a q' m k (2 * h) es (.fr d) .un (.fr (.int (h : Nat))) s8 .un)
            (we_callM 0 G3 r3 F3.g F3.F.kp F3.b rfl (.inr rfl) (wa_of (ea_cons (ev_var 7) ea_nil) ⟨_, rfl, h, q, rfl, by omega, rfl, ok, fun π q' hp ok' => ⟨π, q', hp, ok', rfl, rfl⟩⟩)) scLawGraph.nd (fun x r hx => ?_)) ?_
          · obtain ⟨π, q', hp, ok', rfl, rfl⟩ := hx
            exact ⟨π, q', hp, ok', rfl⟩
          · rintro _ ⟨π, q', hp, ok', rfl⟩
            have hR2 := halves_reg hp
            have hπ : π.length = h := by rw [hp.length_eq, List.length_range]
            refine st_one (M := fun _ => True) (s_asg (i := 4) (ev_is (ev_cat (ds' := edgesD (halves h π)) (ev_var 4) (ev_ofN (en_ofW (ρ2 := rG a q' m k (2 * h) es (.fr d) .un (.fr (.int (h : Nat))) (.fr (.tup (natsD π))) .un) (wn_lc (own := [("u", 10)]) (PL := fun ds r => ds = rgD 0 h ∧ r = rG a q' m k (2 * h) es (.fr d) .un (.fr (.int (h : Nat))) (.fr (.tup (natsD π))) .un)
              (fun ds j acc r => ds = rgD 0 h ∧ acc = (List.range j).map (fun u => encE (u, h + π.getD u 0)) ∧ r = rG a q' m k (2 * h) es (.fr d) .un (.fr (.int (h : Nat))) (.fr (.tup (natsD π))) .un)
              (wi_of (it_range (ev_var 7) T.range (by omega) (by omega)) ⟨by simp, rfl⟩) scLawGraph.nd (blkOk_by (N := nLawGraph) (sc := defScope sLawGraph) (by decide +kernel)) (fun ds r hx => ?_) (fun ds j d acc r hd hI => ?_) (fun ds zs r hI => ?_)))) ?_) (d' := .lst (edgesD (es ++ halves h π))) (by rw [edgesD_app])) scLawGraph.nd ⟨q', _, .fr d, .fr (.tup (natsD π)), hl, ok', hR.app hR2, rfl⟩)
            · obtain ⟨rfl, rfl⟩ := hx
              exact ⟨⟨rfl, rfl, rfl⟩, by rw [rgD_len]; omega, rfl⟩
            · obtain ⟨rfl, rfl, rfl⟩ := hI
              obtain ⟨hj, rfl⟩ := rgD_get hd
              have g : π[j]? = some (π.getD j 0) := by rw [List.getD_eq_getElem?_getD, List.getElem?_eq_getElem (by omega)]; rfl
              refine ⟨_, _, fun _ _ _ _ _ => tg_name 10 scLawGraph.nd, fun _ _ _ _ _ => pts_nilW, fun r h => ?_, fun r h _ _ _ _ _ => ?_⟩
              · obtain ⟨h, _⟩ := h; cases h
              · obtain ⟨_, rfl⟩ := h
                refine we_of (ev_tup (ea_cons (ev_var 10) (ea_cons (ev_add (ev_var 7) (ev_ixT (ev_var 8) (ev_var 10) (by rw [Int.zero_add]; exact natsD_at g))) ea_nil)) (by show 2 ≤ 100000; decide)) ⟨rfl, ?_, rfl⟩
                rw [List.range_succ, List.map_append]
                simp [encE]
            · obtain ⟨rfl, rfl, rfl⟩ := hI
              rw [rgD_len]
              refine ⟨?_, rfl⟩
              unfold edgesD halves
              rw [List.map_map]
              rfl
            · rw [edgesD_len, edgesD_len]
              have h1 := hR.few64 (by omega) (by omega)
              have h2 := hR2.few64 (by omega) (by omega)
              omega
        · obtain ⟨q, es, s5, s8, hl, ok, hR, rfl⟩ := hI
          exact ⟨q, k, 2 * h, ds.length, es, s5, .un, _, s8, .un, ok, by omega, h2', hR, by omega, rfl⟩
      · -- a graph and its copy
        have hh : (if (n : Int) / 2 > 1 then (n : Int) / 2 else 1) = ((max 1 (n / 2) : Nat) : Int) := by
          rw [Nat.max_def]
          split <;> split <;> omega
        have h1' : 1 ≤ max 1 (n / 2) := Nat.le_max_left _ _
        have h2' : 2 * max 1 (n / 2) ≤ max m 2 := by omega
        generalize hg : max 1 (n / 2) = h at *
        refine st_to (s_asg (i := 7) (ev_is (ev_max2 rfl T.max ev_int (ev_intI T.int (ev_fdiv (ev_var 3) ev_int (wide_div (b := 2) (by decide) (by decide) (by decide) (by decide))))) (congrArg D.int hh)) scLawGraph.nd (by walk_at "rho")) ?_
        refine st_to (s_asg (i := 3) (ev_is (ev_mul ev_int (ev_var 7) (cmul_l (by decide))) (d' := .int ((2 * h : Nat) : Nat)) rfl) scLawGraph.nd (by walk_at "rho")) ?_
        refine st_cons (M := fun r => ∃ (q : Pool) (d : Nat) (es : Edges) (s5 : Slot), d < 4 ∧ q.Ok ∧ Reg h d es ∧ r = rG a q m k (2 * h) es s5 .un (.fr (.int (h : Nat))) .un .un) (s_forW (js := [5]) (PL := fun ds r => ∃ (v : Nat) (q : Pool), v < 4 ∧ q.Ok ∧ ds = rgD 0 v ∧ r = rG a q m k (2 * h) [] .un .un (.fr (.int (h : Nat))) .un .un)
          (fun ds i r => ∃ (q : Pool) (es : Edges) (s5 : Slot), ds.length < 4 ∧ q.Ok ∧ Reg h i es ∧ r = rG a q m k (2 * h) es s5 .un (.fr (.int (h : Nat))) .un .un)
          (wi_range (we_bin op_add (P := fun x r => x = .int 1 ∧ r = rG a q2 m k (2 * h) [] .un .un (.fr (.int (h : Nat))) .un .un) (P2 := fun _ _ y r => ∃ (v : Nat) (q : Pool), v < 3 ∧ q.Ok ∧ y = .int (v : Nat) ∧ r = rG a q m k (2 * h) [] .un .un (.fr (.int (h : Nat))) .un .un) (we_of ev_int ⟨rfl, rfl⟩) (fun x r hx => ?_) (fun x ra y rb hx h2 => ?_)) T.range) (fun ds r hx => ?_) (fun ds i d r hd hI => ?_) (fun ds r hI => ?_)) ?_
        · obtain ⟨rfl, rfl⟩ := hx
          exact we_callM 0 G2 r2 F2.g F2.F.kp F2.b rfl (.inr rfl) (wa_of (ea_cons ev_int ea_nil) ⟨_, rfl, 3, rfl, by decide, small8 (by decide), q2, rfl, ok2, fun v q hv ok => ⟨v, q, by omega, ok, rfl, rfl⟩⟩)
        · obtain ⟨rfl, rfl⟩ := hx
          obtain ⟨v, q, hv, ok, rfl, rfl⟩ := h2
          exact ⟨_, vi0 fun _ => .int _, _, rfl, by omega, by omega, v + 1, q, by omega, ok, by congr 1; omega, rfl⟩
        · obtain ⟨v, q, hv, ok, rfl, rfl⟩ := hx
          exact ⟨q, [], .un, by rw [rgD_len]; exact hv, ok, Reg.nil _, rfl⟩
        · obtain ⟨q, es, s5, hl, ok, hR, rfl⟩ := hI
          have hi : i < ds.length := (List.getElem?_eq_some_iff.mp hd).1
          refine ⟨_, tg_name 5 scLawGraph.nd, ?_⟩
          refine st_one (M := fun _ => True) (s_asgW (i := 4) (P := fun x r => ∃ (q' : Pool) (fs : Edges), q'.Ok ∧ Pairing h fs ∧ x = .lst (edgesD (es ++ fs)) ∧ r = rG a q' m k (2 * h) es (.fr d) .un (.fr (.int (h : Nat))) .un .un)
            (we_bin op_cat (P := fun x r => x = .lst (edgesD es) ∧ r = rG a q m k (2 * h) es (.fr d) .un (.fr (.int (h : Nat))) .un .un) (P2 := fun _ _ y r => ∃ (q' : Pool) (fs : Edges), q'.Ok ∧ Pairing h fs ∧ y = .lst (edgesD fs) ∧ r = rG a q' m k (2 * h) es (.fr d) .un (.fr (.int (h : Nat))) .un .un)
              (we_of (ev_var 4) ⟨rfl, rfl⟩) (fun x r hx => ?_) (fun x ra y rb hx h2 => ?_)) scLawGraph.nd (fun x r hx => ?_))
          · obtain ⟨rfl, rfl⟩ := hx
            exact we_callM 0 G4 hr F4.g F4.F.kp F4.b rfl (.inr rfl) (wa_of (ea_cons (ev_var 7) (ea_cons ev_bl ea_nil)) ⟨_, rfl, h, _, q, rfl, by omega, rfl, ok, fun fs q' hP ok' => ⟨q', fs, ok', hP, rfl, rfl⟩⟩)
          · obtain ⟨rfl, rfl⟩ := hx
            obtain ⟨q', fs, ok', hP, rfl, rfl⟩ := h2
            refine ⟨_, (vcat ?_).vop, q', fs, ok', hP, by rw [edgesD_app], rfl⟩
            have h1 := hR.few64 (by omega) (by omega)
            have h2 := hP.len
            rw [edgesD_len, edgesD_len]
            omega
          · obtain ⟨q', fs, ok', hP, rfl, rfl⟩ := hx
            exact ⟨q', es ++ fs, .fr d, hl, ok', hR.app hP.reg, rfl⟩
        · obtain ⟨q, es, s5, hl, ok, hR, rfl⟩ := hI
          exact ⟨q, _, es, s5, hl, ok, hR, rfl⟩
        · rintro _ ⟨q, d, es, s5, hd4, ok, hR, rfl⟩
          have hR2 := twice_reg hR
          refine st_one (M := fun _ => True) (s_asg (i := 4) (ev_is (ev_cat (ds' := edgesD (es.map fun e => (e.1 + h, e.2 + h))) (ev_var 4) (ev_ofN (en_ofW (ρ2 := rG a q m k (2 * h) es s5 .un (.fr (.int (h : Nat))) .un .un) (wn_lc (own := [("u", 10), ("v", 11)]) (PL := fun ds r => ds = edgesD es ∧ r = rG a q m k (2 * h) es s5 .un (.fr (.int (h : Nat))) .un .un)
            (fun ds j acc r => ds = edgesD es ∧ acc = (es.take j).map (fun e => encE (e.1 + h, e.2 + h)) ∧ r = rG a q m k (2 * h) es s5 .un (.fr (.int (h : Nat))) .un .un)
            (wi_of (it_list (ev_var 4)) ⟨rfl, rfl⟩) scLawGraph.nd (blkOk_by (N := nLawGraph) (sc := defScope sLawGraph) (by decide +kernel)) (fun ds r hx => ?_) (fun ds j d acc r hd hI => ?_) (fun ds zs r hI => ?_)))) ?_) (d' := .lst (edgesD (es ++ es.map fun e => (e.1 + h, e.2 + h)))) (by rw [edgesD_app])) scLawGraph.nd ⟨q, k, 2 * h, d, _, s5, .un, _, .un, .un, ok, by omega, h2', hR2, by omega, rfl⟩)
          · obtain ⟨rfl, rfl⟩ := hx
            refine ⟨⟨rfl, rfl, rfl⟩, ?_, rfl⟩
            have h1 := hR.few64 (by omega) (by omega)
            rw [edgesD_len]
            omega
          · obtain ⟨rfl, rfl, rfl⟩ := hI
            obtain ⟨e, he, rfl⟩ := map_get hd
            refine ⟨_, _, fun _ _ _ _ _ => tg_tup2 (tg_name 10 scLawGraph.nd) (tg_name 11 scLawGraph.nd), fun _ _ _ _ _ => pts_nilW, fun r h => ?_, fun r h _ _ _ _ _ => ?_⟩
            · obtain ⟨h, _⟩ := h; cases h
            · obtain ⟨_, rfl⟩ := h
              refine we_of (ev_tup (ea_cons (ev_add (ev_var 10) (ev_var 7)) (ea_cons (ev_add (ev_var 11) (ev_var 7)) ea_nil)) (by show 2 ≤ 100000; decide)) ⟨rfl, ?_, rfl⟩
              rw [take_succ_of he, List.map_append]
              rfl
          · obtain ⟨rfl, rfl, rfl⟩ := hI
            rw [edgesD_len, List.take_length]
            refine ⟨?_, rfl⟩
            unfold edgesD
            rw [List.map_map]
            rfl
          · rw [edgesD_len, edgesD_len, List.length_map]
            have h1 := hR.few64 (by omega) (by omega)
            omega
      · -- digits
        refine st_cons (M := fun r => ∃ (v : Nat) (q : Pool), v ≤ 3 ∧ q.Ok ∧ r = rG a q m k n [] .un .un .un .un (.fr (.int (v : Nat)))) (s_asgW (i := 9) (P := fun x r => ∃ (v : Nat) (q : Pool), v ≤ 3 ∧ q.Ok ∧ x = .int (v : Nat) ∧ r = rG a q m k n [] .un .un .un .un .un)
          (we_bin op_add (P := fun x r => x = .int 1 ∧ r = rG a q2 m k n [] .un .un .un .un .un) (P2 := fun _ _ y r => ∃ (v : Nat) (q : Pool), v < 3 ∧ q.Ok ∧ y = .int (v : Nat) ∧ r = rG a q m k n [] .un .un .un .un .un) (we_of ev_int ⟨rfl, rfl⟩) (fun x r h => ?_) (fun x ra y rb h h2 => ?_)) scLawGraph.nd (fun x r h => ?_)) ?_
        · obtain ⟨rfl, rfl⟩ := h
          exact we_callM 0 G2 r2 F2.g F2.F.kp F2.b rfl (.inr rfl) (wa_of (ea_cons ev_int ea_nil) ⟨_, rfl, 3, rfl, by decide, small8 (by decide), q2, rfl, ok2, fun v q hv ok => ⟨v, q, by omega, ok, rfl, rfl⟩⟩)
        · obtain ⟨rfl, rfl⟩ := h
          obtain ⟨v, q, hv, ok, rfl, rfl⟩ := h2
          exact ⟨_, vi0 fun _ => .int _, v + 1, q, by omega, ok, by congr 1; omega, rfl⟩
        · obtain ⟨v, q, hv, ok, rfl, rfl⟩ := h
          exact ⟨v, q, hv, ok, rfl⟩
        · rintro _ ⟨v, q, hv, ok, rfl⟩
          have p2 : ∀ t : Nat, (2 : Int) ^ t = ((2 ^ t : Nat) : Int) := fun t => by simp
          refine st_cons (M := fun r => ∃ v : Nat, v ≤ 3 ∧ 2 ^ v ≤ m ∧ r = rG a q m k n [] .un .un .un .un (.fr (.int (v : Nat)))) (s_if (et_gt (ev_call G7 r1 F7.g F7.F.kp F7.b (ea_cons ev_int (ea_cons (ev_var 9) ea_nil)) ⟨2, v, rfl, by decide, by decide, by omega, rfl⟩) (ev_var 1)) (fun _ => ?_) (fun h => ?_)) ?_
          · exact st_one (M := fun _ => True) (s_asg (i := 9) ev_int scLawGraph.nd ⟨0, by omega, by simpa using hm1, rfl⟩)
          · have h : ¬ (m : Int) < 2 ^ v := by simpa using h
            rw [p2] at h
            exact st_nil ⟨v, hv, by omega, rfl⟩
          · rintro _ ⟨v, hv, hvm, rfl⟩
            have h0 : 1 ≤ 2 ^ v := Nat.one_le_two_pow
            refine st_to (s_asg (i := 3) (ev_is (ev_call G7 r1 F7.g F7.F.kp F7.b (ea_cons ev_int (ea_cons (ev_var 9) ea_nil)) ⟨2, v, rfl, by decide, by decide, by omega, rfl⟩) (congrArg D.int (p2 v))) scLawGraph.nd (by walk_at "rho")) ?_
            exact st_one (M := fun _ => True) (s_asg (i := 4) (ev_call G8 r2 F8.g F8.F.kp F8.b (ea_cons (ev_var 9) ea_nil) ⟨v, rfl, by omega, rfl⟩) scLawGraph.nd ⟨q, k, 2 ^ v, v, digitEdges v, .un, .un, .un, .un, _, ok, h0, by omega, digit_reg v hv, by omega, rfl⟩)
    · rintro _ ⟨q, k, n, d, es, s5, s6, s7, s8, s9, ok, hn1, hnm, hR, hd, rfl⟩
      have hn64 : n ≤ 64 := by omega
      have few := hR.few64 hn64 (by omega)
      refine st_cons (M := fun r => ∃ (π : List Nat) (q' : Pool), π.Perm (List.range n) ∧ q'.Ok ∧ r = rG a q' m k n es s5 s6 s7 (.fr (.tup (natsD π))) s9) (s_asgW (i := 8) (P := fun x r => ∃ (π : List Nat) (q' : Pool), π.Perm (List.range n) ∧ q'.Ok ∧ x = .tup (natsD π) ∧ r = rG a q' m k n es s5 s6 s7 s8 s9)
        (we_callM 0 G3 r3 F3.g F3.F.kp F3.b rfl (.inr rfl) (wa_of (ea_cons (ev_var 3) ea_nil) ⟨_, rfl, n, q, rfl, by omega, rfl, ok, fun π q' hp ok' => ⟨π, q', hp, ok', rfl, rfl⟩⟩)) scLawGraph.nd (fun x r hx => ?_)) ?_
      · obtain ⟨π, q', hp, ok', rfl, rfl⟩ := hx
        exact ⟨π, q', hp, ok', rfl⟩
      · rintro _ ⟨π, q', hp, ok', rfl⟩
        have hπ : π.length = n := by rw [hp.length_eq, List.length_range]
        have hR2 := relab_reg hp hR
        have ix : ∀ u, u < n → L2.atI (natsD π) (u : Int) = some (.int ((π.getD u 0 : Nat) : Nat)) := fun u hu => natsD_at (by rw [List.getD_eq_getElem?_getD, List.getElem?_eq_getElem (by omega)]; rfl)
        refine st_to (s_asg (i := 4) (ev_ofN (ds := edgesD (es.map (relab π))) (en_ofW (ρ2 := rG a q' m k n es s5 s6 s7 (.fr (.tup (natsD π))) s9) (wn_lc (own := [("u", 10), ("v", 11)]) (PL := fun ds r => ds = edgesD es ∧ r = rG a q' m k n es s5 s6 s7 (.fr (.tup (natsD π))) s9)
            (fun ds j acc r => ds = edgesD es ∧ acc = (es.take j).map (fun e => encE (relab π e)) ∧ r = rG a q' m k n es s5 s6 s7 (.fr (.tup (natsD π))) s9)
            (wi_of (it_list (ev_var 4)) ⟨rfl, rfl⟩) scLawGraph.nd (blkOk_by (N := nLawGraph) (sc := defScope sLawGraph) (by decide +kernel)) (fun ds r hx => ?_) (fun ds j d acc r hd hI => ?_) (fun ds zs r hI => ?_)))) scLawGraph.nd (by walk_at "rho")) ?_
        · obtain ⟨rfl, rfl⟩ := hx
          exact ⟨⟨rfl, rfl, rfl⟩, by rw [edgesD_len]; omega, rfl⟩
        · obtain ⟨rfl, rfl, rfl⟩ := hI
          obtain ⟨e, he, rfl⟩ := map_get hd
          have hok := hR.1 e (List.mem_of_getElem? he)
          have i1 := ix e.1 (by omega)
          have i2 := ix e.2 (by omega)
          have e1 : ∀ x y : Nat, (if (y : Int) < (x : Int) then (y : Int) else (x : Int)) = ((min x y : Nat) : Int) := fun x y => by rw [Nat.min_def]; split <;> split <;> omega
          have e2 : ∀ x y : Nat, (if (y : Int) > (x : Int) then (y : Int) else (x : Int)) = ((max x y : Nat) : Int) := fun x y => by rw [Nat.max_def]; split <;> split <;> omega
          refine ⟨_, _, fun _ _ _ _ _ => tg_tup2 (tg_name 10 scLawGraph.nd) (tg_name 11 scLawGraph.nd), fun _ _ _ _ _ => pts_nilW, fun r h => ?_, fun r h _ _ _ _ _ => ?_⟩
          · obtain ⟨h, _⟩ := h; cases h
          · obtain ⟨_, rfl⟩ := h
            refine we_of (ev_is (ev_tup (ea_cons (ev_min2 rfl T.min (ev_ixT (ev_var 8) (ev_var 10) i1) (ev_ixT (ev_var 8) (ev_var 11) i2)) (ea_cons (ev_max2 rfl T.max (ev_ixT (ev_var 8) (ev_var 10) i1) (ev_ixT (ev_var 8) (ev_var 11) i2)) ea_nil)) (by show 2 ≤ 100000; decide)) (d' := encE (relab π e)) (by rw [e1, e2]; rfl)) ⟨rfl, ?_, rfl⟩
            rw [take_succ_of he, List.map_append]
            rfl
        · obtain ⟨rfl, rfl, rfl⟩ := hI
          rw [edgesD_len, List.take_length]
          refine ⟨?_, rfl⟩
          unfold edgesD
          rw [List.map_map]
          rfl
        · generalize hfs : es.map (relab π) = fs at *
          have few2 := hR2.few64 hn64 (by omega)
          have fget : ∀ (τ : List Nat), τ.Perm (List.range fs.length) → (τ.map fun t => fs.getD t (0, 0)).Perm fs := fun τ hτ => by
            have h1 := hτ.map fun t => fs.getD t (0, 0)
            have h2 : (List.range fs.length).map (fun t => fs.getD t (0, 0)) = fs := by
              apply List.ext_getElem?
              intro i
              rw [List.getElem?_map]
              by_cases hi : i < fs.length
              · rw [List.getElem?_range hi]
                show some (fs.getD i (0, 0)) = _
                rw [List.getD_eq_getElem?_getD, List.getElem?_eq_getElem hi]; rfl
              · rw [List.getElem?_eq_none (by simpa using hi), List.getElem?_eq_none (by omega)]; rfl
            rw [h2] at h1
            exact h1
          refine st_retW (P := fun x r => ∃ (gs : Edges) (q2 : Pool) (s8 s9 : Slot), gs.Perm fs ∧ q2.Ok ∧ x = .tup [.int (n : Nat), .lst (edgesD gs)] ∧ r = rG a q2 m k n fs s5 s6 s7 s8 s9)
            (we_tup (PL := fun ds r => ∃ (gs : Edges) (q2 : Pool) (s8 s9 : Slot), gs.Perm fs ∧ q2.Ok ∧ ds = [.int (n : Nat), .lst (edgesD gs)] ∧ r = rG a q2 m k n fs s5 s6 s7 s8 s9) (wa_cons (P := fun x r => x = .int (n : Nat) ∧ r = rG a q' m k n fs s5 s6 s7 (.fr (.tup (natsD π))) s9) (we_of (ev_var 3) ⟨rfl, rfl⟩) (fun x r h => ?_)) (fun ds r h => ?_) (fun ds r h => ?_)) (fun x r h => ?_)
          · obtain ⟨rfl, rfl⟩ := h
            refine wa_cons (P := fun x r => ∃ (gs : Edges) (q2 : Pool) (s8 s9 : Slot), gs.Perm fs ∧ q2.Ok ∧ x = .lst (edgesD gs) ∧ r = rG a q2 m k n fs s5 s6 s7 s8 s9) ((we_ofN (PL := fun zs r => ∃ (gs : Edges) (q2 : Pool) (s8 s9 : Slot), gs.Perm fs ∧ q2.Ok ∧ zs = edgesD gs ∧ r = rG a q2 m k n fs s5 s6 s7 s8 s9) (wn_lc (own := [("k", 12)]) (PL := fun ds r => ∃ (τ : List Nat) (q2 : Pool), τ.Perm (List.range fs.length) ∧ q2.Ok ∧ ds = natsD τ ∧ r = rG a q2 m k n fs s5 s6 s7 (.fr (.tup (natsD π))) s9)
              (fun ds j acc r => ∃ (τ : List Nat) (q2 : Pool), τ.Perm (List.range fs.length) ∧ q2.Ok ∧ ds = natsD τ ∧ acc = (τ.take j).map (fun t => encE (fs.getD t (0, 0))) ∧ r = rG a q2 m k n fs s5 s6 s7 (.fr (.tup (natsD π))) s9)
              (wi_tup ((we_callM 0 G3 r3 F3.g F3.F.kp F3.b rfl (.inr rfl) (wa_of (ea_cons (ev_lenL T.len (el_ofV (ev_var 4))) ea_nil) ⟨_, rfl, fs.length, q', by rw [edgesD_len], by omega, rfl, ok', fun τ q2 hτ ok2 => ⟨natsD τ, rfl, τ, q2, hτ, ok2, rfl, rfl⟩⟩)))) scLawGraph.nd (blkOk_by (N := nLawGraph) (sc := defScope sLawGraph) (by decide +kernel)) (fun ds r hx => ?_) (fun ds j d acc r hd hI => ?_) (fun ds zs r hI => ?_))).mono fun x r ⟨zs, e, h⟩ => ?_) (fun x r h => wa_nil ?_)
            · obtain ⟨τ, q2, hτ, ok2, rfl, rfl⟩ := hx
              refine ⟨⟨τ, q2, hτ, ok2, rfl, rfl, rfl⟩, ?_, rfl⟩
              rw [natsD_len, hτ.length_eq, List.length_range]
              omega
            · obtain ⟨τ, q2, hτ, ok2, rfl, rfl, rfl⟩ := hI
              obtain ⟨t, ht, rfl⟩ := natsD_get hd
              have htl : t < fs.length := by
                have := hτ.mem_iff.mp (List.mem_of_getElem? ht)
                simpa using this
              have g : (edgesD fs)[t]? = some (encE (fs.getD t (0, 0))) := by
                unfold edgesD
                rw [List.getElem?_map, List.getD_eq_getElem?_getD, List.getElem?_eq_getElem htl]; rfl
              refine ⟨_, _, fun _ _ _ _ _ => tg_name 12 scLawGraph.nd, fun _ _ _ _ _ => pts_nilW, fun r h => ?_, fun r h _ _ _ _ _ => ?_⟩
              · obtain ⟨h, _⟩ := h; cases h
              · obtain ⟨_, rfl⟩ := h
                refine we_of (ev_ixF (ev_var 4) (ev_var 12) (atI_nat g)) ⟨τ, q2, hτ, ok2, rfl, ?_, rfl⟩
                rw [take_succ_of ht, List.map_append]
                rfl
            · obtain ⟨τ, q2, hτ, ok2, rfl, rfl, rfl⟩ := hI
              refine ⟨_, q2, _, _, fget τ hτ, ok2, ?_, rfl⟩
              rw [natsD_len, List.take_length]
              unfold edgesD
              rw [List.map_map]
              rfl
            · subst e
              obtain ⟨gs, q2, s8, s9, h1, h2, rfl, rfl⟩ := h
              exact ⟨gs, q2, s8, s9, h1, h2, rfl, rfl⟩
            · obtain ⟨gs, q2, s8, s9, h1, h2, rfl, rfl⟩ := h
              exact ⟨gs, q2, s8, s9, h1, h2, rfl, rfl⟩
          · obtain ⟨gs, q2, s8, s9, h1, h2, rfl, rfl⟩ := h
            show 2 ≤ 100000
            decide
          · obtain ⟨gs, q2, s8, s9, h1, h2, rfl, rfl⟩ := h
            exact ⟨gs, q2, s8, s9, h1, h2, rfl, rfl⟩
          · obtain ⟨gs, q2, s8, s9, h1, h2, rfl, rfl⟩ := h
            exact ⟨_, rfl, kk n d gs q2 hn1 hnm (hR2.perm h1) hd h2⟩
end
end G

set_option Elab.async false
set_option maxRecDepth 100000
set_option linter.all false
/-! G10: exceptions: promises that tell what is raised, raise, calls that may raise, try. -/
namespace G
open PySem L2 PyProof.Rows
abbrev RXT := Value → Option (List (Str × D)) → Prop
/-- arguments by value in, a value out or an exception, nothing changed -/
abbrev CPX := List D → (D → Prop) → RXT → Prop
def spPX (K : PySem.W.Frag) (C : CPX) : Sp := fun vs H Q E => ∃ B ds R RX, C ds R RX ∧ Same B H ∧ Reps K B vs ds ∧ (∀ B' H' v d, Grow B H B' H' → R d → Rep K B' v d → Q v H') ∧ ∀ B' H' cls pay d, Grow B H B' H' → RX cls pay → PayOk K B' pay d → E cls d H'
theorem takes_no {X : Cx} : Takes X (fun _ _ _ _ => False) := fun _ _ ⟨_, _, _, _, _, _, _, _, _, _, _, _, _, _, _, _, z⟩ => z.elim
section
variable {P : Program} {w : World} {K : PySem.W.Frag} {mg : Str → Option Value} {base : Heap}
theorem startP {N ps : List Str} {sc : Scope} (S : FnScope N ps sc) {vs : List V} {ds : List D} {B H : Hp} (e : Same B H) (r : Reps K B vs ds) (len : ds.length = ps.length) {DD : DEnds} {E : Ends} (g : Go K N.length ⟨B, H, []⟩ B DD E) :
    tST K N.length (ds.map .fr ++ List.replicate (N.length - ds.length) .un) DD E (L2.start N vs) H := by
  have hl : vs.length ≤ N.length := by
    have q := congrArg List.length S.pre
    rw [List.length_take] at q
    rw [r.len, len]
    omega
  refine ⟨⟨B, H, []⟩, B, ?_, ?_, g⟩
  · unfold L2.start
    exact (SR.args e r).pad (by rw [List.length_map, List.length_map, r.len]) (by rw [r.len])
  · unfold L2.start
    rw [List.length_append, List.length_map, List.length_replicate]
    omega
/-- the wishes behind a body -/
theorem goPX {B H : Hp} {n : Nat} {R : D → Prop} {RX : RXT} {Q : VK} {E : XK} (h1 : ∀ B' H' v d, Grow B H B' H' → R d → Rep K B' v d → Q v H') (h2 : ∀ B' H' cls pay d, Grow B H B' H' → RX cls pay → PayOk K B' pay d → E cls d H') :
    Go K n ⟨B, H, []⟩ B { nx := fun _ => R .non, rt := fun d _ => R d, W := fun cls d _ H => E cls d H, ex := fun cls pay _ => RX cls pay } { nx := fun _ H' => Q .non H', rt := Q } :=
  ⟨fun ρ' σ' B' H' hR R' _ _ => h1 B' H' .non .non R'.grown hR .non, fun d ρ' σ' B' H' v hR R' rv => h1 B' H' v d R'.grown hR rv, fun _ _ _ _ z => z.elim, fun _ _ _ _ z => z.elim, fun cls pay ρ' σ' B' H' d hR R' _ _ po => h2 B' H' cls pay d R'.grown hR po⟩
theorem fnPX {x qual : Str} {st : Stmt} {f : Addr} {fd : FuncData} {N ps : List Str} {k : Nat} {C : CPX} (F : Fun K x qual st f fd) (S : FnScope N ps (defScope st)) (len : ∀ ds R RX, C ds R RX → ds.length = ps.length)
    (body : ∀ (cdv : Value) (A : Around) (outer : List Env) (s : Shared) (H : Hp) (E : XK) (ds : List D) (R : D → Prop) (RX : RXT), Room k (A.deeper (envOfC qual (defScope st) s.heap.objs.size f cdv)) → C ds R RX →
      ST (cxOf (L2.CX P w) P w K mg base N qual (defScope st) f cdv A outer s H E) (defBody st) (ds.map .fr ++ List.replicate (N.length - ds.length) .un) { nx := fun _ => R .non, rt := fun d _ => R d, W := fun cls d _ H => E cls d H, ex := fun cls pay _ => RX cls pay }) :
    FnOk P w K mg base (L2.CX P w) (k + 1) f fd ps (spPX K C) := by
  refine F.okX S (fun vs H Q E h => ?_) (fun cdv A outer s H vs Q E hr h => ?_)
  · obtain ⟨B, ds, R, RX, hC, _, r, _⟩ := h
    rw [r.len]
    exact len ds R RX hC
  · obtain ⟨B, ds, R, RX, hC, e, r, h1, h2⟩ := h
    exact ⟨_, body cdv A outer s H E ds R RX hr hC, startP S e r (len ds R RX hC) (goPX h1 h2)⟩
/-- .. of a def with defaults -/
theorem fnDX {x qual : Str} {params : Arguments} {bd : List Stmt} {scope : Scope} {dvs : List V} {kws : List (Str × V)} {f : Addr} {fd : FuncData} {N ps : List Str} {k : Nat} {C : CPX} (F : FunD K x qual params bd scope dvs kws f fd) (S : FnScope N ps scope) (len : ∀ ds R RX, C ds R RX → ds.length = ps.length)
    (body : ∀ (cdv : Value) (A : Around) (outer : List Env) (s : Shared) (H : Hp) (E : XK) (ds : List D) (R : D → Prop) (RX : RXT), Room k (A.deeper (envOfC qual scope s.heap.objs.size f cdv)) → C ds R RX →
      ST (cxOf (L2.CX P w) P w K mg base N qual scope f cdv A outer s H E) bd (ds.map .fr ++ List.replicate (N.length - ds.length) .un) { nx := fun _ => R .non, rt := fun d _ => R d, W := fun cls d _ H => E cls d H, ex := fun cls pay _ => RX cls pay }) :
    FnOk P w K mg base (L2.CX P w) (k + 1) f fd ps (spPX K C) := by
  refine F.ok S (fun vs H Q E h => ?_) (fun cdv A outer s H vs Q E hr h => ?_)
  · obtain ⟨B, ds, R, RX, hC, _, r, _⟩ := h
    rw [r.len]
    exact len ds R RX hC
  · obtain ⟨B, ds, R, RX, hC, e, r, h1, h2⟩ := h
    exact ⟨_, body cdv A outer s H E ds R RX hr hC, startP S e r (len ds R RX hC) (goPX h1 h2)⟩
end
/-! ### raise -/
/-- an own error without __init__, over ValueError -/
structure Own (K : PySem.W.Frag) (mg : Str → Option Value) (x : Str) (C : Addr) : Prop where
  q : PySem.W.excIn K C [.type "ValueError", .type "Exception", .type "BaseException", .type "object"] "ValueError.__new__" = true
  g : mg x = some (.ref C)
  kp : PySem.W.keepIn K (.ref C) = true
  b : PySem.W.subIn K (.ref C) (.type "BaseException") = some true
  t : PySem.W.typeIn K (.ref C) = some (.type "type")
section
variable {X : Cx} {x m : Str} {j : Nat} {p p2 pos pos2 : Pos} {C : Addr} {ρ : Rho} {DD : DEnds} {rest : List Stmt}
theorem s_raise (tk : Takes X DD.W) (O : Own X.K X.mg x C) (k : DD.ex (.ref C) none ρ) (hc : X.calm = true := by rfl) (hg : Gl X x := by rfl) (hdb : (x == ("__debug__" : Str)) = false := by decide) :
    S1 X (.Raise (some (.Call (.Name x p) [.Constant (.str m) j p2] [] pos)) none pos2) ρ DD :=
  PS.imp (ps_raise hc tk (pmk_own PySem.F.excBase_ValueError O.q O.g O.kp (raises_own O.b O.t) hg hdb)) fun E σ H ⟨w, B, R, hl, g⟩ => g.ex (.ref C) none ρ σ B H none k R (Same.refl B) hl rfl
theorem st_raise (tk : Takes X DD.W) (O : Own X.K X.mg x C) (k : DD.ex (.ref C) none ρ) (hc : X.calm = true := by rfl) (hg : Gl X x := by rfl) (hdb : (x == ("__debug__" : Str)) = false := by decide) :
    ST X (.Raise (some (.Call (.Name x p) [.Constant (.str m) j p2] [] pos)) none pos2 :: rest) ρ DD := st_cons (M := fun _ => False) (s_raise tk O k hc hg hdb) fun _ z => z.elim
end
/-! ### an expression that may raise -/
def tQE (K : PySem.W.Frag) (W : WX) (ρ : Rho) (P : D → Rho → Prop) (PX : Value → Option (List (Str × D)) → Rho → Prop) : TE := fun σ H Q => ∃ w B, SR K w B H σ ρ ∧ (∀ B' H' v d ρ', P d ρ' → SR K w B' H' σ ρ' → Stp false ρ B H ρ' B' H' → Rep K B' v d → Q v H') ∧
  ∀ B' H' cls pay d ρ', PX cls pay ρ' → SR K w B' H' σ ρ' → Same B B' → PayOk K B' pay d → W cls d σ H'
abbrev QE (X : Cx) (W : WX) (e : Expr) (ρ : Rho) (P : D → Rho → Prop) (PX : Value → Option (List (Str × D)) → Rho → Prop) : Prop := PE X e (tQE X.K W ρ P PX)
section
variable {X : Cx} {W : WX} {a b c e : Expr} {es : List Expr} {ρ : Rho} {P : D → Rho → Prop} {PX : Value → Option (List (Str × D)) → Rho → Prop} {PB : Bool → Rho → Prop} {pos : Pos}
theorem qe_of (h : WE X e ρ P) : QE X W e ρ P PX := PE.imp h fun σ H Q ⟨w, B, R, k, _⟩ => ⟨w, B, R, k⟩
theorem qe_if (ht : WT X c ρ PB) (ha : ∀ r, PB true r → QE X W a r P PX) (hb : ∀ r, PB false r → QE X W b r P PX) : QE X W (.IfExp c a b pos) ρ P PX :=
  PE.imp (pe_ifExp ht (PE.ex fun q : { q : Rho // PB true q } => ha q.1 q.2) (PE.ex fun q : { q : Rho // PB false q } => hb q.1 q.2)) fun σ H Q ⟨w, B, R, kk, kx⟩ => ⟨w, B, R, fun B1 H1 b r hp R1 s1 => by
    cases b with
    | true => exact iteT ⟨⟨r, hp⟩, w, B1, R1, fun B2 H2 v d r2 hq R2 s2 r => kk B2 H2 v d r2 hq R2 (s1.trans s2) r, fun B' H' cls pay d ρ' hx R' s po => kx B' H' cls pay d ρ' hx R' (s1.b.trans s) po⟩
    | false => exact iteF ⟨⟨r, hp⟩, w, B1, R1, fun B2 H2 v d r2 hq R2 s2 r => kk B2 H2 v d r2 hq R2 (s1.trans s2) r, fun B' H' cls pay d ρ' hx R' s po => kx B' H' cls pay d ρ' hx R' (s1.b.trans s) po⟩⟩
section
variable {k : Nat} {f : Addr} {fd : FuncData} {ps : List Str} {x : Str} {pp : Pos} {C : CPX}
theorem qe_red : ∀ σ H Q, tQE X.K W ρ P PX σ H Q → tCallS (spPX X.K C) (L2.WE W) (tWA X.K ρ (fun ds r => C ds (fun d => P d r) (fun cls pay => PX cls pay r))) σ H Q := fun σ H Q ⟨w, B, R, kk, kx⟩ => ⟨w, B, R, fun B1 H1 vs ds r hC R1 s1 r1 => 
  ⟨B1, ds, _, _, hC, R1.ext, r1, fun B' H' v d g hd rv => kk B' H' v d r hd (R1.grow g) (s1.add g) rv, fun B' H' cls pay d g hx po => kx B' H' cls pay d r hx (R1.grow g) (s1.b.trans g.b) po⟩⟩
/-- f(e, ..) that may raise -/
theorem qe_call (F : FnOk X.prog X.w X.K X.mg X.base (L2.CX X.prog X.w) k f fd ps (spPX X.K C)) (hr : Room k X.A) (hm : X.mg x = some (.ref f)) (hk : PySem.W.keepIn X.K (.ref f) = true) (hb : Binds X.K fd ps []) (tk : Takes X W)
    (ha : WA X (e :: es) ρ (fun ds r => C ds (fun d => P d r) (fun cls pay => PX cls pay r)))
    (hg : Gl X x := by rfl) (hdb : (x == ("__debug__" : Str)) = false := by decide) (he : starEach (e :: es) X.env = (false, eval e X.env) :: starEach es X.env := by rfl) (hpl : (backTo pos (starEach es X.env)).any (·.1) = false := by rfl) :
    QE X W (.Call (.Name x pp) (e :: es) [] pos) ρ P PX := PE.imp (pe_callS F hr hg hm hk hb (passAt tk) ha hdb he hpl) qe_red
end
end
end G

set_option Elab.async false
set_option maxRecDepth 100000
set_option maxHeartbeats 2000000
set_option linter.all false
/-! G11: enumerate over a tuple. -/
namespace PySem
open Sem (wp)
open Builtin Builtin.Str
namespace GEn
theorem new_begins {v : Value} {o : Obj} {HP : Heap → Prop} (Bg : Begins v o HP) :
    Meets (Builtin.«enumerate.__new__» ⟨[.type "enumerate", v], []⟩) (fun _ RR s0 => HP s0.heap ∧
      RR (.ok (.ret (.ref (s0.heap.push o).objs.size))) { s0 with heap := (s0.heap.push o).push { cls := .type "enumerate", data := .fields #[.none, .bool false, .ref s0.heap.objs.size, rawInt 0, .none, .none] } }) :=
  .of_wp fun pr w0 A0 RR s0 hh => by
    obtain ⟨hp, gg, dd, tk, os⟩ := s0; obtain ⟨h1, hR⟩ := hh
    have hsb := sub_enumerate
    have itr : ∀ {A' : Around} {E : Value → Shared → Prop} {Q : Value → Shared → Prop}, Q (.ref hp.objs.size) ⟨hp.push o, gg, dd, tk, os⟩ → wpAny (model pr w0) A' (pyIter v) Q E ⟨hp, gg, dd, tk, os⟩ :=
      fun z => Bg.iter pr w0 _ _ ⟨hp, gg, dd, tk, os⟩ _ h1 z
    wp_walk using itr
    refine wpAny_stack_any fun _ => wpAny_pure ?_
    split
    · rename_i c _ _ _ _ _
      cases (c == Value.type "enumerate")
      · wp_walk using itr
        exact ⟨_, rfl, hR⟩
      · wp_walk using itr
        exact ⟨_, rfl, hR⟩
    · wp_walk using itr
      exact ⟨_, rfl, hR⟩
theorem one_begins {prog : Program} {w : World} {A : Around} {E : Value → Shared → Prop} {s : Shared} {v : Value} {o : Obj} {HP : Heap → Prop} {Q : Value → Shared → Prop} (Bg : Begins v o HP) (h1 : HP s.heap)
    (hq : ∀ g, IsEnum g (s.heap.objs.size + 1) s.heap.objs.size 0 .none → g.get? s.heap.objs.size = some o → (∀ b u, s.heap.get? b = some u → g.get? b = some u) → Q (.ref (s.heap.objs.size + 1)) { s with heap := g }) :
    wpAny (model prog w) A (call (.type "enumerate") [v]) Q E s := by
  refine callType_new F.called_enumerate (by decide) (F.typeCall_enumerate_1 _) (F.newCall_enumerate_1 _) (fun x => F.args_object_init_2 x _) F.entry_enumerate_new (new_begins Bg) ⟨h1, ?_⟩
  have sz : (s.heap.push o).objs.size = s.heap.objs.size + 1 := Heap.size_push ..
  show _ ∧ _
  rw [sz]
  have en : IsEnum ((s.heap.push o).push { cls := .type "enumerate", data := .fields #[.none, .bool false, .ref s.heap.objs.size, rawInt 0, .none, .none] }) (s.heap.objs.size + 1) s.heap.objs.size 0 .none := by
    have z := Heap.get?_push_size (s.heap.push o) (o := { cls := .type "enumerate", data := .fields #[.none, .bool false, .ref s.heap.objs.size, rawInt 0, .none, .none] }) rfl
    rw [sz] at z; exact z
  exact ⟨⟨_, en, rfl⟩, hq _ en (Heap.get?_push_of_some _ (Heap.get?_push_size _ Bg.free)) fun b u x => Heap.get?_push_of_some _ (Heap.get?_push_of_some _ x)⟩
end GEn
end PySem
namespace G
open PySem L2 PyProof.Rows
/-- the tuple at a, each item in a new pair -/
def Itte (K : PySem.W.Frag) (a : Addr) : It :=
  ⟨fun i H => ∃ (xs : List V) (x : V), SqT K H a xs ∧ xs[i]? = some x, fun i H v H' => ∃ T x, v = .ref T ∧ H T = none ∧ H' = upd H T (.tup [.int (i : Nat), x]) ∧ ∀ xs, SqT K H a xs → xs[i]? = some x, fun i H => ∃ xs : List V, SqT K H a xs ∧ xs.length ≤ i⟩
theorem turn_enumT {P : Program} {w : World} {K : PySem.W.Frag} {elts : List Expr} {kk : Nat} {tpos : Pos} (a e it : Addr) :
    Turn P w K (.Tuple elts kk tpos) (Itte K a) [e, it] e (fun i h => (∃ old, IsEnum h e it ((i : Nat) : Int) old) ∧ h.IsTupleIter it a i ∧ e ≠ it ∧ a ≠ it ∧ e ≠ a) where
  mem := by simp
  obj := fun i h st b hb => by
    obtain ⟨⟨old, en⟩, ⟨o, ho, _, od⟩, _⟩ := st
    rcases (show b = e ∨ b = it by simpa using hb) with z | z
    · subst z; exact ⟨_, en, fun v q => nomatch q⟩
    · subst z; exact ⟨o, ho, fun v q => by rw [od] at q; cases q⟩
  keep := fun i h h' st k => by
    obtain ⟨⟨old, en⟩, hi, n1, n2, n3⟩ := st
    exact ⟨⟨old, k e (by simp) _ en⟩, hi.at fun o q => k it (by simp) o q, n1, n2, n3⟩
  item := by
    intro X hP hw hK hc i pins s σ H E I hf st hg
    subst hP hw hK
    obtain ⟨⟨old, en⟩, hit, n1, n2, n3⟩ := st
    obtain ⟨xs, x, hq, hx⟩ := hg
    obtain ⟨its, rv, pt, _⟩ := I.tuple hq
    obtain ⟨u, hu, ru⟩ := rv.get hx
    have lte : e < s.heap.objs.size := Heap.lt_size en
    have lti : it < s.heap.objs.size := by obtain ⟨_, q, _⟩ := hit; exact Heap.lt_size q
    have hiu : i < its.toArray.size := by simpa using (List.getElem?_eq_some_iff.mp hu).1
    refine wpAny_pyNext_enum_itemD (Draws.tuple (prog := X.prog) (w := X.w) (A := X.A.in1) (I.ok.hd hc) it a n2 its.toArray) en ⟨hit, pt⟩ hiu n1 (by simp [n1, n3]) fun y g tk hy ho st' hT _ hk => ?_
    obtain rfl : y = u := by
      have z : its.toArray[i]? = some u := by simpa using hu
      rw [z] at hy; cases hy; rfl
    refine ⟨_, rfl, wpAny_letOwnedTupleGo_enum (s := { s with heap := g, toks := tk + 1 }) ho fun g2 en2 sb => ?_⟩
    have T2 : g2.get? s.heap.objs.size = some { cls := .type "tuple", data := .seq #[.int i tk, y] } := (sb.2 _ (Nat.ne_of_gt lte)).trans hT
    have ob : ObjOk X.prog X.w (upd H s.heap.objs.size (.tup [.int (i : Nat), x])) g2 s.heap.objs.size (.tup [.int (i : Nat), x]) :=
      ⟨by show 2 ≤ sizeLine; decide, [.int i tk, y], .cons ⟨_, rfl⟩ (.cons ru .nil), ⟨_, T2, rfl, _, rfl⟩⟩
    have I1 : Inv X pins σ (upd H s.heap.objs.size (.tup [.int (i : Nat), x])) { s with heap := g2, toks := tk + 1 } :=
      I.turnedNew (ch := [e, it]) (fun b ob hb q => (sb.2 b (fun z => hb (by simp [z]))).trans (hk b ob (fun z => hb (by simp [z])) (fun z => hb (by simp [z])) q)) hf (Nat.le_refl _) ob
    refine ⟨.ref s.heap.objs.size, _, I1, rfl, ⟨_, x, rfl, I.hok.fresh (Nat.le_refl _), rfl, fun ys hy => by rw [I.tuple_inj hy hq]; exact hx⟩, ⟨⟨y, ?_⟩, st'.1.at fun o q => (sb.2 it (Ne.symm n1)).trans q, n1, n2, n3⟩, fun b hb => ?_⟩
    · rw [show ((i + 1 : Nat) : Int) = (i : Int) + 1 by omega]; exact en2
    · have lb : b < s.heap.objs.size := by
        rcases (show b = e ∨ b = it by simpa using hb) with z | z
        · rw [z]; exact lte
        · rw [z]; exact lti
      rw [upd_ne (Nat.ne_of_lt lb)]
      exact (hf b hb).1
  done := by
    intro X hP hw hK hc i pins s σ H E I hf st hg
    subst hP hw hK
    obtain ⟨⟨old, en⟩, hit, n1, n2, n3⟩ := st
    obtain ⟨xs, hq, hx⟩ := hg
    obtain ⟨its, rv, pt, _⟩ := I.tuple hq
    obtain ⟨f0, f1, f2, f3, f4, f5⟩ := hf it (by simp)
    have hl := rv.length
    refine wpAny_pyNext_enum_endD (n := i) (P := fun _ _ => True) (St := fun j h => j = i ∧ h.IsTupleIter it a j ∧ h.IsTuple a its.toArray) (fp := [it, a]) ⟨fun j h st => ?_, fun j h h' st k => ?_, fun j s Q E hj st => ?_, fun s Q E st q => ?_⟩ en ⟨rfl, hit, pt⟩ fun h' eb => ⟨rfl, I.turned (t' := s.toks) (fun b o hb q => eb b o hb q) f0 f1 f3 f4 f5⟩
    · obtain ⟨_, ⟨o, ho, _⟩, _⟩ := st
      exact ⟨o, ho⟩
    · exact ⟨st.1, st.2.1.at fun o z => k it (by simp) o z, st.2.2.at fun o z => k a (by simp) o z⟩
    · have := st.1
      omega
    · exact wpAny_nextOf_tuple_end (I.ok.hd hc) st.2.1 st.2.2 (by simp; omega) q
  self := fun A i s Q E st h => let ⟨⟨_, he⟩, _⟩ := st; wpAny_pyIter_enum he h
def iEnumT (K : PySem.W.Frag) (ta : TA) : TI := fun σ H R => ta σ H fun vs H1 => ∃ a xs, vs = [.ref a] ∧ SqT K H1 a xs ∧ R (Itte K a) H1
theorem pi_enumT {X : Cx} {e : Expr} {ta : TA} {p pos tpos : Pos} {elts : List Expr} {kk : Nat} (hg : Gl X "enumerate") (hm : X.mg "enumerate" = none) (ha : PA X [e] ta) (hs : starEach [e] X.env = [(false, eval e X.env)] := by rfl) :
    PI X (.Tuple elts kk tpos) (.Call (.Name "enumerate" p) [e] [] pos) (iEnumT X.K ta) := by
  refine ⟨fun pins s σ H R I h => ?_⟩
  refine Call_ (ld_blt I hg hm boot_enumerate (PyProof.Rows.callWith_type1 (thn (ha.run pos pins s σ H _ I h) fun us s1 hh => ?_) hs rfl))
  obtain ⟨vs, H1, I1, r1, a, xs, rfl, hq, q⟩ := hh
  cases r1 with
  | cons r rr =>
    cases rr
    cases r
    obtain ⟨its, rv, pt, _⟩ := I1.tuple hq
    have la : a < s1.heap.objs.size := by
      obtain ⟨o, ho, _⟩ := pt
      exact Heap.lt_size ho
    refine PySem.GEn.one_begins (begins_tuple a its.toArray) pt fun g en hit hk => wpAny_pyIter_enum en ?_
    have I2 : Inv X pins σ H1 { s1 with heap := g } := I1.kept (t' := s1.toks) hk
    refine ⟨s1.heap.objs.size + 1, [s1.heap.objs.size + 1, s1.heap.objs.size], _, _, H1, rfl, I2, turn_enumT a (s1.heap.objs.size + 1) s1.heap.objs.size, ⟨⟨.none, en⟩, ⟨_, hit, rfl, rfl⟩, Nat.succ_ne_self _, Nat.ne_of_lt la, Nat.ne_of_gt (Nat.lt_succ_of_lt la)⟩, fun b hb => ?_, q⟩
    have le : s1.heap.objs.size ≤ b := by
      rcases (show b = s1.heap.objs.size + 1 ∨ b = s1.heap.objs.size by simpa using hb) with z | z
      · rw [z]; exact Nat.le_succ _
      · rw [z]; exact Nat.le_refl _
    exact I1.fpOk le (I1.hok.fresh le)
theorem serves_enumT {K : PySem.W.Frag} {B : Hp} {a : Addr} {xs : List V} {ds : List D} (h : B a = some (.tup xs)) (r : Reps K B xs ds) : Serves K B (Itte K a) (ds.zipIdx.map fun x => .tup [.int (x.2 : Nat), x.1]) := fun i B1 H e0 e1 => by
  have sq : SqT K H a xs := SqT.of (e1 _ _ (e0 _ _ h))
  refine ⟨fun d hd => ?_, fun hle => ⟨xs, sq, by rw [r.len]; simpa using hle⟩⟩
  obtain ⟨⟨d1, k⟩, h1, rfl⟩ := map_get hd
  have h2 : ds[i]? = some d1 ∧ k = i := by
    rw [List.getElem?_zipIdx] at h1
    cases e : ds[i]? with
    | none => rw [e] at h1; cases h1
    | some u => rw [e] at h1; simp at h1; exact ⟨by rw [h1.1], h1.2.symm⟩
  obtain ⟨h2, rfl⟩ := h2
  obtain ⟨v, hv, rv⟩ := r.get h2
  refine ⟨⟨xs, v, sq, hv⟩, fun x H' ⟨T, y, ex, hT, eH, hy⟩ => ?_⟩
  subst ex eH
  have q := hy xs sq
  rw [hv] at q
  cases q
  have g := Grow.lay (o := .tup [.int (k : Nat), v]) e1 hT
  exact ⟨_, g, .tup upd_same (.cons (.int _) (.cons ((rv.mono e0).mono g.b) .nil))⟩
theorem it_enumT {X : Cx} {e : Expr} {p : Bool} {ρ ρ1 : Rho} {ds : List D} {pos pp tpos : Pos} {elts : List Expr} {kk : Nat} (h : EV X e p ρ (.tup ds) ρ1) (hm : X.mg "enumerate" = none) (hg : Gl X "enumerate" := by rfl) (hs : starEach [e] X.env = [(false, eval e X.env)] := by rfl) :
    ITR X (.Tuple elts kk tpos) (.Call (.Name "enumerate" pp) [e] [] pos) p ρ (ds.zipIdx.map fun x => .tup [.int (x.2 : Nat), x.1]) ρ1 := PI.imp (pi_enumT hg hm (pa_cons h pa_nil hs) hs) fun σ H R0 ⟨w, B, R, k⟩ => ⟨w, B, R, fun B1 H1 v R1 s1 r1 => by
  cases r1 with
  | tup hb r => exact ⟨_, _, rfl, SqT.of (R1.ext _ _ hb), k B1 H1 _ R1 s1 (serves_enumT hb r)⟩⟩
end G

set_option Elab.async false
set_option maxRecDepth 100000
set_option maxHeartbeats 2000000
set_option linter.all false
/-! G12: sorted, min, max of a tuple of ints. -/
namespace PySem
namespace GEn
open PyProof.Rows Builtin
section
variable {prog : Program} {w : World} {A : Around} {E : Value → Shared → Prop} {s : Shared} {t : Addr} {us : List Value}
theorem collect_tup {Q : List Value → Shared → Prop} (ht : s.heap.IsTuple t us.toArray) (few : us.length ≤ sizeLine)
    (k : Q us { s with heap := (s.heap.push (seqObj "list" #[] 0)).update s.heap.objs.size (Obj.mapSeq (· ++ us.toArray)) }) : wpAny (model prog w) A (collect (.ref t)) Q E s := by
  obtain ⟨ot, hot, hcl, m, hdt⟩ := id ht
  unfold collect
  refine wpAny_bind (wpAny_runValue (codeAny_builtin entry_proto_collect' ?_))
  show wpAny _ _ (do again (.builtin "list.__iadd__" ⟨[← newList [], .ref t], []⟩)) _ _ s
  refine wpAny_bind (wpAny_newList (wpAny_pure ⟨Code.quiet_builtin _ (by decide +kernel), codeAny_builtin entry_list_iadd' ?_⟩))
  show wpAny _ _ (Builtin.List.listExtendWith (.ref s.heap.objs.size) (.ref t) (.ref s.heap.objs.size)) _ _ { s with heap := s.heap.push (seqObj "list" #[] 0) }
  unfold Builtin.List.listExtendWith
  have hot' : (s.heap.push (seqObj "list" #[] 0)).get? t = some ot := Heap.get?_push_of_some _ hot
  refine wpAny_bind (wpAny_typeOf (T := "tuple") ⟨ot, hot', hcl⟩ ?_)
  have tt : (Value.type "tuple" == Value.type "tuple") = true := by rfl
  rw [if_pos (by rw [tt]; simp)]
  refine wpAny_bind (listItems_at hot' hdt ?_)
  have new0 : (s.heap.push (seqObj "list" #[] 0)).get? s.heap.objs.size = some (seqObj "list" #[] 0) := Heap.get?_push_size _ rfl
  refine wpAny_bind (listItems_at (xs := #[]) (n := 0) new0 rfl ?_)
  rw [if_neg (by simp)]
  refine wpAny_bind (listUpdate_at (xs := #[]) (n := 0) new0 rfl ?_ (Nat.zero_le _) (by show (#[] ++ us.toArray).size ≤ sizeLine + 1; simp only [Array.size_append, List.size_toArray, List.length_nil]; omega))
  refine wpAny_pure ?_
  have back : ((#[] : Array Value) ++ us.toArray).toList = us := by simp
  refine wpAny_bind (wpAny_load (get?_update_seq new0 _) ?_)
  show wpAny _ _ (pure ((#[] : Array Value) ++ us.toArray).toList) Q E _
  rw [back]
  exact wpAny_pure k
theorem sorted_tup {ltv : Value → Value → Bool} {Q : Value → Shared → Prop} (O : SrtO.Swo ltv) (ht : s.heap.IsTuple t us.toArray) (few : us.length ≤ sizeLine)
    (sb : 2 ≤ us.length → ∀ (g : Heap) (a : Addr), g.get? a = some (seqObj "list" us.toArray 0) → (∀ b o, s.heap.get? b = some o → b ≠ a ∧ g.get? b = some o) → SrtO.SortableO prog w A.in1.in1 { s with heap := g } a us ltv)
    (k : ∀ out : List Value, SrtO.Srtd ltv out → SrtO.Stb ltv out us → Q (.ref (s.heap.objs.size + 1)) { s with heap := sortedAll s.heap us out.toArray }) :
    wpAny (model prog w) A (call (.builtin "sorted") [.ref t]) Q E s := by
  refine Calls.call_function_entry kind_sorted plain_sorted entry_sorted (args_sorted1 _) ?_
  unfold Builtin.«sorted»
  refine wpAny_bind (m := checkCount "sorted" 1 1 _) (wpAny_pure (wpAny_bind (collect_tup ht few (wpAny_bind (wpAny_newList ?_ few)))))
  generalize hg1 : (s.heap.push (seqObj "list" #[] 0)).update s.heap.objs.size (Obj.mapSeq (· ++ us.toArray)) = g1
  have sz1 : g1.objs.size = s.heap.objs.size + 1 := by rw [← hg1, Heap.size_update, size_push']
  have at1 : (g1.push (seqObj "list" us.toArray 0)).get? (s.heap.objs.size + 1) = some (seqObj "list" us.toArray 0) := by
    rw [← sz1]; exact Heap.get?_push_size _ rfl
  have old1 : ∀ b o, s.heap.get? b = some o → b ≠ s.heap.objs.size + 1 ∧ (g1.push (seqObj "list" us.toArray 0)).get? b = some o := fun b o q => by
    have lb : b < s.heap.objs.size := Heap.lt_size q
    refine ⟨Nat.ne_of_lt (Nat.lt_succ_of_lt lb), Heap.get?_push_of_some _ ?_⟩
    rw [← hg1, Heap.get?_update_ne _ _ _ _ (Nat.ne_of_lt lb)]
    exact Heap.get?_push_of_some _ q
  show wpAny _ _ _ _ _ { s with heap := g1.push (seqObj "list" us.toArray 0) }
  rw [sz1]
  refine wpAny_bind (wpAny_holding (wpAny_call_entry slot_list_sort ⟨_, at1, rfl⟩ entry_list_sort (SrtO.list_sort_ord O at1 few (fun h2 => sb h2 _ _ at1 old1) fun out h1 h2 => ⟨_, rfl, ?_⟩) (args_list_sort _)))
  have q := k out h1 h2
  subst hg1
  exact wpAny_pure ⟨_, rfl, q⟩
variable {ns : List Int}
theorem iter_tup {Q : Value → Shared → Prop} (ht : s.heap.IsTuple t us.toArray)
    (k : t ≠ s.heap.objs.size → (s.heap.push { cls := .type "tuple_iterator", data := .fields #[.ref t, .int 0 0] }).IsTupleIter s.heap.objs.size t 0 → (s.heap.push { cls := .type "tuple_iterator", data := .fields #[.ref t, .int 0 0] }).IsTuple t us.toArray →
      (∀ b ∈ [s.heap.objs.size, t], b < (s.heap.push { cls := .type "tuple_iterator", data := .fields #[.ref t, .int 0 0] }).objs.size) → Q (.ref s.heap.objs.size) { s with heap := s.heap.push { cls := .type "tuple_iterator", data := .fields #[.ref t, .int 0 0] } }) :
    wpAny (model prog w) A (pyIter (.ref t)) Q E s := by
  have lt' : t < s.heap.objs.size := by obtain ⟨_, e, _⟩ := ht; exact Heap.lt_size e
  refine wpAny_pyIter_tuple ht (k (Nat.ne_of_lt lt') ⟨_, Heap.get?_push_size _ rfl, rfl, rfl⟩ (ht.push _) fun b hb => ?_)
  rw [Heap.size_push]
  rcases (show b = s.heap.objs.size ∨ b = t by simpa using hb) with z | z
  · rw [z]; exact Nat.lt_succ_self _
  · rw [z]; exact Nat.lt_succ_of_lt lt'
theorem tup_kept {o' : Obj} {g : Heap} (hk : ∀ b o, b ∉ [s.heap.objs.size] → (s.heap.push o').get? b = some o → g.get? b = some o) : ∀ b o, s.heap.get? b = some o → g.get? b = some o := fun b o e => hk b o (fun hm => by
  have z : b = s.heap.objs.size := by simpa using hm
  have := Heap.lt_size e
  rw [z] at this
  exact Nat.lt_irrefl _ this) (Heap.get?_push_of_some _ e)
theorem max_tup {Q : Value → Shared → Prop} (hh : A.handled = none) (ht : s.heap.IsTuple t us.toArray) (hi : IntsAre us ns) (ne : 0 < ns.length)
    (k : ∀ g tk M t', (∀ b o, s.heap.get? b = some o → g.get? b = some o) → M ∈ ns → (∀ a, a ∈ ns → a ≤ M) → Q (.int M t') { s with heap := g, toks := tk }) : wpAny (model prog w) A (call (.builtin "max") [.ref t]) Q E s := by
  obtain ⟨xs, e⟩ := hi.allInts.items
  have hn : numsOf (intItems xs).toList = ns := by rw [← e]; exact hi.numsOf
  rw [nums_intItems] at hn
  subst hn
  rw [e] at ht
  have sz0 : 0 < xs.size := by simpa using ne
  have ht' : s.heap.IsTuple t ((intItems xs).toList).toArray := by simpa using ht
  refine call_max_walk (iter_tup ht' fun n1 hit htp hfp => ?_)
  refine ⟨_, _, _, _, _, _, _, rfl, Walks.tuple (A := A.in1) hh _ t n1 _, ⟨hit, htp⟩, hfp, by simpa [intItems] using sz0, CmpOf.ints_gt (numAt xs) (fun _ _ => by simpa using intItems_at), fun v g tk hP hk => ?_⟩
  obtain ⟨tt, rfl⟩ := intItems_at (by simpa [intItems] using hP)
  obtain ⟨h1, h2⟩ := argBest_gt (numAt xs) (xs.size - 1)
  refine k g tk _ tt (tup_kept hk) ?_ fun a ha => ?_
  · have h1' : argBest (fun i j => decide (numAt xs j < numAt xs i)) (xs.size - 1) ≤ xs.size - 1 := h1
    rw [numAt_eq]; exact PySem.getD_mem (by rw [List.length_map, Array.length_toList]; omega)
  · obtain ⟨j, hj, rfl⟩ := mem_getD ha
    rw [List.length_map, Array.length_toList] at hj
    rw [← numAt_eq]; exact h2 j (by omega)
theorem min_tup {Q : Value → Shared → Prop} (hh : A.handled = none) (ht : s.heap.IsTuple t us.toArray) (hi : IntsAre us ns) (ne : 0 < ns.length)
    (k : ∀ g tk M t', (∀ b o, s.heap.get? b = some o → g.get? b = some o) → M ∈ ns → (∀ a, a ∈ ns → M ≤ a) → Q (.int M t') { s with heap := g, toks := tk }) : wpAny (model prog w) A (call (.builtin "min") [.ref t]) Q E s := by
  obtain ⟨xs, e⟩ := hi.allInts.items
  have hn : numsOf (intItems xs).toList = ns := by rw [← e]; exact hi.numsOf
  rw [nums_intItems] at hn
  subst hn
  rw [e] at ht
  have sz0 : 0 < xs.size := by simpa using ne
  have ht' : s.heap.IsTuple t ((intItems xs).toList).toArray := by simpa using ht
  refine call_min_walk (iter_tup ht' fun n1 hit htp hfp => ?_)
  refine ⟨_, _, _, _, _, _, _, rfl, Walks.tuple (A := A.in1) hh _ t n1 _, ⟨hit, htp⟩, hfp, by simpa [intItems] using sz0, CmpOf.ints_lt (numAt xs) (fun _ _ => by simpa using intItems_at), fun v g tk hP hk => ?_⟩
  obtain ⟨tt, rfl⟩ := intItems_at (by simpa [intItems] using hP)
  obtain ⟨h1, h2⟩ := argBest_lt (numAt xs) (xs.size - 1)
  refine k g tk _ tt (tup_kept hk) ?_ fun a ha => ?_
  · have h1' : argBest (fun i j => decide (numAt xs i < numAt xs j)) (xs.size - 1) ≤ xs.size - 1 := h1
    rw [numAt_eq]; exact PySem.getD_mem (by rw [List.length_map, Array.length_toList]; omega)
  · obtain ⟨j, hj, rfl⟩ := mem_getD ha
    rw [List.length_map, Array.length_toList] at hj
    rw [← numAt_eq]; exact h2 j (by omega)
end
end GEn
end PySem
namespace G
open PySem L2 PyProof.Rows
section
variable {X : Cx} {e : Expr} {p : Bool} {ρ ρ1 : Rho} {pos pp : Pos} {ns : List Int}
def rSortT (K : PySem.W.Frag) : List V → Hp → VK → Prop := fun vs H Q => ∃ (a : Addr) (ns : List Int), vs = [V.ref a] ∧ SqT K H a (ns.map V.int) ∧ ∀ (p : Addr), H p = none → Q (.ref p) (upd H p (.lst (ns.mergeSort.map V.int)))
theorem cr_sortT : CallR X (.builtin "sorted") (rSortT X.K) := by
  intro pins s σ H vs us Q I r h
  obtain ⟨a, ns, rfl, hs, q⟩ := h
  obtain ⟨its, rv, hl, hz⟩ := I.tuple hs
  rw [Vals.ref1 r]
  have hi := rv.ints
  refine PySem.GEn.sorted_tup SrtO.swo_int hl (by rw [← rv.length]; exact hz) (fun h2 _ _ _ _ => SrtO.ints_sortable hi h2) fun out h1 h2 => ?_
  obtain ⟨k1, k2, k3⟩ := SrtO.ints_out hi h1 h2
  have eq : out.map SrtO.iv = ns.mergeSort := sort_ints k2 k3
  rw [eq] at k1
  obtain ⟨ep, he'⟩ := PyProof.Rows.sortedAll_at s.heap its out.toArray
  have few : (ns.mergeSort.map V.int).length ≤ sizeLine := by
    rw [List.length_map, List.length_mergeSort]
    rw [List.length_map] at hz
    exact hz
  exact ⟨.ref _, upd H (s.heap.objs.size + 1) (.lst (ns.mergeSort.map V.int)), I.laid (t' := s.toks) (fun _ _ => PyProof.Rows.sortedAll_old) (Nat.le_succ _) ⟨few, out, ep, vals_of_ints k1, he'⟩, rfl, q _ (I.hok.fresh (Nat.le_succ _))⟩
def rMaxT (K : PySem.W.Frag) : List V → Hp → VK → Prop := fun vs H Q => ∃ (a : Addr) (ns : List Int), vs = [V.ref a] ∧ SqT K H a (ns.map V.int) ∧ 0 < ns.length ∧ ∀ m, m ∈ ns → (∀ y, y ∈ ns → y ≤ m) → Q (.int m) H
def rMinT (K : PySem.W.Frag) : List V → Hp → VK → Prop := fun vs H Q => ∃ (a : Addr) (ns : List Int), vs = [V.ref a] ∧ SqT K H a (ns.map V.int) ∧ 0 < ns.length ∧ ∀ m, m ∈ ns → (∀ y, y ∈ ns → m ≤ y) → Q (.int m) H
theorem cr_maxT (hc : X.calm = true) : CallR X (.builtin "max") (rMaxT X.K) := by
  intro pins s σ H vs us Q I r h
  obtain ⟨a, ns, rfl, hs, hne, q⟩ := h
  obtain ⟨its, rv, hl, _⟩ := I.tuple hs
  rw [Vals.ref1 r]
  exact PySem.GEn.max_tup (I.ok.hd hc) hl rv.ints hne fun h' tk m t' hk h1 h2 => ⟨.int _, H, I.kept hk, ⟨_, rfl⟩, q m h1 h2⟩
theorem cr_minT (hc : X.calm = true) : CallR X (.builtin "min") (rMinT X.K) := by
  intro pins s σ H vs us Q I r h
  obtain ⟨a, ns, rfl, hs, hne, q⟩ := h
  obtain ⟨its, rv, hl, _⟩ := I.tuple hs
  rw [Vals.ref1 r]
  exact PySem.GEn.min_tup (I.ok.hd hc) hl rv.ints hne fun h' tk m t' hk h1 h2 => ⟨.int _, H, I.kept hk, ⟨_, rfl⟩, q m h1 h2⟩
theorem en_sortT (hm : X.mg "sorted" = none) (ha : EV X e p ρ (.tup (ns.map D.int)) ρ1) (hg : Gl X "sorted" := by rfl) (he : starEach [e] X.env = (false, eval e X.env) :: starEach [] X.env := by rfl) : EN X (.Call (.Name "sorted" pp) [e] [] pos) (p && true) ρ (ns.mergeSort.map D.int) ρ1 :=
  PE.imp (pe_callB cr_sortT hg hm (by decide +kernel) (ea_cons ha ea_nil he) (by decide) (by decide) he rfl) fun σ H Q ⟨w, B, R, k⟩ => ⟨w, B, R, fun B1 H1 vs R1 s1 r1 => by
    cases r1 with
    | cons r rr =>
      cases rr
      cases r with
      | tup hb r =>
        rw [r.ints] at hb
        refine ⟨_, ns, rfl, SqT.of (R1.ext _ _ hb), fun t ht => ?_⟩
        exact k B1 _ t _ (R1.grow (Grow.make R1.ext ht)) (s1.add (Grow.make R1.ext ht)) (s1.free ht) (Fresh.of R1 ht) upd_same (Reps.ofInts _)⟩
theorem max_of {ns : List Int} {m m' : Int} (h : m ∈ ns) (h1 : ∀ y ∈ ns, y ≤ m) (h' : m' ∈ ns) (h2 : ∀ y ∈ ns, y ≤ m') : m = m' := Int.le_antisymm (h2 m h) (h1 m' h')
theorem min_of {ns : List Int} {m m' : Int} (h : m ∈ ns) (h1 : ∀ y ∈ ns, m ≤ y) (h' : m' ∈ ns) (h2 : ∀ y ∈ ns, m' ≤ y) : m = m' := Int.le_antisymm (h1 m' h') (h2 m h)
theorem ev_maxT {m : Int} (hc : X.calm = true) (hm : X.mg "max" = none) (ha : EV X e p ρ (.tup (ns.map D.int)) ρ1) (h1 : m ∈ ns) (h2 : ∀ y ∈ ns, y ≤ m) (hg : Gl X "max" := by rfl) (he : starEach [e] X.env = (false, eval e X.env) :: starEach [] X.env := by rfl) : EV X (.Call (.Name "max" pp) [e] [] pos) (p && true) ρ (.int m) ρ1 :=
  ev_callB (cr_maxT hc) (fun B H vs Q e r k => by
    cases r with
    | cons r rr =>
      cases rr
      cases r with
      | tup hb r =>
        rw [r.ints] at hb
        refine ⟨_, ns, rfl, SqT.of (e _ _ hb), List.length_pos_of_mem h1, fun m' h3 h4 => ?_⟩
        rw [max_of h3 h4 h1 h2]
        exact k B H _ (Grow.refl e) (.int _)) hm (by decide +kernel) (ea_cons ha ea_nil he) hg (by decide) (by decide) he rfl
theorem ev_minT {m : Int} (hc : X.calm = true) (hm : X.mg "min" = none) (ha : EV X e p ρ (.tup (ns.map D.int)) ρ1) (h1 : m ∈ ns) (h2 : ∀ y ∈ ns, m ≤ y) (hg : Gl X "min" := by rfl) (he : starEach [e] X.env = (false, eval e X.env) :: starEach [] X.env := by rfl) : EV X (.Call (.Name "min" pp) [e] [] pos) (p && true) ρ (.int m) ρ1 :=
  ev_callB (cr_minT hc) (fun B H vs Q e r k => by
    cases r with
    | cons r rr =>
      cases rr
      cases r with
      | tup hb r =>
        rw [r.ints] at hb
        refine ⟨_, ns, rfl, SqT.of (e _ _ hb), List.length_pos_of_mem h1, fun m' h3 h4 => ?_⟩
        rw [min_of h3 h4 h1 h2]
        exact k B H _ (Grow.refl e) (.int _)) hm (by decide +kernel) (ea_cons ha ea_nil he) hg (by decide) (by decide) he rfl
end
end G

set_option Elab.async false
set_option maxRecDepth 100000
set_option maxHeartbeats 2000000
set_option linter.all false
/-! G13: keyword calls that may raise, stores of such, try, chains of three, membership. -/
namespace G
open PySem L2 PyProof.Rows
/-! ### defs with keyword-only parameters -/
section
variable {K : PySem.W.Frag} {x qual : Str} {params : Arguments} {body : List Stmt} {scope : Scope} {kws : List (Str × V)} {f : Addr} {fd : FuncData} {ps ks : List Str} {n : Nat}
theorem kbn0 (F : FunD K x qual params body scope [] kws f fd)
    (h : ∀ (kV doc pm : Value) (an : Option Addr) (cdv ct : Value) (us ws : List Value), us.length = n → ws.length = ks.length → bindArgs (PySem.W.fnOf x qual params body scope .none kV doc pm an cdv ct) ⟨us, ks.zip ws⟩ = pure (ps.zip (us ++ ws))) : KBn K fd ps n ks (· ++ ·) (· ++ ·) := by
  obtain ⟨oc, od, dV, kV, doc, pm, an, cdv, ct, osl, rfl, lk, hcd, hD, hK⟩ := F.ex
  rcases hD with ⟨_, rfl⟩ | ⟨e, _⟩
  · exact ⟨fun s us ws _ l1 l2 => .of_eq (h kV doc pm an cdv ct us ws l1 l2), fun r1 r2 => r1.append r2⟩
  · exact absurd rfl e
end
section
variable {X : Cx} {W : WX} {a b c e : Expr} {es : List Expr} {ρ ρ1 ρ2 : Rho} {P : D → Rho → Prop} {PX : Value → Option (List (Str × D)) → Rho → Prop} {PB : Bool → Rho → Prop} {pos : Pos} {DD : DEnds}
section
variable {k n : Nat} {f : Addr} {fd : FuncData} {ps ks : List Str} {x : Str} {pp : Pos} {C : CPX} {kws : List Keyword} {gl : List Value → List Value → List Value} {p q : Bool} {ds dz : List D}
abbrev EK (X : Cx) (kws : List Keyword) (p : Bool) (ρ : Rho) (ds : List D) (ρ' : Rho) : Prop := PK X kws (tEA X.K p ρ ds ρ')
theorem ek_nil : EK X [] true ρ [] ρ := ⟨fun pos pins s σ H Q I ⟨w, B, R, kk⟩ => pk_nil.run pos pins s σ H Q I (kk B H [] R (Stp.refl R.ext) .nil)⟩
theorem ek_cons {nm : Option Str} {kpos : Pos} {d : D} (ha : EV X e p ρ d ρ1) (hr : EK X kws q ρ1 ds ρ2) : EK X (⟨nm, e, kpos⟩ :: kws) (p && q) ρ (d :: ds) ρ2 :=
  ⟨fun pos pins s σ H Q I ⟨w, B, R, kk⟩ => (pk_cons ha hr).run pos pins s σ H Q I ⟨w, B, R, fun B1 H1 v R1 s1 r1 => ⟨w, B1, R1, fun B2 H2 vs R2 s2 r2 => kk B2 H2 (v :: vs) R2 (s1.trans s2) (.cons (r1.mono s2.b) r2)⟩⟩⟩
theorem sub_run {E : L2.St → XK} {sp : Sp} {CX : CXT} {pins : List (Addr × Obj)} {σ : L2.St} {H : Hp} {s : Shared} {Q : VK} {us ws : List Value} {vs zs : List V} (F : FnOk X.prog X.w X.K X.mg X.base CX k f fd ps sp) (hr : Room k X.A) (hb : KBn X.K fd ps n ks gl (· ++ ·)) (hx : PassesAt CX X σ (E σ))
    (I : Inv X pins σ H s) (r : Vals vs us) (rz : Vals zs ws) (l1 : vs.length = n) (l2 : zs.length = ks.length) (h : sp (vs ++ zs) H Q (E σ)) : wpAny (model X.prog X.w) X.A (call (.ref f) us (ks.zip ws)) (EP X pins σ Q) X.xe s := by
  have bd := hb.to s us ws I.kIn (by rw [← r.length]; exact l1) (by rw [← rz.length]; exact l2)
  refine wpAny_call (codeAny_mono (F.run X.A X.stack s H _ (gl us ws) (vs ++ zs) Q (E σ) hr I.env0 bd (hb.rel r rz) h) fun res s2 hq => ?_)
  match res, hq with
  | .error e, hq => exact hx pins H s e s2 I hq
  | .ok (.ret _), hq => exact I.after hq
/-- f(e, .., k = v) that may raise -/
theorem qe_callK (F : FnOk X.prog X.w X.K X.mg X.base (L2.CX X.prog X.w) k f fd ps (spPX X.K C)) (hr : Room k X.A) (hm : X.mg x = some (.ref f)) (hk : PySem.W.keepIn X.K (.ref f) = true) (hb : KBn X.K fd ps n ks gl (· ++ ·)) (tk : Takes X W)
    (ha : EA X (e :: es) p ρ ds ρ1) (hkw : EK X kws q ρ1 dz ρ2) (hC : C (ds ++ dz) (fun d => P d ρ2) (fun cls pay => PX cls pay ρ2)) (l1 : ds.length = n) (l2 : dz.length = ks.length) (hall : (backToKw pos (keywordEach kws X.env)).all (·.1.isSome) = true := by rfl) (hks : (backToKw pos (keywordEach kws X.env)).filterMap (·.1) = ks := by rfl)
    (hg : Gl X x := by rfl) (hdb : (x == ("__debug__" : Str)) = false := by decide) (he : starEach (e :: es) X.env = (false, eval e X.env) :: starEach es X.env := by rfl)
    (hpl : ((backTo pos (starEach (e :: es) X.env)).any (·.1) || (backToKw pos (keywordEach kws X.env)).any (·.1.isNone)) = false := by rfl) :
    QE X W (.Call (.Name x pp) (e :: es) kws pos) ρ P PX := by
  refine ⟨fun pins s σ H Q I ⟨w, B, R, kk, kx⟩ => wpAny_Call_Name_kw (ld_glob (X := X) I hg hm ?_ hdb)⟩
  refine PySem.W.callWith_KW (h₀ := X.base) I.ok.mod.kin hk hall (thn (ha.run pos pins s σ H (fun vs H1 => ∃ B1, SR X.K w B1 H1 σ ρ1 ∧ Stp p ρ B H ρ1 B1 H1 ∧ Reps X.K B1 vs ds) I ⟨w, B, R, fun B1 H1 vs R1 s1 r1 => ⟨B1, R1, s1, r1⟩⟩) fun us s1 ⟨vs, H1, I1, r, B1, R1, st1, r1⟩ => ?_) hpl he
  refine thn (hkw.run pos pins s1 σ H1 (fun zs H2 => ∃ B2, SR X.K w B2 H2 σ ρ2 ∧ Stp q ρ1 B1 H1 ρ2 B2 H2 ∧ Reps X.K B2 zs dz) I1 ⟨w, B1, R1, fun B2 H2 zs R2 s2 r2 => ⟨B2, R2, s2, r2⟩⟩) fun ws s2 ⟨zs, H2, I2, rz, B2, R2, st2, r2⟩ => ⟨I2.kIn, ?_⟩
  rw [hks]
  refine sub_run (E := L2.WE W) (sp := spPX X.K C) F hr hb (passAt tk σ) I2 r rz (by rw [r1.len]; exact l1) (by rw [r2.len]; exact l2) ?_
  exact ⟨B2, ds ++ dz, _, _, hC, R2.ext, (r1.mono st2.b).append r2, fun B' H' v d g hd rv => kk B' H' v d ρ2 hd (R2.grow g) (((st1.trans st2).add g).left fun z => nomatch z) rv, fun B' H' cls pay d g hx po => kx B' H' cls pay d ρ2 hx (R2.grow g) ((st1.b.trans st2.b).trans g.b) po⟩
/-- f(e, ..) that may raise, defaults filled in -/
theorem qe_callD {dvs : List V} {dfs : List Value} {dd : List D} (F : FnOk X.prog X.w X.K X.mg X.base (L2.CX X.prog X.w) k f fd ps (spPX X.K C)) (hr : Room k X.A) (hm : X.mg x = some (.ref f)) (hk : PySem.W.keepIn X.K (.ref f) = true) (hv : Vals dvs dfs) (hb : Binds X.K fd ps dfs) (hdd : ∀ B : Hp, Reps X.K B dvs dd) (tk : Takes X W)
    (ha : EA X (e :: es) p ρ ds ρ1) (hC : C (ds ++ dd) (fun d => P d ρ1) (fun cls pay => PX cls pay ρ1)) (hlen : (ds ++ dd).length = ps.length)
    (hg : Gl X x := by rfl) (hdb : (x == ("__debug__" : Str)) = false := by decide) (he : starEach (e :: es) X.env = (false, eval e X.env) :: starEach es X.env := by rfl) (hpl : (backTo pos (starEach es X.env)).any (·.1) = false := by rfl) :
    QE X W (.Call (.Name x pp) (e :: es) [] pos) ρ P PX := by
  refine ⟨fun pins s σ H Q I ⟨w, B, R, kk, kx⟩ => wpAny_Call_Name_kw (ld_glob (X := X) I hg hm ?_ hdb)⟩
  refine PySem.W.callWith_K (h₀ := X.base) I.ok.mod.kin hk (thn (ha.run pos pins s σ H (fun vs H1 => ∃ B1, SR X.K w B1 H1 σ ρ1 ∧ Stp p ρ B H ρ1 B1 H1 ∧ Reps X.K B1 vs ds) I ⟨w, B, R, fun B1 H1 vs R1 s1 r1 => ⟨B1, R1, s1, r1⟩⟩) fun us s1 ⟨vs, H1, I1, r, B1, R1, st1, r1⟩ => ⟨I1.kIn, ?_⟩) he hpl
  have rl : Vals (vs ++ dvs) (us ++ dfs) := r.append hv
  have ll : (us ++ dfs).length = ps.length := by
    rw [← rl.length, List.length_append, r1.len, (hdd B1).len, ← List.length_append]
    exact hlen
  have h : spPX X.K C (vs ++ dvs) H1 Q (L2.WE W σ) := ⟨B1, ds ++ dd, _, _, hC, R1.ext, r1.append (hdd B1), fun B' H' v d g hd rv => kk B' H' v d ρ1 hd (R1.grow g) ((st1.add g).left fun z => nomatch z) rv, fun B' H' cls pay d g hx po => kx B' H' cls pay d ρ1 hx (R1.grow g) (st1.b.trans g.b) po⟩
  refine wpAny_call (codeAny_mono (F.run X.A X.stack s1 H1 ⟨us, []⟩ (us ++ dfs) (vs ++ dvs) Q _ hr I1.env0 (hb s1 us I1.kIn ll) rl h) fun res s2 hq => ?_)
  match res, hq with
  | .error e, hq => exact passAt tk σ pins H1 s1 e s2 I1 hq
  | .ok (.ret _), hq => exact I1.after hq
end
/-! ### statements -/
section
variable {x : Str} {pos' : Pos}
theorem s_asgQ {i : Nat} (h : QE X DD.W e ρ P PX) (nd : X.N.Nodup) (k : ∀ d r, P d r → DD.nx (r.set i (.fr d))) (kx : ∀ cls pay r, PX cls pay r → DD.ex cls pay r) (hN : X.N[i]? = some x := by rfl) (hx : Loc X.env.scope x := by first | exact Or.inl rfl | exact Or.inr rfl) (hs : swapsWith e (some (.Name x pos')) pos.line X.env = pure false := by rfl)
    (hf : X.fn x = true ∨ X.env.scope.names.lookup x = some .local := by first | exact .inl rfl | exact .inr rfl) : S1 X (.Assign [.Name x pos'] e pos) ρ DD :=
  PS.imp (ps_set nd hN hx h hs hf) fun E σ H ⟨w, B, R, hl, g⟩ => ⟨w, B, R, fun B' H' v d r hp R' s rv => g.nx _ _ B' H' (k d r hp) (R'.putF (slot_lt (n := 0) hN hl) rv) s.b (by rw [List.length_set]; exact hl), fun B' H' cls pay d r hp R' s po => g.ex cls pay r σ B' H' d (kx cls pay r hp) R' s hl po⟩
theorem s_retQ (h : QE X DD.W e ρ P PX) (k : ∀ d r, P d r → DD.rt d r) (kx : ∀ cls pay r, PX cls pay r → DD.ex cls pay r) : S1 X (.Return (some e) pos) ρ DD :=
  PS.imp (ps_ret h) fun E σ H ⟨w, B, R, hl, g⟩ => ⟨w, B, R, fun B' H' v d r hp R' s rv => g.rt d r σ B' H' v (k d r hp) R' rv, fun B' H' cls pay d r hp R' s po => g.ex cls pay r σ B' H' d (kx cls pay r hp) R' s hl po⟩
theorem SR.drop {K : PySem.W.Frag} {w : Wd} {B H : Hp} {σ : L2.St} {r : Rho} (R : SR K w B H σ r) (i : Nat) : SR K w B H (σ.set i none) (r.set i .un) := R.weak (by rw [List.length_set]) (by rw [List.length_set]) fun j s hs => by
  rcases set_cases hs with ⟨_, e, _⟩ | ⟨n, h⟩
  · exact .inl e
  · exact .inr ⟨h, by rw [List.getElem?_set_ne n]⟩
/-- what the name of a caught error stands for -/
def excD (a : Addr) : Option Addr → Option (List (Str × D)) → D
  | some dx, some fs => .exc a dx fs
  | _, _ => .vl (.ref a)
theorem excD_rep {K : PySem.W.Frag} {B : Hp} {a : Addr} {pay : Option (List (Str × D))} {d : Option Addr} (h : PayOk K B pay d) : Rep K B (.ref a) (excD a d pay) := by
  cases pay with
  | none =>
    cases d with
    | none => exact .vl _
    | some _ => cases h
  | some fs =>
    obtain ⟨dd, vs, rfl, h1, h2⟩ := h
    exact .exc h1 h2
/-- try: body except x as n: suite -/
theorem s_try {n : Str} {c : Value} {i : Nat} {body suite : List Stmt} {b₀ : Stmt} {np hpos : Pos} {TX : Value → Option (List (Str × D)) → Rho → Prop} (nd : X.N.Nodup) (hi : X.N[i]? = some n) (hc : Names X x c) (tk : Takes X DD.W)
    (hb : ∀ (W : WX) (pn : List (Addr × Obj)) (xe : Value → Shared → Prop), Takes (X.tr pn xe) W → PassesOwn (model X.prog X.w) X.A X.env xe → ST (X.tr pn xe) body ρ { DD with W := W, ex := TX })
    (hx : ∀ cls pay r, TX cls pay r → ∃ b, PySem.W.exmOne X.K cls c = some b ∧ (b = false → DD.ex cls pay r))
    (hsu : ∀ (a : Addr) (oe : Obj) (cls : Value) (d : Option Addr) (pn : List (Addr × Obj)) pay r, Zc cls d oe → (∃ vs, oe.data = .fields vs) → TX cls pay r → PySem.W.exmOne X.K cls c = some true → (∃ B, PayOk X.K B pay d) → ST (X.suite a ((a, oe) :: pn)) (b₀ :: suite) (r.set i (.fr (excD a d pay))) { nx := fun r => DD.nx (r.set i .un), rt := fun d r => DD.rt d (r.set i .un), bk := fun r => DD.bk (r.set i .un), ct := fun r => DD.ct (r.set i .un) })
    (hs : X.stack = X.env :: X.outer := by rfl) (hf : X.env.frame = some X.env.locals := by rfl) (hln : X.env.kindOf n = some .local := by rfl): S1 X (.Try body [.ExceptHandler (some (.Name x np)) (some n) (b₀ :: suite) hpos] [] [] pos) ρ DD := by
  refine PS.imp (ps_try_as (tb := fun W => tST X.K X.N.length ρ { DD with W := W, ex := TX })
    (ts := fun a cls d E σ H => ∃ q : { q : Option (List (Str × D)) × Rho // TX cls q.1 q.2 ∧ PySem.W.exmOne X.K cls c = some true ∧ (∃ B, PayOk X.K B q.1 d) },
      tST X.K X.N.length (q.1.2.set i (.fr (excD a d q.1.1))) { nx := fun r => DD.nx (r.set i .un), rt := fun d r => DD.rt d (r.set i .un), bk := fun r => DD.bk (r.set i .un), ct := fun r => DD.ct (r.set i .un) } E σ H) hs hf nd hi hln hc tk hb ?_) ?_
  · intro a oe cls d pn hz hf
    exact PSs.ex fun q => hsu a oe cls d pn q.1.1 q.1.2 hz hf q.2.1 q.2.2.1 q.2.2.2
  · intro E σ H ⟨w, B, R, hl, g⟩
    refine ⟨w, B, R, hl, g.nx, g.rt, g.bk, g.ct, fun cls pay ρ' σ' B' H' d hT R' s l po => ?_⟩
    obtain ⟨b, hb1, hb2⟩ := hx cls pay ρ' hT
    refine ⟨b, hb1, fun e a _ => ?_, fun e => g.ex cls pay ρ' σ' B' H' d (hb2 e) R' s l po⟩
    subst e
    have hi' : i < σ'.length := slot_lt (n := 0) hi l
    refine ⟨⟨(pay, ρ'), hT, hb1, B', po⟩, w, B', R'.putF hi' (excD_rep po), by rw [List.length_set]; exact l, ?_⟩
    exact ⟨fun ρ2 σ2 B2 H2 h R2 e2 l2 => g.nx _ _ B2 H2 h (R2.drop i) (s.trans e2) (by rw [List.length_set]; exact l2), fun d ρ2 σ2 B2 H2 v h R2 rv => g.rt d _ _ B2 H2 v h (R2.drop i) rv, fun ρ2 σ2 B2 H2 h R2 e2 l2 => g.bk _ _ B2 H2 h (R2.drop i) (s.trans e2) (by rw [List.length_set]; exact l2),
      fun ρ2 σ2 B2 H2 h R2 e2 l2 => g.ct _ _ B2 H2 h (R2.drop i) (s.trans e2) (by rw [List.length_set]; exact l2), fun _ _ _ _ _ _ _ z => z.elim⟩
end
end
end G

set_option Elab.async false
set_option maxRecDepth 100000
set_option maxHeartbeats 2000000
set_option linter.all false
/-! G14: rows of own lists; chains of three; membership. -/
namespace G
open PySem L2 PyProof.Rows
section
variable {X : Cx} {a b c e u : Expr} {p : Bool} {ρ ρ1 ρ2 : Rho} {pos : Pos} {x y z t : D} {ns : List Int}
/-! ### chains of three -/
theorem et_chain3 {o1 o2 o3 : CmpOp} {r1 r2 r3 : R2} {k1 k2 k3 : Bool} (h1 : OpR X (compareOp o1) r1) (h2 : OpR X (compareOp o2) r2) (h3 : OpR X (compareOp o3) r3) (v1 : VOp X.K r1 x y (.bl k1)) (v2 : VOp X.K r2 y z (.bl k2)) (v3 : VOp X.K r3 z t (.bl k3))
    (ha : EV X a true ρ x ρ) (hb : EV X b true ρ y ρ) (hc : EV X c true ρ z ρ) (hu : EV X u true ρ t ρ) (hm : lastMarks [o1, o2, o3] [b, c, u] = false := by with_unfolding_all rfl) : ET X (.Compare a [o1, o2, o3] [b, c, u] pos) true ρ (k1 && k2 && k3) ρ := by
  refine ⟨fun pins s σ H Q I ⟨w, B, R, kk⟩ => isTrue_chain ?_ hm⟩
  have go : ∀ {e : Expr} {d : D} (he : EV X e true ρ d ρ) {s : Shared} {H B : Hp} (R : SR X.K w B H σ ρ) (I : Inv X pins σ H s) {T : Value → Shared → Prop}, (∀ u s1 v H1 B1, Inv X pins σ H1 s1 → RelV v u → SR X.K w B1 H1 σ ρ → Grow B H B1 H1 → Rep X.K B1 v d → T u s1) →
      wpAny (model X.prog X.w) X.A (eval e X.env) T X.xe s := fun {e d} he {s H B} R I {T} k => thn (he.run pins s σ H (fun v H1 => ∃ B1, SR X.K w B1 H1 σ ρ ∧ Grow B H B1 H1 ∧ Rep X.K B1 v d) I ⟨w, B, R, fun B1 H1 v R1 s1 r1 => ⟨B1, R1, s1.g rfl, r1⟩⟩) fun u s1 ⟨v, H1, I1, rv, B1, R1, g1, r1⟩ => k u s1 v H1 B1 I1 rv R1 g1 r1
  have cm : ∀ {o : CmpOp} {r : R2} {d d' : D} {k : Bool} (ho : OpR X (compareOp o) r) (vo : VOp X.K r d d' (.bl k)) {s : Shared} {H B : Hp} {v v' : V} {q q' : Value} (R : SR X.K w B H σ ρ) (I : Inv X pins σ H s) (rv : RelV v q) (rv' : RelV v' q') (r1 : Rep X.K B v d) (r2 : Rep X.K B v' d') {T : Bool → Shared → Prop},
      (∀ s1 H1 B1, Inv X pins σ H1 s1 → SR X.K w B1 H1 σ ρ → Grow B H B1 H1 → T k s1) → wpAny (model X.prog X.w) X.A (compareOp o q q') (fun c s2 => wpAny (model X.prog X.w) X.A (truthy c) T X.xe s2) X.xe s :=
    fun {o r d d' k} ho vo {s H B v v' q q'} R I rv rv' r1 r2 {T} kt => thn (ho pins s σ H v v' q q' (fun z H1 => ∃ B1, z = .bl k ∧ SR X.K w B1 H1 σ ρ ∧ Grow B H B1 H1) I rv rv' (vo B H v v' _ R.ext r1 r2 fun B1 H1 z g rz => by
      cases rz
      exact ⟨B1, rfl, R.grow g, g⟩)) fun c s1 ⟨z, H1, I1, rz, B1, ez, R1, g1⟩ => by
        subst ez
        cases rz
        exact wpAny_truthy_bool (kt s1 H1 B1 I1 R1 g1)
  refine go ha R I fun q1 s1 w1 H1 B1 I1 e1 R1 g1 r1 => test_link (go hb R1 I1 fun q2 s2 w2 H2 B2 I2 e2 R2 g2 r2 => cm h1 v1 R2 I2 e1 e2 (r1.mono g2.b) r2 fun s3 H3 B3 I3 R3 g3 => ?_)
  have G3 := (g1.trans g2).trans g3
  cases k1 with
  | false => exact ite_ff ⟨H3, I3, kk B3 H3 R3 (.ofGrow G3)⟩
  | true =>
    refine ite_tt (test_link (go hc R3 I3 fun q4 s4 w4 H4 B4 I4 e4 R4 g4 r4 => cm h2 v2 R4 I4 e2 e4 ((r2.mono g3.b).mono g4.b) r4 fun s5 H5 B5 I5 R5 g5 => ?_))
    have G5 := (G3.trans g4).trans g5
    cases k2 with
    | false => exact ite_ff ⟨H5, I5, kk B5 H5 R5 (.ofGrow G5)⟩
    | true =>
      refine ite_tt (test_last (go hu R5 I5 fun q6 s6 w6 H6 B6 I6 e6 R6 g6 r6 => cm h3 v3 R6 I6 e4 e6 ((r4.mono g5.b).mono g6.b) r6 fun s7 H7 B7 I7 R7 g7 => ?_))
      exact ⟨H7, I7, kk B7 H7 R7 (.ofGrow ((G5.trans g6).trans g7))⟩
/-! ### membership -/
theorem inV_ints (i : Int) (ns : List Int) : inV (.int i) (ns.map V.int) = decide (i ∈ ns) := by
  induction ns with
  | nil => rfl
  | cons n ns ih =>
    show (eqV (.int n) (.int i) || inV (.int i) (ns.map V.int)) = _
    rw [ih]
    show ((n == i) || decide (i ∈ ns)) = _
    by_cases e : n = i
    · subst e; simp
    · have e' : ¬ i = n := fun z => e z.symm
      simp [e, e']
theorem et_notInI {i : Int} (ha : EV X a p ρ (.int i) ρ1) (hb : EV X b p ρ1 (.tup (ns.map .int)) ρ2) (hm : behindInMarks .NotIn b = false := by first | rfl | exact nomark _) : ET X (.Compare a [.NotIn] [b] pos) (p && p) ρ (!decide (i ∈ ns)) ρ2 :=
  et_cmp op_notIn_seq (fun B H v u Q e rv ru k => by
    cases rv
    cases ru with
    | tup hB r =>
      rw [r.ints] at hB
      refine ⟨_, _, rfl, .inr (SqT.of (e _ _ hB)), rfl, by simp [flatV], ?_⟩
      rw [inV_ints]
      exact k B H _ (Grow.refl e) (.bl _)) ha hb hm

/-! ### rows -/
theorem SR.putR {K : PySem.W.Frag} {w : Wd} {B H : Hp} {σ : L2.St} {r : Rho} {i : Nat} {l : Addr} {as : List Addr} {dss : List (List D)} (R : SR K w B H σ r) (hl : i < σ.length) (f : ∀ b ∈ l :: as, Fresh w B r b) (h : OwnV K B H l (.rows as dss)) : SR K w B H (σ.set i (some (.ref l))) (r.set i (.ow l (.rows as dss))) := by
  refine R.put hl ⟨rfl, h⟩ (fun j t _ hj b hb => (f b hb).foot j t hj) (fun b hb => (f b hb).b) (fun c u z b hb => ?_) (fun _ _ z => nomatch z)
  cases z
  exact (f b hb).h0
/-- what a slot had as its own goes to nobody -/
theorem SR.orphan {K : PySem.W.Frag} {w : Wd} {B H : Hp} {σ : L2.St} {r : Rho} {i : Nat} {l : Addr} {v : W} (R : SR K w B H σ r) (h : r[i]? = some (.ow l v)) : SR K w B H σ (r.set i .un) ∧ ∀ b ∈ v.foot l, Fresh w B (r.set i .un) b := by
  refine ⟨R.weak rfl (by rw [List.length_set]) fun j s hs => ?_, fun b hb => ⟨R.own i l v h b hb, R.sep i _ h b hb, fun j s hs => ?_⟩⟩
  · rcases set_cases hs with ⟨_, e, _⟩ | ⟨_, hj⟩
    · exact .inl e
    · exact .inr ⟨hj, rfl⟩
  · rcases set_cases hs with ⟨_, e, _⟩ | ⟨n, hj⟩
    · subst e; simp [Slot.foot]
    · exact R.apart i j _ s n h hj b hb
/-- rows without an owner are frozen -/
theorem SR.ice {K : PySem.W.Frag} {w : Wd} {H : Hp} {σ : L2.St} {r : Rho} : ∀ (as : List Addr) (dss : List (List D)) (B : Hp), SR K w B H σ r → as.length = dss.length → as.Nodup → (∀ b ∈ as, Fresh w B r b) → (∀ (i : Nat) b ds, as[i]? = some b → dss[i]? = some ds → ∃ xs, H b = some (.lst xs) ∧ Reps K B xs ds) →
    ∃ B', Same B B' ∧ SR K w B' H σ r ∧ Reps K B' (as.map .ref) (dss.map .lst) ∧ ∀ c, c ∉ as → Fresh w B r c → Fresh w B' r c
  | [], [], B, R, _, _, _, _ => ⟨B, Same.refl B, R, .nil, fun _ _ f => f⟩
  | a :: as, ds :: dss, B, R, hl, nd, f, h => by
    obtain ⟨xs, hx, rx⟩ := h 0 a ds rfl rfl
    have fa := f a (by simp)
    have R1 := R.freeze fa hx
    have sm : Same B (upd B a (.lst xs)) := Grow.freezeB fa.b
    rw [List.nodup_cons] at nd
    have step : ∀ c, c ≠ a → Fresh w B r c → Fresh w (upd B a (.lst xs)) r c := fun c ne fc => ⟨fc.h0, by rw [upd_ne ne]; exact fc.b, fc.foot⟩
    obtain ⟨B', s', R', rr, fr⟩ := SR.ice as dss (upd B a (.lst xs)) R1 (by simpa using hl) nd.2 (fun b hb => step b (fun z => nd.1 (z ▸ hb)) (f b (by simp [hb]))) (fun i b ds hb hd => by
      obtain ⟨ys, hy, ry⟩ := h (i + 1) b ds (by simpa using hb) (by simpa using hd)
      exact ⟨ys, hy, ry.mono sm⟩)
    refine ⟨B', sm.trans s', R', .cons (.lst (s' _ _ upd_same) ((rx.mono sm).mono s')) rr, fun c hc fc => fr c (fun z => hc (by simp [z])) (step c (fun z => hc (by simp [z])) fc)⟩
  | [], _ :: _, _, _, hl, _, _, _ => by simp at hl
  | _ :: _, [], _, _, hl, _, _, _ => by simp at hl
theorem SR.iceR {K : PySem.W.Frag} {w : Wd} {B H : Hp} {σ : L2.St} {r : Rho} {i : Nat} {l : Addr} {as : List Addr} {dss : List (List D)} (R : SR K w B H σ r) (h : r[i]? = some (.ow l (.rows as dss))) : ∃ B', Same B B' ∧ SR K w B' H σ (r.set i (.fr (.lst (dss.map .lst)))) := by
  obtain ⟨e, hl, hlen, nd, hr⟩ := R.ok i _ h
  obtain ⟨R1, f⟩ := R.orphan h
  rw [List.nodup_cons] at nd
  obtain ⟨B1, s1, R2, rr, fr⟩ := R1.ice as dss B hlen nd.2 (fun b hb => f b (by simp [W.foot, hb])) hr
  have fl := fr l nd.1 (f l (by simp [W.foot]))
  have R3 := R2.freeze fl hl
  have s3 : Same B1 (upd B1 l (.lst (as.map .ref))) := Grow.freezeB fl.b
  have hi : i < σ.length := (List.getElem?_eq_some_iff.mp e).1
  refine ⟨_, s1.trans s3, ?_⟩
  have q := R3.putF hi (.lst upd_same (rr.mono s3))
  rw [List.set_set] at q
  have e2 : σ.set i (some (.ref l)) = σ := by
    apply List.ext_getElem?
    intro j
    by_cases n : i = j
    · subst n; rw [List.getElem?_set_self hi, e]
    · rw [List.getElem?_set_ne n]
  rw [e2] at q
  exact q
/-- from here on the rows are read alone -/
theorem st_iceR {ss : List Stmt} {DD : DEnds} {i : Nat} {l : Addr} {as : List Addr} {dss : List (List D)} (h : ρ[i]? = some (.ow l (.rows as dss))) (k : ST X ss (ρ.set i (.fr (.lst (dss.map .lst)))) DD) : ST X ss ρ DD := PSs.imp k fun E σ H ⟨w, B, R, hl, g⟩ => by
  obtain ⟨B', s', R'⟩ := R.iceR h
  exact ⟨w, B', R', hl, g.mono s'⟩
theorem st_iceL {ss : List Stmt} {DD : DEnds} {i : Nat} {l : Addr} {ds : List D} (h : ρ[i]? = some (.ow l (.l ds))) (k : ST X ss (ρ.set i (.fr (.lst ds))) DD) : ST X ss ρ DD := PSs.imp k fun E σ H ⟨w, B, R, hl, g⟩ => by
  obtain ⟨e, xs, hx, rx⟩ := R.ok i _ h
  obtain ⟨R1, f⟩ := R.orphan h
  have fl := f l (by simp [W.foot])
  have R3 := R1.freeze fl hx
  have s3 : Same B (upd B l (.lst xs)) := Grow.freezeB fl.b
  have hi : i < σ.length := (List.getElem?_eq_some_iff.mp e).1
  have q := R3.putF hi (.lst upd_same (rx.mono s3))
  rw [List.set_set] at q
  have e2 : σ.set i (some (.ref l)) = σ := by
    apply List.ext_getElem?
    intro j
    by_cases n : i = j
    · subst n; rw [List.getElem?_set_self hi, e]
    · rw [List.getElem?_set_ne n]
  rw [e2] at q
  exact ⟨w, _, q, hl, g.mono s3⟩
/-- rows[b][c] = e -/
theorem s_setR {d : D} {n : Nat} {kk : Int} {j : Nat} {x : Str} {px pb pos' : Pos} {l : Addr} {as : List Addr} {dss : List (List D)} {row : List D} {DD : DEnds} (i : Nat) (h : EV X e p ρ d ρ1) (hb : EV X b true ρ1 (.int (n : Int)) ρ1) (hc : EV X c true ρ1 (.int kk) ρ1) (hs : ρ1[i]? = some (.ow l (.rows as dss))) (hr : dss[n]? = some row) (hj : ixN row.length kk = some j)
    (k : DD.nx (ρ1.set i (.ow l (.rows as (dss.set n (row.set j d)))))) (hN : X.N[i]? = some x := by rfl)
    (hv : Vis X.env.scope x := by first | exact Or.inl rfl | exact Or.inr (Or.inl rfl) | exact Or.inr (Or.inr rfl)) (hd : (x == ("__debug__" : Str)) = false := by decide) (hcd : (x == ("__classdict__" : Str)) = false := by decide) (hpi : PlainIx b := by exact fun _ _ => rfl)
    (ha : ∀ v, assign (.Subscript (.Subscript (.Name x px) b pb) c pos') X.env v = (do
      let ov ← holding [v] (eval (.Subscript (.Name x px) b pb) X.env)
      let iv ← holding [v, ov] (eval c X.env)
      standAt pos'
      holding [v, ov, iv] (setItem ov iv v)
      release [v, ov, iv] []) := by intro _; rfl)
    (hsw : swapsWithSole [.Subscript (.Subscript (.Name x px) b pb) c pos'] e pos.line X.env = pure false := by rfl) (hw : swappedStores [.Subscript (.Subscript (.Name x px) b pb) c pos'] e X.env = pure none := by rfl) (h1 : (assignEach [.Subscript (.Subscript (.Name x px) b pb) c pos'] X.env).map (·.2) = [assign (.Subscript (.Subscript (.Name x px) b pb) c pos') X.env] := by rfl) :
    S1 X (.Assign [.Subscript (.Subscript (.Name x px) b pb) c pos'] e pos) ρ DD :=
  PS.imp (ps_asg h (pg_sub (pe_ix ix_list (pe_var hN hv hd hcd) hb hpi) hc set_list ha) hsw hw h1) fun E σ H ⟨w, B, R, hl, g⟩ => ⟨w, B, R, fun B1 H1 v R1 s1 r1 => by
    obtain ⟨e0, _⟩ := R1.ok i _ hs
    refine ⟨_, e0, w, B1, R1, fun B2 H2 v2 R2 s2 r2 => ?_⟩
    cases r2
    obtain ⟨_, hla, hlen, nd, hrow⟩ := R2.ok i _ hs
    have hn : n < as.length := by rw [hlen]; exact (List.getElem?_eq_some_iff.mp hr).1
    refine ⟨l, _, (n : Int), .ref as[n], rfl, rfl, SqL.of hla, atI_nat (by rw [List.getElem?_map, List.getElem?_eq_getElem hn]; rfl), w, B2, R2, fun B3 H3 v3 R3 s3 r3 => ?_⟩
    cases r3
    obtain ⟨_, hla, _, _, hrow⟩ := R3.ok i _ hs
    obtain ⟨xs, hx, rx⟩ := hrow n as[n] row (List.getElem?_eq_getElem hn) hr
    refine ⟨as[n], xs, kk, j, rfl, rfl, hx, by rw [rx.len]; exact hj, ?_⟩
    have mem : as[n] ∈ (W.rows as dss).foot l := by simp [W.foot]
    have sp := R3.sep i _ hs as[n] mem
    have sm := (s1.b.trans s2.b).trans s3.b
    refine g.nx _ σ B3 _ k (R3.write (s' := .ow l (.rows as (dss.set n (row.set j d)))) hs rfl (.inl ⟨l, _, _, rfl, rfl⟩) (Same.refl B3) (fun a o q => by rw [upd_ne (ne_of_none q sp)]; exact R3.ext a o q) (fun a o q => .inl q) (fun a o q ft => by rw [upd_ne (fun z => ft (by rw [z]; exact mem))]; exact q) (fun a q => ?_) ⟨(R3.ok i _ hs).1, ?_⟩) sm hl
    · by_cases e : a = as[n]
      · rw [e, upd_same]; simp
      · rw [upd_ne e]; exact q
    · have ne : l ≠ as[n] := fun z => by
        rw [List.nodup_cons] at nd
        exact nd.1 (z ▸ List.getElem_mem hn)
      refine ⟨by rw [upd_ne ne]; exact hla, by rw [List.length_set]; exact hlen, nd, fun i' b' ds' hb' hd' => ?_⟩
      by_cases e : n = i'
      · subst e
        rw [List.getElem?_eq_getElem hn] at hb'
        cases hb'
        rw [List.getElem?_set_self (by omega)] at hd'
        cases hd'
        exact ⟨_, upd_same, rx.set (r1.mono (s2.b.trans s3.b)) j⟩
      · rw [List.getElem?_set_ne e] at hd'
        obtain ⟨ys, hy, ry⟩ := hrow i' b' ds' hb' hd'
        refine ⟨ys, ?_, ry⟩
        rw [upd_ne]
        · exact hy
        · intro z
          rw [List.nodup_cons] at nd
          exact e ((List.getElem?_inj hn nd.2).mp (by rw [hb', z, List.getElem?_eq_getElem hn]))⟩
end
end G

set_option Elab.async false
set_option maxRecDepth 100000
set_option maxHeartbeats 2000000
set_option linter.all false
/-! G15: y = [[..] for ..]: rows of its own. -/
namespace G
open PySem L2 PyProof.Rows
theorem unR_at {ρ : Rho} : ∀ {vs : List Nat} {i : Nat}, (unR ρ vs)[i]? = if i ∈ vs then (ρ[i]?).map (fun _ => Slot.un) else ρ[i]?
  | [], i => by simp [unR]
  | v :: vs, i => by
    unfold unR
    by_cases e : v = i
    · subst e
      rw [if_pos (by simp)]
      by_cases hl : v < (unR ρ vs).length
      · rw [List.getElem?_set_self hl]
        rw [unR_len] at hl
        rw [List.getElem?_eq_getElem hl]; rfl
      · rw [List.getElem?_eq_none (by simpa using hl)]
        rw [unR_len] at hl
        rw [List.getElem?_eq_none (by omega)]; rfl
    · rw [List.getElem?_set_ne e, unR_at (vs := vs)]
      by_cases h : i ∈ vs
      · rw [if_pos h, if_pos (by simp [h])]
      · rw [if_neg h, if_neg (by simp [h]; exact fun z => e z.symm)]
theorem unR_idem {ρ : Rho} {vs : List Nat} : unR (unR ρ vs) vs = unR ρ vs := by
  apply List.ext_getElem?
  intro i
  rw [unR_at, unR_at]
  by_cases h : i ∈ vs
  · rw [if_pos h, if_pos h, Option.map_map]; rfl
  · rw [if_neg h, if_neg h]
section
variable {X : Cx} {tg e elt : Expr} {p : Bool} {ρ ρ1 : Rho} {pos : Pos} {ds : List D} {dss : List (List D)}
def tRows (K : PySem.W.Frag) (ρ ρ2 : Rho) (dss : List (List D)) : TE := fun σ H Q => ∃ w B, SR K w B H σ ρ ∧ ∀ B' H' a as, SR K w B' H' σ ρ2 → Same B B' → (∀ b ∈ a :: as, Fresh w B' ρ2 b) → OwnV K B' H' a (.rows as dss) → Q (.ref a) H'
theorem rows_ex {scope : Scope} {own : List (Str × Nat)} (hi : ITR X tg e p ρ ds ρ1) (hl : dss.length = ds.length) (hz : ds.length < 16777216) (hj : (own.map (·.2)).all (fun j => decide (j < ρ1.length)) = true)
    (hb : ∀ (i : Nat) d, ds[i]? = some d → ∃ (ρt ρe : Rho) (p2 : Bool) (dd : List D), dss[i]? = some dd ∧ unR ρe (own.map (·.2)) = unR ρ1 (own.map (·.2)) ∧ (∀ (s : Shared) (H : Hp) (C : Addr) (cl : List (Str × Addr)) (fp : List Addr), TGT (X.blk s H scope (compEnvC scope cl C X.env) fp) tg (own.map (·.2)) d (unR ρ1 (own.map (·.2))) ρt) ∧
      (∀ (s : Shared) (H : Hp) (C : Addr) (cl : List (Str × Addr)) (fp : List Addr), EN (X.blk s H scope (compEnvC scope cl C X.env) fp) elt p2 ρt dd ρe)) :
    ∃ (wi : TI) (g : TG) (tt : TT) (te : TE), PI X tg e wi ∧ (∀ (s : Shared) (H : Hp) (C : Addr) (cl : List (Str × Addr)) (fp : List Addr), PG (X.blk s H scope (compEnvC scope cl C X.env) fp) tg g) ∧ (∀ (s : Shared) (H : Hp) (C : Addr) (cl : List (Str × Addr)) (fp : List Addr), PTs (X.blk s H scope (compEnvC scope cl C X.env) fp) [] tt) ∧
      (∀ (s : Shared) (H : Hp) (C : Addr) (cl : List (Str × Addr)) (fp : List Addr), PE (X.blk s H scope (compEnvC scope cl C X.env) fp) elt te) ∧ ∀ σ H Q, tRows X.K ρ (unR ρ1 (own.map (·.2))) dss σ H Q → tLc wi g tt te (own.map (·.2)) σ H Q := by
  have W := fun q : { q : Nat × D // ds[q.1]? = some q.2 } => hb q.1.1 q.1.2 q.2
  obtain ⟨fρt, W⟩ := Classical.axiomOfChoice W
  obtain ⟨fρe, W⟩ := Classical.axiomOfChoice W
  obtain ⟨fp2, W⟩ := Classical.axiomOfChoice W
  obtain ⟨fdd, W⟩ := Classical.axiomOfChoice W
  have A : ∀ (s : Shared) (H : Hp) (C : Addr) (cl : List (Str × Addr)) (fp : List Addr), PG (X.blk s H scope (compEnvC scope cl C X.env) fp) tg (fun v σ H Q => ∃ q, tTG X.K (own.map (·.2)) q.1.2 (unR ρ1 (own.map (·.2))) (fρt q) v σ H Q) := fun s H C cl fp => PG.ex fun q => (W q).2.2.1 s H C cl fp
  have T : ∀ (s : Shared) (H : Hp) (C : Addr) (cl : List (Str × Addr)) (fp : List Addr), PTs (X.blk s H scope (compEnvC scope cl C X.env) fp) [] (fun σ H Q => ∃ r, tET X.K true r true r σ H Q) := fun s H C cl fp => ⟨fun pins s' σ' H' Q I' ⟨r, h⟩ => pts_nilE.run pins s' σ' H' Q I' h⟩
  have Ev : ∀ (s : Shared) (H : Hp) (C : Addr) (cl : List (Str × Addr)) (fp : List Addr), PE (X.blk s H scope (compEnvC scope cl C X.env) fp) elt (fun σ H Q => ∃ q, tEN X.K (fp2 q) (fρt q) (fdd q) (fρe q) σ H Q) := fun s H C cl fp => PE.ex fun q => (W q).2.2.2 s H C cl fp
  refine ⟨_, _, _, _, hi, A, T, Ev, fun σ H Q ⟨w, B, R, k⟩ => ⟨w, B, R, fun B1 H1 J R1 s1 sv dl hD => ?_⟩⟩
  have fD := Fresh.of R1 hD
  have g0 := Grow.make (o := .lst []) R1.ext hD
  have R1' := R1.grow g0
  have wl : ∀ j, j ∉ own.map (·.2) → (wipe σ (own.map (·.2)))[j]? = σ[j]? := fun j hj => by rw [wipe_get, if_neg hj]
  generalize hρ0 : unR ρ1 (own.map (·.2)) = ρ0 at *
  have O0 : ∀ b, Out b ρ1 → Out b ρ0 := fun b h => by rw [← hρ0]; exact Out.un h
  have len0 : ρ0.length = ρ1.length := by rw [← hρ0]; exact unR_len
  let St : Nat → Hp → Prop := fun i H' => ∃ B' as, SR X.K w B' H' (wipe σ (own.map (·.2))) ρ0 ∧ Same B1 B' ∧ H' dl = some (.lst (as.map .ref)) ∧ as.length = i ∧ (dl :: as).Nodup ∧ (∀ b ∈ dl :: as, Fresh w B' ρ0 b) ∧
    ∀ (j : Nat) b dd, as[j]? = some b → dss[j]? = some dd → ∃ xs, H' b = some (.lst xs) ∧ Reps X.K B' xs dd
  refine ⟨fun i m H' => m = ds.length - i ∧ i ≤ ds.length ∧ St i H', ⟨_, rfl, Nat.zero_le _, B1, [], by rw [← hρ0]; exact R1'.wiped (wipe_length _ _) wl, Same.refl _, upd_same, rfl, by simp, fun b hb => ?_, fun j b dd h => by simp at h⟩, ?_⟩
  · obtain rfl : b = dl := by simpa using hb
    exact ⟨fD.h0, fD.b, O0 _ fD.foot⟩
  rintro i m H' ⟨rfl, hle, B', as, R', e', hx, hal, nd, fr, hrow⟩
  obtain ⟨sv1, sv2⟩ := sv i B' H' e' R'.ext
  by_cases hlt : i < ds.length
  · have hd : ds[i]? = some ds[i] := List.getElem?_eq_getElem hlt
    obtain ⟨go, yl⟩ := sv1 _ hd
    refine .inr ⟨go, St (i + 1), fun H2 h => ⟨ds.length - (i + 1), by omega, rfl, hlt, h⟩, fun x H2 y => ?_⟩
    obtain ⟨B2, g2, rv⟩ := yl x H2 y
    have R2 := R'.grow g2
    let q : { q : Nat × D // ds[q.1]? = some q.2 } := ⟨(i, ds[i]), hd⟩
    have gs2 : Stp true ρ0 B' H' ρ0 B2 H2 := Stp.ofGrow g2
    refine ⟨q, w, B2, R2, fun j hq => by rw [wipe_length, R1.len]; exact of_decide_eq_true (List.all_eq_true.mp hj j hq), rv, fun σ3 R3 l3 k3 f3 => ⟨wipe_eq l3 k3, _, w, B2, R3, fun B3 H3 R4 s4 => iteT ⟨q, w, B3, R4, fun B5 H5 a' ys R5 s5 hn fa ha ra => ?_⟩⟩⟩
    have ch : ∀ a o, H' a = some o → Fresh w B' ρ0 a → H3 a = some o ∧ H5 a = some o ∧ B5 a = none ∧ Out a ρ0 := fun a o h f => by
      obtain ⟨h2, n2, f2⟩ := gs2.al a o h f.b f.foot
      obtain ⟨h3, n3, f3'⟩ := s4.al a o h2 n2 fun j s hs => by
        rcases f3 j s hs with z | z
        · rw [z]; simp
        · exact f2 j s z
      obtain ⟨h4, n4, _⟩ := s5.al a o h3 n3 f3'
      exact ⟨h3, h4, n4, f.foot⟩
    have back : SR X.K w B5 H5 (wipe σ (own.map (·.2))) ρ0 := by
      have z := R5.wiped (σ' := wipe σ (own.map (·.2))) (vs := own.map (·.2)) l3.symm fun j hj => (k3 j hj).symm
      rw [(W q).2.1] at z
      exact z
    have fa0 : Fresh w B5 ρ0 a' := ⟨fa.h0, fa.b, by rw [← (W q).2.1]; exact Out.un fa.foot⟩
    have there : ∀ b ∈ dl :: as, ∃ o, H' b = some o := fun b hb => by
      rcases List.mem_cons.mp hb with e | hb
      · rw [e]; exact ⟨_, hx⟩
      · obtain ⟨j, hj⟩ := List.getElem?_of_mem hb
        have : j < as.length := (List.getElem?_eq_some_iff.mp hj).1
        obtain ⟨xs, h, _⟩ := hrow j b dss[j] hj (List.getElem?_eq_getElem (by omega))
        exact ⟨_, h⟩
    have ne : ∀ b ∈ dl :: as, b ≠ a' := fun b hb z => by
      obtain ⟨o, ho⟩ := there b hb
      have := (ch b o ho (fr b hb)).1
      rw [z, hn] at this
      cases this
    obtain ⟨_, hx5, bD5, oD5⟩ := ch dl _ hx (fr dl (by simp))
    have sm : Same B' B5 := (g2.b.trans s4.b).trans s5.b
    refine ⟨as.map .ref, hx5, by rw [List.length_map, sizeLine_eq]; omega, B5, as ++ [a'], back.alien fD.h0 bD5 oD5, e'.trans sm, by rw [upd_same, List.map_append]; rfl, by rw [List.length_append, hal]; rfl, ?_, fun b hb => ?_, fun j b dd h1 h2 => ?_⟩
    · have e1 : dl :: (as ++ [a']) = (dl :: as) ++ [a'] := rfl
      rw [e1, List.nodup_append]
      exact ⟨nd, by simp, fun x hx y hy => by
        obtain rfl : y = a' := by simpa using hy
        exact ne x hx⟩
    · rcases (show b ∈ dl :: as ∨ b = a' by simpa [or_assoc] using hb) with hb | hb
      · obtain ⟨o, ho⟩ := there b hb
        have z := ch b o ho (fr b hb)
        exact ⟨(fr b hb).h0, z.2.2.1, z.2.2.2⟩
      · rw [hb]; exact fa0
    · have nb : b ∈ as ++ [a'] := List.mem_of_getElem? h1
      have nl : b ≠ dl := fun z => by
        rcases (show b ∈ as ∨ b = a' by simpa using nb) with hb | hb
        · rw [List.nodup_cons] at nd
          exact nd.1 (z ▸ hb)
        · exact ne dl (by simp) (z.symm.trans hb)
      rw [upd_ne nl]
      by_cases hji : j < as.length
      · rw [List.getElem?_append_left hji] at h1
        obtain ⟨xs, h3, h4⟩ := hrow j b dd h1 h2
        exact ⟨xs, (ch b _ h3 (fr b (by simp [List.mem_of_getElem? h1]))).2.1, h4.mono sm⟩
      · have hj2 : j = i := by
          have := (List.getElem?_eq_some_iff.mp h1).1
          rw [List.length_append] at this
          simp at this
          omega
        subst hj2
        rw [List.getElem?_append_right (by omega), hal, Nat.sub_self] at h1
        cases h1
        have e3 := (W q).1
        have e4 : dss[j]? = some (fdd q) := e3
        rw [e4] at h2
        cases h2
        exact ⟨ys, ha, ra⟩
  · have e : i = ds.length := by omega
    subst e
    refine .inl ⟨sv2 (Nat.le_refl _), k B' H' dl as ?_ (s1.b.trans e') fr ⟨hx, by omega, nd, hrow⟩⟩
    have z := R'.wiped (σ' := σ) (vs := own.map (·.2)) (wipe_length _ _).symm fun j hj => (wl j hj).symm
    have e5 : unR ρ0 (own.map (·.2)) = ρ0 := by
      rw [← hρ0]
      exact unR_idem
    rw [e5] at z
    exact z
/-- y = [[..] for ..], y a local -/
theorem s_rows {spos : Pos} {y : Str} {py : Pos} {DD : DEnds} {i : Nat} {scope : Scope} {own : List (Str × Nat)} (hi : ITR X tg e p ρ ds ρ1) (nd : X.N.Nodup) (ok : BlkOk X.N X.env.scope scope own) (hl : dss.length = ds.length) (hz : ds.length < 16777216) (hj : (own.map (·.2)).all (fun j => decide (j < ρ1.length)) = true)
    (hb : ∀ (i : Nat) d, ds[i]? = some d → ∃ (ρt ρe : Rho) (p2 : Bool) (dd : List D), dss[i]? = some dd ∧ unR ρe (own.map (·.2)) = unR ρ1 (own.map (·.2)) ∧ (∀ (s : Shared) (H : Hp) (C : Addr) (cl : List (Str × Addr)) (fp : List Addr), TGT (X.blk s H scope (compEnvC scope cl C X.env) fp) tg (own.map (·.2)) d (unR ρ1 (own.map (·.2))) ρt) ∧
      (∀ (s : Shared) (H : Hp) (C : Addr) (cl : List (Str × Addr)) (fp : List Addr), EN (X.blk s H scope (compEnvC scope cl C X.env) fp) elt p2 ρt dd ρe))
    (k : ∀ a as, DD.nx ((unR ρ1 (own.map (·.2))).set i (.ow a (.rows as dss)))) (hy : X.N[i]? = some y := by rfl) (hyl : X.env.scope.names.lookup y = some .local := by rfl)
    (hsw : swapsWith (.ListComp elt [⟨tg, e, [], 0⟩] scope pos) (some (.Name y py)) spos.line X.env = pure true := by exact sw_true rfl rfl rfl (by decide +kernel))
    (hc : X.calm = true := by rfl) (hs : ∀ x, foldedSetIterable e X.env x = pure x := by intro _; rfl) : S1 X (.Assign [.Name y py] (.ListComp elt [⟨tg, e, [], 0⟩] scope pos) spos) ρ DD := by
  obtain ⟨wi, g, tt, te, h1, h2, h3, h4, h5⟩ := rows_ex hi hl hz hj hb
  exact PS.imp (ps_setLc hc nd hy hyl hsw h1 ok h2 h3 h4 hs) fun E σ H ⟨w, B, R, hl, g⟩ => h5 σ H _ ⟨w, B, R, fun B' H' a as R' s f h => g.nx _ _ B' H' (k a as) (R'.putR (slot_lt (n := 0) hy hl) f h) s (by rw [List.length_set]; exact hl)⟩
end
end G

set_option Elab.async false
set_option maxRecDepth 100000
set_option maxHeartbeats 2000000
set_option linter.all false
/-! G16: objects: __init__, fields of self, making. -/
namespace G
open PySem L2 PyProof.Rows
def putD (f : Str) (v : D) : List (Str × D) → List (Str × D)
  | [] => [(f, v)]
  | (g, x) :: r => if g = f then (g, v) :: r else (g, x) :: putD f v r
theorem RepF.put {K : PySem.W.Frag} {B : Hp} {f : Str} {v : V} {d : D} (h : Rep K B v d) : ∀ {vs : List (Str × V)} {fs : List (Str × D)}, RepF K B vs fs → RepF K B (putF f v vs) (putD f d fs)
  | _, _, .nil => .cons h .nil
  | _, _, .cons (f := g) q r => by
    unfold putF putD
    by_cases e : g = f
    · rw [if_pos e, if_pos e]; exact .cons h r
    · rw [if_neg e, if_neg e]; exact .cons q (RepF.put h r)
/-- arguments by value in, the new object's fields out, or an exception -/
abbrev CO := List D → (List (Str × D) → Prop) → RXT → Prop
def spO (K : PySem.W.Frag) (Cl : Addr) (C : CO) : Sp := fun vs H Q E => ∃ B x us dx ds R RX, vs = .ref x :: us ∧ C ds R RX ∧ Same B H ∧ Reps K B us ds ∧ H x = some (.ins Cl dx []) ∧ B x = none ∧
  (∀ B' H' dx' ws fs, GrowM x B H B' H' → H' x = some (.ins Cl dx' ws) → RepF K B' ws fs → R fs → Q .non H') ∧ ∀ B' H' cls pay d, GrowM x B H B' H' → RX cls pay → PayOk K B' pay d → E cls d H'
section
variable {P : Program} {w : World} {K : PySem.W.Frag} {mg : Str → Option Value} {base : Heap}
theorem SR.argsO {B H : Hp} {vs : List V} {ds : List D} {a Cl dx : Addr} (e : Same B H) (r : Reps K B vs ds) (ha : H a = some (.ins Cl dx [])) (hb : B a = none) :
    SR K ⟨B, H, [a]⟩ B H ((V.ref a :: vs).map some) (.pr a (.ob Cl []) :: ds.map .fr) := by
  have nf : ∀ (i : Nat) (s : Slot), (Slot.pr a (.ob Cl []) :: ds.map Slot.fr)[i]? = some s → (i = 0 ∧ s = .pr a (.ob Cl [])) ∨ (s.foot = [] ∧ ∃ d j, i = j + 1 ∧ s = .fr d ∧ ds[j]? = some d) := fun i s h => by
    cases i with
    | zero => cases h; exact .inl ⟨rfl, rfl⟩
    | succ j =>
      obtain ⟨d, h1, rfl⟩ := map_get (show (ds.map Slot.fr)[j]? = some s by simpa using h)
      exact .inr ⟨rfl, d, j, rfl, rfl, h1⟩
  refine ⟨e, Same.refl B, fun a o h _ => h, fun a h => h, fun a o h => .inl h, by simp [r.len], fun i s h => ?_, fun i j s t n h h' b hb hc => ?_, fun i s h b hb' => ?_, fun i c v h => ?_, fun i c v h b hb' => ?_⟩
  · rcases nf i s h with ⟨rfl, rfl⟩ | ⟨_, d, j, rfl, rfl, h1⟩
    · exact ⟨rfl, dx, [], ha, .nil⟩
    · obtain ⟨v, h2, h3⟩ := r.get h1
      exact ⟨v, by rw [List.map_cons, List.getElem?_cons_succ, List.getElem?_map, h2]; rfl, h3⟩
  · rcases nf i s h with ⟨rfl, rfl⟩ | ⟨z, _⟩
    · rcases nf j t h' with ⟨rfl, rfl⟩ | ⟨z, _⟩
      · exact n rfl
      · rw [z] at hc; cases hc
    · rw [z] at hb; cases hb
  · rcases nf i s h with ⟨rfl, rfl⟩ | ⟨z, _⟩
    · have q : b = a := by simpa [Slot.foot, W.foot] using hb'
      rw [q]; exact hb
    · rw [z] at hb'; cases hb'
  · rcases nf i _ h with ⟨_, z⟩ | ⟨_, _, _, _, z, _⟩ <;> cases z
  · rcases nf i _ h with ⟨_, z⟩ | ⟨_, _, _, _, z, _⟩
    · cases z
      simpa [W.foot] using hb'
    · cases z
theorem fnO {x qual : Str} {st : Stmt} {f Cl : Addr} {fd : FuncData} {N ps : List Str} {k : Nat} {C : CO} (F : Fun K x qual st f fd) (S : FnScope N ps (defScope st)) (len : ∀ ds R RX, C ds R RX → ds.length + 1 = ps.length)
    (body : ∀ (cdv : Value) (A : Around) (outer : List Env) (s : Shared) (H : Hp) (E : XK) (a : Addr) (ds : List D) (R : List (Str × D) → Prop) (RX : RXT), Room k (A.deeper (envOfC qual (defScope st) s.heap.objs.size f cdv)) → C ds R RX →
      ST (cxOf (L2.CX P w) P w K mg base N qual (defScope st) f cdv A outer s H E) (defBody st) (.pr a (.ob Cl []) :: ds.map .fr ++ List.replicate (N.length - (ds.length + 1)) .un)
        { nx := fun ρ => ∃ fs, ρ[0]? = some (.pr a (.ob Cl fs)) ∧ R fs, rt := fun _ _ => False, W := fun cls d _ H => E cls d H, ex := fun cls pay ρ => (∃ fs, ρ[0]? = some (.pr a (.ob Cl fs))) ∧ RX cls pay }) : FnOk P w K mg base (L2.CX P w) (k + 1) f fd ps (spO K Cl C) := by
  refine F.okX S (fun vs H Q E h => ?_) (fun cdv A outer s H vs Q E hr h => ?_)
  · obtain ⟨B, x, us, dx, ds, R, RX, rfl, hC, _, r, _⟩ := h
    rw [List.length_cons, r.len]
    exact len ds R RX hC
  · obtain ⟨B, x, us, dx, ds, R, RX, rfl, hC, e, r, hx, hb, h1, h2⟩ := h
    have gm : ∀ {ρ' : Rho} {σ' : L2.St} {B' H' : Hp} {fs : List (Str × D)}, ρ'[0]? = some (.pr x (.ob Cl fs)) → SR K ⟨B, H, [x]⟩ B' H' σ' ρ' → GrowM x B H B' H' := fun {ρ' σ' B' H' fs} h0 R' =>
      ⟨R'.ex0, R'.ext, fun y o h n => R'.frame y o h (by simpa using n), R'.dom, R'.new, R'.sep 0 _ h0 x (by simp [Slot.foot, W.foot])⟩
    have hl : us.length + 1 ≤ N.length := by
      have q := congrArg List.length S.pre
      rw [List.length_take] at q
      rw [r.len, len ds R RX hC]
      omega
    refine ⟨_, body cdv A outer s H E x ds R RX hr hC, ⟨B, H, [x]⟩, B, ?_, ?_, ?_⟩
    · unfold L2.start
      exact (SR.argsO e r hx hb).pad (by simp [r.len]) (by simp [r.len])
    · unfold L2.start
      rw [List.length_append, List.length_map, List.length_replicate, List.length_cons]
      show _ = N.length
      omega
    · refine ⟨fun ρ' σ' B' H' ⟨fs, h0, hR⟩ R' _ _ => ?_, fun _ _ _ _ _ _ z => z.elim, fun _ _ _ _ z => z.elim, fun _ _ _ _ z => z.elim, fun cls pay ρ' σ' B' H' d ⟨⟨fs, h0⟩, hX⟩ R' _ _ po => h2 B' H' cls pay d (gm h0 R') hX po⟩
      obtain ⟨_, dx', ws, h3, h4⟩ := R'.ok 0 _ h0
      exact h1 B' H' dx' ws fs (gm h0 R') h3 h4 hR
end
section
variable {X : Cx} {e : Expr} {es : List Expr} {p : Bool} {ρ ρ1 : Rho} {d z : D} {ds : List D} {pos pos' pp px : Pos} {x f : Str} {Q : D → Rho → Prop} {DD : DEnds}
/-- a made object is frozen -/
theorem grow_made {x dx Cl dx' : Addr} {B H B' H' : Hp} {ws : List (Str × V)} (e : Same B H) (hx : H x = none) (hd : H dx = none) (g : GrowM x B (upd (upd H dx (.own x)) x (.ins Cl dx [])) B' H') (h : H' x = some (.ins Cl dx' ws)) : Grow B H (upd B' x (.ins Cl dx' ws)) H' := by
  refine ⟨g.b.trans (Grow.freezeB g.na), fun a o q => ?_, fun a o q => ?_, fun a o q => ?_⟩
  · have n1 : a ≠ x := ne_of_none q hx
    have n2 : a ≠ dx := ne_of_none q hd
    exact g.fr a o (by rw [upd_ne n1, upd_ne n2]; exact q) n1
  · by_cases n : a = x
    · subst n; rw [upd_same] at q; cases q; exact h
    · rw [upd_ne n] at q; exact g.ext a o q
  · by_cases n : a = x
    · subst n; exact .inr hx
    · rw [upd_ne n] at q
      rcases g.new a o q with z | z
      · exact .inl z
      · rw [upd_ne n] at z
        by_cases n2 : a = dx
        · subst n2; exact .inr hd
        · rw [upd_ne n2] at z; exact .inr z
/-- C(e, ..), __init__ raises nothing -/
theorem we_make {k : Nat} {f Cl : Addr} {fd : FuncData} {ps : List Str} {C : CO} (M : Mk X.K Cl f) (F : FnOk X.prog X.w X.K X.mg X.base (L2.CX X.prog X.w) k f fd ps (spO X.K Cl C)) (hr : Room (k + 1) X.A) (hm : X.mg x = some (.ref Cl)) (hb : Binds X.K fd ps [])
    (tk : Takes X (fun _ _ _ _ => False)) (ha : WA X (e :: es) ρ (fun ds r => C ds (fun fs => Q (.ins Cl fs) r) (fun _ _ => False)))
    (hg : Gl X x := by rfl) (hdb : (x == ("__debug__" : Str)) = false := by decide) (he : starEach (e :: es) X.env = (false, eval e X.env) :: starEach es X.env := by rfl) (hpl : (backTo pos (starEach es X.env)).any (·.1) = false := by rfl) :
    WE X (.Call (.Name x pp) (e :: es) [] pos) ρ Q :=
  PE.imp (pe_make M F hr hg hm hb .nil (E := fun _ _ _ => False) (passes_call tk fun _ _ _ _ z => z) ha hdb he hpl) fun σ H QV ⟨w, B, R, kk⟩ => ⟨w, B, R, fun B1 H1 vs ds r hC R1 s1 r1 => fun y dy h1 h2 ne => by
    rw [List.append_nil]
    have e1 : Same B1 (upd (upd H1 dy (.own y)) y (.ins Cl dy [])) := fun a o q => by
      have hq := R1.ext a o q
      rw [upd_ne (ne_of_none hq h1), upd_ne (ne_of_none hq h2)]
      exact hq
    refine ⟨B1, y, vs, dy, ds, _, _, rfl, hC, e1, r1, upd_same, R1.ext.free h1, fun B' H' dx' ws fs g hx rf hR => ⟨rfl, ?_⟩, fun _ _ _ _ _ _ z => z.elim⟩
    have G0 := grow_made R1.ext h1 h2 g hx
    exact kk _ H' (.ref y) (.ins Cl fs) r hR (R1.grow G0) (s1.add G0) (.ins upd_same (rf.mono (Grow.freezeB g.na)))⟩
/-- self.f -/
theorem ev_fldO {a Cl : Addr} {fs : List (Str × D)} (i : Nat) (c : Cls X.K Cl) (n : NoAttr X.K Cl f) (h : fs.lookup f = some z) (hN : X.N[i]? = some x := by rfl) (hv : Vis X.env.scope x := by first | exact Or.inl rfl | exact Or.inr (Or.inl rfl) | exact Or.inr (Or.inr rfl)) (hs : ρ[i]? = some (.pr a (.ob Cl fs)) := by rfl)
    (hd : (x == ("__debug__" : Str)) = false := by decide) (hcd : (x == ("__classdict__" : Str)) = false := by decide) (hb : attributeBase (.Name x px) f X.env (eval (.Name x px) X.env) = eval (.Name x px) X.env := by rfl) : EV X (.Attribute (.Name x px) f pos) true ρ z ρ :=
  PE.imp (pe_fld (pe_var hN hv hd hcd) hb) fun σ H Q ⟨w, B, R, k⟩ => by
    obtain ⟨e0, dx, vs, h1, r1⟩ := R.ok i _ hs
    obtain ⟨u, h2, h3⟩ := r1.look h
    exact ⟨_, e0, a, Cl, dx, vs, u, rfl, h1, c, n, h2, k B H u R (Stp.refl R.ext) h3⟩
/-- self.f = e -/
theorem s_fld {a Cl : Addr} {fs : List (Str × D)} (i : Nat) (h : EV X e p ρ d ρ1) (c : Cls X.K Cl) (n : NoAttr X.K Cl f) (hs : ρ1[i]? = some (.pr a (.ob Cl fs))) (k : DD.nx (ρ1.set i (.pr a (.ob Cl (putD f d fs))))) (few : fs.length < 1000 := by decide) (hN : X.N[i]? = some x := by rfl) (hv : Vis X.env.scope x := by first | exact Or.inl rfl | exact Or.inr (Or.inl rfl) | exact Or.inr (Or.inr rfl))
    (hd : (x == ("__debug__" : Str)) = false := by decide) (hcd : (x == ("__classdict__" : Str)) = false := by decide) (hsw : swapsWith e (some (.Attribute (.Name x px) f pos')) pos.line X.env = pure false := by rfl) : S1 X (.Assign [.Attribute (.Name x px) f pos'] e pos) ρ DD :=
  PS.imp (ps_fld (pe_var hN hv hd hcd) h hsw) fun E σ H ⟨w, B, R, hl, g⟩ => ⟨w, B, R, fun B1 H1 v R1 s1 r1 => by
    obtain ⟨e0, dx, vs, h1, r2⟩ := R1.ok i _ hs
    refine ⟨_, e0, a, Cl, dx, vs, rfl, h1, c, n, by rw [r2.len]; exact few, ?_⟩
    have sp := R1.sep i _ hs a (by simp [Slot.foot, W.foot])
    refine g.nx _ σ B1 _ k (R1.write (s' := .pr a (.ob Cl (putD f d fs))) hs rfl (.inr ⟨a, _, _, rfl, rfl⟩) (Same.refl B1) (fun b o q => by rw [upd_ne (ne_of_none q sp)]; exact R1.ext b o q) (fun b o q => .inl q) (fun b o q ft => by rw [upd_ne (fun z => ft (by rw [z]; simp [Slot.foot, W.foot]))]; exact q) (fun b q => ?_) ⟨e0, dx, _, upd_same, r2.put r1⟩) s1.b hl
    by_cases e : b = a
    · rw [e, upd_same]; simp
    · rw [upd_ne e]; exact q⟩
/-- {} that nobody looks into -/
theorem ev_dict0 : EV X (.Dict [] [] pos) true ρ .any ρ := PE.imp pe_dnewK fun σ H Q ⟨w, B, R, k⟩ t ht => k B _ (.ref t) (R.grow (Grow.make R.ext ht)) (.ofGrow (Grow.make R.ext ht)) (.any _)
end
end G

set_option Elab.async false
set_option maxRecDepth 100000
set_option maxHeartbeats 2000000
set_option linter.all false
/-! G17: comprehensions with one outcome. -/
namespace G
open PySem L2 PyProof.Rows
section
variable {X : Cx} {tg e elt c : Expr} {p : Bool} {ρ : Rho} {pos : Pos} {ds zs : List D} {fs : List (Option D)} {scope : Scope} {own : List (Str × Nat)}
abbrev Blks (X : Cx) (scope : Scope) (P : Cx → Prop) : Prop := ∀ (s : Shared) (H : Hp) (C : Addr) (cl : List (Str × Addr)) (fp : List Addr), P (X.blk s H scope (compEnvC scope cl C X.env) fp)
theorem take_snoc {α : Type} {l : List α} {i : Nat} {x : α} (h : l[i]? = some x) : l.take (i + 1) = l.take i ++ [x] := by
  rw [List.take_add_one, h]; rfl
theorem take_fm {fs : List (Option D)} {i : Nat} {o : Option D} (h : fs[i]? = some o) : (fs.take (i + 1)).filterMap id = (fs.take i).filterMap id ++ o.toList := by
  rw [take_snoc h, List.filterMap_append]
  cases o <;> rfl
/-- [elt for tg in e]: zs, one by one -/
structure MapOk (X : Cx) (tg elt : Expr) (ρ : Rho) (ds zs : List D) (scope : Scope) (own : List (Str × Nat)) : Prop where
  nd : X.N.Nodup
  ok : BlkOk X.N X.env.scope scope own
  un : unR ρ (own.map (·.2)) = ρ
  few : ds.length < 16777216
  lt : (own.map (·.2)).all (fun j => decide (j < ρ.length)) = true
  len : zs.length = ds.length
  b : ∀ (i : Nat) d z, ds[i]? = some d → zs[i]? = some z → ∃ ρt ρe pp, Blks X scope (fun Y => TGT Y tg (own.map (·.2)) d ρ ρt) ∧ Blks X scope (fun Y => EV Y elt pp ρt z ρe) ∧ unR ρe (own.map (·.2)) = ρ
theorem en_map (hi : ITR X tg e p ρ ds ρ) (M : MapOk X tg elt ρ ds zs scope own) (hc : X.calm = true := by rfl) (hs : ∀ x, foldedSetIterable e X.env x = pure x := by intro _; rfl) : EN X (.ListComp elt [⟨tg, e, [], 0⟩] scope pos) false ρ zs ρ := by
  refine en_ofW (ρ2 := ρ) (wn_lc (own := own) (PL := fun d r => d = ds ∧ r = ρ) (fun d j acc r => d = ds ∧ acc = zs.take j ∧ r = ρ) (wi_of hi ⟨rfl, rfl⟩) M.nd M.ok (fun d r h => ?_) (fun d j x acc r hd hI => ?_) (fun d ys r hI => ?_) hc hs)
  · obtain ⟨rfl, rfl⟩ := h
    exact ⟨⟨rfl, rfl, M.un⟩, M.few, M.lt⟩
  · obtain ⟨rfl, rfl, rfl⟩ := hI
    have hj : j < zs.length := by rw [M.len]; exact (List.getElem?_eq_some_iff.mp hd).1
    have hz := List.getElem?_eq_getElem hj
    obtain ⟨ρt, ρe, pp, h1, h2, h3⟩ := M.b j x _ hd hz
    refine ⟨ρt, _, h1, fun _ _ _ _ _ => pts_nilW, fun r h => ?_, fun r h s H C cl fp => ?_⟩
    · obtain ⟨h, _⟩ := h; cases h
    · obtain ⟨_, rfl⟩ := h
      refine we_of (h2 s H C cl fp) ⟨rfl, ?_, h3⟩
      rw [take_snoc hz]
  · obtain ⟨rfl, rfl, rfl⟩ := hI
    refine ⟨?_, M.un⟩
    rw [← M.len, List.take_length]
/-- y = [elt for tg in e], y a local on one line, never changed -/
theorem s_mapF {spos : Pos} {y : Str} {py : Pos} {DD : DEnds} {i : Nat} (hi : ITR X tg e p ρ ds ρ) (M : MapOk X tg elt ρ ds zs scope own) (k : DD.nx (ρ.set i (.fr (.lst zs)))) (hy : X.N[i]? = some y := by rfl) (hyl : X.env.scope.names.lookup y = some .local := by rfl)
    (hsw : swapsWith (.ListComp elt [⟨tg, e, [], 0⟩] scope pos) (some (.Name y py)) spos.line X.env = pure true := by exact sw_true rfl rfl rfl (by decide +kernel))
    (hc : X.calm = true := by rfl) (hs : ∀ x, foldedSetIterable e X.env x = pure x := by intro _; rfl) : S1 X (.Assign [.Name y py] (.ListComp elt [⟨tg, e, [], 0⟩] scope pos) spos) ρ DD := by
  refine s_setLcF (own := own) (PL := fun d r => d = ds ∧ r = ρ) (fun d j acc r => d = ds ∧ acc = zs.take j ∧ r = ρ) (wi_of hi ⟨rfl, rfl⟩) M.nd M.ok (fun d r h => ?_) (fun d j x acc r hd hI => ?_) (fun d ys r hI => ?_) hy hyl hsw hc hs
  · obtain ⟨rfl, rfl⟩ := h
    exact ⟨⟨rfl, rfl, M.un⟩, M.few, M.lt⟩
  · obtain ⟨rfl, rfl, rfl⟩ := hI
    have hj : j < zs.length := by rw [M.len]; exact (List.getElem?_eq_some_iff.mp hd).1
    have hz := List.getElem?_eq_getElem hj
    obtain ⟨ρt, ρe, pp, h1, h2, h3⟩ := M.b j x _ hd hz
    refine ⟨ρt, _, h1, fun _ _ _ _ _ => pts_nilW, fun r h => ?_, fun r h s H C cl fp => ?_⟩
    · obtain ⟨h, _⟩ := h; cases h
    · obtain ⟨_, rfl⟩ := h
      refine we_of (h2 s H C cl fp) ⟨rfl, ?_, h3⟩
      rw [take_snoc hz]
  · obtain ⟨rfl, rfl, rfl⟩ := hI
    rw [M.un, ← M.len, List.take_length]
    exact k
/-- [elt for tg in e if c]: where fs has a value it is taken -/
structure FiltOk (X : Cx) (tg elt c : Expr) (ρ : Rho) (ds : List D) (fs : List (Option D)) (scope : Scope) (own : List (Str × Nat)) : Prop where
  nd : X.N.Nodup
  ok : BlkOk X.N X.env.scope scope own
  un : unR ρ (own.map (·.2)) = ρ
  few : ds.length < 16777216
  lt : (own.map (·.2)).all (fun j => decide (j < ρ.length)) = true
  len : fs.length = ds.length
  b : ∀ (i : Nat) d o, ds[i]? = some d → fs[i]? = some o → ∃ ρt ρc pp, Blks X scope (fun Y => TGT Y tg (own.map (·.2)) d ρ ρt) ∧ Blks X scope (fun Y => ET Y c pp ρt o.isSome ρc) ∧ unR ρc (own.map (·.2)) = ρ ∧
    ∀ z, o = some z → ∃ ρe pp, Blks X scope (fun Y => EV Y elt pp ρc z ρe) ∧ unR ρe (own.map (·.2)) = ρ
theorem s_filtF {spos : Pos} {y : Str} {py : Pos} {DD : DEnds} {i : Nat} (hi : ITR X tg e p ρ ds ρ) (M : FiltOk X tg elt c ρ ds fs scope own) (k : DD.nx (ρ.set i (.fr (.lst (fs.filterMap id))))) (hy : X.N[i]? = some y := by rfl) (hyl : X.env.scope.names.lookup y = some .local := by rfl)
    (hsw : swapsWith (.ListComp elt [⟨tg, e, [c], 0⟩] scope pos) (some (.Name y py)) spos.line X.env = pure true := by exact sw_true rfl rfl rfl (by decide +kernel))
    (hc : X.calm = true := by rfl) (hs : ∀ x, foldedSetIterable e X.env x = pure x := by intro _; rfl) : S1 X (.Assign [.Name y py] (.ListComp elt [⟨tg, e, [c], 0⟩] scope pos) spos) ρ DD := by
  refine s_setLcF (own := own) (PL := fun d r => d = ds ∧ r = ρ) (fun d j acc r => d = ds ∧ acc = (fs.take j).filterMap id ∧ r = ρ) (wi_of hi ⟨rfl, rfl⟩) M.nd M.ok (fun d r h => ?_) (fun d j x acc r hd hI => ?_) (fun d ys r hI => ?_) hy hyl hsw hc hs
  · obtain ⟨rfl, rfl⟩ := h
    exact ⟨⟨rfl, rfl, M.un⟩, M.few, M.lt⟩
  · obtain ⟨rfl, rfl, rfl⟩ := hI
    have hj : j < fs.length := by rw [M.len]; exact (List.getElem?_eq_some_iff.mp hd).1
    have hz := List.getElem?_eq_getElem hj
    obtain ⟨ρt, ρc, pp, h1, h2, h3, h4⟩ := M.b j x _ hd hz
    refine ⟨ρt, fun b r => b = fs[j].isSome ∧ r = ρc, h1, fun s H C cl fp => pts_oneW (wt_of (h2 s H C cl fp) ⟨rfl, rfl⟩), fun r h => ?_, fun r h s H C cl fp => ?_⟩
    · obtain ⟨hb, rfl⟩ := h
      refine ⟨rfl, ?_, h3⟩
      rw [take_fm hz]
      cases e : fs[j] with
      | none => simp
      | some z => rw [e] at hb; cases hb
    · obtain ⟨hb, rfl⟩ := h
      cases e : fs[j] with
      | none => rw [e] at hb; cases hb
      | some z =>
        obtain ⟨ρe, pp, h5, h6⟩ := h4 z e
        refine we_of (h5 s H C cl fp) ⟨rfl, ?_, h6⟩
        rw [take_fm hz, e]; rfl
  · obtain ⟨rfl, rfl, rfl⟩ := hI
    rw [M.un, ← M.len, List.take_length]
    exact k
end
end G

set_option Elab.async false
set_option maxRecDepth 100000
set_option maxHeartbeats 4000000
set_option linter.all false
namespace G
open PySem L2 PyProof.Rows
local macro_rules | `(tactic| walk_at "rho") => `(tactic| (show (_ : List Slot) = _; (try dsimp only [List.set_cons_succ, List.set_cons_zero, List.map_cons, List.map_nil, List.cons_append, List.nil_append, relend, unR]); all_goals exact rfl))
def D.whole : D → Bool
  | .int _ => true
  | _ => false
def D.intb : D → Bool
  | .int _ => true
  | .bl _ => true
  | _ => false
def D.isb : D → Bool
  | .bl _ => true
  | _ => false
theorem kit_intb {d : D} (h : d.plain = true) : kitB d.tyn "int" = some d.intb := by
  cases d with
  | non => exact kit_NoneType_int
  | bl b => exact kit_bool_int
  | int i => exact kit_int_int
  | str x => exact kit_str_int
  | tup l => exact kit_tuple_int
  | lst l => exact kit_list_int
  | dct => exact kit_dict_int
  | ins _ _ => cases h
  | any => cases h
  | vl _ => cases h
  | scr _ => cases h
  | exc _ _ _ => cases h
theorem kit_isb {d : D} (h : d.plain = true) : kitB d.tyn "bool" = some d.isb := by
  cases d with
  | non => exact kit_NoneType_bool
  | bl b => exact kit_bool_bool
  | int i => exact kit_int_bool
  | str x => exact kit_str_bool
  | tup l => exact kit_tuple_bool
  | lst l => exact kit_list_bool
  | dct => exact kit_dict_bool
  | ins _ _ => cases h
  | any => cases h
  | vl _ => cases h
  | scr _ => cases h
  | exc _ _ _ => cases h
def CWhole : CP := fun ds R => ∃ d, ds = [d] ∧ d.plain = true ∧ R (.bl d.whole)
/-- a right edge -/
def CFault : CP := fun ds R => ∃ (e : Nat × Nat) (n : Nat), ds = [encE e, .int (n : Nat)] ∧ e.1 ≤ e.2 ∧ e.2 < n ∧ R .non
def bump (l : List Nat) (i : Nat) : List Nat := l.set i (l.getD i 0 + 1)
theorem bump_len (l : List Nat) (i : Nat) : (bump l i).length = l.length := by simp [bump]
def endsStep (l : List Nat) (e : Nat × Nat) : List Nat := if e.2 = e.1 then bump l e.1 else bump (bump l e.1) e.2
def endsOf (n : Nat) (es : Edges) : List Nat := es.foldl endsStep (List.replicate n 0)
def CEnds : CP := fun ds R => ∃ (n : Nat) (es : Edges), ds = [.int (n : Nat), .tup (edgesD es)] ∧ n ≤ 64 ∧ EdgeOk n es ∧ R (.lst (natsD (endsOf n es)))
theorem endsStep_len (l : List Nat) (e : Nat × Nat) : (endsStep l e).length = l.length := by
  unfold endsStep
  split
  · rw [bump_len]
  · rw [bump_len, bump_len]
theorem endsFold_len (es : Edges) : ∀ l : List Nat, (es.foldl endsStep l).length = l.length := by
  induction es with
  | nil => intro l; rfl
  | cons e es ih => intro l; rw [List.foldl_cons, ih, endsStep_len]
theorem natsD_bump {l : List Nat} {i : Nat} : natsD (bump l i) = (natsD l).set i (.int ((l.getD i 0 : Nat) + 1)) := by
  unfold bump natsD
  rw [List.map_set]
  rfl
theorem ixN_of {n j : Nat} (h : j < n) : ixN n (j : Int) = some j := by
  unfold ixN
  rw [if_pos (by omega), if_pos (by omega)]
  rfl
theorem foldl_take {α β : Type} {f : β → α → β} {b : β} {l : List α} {i : Nat} {x : α} (h : l[i]? = some x) : (l.take (i + 1)).foldl f b = f ((l.take i).foldl f b) x := by
  rw [take_snoc h, List.foldl_append]; rfl
section
variable {P : Program} {w : World} {K : PySem.W.Frag} {mg : Str → Option Value} {base : Heap} {f f2 f3 : Addr} {fd fd2 fd3 : FuncData}
theorem ok_isWhole (F : Df K mg "is_whole" "is_whole" sIsWhole ["value"] f fd) (T : Bn mg) : FnOk P w K mg base CX0 1 f fd ["value"] (spP K CWhole) := by
  refine fnP F.F scIsWhole (fun ds R hC => ?_) (fun cdv A outer s H E ds R hr hC => ?_)
  · obtain ⟨n, rfl, _⟩ := hC; rfl
  · obtain ⟨d, rfl, hp, k⟩ := hC
    show ST _ _ [.fr d] _
    refine st_ret (ev_is (ev_and (ev_isi (d := d) (ev_var 0) hp (kit_intb hp) T.isinstance T.int (by decide +kernel)) fun _ => ev_one (ev_not (ev_isi (d := d) (ev_var 0) hp (kit_isb hp) T.isinstance T.bool (by decide +kernel)))) ?_) k
    cases d <;> first | rfl | cases hp
theorem ok_edgeFault (F : Df K mg "edge_fault" "edge_fault" sEdgeFault ["edge", "n"] f fd) (F2 : Df K mg "is_whole" "is_whole" sIsWhole ["value"] f2 fd2) (T : Bn mg) : FnOk P w K mg base CX0 2 f fd ["edge", "n"] (spP K CFault) := by
  have G2 : FnOk P w K mg base CX0 1 f2 fd2 ["value"] (spP K CWhole) := ok_isWhole F2 T
  refine fnP F.F scEdgeFault (fun ds R hC => ?_) (fun cdv A outer s H E ds R hr hC => ?_)
  · obtain ⟨e, n, rfl, _⟩ := hC; rfl
  · obtain ⟨e, n, rfl, h1, h2, k⟩ := hC
    show ST _ _ [.fr (encE e), .fr (.int (n : Nat)), .un] _
    have e0 : L2.atI [D.int (e.1 : Nat), .int (e.2 : Nat)] 0 = some (.int (e.1 : Nat)) := rfl
    have e1 : L2.atI [D.int (e.1 : Nat), .int (e.2 : Nat)] 1 = some (.int (e.2 : Nat)) := rfl
    refine st_if (et_w (ew_or (et_not (et_val (ev_isi2 (d := encE e) (ev_var 0) rfl kit_tuple_tuple kit_tuple_list rfl T.isinstance T.tuple (by decide +kernel) T.list (by decide +kernel)))) fun _ =>
      ew_or (et_neI (ev_lenT (ds := [.int (e.1 : Nat), .int (e.2 : Nat)]) T.len (ev_var 0)) ev_int) fun _ => ew_or1 (et_not (et_val (ev_allL (bs := [true, true]) rfl T.all (el_ofN (en_map (own := [("place", 2)]) (zs := [.bl true, .bl true]) (it_tup (ds := [.int (e.1 : Nat), .int (e.2 : Nat)]) (ev_var 0))
        ⟨scEdgeFault.nd, blkOk_by (N := nEdgeFault) (sc := defScope sEdgeFault) (by decide +kernel), rfl, by show 2 < 16777216; decide, rfl, rfl, fun i d z hd hz => ?_⟩))))))) (fun h => ?_) (fun h => ?_)
    · refine ⟨_, _, _, fun _ _ _ _ _ => tg_name 2 scEdgeFault.nd, fun _ _ _ _ _ => ev_call G2 hr F2.g F2.F.kp F2.b (ea_cons (ev_var 2) ea_nil) ⟨d, rfl, ?_, ?_⟩, rfl⟩
      · match i, hd with
        | 0, hd => cases hd; rfl
        | 1, hd => cases hd; rfl
      · match i, hd, hz with
        | 0, hd, hz => cases hd; cases hz; rfl
        | 1, hd, hz => cases hd; cases hz; rfl
    · simp at h
    · refine st_nil ?_
      have q : (decide ((0 : Int) ≤ (e.1 : Nat)) && decide (((e.1 : Nat) : Int) ≤ (e.2 : Nat)) && decide (((e.2 : Nat) : Int) < (n : Nat))) = true := by simp; omega
      exact st_ret (ev_ifT (q := true) (et_is (et_chain3 op_le op_le op_lt vle vle vlt ev_int (ev_ixT (ds := [.int (e.1 : Nat), .int (e.2 : Nat)]) (ev_var 0) ev_int e0) (ev_ixT (ds := [.int (e.1 : Nat), .int (e.2 : Nat)]) (ev_var 0) ev_int e1) (ev_var 1)) q) (fun _ => ev_non) (fun h => nomatch h)) k
abbrev rEnds (n : Nat) (es : Edges) (a : Addr) (l : List Nat) (s3 s4 : Slot) : Rho := [.fr (.int (n : Nat)), .fr (.tup (edgesD es)), .ow a (.l (natsD l)), s3, s4]
theorem ok_endsOf (F : Df K mg "ends_of" "ends_of" sEndsOf ["n", "edges"] f fd) (T : Bn mg) : FnOk P w K mg base CX0 1 f fd ["n", "edges"] (spP K CEnds) := by
  refine fnP F.F scEndsOf (fun ds R hC => ?_) (fun cdv A outer s H E ds R hr hC => ?_)
  · obtain ⟨n, es, rfl, _⟩ := hC; rfl
  · obtain ⟨n, es, rfl, hn, hes, k⟩ := hC
    show ST _ _ [.fr (.int (n : Nat)), .fr (.tup (edgesD es)), .un, .un, .un] _
    have at1 : ∀ (l : List Nat) (j : Nat), j < l.length → L2.atI (natsD l) (j : Int) = some (.int ((l.getD j 0 : Nat) : Nat)) := fun l j hj => natsD_at (by rw [List.getD_eq_getElem?_getD, List.getElem?_eq_getElem hj]; rfl)
    have ix1 : ∀ (l : List Nat) (j : Nat), j < l.length → ixN (natsD l).length (j : Int) = some j := fun l j hj => by rw [natsD_len]; exact ixN_of hj
    refine st_new (i := 2) (ds := natsD (List.replicate n 0)) (en_is (en_rep1 (z := .int 0) (i := (n : Nat)) (ev_lst (ds := [.int 0]) (ea_cons ev_int ea_nil) (by show 1 ≤ 100000; decide)) (ev_var 0) (by omega) (by omega)) ?_) scEndsOf.nd (fun a => ?_)
    · unfold natsD
      rw [List.map_replicate]
      rfl
    show ST _ _ (rEnds n es a (List.replicate n 0) .un .un) _
    refine st_cons (M := fun r => ∃ s3 s4, r = rEnds n es a (endsOf n es) s3 s4)
      (s_for (js := [3, 4]) (fun i r => ∃ s3 s4, r = rEnds n es a ((es.take i).foldl endsStep (List.replicate n 0)) s3 s4) (it_tup (ev_var 1)) ⟨.un, .un, rfl⟩ (fun i d r hd hI => ?_) (fun r hI => ?_)) (fun r hM => ?_)
    · obtain ⟨s3, s4, rfl⟩ := hI
      obtain ⟨e, he, rfl⟩ := map_get hd
      have hok := hes e (List.mem_of_getElem? he)
      rw [foldl_take he]
      generalize hl0 : (es.take i).foldl endsStep (List.replicate n 0) = l
      have hl : l.length = n := by rw [← hl0, endsFold_len, List.length_replicate]
      refine ⟨_, tg_tup2 (tg_name 3 scEndsOf.nd) (tg_name 4 scEndsOf.nd), ?_⟩
      refine st_to (ρ2 := rEnds n es a (bump l e.1) (.fr (.int (e.1 : Nat))) (.fr (.int (e.2 : Nat)))) (s_setI 2 (j := e.1) (ev_add (ev_ixL (el_own 2) (ev_var 3) (at1 l e.1 (by omega))) ev_int) (ev_var 3) rfl (.inl rfl) (ix1 l e.1 (by omega)) ?_) ?_
      · show (_ : List Slot) = _
        unfold rEnds
        rw [natsD_bump]
        rfl
      refine st_one (M := fun _ => True) (s_if (et_neI (ev_var 4) (ev_var 3)) (fun h => ?_) (fun h => ?_))
      · have ne : ¬ e.2 = e.1 := by
          have : ¬ ((e.2 : Nat) : Int) = (e.1 : Nat) := by simpa using h
          omega
        have hl2 := bump_len l e.1
        refine st_one (M := fun _ => True) (s_setI 2 (j := e.2) (ev_add (ev_ixL (el_own 2) (ev_var 4) (at1 (bump l e.1) e.2 (by omega))) ev_int) (ev_var 4) rfl (.inl rfl) (ix1 (bump l e.1) e.2 (by omega)) ?_)
        refine ⟨.fr (.int (e.1 : Nat)), .fr (.int (e.2 : Nat)), ?_⟩
        unfold rEnds endsStep
        rw [if_neg ne, natsD_bump (l := bump l e.1)]
        rfl
      · have ne : e.2 = e.1 := by
          have : ((e.2 : Nat) : Int) = (e.1 : Nat) := by simpa using h
          omega
        refine st_nil ⟨.fr (.int (e.1 : Nat)), .fr (.int (e.2 : Nat)), ?_⟩
        unfold endsStep
        rw [if_pos ne]
    · obtain ⟨s3, s4, rfl⟩ := hI
      refine ⟨s3, s4, ?_⟩
      rw [edgesD_len, List.take_length]
      rfl
    · obtain ⟨s3, s4, rfl⟩ := hM
      exact st_ret (ev_give 2) k
end
end G

set_option Elab.async false
set_option maxRecDepth 100000
set_option maxHeartbeats 4000000
set_option linter.all false
namespace G
open PySem L2 PyProof.Rows
local macro_rules | `(tactic| walk_at "rho") => `(tactic| (show (_ : List Slot) = _; (try dsimp only [List.set_cons_succ, List.set_cons_zero, List.map_cons, List.map_nil, List.cons_append, List.nil_append, relend, unR]); all_goals exact rfl))
def bump2 (t : List (List Nat)) (i j : Nat) : List (List Nat) := t.set i (bump (t.getD i []) j)
def tabStep (t : List (List Nat)) (e : Nat × Nat) : List (List Nat) := if e.1 = e.2 then bump2 t e.1 e.2 else bump2 (bump2 t e.1 e.2) e.2 e.1
def tabOf (n : Nat) (es : Edges) : List (List Nat) := es.foldl tabStep (List.replicate n (List.replicate n 0))
def Sq (n : Nat) (t : List (List Nat)) : Prop := t.length = n ∧ ∀ i, i < n → (t.getD i []).length = n
theorem Sq.bump2 {n i j : Nat} {t : List (List Nat)} (h : Sq n t) : Sq n (bump2 t i j) := by
  unfold G.bump2
  refine ⟨by rw [List.length_set]; exact h.1, fun k hk => ?_⟩
  rw [List.getD_eq_getElem?_getD]
  by_cases e : i = k
  · subst e
    rw [List.getElem?_set_self (by rw [h.1]; exact hk)]
    show (bump (t.getD i []) j).length = n
    rw [bump_len]
    exact h.2 i hk
  · rw [List.getElem?_set_ne e, ← List.getD_eq_getElem?_getD]
    exact h.2 k hk
theorem Sq.step {n : Nat} {t : List (List Nat)} (h : Sq n t) (e : Nat × Nat) : Sq n (tabStep t e) := by
  unfold tabStep
  split
  · exact h.bump2
  · exact h.bump2.bump2
theorem Sq.fold {n : Nat} (es : Edges) : ∀ {t : List (List Nat)}, Sq n t → Sq n (es.foldl tabStep t) := by
  induction es with
  | nil => intro t h; exact h
  | cons e es ih => intro t h; exact ih (h.step e)
theorem Sq.zero (n : Nat) : Sq n (List.replicate n (List.replicate n 0)) := ⟨List.length_replicate, fun i hi => by
  rw [List.getD_eq_getElem?_getD, List.getElem?_replicate, if_pos hi]
  simp⟩
def rowsD (t : List (List Nat)) : List (List D) := t.map natsD
theorem rowsD_get {n i : Nat} {t : List (List Nat)} (h : Sq n t) (hi : i < n) : (rowsD t)[i]? = some (natsD (t.getD i [])) := by
  unfold rowsD
  rw [List.getElem?_map, List.getD_eq_getElem?_getD, List.getElem?_eq_getElem (by rw [h.1]; exact hi)]
  rfl
theorem rowsD_bump2 {t : List (List Nat)} {i j : Nat} : rowsD (bump2 t i j) = (rowsD t).set i ((natsD (t.getD i [])).set j (.int (((t.getD i []).getD j 0 : Nat) + 1))) := by
  unfold bump2 rowsD
  rw [List.map_set, natsD_bump]
theorem at_nats (l : List Nat) (j : Nat) (hj : j < l.length) : L2.atI (natsD l) (j : Int) = some (.int ((l.getD j 0 : Nat) : Nat)) := natsD_at (by rw [List.getD_eq_getElem?_getD, List.getElem?_eq_getElem hj]; rfl)
theorem ix_nats (l : List Nat) (j : Nat) (hj : j < l.length) : ixN (natsD l).length (j : Int) = some j := by rw [natsD_len]; exact ixN_of hj
def CTab : CP := fun ds R => ∃ (n : Nat) (es : Edges), ds = [.int (n : Nat), .tup (edgesD es)] ∧ n ≤ 64 ∧ EdgeOk n es ∧ R (.tup ((tabOf n es).map fun r => .tup (natsD r)))
def CLawTab : CP := fun ds R => ∃ (n : Nat) (es : Edges), ds = [.int (n : Nat), .lst (edgesD es)] ∧ n ≤ 64 ∧ EdgeOk n es ∧ R (.lst ((tabOf n es).map fun r => .lst (natsD r)))
section
variable {P : Program} {w : World} {K : PySem.W.Frag} {mg : Str → Option Value} {base : Heap} {f f2 f3 : Addr} {fd fd2 fd3 : FuncData}
abbrev rTableOf (n : Nat) (es : Edges) (a : Addr) (as : List Addr) (t : List (List Nat)) (s3 s4 : Slot) : Rho := [.fr (.int (n : Nat)), .fr (.tup (edgesD es)), .ow a (.rows as (rowsD t)), s3, s4, .un, .un]
theorem ok_TableOf (F : Df K mg "table_of" "table_of" sTableOf ["n", "edges"] f fd) (T : Bn mg) : FnOk P w K mg base CX0 1 f fd ["n", "edges"] (spP K CTab) := by
  refine fnP F.F scTableOf (fun ds R hC => ?_) (fun cdv A outer s H E ds R hr hC => ?_)
  · obtain ⟨n, es, rfl, _⟩ := hC; rfl
  · obtain ⟨n, es, rfl, hn, hes, k⟩ := hC
    show ST _ _ [.fr (.int (n : Nat)), .fr (.tup (edgesD es)), .un, .un, .un, .un, .un] _
    refine st_cons (M := fun r => ∃ a as, r = rTableOf n es a as (List.replicate n (List.replicate n 0)) .un .un) ?_ ?_
    · refine s_rows (i := 2) (own := [("place", 5)]) (ds := rgD 0 n) (dss := rowsD (List.replicate n (List.replicate n 0))) (it_range (n := ((n : Nat) : Int)) (ev_var 0) T.range (by omega) (by omega)) scTableOf.nd (blkOk_by (N := nTableOf) (sc := defScope sTableOf) (by decide +kernel))
        (by rw [rgD_len]; simp [rowsD]) (by rw [rgD_len]; omega) rfl (fun i d hd => ?_) (fun a as => ⟨a, as, rfl⟩)
      obtain ⟨hi, rfl⟩ := rgD_get hd
      refine ⟨_, _, _, natsD (List.replicate n 0), ?_, ?_, fun _ _ _ _ _ => tg_name 5 scTableOf.nd, fun _ _ _ _ _ => en_is (en_rep1 (z := .int 0) (i := (n : Nat)) (ev_lst (ds := [.int 0]) (ea_cons ev_int ea_nil) (by show 1 ≤ 100000; decide)) (ev_var 0) (by omega) (by omega)) ?_⟩
      · unfold rowsD
        rw [List.map_replicate, List.getElem?_replicate, if_pos hi]
      · rfl
      · unfold natsD
        rw [List.map_replicate]
        rfl
    rintro _ ⟨a, as, rfl⟩
    refine st_cons (M := fun r => ∃ s3 s4, r = rTableOf n es a as (tabOf n es) s3 s4)
      (s_for (js := [3, 4]) (fun i r => ∃ s3 s4, r = rTableOf n es a as ((es.take i).foldl tabStep (List.replicate n (List.replicate n 0))) s3 s4) (it_tup (ev_var 1)) ⟨.un, .un, rfl⟩ (fun i d r hd hI => ?_) (fun r hI => ?_)) (fun r hM => ?_)
    · obtain ⟨s3, s4, rfl⟩ := hI
      obtain ⟨e, he, rfl⟩ := map_get hd
      have hok := hes e (List.mem_of_getElem? he)
      rw [foldl_take he]
      have hs : Sq n ((es.take i).foldl tabStep (List.replicate n (List.replicate n 0))) := (Sq.zero n).fold _
      generalize (es.take i).foldl tabStep (List.replicate n (List.replicate n 0)) = t at hs
      refine ⟨_, tg_tup2 (tg_name 3 scTableOf.nd) (tg_name 4 scTableOf.nd), ?_⟩
      have h1 := hs.2 e.1 (by omega)
      refine st_to (ρ2 := rTableOf n es a as (bump2 t e.1 e.2) (.fr (.int (e.1 : Nat))) (.fr (.int (e.2 : Nat)))) (s_setR 2 (n := e.1) (j := e.2) (ev_add (ev_ixL (el_row 2 (ev_var 3) (rowsD_get hs (by omega))) (ev_var 4) (at_nats _ e.2 (by omega))) ev_int) (ev_var 3) (ev_var 4) rfl (rowsD_get hs (by omega)) (ix_nats _ e.2 (by omega)) ?_) ?_
      · show (_ : List Slot) = _
        unfold rTableOf
        rw [rowsD_bump2]
        rfl
      have hs2 : Sq n (bump2 t e.1 e.2) := hs.bump2
      have h2 := hs2.2 e.2 (by omega)
      refine st_one (M := fun _ => True) (s_if (et_neI (ev_var 3) (ev_var 4)) (fun h => ?_) (fun h => ?_))
      · have ne : ¬ e.1 = e.2 := by
          have : ¬ ((e.1 : Nat) : Int) = (e.2 : Nat) := by simpa using h
          omega
        refine st_one (M := fun _ => True) (s_setR 2 (n := e.2) (j := e.1) (ev_add (ev_ixL (el_row 2 (ev_var 4) (rowsD_get hs2 (by omega))) (ev_var 3) (at_nats _ e.1 (by omega))) ev_int) (ev_var 4) (ev_var 3) rfl (rowsD_get hs2 (by omega)) (ix_nats _ e.1 (by omega)) ?_)
        refine ⟨.fr (.int (e.1 : Nat)), .fr (.int (e.2 : Nat)), ?_⟩
        unfold rTableOf tabStep
        rw [if_neg ne, rowsD_bump2 (t := bump2 t e.1 e.2)]
        rfl
      · have ne : e.1 = e.2 := by
          have : ((e.1 : Nat) : Int) = (e.2 : Nat) := by simpa using h
          omega
        refine st_nil ⟨.fr (.int (e.1 : Nat)), .fr (.int (e.2 : Nat)), ?_⟩
        unfold tabStep
        rw [if_pos ne]
    · obtain ⟨s3, s4, rfl⟩ := hI
      refine ⟨s3, s4, ?_⟩
      rw [edgesD_len, List.take_length]
      rfl
    · obtain ⟨s3, s4, rfl⟩ := hM
      refine st_iceR (i := 2) rfl ?_
      have hz : (tabOf n es).length = n := ((Sq.zero n).fold es).1
      refine st_ret (ev_tupleL T.tuple (el_ofN (en_map (own := [("row", 6)]) (zs := (tabOf n es).map fun r => D.tup (natsD r)) (it_list (ev_var 2)) ⟨scTableOf.nd, blkOk_by (N := nTableOf) (sc := defScope sTableOf) (by decide +kernel), rfl, ?_, rfl, ?_, fun i d z hd hz' => ?_⟩))) k
      · rw [List.length_map]
        unfold rowsD
        rw [List.length_map]
        omega
      · unfold rowsD
        simp
      · unfold rowsD at hd
        rw [List.map_map] at hd
        obtain ⟨r, h1, rfl⟩ := map_get hd
        obtain ⟨r', h2, rfl⟩ := map_get hz'
        rw [h1] at h2
        cases h2
        exact ⟨_, _, _, fun _ _ _ _ _ => tg_name 6 scTableOf.nd, fun _ _ _ _ _ => ev_tupleL T.tuple (el_ofV (ds := natsD r) (ev_var 6)), rfl⟩
abbrev rLawTable (n : Nat) (es : Edges) (a : Addr) (as : List Addr) (t : List (List Nat)) (s3 s4 : Slot) : Rho := [.fr (.int (n : Nat)), .fr (.lst (edgesD es)), .ow a (.rows as (rowsD t)), s3, s4, .un]
theorem ok_LawTable (F : Df K mg "_law_table" "_law_table" sLawTable ["n", "edges"] f fd) (T : Bn mg) : FnOk P w K mg base CX0 1 f fd ["n", "edges"] (spP K CLawTab) := by
  refine fnP F.F scLawTable (fun ds R hC => ?_) (fun cdv A outer s H E ds R hr hC => ?_)
  · obtain ⟨n, es, rfl, _⟩ := hC; rfl
  · obtain ⟨n, es, rfl, hn, hes, k⟩ := hC
    show ST _ _ [.fr (.int (n : Nat)), .fr (.lst (edgesD es)), .un, .un, .un, .un] _
    refine st_cons (M := fun r => ∃ a as, r = rLawTable n es a as (List.replicate n (List.replicate n 0)) .un .un) ?_ ?_
    · refine s_rows (i := 2) (own := [("place", 5)]) (ds := rgD 0 n) (dss := rowsD (List.replicate n (List.replicate n 0))) (it_range (n := ((n : Nat) : Int)) (ev_var 0) T.range (by omega) (by omega)) scLawTable.nd (blkOk_by (N := nLawTable) (sc := defScope sLawTable) (by decide +kernel))
        (by rw [rgD_len]; simp [rowsD]) (by rw [rgD_len]; omega) rfl (fun i d hd => ?_) (fun a as => ⟨a, as, rfl⟩)
      obtain ⟨hi, rfl⟩ := rgD_get hd
      refine ⟨_, _, _, natsD (List.replicate n 0), ?_, ?_, fun _ _ _ _ _ => tg_name 5 scLawTable.nd, fun _ _ _ _ _ => en_is (en_rep1 (z := .int 0) (i := (n : Nat)) (ev_lst (ds := [.int 0]) (ea_cons ev_int ea_nil) (by show 1 ≤ 100000; decide)) (ev_var 0) (by omega) (by omega)) ?_⟩
      · unfold rowsD
        rw [List.map_replicate, List.getElem?_replicate, if_pos hi]
      · rfl
      · unfold natsD
        rw [List.map_replicate]
        rfl
    rintro _ ⟨a, as, rfl⟩
    refine st_cons (M := fun r => ∃ s3 s4, r = rLawTable n es a as (tabOf n es) s3 s4)
      (s_for (js := [3, 4]) (fun i r => ∃ s3 s4, r = rLawTable n es a as ((es.take i).foldl tabStep (List.replicate n (List.replicate n 0))) s3 s4) (it_list (ev_var 1)) ⟨.un, .un, rfl⟩ (fun i d r hd hI => ?_) (fun r hI => ?_)) (fun r hM => ?_)
    · obtain ⟨s3, s4, rfl⟩ := hI
      obtain ⟨e, he, rfl⟩ := map_get hd
      have hok := hes e (List.mem_of_getElem? he)
      rw [foldl_take he]
      have hs : Sq n ((es.take i).foldl tabStep (List.replicate n (List.replicate n 0))) := (Sq.zero n).fold _
      generalize (es.take i).foldl tabStep (List.replicate n (List.replicate n 0)) = t at hs
      refine ⟨_, tg_tup2 (tg_name 3 scLawTable.nd) (tg_name 4 scLawTable.nd), ?_⟩
      have h1 := hs.2 e.1 (by omega)
      refine st_to (ρ2 := rLawTable n es a as (bump2 t e.1 e.2) (.fr (.int (e.1 : Nat))) (.fr (.int (e.2 : Nat)))) (s_setR 2 (n := e.1) (j := e.2) (ev_add (ev_ixL (el_row 2 (ev_var 3) (rowsD_get hs (by omega))) (ev_var 4) (at_nats _ e.2 (by omega))) ev_int) (ev_var 3) (ev_var 4) rfl (rowsD_get hs (by omega)) (ix_nats _ e.2 (by omega)) ?_) ?_
      · show (_ : List Slot) = _
        unfold rLawTable
        rw [rowsD_bump2]
        rfl
      have hs2 : Sq n (bump2 t e.1 e.2) := hs.bump2
      have h2 := hs2.2 e.2 (by omega)
      refine st_one (M := fun _ => True) (s_if (et_neI (ev_var 3) (ev_var 4)) (fun h => ?_) (fun h => ?_))
      · have ne : ¬ e.1 = e.2 := by
          have : ¬ ((e.1 : Nat) : Int) = (e.2 : Nat) := by simpa using h
          omega
        refine st_one (M := fun _ => True) (s_setR 2 (n := e.2) (j := e.1) (ev_add (ev_ixL (el_row 2 (ev_var 4) (rowsD_get hs2 (by omega))) (ev_var 3) (at_nats _ e.1 (by omega))) ev_int) (ev_var 4) (ev_var 3) rfl (rowsD_get hs2 (by omega)) (ix_nats _ e.1 (by omega)) ?_)
        refine ⟨.fr (.int (e.1 : Nat)), .fr (.int (e.2 : Nat)), ?_⟩
        unfold rLawTable tabStep
        rw [if_neg ne, rowsD_bump2 (t := bump2 t e.1 e.2)]
        rfl
      · have ne : e.1 = e.2 := by
          have : ((e.1 : Nat) : Int) = (e.2 : Nat) := by simpa using h
          omega
        refine st_nil ⟨.fr (.int (e.1 : Nat)), .fr (.int (e.2 : Nat)), ?_⟩
        unfold tabStep
        rw [if_pos ne]
    · obtain ⟨s3, s4, rfl⟩ := hI
      refine ⟨s3, s4, ?_⟩
      rw [edgesD_len, List.take_length]
      rfl
    · obtain ⟨s3, s4, rfl⟩ := hM
      refine st_iceR (i := 2) rfl ?_
      refine st_ret (ev_is (ev_var 2) ?_) k
      unfold rowsD
      rw [List.map_map]
      rfl
end
end G

set_option Elab.async false
set_option maxRecDepth 100000
set_option linter.all false
namespace G
open PySem L2 PyProof.Rows
theorem bump_get {l : List Nat} {i p : Nat} (hi : i < l.length) : (bump l i).getD p 0 = l.getD p 0 + if i = p then 1 else 0 := by
  unfold bump
  rw [List.getD_eq_getElem?_getD]
  by_cases e : i = p
  · subst e
    rw [List.getElem?_set_self hi, if_pos rfl]
    rfl
  · rw [List.getElem?_set_ne e, if_neg e, ← List.getD_eq_getElem?_getD]
    rfl
theorem endsStep_get {l : List Nat} {e : Nat × Nat} {p : Nat} (h1 : e.1 < l.length) (h2 : e.2 < l.length) : (endsStep l e).getD p 0 = (if e.1 = p ∨ e.2 = p then 1 else 0) + l.getD p 0 := by
  unfold endsStep
  by_cases e0 : e.2 = e.1
  · rw [if_pos e0, bump_get h1, e0]
    simp
    omega
  · rw [if_neg e0, bump_get (by rw [bump_len]; exact h2), bump_get h1]
    by_cases a : e.1 = p
    · subst a; simp [e0]; omega
    · by_cases b : e.2 = p
      · subst b; simp [a]; omega
      · simp [a, b]
theorem endsFold_get (p : Nat) : ∀ (es : Edges) (l : List Nat), EdgeOk l.length es → (es.foldl endsStep l).getD p 0 = dg es p + l.getD p 0
  | [], l, _ => by rw [dg_nil]; simp
  | e :: es, l, h => by
    have h0 := h e (by simp)
    rw [List.foldl_cons, endsFold_get p es _ (fun x hx => by rw [endsStep_len]; exact h x (by simp [hx])), endsStep_get (by omega) h0.2, dg_cons]
    omega
theorem endsOf_reg {n d : Nat} {es : Edges} (r : Reg n d es) : endsOf n es = List.replicate n d := by
  have hl : (endsOf n es).length = n := by unfold endsOf; rw [endsFold_len, List.length_replicate]
  apply List.ext_getElem?
  intro p
  by_cases hp : p < n
  · have q := endsFold_get p es (List.replicate n 0) (by rw [List.length_replicate]; exact r.1)
    rw [r.2 p hp] at q
    have e0 : (List.replicate n 0).getD p 0 = 0 := by
      rw [List.getD_eq_getElem?_getD, List.getElem?_replicate]; split <;> rfl
    rw [e0] at q
    have q2 : (endsOf n es).getD p 0 = d := q
    rw [List.getD_eq_getElem?_getD, List.getElem?_eq_getElem (by omega)] at q2
    rw [List.getElem?_eq_getElem (by omega), List.getElem?_replicate, if_pos hp]
    congr 1
  · rw [List.getElem?_eq_none (by omega), List.getElem?_eq_none (by simp; omega)]
def natLe (x y : Nat × Nat) : Bool := decide (x.1 < y.1) || (decide (x.1 = y.1) && decide (x.2 ≤ y.2))
def sortE (es : Edges) : Edges := es.mergeSort natLe
def toI (e : Nat × Nat) : Int × Int := (e.1, e.2)
theorem natLe_tr (a b c : Nat × Nat) (h1 : natLe a b = true) (h2 : natLe b c = true) : natLe a c = true := by simp [natLe] at *; omega
theorem natLe_to (a b : Nat × Nat) : (natLe a b || natLe b a) = true := by simp [natLe]; omega
theorem sortE_perm (es : Edges) : (sortE es).Perm es := List.mergeSort_perm es _
theorem sortE_len (es : Edges) : (sortE es).length = es.length := (sortE_perm es).length_eq
theorem sortE_eq {es fs : Edges} (h : es.Perm fs) : sortE es = sortE fs := by
  have h1 := List.pairwise_mergeSort natLe_tr natLe_to es
  have h2 := List.pairwise_mergeSort natLe_tr natLe_to fs
  exact (((sortE_perm es).trans h).trans (sortE_perm fs).symm).eq_of_pairwise (fun a b _ _ h1 h2 => by
    simp [natLe] at h1 h2
    exact Prod.ext (by omega) (by omega)) h1 h2
theorem edgesD_pair (es : Edges) : edgesD es = (es.map toI).map pairD := by
  unfold edgesD
  rw [List.map_map]
  rfl
theorem sort_edges (es : Edges) : ((es.map toI).mergeSort pairLe).map pairD = edgesD (sortE es) := by
  rw [edgesD_pair]
  congr 1
  refine (sort_pairs ((sortE_perm es).map toI) ?_).symm
  refine List.pairwise_map.mpr ((List.pairwise_mergeSort natLe_tr natLe_to es).imp fun {a b} h => ?_)
  have h1 : a.1 < b.1 ∨ (a.1 = b.1 ∧ a.2 ≤ b.2) := by simpa [natLe] using h
  have h2 : ((a.1 : Nat) : Int) < (b.1 : Nat) ∨ (((a.1 : Nat) : Int) = (b.1 : Nat) ∧ ((a.2 : Nat) : Int) ≤ (b.2 : Nat)) := by omega
  show (decide (((a.1 : Nat) : Int) < (b.1 : Nat)) || (decide (((a.1 : Nat) : Int) = (b.1 : Nat)) && decide (((a.2 : Nat) : Int) ≤ (b.2 : Nat)))) = true
  rcases h2 with h | ⟨h3, h4⟩
  · rw [decide_eq_true h, Bool.true_or]
  · rw [decide_eq_true h3, decide_eq_true h4, Bool.true_and, Bool.or_true]
end G

set_option Elab.async false
set_option maxRecDepth 100000
set_option maxHeartbeats 4000000
set_option linter.all false
namespace G
open PySem L2 PyProof.Rows
local macro_rules | `(tactic| walk_at "rho") => `(tactic| (show (_ : List Slot) = _; (try dsimp only [List.set_cons_succ, List.set_cons_zero, List.map_cons, List.map_nil, List.cons_append, List.nil_append, relend, unR]); all_goals exact rfl))
/-- a global constant that is a number -/
def GInt (mg : Str → Option Value) (x : Str) (i : Int) : Prop := ∃ u, mg x = some u ∧ RelV (.int i) u
theorem ev_gint {X : Cx} {x : Str} {i : Int} {ρ : Rho} {pos : Pos} (h : GInt X.mg x i) (hg : Gl X x := by rfl) (hn : (x == ("__debug__" : Str)) = false := by decide) : EV X (.Name x pos) true ρ (.int i) ρ :=
  let ⟨_, h1, h2⟩ := h
  PE.imp (pe_glob hg h1 h2 hn) fun σ H Q ⟨w, B, R, k⟩ => k B H _ R (Stp.refl R.ext) (.int i)
/-- a slot's value is forgotten -/
theorem st_un {X : Cx} {ss : List Stmt} {ρ : Rho} {DD : DEnds} (i : Nat) (k : ST X ss (ρ.set i .un) DD) : ST X ss ρ DD := PSs.imp k fun E σ H ⟨w, B, R, hl, g⟩ => ⟨w, B, R.weak rfl (by rw [List.length_set]) fun j s hs => by
  rcases set_cases hs with ⟨_, e, _⟩ | ⟨_, h⟩
  · exact .inl e
  · exact .inr ⟨h, rfl⟩, hl, g⟩
/-- the class of graphs -/
structure GCls (K : PySem.W.Frag) (mg : Str → Option Value) (Cl f : Addr) : Prop where
  c : Cls K Cl
  n : NoAttr K Cl "n"
  edges : NoAttr K Cl "edges"
  degree : NoAttr K Cl "degree"
  table : NoAttr K Cl "_table"
  kept : NoAttr K Cl "kept"
  makes : Mk K Cl f
  g : mg "Graph" = some (.ref Cl)
def tabD (n : Nat) (es : Edges) : D := .tup ((tabOf n (sortE es)).map fun r => .tup (natsD r))
def graphF (n d : Nat) (es : Edges) : List (Str × D) := [("n", .int (n : Nat)), ("edges", .tup (edgesD (sortE es))), ("degree", .int (d : Nat)), ("_table", tabD n es), ("kept", .any)]
def CInit : CO := fun ds R _ => ∃ (n d : Nat) (es : Edges), ds = [.int (n : Nat), .lst (edgesD es)] ∧ 1 ≤ n ∧ n ≤ 64 ∧ Reg n d es ∧ es.length ≤ 4096 ∧ d ≤ 64 ∧ R (graphF n d es)
section
variable {P : Program} {w : World} {K : PySem.W.Frag} {mg : Str → Option Value} {base : Heap} {f f2 f3 f4 f5 : Addr} {fd fd2 fd3 fd4 fd5 : FuncData}
theorem ok_init {Cl : Addr} (F : Fun K "__init__" "Graph.__init__" sGraphInit f fd) (GC : GCls K mg Cl f) (F2 : Df K mg "is_whole" "is_whole" sIsWhole ["value"] f2 fd2) (F3 : Df K mg "edge_fault" "edge_fault" sEdgeFault ["edge", "n"] f3 fd3) (F4 : Df K mg "ends_of" "ends_of" sEndsOf ["n", "edges"] f4 fd4) (F5 : Df K mg "table_of" "table_of" sTableOf ["n", "edges"] f5 fd5)
    (i1 : GInt mg "MOST_PLACES" 64) (i2 : GInt mg "MOST_DEGREE" 64) (i3 : GInt mg "MOST_EDGES" 4096) (T : Bn mg) : FnOk P w K mg base (L2.CX P w) 3 f fd ["self", "n", "edges"] (spO K Cl CInit) := by
  have G2 : FnOk P w K mg base CX0 1 f2 fd2 ["value"] (spP K CWhole) := ok_isWhole F2 T
  have G3 : FnOk P w K mg base CX0 2 f3 fd3 ["edge", "n"] (spP K CFault) := ok_edgeFault F3 F2 T
  have G4 : FnOk P w K mg base CX0 1 f4 fd4 ["n", "edges"] (spP K CEnds) := ok_endsOf F4 T
  have G5 : FnOk P w K mg base CX0 1 f5 fd5 ["n", "edges"] (spP K CTab) := ok_TableOf F5 T
  refine fnO F scGraphInit (fun ds R RX hC => ?_) (fun cdv A outer s H E a ds R RX hr hC => ?_)
  · obtain ⟨n, d, es, rfl, _⟩ := hC; rfl
  · obtain ⟨n, d, es, rfl, hn1, hn, hR, hz, hd, k⟩ := hC
    have r1 := hr.mono (show 1 ≤ 2 by omega)
    show ST _ _ [.pr a (.ob Cl []), .fr (.int (n : Nat)), .fr (.lst (edgesD es)), .un, .un, .un, .un, .un] _
    refine st_if (et_w (ew_or (et_not (et_val (ev_call G2 r1 F2.g F2.F.kp F2.b (ea_cons (ev_var 1) ea_nil) ⟨_, rfl, rfl, rfl⟩))) fun _ => ew_or1 (et_not (et_chain op_le op_le vle vle ev_int (ev_var 1) (ev_gint i1))))) (fun h => ?_) (fun h => ?_)
    · simp [D.whole] at h
      omega
    refine st_nil ?_
    refine st_if (et_w (ew_or (et_not (et_val (ev_isi2 (d := .lst (edgesD es)) (ev_var 2) rfl kit_list_tuple kit_list_list rfl T.isinstance T.tuple (by decide +kernel) T.list (by decide +kernel)))) fun _ => ew_or1 (et_gt (ev_lenL T.len (el_ofV (ds := edgesD es) (ev_var 2))) (ev_gint i3)))) (fun h => ?_) (fun h => ?_)
    · simp [edgesD_len] at h
      omega
    refine st_nil ?_
    refine st_cons (M := fun r => ∃ s3 s4 s5, r = [.pr a (.ob Cl []), .fr (.int (n : Nat)), .fr (.lst (edgesD es)), s3, s4, s5, .un, .un])
      (s_for (js := [3, 4]) (fun i r => ∃ s3 s4 s5, r = [.pr a (.ob Cl []), .fr (.int (n : Nat)), .fr (.lst (edgesD es)), s3, s4, s5, .un, .un]) (it_enum (ds := edgesD es) (ev_var 2) T.enumerate) ⟨.un, .un, .un, rfl⟩ (fun i x r hx hI => ?_) (fun r hI => hI)) (fun r hM => ?_)
    · obtain ⟨s3, s4, s5, rfl⟩ := hI
      obtain ⟨⟨x, j⟩, h1, rfl⟩ := map_get hx
      have hj : (edgesD es)[i]? = some x ∧ j = i := by
        rw [List.getElem?_zipIdx] at h1
        cases e : (edgesD es)[i]? with
        | none => rw [e] at h1; cases h1
        | some u => rw [e] at h1; simp at h1; exact ⟨by rw [h1.1], h1.2.symm⟩
      obtain ⟨he, rfl⟩ := hj
      obtain ⟨e, he2, rfl⟩ := map_get he
      have hok := hR.1 e (List.mem_of_getElem? he2)
      refine ⟨_, tg_tup2 (tg_name 3 scGraphInit.nd) (tg_name 4 scGraphInit.nd), ?_⟩
      refine st_to (s_asg (i := 5) (ev_call G3 hr F3.g F3.F.kp F3.b (ea_cons (ev_var 4) (ea_cons (ev_var 1) ea_nil)) ⟨e, n, rfl, hok.1, hok.2, rfl⟩) scGraphInit.nd (by walk_at "rho")) ?_
      refine st_if (et_notN (x := .non) (ev_var 5)) (fun h => nomatch h) (fun _ => ?_)
      exact st_nil (st_nil ⟨.fr (.int (j : Nat)), .fr (encE e), .fr .non, rfl⟩)
    · obtain ⟨s3, s4, s5, rfl⟩ := hM
      refine st_to (s_fld 0 (ev_var 1) GC.c GC.n rfl (by walk_at "rho")) ?_
      refine st_un 4 ?_
      have hes : ∀ x ∈ sortE es, x.1 ≤ x.2 ∧ x.2 < n := fun x hx => hR.1 x ((sortE_perm es).mem_iff.mp hx)
      have hR2 : Reg n d (sortE es) := hR.perm (sortE_perm es)
      refine st_to (ρ2 := [.pr a (.ob Cl [("n", .int (n : Nat)), ("edges", .tup (edgesD (sortE es)))]), .fr (.int (n : Nat)), .fr (.lst (edgesD es)), s3, .un, s5, .un, .un]) (s_fld 0 (ev_is (ev_tupleL T.tuple (el_ofN (en_sortP (es := es.map toI) T.sorted (el_ofN (en_map (own := [("edge", 4)]) (zs := (es.map toI).map pairD) (it_list (ds := edgesD es) (ev_var 2)) ⟨scGraphInit.nd, blkOk_by (N := nGraphInit) (sc := defScope sGraphInit) (by decide +kernel), rfl, ?_, rfl, ?_, fun i x z hx hz => ?_⟩))))) (d' := .tup (edgesD (sortE es))) ?_) GC.c GC.edges rfl ?_ (by show 1 < 1000; decide)) ?_
      · rw [edgesD_len]; omega
      · rw [← edgesD_pair]
      · rw [← edgesD_pair, hx] at hz
        cases hz
        obtain ⟨e, _, rfl⟩ := map_get hx
        exact ⟨_, _, _, fun _ _ _ _ _ => tg_name 4 scGraphInit.nd, fun _ _ _ _ _ => ev_tupleT (ds := [.int (e.1 : Nat), .int (e.2 : Nat)]) T.tuple (ev_var 4), rfl⟩
      · rw [sort_edges]
      · rfl
      have e0 : endsOf n (sortE es) = List.replicate n d := endsOf_reg hR2
      have at1 : ∀ p, p < n → L2.atI (natsD (List.replicate n d)) (p : Int) = some (.int (d : Nat)) := fun p hp => natsD_at (by rw [List.getElem?_replicate, if_pos hp])
      refine st_to (s_asg (i := 6) (ev_is (ev_call G4 r1 F4.g F4.F.kp F4.b (ea_cons (ev_var 1) (ea_cons (ev_fldO 0 GC.c GC.edges rfl) ea_nil)) ⟨n, sortE es, rfl, hn, hes, rfl⟩) (by rw [e0])) scGraphInit.nd (by walk_at "rho")) ?_
      refine st_cons (M := fun r => ∃ s7, r = [.pr a (.ob Cl [("n", .int (n : Nat)), ("edges", .tup (edgesD (sortE es)))]), .fr (.int (n : Nat)), .fr (.lst (edgesD es)), s3, .un, s5, .fr (.lst (natsD (List.replicate n d))), s7])
        (s_for (js := [7]) (fun i r => ∃ s7, r = [.pr a (.ob Cl [("n", .int (n : Nat)), ("edges", .tup (edgesD (sortE es)))]), .fr (.int (n : Nat)), .fr (.lst (edgesD es)), s3, .un, s5, .fr (.lst (natsD (List.replicate n d))), s7]) (it_range (n := ((n : Nat) : Int)) (ev_var 1) T.range (by omega) (by omega)) ⟨.un, rfl⟩ (fun i x r hx hI => ?_) (fun r hI => hI)) (fun r hM => ?_)
      · obtain ⟨s7, rfl⟩ := hI
        obtain ⟨hi, rfl⟩ := rgD_get hx
        have hi : i < n := by simpa using hi
        refine ⟨_, tg_name 7 scGraphInit.nd, ?_⟩
        refine st_if (et_neI (ev_ixF (ev_var 6) (ev_var 7) (z := .int (d : Nat)) (by rw [Int.zero_add]; exact at1 i hi)) (ev_ixF (ev_var 6) ev_int (z := .int (d : Nat)) (at1 0 (by omega)))) (fun h => ?_) (fun _ => ?_)
        · simp at h
        · exact st_nil (st_nil ⟨.fr (.int (0 + (i : Nat))), rfl⟩)
      · obtain ⟨s7, rfl⟩ := hM
        refine st_if (et_gt (ev_ixF (ev_var 6) ev_int (z := .int (d : Nat)) (at1 0 (by omega))) (ev_gint i2)) (fun h => ?_) (fun _ => ?_)
        · simp at h
          omega
        refine st_nil ?_
        refine st_to (s_fld 0 (ev_ixF (ev_var 6) ev_int (z := .int (d : Nat)) (at1 0 (by omega))) GC.c GC.degree rfl (by walk_at "rho") (by show 2 < 1000; decide)) ?_
        refine st_to (s_fld 0 (ev_call G5 r1 F5.g F5.F.kp F5.b (ea_cons (ev_var 1) (ea_cons (ev_fldO 0 GC.c GC.edges rfl) ea_nil)) ⟨n, sortE es, rfl, hn, hes, rfl⟩) GC.c GC.table rfl (by walk_at "rho") (by show 3 < 1000; decide)) ?_
        exact st_one (M := fun _ => True) (s_fld 0 ev_dict0 GC.c GC.kept rfl ⟨_, rfl, k⟩ (by show 4 < 1000; decide))
end
end G

set_option Elab.async false
set_option maxRecDepth 100000
set_option maxHeartbeats 2000000
set_option linter.all false
/-! G18: the law's script; promises of new lists. -/
namespace G
open PySem L2 PyProof.Rows
section
variable {X : Cx} {tg e : Expr} {es : List Expr} {p : Bool} {ρ ρ1 : Rho} {ns : List Int} {ds zs : List D} {pos pp : Pos} {x : Str}
theorem it_scr (h : EV X e p ρ (.scr ns) ρ1) : ITR X tg e p ρ (ns.map .int) ρ1 := PI.imp (pi_list h) fun σ H R0 ⟨w, B, R, k⟩ => ⟨w, B, R, fun B1 H1 v R1 s1 r1 => by
  cases r1 with
  | @scr a _ hS =>
    refine ⟨a, rfl, ⟨_, hS H1 R1.ext⟩, k B1 H1 _ R1 s1 fun i B2 H2 e0 e1 => ?_⟩
    have sq : SqL X.K H2 a (ns.map V.int) := hS H2 (e0.trans e1)
    refine ⟨fun d hd => ?_, fun hle => ⟨_, sq, by rw [List.length_map] at *; exact hle⟩⟩
    obtain ⟨n, hn, rfl⟩ := map_get hd
    have hv : (ns.map V.int)[i]? = some (.int n) := by rw [List.getElem?_map, hn]; rfl
    refine ⟨⟨_, _, sq, hv⟩, fun y H' ⟨eH, hy⟩ => ?_⟩
    subst eH
    have q := hy _ sq
    rw [hv] at q
    cases q
    exact ⟨B2, Grow.refl e1, .int n⟩⟩
/-- arguments by value in, a new list out -/
abbrev CN := List D → (List D → Prop) → Prop
def spN (K : PySem.W.Frag) (C : CN) : Sp := fun vs H Q _ => ∃ B ds R, C ds R ∧ Same B H ∧ Reps K B vs ds ∧ ∀ B' H' a xs zs, Grow B H B' H' → H a = none → B' a = none → H' a = some (.lst xs) → Reps K B' xs zs → R zs → Q (.ref a) H'
/-- a def that is one return of a new list -/
theorem fnN {P : Program} {w : World} {K : PySem.W.Frag} {mg : Str → Option Value} {base : Heap} {x qual : Str} {st : Stmt} {f : Addr} {fd : FuncData} {N ps : List Str} {k : Nat} {C : CN} {e : Expr} {rp : Pos} (hbody : defBody st = [.Return (some e) rp]) (F : Fun K x qual st f fd) (S : FnScope N ps (defScope st)) (len : ∀ ds R, C ds R → ds.length = ps.length)
    (body : ∀ (cdv : Value) (A : Around) (outer : List Env) (s : Shared) (H : Hp) (E : XK) (ds : List D) (R : List D → Prop), Room k (A.deeper (envOfC qual (defScope st) s.heap.objs.size f cdv)) → C ds R →
      ∃ p zs ρ', R zs ∧ EN (cxOf CX0 P w K mg base N qual (defScope st) f cdv A outer s H E).nox e p (ds.map .fr ++ List.replicate (N.length - ds.length) .un) zs ρ') : FnOk P w K mg base CX0 (k + 1) f fd ps (spN K C) := by
  refine F.ok S (fun vs H Q E h => ?_) (fun cdv A outer s H vs Q E hr h => ?_)
  · obtain ⟨B, ds, R, hC, _, r, _⟩ := h
    rw [r.len]
    exact len ds R hC
  · obtain ⟨B, ds, R, hC, e0, r, q⟩ := h
    obtain ⟨p, zs, ρ', hz, he⟩ := body cdv A outer s H E ds R hr hC
    have ln := len ds R hC
    have hl : vs.length ≤ N.length := by
      have q := congrArg List.length S.pre
      rw [List.length_take] at q
      rw [r.len, ln]
      omega
    rw [hbody]
    refine ⟨_, pss_one (ps_ret he), ⟨B, H, []⟩, B, ?_, fun B' H' a xs R' s' hn fr ha ra => ?_⟩
    · unfold L2.start
      exact (SR.args e0 r).pad (by rw [List.length_map, List.length_map, r.len]) (by rw [r.len])
    · exact q B' H' a xs zs R'.grown hn fr.b ha ra hz
section
variable {k : Nat} {f : Addr} {fd : FuncData} {ps : List Str}
theorem en_callN {C : CN} (F : FnOk X.prog X.w X.K X.mg X.base CX0 k f fd ps (spN X.K C)) (hr : Room k X.A) (hm : X.mg x = some (.ref f)) (hk : PySem.W.keepIn X.K (.ref f) = true) (hb : Binds X.K fd ps []) (ha : EA X (e :: es) p ρ ds ρ1) (hC : C ds (fun d => d = zs))
    (hg : Gl X x := by rfl) (hdb : (x == ("__debug__" : Str)) = false := by decide) (he : starEach (e :: es) X.env = (false, eval e X.env) :: starEach es X.env := by rfl) (hpl : (backTo pos (starEach es X.env)).any (·.1) = false := by rfl) :
    EN X (.Call (.Name x pp) (e :: es) [] pos) p ρ zs ρ1 := PE.imp (pe_call F hr hg hm hk hb .nil pass0 ha hdb he hpl) fun σ H Q ⟨w, B, R, kk⟩ => ⟨w, B, R, fun B1 H1 vs R1 s1 r1 => by
  show spN X.K C (vs ++ []) H1 Q E0
  rw [List.append_nil]
  exact ⟨B1, ds, _, hC, R1.ext, r1, fun B' H' a xs zs' g hn hb' ha ra hz => by
    subst hz
    have fr := Fresh.of R1 hn
    exact kk B' H' a xs (R1.grow g) (s1.add g) (s1.free hn) ⟨fr.h0, hb', fr.foot⟩ ha ra⟩⟩
end
end
end G

set_option Elab.async false
set_option maxRecDepth 100000
set_option maxHeartbeats 4000000
set_option linter.all false
namespace G
open PySem L2 PyProof.Rows
local macro_rules | `(tactic| walk_at "rho") => `(tactic| (show (_ : List Slot) = _; (try dsimp only [List.set_cons_succ, List.set_cons_zero, List.map_cons, List.map_nil, List.cons_append, List.nil_append, relend, unR]); all_goals exact rfl))
/-! ### the pool -/
def encI (n : Int) : Int := if 0 ≤ n then 2 * n else -2 * n - 1
def pool0 (ns : List Int) : Pool := ⟨ns.map encI, 0, 0, 17⟩
theorem pool0_ok (ns : List Int) : (pool0 ns).Ok := by
  refine ⟨fun x hx => ?_, Int.le_refl _, by show (0 : Int) ≤ 17; decide, by show (17 : Int) < 2147483647; decide⟩
  obtain ⟨n, _, rfl⟩ := List.mem_map.mp (show x ∈ ns.map encI from hx)
  unfold encI
  split <;> omega
def CPool : CN := fun ds R => ∃ ns : List Int, ds = [.scr ns] ∧ ns.length ≤ 63 ∧ R (pool0 ns).enc
section
variable {P : Program} {w : World} {K : PySem.W.Frag} {mg : Str → Option Value} {base : Heap} {f : Addr} {fd : FuncData}
theorem ok_pool (F : Df K mg "_law_pool" "_law_pool" sLawPool ["script"] f fd) : FnOk P w K mg base CX0 1 f fd ["script"] (spN K CPool) := by
  refine fnN rfl F.F scLawPool (fun ds R hC => ?_) (fun cdv A outer s H E ds R hr hC => ?_)
  · obtain ⟨ns, rfl, _⟩ := hC; rfl
  · obtain ⟨ns, rfl, hz, k⟩ := hC
    refine ⟨_, _, _, k, (?_ : EN _ _ false [.fr (.scr ns), .un] _ [.fr (.scr ns), .un])⟩
    refine en_lst (p := false) (ds := (pool0 ns).enc) (ea_cons (ev_ofN (en_map (own := [("cell", 1)]) (zs := (ns.map encI).map .int) (it_scr (ns := ns) (ev_var 0)) ⟨scLawPool.nd, blkOk_by (N := nLawPool) (sc := defScope sLawPool) (by decide +kernel), rfl, ?_, rfl, ?_, fun i x z hx hz => ?_⟩)) (ea_cons ev_int (ea_cons ev_int (ea_cons ev_int ea_nil)))) (by show 4 ≤ 100000; decide)
    · rw [List.length_map]; omega
    · rw [List.length_map, List.length_map, List.length_map]
    · obtain ⟨n, h1, rfl⟩ := map_get hx
      rw [List.map_map] at hz
      obtain ⟨n', h2, rfl⟩ := map_get hz
      rw [h1] at h2
      cases h2
      refine ⟨_, _, _, fun _ _ _ _ _ => tg_name 1 scLawPool.nd, fun _ _ _ _ _ => ev_ifT (q := true) (et_ge (ev_var 1) ev_int) (fun h => ev_is (ev_mul ev_int (ev_var 1) (cmul_l (by decide))) ?_) (fun h => ev_is (ev_sub (ev_mul (ev_neg ev_int) (ev_var 1) (cmul_l (by decide))) ev_int) ?_), rfl⟩
      · have h' : 0 ≤ n := by simpa using h
        show D.int (2 * n) = D.int (encI n)
        unfold encI
        rw [if_pos h']
      · have h' : ¬ 0 ≤ n := by simpa using h
        show D.int (-2 * n - 1) = D.int (encI n)
        unfold encI
        rw [if_neg h']
end
end G

set_option Elab.async false
set_option maxRecDepth 100000
set_option maxHeartbeats 4000000
set_option linter.all false
/-! M1: what the last text of each law with such a pool wants. -/
namespace G
open PySem L2 PyProof.Rows
def CLaw : CP := fun ds R => ∃ ns : List Int, ds = [.scr ns] ∧ ns.length ≤ 63 ∧ R (.bl true)
theorem Same.sql {K : PySem.W.Frag} {H H' : Hp} {a : Addr} {xs : List V} (e : Same H H') (h : SqL K H a xs) : SqL K H' a xs := by
  rcases h with (h | ⟨o, h⟩) | h
  · exact .inl (.inl (e _ _ h))
  · exact .inl (.inr ⟨o, e _ _ h⟩)
  · exact .inr h
theorem Pl.nats {l : List Nat} (h : l.length < 16777216) : Pl 1 (.tup (natsD l)) := .tup 0 _ (fun d hd => by
  obtain ⟨e, _, rfl⟩ := List.mem_map.mp (show d ∈ l.map _ from hd)
  exact .int 0 _) (by rw [natsD_len]; exact h)
theorem Pl.edges {es : Edges} (h : es.length < 16777216) : Pl 2 (.tup (edgesD es)) := .tup 1 _ (fun d hd => by
  obtain ⟨e, _, rfl⟩ := List.mem_map.mp (show d ∈ es.map encE from hd)
  refine .tup 0 _ (fun x hx => ?_) (by show 2 < 16777216; decide)
  simp at hx
  rcases hx with rfl | rfl
  · exact .int 0 _
  · exact .int 0 _) (by rw [edgesD_len]; exact h)
theorem Pl.up {n : Nat} {d : D} (h : Pl n d) : Pl (n + 1) d := by
  induction h with
  | non n => exact .non _
  | bl n b => exact .bl _ b
  | int n i => exact .int _ i
  | str n x => exact .str _ x
  | tup n l _ hz ih => exact .tup _ l ih hz
  | lst n l _ hz ih => exact .lst _ l ih hz
section
variable {X : Cx} {e : Expr} {es : List Expr} {ρ ρ2 : Rho} {P : D → Rho → Prop} {p : Bool} {pos pp : Pos} {x : Str} {k : Nat} {f : Addr} {fd : FuncData} {ps : List Str} {C : CPX} {ds : List D} {z : D} {ρ1 : Rho}
/-- an expression that may raise, and does not -/
theorem we_ofQ (h : QE X (fun _ _ _ _ => False) e ρ P (fun _ _ _ => False)) : WE X e ρ P := PE.imp h fun σ H Q ⟨w, B, R, kk⟩ => ⟨w, B, R, fun B' H' v d r hp R' s rv => kk B' H' v d r hp R' s rv, fun B' H' cls pay d r z => z.elim⟩
/-- a call of a def that may raise, and does not here -/
theorem ev_callX (F : FnOk X.prog X.w X.K X.mg X.base (L2.CX X.prog X.w) k f fd ps (spPX X.K C)) (hr : Room k X.A) (hm : X.mg x = some (.ref f)) (hk : PySem.W.keepIn X.K (.ref f) = true) (hb : Binds X.K fd ps [])
    (ha : EA X (e :: es) p ρ ds ρ1) (hC : C ds (fun d => d = z ∧ ρ1 = ρ1) (fun _ _ => False))
    (hg : Gl X x := by rfl) (hdb : (x == ("__debug__" : Str)) = false := by decide) (he : starEach (e :: es) X.env = (false, eval e X.env) :: starEach es X.env := by rfl) (hpl : (backTo pos (starEach es X.env)).any (·.1) = false := by rfl) :
    EV X (.Call (.Name x pp) (e :: es) [] pos) false ρ z ρ1 :=
  ev_ofW (we_ofQ (qe_call (P := fun d r => d = z ∧ r = ρ1) (PX := fun _ _ _ => False) F hr hm hk hb takes_no (wa_of ha hC) hg hdb he hpl))
end
end G

set_option Elab.async false
set_option maxRecDepth 100000
set_option maxHeartbeats 2000000
set_option linter.all false
/-! G19: own errors whose __init__ says super().__init__(x, ..) and keeps x, .. . -/
namespace PySem
namespace GEn
open PySem.W PySem.Calls PyProof.Rows PySem.HandSPX
/-- what the written part says of such a class at C, its __init__ at fI, that one's cell at cc and code at cda -/
structure SupTxt (P : Program) (K : Frag) (mg : Str → Option Value) (C fI cc cda : Addr) : Prop where
  cls : ∃ nm q N bs bm sn sub ab col dd k0 k1 k2 k3 k5, K.lookup C = some (excClassObj nm q C N bs bm true sn sub ab col dd k0 k1 k2 k3 k5 "ValueError.__new__") ∧ refsVE bm = true
  sa : findIn K (.ref C) "__setattr__" = some (some (.builtin "object.__setattr__"))
  iC : findIn K (.ref C) "__init__" = some (some (.ref fI))
  tC : typeIn K (.ref fI) = some (.type "function")
  kC : keepIn K (.ref C) = true
  exC : subIn K (.ref C) (.type "BaseException") = some true
  tyC : typeIn K (.ref C) = some (.type "type")
  ve : subIn K (.ref C) (.type "ValueError") = some true
  me : mroIn K C (.ref C) = some true
  sup : ks_superIn K C C "__init__" = some (some (.builtin "ValueError.__init__"))
  opq : nsIn K cStatics "thirdparty.any" = some none
  cell : ∃ cl cld csl, K.lookup cc = some ⟨cl, cld, .cell (some (.ref C)), csl⟩
  code : ∃ ccl cdd vs ccs file tf, K.lookup cda = some ⟨ccl, cdd, .fields vs, ccs⟩ ∧ vs[2]? = some (.str file tf) ∧ ((P.main.file : Str) == file) = true
  top : (P.main.scope.names.lookup ("super" : Str)).isSome = false
  gs : mg "super" = none
section
variable {prog : Program} {w : World} {A : Around} {E : Value → Shared → Prop} {hp : Heap} {g : Array GenState} {d : Drawn} {t : Nat} {os : OsState} {K : Frag} {mg mb : Str → Option Value} {C fI cc cda : Addr}
/-- super().__init__(..) in such an __init__: the arguments are still to be read -/
theorem sup_call {body : List Stmt} {fd : FuncData} {oc : Value} {od : Option Addr} {osl : Array (Option Value)} {ar : Arg} {q : Str} {scope : Scope} {L x t0 : Addr} {m : Str → Option Value} {p0 p1 p2 p4 : Pos} {e : Expr} {rest : List Expr} {us : List Value} {pl : Sem Bool} {Q : Value → Shared → Prop}
    (T : SupTxt prog K mg C fI cc cda) (X : K.In hp) (hx : hp.get? x = some (excO C t0)) (hns : hp.Ns L m) (hg : hp.Ns mainGlobals mg) (hb : hp.Ns builtinsNs mb) (hmb : mb "super" = bootBuiltins "super") (hfd : K.lookup fI = some ⟨oc, od, .func fd, osl⟩) (hp' : (fd.params.posonlyargs ++ fd.params.args).head? = some ar) (hv : m ar.arg = some (.ref x))
    (hks : scope.names.lookup ("super" : Str) = some .globalImplicit) (hkc : scope.names.lookup ("__class__" : Str) = some .free) (hka : scope.names.lookup ar.arg = some .local) (hk : scope.kind = .function) (hz : us.length ≤ sizeLine)
    (hargs : ∀ (h2 : Heap) (t2 : Nat) (R : List Value → Shared → Prop), (∀ b o, hp.get? b = some o → h2.get? b = some o) → R us ⟨h2, g, d, t2, os⟩ → wpAny (model prog w) A (spliced (backTo p4 (starEach (e :: rest) (ksEnv q scope L fI (.ref cda) cc)))) R E ⟨h2, g, d, t2, os⟩)
    (hst : starEach (e :: rest) (ksEnv q scope L fI (.ref cda) cc) = (false, eval e (ksEnv q scope L fI (.ref cda) cc)) :: starEach rest (ksEnv q scope L fI (.ref cda) cc)) (hpl : (backTo p4 (starEach rest (ksEnv q scope L fI (.ref cda) cc))).any (·.1) = false)
    (hev : eval (.Call (.Attribute (.Call (.Name "super" p0) [] [] p1) "__init__" p2) (e :: rest) [] p4) (ksEnv q scope L fI (.ref cda) cc) = (do
      let ov ← attributeBase (.Call (.Name "super" p0) [] [] p1) "__init__" (ksEnv q scope L fI (.ref cda) cc) (eval (.Call (.Name "super" p0) [] [] p1) (ksEnv q scope L fI (.ref cda) cc))
      standAt p2.atName
      let (f, first) ← holding [ov] (getMethod ov "__init__" pl)
      callWith p4 f first (backTo p4 (starEach (e :: rest) (ksEnv q scope L fI (.ref cda) cc))) []))
    (hq : ∀ h' t1 t', (∀ b o, b ≠ x → hp.get? b = some o → h'.get? b = some o) → h'.get? x = some (excO C t1) → Q .none ⟨h', g, d, t', os⟩) :
    wpAt (model prog w) A (.func body (ksEnv q scope L fI (.ref cda) cc)) (eval (.Call (.Attribute (.Call (.Name "super" p0) [] [] p1) "__init__" p2) (e :: rest) [] p4) (ksEnv q scope L fI (.ref cda) cc)) Q E ⟨hp, g, d, t, os⟩ := by
  obtain ⟨nm, qn, N, bs, bm, sn, sub, ab, col, dd, k0, k1, k2, k3, k5, hC, hbm⟩ := T.cls
  obtain ⟨cl, cld, csl, hcell⟩ := T.cell
  obtain ⟨ccl, cdd, vs, ccs, file, tf, hcode, hvs, hfile⟩ := T.code
  have hcls : clsIn K C = some { name := nm, bases := bs, mro := .ref C :: bm, ns := N, qualname := qn, hasDict := true, slotNames := sn, subclasses := sub, abstract := ab, collection := col, hasDel := false } := by unfold clsIn; rw [hC] <;> rfl
  have hD := X _ _ hC
  have I : InstAt hp x (excO C t0) C none := ⟨hx, rfl, rfl, trivial⟩
  refine ks_wpAt_MethodCall (pl := pl) ?_ hev
  refine ks_wpAt_super_base (env := ksEnv q scope L fI (.ref cda) cc) hks hkc (by decide) rfl (X _ _ hfd) rfl hp' rfl (X _ _ hcode) rfl hvs hfile T.top ?_
  refine ks_loadName_global hk hks (loadGlobal_builtin (env := ksEnv q scope L fI (.ref cda) cc) hg T.gs hb (hmb.trans (by decide +kernel)) ⟨rfl, ?_⟩)
  refine wpAny_loadName_free hk hkc rfl ⟨_, X _ _ hcell, rfl⟩ ?_
  refine wpAny_loadName_local hk hka hns hv ?_
  refine ks_wpAny_isType_cls hD rfl ⟨rfl, ?_⟩
  refine ks_wpAny_call_super hD rfl hx rfl (fun c z => by cases z) (looks_mroIn X T.me) (fun h1 e1 up1 => ?_)
  have X1 : K.In h1 := X.keeps up1
  have hx1 := up1 _ _ hx
  have I1 : InstAt h1 x (excO C t0) C none := ⟨hx1, rfl, rfl, trivial⟩
  have hal : alongIn K "__init__" (((Value.ref C :: bm).dropWhile (· != .ref C)).drop 1) = some (some (.builtin "ValueError.__init__")) := by
    have z := T.sup
    unfold ks_superIn at z
    rw [hcls, Option.bind_some] at z
    exact z
  refine kxs_getMethod kxs_ValueError e1 (looks_opaque X1 T.opq) (l₀ := .ref C :: bm) ?_ rfl X1 hal (I1.type.andThen (looks_subIn X1 T.ve)) (ks_ne X1 I1 hcls) (by decide) ?_
  · exact fun A Q E s k q => wpAny_bind ((looks_clsIn X1 hcls) A _ E s k (wpAny_pure q))
  have up2 : ∀ b o, hp.get? b = some o → (h1.push (kxs_mw "ValueError.__init__" x)).get? b = some o := fun b o z => Heap.get?_push_of_some _ (up1 b o z)
  have hu : (h1.push (kxs_mw "ValueError.__init__" x)).get? h1.objs.size = some (kxs_mw "ValueError.__init__" x) := Heap.get?_push_at rfl rfl
  show wpAny _ _ (callWith p4 (.ref h1.objs.size) [] (backTo p4 (starEach (e :: rest) (ksEnv q scope L fI (.ref cda) cc))) []) _ _ _
  rw [hst]
  refine kxs_callWith (i := "ValueError.__init__") (x := x) (by show (false || (backTo p4 (starEach rest (ksEnv q scope L fI (.ref cda) cc))).any (·.1)) = false; rw [hpl]; rfl) ?_
  suffices inner : wpAny (model prog w) A (call (.ref h1.objs.size) ([] ++ us)) Q E ⟨h1.push (kxs_mw "ValueError.__init__" x), g, d, t + 1, os⟩ by
    have key := hargs (h1.push (kxs_mw "ValueError.__init__" x)) (t + 1) (fun vs s₁ => KxsAt "ValueError.__init__" h1.objs.size x s₁.heap ∧ wpAny (model prog w) A (call (.ref h1.objs.size) ([] ++ vs)) Q E s₁) up2 ⟨hu, inner⟩
    rw [hst] at key
    exact evalArgs_plain key
  have hC2 := up2 _ _ (X _ _ hC)
  have hx2 := up2 _ _ hx
  refine wpAny_call (codeAny_of_tree ?_)
  show wpAny _ A.in1 (callAny (.ref h1.objs.size) ⟨us, []⟩) _ _ _
  simp only [callAny]
  refine wpAny_bind (wpAny_load hu ?_)
  simp only [kxs_mw, show (Value.type "method-wrapper" == Value.type "method" || Value.type "method-wrapper" == Value.type "builtin_function_or_method" || Value.type "method-wrapper" == Value.type "method-wrapper") = true by decide, if_true]
  refine KFB.if_so (by decide) ?_
  refine wpAny_bind (check_bound_init F.excBase_ValueError.toExcCallFacts hC2 hx2 rfl ?_)
  refine wpAny_bind (wpAny_pure (wpAny_pure ?_))
  refine ⟨plainId_quiet F.excBase_ValueError.init.plain _, codeAny_builtin F.excBase_ValueError.initEntry ?_⟩
  refine exc_init_tree (cls := .ref C) (t0 := t0) (dv := none) (c2 := .none) (c3 := .none) (b4 := .bool false) hx2 hz (fun h' k' e' _ => ?_)
  exact hq h' _ _ (fun b o hb z => k' b o hb (up2 b o z)) e'
/-- what such an __init__ leaves of a fresh error at e -/
structure SupEnd (hp h' : Heap) (e C dx t1 : Addr) (mA : Str → Option Value) : Prop where
  keep : ∀ b o, b ≠ e → hp.get? b = some o → h'.get? b = some o
  obj : h'.get? e = some { cls := .ref C, dict := some dx, data := .fields #[.ref t1, .none, .none, .none, .bool false, .none] }
  big : hp.objs.size ≤ dx
  ne : dx ≠ e
  ns : h'.Ns1 dx mA
abbrev bodyS (ys : List Str) (p0 p1 p2 p4 p5 : Pos) (px : Pos) (es : List Expr) (rest : List Stmt) : List Stmt := .Expr (.Call (.Attribute (.Call (.Name "super" p0) [] [] p1) "__init__" p2) es [] p4) p5 :: rest
/-- self.y = y, the first of them -/
theorem store1 {body rest : List Stmt} {q : Str} {scope : Scope} {L e t1 : Addr} {m : Str → Option Value} {y : Str} {v : Value} {p1 p2 p3 p4 : Pos} {Q : Flow → Shared → Prop}
    (T : SupTxt prog K mg C fI cc cda) (X : K.In hp) (hx : hp.get? e = some (excO C t1)) (hns : hp.Ns L m) (hs : m "self" = some (.ref e)) (hy : m y = some v) (hk : scope.kind = .function) (ls : scope.names.lookup ("self" : Str) = some .local) (ly : scope.names.lookup y = some .local) (hdb : (y == ("__debug__" : Str)) = false) (no : findIn K (.ref C) y = some none)
    (hsw : swapsWith (.Name y p3) (some (.Attribute (.Name "self" p1) y p2)) p4.line (ksEnv q scope L fI (.ref cda) cc) = pure false)
    (hq : ∀ h' tk' dx, (∀ b o, b ≠ e → hp.get? b = some o → h'.get? b = some o) → hp.objs.size ≤ dx → dx ≠ e → h'.get? e = some { cls := .ref C, dict := some dx, data := .fields #[.ref t1, .none, .none, .none, .bool false, .none] } → h'.Ns1 dx (fun z => if z = y then some v else none) →
      wpAt (model prog w) A (.func body (ksEnv q scope L fI (.ref cda) cc)) (execs rest (ksEnv q scope L fI (.ref cda) cc)) Q E ⟨h', g, d, tk', os⟩) :
    wpAt (model prog w) A (.func body (ksEnv q scope L fI (.ref cda) cc)) (execs (.Assign [.Attribute (.Name "self" p1) y p2] (.Name y p3) p4 :: rest) (ksEnv q scope L fI (.ref cda) cc)) Q E ⟨hp, g, d, t, os⟩ := by
  obtain ⟨nm, qn, N, bs, bm, sn, sub, ab, col, dd, k0, k1, k2, k3, k5, hC, hbm⟩ := T.cls
  have hcls : clsIn K C = some { name := nm, bases := bs, mro := .ref C :: bm, ns := N, qualname := qn, hasDict := true, slotNames := sn, subclasses := sub, abstract := ab, collection := col, hasDel := false } := by unfold clsIn; rw [hC] <;> rfl
  refine ks_wpAt_execs_cons (ks_wpAt_Assign_Attr ?_ hsw)
  refine wpAt_of_wpAny (wpAny_Name (wpAny_loadName_local hk ly hns hy ?_) hdb)
  refine wpAny_Name (wpAny_loadName_local hk ls hns hs ?_) (by decide)
  refine set_plain X (ox := excO C t1) (od := none) ⟨hx, rfl, rfl, trivial⟩ T.sa ?_
  exact exc_osa X hx hcls (show refsVE (.ref C :: bm) = true from hbm) rfl no fun h' tk' dx k1 b1 n1 o1 s1 => hq h' tk' dx k1 b1 n1 o1 s1
/-- self.y = y, a further one -/
theorem store2 {body rest : List Stmt} {q : Str} {scope : Scope} {L e t1 dx : Addr} {m m0 : Str → Option Value} {nl : List Str} {y : Str} {v : Value} {p1 p2 p3 p4 : Pos} {Q : Flow → Shared → Prop}
    (T : SupTxt prog K mg C fI cc cda) (X : K.In hp) (hx : hp.get? e = some { cls := .ref C, dict := some dx, data := .fields #[.ref t1, .none, .none, .none, .bool false, .none] }) (hd : hp.Ns1 dx m0) (hw : Within m0 nl) (hz : nl.length ≤ 1000) (hns : hp.Ns L m) (hs : m "self" = some (.ref e)) (hy : m y = some v) (hk : scope.kind = .function) (ls : scope.names.lookup ("self" : Str) = some .local) (ly : scope.names.lookup y = some .local) (hdb : (y == ("__debug__" : Str)) = false) (no : findIn K (.ref C) y = some none)
    (hsw : swapsWith (.Name y p3) (some (.Attribute (.Name "self" p1) y p2)) p4.line (ksEnv q scope L fI (.ref cda) cc) = pure false)
    (hq : ∀ h' tk', (∀ b o, b ≠ dx → hp.get? b = some o → h'.get? b = some o) → h'.Ns1 dx (fun z => if z = y then some v else m0 z) →
      wpAt (model prog w) A (.func body (ksEnv q scope L fI (.ref cda) cc)) (execs rest (ksEnv q scope L fI (.ref cda) cc)) Q E ⟨h', g, d, tk', os⟩) :
    wpAt (model prog w) A (.func body (ksEnv q scope L fI (.ref cda) cc)) (execs (.Assign [.Attribute (.Name "self" p1) y p2] (.Name y p3) p4 :: rest) (ksEnv q scope L fI (.ref cda) cc)) Q E ⟨hp, g, d, t, os⟩ := by
  obtain ⟨nm, qn, N, bs, bm, sn, sub, ab, col, dd, k0, k1, k2, k3, k5, hC, hbm⟩ := T.cls
  have hcls : clsIn K C = some { name := nm, bases := bs, mro := .ref C :: bm, ns := N, qualname := qn, hasDict := true, slotNames := sn, subclasses := sub, abstract := ab, collection := col, hasDel := false } := by unfold clsIn; rw [hC] <;> rfl
  obtain ⟨oD, esD, epD, hoD, hdD, _⟩ := hd.count hw
  refine ks_wpAt_execs_cons (ks_wpAt_Assign_Attr ?_ hsw)
  refine wpAt_of_wpAny (wpAny_Name (wpAny_loadName_local hk ly hns hy ?_) hdb)
  refine wpAny_Name (wpAny_loadName_local hk ls hns hs ?_) (by decide)
  refine set_plain X (ox := { cls := .ref C, dict := some dx, data := .fields #[.ref t1, .none, .none, .none, .bool false, .none] }) (od := some oD) ⟨hx, rfl, rfl, hoD⟩ T.sa ?_
  exact PySem.OEX.osa_old X hx hd hw hz hcls (show refsVE (.ref C :: bm) = true from hbm) rfl no fun h' tk' k1 s1 => hq h' tk' k1 s1
/-- the text of such an __init__, for its own names ys -/
structure InitS (K : Frag) (C fI cc cda : Addr) (ys : List Str) (fd : FuncData) (q : Str) (scope : Scope) (body : List Stmt) : Prop where
  lk : ∃ oc od osl, K.lookup fI = some ⟨oc, od, .func fd, osl⟩
  hb : fd.body = .stmts body
  env : ∀ L, callEnv fd L fI = ksEnv q scope L fI (.ref cda) cc
  cd : codeIn K fd.code fd.qualname = true
  bind : ∀ (s : Shared) (us : List Value), us.length = ys.length + 1 → BindsTo s fd ⟨us, []⟩ ((("self" : Str) :: ys).zip us)
  ar : ∃ ar, (fd.params.posonlyargs ++ fd.params.args).head? = some ar ∧ ar.arg = "self"
  sc : fd.scope = scope
  ks : scope.names.lookup ("super" : Str) = some .globalImplicit
  kc : scope.names.lookup ("__class__" : Str) = some .free
  ls : scope.names.lookup ("self" : Str) = some .local
  ly : ∀ y ∈ ys, scope.names.lookup y = some .local
  nc : ∀ x ∈ scope.names, x.2 ≠ .cell
  co : scope.isCoroutine = false
  gen : scope.isGenerator = false
  kind : scope.kind = .function
  no : ∀ y ∈ ys, findIn K (.ref C) y = some none
  db : ∀ y ∈ ys, (y == ("__debug__" : Str)) = false
theorem init1 {y : Str} {fd : FuncData} {q : Str} {scope : Scope} {p0 p1 p2 p3 p4 p5 q1 q2 q3 q4 : Pos} {pl : Sem Bool} {e t0 : Addr} {v : Value} {R : Result → Shared → Prop} (hns0 : y ≠ "self")
    (T : SupTxt prog K mg C fI cc cda) (S : InitS K C fI cc cda [y] fd q scope [.Expr (.Call (.Attribute (.Call (.Name "super" p0) [] [] p1) "__init__" p2) [.Name y p3] [] p4) p5, .Assign [.Attribute (.Name "self" q1) y q2] (.Name y q3) q4])
    (X : K.In hp) (hlim : hp.NoLimit) (hg : hp.Ns mainGlobals mg) (hb : hp.Ns builtinsNs mb) (hmb : mb "super" = bootBuiltins "super") (hx : hp.get? e = some (excO C t0)) (hnx : K.lookup e = none) (hroom : A.depth < recursionLimit)
    (hev : ∀ L, eval (.Call (.Attribute (.Call (.Name "super" p0) [] [] p1) "__init__" p2) [.Name y p3] [] p4) (ksEnv q scope L fI (.ref cda) cc) = (do
      let ov ← attributeBase (.Call (.Name "super" p0) [] [] p1) "__init__" (ksEnv q scope L fI (.ref cda) cc) (eval (.Call (.Name "super" p0) [] [] p1) (ksEnv q scope L fI (.ref cda) cc))
      standAt p2.atName
      let (f, first) ← holding [ov] (getMethod ov "__init__" pl)
      callWith p4 f first (backTo p4 (starEach [.Name y p3] (ksEnv q scope L fI (.ref cda) cc))) []))
    (hi : ∀ L, interactive (ksEnv q scope L fI (.ref cda) cc) = false) (hsE : ∀ L, swapsWith (.Call (.Attribute (.Call (.Name "super" p0) [] [] p1) "__init__" p2) [.Name y p3] [] p4) none p5.line (ksEnv q scope L fI (.ref cda) cc) = pure false) (hsA : ∀ L, swapsWith (.Name y q3) (some (.Attribute (.Name "self" q1) y q2)) q4.line (ksEnv q scope L fI (.ref cda) cc) = pure false)
    (hq : ∀ h' tk dx t1, SupEnd hp h' e C dx t1 (fun z => if z = y then some v else none) → R (.ok (.ret .none)) ⟨h', g, d, tk, os⟩) : codeAny (model prog w) A (.call (.ref fI) ⟨[.ref e, v], []⟩) R ⟨hp, g, d, t, os⟩ := by
  obtain ⟨oc, od, osl, lk⟩ := S.lk
  obtain ⟨ar, har, har2⟩ := S.ar
  have ey := S.ly y (by simp)
  refine ks_codeAny_call_defAt (fd := fd) (binds := [("self", .ref e), (y, v)]) hroom (X _ _ lk) rfl hlim (codeRec_of X S.cd) S.hb (S.bind _ [.ref e, v] rfl) (by rw [S.sc]; exact S.nc) (fun x hx => ?_) (fun h₁ hns k1 => ?_) (by rw [S.sc]; exact S.co) (by rw [S.sc]; exact S.gen) (by rw [S.sc]; exact S.kind)
  · rw [S.sc]
    rcases (show x = (("self" : Str), Value.ref e) ∨ x = (y, v) by simpa using hx) with rfl | rfl
    · exact S.ls
    · exact ey
  rw [S.env]
  have ms : (fun z => ([(("self" : Str), Value.ref e), (y, v)] : List (Str × Value)).reverse.lookup z) "self" = some (.ref e) := by
    show List.lookup ("self" : Str) [(y, v), ("self", Value.ref e)] = _
    have : (("self" : Str) == y) = false := by simpa using fun z => hns0 z.symm
    simp [List.lookup, this]
  have my : (fun z => ([(("self" : Str), Value.ref e), (y, v)] : List (Str × Value)).reverse.lookup z) y = some v := by
    show List.lookup y [(y, v), ("self", Value.ref e)] = _
    simp [List.lookup]
  have X1 : K.In h₁ := X.keeps k1
  have kg : ∀ {a m}, hp.Ns a m → h₁.Ns a m := fun {a m} hn => hn.keeps k1
  refine ks_wpAt_execs_cons (ks_wpAt_Expr_any ?_ (hi _) (hsE _))
  refine sup_call (us := [v]) T X1 (k1 _ _ hx) hns (kg hg) (kg hb) hmb lk har (by rw [har2]; exact ms) S.ks S.kc (by rw [har2]; exact S.ls) S.kind (by show 1 ≤ sizeLine; rw [sizeLine_eq]; omega) (fun h2 t2 R0 k2 hR => ?_) rfl rfl (hev _) (fun h2 t1 t2 k2 hx2 => ?_)
  · show wpAny _ _ (spliced ((false, eval (.Name y p3) _) :: backTo p4 (starEach [] _))) _ _ _
    refine spliced_cons (wpAny_Name (wpAny_loadName_local S.kind ey (hns.keeps k2) my ?_) (S.db y (by simp)))
    exact spliced_nil hR
  have nL : hp.objs.size ≠ e := Nat.ne_of_gt (Heap.lt_size hx)
  have X2 : K.In h2 := fun a o z => k2 a o (fun y => by rw [y, hnx] at z; cases z) (X1 a o z)
  have hn2 : h2.Ns hp.objs.size (fun z => ([(("self" : Str), Value.ref e), (y, v)] : List (Str × Value)).reverse.lookup z) := by
    obtain ⟨o, es, ep, h3, r⟩ := hns
    exact ⟨o, es, ep, k2 _ _ nL h3, r⟩
  refine store1 T X2 hx2 hn2 ms my S.kind S.ls ey (S.db y (by simp)) (S.no y (by simp)) (hsA _) (fun h3 t3 dx k3 b3 n3 o3 s3 => ?_)
  refine wpAt_of_wpAny (wpAny_execs_nil (hq h3 t3 dx t1 ⟨fun b o hb ho => k3 b o hb (k2 b o hb (k1 b o ho)), o3, Nat.le_of_lt (Nat.lt_of_lt_of_le hn2.lt b3), n3, s3⟩))
theorem init2 {y z : Str} {fd : FuncData} {q : Str} {scope : Scope} {p0 p1 p2 p3 p4 p5 q1 q2 q3 q4 p6 q5 q6 q7 q8 : Pos} {pl : Sem Bool} {e t0 : Addr} {v u : Value} {R : Result → Shared → Prop} (hns0 : y ≠ "self") (hns1 : z ≠ "self") (hyz : y ≠ z)
    (T : SupTxt prog K mg C fI cc cda) (S : InitS K C fI cc cda [y, z] fd q scope [.Expr (.Call (.Attribute (.Call (.Name "super" p0) [] [] p1) "__init__" p2) [.Name y p3, .Name z p6] [] p4) p5, .Assign [.Attribute (.Name "self" q1) y q2] (.Name y q3) q4, .Assign [.Attribute (.Name "self" q5) z q6] (.Name z q7) q8])
    (X : K.In hp) (hlim : hp.NoLimit) (hg : hp.Ns mainGlobals mg) (hb : hp.Ns builtinsNs mb) (hmb : mb "super" = bootBuiltins "super") (hx : hp.get? e = some (excO C t0)) (hnx : K.lookup e = none) (hroom : A.depth < recursionLimit)
    (hev : ∀ L, eval (.Call (.Attribute (.Call (.Name "super" p0) [] [] p1) "__init__" p2) [.Name y p3, .Name z p6] [] p4) (ksEnv q scope L fI (.ref cda) cc) = (do
      let ov ← attributeBase (.Call (.Name "super" p0) [] [] p1) "__init__" (ksEnv q scope L fI (.ref cda) cc) (eval (.Call (.Name "super" p0) [] [] p1) (ksEnv q scope L fI (.ref cda) cc))
      standAt p2.atName
      let (f, first) ← holding [ov] (getMethod ov "__init__" pl)
      callWith p4 f first (backTo p4 (starEach [.Name y p3, .Name z p6] (ksEnv q scope L fI (.ref cda) cc))) []))
    (hi : ∀ L, interactive (ksEnv q scope L fI (.ref cda) cc) = false) (hsE : ∀ L, swapsWith (.Call (.Attribute (.Call (.Name "super" p0) [] [] p1) "__init__" p2) [.Name y p3, .Name z p6] [] p4) none p5.line (ksEnv q scope L fI (.ref cda) cc) = pure false) (hsA : ∀ L, swapsWith (.Name y q3) (some (.Attribute (.Name "self" q1) y q2)) q4.line (ksEnv q scope L fI (.ref cda) cc) = pure false) (hsB : ∀ L, swapsWith (.Name z q7) (some (.Attribute (.Name "self" q5) z q6)) q8.line (ksEnv q scope L fI (.ref cda) cc) = pure false)
    (hq : ∀ h' tk dx t1, SupEnd hp h' e C dx t1 (fun f => if f = z then some u else if f = y then some v else none) → R (.ok (.ret .none)) ⟨h', g, d, tk, os⟩) : codeAny (model prog w) A (.call (.ref fI) ⟨[.ref e, v, u], []⟩) R ⟨hp, g, d, t, os⟩ := by
  obtain ⟨oc, od, osl, lk⟩ := S.lk
  obtain ⟨ar, har, har2⟩ := S.ar
  have ey := S.ly y (by simp)
  have ez := S.ly z (by simp)
  refine ks_codeAny_call_defAt (fd := fd) (binds := [("self", .ref e), (y, v), (z, u)]) hroom (X _ _ lk) rfl hlim (codeRec_of X S.cd) S.hb (S.bind _ [.ref e, v, u] rfl) (by rw [S.sc]; exact S.nc) (fun x hx => ?_) (fun h₁ hns k1 => ?_) (by rw [S.sc]; exact S.co) (by rw [S.sc]; exact S.gen) (by rw [S.sc]; exact S.kind)
  · rw [S.sc]
    rcases (show x = (("self" : Str), Value.ref e) ∨ x = (y, v) ∨ x = (z, u) by simpa using hx) with rfl | rfl | rfl
    · exact S.ls
    · exact ey
    · exact ez
  rw [S.env]
  let mm : Str → Option Value := fun f => ([(("self" : Str), Value.ref e), (y, v), (z, u)] : List (Str × Value)).reverse.lookup f
  have ms : mm "self" = some (.ref e) := by
    show List.lookup ("self" : Str) [(z, u), (y, v), ("self", Value.ref e)] = _
    have h1 : (("self" : Str) == y) = false := by simpa using fun w => hns0 w.symm
    have h2 : (("self" : Str) == z) = false := by simpa using fun w => hns1 w.symm
    simp [List.lookup, h1, h2]
  have my : mm y = some v := by
    show List.lookup y [(z, u), (y, v), ("self", Value.ref e)] = _
    have h1 : (y == z) = false := by simpa using hyz
    simp [List.lookup, h1]
  have mz : mm z = some u := by
    show List.lookup z [(z, u), (y, v), ("self", Value.ref e)] = _
    simp [List.lookup]
  have X1 : K.In h₁ := X.keeps k1
  have kg : ∀ {a m}, hp.Ns a m → h₁.Ns a m := fun {a m} hn => hn.keeps k1
  refine ks_wpAt_execs_cons (ks_wpAt_Expr_any ?_ (hi _) (hsE _))
  refine sup_call (us := [v, u]) (m := mm) T X1 (k1 _ _ hx) hns (kg hg) (kg hb) hmb lk har (by rw [har2]; exact ms) S.ks S.kc (by rw [har2]; exact S.ls) S.kind (by show 2 ≤ sizeLine; rw [sizeLine_eq]; omega) (fun h2 t2 R0 k2 hR => ?_) rfl rfl (hev _) (fun h2 t1 t2 k2 hx2 => ?_)
  · show wpAny _ _ (spliced ((false, eval (.Name y p3) _) :: backTo p4 (starEach [.Name z p6] _))) _ _ _
    refine spliced_cons (wpAny_Name (wpAny_loadName_local S.kind ey (hns.keeps k2) my ?_) (S.db y (by simp)))
    show wpAny _ _ (spliced ((false, eval (.Name z p6) _) :: backTo p4 (starEach [] _))) _ _ _
    refine spliced_cons (wpAny_Name (wpAny_loadName_local S.kind ez (hns.keeps k2) mz ?_) (S.db z (by simp)))
    exact spliced_nil hR
  have nL : hp.objs.size ≠ e := Nat.ne_of_gt (Heap.lt_size hx)
  have X2 : K.In h2 := fun a o z => k2 a o (fun y => by rw [y, hnx] at z; cases z) (X1 a o z)
  have hn2 : h2.Ns hp.objs.size mm := by
    obtain ⟨o, es, ep, h3, r⟩ := hns
    exact ⟨o, es, ep, k2 _ _ nL h3, r⟩
  refine store1 T X2 hx2 hn2 ms my S.kind S.ls ey (S.db y (by simp)) (S.no y (by simp)) (hsA _) (fun h3 t3 dx k3 b3 n3 o3 s3 => ?_)
  have X3 : K.In h3 := fun a o w => k3 a o (fun y => by rw [y, hnx] at w; cases w) (X2 a o w)
  have lh2 : hp.objs.size < h2.objs.size := hn2.lt
  have hn3 : h3.Ns hp.objs.size mm := by
    obtain ⟨o, es, ep, h4, r⟩ := hn2
    exact ⟨o, es, ep, k3 _ _ nL h4, r⟩
  refine store2 T X3 o3 s3 (Within.cons y v (Within.nil)) (by simp) hn3 ms mz S.kind S.ls ez (S.db z (by simp)) (S.no z (by simp)) (hsB _) (fun h4 t4 k4 s4 => ?_)
  refine wpAt_of_wpAny (wpAny_execs_nil (hq h4 t4 dx t1 ⟨fun b o hb ho => k4 b o (fun w => ?_) (k3 b o hb (k2 b o hb (k1 b o ho))), k4 _ _ (fun w => n3 w.symm) o3, Nat.le_of_lt (Nat.lt_of_lt_of_le lh2 b3), n3, s4⟩))
  subst w
  exact absurd (Heap.lt_size ho) (Nat.not_lt.mpr (Nat.le_of_lt (Nat.lt_of_lt_of_le lh2 b3)))
end
end GEn
end PySem

set_option Elab.async false
set_option maxRecDepth 100000
set_option maxHeartbeats 2000000
set_option linter.all false
/-! G20: such errors made, raised; their fields read. -/
namespace PySem
namespace GEn
open PySem.W PySem.Calls PyProof.Rows PySem.HandSPX
/-- a made error -/
structure SupMade (h h' : Heap) (e C dx : Addr) (mA : Str → Option Value) : Prop where
  keep : ∀ b o, h.get? b = some o → h'.get? b = some o
  new : h.objs.size ≤ e
  obj : ∃ oe vs, h'.get? e = some oe ∧ oe.cls = .ref C ∧ oe.dict = some dx ∧ oe.data = .fields vs ∧ vs[1]? = some .none
  big : h.objs.size ≤ dx
  ne : dx ≠ e
  ns : h'.Ns1 dx mA
section
variable {prog : Program} {w : World} {A : Around} {R : Result → Shared → Prop} {hp : Heap} {g : Array GenState} {d : Drawn} {t : Nat} {os : OsState} {K : Frag} {mg : Str → Option Value} {C fI cc cda : Addr} {mA : Str → Option Value}
theorem sup_made {us : List Value} (T : SupTxt prog K mg C fI cc cda) (X : K.In hp) (hz : us.length ≤ sizeLine) (hroom : A.depth + 1 < recursionLimit)
    (init : ∀ (h0 : Heap) (e t0 : Addr) (A' : Around) (R' : Result → Shared → Prop), K.In h0 → (∀ b o, hp.get? b = some o → h0.get? b = some o) → h0.get? e = some (excO C t0) → K.lookup e = none → A'.depth < recursionLimit → (∀ h' tk dx t1, SupEnd h0 h' e C dx t1 mA → R' (.ok (.ret .none)) ⟨h', g, d, tk, os⟩) → codeAny (model prog w) A' (.call (.ref fI) ⟨.ref e :: us, []⟩) R' ⟨h0, g, d, t, os⟩)
    (hq : ∀ h' tk e dx, SupMade hp h' e C dx mA → R (.ok (.ret (.ref e))) ⟨h', g, d, tk, os⟩) : codeAny (model prog w) A (.call (.ref C) ⟨us, []⟩) R ⟨hp, g, d, t, os⟩ := by
  obtain ⟨nm, qn, N, bs, bm, sn, sub, ab, col, dd, k0, k1, k2, k3, k5, hC, hbm⟩ := T.cls
  have kp : ∀ b o, hp.get? b = some o → ((hp.push (kdv_tup us)).push (excO C hp.objs.size)).get? b = some o := fun b o e => Heap.get?_push_of_some _ (Heap.get?_push_of_some _ e)
  have at0 : ((hp.push (kdv_tup us)).push (excO C hp.objs.size)).get? (hp.objs.size + 1) = some (excO C hp.objs.size) := by heap_get
  have out : K.lookup (hp.objs.size + 1) = none := by
    cases e : K.lookup (hp.objs.size + 1) with
    | none => rfl
    | some o => exact absurd (Heap.lt_size (X _ _ e)) (Nat.not_lt.mpr (Nat.le_succ _))
  refine call_own F.excBase_ValueError (fun Y => refsVE_contains Y bm hbm) (X _ _ hC) (looks_findIn X T.iC) (fun self => bind_fn X self T.tC) hz ?_
  refine init _ (hp.objs.size + 1) hp.objs.size _ _ (X.keeps kp) kp at0 out (by show A.depth + 1 < recursionLimit; exact hroom) (fun h' tk dx t1 S => ⟨rfl, ?_⟩)
  have sz : hp.objs.size ≤ ((hp.push (kdv_tup us)).push (excO C hp.objs.size)).objs.size := by
    rw [Heap.size_push, Heap.size_push]; omega
  exact hq h' tk (hp.objs.size + 1) dx ⟨fun b o e => S.keep b o (Nat.ne_of_lt (Nat.lt_succ_of_lt (Heap.lt_size e))) (kp b o e), Nat.le_succ _, ⟨_, _, S.obj, rfl, rfl, rfl, rfl⟩, Nat.le_trans sz S.big, S.ne, S.ns⟩
end
end GEn
end PySem
namespace G
open PySem L2 PyProof.Rows
/-- X(e, ..) of such a class; fs tells the fields out of the arguments -/
def tMkS (C : Addr) (n : Nat) (fs : List V → List (Str × V)) (ta : TA) : L2.St → Hp → XK → Prop := fun σ H Q => ta σ H fun vs H1 => vs.length = n ∧ ∀ dx, H1 dx = none → Q (.ref C) (some dx) (upd H1 dx (.xd (fs vs)))
section
variable {X : Cx} {C fI cc cda : Addr}
theorem pmk_sup {x : Str} {e : Expr} {es : List Expr} {ta : TA} {p pos : Pos} {k n : Nat} {fs : List V → List (Str × V)} {mA : List Value → Str → Option Value} (T : PySem.GEn.SupTxt X.prog X.K X.mg C fI cc cda) (gC : X.mg x = some (.ref C)) (hr : Room k X.A) (hn : n ≤ 1000) (rel : ∀ vs us, Vals vs us → vs.length = n → ∀ f, RelO ((fs vs).lookup f) (mA us f))
    (init : ∀ (us : List Value) (hp : Heap) (g : Array GenState) (d : Drawn) (t : Nat) (os : OsState) (h0 : Heap) (e t0 : Addr) (A' : Around) (R' : Result → Shared → Prop), us.length = n → X.K.In h0 → h0.NoLimit → h0.Ns mainGlobals X.mg → (∃ mb, h0.Ns builtinsNs mb ∧ ∀ x : Str, x ≠ "__name__" → mb x = bootBuiltins x) → h0.get? e = some (PySem.HandSPX.excO C t0) → X.K.lookup e = none → A'.depth < recursionLimit → (∀ h' tk dx t1, PySem.GEn.SupEnd h0 h' e C dx t1 (mA us) → R' (.ok (.ret .none)) ⟨h', g, d, tk, os⟩) → codeAny (model X.prog X.w) A' (.call (.ref fI) ⟨.ref e :: us, []⟩) R' ⟨h0, g, d, t, os⟩)
    (ha : PA X (e :: es) ta) (hg : Gl X x := by rfl) (hdb : (x == ("__debug__" : Str)) = false := by decide) (he : starEach (e :: es) X.env = (false, eval e X.env) :: starEach es X.env := by rfl) (hpl : (backTo pos (starEach es X.env)).any (·.1) = false := by rfl) :
    PMk X (.Call (.Name x p) (e :: es) [] pos) (tMkS C n fs ta) := by
  intro pins s σ H Q I h
  refine wpAny_Call_Name_kw (ld_glob (X := X) I hg gC ?_ hdb)
  refine PySem.W.callWith_K (h₀ := X.base) I.ok.mod.kin T.kC (thn (ha.run pos pins s σ H _ I h) fun us s1 hh => ?_) he hpl
  obtain ⟨vs, H1, I1, r1, hl, q1⟩ := hh
  refine ⟨I1.kIn, ?_⟩
  have hlim := I1.nolimit
  have M := I1.ok.mod
  have hbase : ∀ b o, X.base.get? b = some o → s1.heap.get? b = some o := I1.bk
  obtain ⟨hp, g, dr, tk, os⟩ := s1
  have hus : us.length = n := by rw [← r1.length]; exact hl
  show wpAny _ _ (call (.ref C) us) _ _ _
  refine wpAny_call (PySem.GEn.sup_made T I1.kIn (by rw [hus, sizeLine_eq]; omega) (by have := hr.dp; omega) (fun h0 e t0 A' R' X0 k0 e0 n0 d0 hR => init us hp g dr tk os h0 e t0 A' R' hus X0 (hlim.keeps k0) (M.glob.keeps fun b o z => k0 b o (hbase b o z)) ?_ e0 n0 d0 hR) fun h' tk' e dx S => ?_)
  · obtain ⟨mb, h1, h2⟩ := M.blt
    exact ⟨mb, h1.keeps fun b o z => k0 b o (hbase b o z), h2⟩
  show MkP X pins σ Q (.ref e) ⟨h', g, dr, tk', os⟩
  obtain ⟨oe, fv, hoe, hc, hd, hdat, h1⟩ := S.obj
  have hns := S.ns
  obtain ⟨G', g1, g2⟩ := restrict h' fun b => decide (b ≠ e)
  have gk : ∀ b, b ≠ e → G'.get? b = h'.get? b := fun b hb => g1 b (decide_eq_true hb)
  have ge : G'.get? e = none := g2 e (by simp)
  have old : ∀ b o, hp.get? b = some o → G'.get? b = some o := fun b o q => (gk b (Nat.ne_of_lt (Nat.lt_of_lt_of_le (Heap.lt_size q) S.new))).trans (S.keep b o q)
  have ob : ObjOk X.prog X.w (upd H1 dx (.xd (fs vs))) G' dx (.xd (fs vs)) := ⟨_, hns.at (fun o q => (gk dx S.ne).trans q), rel vs us r1 hl⟩
  have J : Inv X pins σ (upd H1 dx (.xd (fs vs))) ⟨G', g, dr, tk', os⟩ := I1.laid (t' := tk') old S.big ob
  refine ⟨e, oe, fv, ⟨G', g, dr, tk', os⟩, _, .ref C, some dx, rfl, J, fun b o q => ?_, ge, hoe, ⟨hc, hd⟩, hdat, h1, ?_, rfl, I1.bare, raises_own T.exC T.tyC, q1 dx (I1.hok.fresh S.big)⟩
  · by_cases hb : b = e
    · have q' : G'.get? b = some o := q
      rw [hb, ge] at q'; cases q'
    · exact (gk b hb).symm.trans q
  · rw [upd_ne (Ne.symm S.ne)]
    exact I1.hok.fresh S.new
end
end G

set_option Elab.async false
set_option maxRecDepth 100000
set_option maxHeartbeats 4000000
set_option linter.all false
/-! G21: a caught error with fields: its class asked, its fields read; raise of such. -/
namespace PySem
namespace GEn
open PySem.W PySem.Spec PySem.Calls PyProof.Rows
section
variable {prog : Program} {w : World} {A : Around} {E : Value → Shared → Prop} {s : Shared} {K : Frag} {x D : Addr} {ox : Obj} {od : Option Obj}
theorem obj_data {C : Addr} {nm : Str} {a g : Value} (h1 : (clsIn K C).isSome = true) (h2 : findIn K (.ref C) nm = some (some a)) (h3 : specialIn K a "__get__" = some (some g)) (h4 : takesIn K a = some true) : findObj K C od nm = some (.bind g a) := by
  obtain ⟨cd, e⟩ := Option.isSome_iff_exists.mp h1
  unfold findObj
  rw [e, Option.bind_some, h2, Option.bind_some]
  simp [h3, h4]
theorem class_of_err {Q : Option Value → Shared → Prop} (CC : L2.ExcC K D) (X : K.In s.heap) (I : InstAt s.heap x ox D od) (h : Q (some (.ref D)) { s with toks := s.toks + 1 }) : wpAny (model prog w) A (getAttr? (.ref x) "__class__") Q E s := by
  have hf : findObj K D od "__class__" = some (.bind (.builtin "getset_descriptor.__get__") (.builtin "object.__class__")) := obj_data (by obtain ⟨cd, hc, _⟩ := any_some CC.hd; rw [hc]; rfl) CC.ha CC.hn CC.ht
  obtain ⟨hp, gg, dd, tt, oo⟩ := s
  have T0 := I.type (M := model prog w)
  have T1 := looks_findIn (M := model prog w) X CC.hg
  have T2 := looks_findIn (M := model prog w) X CC.hk
  have T3 := looks_find (M := model prog w) X I hf
  have isE : Looks (model prog w) hp (isInstance (.ref x) (.type "BaseException")) true := T0.andThen (looks_subIn X CC.hs)
  have no2 : (Value.builtin "BaseException.__getattribute__" == Value.builtin "object.__getattribute__") = false := by decide +kernel
  have no1 : (onTheHeap (Value.ref D) && Value.builtin "BaseException.__getattribute__" == Value.builtin "object.__getattribute__") = false := by rw [no2]; rfl
  have no0 : (false && onTheHeap (Value.builtin "BaseException.__getattribute__")) = false := rfl
  unfold getAttr? getAttrBy? getAttrBy
  refine wpAny_bind (wpAny_mkText (wpAny_bind (wpAny_attempt (wpAny_holding (wpAny_bind (T0.at (wpAny_bind (T1.at ?_))))))))
  show wpAny _ _ (if (onTheHeap (Value.ref D) && Value.builtin "BaseException.__getattribute__" == Value.builtin "object.__getattribute__") = true then _ else _) _ _ ⟨hp, gg, dd, tt + 1, oo⟩
  rw [no1, if_neg Bool.false_ne_true]
  unfold getAttrByItsOwn hookBefore
  refine wpAny_bind ?_
  rw [if_pos (by rfl : onTheHeap (Value.ref D) = true)]
  refine T2.at (wpAny_bind (wpAny_attempt (wpAny_holding ?_)))
  unfold callGetattribute
  rw [no0, if_neg Bool.false_ne_true]
  unfold boundAndCalled
  rw [PySem.F.excAttr_ValueError.ga.bind (.ref x)]
  refine wpAny_bind (wpAny_pure ?_)
  show wpAny _ _ (call (.builtin "BaseException.__getattribute__") [.ref x, .str "__class__" tt]) _ _ ⟨hp, gg, dd, tt + 1, oo⟩
  refine wpAny_call (codeAny_call_builtin PySem.F.excAttr_ValueError.ga.plain PySem.F.entry_bexc_ga ?_)
  refine @check_slot (model prog w) _ _ ⟨hp, gg, dd, tt + 1, oo⟩ "BaseException.__getattribute__" "BaseException" "__getattribute__" (.ref x) [.str "__class__" tt] [] _ (by decide +kernel) (by decide +kernel) isE (PySem.F.args_bexc_ga (.ref x) (.str "__class__" tt)) ?_
  unfold Builtin.«object.__getattribute__»
  refine wpAny_bind (wpAny_of_eq (a := ((Value.ref x : Value), [Value.str "__class__" tt])) (by first | rfl | (simp only [slotArgs]; rfl)) ?_)
  refine wpAny_bind (wpAny_pure (wpAny_bind (T0.at (wpAny_bind (T3.at ?_)))))
  show wpAny _ _ (holding [Value.builtin "object.__class__"] (call (.builtin "getset_descriptor.__get__") [.builtin "object.__class__", .ref x, .ref D]) >>= ret) _ _ ⟨hp, gg, dd, tt + 1, oo⟩
  refine wpAny_bind (wpAny_holding (wpAny_call (class_get (s := ⟨hp, gg, dd, tt + 1, oo⟩) (ox := ox) (od := od) X I CC.hm ?_)))
  refine wpAny_pure ?_
  show wpAny _ _ (handedOut (.ref D)) _ _ _
  rw [handedOut_of (v := .ref D) rfl]
  first
    | exact wpAny_pure (wpAny_pure h)
    | exact wpAny_pure h
    | exact wpAny_pure (wpAny_bind (wpAny_pure (wpAny_pure h)))
theorem kit_err (CC : L2.ExcC K D) : KitX K (.ref x) (.ref D) (fun h => InstAt h x ox D od) where
  ty := fun _ _ _ I => I.type
  it := fun _ _ X _ => by
    obtain ⟨cdD, hcD, _⟩ := any_some CC.hd
    unfold clsIn at hcD
    split at hcD
    · rename_i ho
      exact fun A' Q' E' s' k q => by
        unfold isType loadHead
        exact wpAny_bind (wpAny_loadPart (k _ _ (X _ _ ho)) (wpAny_pure q))
    · cases hcD
  ne := fun h tp dd its n sl X htp => by
    obtain ⟨cdD, hcD, _⟩ := any_some CC.hd
    refine Bool.eq_false_iff.mpr fun q => ?_
    obtain rfl : D = tp := Value.ref.inj (beq_iff_eq.mp q)
    unfold clsIn at hcD
    split at hcD
    · rename_i ho
      have z := (X _ _ ho).symm.trans htp
      cases z
    · cases hcD
  ca := fun X I k => class_of_err CC X I k
end
end GEn
end PySem
namespace G
open PySem L2 PyProof.Rows
section
variable {X : Cx} {a DC dx : Addr} {oe : Obj} {pn : List (Addr × Obj)} {ρ ρ1 : Rho} {pos pp px : Pos} {x f : Str} {i : Nat} {b : Bool} {fs : List (Str × D)}
theorem errAt {pins : List (Addr × Obj)} {σ : L2.St} {H : Hp} {s : Shared} {vs : List (Str × V)} (I : Inv (X.suite a ((a, oe) :: pn)) pins σ H s) (hz : Zc (.ref DC) (some dx) oe) (hf : ∃ vs, oe.data = .fields vs) (hd : H dx = some (.xd vs)) :
    ∃ (od : Obj) (mA : Str → Option Value), PySem.W.InstAt s.heap a oe DC (some od) ∧ (∀ f, PySem.W.lookIn f od = some (mA f)) ∧ ∀ f, RelO (vs.lookup f) (mA f) := by
  obtain ⟨ha, _⟩ := I.pin (a, oe) (List.mem_append_left _ List.mem_cons_self)
  obtain ⟨fv, hfv⟩ := hf
  have hx : ObjOk X.prog X.w H s.heap dx (.xd vs) := I.hok dx _ hd
  obtain ⟨mA, hns, hr⟩ := hx
  obtain ⟨od, ho, hl⟩ := lookIn_ns hns
  exact ⟨od, mA, ⟨ha, hz.1, by unfold PySem.W.notCls; rw [hfv] <;> rfl, by rw [hz.2]; exact ho⟩, hl, hr⟩
/-- isinstance(wrong, c), wrong an error with fields -/
def rIsF (K : PySem.W.Frag) (DC a dx : Addr) : List V → Hp → VK → Prop := fun xs H Q => ∃ (c : V) (cv : Value) (b : Bool) (vs : List (Str × V)), xs = [.ref a, c] ∧ H dx = some (.xd vs) ∧ (∀ u, RelV c u → u = cv) ∧ PySem.W.kitOne K (.ref DC) cv = some b ∧ Q (.bl b) H
theorem call_isF (C : ExcC X.K DC) (hz : Zc (.ref DC) (some dx) oe) (hf : ∃ vs, oe.data = .fields vs) : CallR (X.suite a ((a, oe) :: pn)) (.builtin "isinstance") (rIsF X.K DC a dx) := by
  intro pins s σ H xs us Q I r h
  obtain ⟨c, cv, b, vs, rfl, hd, hcv, e, q⟩ := h
  cases r with
  | cons rx rr =>
    cases rr with
    | cons rt rr =>
      cases rr
      cases rx
      obtain rfl := hcv _ rt
      obtain ⟨od, mA, J, _, _⟩ := errAt I hz hf hd
      exact PySem.W.kia_one (PySem.GEn.kit_err C) I.kIn J e (fun z => nomatch z) fun tk => ⟨.bl b, H, I.kept (t' := tk) fun _ _ z => z, rfl, q⟩
theorem ev_isF {c : V} {cv : Value} {e2 : Expr} (C : ExcC X.K DC) (hz : Zc (.ref DC) (some dx) oe) (hf : ∃ vs, oe.data = .fields vs) (hc : ∀ u, RelV c u → u = cv) (hk : PySem.W.kitOne X.K (.ref DC) cv = some b)
    (h2 : PE (X.suite a ((a, oe) :: pn)) e2 (tC c)) (hm : X.mg "isinstance" = none) (hN : X.N[i]? = some x := by rfl) (hv : Vis X.env.scope x := by first | exact Or.inl rfl | exact Or.inr (Or.inl rfl) | exact Or.inr (Or.inr rfl)) (hs : ρ[i]? = some (.fr (.exc a dx fs)) := by rfl)
    (hd : (x == ("__debug__" : Str)) = false := by decide) (hcd : (x == ("__classdict__" : Str)) = false := by decide) (hg : Gl (X.suite a ((a, oe) :: pn)) "isinstance" := by rfl)
    (he : starEach [.Name x px, e2] X.env = (false, eval (.Name x px) X.env) :: starEach [e2] X.env := by rfl) (he2 : starEach [e2] X.env = (false, eval e2 X.env) :: starEach [] X.env := by rfl) (hpl : (backTo pos (starEach [e2] X.env)).any (·.1) = false := by rfl) :
    EV (X.suite a ((a, oe) :: pn)) (.Call (.Name "isinstance" pp) [.Name x px, e2] [] pos) true ρ (.bl b) ρ :=
  PE.imp (pe_callB (call_isF C hz hf) hg hm (by decide +kernel) (pa_cons (pe_var (X := X.suite a ((a, oe) :: pn)) hN hv hd hcd) (pa_cons h2 pa_nil he2) he) (by decide) (by decide) he hpl) fun σ H Q ⟨w, B, R, k⟩ => by
    obtain ⟨v, e, r⟩ := R.ok i _ hs
    cases r with
    | exc hB rf => exact ⟨_, e, c, cv, b, _, rfl, R.ext _ _ hB, hc, hk, k B H _ R (Stp.refl R.ext) (.bl b)⟩
/-- what reading a field of such a class wants -/
structure ErrF (K : PySem.W.Frag) (DC : Addr) (f : Str) : Prop where
  ga : PySem.W.findIn K (.ref DC) "__getattribute__" = some (some (.builtin "BaseException.__getattribute__"))
  gg : PySem.W.findIn K (.ref DC) "__getattr__" = some none
  ex : PySem.W.subIn K (.ref DC) (.type "BaseException") = some true
  hd : PySem.W.hasDictIn K DC = true
  no : PySem.W.findIn K (.ref DC) f = some none
theorem ev_errF {z : D} (T : ErrF X.K DC f) (hz : Zc (.ref DC) (some dx) oe) (hf : ∃ vs, oe.data = .fields vs) (hl : fs.lookup f = some z) (hN : X.N[i]? = some x := by rfl) (hv : Vis X.env.scope x := by first | exact Or.inl rfl | exact Or.inr (Or.inl rfl) | exact Or.inr (Or.inr rfl)) (hs : ρ[i]? = some (.fr (.exc a dx fs)) := by rfl)
    (hd : (x == ("__debug__" : Str)) = false := by decide) (hcd : (x == ("__classdict__" : Str)) = false := by decide) (hb : attributeBase (.Name x px) f X.env (eval (.Name x px) X.env) = eval (.Name x px) X.env := by rfl) :
    EV (X.suite a ((a, oe) :: pn)) (.Attribute (.Name x px) f pos) true ρ z ρ := by
  refine ⟨fun pins s σ H Q I ⟨w, B, R, k⟩ => ?_⟩
  obtain ⟨v, e, r⟩ := R.ok i _ hs
  cases r with
  | exc hB rf =>
    have hB' := R.ext _ _ hB
    obtain ⟨y, hy, ry⟩ := rf.look hl
    refine attr_of hb (thn ((pe_var (X := X.suite a ((a, oe) :: pn)) hN hv hd hcd).run pins s σ H (fun t H1 => t = .ref a ∧ H1 = H) I ⟨_, e, rfl, rfl⟩) fun u s1 hh => ?_)
    obtain ⟨t, H1, I1, rt, ht, hH⟩ := hh
    subst ht
    obtain rfl : u = Value.ref a := rt
    subst hH
    obtain ⟨od, mA, J, lk, rr⟩ := errAt I1 hz hf hB'
    obtain ⟨u2, hu, ru⟩ := RelO.some_of (v := y) (o := mA f) (by have q := rr f; rw [hy] at q; exact q)
    exact PySem.HandSPX.exc_get I1.kIn J T.ga T.gg T.ex (PySem.W.findObj_own T.hd T.no rfl (by rw [lk f, hu])) (handed_of ru) ⟨y, H1, I1.tok _, ru, k B H1 y R (Stp.refl R.ext) ry⟩
end
section
variable {X : Cx} {e : Expr} {es : List Expr} {p : Bool} {ρ ρ1 : Rho} {ds : List D} {DD : DEnds} {pos pos2 pp : Pos} {x : Str} {C : Addr} {n : Nat} {fv : List V → List (Str × V)} {rest : List Stmt}
/-- raise X(e, ..) of such a class -/
theorem s_raiseS {fsD : List (Str × D)} (tk : Takes X DD.W) (mk : PMk X (.Call (.Name x pp) (e :: es) [] pos) (tMkS C n fv (tEA X.K p ρ ds ρ1))) (hn : ds.length = n) (hf : ∀ (B : Hp) vs, Reps X.K B vs ds → RepF X.K B (fv vs) fsD) (k : DD.ex (.ref C) (some fsD) ρ1) (hc : X.calm = true := by rfl) :
    S1 X (.Raise (some (.Call (.Name x pp) (e :: es) [] pos)) none pos2) ρ DD :=
  PS.imp (ps_raise hc tk mk) fun E σ H ⟨w, B, R, hl, g⟩ => ⟨w, B, R, fun B1 H1 vs R1 s1 r1 => ⟨by rw [r1.len]; exact hn, fun dx hd => by
    have G0 := Grow.lay (o := .xd (fv vs)) R1.ext hd
    exact g.ex (.ref C) (some fsD) ρ1 σ _ _ (some dx) k (R1.grow G0) (s1.b.trans G0.b) hl ⟨dx, _, rfl, upd_same, hf _ vs (r1.mono G0.b)⟩⟩⟩
theorem st_raiseS {fsD : List (Str × D)} (tk : Takes X DD.W) (mk : PMk X (.Call (.Name x pp) (e :: es) [] pos) (tMkS C n fv (tEA X.K p ρ ds ρ1))) (hn : ds.length = n) (hf : ∀ (B : Hp) vs, Reps X.K B vs ds → RepF X.K B (fv vs) fsD) (k : DD.ex (.ref C) (some fsD) ρ1) (hc : X.calm = true := by rfl) :
    ST X (.Raise (some (.Call (.Name x pp) (e :: es) [] pos)) none pos2 :: rest) ρ DD := st_cons (M := fun _ => False) (s_raiseS tk mk hn hf k hc) fun _ z => z.elim
end
end G

set_option Elab.async false
set_option maxRecDepth 100000
set_option maxHeartbeats 2000000
set_option linter.all false
/-! G22: while; methods that change nothing. -/
namespace G
open PySem L2 PyProof.Rows
section
variable {X : Cx} {c o e : Expr} {es : List Expr} {body : List Stmt} {p : Bool} {ρ ρ1 ρ2 : Rho} {ds : List D} {DD : DEnds} {pos apos : Pos}
/-- I m: so many turns at most are left -/
theorem s_while (I : Nat → Rho → Prop) {m0 : Nat} (h0 : I m0 ρ)
    (ht : ∀ m r, I m r → ∃ (p b : Bool) (r' : Rho), ET X c p r b r' ∧ (b = true → ST X body r' { DD with nx := fun r2 => ∃ m', m' < m ∧ I m' r2, ct := fun r2 => ∃ m', m' < m ∧ I m' r2, bk := DD.nx }) ∧ (b = false → DD.nx r'))
    (hp : PassesOwn (model X.prog X.w) X.A X.env X.xe := by first | exact PassesOwn.never | exact passes_of rfl) : S1 X (.While c body [] pos) ρ DD := by
  have W := fun q : { q : Nat × Rho // I q.1 q.2 } => ht q.1.1 q.1.2 q.2
  obtain ⟨fp, W⟩ := Classical.axiomOfChoice W
  obtain ⟨fb, W⟩ := Classical.axiomOfChoice W
  obtain ⟨fr, W⟩ := Classical.axiomOfChoice W
  have T : PT X c (fun σ H Q => ∃ q : { q : Nat × Rho // I q.1 q.2 }, tET X.K (fp q) q.1.2 (fb q) (fr q) σ H Q) := PT.ex fun q => (W q).1
  have Bd : PSs X body (fun E σ H => ∃ q : { q : { q : Nat × Rho // I q.1 q.2 } // fb q = true }, tST X.K X.N.length (fr q.1) { DD with nx := fun r2 => ∃ m', m' < q.1.1.1 ∧ I m' r2, ct := fun r2 => ∃ m', m' < q.1.1.1 ∧ I m' r2, bk := DD.nx } E σ H) := PSs.ex fun q => (W q.1).2.1 q.2
  refine PS.imp (ps_while hp T Bd) fun E σ H ⟨w, B, R, hl, g⟩ => ?_
  refine ⟨fun m σ' H' => ∃ B' r, SR X.K w B' H' σ' r ∧ Same B B' ∧ σ'.length = X.N.length ∧ I m r, ⟨m0, B, ρ, R, Same.refl _, hl, h0⟩, ?_⟩
  rintro m σ' H' ⟨B', r, R', e', l', hI⟩
  refine ⟨⟨(m, r), hI⟩, w, B', R', fun B1 H1 R1 s1 => ?_⟩
  have e1 := e'.trans s1.b
  cases hb : fb ⟨(m, r), hI⟩ with
  | true =>
    refine iteT ⟨fun σ2 H2 => ∃ m' B2 r2, m' < m ∧ SR X.K w B2 H2 σ2 r2 ∧ Same B B2 ∧ σ2.length = X.N.length ∧ I m' r2, fun σ2 H2 ⟨m', B2, r2, hm, h1, h2, h3, h4⟩ => ⟨m', hm, B2, r2, h1, h2, h3, h4⟩, ⟨⟨(m, r), hI⟩, hb⟩, w, B1, R1, l', ?_⟩
    exact ⟨fun r2 σ2 B2 H2 ⟨m', hm, h⟩ R2 s2 l2 => ⟨m', B2, r2, hm, R2, e1.trans s2, l2, h⟩, g.rt, fun r2 σ2 B2 H2 h R2 s2 l2 => g.nx r2 σ2 B2 H2 h R2 (e1.trans s2) l2, fun r2 σ2 B2 H2 ⟨m', hm, h⟩ R2 s2 l2 => ⟨m', B2, r2, hm, R2, e1.trans s2, l2, h⟩, fun cls pay r2 σ2 B2 H2 d h R2 s2 l2 po => g.ex cls pay r2 σ2 B2 H2 d h R2 (e1.trans s2) l2 po⟩
  | false => exact iteF (g.nx _ σ' B1 H1 ((W ⟨(m, r), hI⟩).2.2 hb) R1 e1 l')
/-- o.m() of an instance -/
theorem ev_meth0 {k : Nat} {m : Str} {f Cl : Addr} {fd : FuncData} {ps : List Str} {C : CP} {fs : List (Str × D)} {z : D} {pl : Sem Bool} (ho : EV X o p ρ (.ins Cl fs) ρ1) (c : Cls X.K Cl) (hm : Meth X.K Cl m f) (F : FnOk X.prog X.w X.K X.mg X.base CX0 k f fd ps (spP X.K C)) (hr : Room k X.A) (hb : Binds X.K fd ps [])
    (nf : fs.lookup m = none) (hC : C [.ins Cl fs] (fun d => d = z)) (ht : eval (.Call (.Attribute o m apos) [] [] pos) X.env = (do
      let ov ← eval o X.env
      standAt apos.atName
      let (f, first) ← holding [ov] (getMethod ov m pl)
      callWith pos f first (backTo pos (starEach [] X.env)) (backToKw pos (keywordEach [] X.env))) := by rfl) :
    EV X (.Call (.Attribute o m apos) [] [] pos) p ρ z ρ1 := PE.imp (pe_meth0 (pl := pl) ho c hm F hr hb .nil pass0 ht) fun σ H Q ⟨w, B, R, kk⟩ => ⟨w, B, R, fun B1 H1 v R1 s1 r1 => by
  cases r1 with
  | ins hB r =>
    refine ⟨_, _, _, rfl, R1.ext _ _ hB, r.none nf, ?_⟩
    exact ⟨B1, [.ins Cl fs], _, hC, R1.ext, .cons (.ins hB r) .nil, fun B' H' v d g hd rv => by
      subst hd
      exact kk B' H' v (R1.grow g) (s1.add g) rv⟩⟩
/-- [elt for tg in e if c] -/
theorem en_filt {tg elt : Expr} {fs : List (Option D)} {scope : Scope} {own : List (Str × Nat)} (hi : ITR X tg e p ρ ds ρ) (M : FiltOk X tg elt c ρ ds fs scope own) (hc : X.calm = true := by rfl) (hs : ∀ x, foldedSetIterable e X.env x = pure x := by intro _; rfl) : EN X (.ListComp elt [⟨tg, e, [c], 0⟩] scope pos) false ρ (fs.filterMap id) ρ := by
  refine en_ofW (ρ2 := ρ) (wn_lc (own := own) (PL := fun d r => d = ds ∧ r = ρ) (fun d j acc r => d = ds ∧ acc = (fs.take j).filterMap id ∧ r = ρ) (wi_of hi ⟨rfl, rfl⟩) M.nd M.ok (fun d r h => ?_) (fun d j x acc r hd hI => ?_) (fun d ys r hI => ?_) hc hs)
  · obtain ⟨rfl, rfl⟩ := h
    exact ⟨⟨rfl, rfl, M.un⟩, M.few, M.lt⟩
  · obtain ⟨rfl, rfl, rfl⟩ := hI
    have hj : j < fs.length := by rw [M.len]; exact (List.getElem?_eq_some_iff.mp hd).1
    have hz := List.getElem?_eq_getElem hj
    obtain ⟨ρt, ρc, pp, h1, h2, h3, h4⟩ := M.b j x _ hd hz
    refine ⟨ρt, fun b r => b = fs[j].isSome ∧ r = ρc, h1, fun s H C cl fp => pts_oneW (wt_of (h2 s H C cl fp) ⟨rfl, rfl⟩), fun r h => ?_, fun r h s H C cl fp => ?_⟩
    · obtain ⟨hb, rfl⟩ := h
      refine ⟨rfl, ?_, h3⟩
      rw [take_fm hz]
      cases e : fs[j] with
      | none => simp
      | some z => rw [e] at hb; cases hb
    · obtain ⟨hb, rfl⟩ := h
      cases e : fs[j] with
      | none => rw [e] at hb; cases hb
      | some z =>
        obtain ⟨ρe, pp, h5, h6⟩ := h4 z e
        refine we_of (h5 s H C cl fp) ⟨rfl, ?_, h6⟩
        rw [take_fm hz, e]; rfl
  · obtain ⟨rfl, rfl, rfl⟩ := hI
    refine ⟨?_, M.un⟩
    rw [← M.len, List.take_length]
end
end G

set_option Elab.async false
set_option maxRecDepth 100000
set_option maxHeartbeats 2000000
set_option linter.all false
/-! G23: repr of data, where no repr is under way. -/
namespace G
open PySem L2 PyProof.Rows
mutual
/-- data as the model's own readings of data have it -/
def D.py : D → PyData
  | .bl b => .bool b
  | .int i => .int i
  | .str x => .str x
  | .tup l => .tuple (D.pys l)
  | .lst l => .list (D.pys l)
  | .non => .none
  | .ins _ _ => .none
  | .any => .none
  | .vl _ => .none
  | .scr _ => .none
  | .exc _ _ _ => .none
  | .dct => .none
def D.pys : List D → List PyData
  | [] => []
  | d :: l => D.py d :: D.pys l
end
mutual
/-- numbers, texts, None, and rows of these -/
def D.bare : D → Bool
  | .bl _ => true
  | .int _ => true
  | .str _ => true
  | .tup l => D.bares l
  | .lst l => D.bares l
  | .non => true
  | .ins _ _ => false
  | .any => false
  | .vl _ => false
  | .scr _ => false
  | .exc _ _ _ => false
  | .dct => false
def D.bares : List D → Bool
  | [] => true
  | d :: l => D.bare d && D.bares l
end
section
variable {P : Program} {w : World} {K : PySem.W.Frag} {B H : Hp} {h : Heap}
mutual
theorem Rep.reads (e : Same B H) (ok : HOk P w H h) : ∀ {v : V} {d : D} {u : Value}, Rep K B v d → d.bare = true → RelV v u → ∃ as, Reads h u d.py as
  | _, _, _, .non, _, r => by
    obtain rfl := (show _ = Value.none from r)
    exact ⟨_, by unfold D.py; exact .none⟩
  | _, _, _, .bl b, _, r => by
    obtain rfl := (show _ = Value.bool b from r)
    exact ⟨_, by unfold D.py; exact .bool b⟩
  | _, _, _, .int i, _, r => by
    obtain ⟨t, rfl⟩ := (show ∃ t, _ = Value.int i t from r)
    exact ⟨_, by unfold D.py; exact .int i t⟩
  | _, _, _, .str x, _, r => by
    obtain ⟨t, rfl⟩ := (show ∃ t, _ = Value.str x t from r)
    exact ⟨_, by unfold D.py; exact .str x t⟩
  | _, _, _, .lst (a := a) (xs := xs) (ds := ds) hb rs, q, r => by
    obtain rfl := (show _ = Value.ref a from r)
    have q : D.bares ds = true := by unfold D.bare at q; exact q
    obtain ⟨_, its, n, rv, ho⟩ := ok a _ (e _ _ hb)
    obtain ⟨as, h1⟩ := Reps.reads e ok rs q rv
    exact ⟨a :: as, by unfold D.py; exact .list ho rfl rfl h1⟩
  | _, _, _, .tup (a := a) (xs := xs) (ds := ds) hb rs, q, r => by
    obtain rfl := (show _ = Value.ref a from r)
    have q : D.bares ds = true := by unfold D.bare at q; exact q
    obtain ⟨_, its, rv, o, ho, hc, n, hd⟩ := ok a _ (e _ _ hb)
    obtain ⟨as, h1⟩ := Reps.reads e ok rs q rv
    exact ⟨as, by unfold D.py; exact .tuple ho hc hd h1⟩
  | _, _, _, .ins _ _, q, _ => by unfold D.bare at q; cases q
  | _, _, _, .any _, q, _ => by unfold D.bare at q; cases q
  | _, _, _, .vl _, q, _ => by unfold D.bare at q; cases q
  | _, _, _, .scr _, q, _ => by unfold D.bare at q; cases q
  | _, _, _, .exc _ _, q, _ => by unfold D.bare at q; cases q
  | _, _, _, .dct _, q, _ => by unfold D.bare at q; cases q
theorem Reps.reads (e : Same B H) (ok : HOk P w H h) : ∀ {vs : List V} {ds : List D} {us : List Value}, Reps K B vs ds → D.bares ds = true → Vals vs us → ∃ as, ReadsAll h us (D.pys ds) as
  | _, _, _, .nil, _, .nil => ⟨_, by unfold D.pys; exact .nil⟩
  | _, _, _, .cons r rs, q, .cons rv rvs => by
    unfold D.bares at q
    obtain ⟨q1, q2⟩ := Bool.and_eq_true_iff.mp q
    obtain ⟨as, h1⟩ := Rep.reads e ok r q1 rv
    obtain ⟨bs, h2⟩ := Reps.reads e ok rs q2 rvs
    exact ⟨_, by unfold D.pys; exact .cons h1 h2⟩
end
end
mutual
theorem D.py_noDict : ∀ d : D, d.py.hasDict = false
  | .bl _ => by unfold D.py PyData.hasDict; rfl
  | .int _ => by unfold D.py PyData.hasDict; rfl
  | .str _ => by unfold D.py PyData.hasDict; rfl
  | .non => by unfold D.py PyData.hasDict; rfl
  | .ins _ _ => by unfold D.py PyData.hasDict; rfl
  | .any => by unfold D.py PyData.hasDict; rfl
  | .vl _ => by unfold D.py PyData.hasDict; rfl
  | .scr _ => by unfold D.py PyData.hasDict; rfl
  | .exc _ _ _ => by unfold D.py PyData.hasDict; rfl
  | .dct => by unfold D.py PyData.hasDict; rfl
  | .tup l => by unfold D.py PyData.hasDict; exact D.pys_noDict l
  | .lst l => by unfold D.py PyData.hasDict; exact D.pys_noDict l
theorem D.pys_noDict : ∀ l : List D, PyData.hasDictAll (D.pys l) = false
  | [] => by unfold D.pys PyData.hasDictAll; rfl
  | d :: l => by
    unfold D.pys PyData.hasDictAll
    rw [D.py_noDict d, D.pys_noDict l]; rfl
end
/-- what repr wants of data -/
structure Shows (d : D) : Prop where
  bare : d.bare = true
  show_ : d.py.showable = true
  flat : d.py.depth ≤ 20
  fits : d.py.shown.length ≤ sizeLine
section
variable {X : Cx} {e : Expr} {p : Bool} {ρ ρ1 : Rho} {d : D} {pos pp : Pos}
def rRepr (X : Cx) (d : D) : List V → Hp → VK → Prop := fun vs H Q => ∃ B a, vs = [.ref a] ∧ Same B H ∧ Rep X.K B (.ref a) d ∧ Q (.str d.py.shown) H
theorem call_repr {k : Nat} (hr : Room k X.A) (hg : X.A.guards = some []) (sh : Shows d) : CallR X (.builtin "repr") (rRepr X d) := by
  intro pins s σ H vs us Q I r h
  obtain ⟨B, a, rfl, eB, rep, q⟩ := h
  cases r with
  | cons r1 r2 =>
    cases r2
    obtain rfl := (show _ = Value.ref a from r1)
    obtain ⟨as, rd⟩ := rep.reads eB I.hok sh.bare r1
    refine repr_of_reads' rd sh.show_ (fun z => by rw [D.py_noDict] at z; cases z) hg ?_ (fun _ _ z => z) (fun h' u tk k => ?_) sh.fits
    · have := hr.un
      have := sh.flat
      omega
    · exact ⟨.str d.py.shown, H, I.kept (t' := tk) k, ⟨u, rfl⟩, q⟩
/-- repr(e) of a row -/
theorem ev_repr {k : Nat} (hr : Room k X.A) (hgd : X.A.guards = some []) (sh : Shows d) (hd : (∃ l, d = .lst l) ∨ ∃ l, d = .tup l) (hm : X.mg "repr" = none) (ha : EV X e p ρ d ρ1) (hg : Gl X "repr" := by rfl) (he : starEach [e] X.env = (false, eval e X.env) :: starEach [] X.env := by rfl) :
    EV X (.Call (.Name "repr" pp) [e] [] pos) (p && true) ρ (.str d.py.shown) ρ1 :=
  PE.imp (pe_callB (call_repr hr hgd sh) hg hm (by decide +kernel) (ea_cons ha ea_nil he) (by decide) (by decide) he rfl) fun σ H Q ⟨w, B, R, kk⟩ => ⟨w, B, R, fun B1 H1 vs R1 s1 r1 => by
    match vs, r1 with
    | [v], .cons r2 .nil =>
      have hv : ∃ a, v = V.ref a := by
        rcases hd with ⟨l, e1⟩ | ⟨l, e1⟩
        · rw [e1] at r2; cases r2; exact ⟨_, rfl⟩
        · rw [e1] at r2; cases r2; exact ⟨_, rfl⟩
      obtain ⟨a, e2⟩ := hv
      subst e2
      exact ⟨B1, a, rfl, R1.ext, r2, kk B1 H1 _ R1 s1 (.str _)⟩⟩
end
end G

set_option Elab.async false
set_option maxRecDepth 100000
set_option maxHeartbeats 2000000
set_option linter.all false
/-! G24: promises of defs that ask for repr: they hold where no repr is under way. -/
namespace G
open PySem L2 PyProof.Rows
structure FnG (Pr : Program) (wd : World) (Kf : PySem.W.Frag) (gl : Str → Option Value) (bs : Heap) (n : Nat) (fa : Addr) (fx : FuncData) (names : List Str) (S : Sp) : Prop where
  many : ∀ a H Q E, S a H Q E → a.length = names.length
  go : ∀ (Ar : Around) (out : List Env) (sh : Shared) (H : Hp) (gs : Args) (ws : List Value) (a : List V) (Q : VK) (E : XK), Ar.guards = some [] → Room n Ar → Env0 Pr wd Kf gl bs Ar out sh H → BindsTo sh fx gs (names.zip ws) → Vals a ws → S a H Q E →
    codeAny (model Pr wd) Ar (.call (.ref fa) gs) (CR CX0 out Pr wd H sh Q E) sh
section
variable {Pr : Program} {wd : World} {Kf : PySem.W.Frag} {gl : Str → Option Value} {bs : Heap}
theorem fun_okG {x q : Str} {st : Stmt} {fa : Addr} {fx : FuncData} {N names : List Str} {n : Nat} {S : Sp} (F : Fun Kf x q st fa fx) (sc : FnScope N names (defScope st)) (many : ∀ a H Q E, S a H Q E → a.length = names.length)
    (bd : ∀ (cd : Value) (Ar : Around) (out : List Env) (sh : Shared) (H : Hp) (a : List V) (Q : VK) (E : XK), Ar.guards = some [] → Room n (Ar.deeper (envOfC q (defScope st) sh.heap.objs.size fa cd)) → S a H Q E →
      ∃ t, PSs (cxOf CX0 Pr wd Kf gl bs N q (defScope st) fa cd Ar out sh H E).nox (defBody st) t ∧ t { nx := fun _ G => Q .non G, rt := Q } (start N a) H) : FnG Pr wd Kf gl bs (n + 1) fa fx names S := by
  obtain ⟨_, _, _, _, _, _, cd, _, _, rfl, at_, code⟩ := F.ex
  refine ⟨many, fun Ar out sh H gs ws a Q E gd room e0 bind rv hS => ?_⟩
  have inK : Kf.In sh.heap := e0.mod.kin.keeps fun b o z => (e0.bs b o z).1
  have noLim : sh.heap.NoLimit := e0.mod.nolimit.keeps fun b o z => (e0.bs b o z).1
  have kinds : ∀ y ∈ names.zip ws, (defScope st).names.lookup y.1 = some .local ∨ ((defScope st).names.lookup y.1 = some .cell ∧ ((cellsFrom (sh.heap.objs.size + 1) (defScope st).names []).lookup y.1).isSome = true) := fun ⟨y, v⟩ hy =>
    (sc.par y (List.of_mem_zip hy).1).imp id fun z => ⟨z, PySem.W.cellsFrom_some _ _ _ (.inl z)⟩
  refine codeAny_call_function room.depth (inK _ _ at_) rfl sc.co sc.gen rfl (PySem.W.codeRec_of inK code) (bind _ _ _ _ (wpAny_newFunctionEnv_cells sc.kind kinds fun en he s1 z => ?_))
  subst he
  obtain ⟨t, ht, hq⟩ := bd cd Ar out sh H a Q E gd (room.deeper _) hS
  have inv : Inv (cxOf CX0 Pr wd Kf gl bs N q (defScope st) fa cd Ar out sh H E) [] (start N a) H s1 := inv_start sc room.hd e0 (many _ _ _ _ hS) rv z
  refine ⟨noLim.keeps z.toInCall.keep, codeAny_func (wpAny_mono (ht.nox.run [] s1 (start N a) H _ inv hq) (fun fl s2 hs => ?_) fun e s2 hs => hs)⟩
  have ends : ∀ {σ : L2.St} {G : Hp} {v : V} {u : Value}, Inv (cxOf CX0 Pr wd Kf gl bs N q (defScope st) fa cd Ar out sh H E) [] σ G s2 → RelV v u → Q v G → CE out Pr wd H sh Q u s2 := fun {_ G v _} J rv k => ⟨v, G, J.os, J.bare, J.base, J.hok, rv, k⟩
  match fl, hs with
  | .ret u, ⟨v, σ, G, J, rv, k⟩ => exact ends J rv k
  | .next, ⟨σ, G, J, k⟩ => exact ends (v := V.non) (u := Value.none) J rfl k
  | .brk, ⟨_, _, _, z⟩ => exact z.elim
  | .cont, ⟨_, _, _, z⟩ => exact z.elim
/-- a def of such, arguments by value, without a pool -/
theorem fnPG {x q : Str} {st : Stmt} {fa : Addr} {fx : FuncData} {N names : List Str} {n : Nat} {C : CP} (F : Fun Kf x q st fa fx) (sc : FnScope N names (defScope st)) (many : ∀ ds R, C ds R → ds.length = names.length)
    (bd : ∀ (cd : Value) (Ar : Around) (out : List Env) (sh : Shared) (H : Hp) (E : XK) (ds : List D) (R : D → Prop), Ar.guards = some [] → Room n (Ar.deeper (envOfC q (defScope st) sh.heap.objs.size fa cd)) → C ds R →
      ST (cxOf CX0 Pr wd Kf gl bs N q (defScope st) fa cd Ar out sh H E).nox (defBody st) (ds.map .fr ++ List.replicate (N.length - ds.length) .un) { nx := fun _ => R .non, rt := fun d _ => R d }) : FnG Pr wd Kf gl bs (n + 1) fa fx names (spP Kf C) := by
  refine fun_okG F sc (fun a H Q E ⟨_, ds, R, hC, _, r, _⟩ => r.len.trans (many ds R hC)) (fun cd Ar out sh H a Q E gd room hS => ?_)
  obtain ⟨B, ds, R, hC, e, r, k⟩ := hS
  have sl : a.length ≤ N.length := by
    have z := congrArg List.length sc.pre
    rw [List.length_take] at z
    rw [r.len, many ds R hC]
    omega
  refine ⟨_, bd cd Ar out sh H E ds R gd room hC, ⟨B, H, []⟩, B, ?_, ?_, ?_⟩
  · unfold L2.start
    exact (SR.args e r).pad (by rw [List.length_map, List.length_map, r.len]) (by rw [r.len])
  · unfold L2.start
    rw [List.length_append, List.length_map, List.length_replicate]
    show _ = N.length
    omega
  · exact ⟨fun _ _ B2 H2 hR J _ _ => k B2 H2 .non .non J.grown hR .non, fun d _ _ B2 H2 v hR J rv => k B2 H2 v d J.grown hR rv, fun _ _ _ _ z => z.elim, fun _ _ _ _ z => z.elim, fun _ _ _ _ _ _ _ z => z.elim⟩
/-- a def of such, the first argument a pool -/
theorem fnMG {x q : Str} {st : Stmt} {fa : Addr} {fx : FuncData} {N names : List Str} {n : Nat} {C : CM} (F : Fun Kf x q st fa fx) (sc : FnScope N names (defScope st)) (many : ∀ ws ds R, C ws ds R → ds.length + 1 = names.length)
    (bd : ∀ (cd : Value) (Ar : Around) (out : List Env) (sh : Shared) (H : Hp) (E : XK) (a : Addr) (ws ds : List D) (R : D → List D → Prop), Ar.guards = some [] → Room n (Ar.deeper (envOfC q (defScope st) sh.heap.objs.size fa cd)) → C ws ds R →
      ST (cxOf CX0 Pr wd Kf gl bs N q (defScope st) fa cd Ar out sh H E).nox (defBody st) (.pr a (.l ws) :: (ds.map .fr ++ List.replicate (N.length - (ds.length + 1)) .un)) { nx := fun ρ => ∃ ws', ρ[0]? = some (.pr a (.l ws')) ∧ R .non ws', rt := fun d ρ => ∃ ws', ρ[0]? = some (.pr a (.l ws')) ∧ R d ws' }) : FnG Pr wd Kf gl bs (n + 1) fa fx names (spM Kf C) := by
  refine fun_okG F sc (fun a H Q E ⟨_, p, us, _, ws, ds, R, e0, hC, _, r, _⟩ => by rw [e0, List.length_cons, r.len]; exact many ws ds R hC) (fun cd Ar out sh H vs Q E gd room hS => ?_)
  obtain ⟨B, a, us, xs, ws, ds, R, rfl, hC, e, r, ha, hb, rx, k⟩ := hS
  have fin : ∀ {ρ : Rho} {σ : L2.St} {B2 H2 : Hp} {v : V} {d : D} {ws2 : List D}, ρ[0]? = some (.pr a (.l ws2)) → R d ws2 → SR Kf ⟨B, H, [a]⟩ B2 H2 σ ρ → Rep Kf B2 v d → Q v H2 := fun {ρ _ B2 H2 v d ws2} h0 hR J rv => by
    obtain ⟨_, xs2, h1, h2⟩ := J.ok 0 _ h0
    exact k B2 H2 v d xs2 ws2 ⟨J.ex0, J.ext, fun x o z n => J.frame x o z (by simpa using n), J.dom, J.new, J.sep 0 _ h0 a (by simp [Slot.foot, W.foot])⟩ h1 h2 hR rv
  have sl : us.length + 1 ≤ N.length := by
    have z := congrArg List.length sc.pre
    rw [List.length_take] at z
    rw [r.len, many ws ds R hC]
    omega
  refine ⟨_, bd cd Ar out sh H E a ws ds R gd room hC, ⟨B, H, [a]⟩, B, ?_, ?_, ?_⟩
  · unfold L2.start
    exact (SR.argsM e r ha hb rx).pad (by simp [r.len]) (by simp [r.len])
  · unfold L2.start
    rw [List.length_append, List.length_map, List.length_replicate, List.length_cons]
    show _ = N.length
    omega
  · exact ⟨fun _ _ B2 H2 ⟨w2, h0, hR⟩ J _ _ => fin h0 hR J .non, fun d _ _ B2 H2 v ⟨w2, h0, hR⟩ J rv => fin h0 hR J rv, fun _ _ _ _ z => z.elim, fun _ _ _ _ z => z.elim, fun _ _ _ _ _ _ _ z => z.elim⟩
end
section
variable {X : Cx} {n : Nat} {fa : Addr} {fx : FuncData} {names : List Str} {S : Sp} {x : Str} {pp pos : Pos} {e : Expr} {es : List Expr} {p : Bool} {ρ ρ1 : Rho} {ds : List D} {z : D} {t : TA}
theorem pe_callG (F : FnG X.prog X.w X.K X.mg X.base n fa fx names S) (gd : X.A.guards = some []) (room : Room n X.A) (lg : Gl X x) (at_ : X.mg x = some (.ref fa)) (kp : PySem.W.keepIn X.K (.ref fa) = true) (bnd : Binds X.K fx names [])
    (arg : PA X (e :: es) t) (ndb : (x == ("__debug__" : Str)) = false) (st1 : starEach (e :: es) X.env = (false, eval e X.env) :: starEach es X.env) (st2 : (backTo pos (starEach es X.env)).any (·.1) = false) :
    PE X (.Call (.Name x pp) (e :: es) [] pos) (tCall S [] E0 t) := by
  constructor
  intro pins s σ H Q inv hT
  refine wpAny_Call_Name_kw (ld_glob inv lg at_ ?_ ndb)
  refine PySem.W.callWith_K (h₀ := X.base) inv.ok.mod.kin kp (thn (arg.run pos pins s σ H _ inv hT) fun us s1 ⟨vs, H1, J, rv, q⟩ => ⟨J.kIn, ?_⟩) st1 st2
  have q : S (vs ++ []) H1 Q E0 := q
  rw [List.append_nil] at q
  have sz : us.length = names.length := by rw [← rv.length]; exact F.many _ _ _ _ q
  have bi := bnd s1 us J.kIn (by rw [List.append_nil]; exact sz)
  rw [List.append_nil] at bi
  refine wpAny_call (codeAny_mono (F.go X.A X.stack s1 H1 ⟨us, []⟩ us vs Q E0 gd room J.env0 bi rv q) fun r s2 hq => ?_)
  match r, hq with
  | .ok (.ret u), hq => exact J.after hq
  | .ok .next, hq => exact False.elim hq
  | .ok .brk, hq => exact False.elim hq
  | .ok .cont, hq => exact False.elim hq
  | .error _, hq => exact False.elim hq
end
/-! ### the end of a law -/
theorem law_goes {Pr : Program} {wd : World} {Kf : PySem.W.Frag} {gl mb : Str → Option Value} {n : Nat} {fa sc : Addr} {fx : FuncData} {x : Str} {S : Sp} {s1 : Shared} {vs : List Value} {ns : List Int}
    (inK : Kf.In s1.heap) (nsG : s1.heap.Ns mainGlobals gl) (nsB : s1.heap.Ns builtinsNs mb) (boot : ∀ x : Str, x ≠ "__name__" → mb x = bootBuiltins x) (noLim : s1.heap.NoLimit) (gens : s1.gens = #[])
    (at_ : s1.heap.get? sc = some { cls := .type "list", data := .seq vs.toArray }) (isn : IntsAre vs ns) (few : ns.length ≤ sizeLine) (room : Room n callerA)
    (F : ∀ bs : Heap, Kf.In bs → bs.Ns mainGlobals gl → FnG Pr wd Kf gl bs n fa fx [x] S) (bnd : ∀ (s : Shared) (u : Value), BindsTo s fx ⟨[u], []⟩ [(x, u)])
    (hS : ∀ H : Hp, Only H → SqL Kf H sc (ns.map V.int) → S [.ref sc] H (fun v _ => v = .bl true) fun _ _ _ => False) :
    codeAny (model Pr wd) callerA (.call (.ref fa) ⟨[.ref sc], []⟩) (fun r s2 => r = .ok (.ret (.bool true)) ∧ OldK s1.heap s2.heap ∧ s2.os = s1.os ∧ AllBare s2.gens) s1 := by
  have rv := vals_ints isn
  have lv := isn.length
  -- over such an abstract heap that tracks the script at most
  have over : ∀ H : Hp, Only H → SqL Kf H sc (ns.map V.int) → HOk Pr wd H s1.heap → (∀ b, H b ≠ none → b = sc ∧ Kf.lookup sc = none) → codeAny (model Pr wd) callerA (.call (.ref fa) ⟨[.ref sc], []⟩) (fun r s2 => r = .ok (.ret (.bool true)) ∧ OldK s1.heap s2.heap ∧ s2.os = s1.os ∧ AllBare s2.gens) s1 := by
    intro H only sq hok hA
    have hid : ∀ {b : Addr} {o : Obj}, s1.heap.get? b = some o → H b = none → (hidT s1.heap H).get? b = some o := fun z n => hidT_get z n
    have free : ∀ {b : Addr} {o : Obj}, s1.heap.get? b = some o → (b = sc → False) → H b = none := fun {b o} _ ne => by
      cases q : H b with
      | none => rfl
      | some u => exact (ne (hA b (by rw [q]; exact fun z => nomatch z)).1).elim
    have notDict : ∀ {b : Addr} {o : Obj} {es : Array DictEntry} {ep : Nat}, s1.heap.get? b = some o → o.data = .dict es ep → b = sc → False := fun {b o es ep} e d q => by
      rw [q, at_] at e
      cases e
      exact nomatch d
    have ns2 : ∀ {b : Addr} {m : Str → Option Value}, s1.heap.Ns b m → (hidT s1.heap H).Ns b m := fun {b m} ⟨o, es, ep, e, d, r⟩ => ⟨o, es, ep, hid e (free e (notDict e d)), d, r⟩
    have kin2 : Kf.In (hidT s1.heap H) := fun b o e => by
      refine hid (inK b o e) ?_
      cases q : H b with
      | none => rfl
      | some u =>
        obtain ⟨z1, z2⟩ := hA b (by rw [q]; exact fun z => nomatch z)
        rw [z1, z2] at e
        cases e
    have mod : Mod Kf gl (hidT s1.heap H) := ⟨kin2, ns2 nsG, ⟨mb, ns2 nsB, boot⟩, noLim.imp fun _ z => ⟨ns2 z.1, z.2⟩⟩
    have e0 : Env0 Pr wd Kf gl (hidT s1.heap H) callerA [] s1 H := ⟨rfl, mod, fun b o e => of_hidT e, Nat.le_of_eq (hidT_size _ _), trivial, fun b (hb : b ∈ ([] : List Addr)) => (List.not_mem_nil hb).elim, hok, .of_eq gens⟩
    refine codeAny_mono ((F _ kin2 (ns2 nsG)).go callerA [] s1 H ⟨[.ref sc], []⟩ [.ref sc] [.ref sc] _ _ rfl room e0 (bnd s1 (.ref sc)) (.cons rfl .nil) (hS H only sq)) fun r s2 h => ?_
    match r, h with
    | .ok .next, h => exact False.elim h
    | .ok .brk, h => exact False.elim h
    | .ok .cont, h => exact False.elim h
    | .error _, h => exact False.elim h
    | .ok (.ret u), ⟨v, H2, os, bare, un, hok2, r2, q⟩ =>
      subst q
      obtain rfl : u = Value.bool true := r2
      refine ⟨rfl, OldK.of_keep fun b o e => ?_, os, bare⟩
      cases q : H b with
      | none => exact un.keep b o e q (fun z => (List.not_mem_nil z).elim) (fun z => (List.not_mem_nil z).elim)
      | some u =>
        rcases only b with z | ⟨ob, xs, z⟩
        · rw [z] at q; cases q
        · obtain ⟨e1, _⟩ := hok b _ z
          obtain ⟨e2, _⟩ := hok2 b _ (un.frzs b ob _ z)
          rw [e] at e1
          cases e1
          exact e2
  by_cases hk : Kf.lookup sc = none
  · have pick : ∀ {b : Addr} {u : HO}, (if b = sc then some (HO.frz { cls := .type "list", data := .seq vs.toArray } (.lst (ns.map V.int))) else none) = some u → b = sc ∧ HO.frz { cls := .type "list", data := .seq vs.toArray } (.lst (ns.map V.int)) = u := fun {b u} z => by
      by_cases q : b = sc
      · rw [if_pos q] at z; cases z; exact ⟨q, rfl⟩
      · rw [if_neg q] at z; cases z
    refine over (fun b => if b = sc then some (.frz { cls := .type "list", data := .seq vs.toArray } (.lst (ns.map V.int))) else none) (fun b => ?_) (.inl (.inr ⟨_, if_pos rfl⟩)) (fun b u z => ?_) fun b z => ?_
    · by_cases q : b = sc
      · exact .inr ⟨_, _, if_pos q⟩
      · exact .inl (if_neg q)
    · obtain ⟨q1, q2⟩ := pick z
      subst q1 q2
      exact ⟨at_, by rw [List.length_map]; exact few, vs, _, rv, at_⟩
    · by_cases q : b = sc
      · exact ⟨q, hk⟩
      · exact (z (if_neg q)).elim
  · obtain ⟨o, ho⟩ := Option.ne_none_iff_exists'.mp hk
    have e := inK sc o ho
    rw [at_] at e
    cases e
    exact over (fun _ => none) (fun _ => .inl rfl) (.inr ⟨_, vs.toArray, _, ho, rfl, rfl, rfl, by rw [List.size_toArray, lv]; exact few, by simpa using rv⟩) (fun _ _ (z : (none : Option HO) = some _) => nomatch z) fun _ z => (z rfl).elim
theorem walk_goes {l : PySem.W.OpenLaw} {m n : Nat} {q : Program} {loose : List Str} {XP : (Str → Option Value) → Heap → Prop} {YP : World → Heap → Prop} {d : DefRec} {Kp : Params → PySem.W.Frag} {S : World → Sp} {x : Str}
    (most : l.most = some m) (small : m ≤ sizeLine) (noDef : d.params.defaults = []) (room : Room n callerA) (inY : ∀ (wd : World) (h : Heap), YP wd h → (Kp wd.params).In h)
    (F : ∀ (wd : World) (gl : Str → Option Value) (fa : Addr) (h : Heap), (Kp wd.params).In h → h.Ns mainGlobals gl → gl d.name = some (.ref fa) →
      ∃ fx : FuncData, (∀ (s : Shared) (u : Value), BindsTo s fx ⟨[u], []⟩ [(x, u)]) ∧ ∀ bs : Heap, (Kp wd.params).In bs → bs.Ns mainGlobals gl → FnG l.prog wd (Kp wd.params) gl bs n fa fx [x] (S wd))
    (hS : ∀ (wd : World) (H : Hp) (a : Addr) (ns : List Int), ns.length ≤ m → Only H → SqL (Kp wd.params) H a (ns.map V.int) → S wd [.ref a] H (fun v _ => v = .bl true) fun _ _ _ => False) :
    PySem.W.WalkO q loose XP YP l.row.toRowW d [] (fun f vs => PySem.call f vs) :=
  Att.attach_call most noDef fun wd s0 s1 gl mb fa o pm cd doc a vs ns G Y ho hd hcd hmg hobj hints hlen hg => by
    obtain ⟨fx, bnd, hF⟩ := F wd gl fa _ (inY wd _ Y) G.T.g hmg
    exact law_goes (inY wd _ Y) G.T.g G.T.b G.T.builtins G.T.nolimit hg hobj hints (Nat.le_trans hlen small) room hF bnd fun H h1 h2 => hS wd H a ns hlen h1 h2
end G

set_option Elab.async false
set_option maxRecDepth 100000
set_option maxHeartbeats 2000000
set_option linter.all false
/-! G25: gcd, abs, any of numbers, a text some times; slices; insert; x[i] = e with a drawn i; try without a name; four targets; calls where no repr is under way. -/
namespace G
open PySem L2 PyProof.Rows
section
variable {X : Cx} {a b e : Expr} {es : List Expr} {p q : Bool} {ρ ρ1 ρ2 : Rho} {ds : List D} {d z : D} {i j : Int} {pos pp p2 : Pos} {x : Str} {P Q : D → Rho → Prop}
theorem ev_gcd (hm : X.mg "gcd" = some (.builtin "math.gcd")) (ha : EA X [a, b] p ρ [.int i, .int j] ρ1) (hg : Gl X "gcd" := by rfl)
    (he : starEach [a, b] X.env = (false, eval a X.env) :: starEach [b] X.env := by rfl) (hpl : (backTo pos (starEach [b] X.env)).any (·.1) = false := by rfl) : EV X (.Call (.Name "gcd" pp) [a, b] [] pos) p ρ (.int (Nat.gcd i.natAbs j.natAbs : Nat)) ρ1 :=
  PE.imp (pe_callBfun cr_gcd hg hm ha (by decide) he hpl) fun σ H Q ⟨w, B, R, k⟩ => ⟨w, B, R, fun B1 H1 vs R1 s1 r1 => by
    match vs, r1 with
    | [v, u], .cons r2 (.cons r3 .nil) =>
      cases r2
      cases r3
      exact ⟨i, j, rfl, k B1 H1 _ R1 s1 (.int _)⟩⟩
theorem ev_abs (hm : X.mg "abs" = none) (ha : EV X e p ρ (.int i) ρ1) (hg : Gl X "abs" := by rfl) (he : starEach [e] X.env = (false, eval e X.env) :: starEach [] X.env := by rfl) : EV X (.Call (.Name "abs" pp) [e] [] pos) (p && true) ρ (.int (if i < 0 then -i else i)) ρ1 :=
  ev_callB call_abs (fun B H vs Q eB r k => by
    match vs, r with
    | [v], .cons r1 .nil =>
      cases r1
      exact ⟨i, rfl, k B H _ (Grow.refl eB) (.int _)⟩) hm (by decide +kernel) (ea_cons ha ea_nil he) hg (by decide) (by decide) he rfl
/-! ### any of numbers -/
theorem truth_ints {prog : Program} {w : World} {A : Around} : ∀ {ns : List Int} {its : List Value}, Vals (ns.map V.int) its → TruthOf prog w A (fun k v => its.toArray[k]? = some v) (fun k => (ns.map fun n => n != 0).getD k false) := fun {ns its} r k v s Q E hv hq => by
  have hv : its[k]? = some v := by simpa using hv
  obtain ⟨y, h1, h2⟩ : ∃ n, ns[k]? = some n ∧ RelV (.int n) v := by
    have lt : k < its.length := (List.getElem?_eq_some_iff.mp hv).1
    have lt2 : k < ns.length := by have := r.length; rw [List.length_map] at this; omega
    have e1 : (ns.map V.int)[k]? = some (V.int ns[k]) := by rw [List.getElem?_map, List.getElem?_eq_getElem lt2]; rfl
    obtain ⟨u, h3, h4⟩ := r.get e1
    rw [hv] at h3
    cases h3
    exact ⟨_, List.getElem?_eq_getElem lt2, h4⟩
  obtain ⟨t, rfl⟩ := h2
  have e2 : (ns.map fun n => n != 0).getD k false = (y != 0) := by rw [List.getD_eq_getElem?_getD, List.getElem?_map, h1]; rfl
  have hq : Q ((ns.map fun n => n != 0).getD k false) s := hq
  rw [e2] at hq
  exact PySem.P.truthy_int hq
theorem cr_anyI (hc : X.calm = true) : CallR X (.builtin "any") (fun vs H Q => ∃ (a : Addr) (ns : List Int), vs = [V.ref a] ∧ SqL X.K H a (ns.map V.int) ∧ Q (.bl (ns.any fun n => n != 0)) H) := by
  intro pins s σ H vs us Q I r h
  obtain ⟨a, ns, rfl, hs, q⟩ := h
  obtain ⟨its, rv, hl, _⟩ := I.list hs
  rw [Vals.ref1 r]
  have ln : its.length = ns.length := by rw [← rv.length, List.length_map]
  refine call_any_walk (iter_any hl.isList fun s2 e2 st hne => ?_)
  subst e2
  refine ⟨_, _, _, _, _, _, _, rfl, Walks.list (A := X.A.in1) (I.ok.hd hc) _ a hne its.toArray, st, truth_ints rv, fun h' tk hk => ?_⟩
  have new : ∀ {b : Addr} {o : Obj}, s.heap.get? b = some o → b ∉ [s.heap.objs.size] := fun {b o} eo z => Nat.lt_irrefl _ ((List.mem_singleton.mp z) ▸ Heap.lt_size eo)
  refine ⟨.bl (ns.any fun n => n != 0), H, I.kept fun b o eo => hk b o (new eo) (Heap.get?_push_of_some _ eo), ?_, q⟩
  show Value.bool _ = Value.bool _
  have z := any_range (ns.map fun n => n != 0)
  rw [List.length_map, List.any_map] at z
  rw [List.size_toArray, ln, z]
  rfl
theorem ev_anyI {ns : List Int} (hc : X.calm = true) (hm : X.mg "any" = none) (ha : EL X e p ρ (ns.map D.int) ρ1) (hg : Gl X "any" := by rfl) (he : starEach [e] X.env = (false, eval e X.env) :: starEach [] X.env := by rfl) : EV X (.Call (.Name "any" pp) [e] [] pos) p ρ (.bl (ns.any fun n => n != 0)) ρ1 :=
  ev_callBL (cr_anyI hc) (fun B H a vs Q eB ea r k => ⟨a, ns, rfl, by rw [← r.ints]; exact SqL.of ea, k B H _ (Grow.refl eB) (.bl _)⟩) hm (by decide +kernel) ha hg (by decide) (by decide) he rfl
/-! ### slices -/
theorem cutV_to (xs : List V) (k : Nat) : cutV xs none (some (k : Int)) = xs.take k := by
  unfold cutV
  rw [HT.sIx_none, HT.sIx_nat, List.drop_zero, Nat.sub_zero]
  by_cases h : k ≤ xs.length
  · rw [Nat.min_eq_left h]
  · rw [Nat.min_eq_right (by omega), List.take_of_length_le (Nat.le_refl _), List.take_of_length_le (by omega)]
theorem cutV_from (xs : List V) (k : Nat) : cutV xs (some (k : Int)) none = xs.drop k := by
  unfold cutV
  rw [HT.sIx_none, HT.sIx_nat]
  by_cases h : k ≤ xs.length
  · rw [Nat.min_eq_left h]
    exact List.take_of_length_le (by rw [List.length_drop]; exact Nat.le_refl _)
  · rw [Nat.min_eq_right (by omega), Nat.sub_self, List.take_zero, List.drop_eq_nil_of_le (by omega)]
theorem Reps.takeN {K : PySem.W.Frag} {B : Hp} : ∀ {vs : List V} {ds : List D} (k : Nat), Reps K B vs ds → Reps K B (vs.take k) (ds.take k)
  | _, _, 0, _ => .nil
  | _, _, _ + 1, .nil => .nil
  | _, _, k + 1, .cons r rs => .cons r (Reps.takeN k rs)
theorem Reps.dropN {K : PySem.W.Frag} {B : Hp} : ∀ {vs : List V} {ds : List D} (k : Nat), Reps K B vs ds → Reps K B (vs.drop k) (ds.drop k)
  | _, _, 0, r => r
  | _, _, _ + 1, .nil => .nil
  | _, _, k + 1, .cons _ rs => Reps.dropN k rs
/-- t[:e] -/
theorem we_cutT {P2 : D → Rho → D → Rho → Prop} (ha : WE X a ρ P) (hb : ∀ x r, P x r → WE X b r (P2 x r)) (h : ∀ x r1 y r2, P x r1 → P2 x r1 y r2 → ∃ (ds : List D) (k : Nat), x = .tup ds ∧ y = .int (k : Nat) ∧ Q (.tup (ds.take k)) r2) : WE X (.Subscript a (.Slice none (some b) none p2) pos) ρ Q :=
  PE.imp (pe_slice sl_tupA ha po_none (po_some (PE.ex fun q : { q : D × Rho // P q.1 q.2 } => hb q.1.1 q.1.2 q.2))) fun σ H QV ⟨w, B, R, kk⟩ => ⟨w, B, R, fun B1 H1 v x ρ1 hp R1 s1 r1 => ⟨⟨(x, ρ1), hp⟩, w, B1, R1, fun B2 H2 u y ρ2 hp2 R2 s2 r2 => by
    obtain ⟨ds, k, rfl, rfl, hq⟩ := h x ρ1 y ρ2 hp hp2
    cases r2
    have r1' := r1.mono s2.b
    cases r1' with
    | @tup a0 xs _ hb rs =>
      refine ⟨(k : Int), rfl, a0, xs, rfl, SqT.of (R2.ext _ _ hb), fun hw => ?_, fun hw t ht => ?_⟩
      · have e : xs.length ≤ k := by
          have := hw.2
          rw [HT.sIx_nat] at this
          omega
        have e2 : ds.take k = ds := List.take_of_length_le (by rw [← rs.len]; exact e)
        rw [e2] at hq
        exact kk B2 H2 _ _ ρ2 hq R2 (s1.trans s2) (.tup hb rs)
      · rw [cutV_to]
        have g := Grow.lay (o := .tup (xs.take k)) R2.ext ht
        exact kk _ _ _ _ ρ2 hq (R2.grow g) ((s1.trans s2).add g) (.tup upd_same ((rs.takeN k).mono g.b))⟩⟩
/-- l[k:], a new list -/
theorem en_cutL {k : Nat} (ha : EV X a p ρ (.lst ds) ρ1) (hb : EV X b q ρ1 (.int (k : Nat)) ρ2) : EN X (.Subscript a (.Slice (some b) none none p2) pos) (p && q) ρ (ds.drop k) ρ2 :=
  PE.imp (pe_slice sl_list ha (po_some hb) po_none) fun σ H QV ⟨w, B, R, kk⟩ => ⟨w, B, R, fun B1 H1 v R1 s1 r1 => ⟨w, B1, R1, fun B2 H2 u R2 s2 r2 => by
    cases r2
    have r1' := r1.mono s2.b
    cases r1' with
    | @lst a0 xs _ hb rs =>
      refine ⟨(k : Int), rfl, a0, xs, rfl, SqL.of (R2.ext _ _ hb), fun t ht => ?_⟩
      rw [cutV_from]
      have f := Fresh.of R2 ht
      have g := Grow.make (o := .lst (xs.drop k)) R2.ext ht
      exact kk B2 _ t _ (R2.grow g) ((s1.trans s2).add g) ((s1.trans s2).free ht) ⟨f.h0, f.b, f.foot⟩ upd_same ((rs.dropN k).mono (Same.refl _))⟩⟩
end
end G

set_option Elab.async false
set_option maxRecDepth 100000
set_option maxHeartbeats 2000000
set_option linter.all false
/-! G26: insert; x[i] = e with a drawn i; try without a name; targets of four; calls where no repr is under way; a text some times. -/
namespace G
open PySem L2 PyProof.Rows
section
variable {X : Cx} {a b c e : Expr} {es : List Expr} {p q : Bool} {ρ ρ1 ρ2 : Rho} {ds : List D} {d z : D} {i j : Int} {pos pos' pp p2 px apos : Pos} {x : Str} {P Q : D → Rho → Prop} {DD : DEnds} {al : Addr} {s : Slot}
/-- x.insert(b, e) -/
theorem s_insertW {k : Nat} (i : Nat) (hb : EV X b p ρ (.int (k : Nat)) ρ1) (he : WE X e ρ1 P) (hs : ρ[i]? = some s) (hk : s = .ow al (.l ds) ∨ s = .pr al (.l ds)) (kk : ∀ d r, P d r → ∃ ds', r[i]? = some (relend s ds') ∧ ds'.length < 16777216 ∧ k < 2 ^ 60 ∧ DD.nx (r.set i (relend s (ds'.take k ++ [d] ++ ds'.drop k)))) (hN : X.N[i]? = some x := by rfl)
    (hv : Vis X.env.scope x := by first | exact Or.inl rfl | exact Or.inr (Or.inl rfl) | exact Or.inr (Or.inr rfl)) (hd : (x == ("__debug__" : Str)) = false := by decide) (hcd : (x == ("__classdict__" : Str)) = false := by decide)
    (hbase : attributeBase (.Name x px) "insert" X.env (eval (.Name x px) X.env) = eval (.Name x px) X.env := by rfl)
    (hfew : ((backTo pos' (starEach [b, e] X.env)).all (fun x => !x.1) && (backToKw pos' (keywordEach [] X.env)).all (fun x => x.1.isSome) && decide ([b, e].length + ([] : List Keyword).length + (if ([] : List Keyword).isEmpty then 0 else 1) < 30)) = true := by rfl)
    (hline : (apos.endLine == pos'.line) = true := by rfl) (hst : starEach [b, e] X.env = (false, eval b X.env) :: starEach [e] X.env := by rfl) (hst2 : starEach [e] X.env = (false, eval e X.env) :: starEach [] X.env := by rfl) (hpl : (backTo pos' (starEach [e] X.env)).any (·.1) = false := by rfl)
    (hsw : swapsWith (.Call (.Attribute (.Name x px) "insert" apos) [b, e] [] pos') none pos.line X.env = pure false := by rfl) :
    S1 X (.Expr (.Call (.Attribute (.Name x px) "insert" apos) [b, e] [] pos') pos) ρ DD :=
  PS.imp (ps_expr (pe_bm PySem.F.plainAttrs_list PySem.F.slot_list_insert PySem.F.type_list_insert (fun pins s σ H x xs v us Q I rx rv h => mt_insert pins s σ H x xs v us Q I rx rv h) (pe_var hN hv hd hcd) (pa_cons hb (wa_cons (PL := fun ds r => ∃ d, ds = [d] ∧ P d r) he (fun d r h => wa_nil ⟨d, rfl, h⟩) hst2) hst) hbase hfew hline hst hpl) hsw) fun E σ H ⟨w, B, R, hl, g⟩ => by
    obtain ⟨e0, xs0, h0, r0⟩ := own_at (a := al) (ws := ds) R hs hk
    refine ⟨_, e0, .inl ⟨rfl, _, SqL.of h0⟩, w, B, R, fun B1 H1 v R1 s1 r1 => ⟨w, B1, R1, fun B2 H2 vs ds2 r hp R2 s2 r2 => ?_⟩⟩
    obtain ⟨d, rfl, hp⟩ := hp
    match vs, r2 with
    | [u], .cons r3 .nil =>
      cases r1
      obtain ⟨ds', hs', hz, hkk, q⟩ := kk d r hp
      have hk1 := relend_is (ws' := ds') hk
      obtain ⟨_, xs, h1, r4⟩ := own_at R2 hs' hk1
      refine ⟨al, xs, _, u, rfl, rfl, h1, by rw [r4.len, sizeLine_eq]; exact hz, by omega, by omega, ?_⟩
      rw [Int.toNat_natCast]
      obtain ⟨R3, s3⟩ := own_write R2 hs' hk1 (((r4.takeN k).append (.cons r3 .nil)).append (r4.dropN k))
      have e2 : relend (relend s ds') (ds'.take k ++ [d] ++ ds'.drop k) = relend s (ds'.take k ++ [d] ++ ds'.drop k) := by rcases hk with h | h <;> rw [h] <;> rfl
      rw [e2] at R3 s3
      exact g.nx _ σ _ _ q R3 ((s1.b.trans s2.b).trans s3.b) hl
/-- x[b] = e, b drawn -/
theorem s_setIW (i : Nat) (h : EV X e p ρ d ρ1) (hi : WE X b ρ1 P) (hs : ρ1[i]? = some s) (hk : s = .ow al (.l ds) ∨ s = .pr al (.l ds)) (k : ∀ z r, P z r → ∃ (kk : Int) (j : Nat) (ds' : List D), z = .int kk ∧ r[i]? = some (relend s ds') ∧ ixN ds'.length kk = some j ∧ DD.nx (r.set i (relend s (ds'.set j d)))) (hN : X.N[i]? = some x := by rfl)
    (hv : Vis X.env.scope x := by first | exact Or.inl rfl | exact Or.inr (Or.inl rfl) | exact Or.inr (Or.inr rfl)) (hd : (x == ("__debug__" : Str)) = false := by decide) (hcd : (x == ("__classdict__" : Str)) = false := by decide)
    (ha : ∀ v, assign (.Subscript (.Name x px) b pos') X.env v = (do
      let ov ← holding [v] (eval (.Name x px) X.env)
      let iv ← holding [v, ov] (eval b X.env)
      standAt pos'
      holding [v, ov, iv] (setItem ov iv v)
      release [v, ov, iv] []) := by intro _; rfl)
    (hsw : swapsWithSole [.Subscript (.Name x px) b pos'] e pos.line X.env = pure false := by rfl) (hw : swappedStores [.Subscript (.Name x px) b pos'] e X.env = pure none := by rfl) (h1 : (assignEach [.Subscript (.Name x px) b pos'] X.env).map (·.2) = [assign (.Subscript (.Name x px) b pos') X.env] := by rfl) :
    S1 X (.Assign [.Subscript (.Name x px) b pos'] e pos) ρ DD :=
  PS.imp (ps_asg h (pg_sub (pe_var hN hv hd hcd) hi set_list ha) hsw hw h1) fun E σ H ⟨w, B, R, hl, g⟩ => ⟨w, B, R, fun B1 H1 v R1 s1 r1 => by
    obtain ⟨e0, xs0, h0, r0⟩ := own_at R1 hs hk
    refine ⟨_, e0, w, B1, R1, fun B2 H2 v2 d2 r hp R2 s2 r2 => ?_⟩
    obtain ⟨kk, j, ds', rfl, hs', hj, q⟩ := k d2 r hp
    cases r2
    have hk1 := relend_is (ws' := ds') hk
    obtain ⟨_, xs, h1, r3⟩ := own_at R2 hs' hk1
    refine ⟨al, xs, kk, j, rfl, rfl, h1, by rw [r3.len]; exact hj, ?_⟩
    obtain ⟨R3, s3⟩ := own_write R2 hs' hk1 (r3.set (r1.mono s2.b) j)
    have e2 : relend (relend s ds') (ds'.set j d) = relend s (ds'.set j d) := by rcases hk with h | h <;> rw [h] <;> rfl
    rw [e2] at R3 s3
    exact g.nx _ σ _ _ q R3 ((s1.b.trans s2.b).trans s3.b) hl⟩
/-- try: body except x: suite -/
theorem s_tryOnly {n : Str} {cl : Value} {body suite : List Stmt} {b0 : Stmt} {np hpos : Pos} {TX : Value → Option (List (Str × D)) → Rho → Prop} (hc : Names X x cl) (tk : Takes X DD.W)
    (hb : ∀ (W : WX) (pn : List (Addr × Obj)) (xe : Value → Shared → Prop), Takes (X.tr pn xe) W → PassesOwn (model X.prog X.w) X.A X.env xe → ST (X.tr pn xe) body ρ { DD with W := W, ex := TX })
    (hx : ∀ cls pay r, TX cls pay r → ∃ b, PySem.W.exmOne X.K cls cl = some b ∧ (b = false → DD.ex cls pay r))
    (hsu : ∀ (a : Addr) (oe : Obj) (cls : Value) (dd : Option Addr) (pn : List (Addr × Obj)) pay r, Zc cls dd oe → (∃ vs, oe.data = .fields vs) → TX cls pay r → PySem.W.exmOne X.K cls cl = some true → (∃ B, PayOk X.K B pay dd) → ST (X.suite a ((a, oe) :: pn)) (b0 :: suite) r { nx := DD.nx, rt := DD.rt, bk := DD.bk, ct := DD.ct })
    (hst : X.stack = X.env :: X.outer := by rfl) (hf : X.env.frame = some X.env.locals := by rfl) : S1 X (.Try body [.ExceptHandler (some (.Name x np)) none (b0 :: suite) hpos] [] [] pos) ρ DD := by
  refine PS.imp (ps_try_only (tb := fun W => tST X.K X.N.length ρ { DD with W := W, ex := TX })
    (ts := fun a cls dd E σ H => ∃ q : { q : Option (List (Str × D)) × Rho // TX cls q.1 q.2 ∧ PySem.W.exmOne X.K cls cl = some true ∧ (∃ B, PayOk X.K B q.1 dd) },
      tST X.K X.N.length q.1.2 { nx := DD.nx, rt := DD.rt, bk := DD.bk, ct := DD.ct } E σ H) hst hf hc tk hb ?_) ?_
  · intro a oe cls dd pn hz hf
    exact PSs.ex fun q => hsu a oe cls dd pn q.1.1 q.1.2 hz hf q.2.1 q.2.2.1 q.2.2.2
  · intro E σ H ⟨w, B, R, hl, g⟩
    refine ⟨w, B, R, hl, g.nx, g.rt, g.bk, g.ct, fun cls pay ρ' σ' B' H' dd hT R' s l po => ?_⟩
    obtain ⟨b, hb1, hb2⟩ := hx cls pay ρ' hT
    refine ⟨b, hb1, fun e a _ => ?_, fun e => g.ex cls pay ρ' σ' B' H' dd (hb2 e) R' s l po⟩
    subst e
    exact ⟨⟨(pay, ρ'), hT, hb1, B', po⟩, w, B', R', l, ⟨fun ρ2 σ2 B2 H2 h R2 e2 l2 => g.nx ρ2 σ2 B2 H2 h R2 (s.trans e2) l2, fun d ρ2 σ2 B2 H2 v h R2 rv => g.rt d ρ2 σ2 B2 H2 v h R2 rv, fun ρ2 σ2 B2 H2 h R2 e2 l2 => g.bk ρ2 σ2 B2 H2 h R2 (s.trans e2) l2,
      fun ρ2 σ2 B2 H2 h R2 e2 l2 => g.ct ρ2 σ2 B2 H2 h R2 (s.trans e2) l2, fun _ _ _ _ _ _ _ z => z.elim⟩⟩
/-- calls of defs that ask for repr -/
theorem ev_callG {n : Nat} {fa : Addr} {fx : FuncData} {names : List Str} {C : CP} (F : FnG X.prog X.w X.K X.mg X.base n fa fx names (spP X.K C)) (gd : X.A.guards = some []) (hr : Room n X.A) (hm : X.mg x = some (.ref fa)) (hk : PySem.W.keepIn X.K (.ref fa) = true) (hb : Binds X.K fx names []) (ha : EA X (e :: es) p ρ ds ρ1) (hC : C ds (fun d => d = z))
    (hg : Gl X x := by rfl) (hdb : (x == ("__debug__" : Str)) = false := by decide) (he : starEach (e :: es) X.env = (false, eval e X.env) :: starEach es X.env := by rfl) (hpl : (backTo pos (starEach es X.env)).any (·.1) = false := by rfl) :
    EV X (.Call (.Name x pp) (e :: es) [] pos) p ρ z ρ1 := PE.imp (pe_callG F gd hr hg hm hk hb ha hdb he hpl) fun σ H Q ⟨w, B, R, kk⟩ => ⟨w, B, R, fun B1 H1 vs R1 s1 r1 => by
  show spP X.K C (vs ++ []) H1 Q E0
  rw [List.append_nil]
  exact ⟨B1, ds, _, hC, R1.ext, r1, fun B' H' v d g hd rv => by
    subst hd
    exact kk B' H' v (R1.grow g) (s1.add g) rv⟩⟩
theorem we_callMG {n : Nat} {fa : Addr} {fx : FuncData} {names : List Str} {C : CM} {y : Str} {a : Addr} {ws0 : List D} {s0 : Slot} (i : Nat) (F : FnG X.prog X.w X.K X.mg X.base n fa fx names (spM X.K C)) (gd : X.A.guards = some []) (hr : Room n X.A) (hm : X.mg x = some (.ref fa)) (hk : PySem.W.keepIn X.K (.ref fa) = true) (hb : Binds X.K fx names [])
    (hs0 : ρ[i]? = some s0) (hsk : s0 = .ow a (.l ws0) ∨ s0 = .pr a (.l ws0)) (ha : WA X es ρ (fun ds r => ∃ ws, r[i]? = some (relend s0 ws) ∧ C ws ds (fun d w => Q d (r.set i (relend s0 w)))))
    (hN : X.N[i]? = some y := by rfl) (hv : Vis X.env.scope y := by first | exact Or.inl rfl | exact Or.inr (Or.inl rfl) | exact Or.inr (Or.inr rfl)) (hd : (y == ("__debug__" : Str)) = false := by decide) (hcd : (y == ("__classdict__" : Str)) = false := by decide)
    (hg : Gl X x := by rfl) (hdb : (x == ("__debug__" : Str)) = false := by decide) (he : starEach (.Name y px :: es) X.env = (false, eval (.Name y px) X.env) :: starEach es X.env := by rfl) (hpl : (backTo pos (starEach es X.env)).any (·.1) = false := by rfl) :
    WE X (.Call (.Name x pp) (.Name y px :: es) [] pos) ρ Q := PE.imp (pe_callG F gd hr hg hm hk hb (pa_cons (pe_var hN hv hd hcd) ha he) hdb he hpl) fun σ H QV ⟨w, B, R, kk⟩ => by
  have sl : σ[i]? = some (some (.ref a)) := (own_at R hs0 hsk).1
  refine ⟨_, sl, w, B, R, fun B1 H1 vs ds r ⟨ws, hs, hC⟩ R1 s1 r1 => ?_⟩
  show spM X.K C ((V.ref a :: vs) ++ []) H1 QV E0
  rw [List.append_nil]
  have hk1 := relend_is (ws' := ws) hsk
  have hre : ∀ w, relend (relend s0 ws) w = relend s0 w := fun w => by rcases hsk with h | h <;> rw [h] <;> rfl
  obtain ⟨_, xs, h1, h2⟩ := own_at R1 hs hk1
  have sp := R1.sep i _ hs a (by rcases hk1 with h | h <;> rw [h] <;> simp [Slot.foot, W.foot])
  refine ⟨B1, a, vs, xs, ws, ds, _, rfl, hC, R1.ext, r1, h1, sp, h2, fun B' H' v d xs' ws2 g e2 r2 hd rv => ?_⟩
  have L := lent R1 hs hk1 g e2 r2
  rw [hre] at L
  have ft : (relend s0 ws2).foot = (relend s0 ws).foot := by rcases hsk with h | h <;> rw [h] <;> rfl
  have st : Stp false r B1 H1 (r.set i (relend s0 ws2)) B' H' := ⟨g.b, g.dom, fun x o q m ft' => by
    have ne : x ≠ a := fun z => ft' i _ hs (by rcases hk1 with h | h <;> rw [h] <;> simp [Slot.foot, W.foot, z])
    refine ⟨g.fr x o q ne, ?_, fun j t hj => ?_⟩
    · cases z : B' x with
      | none => rfl
      | some u =>
        rcases g.new x u z with q' | q'
        · rw [m] at q'; cases q'
        · rw [q] at q'; cases q'
    · rcases set_cases hj with ⟨rfl, rfl, _⟩ | ⟨_, hj⟩
      · rw [ft]; exact ft' _ _ hs
      · exact ft' j t hj, fun z => nomatch z⟩
  exact kk B' H' v d _ hd L (s1.trans st) rv
theorem fold_size : ∀ (l : List (Array Nat)) (acc : Array Nat), (l.foldl (· ++ ·) acc).size = acc.size + (l.map Array.size).sum
  | [], acc => by simp
  | x :: l, acc => by
    rw [List.foldl_cons, fold_size l, Array.size_append, List.map_cons, List.sum_cons]
    omega
/-- a text some times: some text -/
theorem op_repS : OpR X (binaryOp .Mult) (fun x y H Q => ∃ (z : Str) (k : Int), x = .str z ∧ y = .int k ∧ 1 ≤ k ∧ k ≤ 1000 ∧ z.length = 1 ∧ ∀ y : Str, Q (.str y) H) := by
  intro pins s σ H x y v u Q I rx ry h
  obtain ⟨z, k, rfl, rfl, h1, h2, h3, q⟩ := h
  obtain ⟨t, rfl⟩ := rx
  obtain ⟨t', rfl⟩ := ry
  have n1 : ¬ k < 1 := by omega
  refine PySem.P.mul_str (by
    have e1 : ¬ k < -(2 ^ 63 : Int) := by omega
    have e2 : ¬ k ≥ 2 ^ 63 := by omega
    rw [decide_eq_false e1, decide_eq_false e2]; rfl) (fun _ _ => ?_) (fun _ _ => ?_) ?_
  · rw [h3]
    have : (1 : Int) ≤ (2 ^ 63 - 1) / k := Int.le_ediv_of_mul_le (by omega) (by omega)
    omega
  · rw [h3, Nat.one_mul]
    unfold Builtin.Str.tooLong
    simp
    have : sizeLine = 16777216 := sizeLine_eq
    omega
  · rw [if_neg n1]
    by_cases h : (k == 1 || z.length == 0) = true
    · rw [if_pos h]
      exact ⟨.str z, H, I, ⟨t, rfl⟩, q z⟩
    · rw [if_neg h]
      have sz : (Str.mk ((List.replicate k.toNat z.cps).foldl (· ++ ·) #[])).length ≤ sizeLine := by
        show ((List.replicate k.toNat z.cps).foldl (· ++ ·) #[]).size ≤ sizeLine
        rw [fold_size, List.map_replicate, List.sum_replicate_nat]
        have h3 : z.cps.size = 1 := h3
        have : sizeLine = 16777216 := sizeLine_eq
        rw [h3]
        show 0 + k.toNat * 1 ≤ sizeLine
        omega
      exact ⟨sz, ⟨.str _, H, I.tok _, ⟨_, rfl⟩, q _⟩⟩
theorem we_repS {z : Str} {k : Int} (h1 : 1 ≤ k) (h2 : k ≤ 1000) (h3 : z.length = 1) (ha : EV X a p ρ (.str z) ρ1) (hb : EV X b q ρ1 (.int k) ρ2) : WE X (.BinOp a .Mult b pos) ρ (fun d r => (∃ y, d = .str y) ∧ r = ρ2) :=
  PE.imp (pe_op op_repS ha hb) fun σ H QV ⟨w, B, R, kk⟩ => ⟨w, B, R, fun B1 H1 v R1 s1 r1 => ⟨w, B1, R1, fun B2 H2 u R2 s2 r2 => by
    cases r1
    cases r2
    exact ⟨z, k, rfl, rfl, h1, h2, h3, fun y => kk B2 H2 _ _ ρ2 ⟨⟨y, rfl⟩, rfl⟩ R2 (s1.lax.trans s2.lax) (.str y)⟩⟩⟩
end
end G

set_option Elab.async false
set_option maxRecDepth 100000
set_option maxHeartbeats 2000000
set_option linter.all false
/-! G27: arguments that may raise. -/
namespace G
open PySem L2 PyProof.Rows
def tQA (K : PySem.W.Frag) (W : WX) (ρ : Rho) (PL : List D → Rho → Prop) (PX : Value → Option (List (Str × D)) → Rho → Prop) : TA := fun σ H Q => ∃ w B, SR K w B H σ ρ ∧ (∀ B' H' vs ds ρ', PL ds ρ' → SR K w B' H' σ ρ' → Stp false ρ B H ρ' B' H' → Reps K B' vs ds → Q vs H') ∧
  ∀ B' H' cls pay d ρ', PX cls pay ρ' → SR K w B' H' σ ρ' → Same B B' → PayOk K B' pay d → W cls d σ H'
abbrev QA (X : Cx) (W : WX) (es : List Expr) (ρ : Rho) (PL : List D → Rho → Prop) (PX : Value → Option (List (Str × D)) → Rho → Prop) : Prop := PA X es (tQA X.K W ρ PL PX)
section
variable {X : Cx} {W : WX} {e : Expr} {es : List Expr} {ρ : Rho} {P : D → Rho → Prop} {PL : List D → Rho → Prop} {PX : Value → Option (List (Str × D)) → Rho → Prop} {pos pp : Pos} {x : Str}
theorem qa_of (h : WA X es ρ PL) : QA X W es ρ PL PX := PA.imp h fun σ H Q ⟨w, B, R, k, _⟩ => ⟨w, B, R, k⟩
theorem qa_cons (h : QE X W e ρ P PX) (hr : ∀ d r, P d r → QA X W es r (fun ds r' => PL (d :: ds) r') PX) (hs : starEach (e :: es) X.env = (false, eval e X.env) :: starEach es X.env := by rfl) : QA X W (e :: es) ρ PL PX := by
  have A : PA X es (fun σ H Q => ∃ q : { q : D × Rho // P q.1 q.2 }, tQA X.K W q.1.2 (fun ds r' => PL (q.1.1 :: ds) r') PX σ H Q) := PA.ex fun q => hr q.1.1 q.1.2 q.2
  exact PA.imp (pa_cons h A hs) fun σ H Q ⟨w, B, R, k, kx⟩ => ⟨w, B, R, fun B1 H1 v d r hp R1 s1 r1 => ⟨⟨(d, r), hp⟩, w, B1, R1, fun B2 H2 vs ds r' hq R2 s2 r2 => k B2 H2 (v :: vs) (d :: ds) r' hq R2 (s1.trans s2) (.cons (r1.mono s2.b) r2), fun B' H' cls pay dd r' hx R' s po => kx B' H' cls pay dd r' hx R' (s1.b.trans s) po⟩, kx⟩
theorem qa_nil (h : PL [] ρ) : QA X W [] ρ PL PX := qa_of (wa_nil h)
theorem qe_tup {k} (h : QA X W es ρ PL PX) (hz : ∀ ds r, PL ds r → ds.length ≤ 100000) (kk : ∀ ds r, PL ds r → P (.tup ds) r) : QE X W (.Tuple es k pos) ρ P PX := PE.imp (pe_tup h) fun σ H QV ⟨w, B, R, k, kx⟩ => ⟨w, B, R, fun B1 H1 vs ds r hp R1 s1 r1 => by
  have hz1 : ds.length ≤ sizeLine := Nat.le_trans (hz ds r hp) (by decide)
  refine ⟨by rw [r1.len]; exact hz1, fun t ht => ?_⟩
  have g := Grow.lay (o := .tup vs) R1.ext ht
  exact k _ _ _ _ r (kk ds r hp) (R1.grow g) (s1.add g) (.tup upd_same (r1.mono g.b)), kx⟩
/-- f(e, ..), f without raising, its arguments may -/
theorem qe_callA {n : Nat} {f : Addr} {fd : FuncData} {ps : List Str} {C : CP} (F : FnOk X.prog X.w X.K X.mg X.base CX0 n f fd ps (spP X.K C)) (hr : Room n X.A) (hm : X.mg x = some (.ref f)) (hk : PySem.W.keepIn X.K (.ref f) = true) (hb : Binds X.K fd ps []) (ha : QA X W (e :: es) ρ (fun ds r => C ds (fun d => P d r)) PX)
    (hg : Gl X x := by rfl) (hdb : (x == ("__debug__" : Str)) = false := by decide) (he : starEach (e :: es) X.env = (false, eval e X.env) :: starEach es X.env := by rfl) (hpl : (backTo pos (starEach es X.env)).any (·.1) = false := by rfl) :
    QE X W (.Call (.Name x pp) (e :: es) [] pos) ρ P PX := PE.imp (pe_call F hr hg hm hk hb .nil pass0 ha hdb he hpl) fun σ H Q ⟨w, B, R, kk, kx⟩ => ⟨w, B, R, fun B1 H1 vs ds r hC R1 s1 r1 => by
  show spP X.K C (vs ++ []) H1 Q E0
  rw [List.append_nil]
  exact ⟨B1, ds, _, hC, R1.ext, r1, fun B' H' v d g hd rv => kk B' H' v d r hd (R1.grow g) (s1.add g) rv⟩, kx⟩
theorem s_asgTQ {tg : Expr} {js : List Nat} {DD : DEnds} (h : QE X DD.W e ρ P PX) (ht : ∀ d r, P d r → ∃ r', TGT X tg js d r r' ∧ DD.nx r') (kx : ∀ cls pay r, PX cls pay r → DD.ex cls pay r) (hj : js.all (fun j => decide (j < X.N.length)) = true := by rfl) (hs : swapsWithSole [tg] e pos.line X.env = pure false := by rfl) (hw : swappedStores [tg] e X.env = pure none := by rfl)
    (h1 : (assignEach [tg] X.env).map (·.2) = [assign tg X.env] := by rfl) : S1 X (.Assign [tg] e pos) ρ DD := by
  have W := fun q : { q : D × Rho // P q.1 q.2 } => ht q.1.1 q.1.2 q.2
  obtain ⟨f, W⟩ := Classical.axiomOfChoice W
  exact PS.imp (ps_asg h (PG.ex fun q => (W q).1) hs hw h1) fun E σ H ⟨w, B, R, hl, g⟩ => ⟨w, B, R, fun B1 H1 v d r hp R1 s1 r1 => ⟨⟨(d, r), hp⟩, w, B1, R1, fun j q => by rw [hl]; exact of_decide_eq_true (List.all_eq_true.mp hj j q), r1, fun σ' R2 l2 _ _ => g.nx _ σ' B1 H1 (W ⟨(d, r), hp⟩).2 R2 s1.b (l2.trans hl)⟩, fun B' H' cls pay dd r hx R' s po => g.ex cls pay r σ B' H' dd (kx cls pay r hx) R' s hl po⟩
theorem st_retQ {DD : DEnds} {rest : List Stmt} (h : QE X DD.W e ρ P PX) (k : ∀ d r, P d r → DD.rt d r) (kx : ∀ cls pay r, PX cls pay r → DD.ex cls pay r) : ST X (.Return (some e) pos :: rest) ρ DD := st_cons (M := fun _ => False) (s_retQ h k kx) fun _ z => z.elim
/-- a, b, c, d = .. -/
theorem tg_tup4 {ρ1 ρ2 ρ3 ρ4 : Rho} {t1 t2 t3 t4 : Expr} {js1 js2 js3 js4 : List Nat} {d1 d2 d3 d4 : D} {k : Nat} (h1 : TGT X t1 js1 d1 ρ ρ1) (h2 : TGT X t2 js2 d2 ρ1 ρ2) (h3 : TGT X t3 js3 d3 ρ2 ρ3) (h4 : TGT X t4 js4 d4 ρ3 ρ4) (hc : X.calm = true := by rfl) (hn : (assignEach [t1, t2, t3, t4] X.env).length = 4 := by rfl) (hst : (assignEach [t1, t2, t3, t4] X.env).findIdx? (·.1) = none := by rfl)
    (hs1 : (assignEach [t1, t2, t3, t4] X.env).map (·.2) = assign t1 X.env :: (assignEach [t2, t3, t4] X.env).map (·.2) := by rfl) (hs2 : (assignEach [t2, t3, t4] X.env).map (·.2) = assign t2 X.env :: (assignEach [t3, t4] X.env).map (·.2) := by rfl) (hs3 : (assignEach [t3, t4] X.env).map (·.2) = assign t3 X.env :: (assignEach [t4] X.env).map (·.2) := by rfl) (hs4 : (assignEach [t4] X.env).map (·.2) = assign t4 X.env :: (assignEach [] X.env).map (·.2) := by rfl) :
    TGT X (.Tuple [t1, t2, t3, t4] k pos) (js1 ++ (js2 ++ (js3 ++ js4))) (.tup [d1, d2, d3, d4]) ρ ρ4 :=
  PG.imp (pg_tup hc (pgs_cons h1 (pgs_cons h2 (pgs_cons h3 (pgs_cons h4 pgs_nil hs4) hs3) hs2) hs1) hn hst) fun v σ H Q ⟨w, B, R, hj, r, kq⟩ => by
    match v, r with
    | _, .tup hb (.cons r1 (.cons r2 (.cons r3 (.cons r4 .nil)))) =>
      refine ⟨_, _, rfl, SqT.of (R.ext _ _ hb), rfl, _, _, rfl, w, B, R, fun j h => hj j (by simp [h]), r1, fun σ1 R1 l1 k1 f1 => ⟨_, _, rfl, w, B, R1, fun j h => by rw [l1]; exact hj j (by simp [h]), r2, fun σ2 R2 l2 k2 f2 => ⟨_, _, rfl, w, B, R2, fun j h => by rw [l2, l1]; exact hj j (by simp [h]), r3, fun σ3 R3 l3 k3 f3 => ⟨_, _, rfl, w, B, R3, fun j h => by rw [l3, l2, l1]; exact hj j (by simp [h]), r4, fun σ4 R4 l4 k4 f4 =>
        ⟨rfl, kq σ4 R4 (l4.trans (l3.trans (l2.trans l1))) (fun j h => ?_) fun j s hs => (f4 j s hs).elim .inl fun q => (f3 j s q).elim .inl fun q => (f2 j s q).elim .inl (f1 j s)⟩⟩⟩⟩⟩
      have h : (j ∉ js1 ∧ j ∉ js2 ∧ j ∉ js3 ∧ j ∉ js4) := by simpa using h
      rw [k4 j h.2.2.2, k3 j h.2.2.1, k2 j h.2.1, k1 j h.1]
end
end G

set_option Elab.async false
set_option maxRecDepth 100000
set_option maxHeartbeats 2000000
set_option linter.all false
/-! G28: a set of ints in a slot. -/
namespace PySem
namespace GEn
open PySem.W PySem.Calls PyProof.Rows PySem.HandSPX L2
section
variable {prog : Program} {w : World} {A : Around} {E : Value → Shared → Prop} {s : Shared} {a : Addr}
/-- sorted(set), as many as there are -/
theorem sorted_setN {S : Int → Bool} {n : Nat} {Q : Value → Shared → Prop} (R : SetR w s.heap a S n) (hh : A.handled = none) (few : n ≤ 1000)
    (k : ∀ s2 p (out : List Value) (c : Nat) (ns : List Int), (∀ b o, s.heap.get? b = some o → s2.heap.get? b = some o) → s2.gens = s.gens → s2.os = s.os → s.heap.objs.size ≤ p → s2.heap.get? p = some (seqObj "list" out.toArray c) → IntsAre out ns → ns.Pairwise (· ≤ ·) → ns.Nodup → (∀ z, z ∈ ns ↔ S z = true) → ns.length = n → Q (.ref p) s2) :
    wpAny (model prog w) A (call (.builtin "sorted") [.ref a]) Q E s := by
  obtain ⟨o, es, ep, t, ho, ex, hd, good, nd, mem, hb, fits, hn, ris, led⟩ := R
  refine Calls.call_function_entry kind_sorted plain_sorted entry_sorted (args_sorted1 _) ?_
  unfold Builtin.«sorted»
  refine wpAny_bind (m := checkCount "sorted" 1 1 _) (wpAny_pure (wpAny_bind (collect_set (A := A.in1) hh ⟨o, ho, ex.1, hd⟩ fits hb ris led fun s1 vs k1 hz g1 o1 pm => ?_)))
  have lv : vs.length = n := by rw [pm.length_eq, List.length_map, Array.length_toList]; exact hn
  have line : n ≤ sizeLine := by rw [sizeLine_eq]; omega
  have isn : IntsAre vs (vs.map Builtin.Re.reRawOf) := ints_of vs fun v hv => by
    obtain ⟨e, he, q⟩ := List.mem_map.mp (pm.mem_iff.mp hv)
    obtain ⟨z, tk, z1, _⟩ := good e he
    exact ⟨z, tk, q ▸ z1⟩
  have keys : (vs.map Builtin.Re.reRawOf).Perm (es.toList.map keyOf) := by
    have q := pm.map Builtin.Re.reRawOf
    rw [List.map_map] at q
    exact q
  refine wpAny_bind (wpAny_newList ?_ (lv ▸ line))
  have at1 : (s1.heap.push (seqObj "list" vs.toArray 0)).get? s1.heap.objs.size = some (seqObj "list" vs.toArray 0) := Heap.get?_push_size _ rfl
  refine wpAny_bind (wpAny_holding (wpAny_call_entry slot_list_sort ⟨_, at1, rfl⟩ entry_list_sort (SrtO.list_sort_ord SrtO.swo_int at1 (lv ▸ line) (fun h2 => SrtO.ints_sortable isn h2) fun out h1 h2 => ⟨_, rfl, ?_⟩) (args_list_sort _)))
  obtain ⟨k1', k3', k2'⟩ := SrtO.ints_out isn h1 h2
  obtain ⟨c, hc⟩ := sortedHeap_at (vs := vs) (out := out.toArray) at1
  have pn : (out.map SrtO.iv).Perm (es.toList.map keyOf) := k3'.trans keys
  refine wpAny_pure ⟨_, rfl, k _ s1.heap.objs.size out c (out.map SrtO.iv) (fun b u e => ?_) g1 o1 hz hc k1' k2' (pn.nodup_iff.mpr nd) (fun z => by rw [pn.mem_iff, ← mem z]) ?_⟩
  · have q := k1 b u e
    have lt := Heap.lt_size q
    show (sortedHeap (s1.heap.push (seqObj "list" vs.toArray 0)) s1.heap.objs.size vs out.toArray).get? b = some u
    rw [sortedHeap_old (Nat.ne_of_lt lt) (by rw [size_push']; exact Nat.lt_succ_of_lt lt)]
    exact Heap.get?_push_of_some _ q
  · rw [pn.length_eq, List.length_map, Array.length_toList]; exact hn
end
end GEn
end PySem
namespace G
open PySem L2 PyProof.Rows
theorem SR.putW {K : PySem.W.Frag} {w : Wd} {B H : Hp} {σ : L2.St} {ρ : Rho} {i : Nat} {a : Addr} {v : W} (R : SR K w B H σ ρ) (hl : i < σ.length) (f : Fresh w B ρ a) (hf : v.foot a = [a]) (h : OwnV K B H a v) : SR K w B H (σ.set i (some (.ref a))) (ρ.set i (.ow a v)) :=
  R.put hl ⟨rfl, h⟩ (fun j t _ hj b hb => by
    have hb : b ∈ v.foot a := hb
    rw [hf, List.mem_singleton] at hb
    rw [hb]; exact f.foot j t hj) (fun b hb => by
    have hb : b ∈ v.foot a := hb
    rw [hf, List.mem_singleton] at hb
    rw [hb]; exact f.b) (fun a' u e b hb => by
    cases e
    rw [hf, List.mem_singleton] at hb
    rw [hb]; exact f.h0) (fun _ _ e => nomatch e)
section
variable {X : Cx} {e : Expr} {p : Bool} {ρ ρ1 : Rho} {pos pos' pp px apos : Pos} {x : Str} {DD : DEnds} {i : Int} {a : Addr} {rest : List Stmt}
abbrev setW (w : World) (a : Addr) (S : Int → Bool) (n : Nat) : Slot := .ow a (.raw (SetO w a S n))
/-- x = set() -/
theorem st_set0 {i : Nat} (nd : X.N.Nodup) (hm : X.mg "set" = none) (k : ∀ a, ST X rest (ρ.set i (setW X.w a (fun _ => false) 0)) DD) (hN : X.N[i]? = some x := by rfl) (hx : Loc X.env.scope x := by first | exact Or.inl rfl | exact Or.inr rfl)
    (hs : swapsWith (.Call (.Name "set" pp) [] [] pos') (some (.Name x px)) pos.line X.env = pure false := by rfl) (hg : Gl X "set" := by rfl)
    (hf : X.fn x = true ∨ X.env.scope.names.lookup x = some .local := by first | exact .inl rfl | exact .inr rfl) : ST X (.Assign [.Name x px] (.Call (.Name "set" pp) [] [] pos') pos :: rest) ρ DD :=
  st_thru (PS.imp (ps_set nd hN hx (L2.pe_callTy0 cr_set0 hg hm (by decide +kernel) (by decide) (by decide)) hs hf) fun E σ H ⟨w, B, R, hl, g⟩ => ⟨rfl, fun t ht => by
    have gr := Grow.make (o := SetO X.w t (fun _ => false) 0) R.ext ht
    exact g.nx _ _ B _ (k t) ((R.grow gr).putW (slot_lt (n := 0) hN hl) (Fresh.of R ht) rfl upd_same) gr.b (by rw [List.length_set]; exact hl)⟩)
/-- e in x, x a set in a slot -/
theorem et_sin {S : Int → Bool} {n : Nat} (j : Nat) (ha : EV X e true ρ (.int i) ρ) (hN : X.N[j]? = some x := by rfl) (hv : Vis X.env.scope x := by first | exact Or.inl rfl | exact Or.inr (Or.inl rfl) | exact Or.inr (Or.inr rfl)) (hs : ρ[j]? = some (setW X.w a S n) := by rfl)
    (hd : (x == ("__debug__" : Str)) = false := by decide) (hcd : (x == ("__classdict__" : Str)) = false := by decide) (hmk : behindInMarks .In (.Name x px) = false := by rfl) : ET X (.Compare e [.In] [.Name x px] pos) true ρ (S i) ρ :=
  PT.imp (pt_cmpR or_sin ha (pe_var hN hv hd hcd) hmk) fun σ H Q ⟨w, B, R, k⟩ => ⟨w, B, R, fun B1 H1 v R1 s1 r1 => by
    cases r1
    obtain ⟨e0, h0⟩ := R1.ok j _ hs
    exact ⟨_, e0, i, a, S, n, rfl, rfl, h0, S i, rfl, k B1 H1 R1 s1⟩⟩
/-- x.add(e) -/
theorem s_sadd {S : Int → Bool} {n : Nat} (j : Nat) (ha : EV X e true ρ (.int i) ρ) (hn : n < 1000) (hs : ρ[j]? = some (setW X.w a S n)) (k : DD.nx (ρ.set j (setW X.w a (fun z => S z || decide (z = i)) (if S i = true then n else n + 1)))) (hN : X.N[j]? = some x := by rfl)
    (hv : Vis X.env.scope x := by first | exact Or.inl rfl | exact Or.inr (Or.inl rfl) | exact Or.inr (Or.inr rfl)) (hd : (x == ("__debug__" : Str)) = false := by decide) (hcd : (x == ("__classdict__" : Str)) = false := by decide)
    (hbase : attributeBase (.Name x px) "add" X.env (eval (.Name x px) X.env) = eval (.Name x px) X.env := by rfl)
    (hfew : ((backTo pos' (starEach [e] X.env)).all (fun x => !x.1) && (backToKw pos' (keywordEach [] X.env)).all (fun x => x.1.isSome) && decide ([e].length + ([] : List Keyword).length + (if ([] : List Keyword).isEmpty then 0 else 1) < 30)) = true := by rfl)
    (hline : (apos.endLine == pos'.line) = true := by rfl) (hst : starEach [e] X.env = (false, eval e X.env) :: starEach [] X.env := by rfl) (hpl : (backTo pos' (starEach [] X.env)).any (·.1) = false := by rfl)
    (hsw : swapsWith (.Call (.Attribute (.Name x px) "add" apos) [e] [] pos') none pos.line X.env = pure false := by rfl) :
    S1 X (.Expr (.Call (.Attribute (.Name x px) "add" apos) [e] [] pos') pos) ρ DD :=
  PS.imp (ps_expr (pe_sadd (pe_var hN hv hd hcd) (pa_cons ha pa_nil hst) hbase hfew hline hst hpl) hsw) fun E σ H ⟨w, B, R, hl, g⟩ => by
    obtain ⟨e0, h0⟩ := R.ok j _ hs
    refine ⟨_, e0, ⟨a, S, n, rfl, h0⟩, w, B, R, fun B1 H1 v R1 s1 r1 => ?_⟩
    cases r1
    obtain ⟨e1, h1⟩ := R1.ok j _ hs
    have h1 : H1 a = some (SetO X.w a S n) := h1
    have sp := R1.sep j _ hs a (by simp [Slot.foot, W.foot])
    refine ⟨a, i, S, n, rfl, rfl, h1, by unfold scanBound; omega, ?_⟩
    have R2 := R1.write (s' := setW X.w a (fun z => S z || decide (z = i)) (if S i = true then n else n + 1)) (B' := B1) (H' := upd H1 a (SetO X.w a (fun z => S z || decide (z = i)) (if S i = true then n else n + 1))) hs rfl (.inl ⟨a, _, _, rfl, rfl⟩) (Same.refl B1)
      (fun b o q => by rw [upd_ne (ne_of_none q sp)]; exact R1.ext b o q) (fun b o q => .inl q) (fun b o q nb => by rw [upd_ne (fun z => nb (by rw [z]; simp [Slot.foot, W.foot]))]; exact q) (fun b q => by
        by_cases z : b = a
        · rw [z, upd_same]; exact fun z => nomatch z
        · rw [upd_ne z]; exact q) ⟨e1, upd_same⟩
    exact g.nx _ σ _ _ k R2 s1.b hl
theorem cr_sortSet (hc : X.calm = true) : CallR X (.builtin "sorted") (fun vs H Q => ∃ (a : Addr) (S : Int → Bool) (n : Nat), vs = [V.ref a] ∧ H a = some (SetO X.w a S n) ∧ n ≤ 1000 ∧
    ∀ (ns : List Int) (p : Addr), ns.Pairwise (· ≤ ·) → ns.Nodup → (∀ k : Int, k ∈ ns ↔ S k = true) → ns.length = n → H p = none → Q (.ref p) (upd H p (.lst (ns.map V.int)))) := by
  intro pins s σ H vs us Q I r h
  obtain ⟨a, S, n, rfl, ha, few, q⟩ := h
  rw [Vals.ref1 r]
  refine PySem.GEn.sorted_setN (setO_get I ha) (I.ok.hd hc) few fun s2 p out c ns k g o hp hg hi hs nd hm hl => ?_
  have line : (ns.map V.int).length ≤ sizeLine := by rw [List.length_map, hl, sizeLine_eq]; omega
  have free : H p = none := I.hok.fresh hp
  have J : Inv X pins σ (upd H p (.lst (ns.map V.int))) { s with heap := s2.heap, gens := s2.gens, drawn := s2.drawn, toks := s2.toks } :=
    I.call (ch := []) (Un.laid k hp free) (I.hok.laid k hp ⟨line, out, c, vals_of_ints hi, hg⟩) (by rw [g]; exact I.bare) (fun _ z => nomatch z)
  have e : s2 = { s with heap := s2.heap, gens := s2.gens, drawn := s2.drawn, toks := s2.toks } := by
    cases s2; cases s; cases o; rfl
  rw [e]
  exact ⟨.ref p, _, J, rfl, q ns p hs nd hm hl free⟩
/-- sorted(x), x a set in a slot, of the members of l -/
theorem en_sortSet {S : Int → Bool} {n : Nat} {l : List Int} (j : Nat) (hc : X.calm = true) (hm : X.mg "sorted" = none) (nd : l.Nodup) (mem : ∀ z, S z = true ↔ z ∈ l) (hn : n ≤ 1000) (hN : X.N[j]? = some x := by rfl) (hv : Vis X.env.scope x := by first | exact Or.inl rfl | exact Or.inr (Or.inl rfl) | exact Or.inr (Or.inr rfl)) (hs : ρ[j]? = some (setW X.w a S n) := by rfl)
    (hd : (x == ("__debug__" : Str)) = false := by decide) (hcd : (x == ("__classdict__" : Str)) = false := by decide) (hg : Gl X "sorted" := by rfl) (he : starEach [.Name x px] X.env = (false, eval (.Name x px) X.env) :: starEach [] X.env := by rfl) : EN X (.Call (.Name "sorted" pp) [.Name x px] [] pos) true ρ (l.mergeSort.map D.int) ρ :=
  PE.imp (pe_callB (cr_sortSet hc) hg hm (by decide +kernel) (pa_cons (pe_var hN hv hd hcd) pa_nil he) (by decide) (by decide) he rfl) fun σ H Q ⟨w, B, R, k⟩ => by
    obtain ⟨e0, h0⟩ := R.ok j _ hs
    refine ⟨_, e0, a, S, n, rfl, h0, hn, fun ns t h1 h2 h3 _ ht => ?_⟩
    have pm : ns.Perm l := (List.perm_ext_iff_of_nodup h2 nd).mpr fun z => by rw [h3, mem]
    have e : ns = l.mergeSort := sort_ints pm h1
    rw [e]
    have st : Stp true ρ B H ρ B H := Stp.refl R.ext
    exact k B _ t _ (R.grow (Grow.make R.ext ht)) (st.add (Grow.make R.ext ht)) (st.free ht) (Fresh.of R ht) upd_same (Reps.ofInts _)
end
end G

set_option Elab.async false
set_option maxRecDepth 100000
set_option maxHeartbeats 2000000
set_option linter.all false
/-! G29: dict(rows of pairs of ints), of which only the kind is kept. -/
namespace G
open PySem L2 PyProof.Rows
def ipD (q : Int × Int) : D := .tup [.int q.1, .int q.2]
theorem Reps.ipairs {K : PySem.W.Frag} {B H : Hp} (e : Same B H) : ∀ {qs : List (Int × Int)} {vs : List V}, Reps K B vs (qs.map ipD) → ∃ ps : List Addr, vs = ps.map V.ref ∧ Paired (fun p (kv : Key × V) => SqT K H p [kV kv.1, kv.2]) ps (qs.map fun q => ((Sum.inl q.1 : Key), V.int q.2))
  | [], _, .nil => ⟨[], rfl, .nil⟩
  | q :: qs, _, .cons r rs => by
    obtain ⟨ps, e1, h1⟩ := Reps.ipairs e rs
    cases r with
    | @tup a xs _ hb r2 =>
      match xs, r2 with
      | [x, y], .cons rx (.cons ry .nil) =>
        cases rx
        cases ry
        exact ⟨a :: ps, by rw [e1]; rfl, .cons (SqT.of (e _ _ hb)) h1⟩
section
variable {X : Cx} {e : Expr} {p : Bool} {ρ ρ1 : Rho} {pos pp : Pos}
theorem ev_dict {qs : List (Int × Int)} (hc : X.calm = true) (hm : X.mg "dict" = none) (ha : EV X e p ρ (.lst (qs.map ipD)) ρ1) (hg : Gl X "dict" := by rfl) (he : starEach [e] X.env = (false, eval e X.env) :: starEach [] X.env := by rfl) : EV X (.Call (.Name "dict" pp) [e] [] pos) (p && true) ρ .dct ρ1 :=
  PE.imp (L2.pe_callTy (call_dictP hc) hg hm (by decide +kernel) (ea_cons ha ea_nil he) (by decide) (by decide) he rfl) fun σ H Q ⟨w, B, R, k⟩ => ⟨w, B, R, fun B1 H1 vs R1 s1 r1 => by
    match vs, r1 with
    | [v], .cons r2 .nil =>
      cases r2 with
      | @lst a xs _ hb r3 =>
        obtain ⟨ps, e1, h1⟩ := r3.ipairs R1.ext
        rw [e1] at hb
        refine ⟨a, ps, _, rfl, SqL.of (R1.ext _ _ hb), h1, fun t ht => ?_⟩
        have g := Grow.lay (o := .dK (mergeK [] (qs.map fun q => ((Sum.inl q.1 : Key), V.int q.2)))) R1.ext ht
        exact k _ _ _ (R1.grow g) (s1.add g) (.dct (.inl ⟨_, upd_same⟩))⟩
end
end G

set_option Elab.async false
set_option maxRecDepth 100000
set_option maxHeartbeats 2000000
set_option linter.all false
/-! M2: rows that are tuples or lists; places; data none of which is known too little of. -/
namespace G
open PySem L2 PyProof.Rows
/-- a tuple or a list -/
def rowD (b : Bool) (l : List D) : D := if b then .tup l else .lst l
theorem rowD_plain (b : Bool) (l : List D) : (rowD b l).plain = true := by cases b <;> rfl
section
variable {X : Cx} {tg a e : Expr} {p q : Bool} {ρ ρ1 ρ2 : Rho} {ds : List D} {d z : D} {b : Bool} {i : Int} {pos pp : Pos}
theorem it_row (h : EV X e p ρ (rowD b ds) ρ1) : ITR X tg e p ρ ds ρ1 := by
  cases b with
  | true => exact it_tup h
  | false => exact it_list h
theorem ev_ixR (ha : EV X a p ρ (rowD b ds) ρ1) (hb : EV X e q ρ1 (.int i) ρ2) (h : L2.atI ds i = some z) (hs : PlainIx e := by exact fun _ _ => rfl) : EV X (.Subscript a e pos) (p && q) ρ z ρ2 := by
  cases b with
  | true => exact ev_ixT ha hb h hs
  | false => exact ev_ixF ha hb h hs
theorem ev_lenR (hm : X.mg "len" = none) (ha : EV X e p ρ (rowD b ds) ρ1) (hg : Gl X "len" := by rfl) (he : starEach [e] X.env = (false, eval e X.env) :: starEach [] X.env := by rfl) : EV X (.Call (.Name "len" pp) [e] [] pos) (p && true) ρ (.int (ds.length : Nat)) ρ1 := by
  cases b with
  | true => exact ev_lenT hm ha hg he
  | false =>
    have h := ev_lenL (pp := pp) (pos := pos) hm (el_ofV ha) hg he
    rw [Bool.and_true]
    exact h
theorem kit_rowT (b : Bool) (l : List D) : kitB (rowD b l).tyn "tuple" = some b := by
  cases b with
  | true => exact kit_tuple_tuple
  | false => exact kit_list_tuple
theorem kit_rowL (b : Bool) (l : List D) : kitB (rowD b l).tyn "list" = some (!b) := by
  cases b with
  | true => exact kit_tuple_list
  | false => exact kit_list_list
theorem en_listRow (hm : X.mg "list" = none) (ha : EV X e p ρ (rowD b ds) ρ1) (hg : Gl X "list" := by rfl) (he : starEach [e] X.env = (false, eval e X.env) :: starEach [] X.env := by rfl) : EN X (.Call (.Name "list" pp) [e] [] pos) p ρ ds ρ1 := by
  cases b with
  | true => exact en_listT hm ha hg he
  | false => exact en_listL hm (el_ofV ha) hg he
theorem ev_tupleR (hm : X.mg "tuple" = none) (ha : EV X e p ρ (rowD b ds) ρ1) (hg : Gl X "tuple" := by rfl) (he : starEach [e] X.env = (false, eval e X.env) :: starEach [] X.env := by rfl) : EV X (.Call (.Name "tuple" pp) [e] [] pos) false ρ (.tup ds) ρ1 := by
  cases b with
  | true => exact ev_weak (ev_tupleT hm ha hg he)
  | false => exact ev_weak (ev_tupleL hm (el_ofV ha) hg he)
end
/-- no row: what isinstance(x, (tuple, list)) denies -/
def D.norow : D → Bool
  | .tup _ => false
  | .lst _ => false
  | d => d.plain
theorem norow_plain {d : D} (h : d.norow = true) : d.plain = true := by cases d <;> first | exact h | cases h
theorem kit_norowT {d : D} (h : d.norow = true) : kitB d.tyn "tuple" = some false := by
  cases d with
  | non => exact kit_NoneType_tuple
  | bl b => exact kit_bool_tuple
  | int i => exact kit_int_tuple
  | str x => exact kit_str_tuple
  | dct => exact kit_dict_tuple
  | _ => cases h
theorem kit_norowL {d : D} (h : d.norow = true) : kitB d.tyn "list" = some false := by
  cases d with
  | non => exact kit_NoneType_list
  | bl b => exact kit_bool_list
  | int i => exact kit_int_list
  | str x => exact kit_str_list
  | dct => exact kit_dict_list
  | _ => cases h
theorem row_or {d : D} (h : d.plain = true) : (∃ b l, d = rowD b l) ∨ d.norow = true := by
  cases d with
  | tup l => exact .inl ⟨true, l, rfl⟩
  | lst l => exact .inl ⟨false, l, rfl⟩
  | _ => first | exact .inr rfl | cases h
/-- the place that x is, of n -/
def Pla (n : Nat) : D → Option Nat
  | .int i => if 0 ≤ i ∧ i < n then some i.toNat else none
  | _ => none
theorem pla_int {n : Nat} {i : Int} : Pla n (.int i) = if 0 ≤ i ∧ i < n then some i.toNat else none := rfl
theorem pla_at {n i : Nat} (h : i < n) : Pla n (.int (i : Nat)) = some i := by
  rw [pla_int, if_pos ⟨by omega, by omega⟩]; rfl
theorem pla_is {n i : Nat} {x : D} (h : Pla n x = some i) : x = .int (i : Nat) ∧ i < n := by
  cases x with
  | int k =>
    rw [pla_int] at h
    by_cases q : 0 ≤ k ∧ k < n
    · rw [if_pos q] at h
      cases h
      exact ⟨by congr 1; omega, by omega⟩
    · rw [if_neg q] at h; cases h
  | _ => cases h
end G

set_option Elab.async false
set_option maxRecDepth 100000
set_option maxHeartbeats 4000000
set_option linter.all false
namespace G
open PySem L2 PyProof.Rows
local macro_rules | `(tactic| walk_at "rho") => `(tactic| (show (_ : List Slot) = _; (try dsimp only [List.set_cons_succ, List.set_cons_zero, List.map_cons, List.map_nil, List.cons_append, List.nil_append, relend, unR]); all_goals exact rfl))
def frPair : List D → Option (Int × Int)
  | [.int a, .int b] => if 0 < b ∧ Nat.gcd a.natAbs b.natAbs = 1 then some (a, b) else none
  | _ => none
def isFr : D → Bool
  | .tup l => (frPair l).isSome
  | .lst l => (frPair l).isSome
  | _ => false
/-- no more than rows of plain things -/
def D.flatp : D → Bool
  | .tup l => l.all D.plain
  | .lst l => l.all D.plain
  | d => d.plain
theorem isFr_row (b : Bool) (l : List D) : isFr (rowD b l) = (frPair l).isSome := by cases b <;> rfl
theorem flatp_row (b : Bool) (l : List D) : (rowD b l).flatp = l.all D.plain := by cases b <;> rfl
theorem flatp_plain {d : D} (h : d.flatp = true) : d.plain = true := by cases d <;> first | rfl | exact h
theorem norow_isFr {d : D} (h : d.norow = true) : isFr d = false := by cases d <;> first | rfl | cases h
theorem frPair_len {l : List D} (h : l.length ≠ 2) : frPair l = none := by
  match l with
  | [] => rfl
  | [x] => cases x <;> rfl
  | [_, _] => exact absurd rfl h
  | x :: y :: _ :: _ => cases x <;> first | rfl | (cases y <;> rfl)
theorem frPair_int {i j : Int} : frPair [.int i, .int j] = if 0 < j ∧ Nat.gcd i.natAbs j.natAbs = 1 then some (i, j) else none := rfl
theorem frPair_whole {x y : D} (h : (x.whole && y.whole) = false) : frPair [x, y] = none := by
  cases x with
  | int i =>
    cases y with
    | int j => cases h
    | _ => rfl
  | _ => rfl
theorem whole_int {x : D} (h : x.whole = true) : ∃ i, x = .int i := by cases x <;> first | exact ⟨_, rfl⟩ | cases h
def lowQ (n d : Int) : Int × Int := (n / (Nat.gcd n.natAbs d.natAbs : Nat), d / (Nat.gcd n.natAbs d.natAbs : Nat))
def CFraction : CP := fun ds R => ∃ (n d : Int), ds = [.int n, .int d] ∧ 0 < d ∧ d.natAbs < 2 ^ 8000 ∧ R (ipD (lowQ n d))
def CPlace (Cl : Addr) : CP := fun ds R => ∃ (n d : Nat) (es : Edges) (x : D), ds = [.ins Cl (graphF n d es), x] ∧ x.plain = true ∧ R (.bl (Pla n x).isSome)
theorem gcd_pos {n d : Int} (h : 0 < d) : 0 < (Nat.gcd n.natAbs d.natAbs : Nat) := Nat.gcd_pos_of_pos_right _ (by omega)
theorem gcd_small {n d : Int} (h : 0 < d) (hs : d.natAbs < 2 ^ 8000) : CDivW n ((Nat.gcd n.natAbs d.natAbs : Nat) : Int) := by
  have h1 := gcd_pos (n := n) h
  have h2 : Nat.gcd n.natAbs d.natAbs ≤ d.natAbs := Nat.gcd_le_right _ (by omega)
  refine ⟨by omega, ?_⟩
  have e : (((Nat.gcd n.natAbs d.natAbs : Nat) : Int)).natAbs = Nat.gcd n.natAbs d.natAbs := by omega
  rw [e]
  exact Nat.lt_of_lt_of_le ((Nat.log2_lt (by omega)).mpr (Nat.lt_of_le_of_lt h2 hs)) (by decide)
theorem gcd_dvdL (a b : Int) : ((Nat.gcd a.natAbs b.natAbs : Nat) : Int) ∣ a := Int.ofNat_dvd_left.mpr (Nat.gcd_dvd_left _ _)
theorem gcd_dvdR (a b : Int) : ((Nat.gcd a.natAbs b.natAbs : Nat) : Int) ∣ b := Int.ofNat_dvd_left.mpr (Nat.gcd_dvd_right _ _)
/-! ### fractions of 2520 -/
theorem lowQ_scale {k a b : Int} (hk : 0 < k) : lowQ (k * a) (k * b) = lowQ a b := by
  unfold lowQ
  rw [Int.natAbs_mul, Int.natAbs_mul, Nat.gcd_mul_left, Int.natCast_mul, show ((k.natAbs : Nat) : Int) = k by omega, Int.mul_ediv_mul_of_pos _ _ hk, Int.mul_ediv_mul_of_pos _ _ hk]
theorem lowQ_eq {a b c d : Int} (hb : 0 < b) (hd : 0 < d) (h : a * d = c * b) : lowQ a b = lowQ c d := by
  rw [← lowQ_scale (k := d) hd, ← lowQ_scale (k := b) (a := c) hb, Int.mul_comm d a, h, Int.mul_comm c b, Int.mul_comm d b]
theorem lowQ_facts {n d : Int} (h : 0 < d) : 0 < (lowQ n d).2 ∧ (lowQ n d).2 ∣ d ∧ (lowQ n d).1 * d = n * (lowQ n d).2 ∧ Nat.gcd (lowQ n d).1.natAbs (lowQ n d).2.natAbs = 1 ∧ (lowQ n d).1.natAbs ≤ n.natAbs ∧ (lowQ n d).2 ≤ d ∧ (0 ≤ n → 0 ≤ (lowQ n d).1) := by
  have g0 : 0 < Nat.gcd n.natAbs d.natAbs := Nat.gcd_pos_of_pos_right _ (by omega)
  obtain ⟨x, hx⟩ := gcd_dvdL n d
  obtain ⟨y, hy⟩ := gcd_dvdR n d
  unfold lowQ
  have e1 : n / ((Nat.gcd n.natAbs d.natAbs : Nat) : Int) = x := by
    conv => lhs; arg 1; rw [hx]
    exact Int.mul_ediv_cancel_left _ (by omega)
  have e2 : d / ((Nat.gcd n.natAbs d.natAbs : Nat) : Int) = y := by
    conv => lhs; arg 1; rw [hy]
    exact Int.mul_ediv_cancel_left _ (by omega)
  rw [e1, e2]
  have y0 : 0 < y := by
    by_cases q : 0 < y
    · exact q
    · have : ((Nat.gcd n.natAbs d.natAbs : Nat) : Int) * y ≤ 0 := Int.mul_nonpos_of_nonneg_of_nonpos (by omega) (by omega)
      omega
  have co : Nat.gcd x.natAbs y.natAbs = 1 := by
    have e : Nat.gcd n.natAbs d.natAbs * Nat.gcd x.natAbs y.natAbs = Nat.gcd n.natAbs d.natAbs := by
      rw [← Nat.gcd_mul_left]
      have h1 := congrArg Int.natAbs hx
      have h2 := congrArg Int.natAbs hy
      rw [Int.natAbs_mul, Int.natAbs_natCast] at h1 h2
      rw [← h1, ← h2]
    exact Nat.eq_of_mul_eq_mul_left g0 (by rw [e, Nat.mul_one])
  refine ⟨y0, ⟨_, by rw [Int.mul_comm]; exact hy⟩, ?_, co, ?_, ?_, fun hn => ?_⟩
  · generalize ((Nat.gcd n.natAbs d.natAbs : Nat) : Int) = g at hx hy
    rw [hx, hy, ← Int.mul_assoc, Int.mul_comm x g]
  · have h1 := congrArg Int.natAbs hx
    rw [Int.natAbs_mul, Int.natAbs_natCast] at h1
    have : 1 * x.natAbs ≤ Nat.gcd n.natAbs d.natAbs * x.natAbs := Nat.mul_le_mul_right _ g0
    omega
  · have : 1 * y ≤ ((Nat.gcd n.natAbs d.natAbs : Nat) : Int) * y := Int.mul_le_mul_of_nonneg_right (by omega) (by omega)
    omega
  · rw [← e1]
    exact Int.ediv_nonneg hn (by omega)
end G

set_option Elab.async false
set_option maxRecDepth 100000
set_option linter.all false
namespace G
open PySem L2 PyProof.Rows
theorem sum_bump {l : List Nat} {i : Nat} (h : i < l.length) : (bump l i).sum = l.sum + 1 := by
  unfold bump
  induction l generalizing i with
  | nil => simp at h
  | cons x l ih =>
    cases i with
    | zero => simp; omega
    | succ i =>
      simp at h ih ⊢
      have := ih h
      omega
theorem bump2_getD {n i j p : Nat} {t : List (List Nat)} (h : Sq n t) (hi : i < n) : (bump2 t i j).getD p [] = if i = p then bump (t.getD i []) j else t.getD p [] := by
  unfold bump2
  rw [List.getD_eq_getElem?_getD]
  by_cases e : i = p
  · subst e
    rw [List.getElem?_set_self (by rw [h.1]; exact hi), if_pos rfl]
    rfl
  · rw [List.getElem?_set_ne e, if_neg e, ← List.getD_eq_getElem?_getD]
theorem tabStep_sum {n p : Nat} {t : List (List Nat)} {e : Nat × Nat} (h : Sq n t) (h1 : e.1 < n) (h2 : e.2 < n) (hp : p < n) : ((tabStep t e).getD p []).sum = (if e.1 = p ∨ e.2 = p then 1 else 0) + (t.getD p []).sum := by
  unfold tabStep
  have l1 := h.2 e.1 h1
  have l2 := h.2 e.2 h2
  by_cases e0 : e.1 = e.2
  · rw [if_pos e0, bump2_getD h h1]
    by_cases a : e.1 = p
    · rw [if_pos a, sum_bump (by omega), if_pos (.inl a), a]; omega
    · rw [if_neg a, if_neg (by omega)]; omega
  · rw [if_neg e0, bump2_getD h.bump2 h2, bump2_getD h h1, if_neg e0]
    by_cases b : e.2 = p
    · rw [if_pos b, sum_bump (by omega), if_pos (.inr b), b]; omega
    · rw [if_neg b, bump2_getD h h1]
      by_cases a : e.1 = p
      · rw [if_pos a, sum_bump (by omega), if_pos (.inl a), a]; omega
      · rw [if_neg a, if_neg (by omega)]; omega
theorem tabFold_sum {n p : Nat} (hp : p < n) : ∀ (es : Edges) (t : List (List Nat)), Sq n t → EdgeOk n es → ((es.foldl tabStep t).getD p []).sum = dg es p + (t.getD p []).sum
  | [], t, _, _ => by rw [dg_nil]; simp
  | e :: es, t, h, ok => by
    have h0 := ok e (by simp)
    rw [List.foldl_cons, tabFold_sum hp es _ (h.step e) (fun x hx => ok x (by simp [hx])), tabStep_sum h (by omega) h0.2 hp, dg_cons]
    omega
theorem tabOf_sum {n d : Nat} {es : Edges} (r : Reg n d es) (hn : 0 < n) : ((tabOf n es).getD 0 []).sum = d := by
  unfold tabOf
  rw [tabFold_sum hn es _ (Sq.zero n) r.1, r.2 0 hn]
  have : ((List.replicate n (List.replicate n 0)).getD 0 []).sum = 0 := by
    rw [List.getD_eq_getElem?_getD, List.getElem?_replicate, if_pos hn]
    simp
  omega
theorem sum_int (l : List Nat) : (l.map fun i => ((i : Nat) : Int)).sum = (l.sum : Nat) := by
  induction l with
  | nil => rfl
  | cons x l ih => simp [ih]
theorem le_sum : ∀ (l : List Nat) (i : Nat), l.getD i 0 ≤ l.sum
  | [], i => by simp
  | x :: l, 0 => by simp
  | x :: l, i + 1 => by
    have := le_sum l i
    simp at this ⊢
    omega
/-- an entry of the table is at most the degree -/
theorem tabOf_le {n d p i : Nat} {es : Edges} (r : Reg n d es) (hp : p < n) : ((tabOf n es).getD p []).getD i 0 ≤ d := by
  refine Nat.le_trans (le_sum _ i) ?_
  unfold tabOf
  rw [tabFold_sum hp es _ (Sq.zero n) r.1, r.2 p hp]
  have : ((List.replicate n (List.replicate n 0)).getD p []).sum = 0 := by
    rw [List.getD_eq_getElem?_getD, List.getElem?_replicate, if_pos hp]
    simp
  omega
end G

set_option Elab.async false
set_option maxRecDepth 100000
set_option linter.all false
namespace G
open PySem L2 PyProof.Rows
def ent (t : List (List Nat)) (u v : Nat) : Nat := (t.getD u []).getD v 0
theorem bump_getD {l : List Nat} {i j : Nat} (h : i < l.length) : (bump l i).getD j 0 = (if i = j then 1 else 0) + l.getD j 0 := by
  unfold bump
  rw [List.getD_eq_getElem?_getD]
  by_cases e : i = j
  · subst e
    rw [List.getElem?_set_self h, if_pos rfl]
    simp
    omega
  · rw [List.getElem?_set_ne e, if_neg e, ← List.getD_eq_getElem?_getD, Nat.zero_add]
theorem ent_bump2 {n i j u v : Nat} {t : List (List Nat)} (h : Sq n t) (hi : i < n) (hj : j < n) : ent (bump2 t i j) u v = (if i = u ∧ j = v then 1 else 0) + ent t u v := by
  unfold ent
  rw [bump2_getD h hi]
  by_cases e : i = u
  · subst e
    rw [if_pos rfl, bump_getD (by rw [h.2 i hi]; exact hj)]
    by_cases e2 : j = v
    · rw [if_pos e2, if_pos ⟨rfl, e2⟩]
    · rw [if_neg e2, if_neg (fun z => e2 z.2)]
  · rw [if_neg e, if_neg (fun z => e z.1), Nat.zero_add]
/-- e lies between u and v -/
def lies (u v : Nat) (e : Nat × Nat) : Bool := decide (e = (u, v) ∨ e = (v, u))
theorem ent_step {n u v : Nat} {t : List (List Nat)} {e : Nat × Nat} (h : Sq n t) (h1 : e.1 < n) (h2 : e.2 < n) : ent (tabStep t e) u v = (if lies u v e then 1 else 0) + ent t u v := by
  obtain ⟨a, b⟩ := e
  simp only at h1 h2
  unfold tabStep lies
  simp only [Prod.mk.injEq, decide_eq_true_eq]
  by_cases e0 : a = b
  · subst e0
    rw [if_pos rfl, ent_bump2 h h1 h1]
    by_cases q : a = u ∧ a = v
    · rw [if_pos q, if_pos (.inl q)]
    · rw [if_neg q, if_neg (by omega)]
  · rw [if_neg e0, ent_bump2 h.bump2 h2 h1, ent_bump2 h h1 h2]
    by_cases q : a = u ∧ b = v
    · rw [if_pos q, if_pos (Or.inl q), if_neg (fun z => by omega)]; omega
    · rw [if_neg q]
      by_cases q2 : b = u ∧ a = v
      · rw [if_pos q2, if_pos (Or.inr ⟨q2.2, q2.1⟩)]; omega
      · rw [if_neg q2, if_neg (fun z => by omega)]; omega
theorem ent_fold {n u v : Nat} : ∀ (es : Edges) (t : List (List Nat)), Sq n t → EdgeOk n es → ent (es.foldl tabStep t) u v = es.countP (lies u v) + ent t u v
  | [], t, _, _ => by simp
  | e :: es, t, h, ok => by
    have h0 := ok e (by simp)
    rw [List.foldl_cons, ent_fold es _ (h.step e) (fun x hx => ok x (by simp [hx])), ent_step h (by omega) h0.2, List.countP_cons]
    omega
theorem ent_tabOf {n u v : Nat} {es : Edges} (ok : EdgeOk n es) : ent (tabOf n es) u v = es.countP (lies u v) := by
  unfold tabOf
  rw [ent_fold es _ (Sq.zero n) ok]
  have : ent (List.replicate n (List.replicate n 0)) u v = 0 := by
    unfold ent
    rw [List.getD_eq_getElem?_getD (l := List.replicate n (List.replicate n 0)), List.getElem?_replicate]
    split
    · show (List.replicate n 0).getD v 0 = 0
      rw [List.getD_eq_getElem?_getD, List.getElem?_replicate]
      split <;> rfl
    · rfl
  omega
end G

set_option Elab.async false
set_option maxRecDepth 100000
set_option maxHeartbeats 2000000
set_option linter.all false
/-! L9x: the table of the sorted edges; rows that are lists. -/
namespace G
open PySem L2 PyProof.Rows
theorem tab_ext {n : Nat} {t u : List (List Nat)} (h1 : Sq n t) (h2 : Sq n u) (h : ∀ i j, ent t i j = ent u i j) : t = u := by
  refine List.ext_getElem? fun i => ?_
  by_cases hi : i < n
  · have a1 : i < t.length := by rw [h1.1]; exact hi
    have a2 : i < u.length := by rw [h2.1]; exact hi
    have e1 := h1.2 i hi
    have e2 := h2.2 i hi
    have h' := h i
    unfold ent at h'
    rw [List.getD_eq_getElem?_getD, List.getElem?_eq_getElem a1] at e1 h'
    rw [List.getD_eq_getElem?_getD, List.getElem?_eq_getElem a2] at e2 h'
    rw [List.getElem?_eq_getElem a1, List.getElem?_eq_getElem a2]
    simp only [Option.getD_some] at e1 e2 h'
    congr 1
    refine List.ext_getElem? fun j => ?_
    have q := h' j
    rw [List.getD_eq_getElem?_getD, List.getD_eq_getElem?_getD] at q
    by_cases hj : j < n
    · rw [List.getElem?_eq_getElem (by omega), List.getElem?_eq_getElem (by omega)] at q ⊢
      exact congrArg some q
    · rw [List.getElem?_eq_none (by omega), List.getElem?_eq_none (by omega)]
  · rw [List.getElem?_eq_none (by rw [h1.1]; omega), List.getElem?_eq_none (by rw [h2.1]; omega)]
theorem EdgeOk.perm {n : Nat} {es fs : Edges} (h : EdgeOk n es) (p : fs.Perm es) : EdgeOk n fs := fun e he => h e (p.mem_iff.mp he)
theorem tabOf_sort {n : Nat} {es : Edges} (ok : EdgeOk n es) : tabOf n (sortE es) = tabOf n es :=
  tab_ext ((Sq.zero n).fold _) ((Sq.zero n).fold _) fun i j => by
    rw [ent_tabOf ok, ent_tabOf (ok.perm (sortE_perm es)), (sortE_perm es).countP_eq]
def lrowD (l : List Nat) : D := .lst (natsD l)
theorem lrow_at {n i : Nat} {t : List (List Nat)} (h : Sq n t) (hi : i < n) : L2.atI (t.map lrowD) (i : Int) = some (.lst (natsD (t.getD i []))) :=
  atI_nat (by rw [List.getElem?_map, List.getD_eq_getElem?_getD, List.getElem?_eq_getElem (by rw [h.1]; exact hi)]; rfl)
end G

set_option Elab.async false
set_option maxRecDepth 100000
set_option linter.all false
namespace G
/-- f tells the distances from s -/
structure IsDist (adj : Nat → Nat → Prop) (n s : Nat) (f : Nat → Option Nat) : Prop where
  z : f s = some 0
  z1 : ∀ v, v < n → f v = some 0 → v = s
  nb : ∀ u v k, u < n → v < n → adj u v → f u = some k → ∃ j, f v = some j ∧ j ≤ k + 1
  up : ∀ v k, v < n → f v = some (k + 1) → ∃ u, u < n ∧ adj u v ∧ f u = some k
theorem IsDist.le {adj : Nat → Nat → Prop} {n s : Nat} {f g : Nat → Option Nat} (F : IsDist adj n s f) (G : IsDist adj n s g) : ∀ k v, v < n → f v = some k → ∃ j, g v = some j ∧ j ≤ k
  | 0, v, hv, h => by
    rw [F.z1 v hv h]
    exact ⟨0, G.z, Nat.le_refl _⟩
  | k + 1, v, hv, h => by
    obtain ⟨u, hu, ha, hk⟩ := F.up v k hv h
    obtain ⟨j, hj, hjk⟩ := F.le G k u hu hk
    obtain ⟨i, hi, hij⟩ := G.nb u v j hu hv ha hj
    exact ⟨i, hi, by omega⟩
theorem IsDist.uniq {adj : Nat → Nat → Prop} {n s : Nat} {f g : Nat → Option Nat} (F : IsDist adj n s f) (G : IsDist adj n s g) {v : Nat} (hv : v < n) : f v = g v := by
  cases e : f v with
  | some k =>
    obtain ⟨j, hj, hjk⟩ := F.le G k v hv e
    obtain ⟨i, hi, hij⟩ := G.le F j v hv hj
    rw [e] at hi
    cases hi
    rw [hj]
    congr 1
    omega
  | none =>
    cases e' : g v with
    | none => rfl
    | some j =>
      obtain ⟨i, hi, _⟩ := G.le F j v hv e'
      rw [e] at hi
      cases hi
/-- the places on a way back from v have all the values below v's -/
theorem IsDist.chain {adj : Nat → Nat → Prop} {n : Nat} {f : Nat → Option Nat} (up : ∀ v k, v < n → f v = some (k + 1) → ∃ u, u < n ∧ adj u v ∧ f u = some k) : ∀ k v, v < n → f v = some k → ∃ l : List Nat, l.length = k + 1 ∧ l.Nodup ∧ (∀ x ∈ l, x < n ∧ ∃ j, f x = some j ∧ j ≤ k)
  | 0, v, hv, h => ⟨[v], rfl, by simp, fun x hx => by
    obtain rfl : x = v := by simpa using hx
    exact ⟨hv, 0, h, Nat.le_refl _⟩⟩
  | k + 1, v, hv, h => by
    obtain ⟨u, hu, _, hk⟩ := up v k hv h
    obtain ⟨l, h1, h2, h3⟩ := IsDist.chain up k u hu hk
    refine ⟨v :: l, by simp [h1], ?_, fun x hx => ?_⟩
    · rw [List.nodup_cons]
      refine ⟨fun hm => ?_, h2⟩
      obtain ⟨_, j, hj, hjk⟩ := h3 v hm
      rw [h] at hj
      cases hj
      omega
    · rcases List.mem_cons.mp hx with rfl | hx
      · exact ⟨hv, k + 1, h, Nat.le_refl _⟩
      · obtain ⟨a, j, b, c⟩ := h3 x hx
        exact ⟨a, j, b, by omega⟩
theorem nodup_le {n : Nat} : ∀ {l : List Nat}, l.Nodup → (∀ x ∈ l, x < n) → l.length ≤ n := fun {l} nd h => by
  have q := nd.length_le_of_subset (l₂ := List.range n) fun x hx => List.mem_range.mpr (h x hx)
  simpa using q
theorem dist_lt {adj : Nat → Nat → Prop} {n : Nat} {f : Nat → Option Nat} (up : ∀ v k, v < n → f v = some (k + 1) → ∃ u, u < n ∧ adj u v ∧ f u = some k) {k v : Nat} (hv : v < n) (h : f v = some k) : k < n := by
  obtain ⟨l, h1, h2, h3⟩ := IsDist.chain up k v hv h
  have := nodup_le h2 fun x hx => (h3 x hx).1
  omega
end G

set_option Elab.async false
set_option maxRecDepth 100000
set_option maxHeartbeats 4000000
set_option linter.all false
namespace G
open PySem L2 PyProof.Rows
/-! what Graph(n, edges) tells of any two things -/
def pairL : List D → Option (Int × Int)
  | [.int i, .int j] => some (i, j)
  | _ => none
def D.row? : D → Option (List D)
  | .tup l => some l
  | .lst l => some l
  | _ => none
def pairOf (x : D) : Option (Int × Int) := x.row?.bind pairL
/-- what is wrong with an edge -/
def faultS (n : Nat) (x : D) : Option Str := match pairOf x with
  | none => some "pair"
  | some (i, j) => if 0 ≤ i ∧ i ≤ j ∧ j < n then none else some "place"
def firstF (n : Nat) : List D → Nat → Option (Nat × Str)
  | [], _ => none
  | x :: l, k => match faultS n x with
    | some s => some (k, s)
    | none => firstF n l (k + 1)
def edgeN (x : D) : Nat × Nat := match pairOf x with
  | some (i, j) => (i.toNat, j.toNat)
  | none => (0, 0)
def oddAt (ends : List Nat) : Option Nat := (List.range ends.length).find? fun p => ends.getD p 0 != ends.getD 0 0
def degR (n : Nat) (es : Edges) : Except (D × Str) (Nat × Nat × Edges) := match oddAt (endsOf n es) with
  | some p => .error (.int (p : Nat), "degree")
  | none => if 64 < (endsOf n es).getD 0 0 then .error (.non, "degree") else .ok (n, (endsOf n es).getD 0 0, es)
def rowsR (n : Nat) (l : List D) : Except (D × Str) (Nat × Nat × Edges) := if 4096 < l.length then .error (.non, "count") else match firstF n l 0 with
  | some (k, s) => .error (.int (k : Nat), s)
  | none => degR n (l.map edgeN)
def edgesR (n : Nat) (e : D) : Except (D × Str) (Nat × Nat × Edges) := match e.row? with
  | none => .error (.non, "count")
  | some l => rowsR n l
def initR (nD eD : D) : Except (D × Str) (Nat × Nat × Edges) := match nD with
  | .int m => if 1 ≤ m ∧ m ≤ 64 then edgesR m.toNat eD else .error (.non, "places")
  | _ => .error (.non, "places")
/-- x, and what its items are, as far as they are rows -/
structure Two (x : D) : Prop where
  pl : x.plain = true
  row : ∀ l, x.row? = some l → l.length < 16777216 ∧ ∀ y ∈ l, y.plain = true ∧ ∀ m, y.row? = some m → m.length < 16777216 ∧ ∀ z ∈ m, z.plain = true
theorem row_rowD (b : Bool) (l : List D) : (rowD b l).row? = some l := by cases b <;> rfl
theorem row_norow {d : D} (h : d.norow = true) : d.row? = none := by cases d <;> first | rfl | cases h
theorem pairL_len {l : List D} (h : l.length ≠ 2) : pairL l = none := by
  match l with
  | [] => rfl
  | [x] => cases x <;> rfl
  | [x, y] => simp at h
  | x :: y :: z :: r => cases x <;> cases y <;> rfl
theorem pairL_whole {x y : D} : ((x.whole && y.whole) = true → ∃ i j, x = .int i ∧ y = .int j) ∧ ((x.whole && y.whole) = false → pairL [x, y] = none) := by
  refine ⟨fun h => ?_, fun h => ?_⟩
  · rw [Bool.and_eq_true] at h
    obtain ⟨i, rfl⟩ := whole_int h.1
    obtain ⟨j, rfl⟩ := whole_int h.2
    exact ⟨i, j, rfl, rfl⟩
  · cases x <;> cases y <;> first | rfl | cases h
theorem firstF_none {n : Nat} : ∀ {l : List D} {k : Nat}, firstF n l k = none → ∀ x ∈ l, faultS n x = none
  | [], _, _, _, h => nomatch h
  | y :: l, k, h, x, hx => by
    unfold firstF at h
    cases e : faultS n y with
    | some s => rw [e] at h; cases h
    | none =>
      rw [e] at h
      rcases List.mem_cons.mp hx with rfl | hx
      · exact e
      · exact firstF_none h x hx
theorem faultS_none {n : Nat} {x : D} (h : faultS n x = none) : ∃ (b : Bool) (e : Nat × Nat), x = rowD b [.int (e.1 : Nat), .int (e.2 : Nat)] ∧ edgeN x = e ∧ e.1 ≤ e.2 ∧ e.2 < n := by
  unfold faultS at h
  cases e : pairOf x with
  | none => rw [e] at h; cases h
  | some q =>
    obtain ⟨i, j⟩ := q
    rw [e] at h
    simp only at h
    by_cases c : 0 ≤ i ∧ i ≤ j ∧ j < n
    · have row : ∃ b l, x = rowD b l ∧ pairL l = some (i, j) := by
        unfold pairOf at e
        cases x with
        | tup l => exact ⟨true, l, rfl, e⟩
        | lst l => exact ⟨false, l, rfl, e⟩
        | _ => cases e
      obtain ⟨b, l, rfl, hl⟩ := row
      have hl2 : l = [.int i, .int j] := by
        match l, hl with
        | [.int a, .int b], hl => cases hl; rfl
      refine ⟨b, (i.toNat, j.toNat), ?_, by unfold edgeN; rw [e], by show i.toNat ≤ j.toNat; omega, by show j.toNat < n; omega⟩
      rw [hl2]
      show rowD b [.int i, .int j] = rowD b [.int ((i.toNat : Nat) : Int), .int ((j.toNat : Nat) : Int)]
      rw [Int.toNat_of_nonneg c.1, Int.toNat_of_nonneg (by omega)]
    · rw [if_neg c] at h; cases h
theorem firstF_at {n : Nat} : ∀ {l : List D} {k i : Nat} {x : D} {s : Str}, (∀ j y, j < i → l[j]? = some y → faultS n y = none) → l[i]? = some x → faultS n x = some s → firstF n l k = some (k + i, s)
  | [], _, _, _, _, _, h, _ => by simp at h
  | y :: l, k, 0, x, s, _, h, hf => by
    simp at h
    subst h
    unfold firstF
    rw [hf]; rfl
  | y :: l, k, i + 1, x, s, ha, h, hf => by
    unfold firstF
    rw [ha 0 y (by omega) rfl]
    have q := firstF_at (n := n) (l := l) (k := k + 1) (i := i) (fun j z hj hz => ha (j + 1) z (by omega) (by simpa using hz)) (by simpa using h) hf
    show firstF n l (k + 1) = _
    rw [q]
    congr 2
    omega
theorem firstF_all {n : Nat} : ∀ {l : List D} {k : Nat}, (∀ y ∈ l, faultS n y = none) → firstF n l k = none
  | [], _, _ => rfl
  | y :: l, k, h => by
    unfold firstF
    rw [h y (List.mem_cons_self ..)]
    exact firstF_all fun z hz => h z (List.mem_cons_of_mem _ hz)
theorem find_range {m i : Nat} {f : Nat → Bool} (hi : i < m) (hf : f i = true) (h : ∀ j, j < i → f j = false) : (List.range m).find? f = some i := by
  rw [List.find?_eq_some_iff_append]
  refine ⟨hf, List.range i, (List.range (m - i - 1)).map fun x => i + 1 + x, ?_, fun j hj => by rw [h j (List.mem_range.mp hj)]; rfl⟩
  refine List.ext_getElem? fun j => ?_
  by_cases hj : j < i
  · rw [List.getElem?_append_left (by simpa using hj), List.getElem?_range (by omega), List.getElem?_range hj]
  · rw [List.getElem?_append_right (by simpa using Nat.le_of_not_lt hj), List.length_range]
    by_cases e : j = i
    · subst e; rw [List.getElem?_range hi, Nat.sub_self]; rfl
    · obtain ⟨u, hu⟩ : ∃ u, j - i = u + 1 := ⟨j - i - 1, by omega⟩
      rw [hu, List.getElem?_cons_succ, List.getElem?_map]
      by_cases hm : j < m
      · rw [List.getElem?_range hm, List.getElem?_range (by omega)]
        show some j = some (i + 1 + u)
        congr 1; omega
      · rw [List.getElem?_eq_none (by simp; omega), List.getElem?_eq_none (by simp; omega)]; rfl
theorem endsOf_len (n : Nat) (es : Edges) : (endsOf n es).length = n := by unfold endsOf; rw [endsFold_len, List.length_replicate]
theorem oddAt_some {ends : List Nat} {i : Nat} (hi : i < ends.length) (h : ends.getD i 0 ≠ ends.getD 0 0) (hb : ∀ j, j < i → ends.getD j 0 = ends.getD 0 0) : oddAt ends = some i :=
  find_range hi (by simpa using h) fun j hj => by rw [hb j hj]; simp
theorem oddAt_none {ends : List Nat} (h : ∀ j, j < ends.length → ends.getD j 0 = ends.getD 0 0) : oddAt ends = none := by
  unfold oddAt
  rw [List.find?_eq_none]
  intro j hj
  rw [h j (List.mem_range.mp hj)]
  simp
theorem endsOf_dg {n : Nat} {es : Edges} (ok : EdgeOk n es) (p : Nat) : (endsOf n es).getD p 0 = dg es p := by
  unfold endsOf
  rw [endsFold_get p es _ (by rw [List.length_replicate]; exact ok)]
  have : (List.replicate n 0).getD p 0 = 0 := by
    rw [List.getD_eq_getElem?_getD, List.getElem?_replicate]; split <;> rfl
  omega
theorem dg_perm {es fs : Edges} (h : es.Perm fs) (p : Nat) : dg es p = dg fs p := by
  unfold dg endsL
  exact (h.flatMap_right _).count_eq p
theorem endsOf_perm {n : Nat} {es fs : Edges} (ok : EdgeOk n es) (h : es.Perm fs) : endsOf n es = endsOf n fs := by
  have ok2 : EdgeOk n fs := fun x hx => ok x (h.mem_iff.mpr hx)
  refine List.ext_getElem (by rw [endsOf_len, endsOf_len]) fun p h1 h2 => ?_
  have q1 := endsOf_dg ok p
  have q2 := endsOf_dg ok2 p
  rw [List.getD_eq_getElem?_getD, List.getElem?_eq_getElem h1] at q1
  rw [List.getD_eq_getElem?_getD, List.getElem?_eq_getElem h2] at q2
  have e := dg_perm h p
  have q1 : (endsOf n es)[p] = dg es p := q1
  have q2 : (endsOf n fs)[p] = dg fs p := q2
  omega
end G

set_option Elab.async false
set_option maxRecDepth 100000
set_option maxHeartbeats 4000000
set_option linter.all false
/-! M3: an expression as a statement that may raise; own errors with one field. -/
namespace G
open PySem L2 PyProof.Rows
/-- e as a statement, which may raise -/
theorem s_exprQ {X : Cx} {e : Expr} {ρ : Rho} {P : D → Rho → Prop} {PX : Value → Option (List (Str × D)) → Rho → Prop} {DD : DEnds} {pos : Pos} (h : QE X DD.W e ρ P PX) (k : ∀ d r, P d r → DD.nx r) (kx : ∀ cls pay r, PX cls pay r → DD.ex cls pay r) (hsw : swapsWith e none pos.line X.env = pure false := by rfl) : S1 X (.Expr e pos) ρ DD :=
  PS.imp (ps_expr h hsw) fun E σ H ⟨w, B, R, hl, g⟩ => ⟨w, B, R, fun B' H' v d r hp R' s rv => g.nx _ σ B' H' (k d r hp) R' s.b hl, fun B' H' cls pay d r hp R' s po => g.ex cls pay r σ B' H' d (kx cls pay r hp) R' s hl po⟩
/-- such an error class, one field y -/
structure Err1 (P : Program) (K : PySem.W.Frag) (mg : Str → Option Value) (x y : Str) (C : Addr) : Prop where
  made : ∀ {X : Cx}, X.prog = P → X.K = K → X.mg = mg → ∀ {k : Nat} (_ : Room k X.A) {p : Bool} {ρ ρ1 : Rho} {d : D} {e : Expr} {pp pos : Pos} (_ : EA X [e] p ρ [d] ρ1) (_ : Gl X x) (_ : (x == ("__debug__" : Str)) = false) (_ : starEach [e] X.env = (false, eval e X.env) :: starEach [] X.env) (_ : (backTo pos (starEach [] X.env)).any (·.1) = false),
    PMk X (.Call (.Name x pp) [e] [] pos) (tMkS C 1 (fun vs => [(y, vs.getD 0 .non)]) (tEA X.K p ρ [d] ρ1))
theorem relO1 {y : Str} {v : V} {u : Value} (r : RelV v u) (f : Str) : RelO (List.lookup f [(y, v)]) (if f = y then some u else none) := by
  by_cases h : f = y
  · subst h
    rw [if_pos rfl]
    have q : List.lookup f [(f, v)] = some v := by simp [List.lookup]
    rw [q]
    exact r
  · rw [if_neg h]
    have q : (f == y) = false := by simpa using h
    have q2 : List.lookup f [(y, v)] = none := by simp [List.lookup, q]
    rw [q2]
    trivial
end G

set_option Elab.async false
set_option maxRecDepth 100000
set_option maxHeartbeats 4000000
set_option linter.all false
/-! M5: own errors with two fields. -/
namespace G
open PySem L2 PyProof.Rows
/-- such an error class, two fields -/
structure Err2 (P : Program) (K : PySem.W.Frag) (mg : Str → Option Value) (x y z : Str) (C : Addr) : Prop where
  made : ∀ {X : Cx}, X.prog = P → X.K = K → X.mg = mg → ∀ {n : Nat} (_ : Room n X.A) {p : Bool} {ρ ρ1 : Rho} {d1 d2 : D} {e1 e2 : Expr} {pp pos : Pos} (_ : EA X [e1, e2] p ρ [d1, d2] ρ1) (_ : Gl X x) (_ : (x == ("__debug__" : Str)) = false) (_ : starEach [e1, e2] X.env = (false, eval e1 X.env) :: starEach [e2] X.env) (_ : (backTo pos (starEach [e2] X.env)).any (·.1) = false),
    PMk X (.Call (.Name x pp) [e1, e2] [] pos) (tMkS C 2 (fun vs => [(y, vs.getD 0 .non), (z, vs.getD 1 .non)]) (tEA X.K p ρ [d1, d2] ρ1))
theorem relO2 {y z : Str} {a b : V} {u v : Value} (h1 : y ≠ z) (ra : RelV a u) (rb : RelV b v) (f : Str) : RelO (List.lookup f [(y, a), (z, b)]) (if f = z then some v else if f = y then some u else none) := by
  by_cases e2 : f = z
  · subst e2
    rw [if_pos rfl]
    have q1 : (f == y) = false := by simpa using fun w => h1 w.symm
    simp only [List.lookup, q1, beq_self_eq_true]
    exact rb
  · rw [if_neg e2]
    have n2 : (f == z) = false := by simpa using e2
    by_cases e3 : f = y
    · subst e3
      rw [if_pos rfl]
      simp only [List.lookup, beq_self_eq_true]
      exact ra
    · rw [if_neg e3]
      have n3 : (f == y) = false := by simpa using e3
      simp only [List.lookup, n2, n3]
      trivial
end G

set_option Elab.async false
set_option maxRecDepth 100000
set_option maxHeartbeats 4000000
set_option linter.all false
namespace G
open PySem L2 PyProof.Rows
section
variable {P : Program} {w : World} {K : PySem.W.Frag} {mg : Str → Option Value} {base : Heap} {C fI cc cda : Addr} {oc kV doc pm ct : Value} {od an : Option Addr} {osl : Array (Option Value)}
theorem badGraphS (lk : K.lookup fI = some ⟨oc, od, .func (PySem.W.ksFn "__init__" "BadGraph.__init__" (defArgs sBadGraphInit) (defBody sBadGraphInit) (defScope sBadGraphInit) .none kV doc pm an (.ref cda) ct cc), osl⟩) (hcd : PySem.W.codeIn K (.ref cda) "BadGraph.__init__" = true) (no1 : PySem.W.findIn K (.ref C) "number" = some none) (no2 : PySem.W.findIn K (.ref C) "reason" = some none) :
    PySem.GEn.InitS K C fI cc cda ["number", "reason"] (PySem.W.ksFn "__init__" "BadGraph.__init__" (defArgs sBadGraphInit) (defBody sBadGraphInit) (defScope sBadGraphInit) .none kV doc pm an (.ref cda) ct cc) "BadGraph.__init__" (defScope sBadGraphInit) (defBody sBadGraphInit) where
  lk := ⟨_, _, _, lk⟩
  hb := rfl
  env := fun L => rfl
  cd := hcd
  bind := fun s us hl => match us, hl with | [_, _, _], _ => .of_eq rfl
  ar := ⟨_, rfl, rfl⟩
  sc := rfl
  ks := rfl
  kc := rfl
  ls := rfl
  ly := fun y hy => by
    rcases (show y = "number" ∨ y = "reason" by simpa using hy) with rfl | rfl <;> rfl
  nc := by decide +kernel
  co := rfl
  gen := rfl
  kind := rfl
  no := fun y hy => by
    rcases (show y = "number" ∨ y = "reason" by simpa using hy) with rfl | rfl
    · exact no1
    · exact no2
  db := fun y hy => by
    rcases (show y = "number" ∨ y = "reason" by simpa using hy) with rfl | rfl <;> decide
theorem badGraphI (T : PySem.GEn.SupTxt P K mg C fI cc cda) (lk : K.lookup fI = some ⟨oc, od, .func (PySem.W.ksFn "__init__" "BadGraph.__init__" (defArgs sBadGraphInit) (defBody sBadGraphInit) (defScope sBadGraphInit) .none kV doc pm an (.ref cda) ct cc), osl⟩) (hcd : PySem.W.codeIn K (.ref cda) "BadGraph.__init__" = true) (no1 : PySem.W.findIn K (.ref C) "number" = some none) (no2 : PySem.W.findIn K (.ref C) "reason" = some none)
    (us : List Value) (hp : Heap) (g : Array GenState) (d : Drawn) (t : Nat) (os : OsState) (h0 : Heap) (e t0 : Addr) (A' : Around) (R' : Result → Shared → Prop) (hl : us.length = 2) (X : K.In h0) (hlim : h0.NoLimit) (hg : h0.Ns mainGlobals mg) (hb : ∃ mb, h0.Ns builtinsNs mb ∧ ∀ x : Str, x ≠ "__name__" → mb x = bootBuiltins x) (hx : h0.get? e = some (PySem.HandSPX.excO C t0)) (hnx : K.lookup e = none) (hroom : A'.depth < recursionLimit)
    (hq : ∀ h' tk dx t1, PySem.GEn.SupEnd h0 h' e C dx t1 (fun z => if z = "reason" then us[1]? else if z = "number" then us[0]? else none) → R' (.ok (.ret .none)) ⟨h', g, d, tk, os⟩) : codeAny (model P w) A' (.call (.ref fI) ⟨.ref e :: us, []⟩) R' ⟨h0, g, d, t, os⟩ := by
  obtain ⟨mb, hb1, hb2⟩ := hb
  match us, hl with
  | [v, u], _ => exact PySem.GEn.init2 (y := "number") (z := "reason") (by decide) (by decide) (by decide) T (badGraphS lk hcd no1 no2) X hlim hg hb1 (hb2 _ (by decide)) hx hnx hroom (fun L => rfl) (fun L => rfl) (fun L => rfl) (fun L => rfl) (fun L => rfl) hq
theorem err_badGraph (T : PySem.GEn.SupTxt P K mg C fI cc cda) (lk : K.lookup fI = some ⟨oc, od, .func (PySem.W.ksFn "__init__" "BadGraph.__init__" (defArgs sBadGraphInit) (defBody sBadGraphInit) (defScope sBadGraphInit) .none kV doc pm an (.ref cda) ct cc), osl⟩) (hcd : PySem.W.codeIn K (.ref cda) "BadGraph.__init__" = true) (no1 : PySem.W.findIn K (.ref C) "number" = some none) (no2 : PySem.W.findIn K (.ref C) "reason" = some none) (gC : mg "BadGraph" = some (.ref C)) : Err2 P K mg "BadGraph" "number" "reason" C := by
  refine ⟨fun {X} e1 e2 e3 {k} hr {p ρ ρ1 d1 d2 x1 x2 pp pos} ha hg hdb he hpl => ?_⟩
  subst e1 e2 e3
  refine pmk_sup (mA := fun us z => if z = "reason" then us[1]? else if z = "number" then us[0]? else none) T gC hr (by decide) (fun vs us r hl f => ?_) (fun us hp g d t os h0 e t0 A' R' => badGraphI T lk hcd no1 no2 us hp g d t os h0 e t0 A' R') ha hg hdb he hpl
  match vs, us, r, hl with
  | [a, b], [u, v], .cons ra (.cons rb .nil), _ => exact relO2 (by decide) ra rb f
end
end G

set_option Elab.async false
set_option maxRecDepth 100000
set_option maxHeartbeats 4000000
set_option linter.all false
namespace G
open PySem L2 PyProof.Rows
local macro_rules | `(tactic| walk_at "rho") => `(tactic| (show (_ : List Slot) = _; (try dsimp only [List.set_cons_succ, List.set_cons_zero, List.map_cons, List.map_nil, List.cons_append, List.nil_append, relend, unR]); all_goals exact rfl))
def strO : Option Str → D
  | some s => .str s
  | none => .non
theorem faultS_no {n : Nat} {x : D} (h : pairOf x = none) : faultS n x = some ("pair" : Str) := by unfold faultS; rw [h]
theorem faultS_yes {n : Nat} {x : D} {i j : Int} (h : pairOf x = some (i, j)) : faultS n x = if 0 ≤ i ∧ i ≤ j ∧ j < (n : Int) then none else some ("place" : Str) := by unfold faultS; rw [h]
theorem pairOf_row (b : Bool) (l : List D) : pairOf (rowD b l) = pairL l := by unfold pairOf; rw [row_rowD]; rfl
theorem two_of {l : List D} (h : l.length = 2) : ∃ x y, l = [x, y] := by
  match l, h with
  | [x, y], _ => exact ⟨x, y, rfl⟩
def CFaultX : CP := fun ds R => ∃ (n : Nat) (x : D), ds = [x, .int (n : Nat)] ∧ x.plain = true ∧ (∀ m, x.row? = some m → m.length < 16777216 ∧ ∀ z ∈ m, z.plain = true) ∧ R (strO (faultS n x))
section
variable {P : Program} {w : World} {K : PySem.W.Frag} {mg : Str → Option Value} {base : Heap} {f f1 f2 f3 f4 f5 : Addr} {fd fd2 fd3 fd4 fd5 : FuncData} {Cl CB : Addr}
theorem ok_faultX (F : Df K mg "edge_fault" "edge_fault" sEdgeFault ["edge", "n"] f fd) (F2 : Df K mg "is_whole" "is_whole" sIsWhole ["value"] f2 fd2) (T : Bn mg) : FnOk P w K mg base CX0 2 f fd ["edge", "n"] (spP K CFaultX) := by
  have G2 : FnOk P w K mg base CX0 1 f2 fd2 ["value"] (spP K CWhole) := ok_isWhole F2 T
  refine fnP F.F scEdgeFault (fun ds R hC => ?_) (fun cdv A outer s H E ds R hr hC => ?_)
  · obtain ⟨n, x, rfl, _⟩ := hC; rfl
  · obtain ⟨n, x, rfl, hx, hrow, k⟩ := hC
    show ST _ _ [.fr x, .fr (.int (n : Nat)), .un] _
    rcases row_or hx with ⟨b, l, rfl⟩ | hno
    · obtain ⟨hl, hp⟩ := hrow l (row_rowD b l)
      refine st_if (et_w (ew_or (et_not (et_val (ev_isi2 (b := true) (ev_var 0) (rowD_plain b l) (kit_rowT b l) (kit_rowL b l) (by cases b <;> rfl) T.isinstance T.tuple (by decide +kernel) T.list (by decide +kernel)))) fun _ =>
        ew_or (q := false) (l := !(l.map fun d => d.whole).all id) (et_neI (ev_lenR (b := b) (ds := l) T.len (ev_var 0)) ev_int) fun h2 => ew_or1 (et_not (et_val (ev_allL (bs := l.map fun d => d.whole) rfl T.all (el_ofN (en_map (own := [("place", 2)]) (zs := (l.map fun d => d.whole).map D.bl) (it_row (b := b) (ds := l) (ev_var 0))
        ⟨scEdgeFault.nd, blkOk_by (N := nEdgeFault) (sc := defScope sEdgeFault) (by decide +kernel), rfl, hl, rfl, by rw [List.length_map, List.length_map], fun i d z hd hz => ?_⟩))))))) (fun h => ?_) (fun h => ?_)
      · rw [List.map_map] at hz
        obtain ⟨d', hd', rfl⟩ := map_get hz
        rw [hd] at hd'
        cases hd'
        exact ⟨_, _, _, fun _ _ _ _ _ => tg_name 2 scEdgeFault.nd, fun _ _ _ _ _ => ev_call G2 hr F2.g F2.F.kp F2.b (ea_cons (ev_var 2) ea_nil) ⟨d, rfl, hp d (List.mem_of_getElem? hd), rfl⟩, rfl⟩
      · have e : faultS n (rowD b l) = some ("pair" : Str) := by
          have h : (!true || (!decide ((l.length : Int) = 2) || !(l.map fun d => d.whole).all id)) = true := h
          refine faultS_no ?_
          rw [pairOf_row]
          by_cases h2 : l.length = 2
          · obtain ⟨x, y, rfl⟩ := two_of h2
            have e2 : (x.whole && y.whole) = false := by
              cases q : (x.whole && y.whole) with
              | false => rfl
              | true =>
                simp at q
                simp [q] at h
            exact pairL_whole.2 e2
          · exact pairL_len h2
        rw [e] at k
        exact st_ret ev_str k
      · have h : (!true || (!decide ((l.length : Int) = 2) || !(l.map fun d => d.whole).all id)) = false := h
        have h2 : l.length = 2 := by
          by_cases q : l.length = 2
          · exact q
          · rw [decide_eq_false (by omega)] at h; cases h
        obtain ⟨x, y, rfl⟩ := two_of h2
        · have e2 : (x.whole && y.whole) = true := by
            simpa using h
          obtain ⟨i, j, rfl, rfl⟩ := pairL_whole.1 e2
          have e0 : L2.atI [D.int i, D.int j] 0 = some (.int i) := rfl
          have e1 : L2.atI [D.int i, D.int j] 1 = some (.int j) := rfl
          have ef : faultS n (rowD b [.int i, .int j]) = if 0 ≤ i ∧ i ≤ j ∧ j < (n : Int) then none else some ("place" : Str) := faultS_yes (by rw [pairOf_row]; rfl)
          rw [ef] at k
          have tst : (decide ((0 : Int) ≤ i) && decide (i ≤ j) && decide (j < (n : Int))) = decide (0 ≤ i ∧ i ≤ j ∧ j < (n : Int)) := by
            rw [Bool.eq_iff_iff]; simp [and_assoc]
          refine st_nil (st_ret (ev_ifT (q := true) (ρ2 := [.fr (rowD b [.int i, .int j]), .fr (.int (n : Nat)), .un]) (et_is (et_chain3 op_le op_le op_lt vle vle vlt ev_int (ev_ixR (b := b) (ev_var 0) ev_int e0) (ev_ixR (b := b) (ev_var 0) ev_int e1) (ev_var 1)) tst) (fun h => ?_) (fun h => ?_)) k)
          · rw [if_pos (of_decide_eq_true h)]; exact ev_non
          · rw [if_neg (of_decide_eq_false h)]; exact ev_str
    · refine st_if (et_w (ew_or (q := true) (l := true) (et_not (et_val (ev_isi2 (b := false) (ev_var 0) hx (kit_norowT hno) (kit_norowL hno) rfl T.isinstance T.tuple (by decide +kernel) T.list (by decide +kernel)))) (fun h => nomatch h))) (fun _ => ?_) (fun h => nomatch h)
      have e : faultS n x = some ("pair" : Str) := faultS_no (by unfold pairOf; rw [row_norow hno]; rfl)
      rw [e] at k
      exact st_ret ev_str k
end
end G

set_option Elab.async false
set_option maxRecDepth 100000
set_option maxHeartbeats 2000000
set_option linter.all false
/-! G52: C(e, ..) that may raise. -/
namespace G
open PySem L2 PyProof.Rows
section
variable {X : Cx} {k : Nat} {f Cl : Addr} {fd : FuncData} {ps : List Str} {sp : Sp} {x : Str} {e : Expr} {es : List Expr} {t : TA} {pp pos : Pos} {E : L2.St → XK}
/-- the making, its errors told by the slots -/
def tMkQ (C : Addr) (sp : Sp) (E : L2.St → XK) (t : TA) : TE := fun σ H Q => t σ H fun vs H1 => ∀ x dx, H1 x = none → H1 dx = none → dx ≠ x → sp (.ref x :: vs) (upd (upd H1 dx (.own x)) x (.ins C dx [])) (fun v H2 => v = .non ∧ Q (.ref x) H2) (E σ)
theorem pe_mkQ {CX : CXT} (M : Mk X.K Cl f) (F : FnOk X.prog X.w X.K X.mg X.base CX k f fd ps sp) (hr : Room (k + 1) X.A) (hg : Gl X x) (hm : X.mg x = some (.ref Cl)) (hb : Binds X.K fd ps []) (hx : ∀ σ, PassesAt CX X σ (E σ))
    (ha : PA X (e :: es) t) (hdb : (x == ("__debug__" : Str)) = false := by decide) (he : starEach (e :: es) X.env = (false, eval e X.env) :: starEach es X.env := by rfl) (hpl : (backTo pos (starEach es X.env)).any (·.1) = false := by rfl) :
    PE X (.Call (.Name x pp) (e :: es) [] pos) (tMkQ Cl sp E t) := by
  refine ⟨fun pins s σ H Q I h => wpAny_Call_Name_kw (ld_glob I hg hm ?_ hdb)⟩
  refine PySem.W.callWith_K (h₀ := X.base) I.ok.mod.kin M.kp (thn (ha.run pos pins s σ H _ I h) fun us s1 ⟨vs, H1, I1, r, q⟩ => ⟨I1.kIn, ?_⟩) he hpl
  have new := q (s1.heap.objs.size + 1) s1.heap.objs.size (I1.hok.fresh (Nat.le_succ _)) (I1.hok.fresh (Nat.le_refl _)) (Nat.ne_of_lt (Nat.lt_succ_self _))
  have I2 := Inv.made (C := Cl) I1
  have len := F.len _ _ _ _ new
  have l1 : (Value.ref (s1.heap.objs.size + 1) :: us).length = ps.length := by rw [List.length_cons, ← r.length]; exact len
  have bs := hb _ (Value.ref (s1.heap.objs.size + 1) :: us) I2.kIn (by rw [List.append_nil]; exact l1)
  rw [List.append_nil] at bs
  refine wpAny_call (make_map (f := f) I1.kIn M.makes M.init (beq_iff_eq.mp M.fn) (codeAny_mono (F.run _ X.stack _ _ ⟨Value.ref (s1.heap.objs.size + 1) :: us, []⟩ (Value.ref (s1.heap.objs.size + 1) :: us) (V.ref (s1.heap.objs.size + 1) :: vs) _ (E σ) (hr.make Cl us [])
    (I2.env0.make Cl us []) bs (.cons rfl r) new) fun fl s' done => ?_))
  match fl, done with
  | .error e, done => exact hx σ pins _ _ e s' I2 done
  | .ok (.ret u), done =>
    obtain ⟨v, H', I3, rv, ev, q3⟩ := I2.after done
    subst ev
    exact ⟨rv, ⟨V.ref (s1.heap.objs.size + 1), H', I3, rfl, q3⟩⟩
  | .ok .next, done => exact False.elim done
  | .ok .brk, done => exact False.elim done
  | .ok .cont, done => exact False.elim done
/-- C(e, ..), __init__ may raise -/
theorem qe_make {W : WX} {ρ : Rho} {P : D → Rho → Prop} {PX : Value → Option (List (Str × D)) → Rho → Prop} {C : CO} (M : Mk X.K Cl f) (F : FnOk X.prog X.w X.K X.mg X.base (L2.CX X.prog X.w) k f fd ps (spO X.K Cl C)) (hr : Room (k + 1) X.A) (hm : X.mg x = some (.ref Cl)) (hb : Binds X.K fd ps [])
    (tk : Takes X W) (ha : WA X (e :: es) ρ (fun ds r => C ds (fun fs => P (.ins Cl fs) r) (fun cls pay => PX cls pay r)))
    (hg : Gl X x := by rfl) (hdb : (x == ("__debug__" : Str)) = false := by decide) (he : starEach (e :: es) X.env = (false, eval e X.env) :: starEach es X.env := by rfl) (hpl : (backTo pos (starEach es X.env)).any (·.1) = false := by rfl) :
    QE X W (.Call (.Name x pp) (e :: es) [] pos) ρ P PX :=
  PE.imp (pe_mkQ M F hr hg hm hb (passAt tk) ha hdb he hpl) fun σ H QV ⟨w, B, R, kk, kx⟩ => ⟨w, B, R, fun B1 H1 vs ds r hC R1 s1 r1 => fun y dy h1 h2 ne => by
    have e1 : Same B1 (upd (upd H1 dy (.own y)) y (.ins Cl dy [])) := fun a o q => by
      have hq := R1.ext a o q
      rw [upd_ne (ne_of_none hq h1), upd_ne (ne_of_none hq h2)]
      exact hq
    refine ⟨B1, y, vs, dy, ds, _, _, rfl, hC, e1, r1, upd_same, R1.ext.free h1, fun B' H' dx' ws fs g hx rf hR => ⟨rfl, ?_⟩, fun B' H' cls pay d g hX po => ?_⟩
    · have G0 := grow_made R1.ext h1 h2 g hx
      exact kk _ H' (.ref y) (.ins Cl fs) r hR (R1.grow G0) (s1.add G0) (.ins upd_same (rf.mono (Grow.freezeB g.na)))
    · have old : ∀ a o, H1 a = some o → a ≠ y ∧ (upd (upd H1 dy (.own y)) y (.ins Cl dy [])) a = some o := fun a o q => by
        have n1 := ne_of_none q h1
        exact ⟨n1, by rw [upd_ne n1, upd_ne (ne_of_none q h2)]; exact q⟩
      have G0 : Grow B1 H1 B' H' := ⟨g.b, fun a o q => g.fr a o (old a o q).2 (old a o q).1, g.ext, fun a o q => by
        rcases g.new a o q with z | z
        · exact .inl z
        · refine .inr ?_
          cases hq : H1 a with
          | none => rfl
          | some u => rw [(old a u hq).2] at z; cases z⟩
      exact kx B' H' cls pay d r hX (R1.grow G0) (s1.b.trans g.b) po⟩
end
end G

set_option Elab.async false
set_option maxRecDepth 100000
set_option maxHeartbeats 4000000
set_option linter.all false
namespace G
open PySem L2 PyProof.Rows
local macro_rules | `(tactic| walk_at "rho") => `(tactic| (show (_ : List Slot) = _; (try dsimp only [List.set_cons_succ, List.set_cons_zero, List.map_cons, List.map_nil, List.cons_append, List.nil_append, relend, unR]); all_goals exact rfl))
theorem it_enumRow {X : Cx} {e : Expr} {p : Bool} {ρ ρ1 : Rho} {ds : List D} {b : Bool} {pos pp tpos : Pos} {elts : List Expr} {kk : Nat} (h : EV X e p ρ (rowD b ds) ρ1) (hm : X.mg "enumerate" = none) (hg : Gl X "enumerate" := by rfl) (hs : starEach [e] X.env = [(false, eval e X.env)] := by rfl) :
    ITR X (.Tuple elts kk tpos) (.Call (.Name "enumerate" pp) [e] [] pos) p ρ (ds.zipIdx.map fun x => .tup [.int (x.2 : Nat), x.1]) ρ1 := by
  cases b with
  | true => exact it_enumT h hm hg hs
  | false => exact it_enum h hm hg hs
def errB (CB : Addr) (RX : Value → Option (List (Str × D)) → Prop) (q : D × Str) : Prop := RX (.ref CB) (some [(("number" : Str), q.1), (("reason" : Str), .str q.2)])
def CInitX (CB : Addr) : CO := fun ds R RX => ∃ nD eD : D, ds = [nD, eD] ∧ nD.plain = true ∧ Two eD ∧ (∀ q, initR nD eD = .error q → errB CB RX q) ∧ ∀ n d es, initR nD eD = .ok (n, d, es) → R (graphF n d es)
theorem initR_no {nD eD : D} (h : ∀ m : Int, nD = .int m → ¬ (1 ≤ m ∧ m ≤ 64)) : initR nD eD = .error (.non, "places") := by
  cases nD with
  | int m => exact if_neg (h m rfl)
  | _ => rfl
theorem initR_in {m : Int} {eD : D} (h : 1 ≤ m ∧ m ≤ 64) : initR (.int m) eD = edgesR m.toNat eD := if_pos h
theorem edgesR_row {n : Nat} {b : Bool} {l : List D} : edgesR n (rowD b l) = rowsR n l := by unfold edgesR; rw [row_rowD]
theorem edgesR_no {n : Nat} {x : D} (h : x.norow = true) : edgesR n x = .error (.non, "count") := by unfold edgesR; rw [row_norow h]
theorem rowsR_many {n : Nat} {l : List D} (h : 4096 < l.length) : rowsR n l = .error (.non, "count") := if_pos h
theorem rowsR_bad {n k : Nat} {s : Str} {l : List D} (h : ¬ 4096 < l.length) (hf : firstF n l 0 = some (k, s)) : rowsR n l = .error (.int (k : Nat), s) := by unfold rowsR; rw [if_neg h, hf]
theorem rowsR_ok {n : Nat} {l : List D} (h : ¬ 4096 < l.length) (hf : firstF n l 0 = none) : rowsR n l = degR n (l.map edgeN) := by unfold rowsR; rw [if_neg h, hf]
theorem degR_odd {n p : Nat} {es : Edges} (h : oddAt (endsOf n es) = some p) : degR n es = .error (.int (p : Nat), "degree") := by unfold degR; rw [h]
theorem degR_many {n : Nat} {es : Edges} (h : oddAt (endsOf n es) = none) (hd : 64 < (endsOf n es).getD 0 0) : degR n es = .error (.non, "degree") := by unfold degR; rw [h]; exact if_pos hd
theorem degR_ok {n : Nat} {es : Edges} (h : oddAt (endsOf n es) = none) (hd : ¬ 64 < (endsOf n es).getD 0 0) : degR n es = .ok (n, (endsOf n es).getD 0 0, es) := by unfold degR; rw [h]; exact if_neg hd
section
variable {P : Program} {w : World} {K : PySem.W.Frag} {mg : Str → Option Value} {base : Heap} {f f1 f2 f3 f4 f5 : Addr} {fd fd2 fd3 fd4 fd5 : FuncData} {Cl CB : Addr}
theorem ok_initX (F : Fun K "__init__" "Graph.__init__" sGraphInit f fd) (GC : GCls K mg Cl f) (F2 : Df K mg "is_whole" "is_whole" sIsWhole ["value"] f2 fd2) (F3 : Df K mg "edge_fault" "edge_fault" sEdgeFault ["edge", "n"] f3 fd3) (F4 : Df K mg "ends_of" "ends_of" sEndsOf ["n", "edges"] f4 fd4) (F5 : Df K mg "table_of" "table_of" sTableOf ["n", "edges"] f5 fd5)
    (i1 : GInt mg "MOST_PLACES" 64) (i2 : GInt mg "MOST_DEGREE" 64) (i3 : GInt mg "MOST_EDGES" 4096) (EB : Err2 P K mg "BadGraph" "number" "reason" CB) (T : Bn mg) : FnOk P w K mg base (L2.CX P w) 3 f fd ["self", "n", "edges"] (spO K Cl (CInitX CB)) := by
  have G2 : FnOk P w K mg base CX0 1 f2 fd2 ["value"] (spP K CWhole) := ok_isWhole F2 T
  have G3 : FnOk P w K mg base CX0 2 f3 fd3 ["edge", "n"] (spP K CFaultX) := ok_faultX F3 F2 T
  have G4 : FnOk P w K mg base CX0 1 f4 fd4 ["n", "edges"] (spP K CEnds) := ok_endsOf F4 T
  have G5 : FnOk P w K mg base CX0 1 f5 fd5 ["n", "edges"] (spP K CTab) := ok_TableOf F5 T
  refine fnO F scGraphInit (fun ds R RX hC => ?_) (fun cdv A outer s H E a ds R RX hr hC => ?_)
  · obtain ⟨nD, eD, rfl, _⟩ := hC; rfl
  · obtain ⟨nD, eD, rfl, hn0, he0, kx, k⟩ := hC
    have r1 := hr.mono (show 1 ≤ 2 by omega)
    have tk : Takes _ _ := takes_of (X := cxOf (L2.CX P w) P w K mg base nGraphInit "Graph.__init__" (defScope sGraphInit) f cdv A outer s H E) rfl rfl rfl rfl
    have pay : ∀ (B : Hp) (x : D) (r : Str) vs, Reps K B vs [x, .str r] → RepF K B [(("number" : Str), vs.getD 0 .non), (("reason" : Str), vs.getD 1 .non)] [(("number" : Str), x), (("reason" : Str), .str r)] := fun B x r vs h => by
      cases h with
      | cons r1 rr =>
        cases rr with
        | cons r2 rr => cases rr; exact .cons r1 (.cons r2 .nil)
    show ST _ _ [.pr a (.ob Cl []), .fr nD, .fr eD, .un, .un, .un, .un, .un] _
    by_cases hw : nD.whole = true
    · obtain ⟨m, rfl⟩ := whole_int hw
      refine st_if (et_w (ew_or (et_not (et_val (ev_call G2 r1 F2.g F2.F.kp F2.b (ea_cons (ev_var 1) ea_nil) ⟨_, rfl, rfl, rfl⟩))) fun _ => ew_or1 (et_not (et_chain op_le op_le vle vle ev_int (ev_var 1) (ev_gint i1))))) (fun h => ?_) (fun h => ?_)
      · refine st_raiseS (fsD := [(("number" : Str), D.non), (("reason" : Str), .str "places")]) tk (EB.made rfl rfl rfl hr (ea_cons ev_non (ea_cons ev_str ea_nil)) rfl (by decide) rfl rfl) rfl (fun B vs r => pay B _ _ vs r) ⟨⟨_, rfl⟩, kx _ (initR_no fun m' e => ?_)⟩
        cases e
        have h : (!true || !(decide ((1 : Int) ≤ m) && decide (m ≤ 64))) = true := h
        rintro ⟨q1, q2⟩
        rw [decide_eq_true q1, decide_eq_true q2] at h
        cases h
      have hm : 1 ≤ m ∧ m ≤ 64 := by
        have h : (!true || !(decide ((1 : Int) ≤ m) && decide (m ≤ 64))) = false := h
        simpa using h
      rw [initR_in hm] at kx k
      obtain ⟨n, rfl⟩ : ∃ n : Nat, m = n := ⟨m.toNat, by omega⟩
      rw [Int.toNat_natCast] at kx k
      refine st_nil ?_
      rcases row_or he0.pl with ⟨b, l, rfl⟩ | hno
      · obtain ⟨hlen, hitems⟩ := he0.row l (row_rowD b l)
        rw [edgesR_row] at kx k
        refine st_if (et_w (ew_or (et_not (et_val (ev_isi2 (b := true) (ev_var 2) (rowD_plain b l) (kit_rowT b l) (kit_rowL b l) (by cases b <;> rfl) T.isinstance T.tuple (by decide +kernel) T.list (by decide +kernel)))) fun _ => ew_or1 (et_gt (ev_lenR (b := b) (ds := l) T.len (ev_var 2)) (ev_gint i3)))) (fun h => ?_) (fun h => ?_)
        · have h : (!true || decide ((4096 : Int) < (l.length : Nat))) = true := h
          exact st_raiseS (fsD := [(("number" : Str), D.non), (("reason" : Str), .str "count")]) tk (EB.made rfl rfl rfl hr (ea_cons ev_non (ea_cons ev_str ea_nil)) rfl (by decide) rfl rfl) rfl (fun B vs r => pay B _ _ vs r) ⟨⟨_, rfl⟩, kx _ (rowsR_many (by simp at h; omega))⟩
        have hl : ¬ 4096 < l.length := by
          have h : (!true || decide ((4096 : Int) < (l.length : Nat))) = false := h
          simp at h
          omega
        refine st_nil ?_
        refine st_cons (M := fun r => firstF n l 0 = none ∧ ∃ s3 s4 s5, r = [.pr a (.ob Cl []), .fr (.int (n : Nat)), .fr (rowD b l), s3, s4, s5, .un, .un])
          (s_for (js := [3, 4]) (fun i r => (∀ j y, j < i → l[j]? = some y → faultS n y = none) ∧ ∃ s3 s4 s5, r = [.pr a (.ob Cl []), .fr (.int (n : Nat)), .fr (rowD b l), s3, s4, s5, .un, .un]) (it_enumRow (b := b) (ds := l) (ev_var 2) T.enumerate) ⟨fun j y hj => absurd hj (Nat.not_lt_zero _), .un, .un, .un, rfl⟩ (fun i x r hx hI => ?_) (fun r hI => ?_)) ?_
        · obtain ⟨hall, s3, s4, s5, rfl⟩ := hI
          obtain ⟨⟨x, j⟩, h1, rfl⟩ := map_get hx
          have hj : l[i]? = some x ∧ j = i := by
            rw [List.getElem?_zipIdx] at h1
            cases e : l[i]? with
            | none => rw [e] at h1; cases h1
            | some u => rw [e] at h1; simp at h1; exact ⟨by rw [h1.1], h1.2.symm⟩
          obtain ⟨hx0, rfl⟩ := hj
          obtain ⟨px, rx⟩ := hitems x (List.mem_of_getElem? hx0)
          refine ⟨_, tg_tup2 (tg_name 3 scGraphInit.nd) (tg_name 4 scGraphInit.nd), ?_⟩
          refine st_to (ρ2 := [.pr a (.ob Cl []), .fr (.int (n : Nat)), .fr (rowD b l), .fr (.int (j : Nat)), .fr x, .fr (strO (faultS n x)), .un, .un]) (s_asg (i := 5) (ev_call G3 hr F3.g F3.F.kp F3.b (ea_cons (ev_var 4) (ea_cons (ev_var 1) ea_nil)) ⟨n, x, rfl, px, rx, rfl⟩) scGraphInit.nd (by walk_at "rho")) ?_
          cases hf : faultS n x with
          | none =>
            refine st_if (et_notN (x := .non) (ev_var 5)) (fun h => nomatch h) (fun _ => st_nil (st_nil ⟨fun j' y hj' hy => ?_, .fr (.int (j : Nat)), .fr x, .fr .non, rfl⟩))
            by_cases e : j' = j
            · subst e; rw [hx0] at hy; cases hy; exact hf
            · exact hall j' y (by omega) hy
          | some t =>
            refine st_if (et_notN (x := .str t) (ev_var 5)) (fun _ => ?_) (fun h => nomatch h)
            have q := firstF_at (n := n) (k := 0) hall hx0 hf
            rw [Nat.zero_add] at q
            exact st_raiseS (fsD := [(("number" : Str), D.int (j : Nat)), (("reason" : Str), .str t)]) tk (EB.made rfl rfl rfl hr (ea_cons (ev_var 3) (ea_cons (ev_var 5) ea_nil)) rfl (by decide) rfl rfl) rfl (fun B vs r => pay B _ _ vs r) ⟨⟨_, rfl⟩, kx _ (rowsR_bad hl q)⟩
        · obtain ⟨hall, s3, s4, s5, rfl⟩ := hI
          rw [List.length_map, List.length_zipIdx] at hall
          exact ⟨firstF_all fun y hy => by
            obtain ⟨j, hj⟩ := List.mem_iff_getElem?.mp hy
            exact hall j y (List.getElem?_eq_some_iff.mp hj).1 hj, s3, s4, s5, rfl⟩
        rintro _ ⟨hff, s3, s4, s5, rfl⟩
        rw [rowsR_ok hl hff] at kx k
        have good : ∀ x ∈ l, ∃ (b : Bool) (e : Nat × Nat), x = rowD b [.int (e.1 : Nat), .int (e.2 : Nat)] ∧ edgeN x = e ∧ e.1 ≤ e.2 ∧ e.2 < n := fun x hx => faultS_none (firstF_none hff x hx)
        generalize hes : l.map edgeN = es at *
        have hok : EdgeOk n es := fun e he => by
          rw [← hes] at he
          obtain ⟨x, hx, rfl⟩ := List.mem_map.mp he
          obtain ⟨_, e, _, rfl, h1, h2⟩ := good x hx
          exact ⟨h1, h2⟩
        have hes2 : ∀ x ∈ sortE es, x.1 ≤ x.2 ∧ x.2 < n := fun x hx => hok x ((sortE_perm es).mem_iff.mp hx)
        have hn1 : 1 ≤ n := by omega
        have hn : n ≤ 64 := by omega
        have hel : es.length = l.length := by rw [← hes, List.length_map]
        have e0 : endsOf n (sortE es) = endsOf n es := endsOf_perm hes2 (sortE_perm es)
        have len : (endsOf n es).length = n := endsOf_len n es
        generalize hE : endsOf n es = ends at *
        have at1 : ∀ p, p < n → L2.atI (natsD ends) (p : Int) = some (.int ((ends.getD p 0 : Nat) : Nat)) := fun p hp => at_nats ends p (by omega)
        refine st_to (s_fld 0 (ev_var 1) GC.c GC.n rfl (by walk_at "rho")) ?_
        refine st_un 4 ?_
        refine st_to (ρ2 := [.pr a (.ob Cl [("n", .int (n : Nat)), ("edges", .tup (edgesD (sortE es)))]), .fr (.int (n : Nat)), .fr (rowD b l), s3, .un, s5, .un, .un]) (s_fld 0 (ev_is (ev_tupleL T.tuple (el_ofN (en_sortP (es := es.map toI) T.sorted (el_ofN (en_map (own := [("edge", 4)]) (zs := (es.map toI).map pairD) (it_row (b := b) (ds := l) (ev_var 2)) ⟨scGraphInit.nd, blkOk_by (N := nGraphInit) (sc := defScope sGraphInit) (by decide +kernel), rfl, ?_, rfl, ?_, fun i x z hx hz => ?_⟩))))) (d' := .tup (edgesD (sortE es))) ?_) GC.c GC.edges rfl ?_ (by show 1 < 1000; decide)) ?_
        · omega
        · rw [List.length_map, List.length_map, hel]
        · rw [List.map_map] at hz
          obtain ⟨e, he, rfl⟩ := map_get hz
          rw [← hes, List.getElem?_map, hx] at he
          cases he
          obtain ⟨b', e, rfl, h1, _⟩ := good x (List.mem_of_getElem? hx)
          refine ⟨_, _, _, fun _ _ _ _ _ => tg_name 4 scGraphInit.nd, fun _ _ _ _ _ => ev_is (ev_tupleR (b := b') (ds := [.int (e.1 : Nat), .int (e.2 : Nat)]) T.tuple (ev_var 4)) ?_, rfl⟩
          rw [h1]
          rfl
        · rw [sort_edges]
        · rfl
        refine st_to (ρ2 := [.pr a (.ob Cl [("n", .int (n : Nat)), ("edges", .tup (edgesD (sortE es)))]), .fr (.int (n : Nat)), .fr (rowD b l), s3, .un, s5, .fr (.lst (natsD ends)), .un]) (s_asg (i := 6) (ev_is (ev_call G4 r1 F4.g F4.F.kp F4.b (ea_cons (ev_var 1) (ea_cons (ev_fldO 0 GC.c GC.edges rfl) ea_nil)) ⟨n, sortE es, rfl, hn, hes2, rfl⟩) (by rw [e0])) scGraphInit.nd (by walk_at "rho")) ?_
        refine st_cons (M := fun r => oddAt ends = none ∧ ∃ s7, r = [.pr a (.ob Cl [("n", .int (n : Nat)), ("edges", .tup (edgesD (sortE es)))]), .fr (.int (n : Nat)), .fr (rowD b l), s3, .un, s5, .fr (.lst (natsD ends)), s7])
          (s_for (js := [7]) (fun i r => (∀ j, j < i → ends.getD j 0 = ends.getD 0 0) ∧ ∃ s7, r = [.pr a (.ob Cl [("n", .int (n : Nat)), ("edges", .tup (edgesD (sortE es)))]), .fr (.int (n : Nat)), .fr (rowD b l), s3, .un, s5, .fr (.lst (natsD ends)), s7]) (it_range (n := ((n : Nat) : Int)) (ev_var 1) T.range (by omega) (by omega)) ⟨fun j hj => absurd hj (Nat.not_lt_zero _), .un, rfl⟩ (fun i x r hx hI => ?_) (fun r hI => ?_)) ?_
        · obtain ⟨hall, s7, rfl⟩ := hI
          obtain ⟨hi, rfl⟩ := rgD_get hx
          have hi : i < n := by simpa using hi
          refine ⟨_, tg_name 7 scGraphInit.nd, ?_⟩
          refine st_if (et_neI (ev_ixF (ev_var 6) (ev_var 7) (by rw [Int.zero_add]; exact at1 i hi)) (ev_ixF (ev_var 6) ev_int (at1 0 (by omega)))) (fun h => ?_) (fun h => ?_)
          · have ne : ends.getD i 0 ≠ ends.getD 0 0 := fun e => by rw [e] at h; simp at h
            have q := degR_odd (n := n) (es := es) (by rw [hE]; exact oddAt_some (by omega) ne hall)
            exact st_raiseS (fsD := [(("number" : Str), D.int (0 + (i : Nat))), (("reason" : Str), .str "degree")]) tk (EB.made rfl rfl rfl hr (ea_cons (ev_var 7) (ea_cons ev_str ea_nil)) rfl (by decide) rfl rfl) rfl (fun B vs r => pay B _ _ vs r) ⟨⟨_, rfl⟩, by rw [Int.zero_add]; exact kx _ q⟩
          · have eq : ends.getD i 0 = ends.getD 0 0 := by
              by_cases q : ends.getD i 0 = ends.getD 0 0
              · exact q
              · rw [decide_eq_false (by omega)] at h; cases h
            refine st_nil (st_nil ⟨fun j hj => ?_, .fr (.int (0 + (i : Nat))), rfl⟩)
            by_cases e : j = i
            · rw [e]; exact eq
            · exact hall j (by omega)
        · obtain ⟨hall, s7, rfl⟩ := hI
          rw [rgD_len] at hall
          exact ⟨oddAt_none fun j hj => hall j (by rw [len] at hj; simpa using hj), s7, rfl⟩
        rintro _ ⟨hodd, s7, rfl⟩
        have hodd : oddAt (endsOf n es) = none := by rw [hE]; exact hodd
        refine st_if (et_gt (ev_ixF (ev_var 6) ev_int (at1 0 (by omega))) (ev_gint i2)) (fun h => ?_) (fun h => ?_)
        · have h := of_decide_eq_true h
          exact st_raiseS (fsD := [(("number" : Str), D.non), (("reason" : Str), .str "degree")]) tk (EB.made rfl rfl rfl hr (ea_cons ev_non (ea_cons ev_str ea_nil)) rfl (by decide) rfl rfl) rfl (fun B vs r => pay B _ _ vs r) ⟨⟨_, rfl⟩, kx _ (degR_many hodd (by rw [hE]; omega))⟩
        have h := of_decide_eq_false h
        have k := k n (ends.getD 0 0) es (by rw [degR_ok hodd (by rw [hE]; omega), hE])
        refine st_nil ?_
        refine st_to (s_fld 0 (ev_ixF (ev_var 6) ev_int (at1 0 (by omega))) GC.c GC.degree rfl (by walk_at "rho") (by show 2 < 1000; decide)) ?_
        refine st_to (s_fld 0 (ev_call G5 r1 F5.g F5.F.kp F5.b (ea_cons (ev_var 1) (ea_cons (ev_fldO 0 GC.c GC.edges rfl) ea_nil)) ⟨n, sortE es, rfl, hn, hes2, rfl⟩) GC.c GC.table rfl (by walk_at "rho") (by show 3 < 1000; decide)) ?_
        exact st_one (M := fun _ => True) (s_fld 0 ev_dict0 GC.c GC.kept rfl ⟨_, rfl, k⟩ (by show 4 < 1000; decide))
      · rw [edgesR_no hno] at kx
        refine st_if (et_w (ew_or (q := true) (l := true) (et_not (et_val (ev_isi2 (b := false) (ev_var 2) he0.pl (kit_norowT hno) (kit_norowL hno) rfl T.isinstance T.tuple (by decide +kernel) T.list (by decide +kernel)))) (fun h => nomatch h))) (fun _ => ?_) (fun h => nomatch h)
        exact st_raiseS (fsD := [(("number" : Str), D.non), (("reason" : Str), .str "count")]) tk (EB.made rfl rfl rfl hr (ea_cons ev_non (ea_cons ev_str ea_nil)) rfl (by decide) rfl rfl) rfl (fun B vs r => pay B _ _ vs r) ⟨⟨_, rfl⟩, kx _ rfl⟩
    · have hw : nD.whole = false := by simpa using hw
      refine st_if (et_w (ew_or (q := true) (l := true) (et_not (et_val (ev_call G2 r1 F2.g F2.F.kp F2.b (ea_cons (ev_var 1) ea_nil) ⟨_, rfl, hn0, rfl⟩))) fun h => by rw [hw] at h; cases h)) (fun h => ?_) (fun h => by rw [hw] at h; cases h)
      exact st_raiseS (fsD := [(("number" : Str), D.non), (("reason" : Str), .str "places")]) tk (EB.made rfl rfl rfl hr (ea_cons ev_non (ea_cons ev_str ea_nil)) rfl (by decide) rfl rfl) rfl (fun B vs r => pay B _ _ vs r) ⟨⟨_, rfl⟩, kx _ (initR_no fun m e => by rw [e] at hw; cases hw)⟩
end
end G

set_option Elab.async false
set_option maxRecDepth 100000
set_option maxHeartbeats 4000000
set_option linter.all false
namespace G
open PySem L2 PyProof.Rows
section
variable {P : Program} {w : World} {K : PySem.W.Frag} {mg : Str → Option Value} {base : Heap} {C fI cc cda : Addr} {oc kV doc pm ct : Value} {od an : Option Addr} {osl : Array (Option Value)}
theorem noPlaceS (lk : K.lookup fI = some ⟨oc, od, .func (PySem.W.ksFn "__init__" "NoPlace.__init__" (defArgs sNoPlaceInit) (defBody sNoPlaceInit) (defScope sNoPlaceInit) .none kV doc pm an (.ref cda) ct cc), osl⟩) (hcd : PySem.W.codeIn K (.ref cda) "NoPlace.__init__" = true) (no : PySem.W.findIn K (.ref C) "place" = some none) :
    PySem.GEn.InitS K C fI cc cda ["place"] (PySem.W.ksFn "__init__" "NoPlace.__init__" (defArgs sNoPlaceInit) (defBody sNoPlaceInit) (defScope sNoPlaceInit) .none kV doc pm an (.ref cda) ct cc) "NoPlace.__init__" (defScope sNoPlaceInit) (defBody sNoPlaceInit) where
  lk := ⟨_, _, _, lk⟩
  hb := rfl
  env := fun L => rfl
  cd := hcd
  bind := fun s us hl => match us, hl with | [_, _], _ => .of_eq rfl
  ar := ⟨_, rfl, rfl⟩
  sc := rfl
  ks := rfl
  kc := rfl
  ls := rfl
  ly := fun y hy => by
    obtain rfl : y = "place" := by simpa using hy
    rfl
  nc := by decide +kernel
  co := rfl
  gen := rfl
  kind := rfl
  no := fun y hy => by
    obtain rfl : y = "place" := by simpa using hy
    exact no
  db := fun y hy => by
    obtain rfl : y = "place" := by simpa using hy
    decide
theorem noPlaceI (T : PySem.GEn.SupTxt P K mg C fI cc cda) (lk : K.lookup fI = some ⟨oc, od, .func (PySem.W.ksFn "__init__" "NoPlace.__init__" (defArgs sNoPlaceInit) (defBody sNoPlaceInit) (defScope sNoPlaceInit) .none kV doc pm an (.ref cda) ct cc), osl⟩) (hcd : PySem.W.codeIn K (.ref cda) "NoPlace.__init__" = true) (no : PySem.W.findIn K (.ref C) "place" = some none)
    (us : List Value) (hp : Heap) (g : Array GenState) (d : Drawn) (t : Nat) (os : OsState) (h0 : Heap) (e t0 : Addr) (A' : Around) (R' : Result → Shared → Prop) (hl : us.length = 1) (X : K.In h0) (hlim : h0.NoLimit) (hg : h0.Ns mainGlobals mg) (hb : ∃ mb, h0.Ns builtinsNs mb ∧ ∀ x : Str, x ≠ "__name__" → mb x = bootBuiltins x) (hx : h0.get? e = some (PySem.HandSPX.excO C t0)) (hnx : K.lookup e = none) (hroom : A'.depth < recursionLimit)
    (hq : ∀ h' tk dx t1, PySem.GEn.SupEnd h0 h' e C dx t1 (fun z => if z = "place" then us[0]? else none) → R' (.ok (.ret .none)) ⟨h', g, d, tk, os⟩) : codeAny (model P w) A' (.call (.ref fI) ⟨.ref e :: us, []⟩) R' ⟨h0, g, d, t, os⟩ := by
  obtain ⟨mb, hb1, hb2⟩ := hb
  match us, hl with
  | [v], _ => exact PySem.GEn.init1 (y := "place") (by decide) T (noPlaceS lk hcd no) X hlim hg hb1 (hb2 _ (by decide)) hx hnx hroom (fun L => rfl) (fun L => rfl) (fun L => rfl) (fun L => rfl) hq
theorem err_noPlace (T : PySem.GEn.SupTxt P K mg C fI cc cda) (lk : K.lookup fI = some ⟨oc, od, .func (PySem.W.ksFn "__init__" "NoPlace.__init__" (defArgs sNoPlaceInit) (defBody sNoPlaceInit) (defScope sNoPlaceInit) .none kV doc pm an (.ref cda) ct cc), osl⟩) (hcd : PySem.W.codeIn K (.ref cda) "NoPlace.__init__" = true) (no : PySem.W.findIn K (.ref C) "place" = some none) (gC : mg "NoPlace" = some (.ref C)) : Err1 P K mg "NoPlace" "place" C := by
  refine ⟨fun {X} e1 e2 e3 {k} hr {p ρ ρ1 d e pp pos} ha hg hdb he hpl => ?_⟩
  subst e1 e2 e3
  refine pmk_sup (mA := fun us z => if z = "place" then us[0]? else none) T gC hr (by decide) (fun vs us r hl f => ?_) (fun us hp g d t os h0 e t0 A' R' => noPlaceI T lk hcd no us hp g d t os h0 e t0 A' R') ha hg hdb he hpl
  match vs, us, r with
  | [v], [u], .cons r .nil => exact relO1 r f
  | [], _, _ => simp at hl
  | _ :: _ :: _, _, _ => simp at hl

end
end G

set_option Elab.async false
set_option maxRecDepth 100000
set_option maxHeartbeats 2000000
set_option linter.all false
/-! G42: != of rows of ints, < of tuples of ints, x.extend(e), t[k:]. -/
namespace G
open PySem L2 PyProof.Rows
section
variable {K : PySem.W.Frag} {B H : Hp}
theorem dp_ints : ∀ (ns : List Int), DpAll K H (ns.map V.int) (ns.map PyData.int)
  | [] => .nil
  | n :: ns => .cons (.int n) (dp_ints ns)
theorem eqv_ints : ∀ (ns ms : List Int), PyData.eqvAll (ns.map PyData.int) (ms.map PyData.int) = decide (ns = ms)
  | [], [] => by simp [PyData.eqvAll]
  | [], _ :: _ => by simp [PyData.eqvAll]
  | _ :: _, [] => by simp [PyData.eqvAll]
  | n :: ns, m :: ms => by
    rw [List.map_cons, List.map_cons]
    unfold PyData.eqvAll PyData.eqv
    rw [eqv_ints ns ms]
    by_cases h : n = m
    · subst h
      simp
    · simp [h]
theorem lay_ints : ∀ (ns : List Int), PyData.canLayAll0 (ns.map PyData.int) = true
  | [] => by simp [PyData.canLayAll0]
  | n :: ns => by
    rw [List.map_cons]
    unfold PyData.canLayAll0 PyData.canLay0
    rw [lay_ints ns]; rfl
theorem deep_ints : ∀ (ns : List Int), PyData.depthAll (ns.map PyData.int) = 0
  | [] => by simp [PyData.depthAll]
  | n :: ns => by
    rw [List.map_cons]
    unfold PyData.depthAll PyData.depth
    rw [deep_ints ns]; rfl
theorem shaped_ints (b : Bool) (ns : List Int) : SeqAt.shaped (if b then .tuple (ns.map .int) else .list (ns.map .int)) = true := by
  unfold SeqAt.shaped
  cases b with
  | true =>
    rw [if_pos rfl]
    unfold PyData.canLay0 PyData.depth
    rw [lay_ints, deep_ints]; rfl
  | false =>
    rw [if_neg (by simp)]
    unfold PyData.canLay0 PyData.depth
    rw [lay_ints, deep_ints]; rfl
/-- a tuple (b) or a list of ints -/
theorem dp_row {b : Bool} {v : V} {ns : List Int} (e : Same B H) (r : Rep K B v (rowD b (ns.map .int))) : Dp K H v (if b then .tuple (ns.map .int) else .list (ns.map .int)) := by
  cases b with
  | true =>
    have r : Rep K B v (.tup (ns.map .int)) := r
    cases r with
    | tup hb rs =>
      rw [rs.ints] at hb
      exact .tup (SqT.of (e _ _ hb)) (dp_ints ns)
  | false =>
    have r : Rep K B v (.lst (ns.map .int)) := r
    cases r with
    | lst hb rs =>
      rw [rs.ints] at hb
      exact .lst (SqL.of (e _ _ hb)) (dp_ints ns)
theorem vneR {b : Bool} {ns ms : List Int} : VOp K (rNeD K) (rowD b (ns.map .int)) (rowD b (ms.map .int)) (.bl (!decide (ns = ms))) := .now fun B H v u Q e rv ru k => by
  refine ⟨_, _, dp_row e rv, dp_row e ru, shaped_ints b ns, shaped_ints b ms, ?_⟩
  have q : PyData.eqv (if b then .tuple (ns.map .int) else .list (ns.map .int)) (if b then .tuple (ms.map .int) else .list (ms.map .int)) = decide (ns = ms) := by
    cases b with
    | true => rw [if_pos rfl, if_pos rfl]; unfold PyData.eqv; exact eqv_ints ns ms
    | false => rw [if_neg (by simp), if_neg (by simp)]; unfold PyData.eqv; exact eqv_ints ns ms
  rw [q]
  exact k _ (.bl _)
theorem veqR {b : Bool} {ns ms : List Int} : VOp K (rEqD K) (rowD b (ns.map .int)) (rowD b (ms.map .int)) (.bl (decide (ns = ms))) := .now fun B H v u Q e rv ru k => by
  refine ⟨_, _, dp_row e rv, dp_row e ru, shaped_ints b ns, shaped_ints b ms, ?_⟩
  have q : PyData.eqv (if b then .tuple (ns.map .int) else .list (ns.map .int)) (if b then .tuple (ms.map .int) else .list (ms.map .int)) = decide (ns = ms) := by
    cases b with
    | true => rw [if_pos rfl, if_pos rfl]; unfold PyData.eqv; exact eqv_ints ns ms
    | false => rw [if_neg (by simp), if_neg (by simp)]; unfold PyData.eqv; exact eqv_ints ns ms
  rw [q]
  exact k _ (.bl _)
theorem vltR {ns ms : List Int} : VOp K (rLtT K) (.tup (ns.map .int)) (.tup (ms.map .int)) (.bl (HT.lexLt ns ms)) := .now fun B H v u Q e rv ru k => by
  cases rv with
  | tup hb rs =>
    cases ru with
    | tup hb2 rs2 =>
      rw [rs.ints] at hb
      rw [rs2.ints] at hb2
      exact ⟨_, _, ns, ms, rfl, rfl, SqT.of (e _ _ hb), SqT.of (e _ _ hb2), k _ (.bl _)⟩
end
section
variable {X : Cx} {a b e : Expr} {p q : Bool} {ρ ρ1 ρ2 : Rho} {pos pp p2 : Pos} {ns ms : List Int} {n : Nat}
theorem et_neR {c : Bool} (hr : Room n X.A) (ha : EV X a p ρ (rowD c (ns.map .int)) ρ1) (hb : EV X b q ρ1 (rowD c (ms.map .int)) ρ2) (hm : behindInMarks .NotEq b = false := by first | rfl | exact nomark _) : ET X (.Compare a [.NotEq] [b] pos) (p && q) ρ (!decide (ns = ms)) ρ2 := et_cmp (op_neD hr.units) vneR ha hb hm
theorem et_eqR {c : Bool} (hr : Room n X.A) (ha : EV X a p ρ (rowD c (ns.map .int)) ρ1) (hb : EV X b q ρ1 (rowD c (ms.map .int)) ρ2) (hm : behindInMarks .Eq b = false := by first | rfl | exact nomark _) : ET X (.Compare a [.Eq] [b] pos) (p && q) ρ (decide (ns = ms)) ρ2 := et_cmp (op_eqD hr.units) veqR ha hb hm
theorem et_ltR (hr : Room n X.A) (ha : EV X a p ρ (.tup (ns.map .int)) ρ1) (hb : EV X b q ρ1 (.tup (ms.map .int)) ρ2) (hm : behindInMarks .Lt b = false := by first | rfl | exact nomark _) : ET X (.Compare a [.Lt] [b] pos) (p && q) ρ (HT.lexLt ns ms) ρ2 := et_cmp (op_ltT hr.units0) vltR ha hb hm
/-- t[k:], k drawn or not, not the whole -/
theorem ev_cutT {ds : List D} {k : Nat} (ha : EV X a p ρ (.tup ds) ρ1) (hb : EV X b q ρ1 (.int (k : Nat)) ρ2) (h0 : 0 < k) (h1 : 0 < ds.length) : EV X (.Subscript a (.Slice (some b) none none p2) pos) (p && q) ρ (.tup (ds.drop k)) ρ2 :=
  PE.imp (pe_slice sl_tup ha (po_some hb) po_none) fun σ H QV ⟨w, B, R, kk⟩ => ⟨w, B, R, fun B1 H1 v R1 s1 r1 => ⟨w, B1, R1, fun B2 H2 u R2 s2 r2 => by
    cases r2
    have r1' := r1.mono s2.b
    cases r1' with
    | @tup a0 xs _ hb rs =>
      refine ⟨(k : Int), rfl, a0, xs, rfl, SqT.of (R2.ext _ _ hb), fun hw => ?_, fun t ht => ?_⟩
      · have := hw.1
        rw [HT.sIx_nat, rs.len] at this
        omega
      · rw [cutV_from]
        have g := Grow.lay (o := .tup (xs.drop k)) R2.ext ht
        exact kk _ _ _ (R2.grow g) ((s1.trans s2).add g) (.tup upd_same ((rs.dropN k).mono g.b))⟩⟩
/-- t[:k] -/
theorem ev_cutTo {ds : List D} {k : Nat} (ha : EV X a p ρ (.tup ds) ρ1) (hb : EV X b q ρ1 (.int (k : Nat)) ρ2) : EV X (.Subscript a (.Slice none (some b) none p2) pos) false ρ (.tup (ds.take k)) ρ2 :=
  ev_ofW (we_cutT (P := fun x r => x = .tup ds ∧ r = ρ1) (P2 := fun _ _ y r => y = .int (k : Nat) ∧ r = ρ2) (we_of ha ⟨rfl, rfl⟩) (fun x r h => by obtain ⟨rfl, rfl⟩ := h; exact we_of hb ⟨rfl, rfl⟩) (fun x r1 y r2 h h2 => by
    obtain ⟨rfl, rfl⟩ := h
    obtain ⟨rfl, rfl⟩ := h2
    exact ⟨ds, k, rfl, rfl, rfl, rfl⟩))
/-- x.extend(e), e a list -/
theorem s_extend {x : Str} {px apos pos' : Pos} {DD : DEnds} {al : Addr} {ds es : List D} {s : Slot} (i : Nat) (h : EL X e p ρ es ρ1) (hs : ρ1[i]? = some s) (hk : s = .ow al (.l ds) ∨ s = .pr al (.l ds)) (hs0 : ∃ ws0, ρ[i]? = some (relend s ws0)) (hz : ds.length + es.length ≤ 16777216) (k : DD.nx (ρ1.set i (relend s (ds ++ es)))) (hN : X.N[i]? = some x := by rfl)
    (hv : Vis X.env.scope x := by first | exact Or.inl rfl | exact Or.inr (Or.inl rfl) | exact Or.inr (Or.inr rfl)) (hd : (x == ("__debug__" : Str)) = false := by decide) (hcd : (x == ("__classdict__" : Str)) = false := by decide)
    (hbase : attributeBase (.Name x px) "extend" X.env (eval (.Name x px) X.env) = eval (.Name x px) X.env := by rfl)
    (hfew : ((backTo pos' (starEach [e] X.env)).all (fun x => !x.1) && (backToKw pos' (keywordEach [] X.env)).all (fun x => x.1.isSome) && decide ([e].length + ([] : List Keyword).length + (if ([] : List Keyword).isEmpty then 0 else 1) < 30)) = true := by rfl)
    (hline : (apos.endLine == pos'.line) = true := by rfl) (hst : starEach [e] X.env = (false, eval e X.env) :: starEach [] X.env := by rfl) (hpl : (backTo pos' (starEach [] X.env)).any (·.1) = false := by rfl)
    (hsw : swapsWith (.Call (.Attribute (.Name x px) "extend" apos) [e] [] pos') none pos.line X.env = pure false := by rfl) :
    S1 X (.Expr (.Call (.Attribute (.Name x px) "extend" apos) [e] [] pos') pos) ρ DD :=
  PS.imp (ps_expr (pe_bm PySem.F.plainAttrs_list PySem.F.slot_list_extend PySem.F.type_list_extend (fun pins s σ H x xs v us Q I rx rv h => mt_extend pins s σ H x xs v us Q I rx rv h) (pe_var hN hv hd hcd) (pa_cons h pa_nil hst) hbase hfew hline hst hpl) hsw) fun E σ H ⟨w, B, R, hl, g⟩ => by
    obtain ⟨ws0, hs0⟩ := hs0
    obtain ⟨e0, xs0, h0, r0⟩ := own_at (a := al) (ws := ws0) R hs0 (relend_is hk)
    refine ⟨_, e0, .inl ⟨rfl, _, SqL.of h0⟩, w, B, R, fun B1 H1 c ys R1 s1 hc rc => ?_⟩
    obtain ⟨_, xs, h1, r2⟩ := own_at R1 hs hk
    refine ⟨al, c, xs, ys, rfl, rfl, h1, hc, by rw [r2.len, rc.len, sizeLine_eq]; exact hz, ?_⟩
    obtain ⟨R2, s2⟩ := own_write R1 hs hk (r2.append rc)
    exact g.nx _ σ _ _ k R2 (s1.b.trans s2.b) hl
end
end G

set_option Elab.async false
set_option maxRecDepth 100000
set_option maxHeartbeats 2000000
set_option linter.all false
/-! G55: == and != of data; == and != of instances by an own __eq__. -/
namespace G
open PySem L2 PyProof.Rows
/-- data that are compared -/
structure Cmpd (m : Nat) (d : D) : Prop where
  bare : d.bare = true
  lay : d.py.canLay0 = true
  deep : d.py.depth ≤ m
theorem Cmpd.int {m : Nat} (i : Int) : Cmpd m (.int i) := ⟨rfl, by unfold D.py PyData.canLay0; rfl, by unfold D.py PyData.depth; omega⟩
theorem Cmpd.bl {m : Nat} (i : Bool) : Cmpd m (.bl i) := ⟨rfl, by unfold D.py PyData.canLay0; rfl, by unfold D.py PyData.depth; omega⟩
theorem Cmpd.non {m : Nat} : Cmpd m .non := ⟨rfl, by unfold D.py PyData.canLay0; rfl, by unfold D.py PyData.depth; omega⟩
theorem Cmpd.str {m : Nat} {x : Str} (h : (PyData.str x).canLay0 = true) : Cmpd m (.str x) := ⟨rfl, by unfold D.py; exact h, by unfold D.py PyData.depth; omega⟩
theorem cmpds {m : Nat} : ∀ {l : List D}, (∀ d ∈ l, Cmpd m d) → D.bares l = true ∧ PyData.canLayAll0 (D.pys l) = true ∧ PyData.depthAll (D.pys l) ≤ m
  | [], _ => ⟨rfl, by unfold D.pys PyData.canLayAll0; rfl, by unfold D.pys PyData.depthAll; omega⟩
  | d :: l, h => by
    obtain ⟨h1, h2, h3⟩ := h d (List.mem_cons_self ..)
    obtain ⟨g1, g2, g3⟩ := cmpds (l := l) fun x hx => h x (List.mem_cons_of_mem _ hx)
    refine ⟨by unfold D.bares; rw [h1, g1]; rfl, by unfold D.pys PyData.canLayAll0; rw [h2, g2]; rfl, by unfold D.pys PyData.depthAll; omega⟩
theorem Cmpd.tup {m : Nat} {l : List D} (h : ∀ d ∈ l, Cmpd m d) : Cmpd (m + 1) (.tup l) := by
  obtain ⟨g1, g2, g3⟩ := cmpds h
  exact ⟨by unfold D.bare; exact g1, by unfold D.py PyData.canLay0; exact g2, by unfold D.py PyData.depth; omega⟩
theorem Cmpd.shaped {m : Nat} {d : D} (h : Cmpd m d) (hm : m ≤ 64) : SeqAt.shaped d.py = true := by
  unfold SeqAt.shaped
  rw [h.lay, decide_eq_true (Nat.le_trans h.deep hm)]; rfl
theorem Cmpd.refl {m : Nat} {d : D} (h : Cmpd m d) : PyData.eqv d.py d.py = true := SeqAt.eqv_refl d.py h.lay
theorem eqv_len : ∀ {l m : List PyData}, l.length ≠ m.length → PyData.eqvAll l m = false
  | [], [], h => absurd rfl h
  | [], _ :: _, _ => by unfold PyData.eqvAll; rfl
  | _ :: _, [], _ => by unfold PyData.eqvAll; rfl
  | x :: l, y :: m, h => by
    unfold PyData.eqvAll
    rw [eqv_len (l := l) (m := m) (by simpa using h), Bool.and_false]
theorem pys_len : ∀ l : List D, (D.pys l).length = l.length
  | [] => rfl
  | d :: l => by unfold D.pys; rw [List.length_cons, pys_len l, List.length_cons]
theorem eqv_tup2 {a b c d : D} : PyData.eqv (D.tup [a, b]).py (D.tup [c, d]).py = (PyData.eqv a.py c.py && PyData.eqv b.py d.py) := by
  have py2 : ∀ x y : D, (D.tup [x, y]).py = .tuple [x.py, y.py] := fun x y => by simp [D.py, D.pys]
  rw [py2, py2]
  simp [PyData.eqv, PyData.eqvAll]
theorem eqv_int {a b : Int} : PyData.eqv (D.int a).py (D.int b).py = decide (a = b) := by
  unfold D.py PyData.eqv
  rw [Bool.eq_iff_iff, beq_iff_eq, decide_eq_true_eq]
section
variable {X : Cx} {a b : Expr} {p q : Bool} {ρ ρ1 ρ2 : Rho} {d e : D} {pos : Pos} {n m : Nat}
def rEqB (K : PySem.W.Frag) (g : Bool → Bool) : R2 := fun x y H Q => ∃ B d e, Same B H ∧ Rep K B x d ∧ Rep K B y e ∧ d.bare = true ∧ e.bare = true ∧ SeqAt.shaped d.py = true ∧ SeqAt.shaped e.py = true ∧ Q (.bl (g (PyData.eqv d.py e.py))) H
theorem op_eqB (hu : X.A.units + 64 < cLine) : OpR X (compareOp .Eq) (rEqB X.K id) := by
  intro pins s σ H x y v u Q I rx ry h
  obtain ⟨B, d, e, eB, hd, he, bd, be, sd, se, q⟩ := h
  obtain ⟨as, r1⟩ := hd.reads eB I.hok bd rx
  obtain ⟨bs, r2⟩ := he.reads eB I.hok be ry
  exact SeqAt.compareEq_shaped r1 r2 sd se hu ⟨.bl _, H, I, rfl, q⟩
theorem op_neB (hu : X.A.units + 64 < cLine) : OpR X (compareOp .NotEq) (rEqB X.K not) := by
  intro pins s σ H x y v u Q I rx ry h
  obtain ⟨B, d, e, eB, hd, he, bd, be, sd, se, q⟩ := h
  obtain ⟨as, r1⟩ := hd.reads eB I.hok bd rx
  obtain ⟨bs, r2⟩ := he.reads eB I.hok be ry
  exact SeqAt.compareNe_shaped r1 r2 sd se hu ⟨.bl _, H, I, rfl, q⟩
theorem veqDt {K : PySem.W.Frag} {g : Bool → Bool} (hd : Cmpd m d) (he : Cmpd m e) (hm : m ≤ 64) : VOp K (rEqB K g) d e (.bl (g (PyData.eqv d.py e.py))) := .now fun B H v u Q eB rv ru k =>
  ⟨B, d, e, eB, rv, ru, hd.bare, he.bare, hd.shaped hm, he.shaped hm, k _ (.bl _)⟩
/-- x == y of data -/
theorem ev_eqD (hr : Room n X.A) (hd : Cmpd m d) (he : Cmpd m e) (ha : EV X a p ρ d ρ1) (hb : EV X b q ρ1 e ρ2) (hm : m ≤ 64 := by decide) : EV X (.Compare a [.Eq] [b] pos) (p && q) ρ (.bl (PyData.eqv d.py e.py)) ρ2 := ev_cmp (op_eqB hr.units) (veqDt hd he hm) ha hb (nomark _)
theorem et_neD (hr : Room n X.A) (hd : Cmpd m d) (he : Cmpd m e) (ha : EV X a p ρ d ρ1) (hb : EV X b q ρ1 e ρ2) (hm : m ≤ 64 := by decide) : ET X (.Compare a [.NotEq] [b] pos) (p && q) ρ (!PyData.eqv d.py e.py) ρ2 := et_cmp (op_neB hr.units) (veqDt (g := not) hd he hm) ha hb (nomark _)
end
/-! ### instances -/
section
variable {X : Cx} {Cl f : Addr} {fd : FuncData} {k : Nat} {C : CP}
/-- == of two instances by the own __eq__, which answers b -/
def rEqIns (K : PySem.W.Frag) (Cl : Addr) (C : CP) (g : Bool → Bool) : R2 := fun x y H Q => ∃ B fs gs b, Same B H ∧ Rep K B x (.ins Cl fs) ∧ Rep K B y (.ins Cl gs) ∧ C [.ins Cl fs, .ins Cl gs] (fun d => d = .bl b) ∧ ∀ H', Same H H' → Q (.bl (g b)) H'
theorem own_eq_run {pins : List (Addr × Obj)} {s : Shared} {σ : L2.St} {H : Hp} {A : Around} {a c : Addr} {fs gs : List (Str × D)} {B : Hp} {b : Bool} {Q : Value → Shared → Prop} (F : FnOk X.prog X.w X.K X.mg X.base CX0 k f fd ["self", "other"] (spP X.K C)) (hb : Binds X.K fd ["self", "other"] []) (hr : Room k A) (hfr : A.frames = X.A.frames)
    (I : Inv X pins σ H s) (eB : Same B H) (r1 : Rep X.K B (.ref a) (.ins Cl fs)) (r2 : Rep X.K B (.ref c) (.ins Cl gs)) (hC : C [.ins Cl fs, .ins Cl gs] (fun d => d = .bl b)) (q : ∀ s' H', Inv X pins σ H' s' → Same H H' → Q (.bool b) s') :
    wpAny (model X.prog X.w) A (call (.ref f) [.ref a, .ref c]) Q X.xe s := by
  have hsp : spP X.K C [.ref a, .ref c] H (fun v H' => v = .bl b ∧ Same H H') (fun _ _ _ => False) := ⟨B, _, _, hC, eB, .cons r1 (.cons r2 .nil), fun B' H' v d g hd rv => by
    subst hd
    cases rv
    exact ⟨rfl, g.h⟩⟩
  have e0 : Env0 X.prog X.w X.K X.mg X.base A X.stack s H := by
    have e := I.env0
    exact ⟨by rw [hfr]; exact e.frames, e.mod, e.bs, e.bsz, e.funs, e.frf, e.hok, e.bare⟩
  refine wpAny_call (codeAny_mono (F.run A X.stack s H ⟨[.ref a, .ref c], []⟩ [.ref a, .ref c] [.ref a, .ref c] _ _ hr e0 (by
    have := hb s [.ref a, .ref c] I.kIn rfl
    simpa using this) (.cons rfl (.cons rfl .nil)) hsp) fun r s' hq => ?_)
  match r, hq with
  | .error e, hq => exact hq.elim
  | .ok (.ret w), hq =>
    obtain ⟨z, H', I', rz, ez, ex⟩ := I.after hq
    subst ez
    cases rz
    exact q s' H' I' ex
  | .ok .next, hq => exact False.elim hq
  | .ok .brk, hq => exact False.elim hq
  | .ok .cont, hq => exact False.elim hq
theorem op_eqIns (F : FnOk X.prog X.w X.K X.mg X.base CX0 k f fd ["self", "other"] (spP X.K C)) (hb : Binds X.K fd ["self", "other"] []) (hr : Room k X.A) (hs : PySem.W.findIn X.K (.ref Cl) "__eq__" = some (some (.ref f))) (hf : PySem.W.isFn X.K (.ref f) = true) :
    OpR X (compareOp .Eq) (rEqIns X.K Cl C id) := by
  intro pins s σ H x y v u Q I rx ry h
  obtain ⟨B, fs, gs, b, eB, r1, r2, hC, q⟩ := h
  cases r1 with
  | @ins a _ dx vs _ ha ra =>
    cases r2 with
    | @ins c _ dy ws _ hc rc =>
      cases rx
      cases ry
      obtain ⟨mA, J, _⟩ := ins_get I.hok (eB _ _ ha)
      obtain ⟨mB, J', _⟩ := ins_get I.hok (eB _ _ hc)
      obtain ⟨od, J, _⟩ := J.look
      obtain ⟨od', J', _⟩ := J'.look
      obtain ⟨m, hF⟩ := I.fr
      show wpAny _ _ (richCompare .Eq (.ref a) (.ref c)) _ _ _
      refine PySem.W.cmp_K (op := .Eq) (tb := .ref Cl) hr.units0 hF I.ok.mod.kin J J'.type (by simp [PySem.W.notFirst]) hs hf ?_
      exact own_eq_run F hb hr rfl I eB (.ins ha ra) (.ins hc rc) hC fun s' H' I' e => ⟨.bl b, H', I', rfl, q H' e⟩
theorem ifBound_objNe {M : Model} {A : Around} {E : Value → Shared → Prop} {s : Shared} {K : PySem.W.Frag} {x C : Addr} {ox : Obj} {od : Option Obj} {args : List Value} {Q : Option Value → Shared → Prop} (hk : K.In s.heap) (I : PySem.W.InstAt s.heap x ox C od) (hs : PySem.W.findIn K (.ref C) "__ne__" = some (some (.builtin "object.__ne__")))
    (h : wpAny M A (call (.builtin "object.__ne__") (.ref x :: args)) (fun v => Q (some v)) E s) : wpAny M A (callSpecialIfBound? (.ref x) "__ne__" args) Q E s := by
  simp only [callSpecialIfBound?, bindSpecialIfBound?]
  refine wpAny_holding (wpAny_bind (wpAny_bind (wpAny_bind (I.type.here ((PySem.W.looks_findIn hk hs).here ?_)))))
  refine wpAny_bind (wpAny_askSetting (wpAny_ite ?_))
  have last : wpAny M A (call (.builtin "object.__ne__") ([.ref x] ++ args) >>= fun v => pure (some v)) Q E s := wpAny_bind (wpAny_mono h (fun v s' h' => wpAny_pure h') fun _ _ h' => h')
  split
  · exact wpAny_bind (wpAny_of_eq (F.cmp_object.ne.bind _) (wpAny_pure (by exact last)))
  · exact wpAny_tryCatch (wpAny_bind (wpAny_of_eq (F.cmp_object.ne.bind _) (wpAny_pure (by exact last))))
theorem op_neIns (F0 : FnOk X.prog X.w X.K X.mg X.base CX0 k f fd ["self", "other"] (spP X.K C)) (hb : Binds X.K fd ["self", "other"] []) (hr : Room (k + 1) X.A) (hs : PySem.W.findIn X.K (.ref Cl) "__eq__" = some (some (.ref f))) (hf : PySem.W.isFn X.K (.ref f) = true)
    (hn : PySem.W.findIn X.K (.ref Cl) "__ne__" = some (some (.builtin "object.__ne__"))) (ho : PySem.W.mroIn X.K Cl (.type "object") = some true) : OpR X (compareOp .NotEq) (rEqIns X.K Cl C not) := by
  intro pins s σ H x y v u Q I rx ry h
  obtain ⟨B, fs, gs, b, eB, r1, r2, hC, q⟩ := h
  cases r1 with
  | @ins a _ dx vs _ ha ra =>
    cases r2 with
    | @ins c _ dy ws _ hc rc =>
      cases rx
      cases ry
      obtain ⟨mA, J, _⟩ := ins_get I.hok (eB _ _ ha)
      obtain ⟨mB, J', _⟩ := ins_get I.hok (eB _ _ hc)
      obtain ⟨od, J, _⟩ := J.look
      obtain ⟨od', J', _⟩ := J'.look
      have run : ∀ {A : Around} {R : Value → Shared → Prop}, Room k A → A.frames = X.A.frames → (∀ s' H', Inv X pins σ H' s' → Same H H' → R (.bool b) s') → wpAny (model X.prog X.w) A (call (.ref f) [.ref a, .ref c]) R X.xe s :=
        fun hr' hfr q' => own_eq_run F0 hb hr' hfr I eB (.ins ha ra) (.ins hc rc) hC q'
      show wpAny _ _ (richCompare .NotEq (.ref a) (.ref c)) _ _ _
      unfold richCompare
      simp only [oneThing_ref]
      refine wpAny_holding (wpAny_bind (wpAny_cRoomFor hr.units0 ?_))
      rw [cmpInfo_NotEq]
      dsimp only
      refine wpAny_bind (J.type.here (wpAny_bind (J'.type.here ?_)))
      rw [show (Value.ref Cl != Value.ref Cl) = false from by simp]
      simp only [Bool.false_eq_true, if_false]
      refine wpAny_bind (wpAny_pure ?_)
      simp only [Bool.false_eq_true, if_false]
      have one : wpAny (model X.prog X.w) X.A (tryCompare (.ref a) "__ne__" (.ref c)) (fun r s' => ∃ v, r = some v ∧ EP X pins σ Q v s') X.xe s := by
        unfold tryCompare
        refine wpAny_bind (ifBound_objNe I.kIn J hn (wpAny_call (codeAny_call_builtin F.cmp_object.ne.plain F.cmpEntry_ne (PySem.W.check_slot F.cmpKind_ne F.cmpSplit_ne (J.type.andThen (PySem.W.looks_mroIn I.kIn ho)) (F.cmpArgs_ne _ _) ?_))))
        unfold Builtin.«object.__ne__»
        repeat (first
          | with_reducible refine wpAny_cRoomFor (show X.A.in1.units < cLine from hr.in1.units0) ?_
          | (refine wpAny_bind (m := callSpecialIfBound? (.ref a) (Str.ofString "__eq__") [.ref c]) (PySem.W.ifBound_K I.kIn J hs hf (run (A := X.A.in1) hr.in1 rfl fun s' H' I' eS => ?_)))
          | wp_step)
        all_goals exact ⟨_, rfl, .bl (!b), H', I', rfl, q H' eS⟩
      refine wpAny_bind (wpAny_mono one (fun r s' z => ?_) fun _ _ e => e)
      obtain ⟨v, rfl, hq⟩ := z
      exact wpAny_pure hq
theorem veqIns {K : PySem.W.Frag} {fs gs : List (Str × D)} {b : Bool} {g : Bool → Bool} (h : C [.ins Cl fs, .ins Cl gs] (fun d => d = .bl b)) : VOp K (rEqIns K Cl C g) (.ins Cl fs) (.ins Cl gs) (.bl (g b)) := fun B H v u Q eB rv ru k =>
  ⟨B, fs, gs, b, eB, rv, ru, h, fun H' e => k B H' (.bl (g b)) ⟨Same.refl B, e, eB.trans e, fun _ _ z => .inl z⟩ (.bl _)⟩
end
end G

set_option Elab.async false
set_option maxRecDepth 100000
set_option maxHeartbeats 2000000
set_option linter.all false
/-! G56: isinstance(e, C), e an instance of C. -/
namespace G
open PySem L2 PyProof.Rows
/-- what isinstance asks of an own class -/
structure InsC (K : PySem.W.Frag) (Cl : Addr) : Prop where
  cl : Cls K Cl
  has : PySem.W.findIn K (.ref Cl) "__class__" = some (some (.builtin "object.__class__"))
  get : PySem.W.specialIn K (.builtin "object.__class__") "__get__" = some (some (.builtin "getset_descriptor.__get__"))
  takes : PySem.W.takesIn K (.builtin "object.__class__") = some true
  mro : PySem.W.mroIn K Cl (.type "object") = some true
  kit : PySem.W.kitOne K (.ref Cl) (.ref Cl) = some true
section
variable {X : Cx} {e : Expr} {p : Bool} {ρ ρ1 : Rho} {Cl : Addr} {fs : List (Str × D)} {pos pp p2 : Pos} {x : Str}
theorem ev_isIns (C : InsC X.K Cl) (ha : EV X e p ρ (.ins Cl fs) ρ1) (hx : X.mg x = some (.ref Cl)) (hm : X.mg "isinstance" = none) (hgx : Gl X x := by rfl) (hdb : (x == ("__debug__" : Str)) = false := by decide) (hg : Gl X "isinstance" := by rfl)
    (he : starEach [e, .Name x p2] X.env = (false, eval e X.env) :: starEach [.Name x p2] X.env := by rfl) (he2 : starEach [.Name x p2] X.env = (false, eval (.Name x p2) X.env) :: starEach [] X.env := by rfl) (hpl : (backTo pos (starEach [.Name x p2] X.env)).any (·.1) = false := by rfl) :
    EV X (.Call (.Name "isinstance" pp) [e, .Name x p2] [] pos) p ρ (.bl true) ρ1 :=
  PE.imp (pe_callB call_isi hg hm (by decide +kernel) (pa_cons ha (pa_cons (pe_glob hgx hx (v := .ref Cl) rfl hdb) pa_nil he2) he) (by decide) (by decide) he hpl) fun σ H Q ⟨w, B, R, k⟩ => ⟨w, B, R, fun B1 H1 v R1 s1 r1 => by
    cases r1 with
    | ins hb rf => exact ⟨_, .ref Cl, .ref Cl, .ref Cl, true, rfl, .own Cl, .base (.ins (R1.ext _ _ hb) C.cl C.has C.get C.takes C.mro), C.kit, k B1 H1 _ R1 s1 (.bl true)⟩⟩
end
end G

set_option Elab.async false
set_option maxRecDepth 100000
set_option maxHeartbeats 4000000
set_option linter.all false
/-! G57: comprehensions over a range, all, calls: where an exception is handled. -/
namespace G
open PySem PySem.Spec L2 PyProof.Rows
open L2H (PIH PIEH TurnH HotC Hot1 RoomH PinOk FnH run_fnH pe_callH pi_range1H cxH fn_ofH roomH_of)
open HotX (HotAt raiseNew_hot)
abbrev blkH (X : Cx) (s : Shared) (H : Hp) (scope : Scope) (cenv : Env) (fp : List Addr) : Cx := { X.blk s H scope cenv fp with pn := X.pn }
theorem HotC.blk {X : Cx} (c : HotC X) {s : Shared} {H : Hp} {scope : Scope} {cenv : Env} {fp : List Addr} : HotC (blkH X s H scope cenv fp) := c
section
variable {X : Cx} {pins : List (Addr × Obj)} {σ : L2.St} {H : Hp} {s : Shared}
theorem block_startH {scope : Scope} {own : List (Str × Nat)} {fp : List Addr} (I : Inv X pins σ H s) (ok : BlkOk X.N X.env.scope scope own) (hN : X.N.Nodup) (hfp : ∀ b ∈ fp, FpOk X pins H b ∧ b < s.heap.objs.size) :
    Inv (blkH X s H scope (compEnvC scope (cellsFrom (s.heap.objs.size + 1) scope.names (cloFrom X.env.cells scope.names [])) s.heap.objs.size X.env) fp) [] (wipe σ (own.map (·.2))) H { s with heap := pushCells (s.heap.push { cls := .type "dict", data := .dict #[] }) scope.names } := by
  have J := block_start I ok hN hfp
  have k := J.ok
  refine ⟨⟨k.mod, k.kind, k.glob, k.blt, k.above, k.inj, k.has, k.cab, k.hd, k.frames, k.stk, k.exf, k.bs, k.bsz, k.noex, k.exfs, k.funs, k.frf⟩, J.os, J.bare, J.base, J.loc, J.cell, J.free, J.freeC, fun p hp => ?_, J.hok, J.len⟩
  have P1 := I.pin p (List.mem_append_left _ (by simpa using hp))
  exact ⟨pushCells_keeps _ _ _ _ (Heap.get?_push_of_some _ P1.1), P1.2.1, Nat.ne_of_lt (Heap.lt_size P1.1), fun hm => (List.mem_cons.mp (I.stkSub p.1 hm)).elim P1.2.2.1 P1.2.2.2.1, P1.2.2.2.2⟩
end
section
variable {X : Cx}
theorem lc_coreH {pins : List (Addr × Obj)} {s : Shared} {σ : L2.St} {H : Hp} {Q : VK} {elt tg iter : Expr} {ifs : List Expr} {scope : Scope} {own : List (Str × Nat)} {pos pos' : Pos} {wi : TI} {g : TG} {tt : TT} {te : TE} {use : Option (Value → Sem Unit)} {Qf : Value → Shared → Prop}
    (hc : HotC X) (hN : X.N.Nodup) (I : Inv X pins σ H s) (hi : PIH X tg iter wi) (ok : BlkOk X.N X.env.scope scope own)
    (hg : ∀ (s : Shared) (H : Hp) (C : Addr) (cl : List (Str × Addr)) (fp : List Addr), PG (blkH X s H scope (compEnvC scope cl C X.env) fp) tg g) (ht : ∀ (s : Shared) (H : Hp) (C : Addr) (cl : List (Str × Addr)) (fp : List Addr), PTs (blkH X s H scope (compEnvC scope cl C X.env) fp) ifs tt)
    (he : ∀ (s : Shared) (H : Hp) (C : Addr) (cl : List (Str × Addr)) (fp : List Addr), PE (blkH X s H scope (compEnvC scope cl C X.env) fp) elt te) (hs : ∀ x, foldedSetIterable iter X.env x = pure x)
    (h : tLc wi g tt te (own.map (·.2)) σ H Q)
    (hRR : ∀ D C s' m H', Inv X pins σ H' s' → Q (.ref D) H' → s'.heap.Ns C m → FpOk X pins H' C → compPost (model X.prog X.w) X.A X.xe use Qf (.ref D) C (.ok .next) s') :
    wpAny (model X.prog X.w) X.A (comprehension (.ListComp elt [⟨tg, iter, ifs, 0⟩] scope pos) scope X.env pos' (newList []) false (eval iter X.env) use) Qf X.xe s := by
  have hfree : ∀ y ∈ scope.names, y.2 = .free → ∃ c, X.env.cells.lookup y.1 = some c := fun y hy e => by
    rcases ok.free y hy e with k | k
    · exact I.ok.has _ (.inl k)
    · exact I.ok.has _ (.inr k)
  refine wpAny_comprehension_free (use := use) rfl hs (closure_ok hfree) ok.kind (fun y hy e => by rw [ok.uniq y hy, e])
    (thn (hi.run pins s σ H _ I h) fun xv s1 hx => thn hx fun itv s2 h2 => ?_)
  obtain ⟨it, fp, tn, J, H2, e, I2, T, st2, f2, q⟩ := h2
  subst e
  refine wpAny_newObj_type (newEnv_comp ?_) (by show 0 ≤ sizeLine; decide)
  generalize hD : s2.heap.objs.size = D
  have hDn : H2 D = none := I2.hok.fresh (Nat.le_of_eq hD)
  obtain ⟨W, ⟨m0, w0⟩, turn⟩ := q D hDn
  -- the new list
  generalize hs3 : ({ s2 with heap := s2.heap.push { cls := .type "list", data := .seq ([] : List Value).toArray } } : Shared) = s3
  have I3 : Inv X pins σ (upd H2 D (.lst [])) s3 := by
    rw [← hs3]
    refine I2.laid (t' := s2.toks) (fun b o e => Heap.get?_push_of_some _ e) (Nat.le_of_eq hD) ⟨Nat.zero_le _, [], 0, .nil, ?_⟩
    rw [← hD]
    exact Heap.get?_push_size _ rfl
  have h3 : s3.heap = s2.heap.push { cls := .type "list", data := .seq ([] : List Value).toArray } := by rw [← hs3]
  have sz : ∀ b ∈ fp, b < s2.heap.objs.size := fun b hb => by
    obtain ⟨o, e, _⟩ := T.obj _ _ st2 b hb
    exact Heap.lt_size e
  have f3 : ∀ b ∈ fp, FpOk X pins (upd H2 D (.lst [])) b ∧ b < s3.heap.objs.size := fun b hb => by
    have hlt := sz b hb
    refine ⟨⟨?_, (f2 b hb).2⟩, by rw [h3, Heap.size_push]; exact Nat.lt_succ_of_lt hlt⟩
    rw [upd_ne (by rw [← hD]; exact Nat.ne_of_lt hlt)]
    exact (f2 b hb).1
  have st3 : tn 0 s3.heap := T.keep _ _ _ st2 fun b _ o e => by rw [h3]; exact Heap.get?_push_of_some _ e
  have I4 := block_startH I3 ok hN f3
  have pg := hg s3 (upd H2 D (.lst [])) s3.heap.objs.size (cellsFrom (s3.heap.objs.size + 1) scope.names (cloFrom X.env.cells scope.names [])) fp
  have pt := ht s3 (upd H2 D (.lst [])) s3.heap.objs.size (cellsFrom (s3.heap.objs.size + 1) scope.names (cloFrom X.env.cells scope.names [])) fp
  have pe := he s3 (upd H2 D (.lst [])) s3.heap.objs.size (cellsFrom (s3.heap.objs.size + 1) scope.names (cloFrom X.env.cells scope.names [])) fp
  show codeAny _ _ (.compStart (.ListComp elt [⟨tg, iter, ifs, 0⟩] scope pos) 0 (.ref it) (.ref D) (compEnvC scope (cellsFrom (s3.heap.objs.size + 1) scope.names (cloFrom X.env.cells scope.names [])) s3.heap.objs.size X.env)) (compPost (model X.prog X.w) X.A X.xe use Qf (.ref D) s3.heap.objs.size) { s3 with heap := pushCells (s3.heap.push { cls := .type "dict", data := .dict #[] }) scope.names }
  have nfp : ∀ b ∈ fp, (upd H2 D (.lst [])) b = none := fun b hb => (f3 b hb).1.1
  generalize hce : compEnvC scope (cellsFrom (s3.heap.objs.size + 1) scope.names (cloFrom X.env.cells scope.names [])) s3.heap.objs.size X.env = ce at I4 pg pt pe ⊢
  have cL : ce.locals = s3.heap.objs.size := by subst hce; rfl
  generalize hH3 : upd H2 D (.lst []) = H3 at I3 I4 pg pt pe w0 nfp f3
  generalize hs4 : ({ s3 with heap := pushCells (s3.heap.push { cls := .type "dict", data := .dict #[] }) scope.names } : Shared) = s4 at I4 ⊢
  have st4 : tn 0 s4.heap := T.keep _ _ _ st3 fun b _ o e => by rw [← hs4]; exact pushCells_keeps _ _ _ _ (Heap.get?_push_of_some _ e)
  have stat : ∀ {σ' : L2.St} {H' : Hp} {s' : Shared}, Inv (blkH X s3 H3 scope ce fp) [] σ' H' s' → (∀ b ∈ fp, H' b = none) → ∀ b ∈ fp, FpOk (blkH X s3 H3 scope ce fp) [] H' b := fun {σ' H' s'} I' hn b hb =>
    ⟨hn b hb, (I'.ok.exf b hb).1, I'.ok.exfs b hb, .inl hb, fun x c e => (I'.ok.exf b hb).2 x c e, fun p hp => (f3 b hb).1.2.2.2.2.2 p (List.mem_append_left _ (by simpa using hp))⟩
  have loop : codeAny (model X.prog X.w) X.A (.compLoop (.ListComp elt [⟨tg, iter, ifs, 0⟩] scope pos) 0 (.ref it) (.ref D) ce) (compPost (model X.prog X.w) X.A X.xe use Qf (.ref D) s3.heap.objs.size) s4 := by
    refine compLoop_any (fun n s' => ∃ i H', Inv (blkH X s3 H3 scope ce fp) [] (wipe σ (own.map (·.2))) H' s' ∧ tn i s'.heap ∧ (∀ b ∈ fp, H' b = none) ∧ W i n H') ?_ m0 ⟨0, H3, I4, st4, nfp, w0⟩
    rintro n s5 ⟨i, H5, I5, st5, n5, w5⟩
    rcases turn i n H5 w5 with ⟨stop, qq⟩ | ⟨go, Nx, hNx, step⟩
    · have td := T.done (blkH X s3 H3 scope ce fp) rfl rfl rfl (HotC.blk hc) i [] s5 _ H5 (fun _ _ => False) I5 (stat I5 n5) st5 stop
      refine thnF td fun r s6 ⟨hr, I6⟩ => ?_
      subst hr
      -- back in the def's context
      have I7 : Inv X pins σ H5 s6 := I3.call' (ch := fp) I6.os I6.base I6.hok I6.bare fun b hb => ⟨(f3 b hb).1.2.2.2.1, (f3 b hb).1.2.1, (f3 b hb).1.2.2.2.2.1, (f3 b hb).1.2.2.2.2.2⟩
      have nC : H5 s3.heap.objs.size = none := by
        have z : H5 ce.locals = none := I6.free
        rw [cL] at z
        exact z
      obtain ⟨m, hn, _⟩ := I6.loc
      have hn : s6.heap.Ns ce.locals m := hn
      rw [cL] at hn
      exact hRR D s3.heap.objs.size s6 m H5 I7 qq hn (I3.fpOk (Nat.le_refl _) nC)
    · have ti := T.item (blkH X s3 H3 scope ce fp) rfl rfl rfl (HotC.blk hc) i [] s5 _ H5 (fun _ _ => False) I5 (stat I5 n5) st5 go
      refine thnF ti fun r s6 ⟨u, hr, h6⟩ => ?_
      subst hr
      refine thnF h6 fun _ s7 ⟨x, H7, I7, r7, y7, st7, n7⟩ => ?_
      have I7' := I7.pinned (stat I7 n7) (T.obj _ _ st7)
      refine thnF (pg.run _ s7 _ H7 x u _ I7' r7 (step x H7 y7)) fun _ s8 ⟨σ8, H8, I8, hw8, q8⟩ => ?_
      refine thnF (pt.run _ s8 σ8 H8 _ I8 q8) fun b s9 ⟨H9, I9, q9⟩ => ?_
      -- the turn's end
      have fin : ∀ {s' : Shared} {H' : Hp}, Inv (blkH X s3 H3 scope ce fp) ([] ++ pinsAt fp s7.heap) σ8 H' s' → Nx H' → ∃ m, m < n ∧ ∃ i H', Inv (blkH X s3 H3 scope ce fp) [] (wipe σ (own.map (·.2))) H' s' ∧ tn i s'.heap ∧ (∀ b ∈ fp, H' b = none) ∧ W i m H' := fun {s' H'} I' nx => by
        obtain ⟨m', hm, w'⟩ := hNx H' nx
        have pin' : ∀ b ∈ fp, ∀ o, s7.heap.get? b = some o → s'.heap.get? b = some o ∧ H' b = none := fun b hb o e =>
          let z := I'.pin (b, o) (List.mem_append_right _ (List.mem_append_right _ (mem_pinsAt hb e)))
          ⟨z.1, z.2.1⟩
        have hl : (wipe σ (own.map (·.2))).length = σ8.length := by rw [← hw8, wipe_length]
        refine ⟨m', hm, i + 1, H', (I'.unpinned (pins := [])).weak hl (fun j v e => ?_), T.keep _ _ _ st7 fun b hb o e => (pin' b hb o e).1, fun b hb => ?_, w'⟩
        · rw [← hw8] at e
          exact (wipe_some e).1
        · obtain ⟨o, e, _⟩ := T.obj _ _ st7 b hb
          exact (pin' b hb o e).2
      cases b with
      | false =>
        simp only [Bool.false_eq_true, if_false] at q9 ⊢
        exact fin I9 q9
      | true =>
        simp only [if_true] at q9 ⊢
        refine thnF (pe.run _ s9 σ8 H9 _ I9 q9) fun z s10 ⟨yv, H10, I10, r10, acc, hD10, hz10, nx⟩ => ?_
        exact app_ok (X := blkH X s3 H3 scope ce fp) I10 hD10 hz10 r10 fun s11 I11 => fin I11 nx
  exact codeAny_compStart_list loop (T.self X.A 0 _ _ _ st4 loop)
theorem pe_lcH {elt tg iter : Expr} {ifs : List Expr} {scope : Scope} {own : List (Str × Nat)} {pos : Pos} {wi : TI} {g : TG} {tt : TT} {te : TE} (hc : HotC X) (hN : X.N.Nodup) (hi : PIH X tg iter wi) (ok : BlkOk X.N X.env.scope scope own)
    (hg : ∀ (s : Shared) (H : Hp) (C : Addr) (cl : List (Str × Addr)) (fp : List Addr), PG (blkH X s H scope (compEnvC scope cl C X.env) fp) tg g) (ht : ∀ (s : Shared) (H : Hp) (C : Addr) (cl : List (Str × Addr)) (fp : List Addr), PTs (blkH X s H scope (compEnvC scope cl C X.env) fp) ifs tt)
    (he : ∀ (s : Shared) (H : Hp) (C : Addr) (cl : List (Str × Addr)) (fp : List Addr), PE (blkH X s H scope (compEnvC scope cl C X.env) fp) elt te) (hs : ∀ x, foldedSetIterable iter X.env x = pure x := by intro _; rfl) :
    PE X (.ListComp elt [⟨tg, iter, ifs, 0⟩] scope pos) (tLc wi g tt te (own.map (·.2))) := by
  refine ⟨fun pins s σ H Q I h => ?_⟩
  rw [eval_ListComp]
  refine lc_coreH hc hN I hi ok hg ht he hs h fun D C s' m H' I' q hn f => ⟨m, hn, fun h'' sb => ?_⟩
  obtain ⟨f0, f1, f2, f3, f4, f5⟩ := f
  exact ⟨.ref D, H', I'.turned (t' := s'.toks) (fun b o hb e => (sb.2 b hb).trans e) f0 f1 f3 f4 f5, rfl, q⟩
end
section
variable {X : Cx} {a b c e tg : Expr} {es : List Expr} {p : Bool} {ρ ρ1 : Rho} {d : D} {ds : List D} {P Q : D → Rho → Prop} {PL QL : List D → Rho → Prop} {PB QB : Bool → Rho → Prop} {pos : Pos}
abbrev WIH (X : Cx) (tg e : Expr) (ρ : Rho) (P : List D → Rho → Prop) : Prop := PIH X tg e (tWI X.K ρ P)
theorem PIH.imp {tg iter : Expr} {w w' : TI} (h : PIH X tg iter w) (k : ∀ σ H R, w' σ H R → w σ H R) : PIH X tg iter w' := ⟨fun pins s σ H R I q => h.run pins s σ H R I (k σ H R q)⟩
theorem wi_rangeH {pp : Pos} (h : WE X e ρ (fun d r => ∃ n : Int, d = .int n ∧ -(2 ^ 62) ≤ n ∧ n < 2 ^ 62 ∧ PL (rgD 0 n.toNat) r)) (hm : X.mg "range" = none) (hg : Gl X "range" := by rfl) (hs : starEach [e] X.env = [(false, eval e X.env)] := by rfl) : WIH X tg (.Call (.Name "range" pp) [e] [] pos) ρ PL :=
  PIH.imp (pi_range1H hg hm (pa_cons h pa_nil hs) hs) fun σ H R0 ⟨w, B, R, k⟩ => ⟨w, B, R, fun B1 H1 v d r ⟨n, e, h0, h1, hp⟩ R1 s1 r1 => by
    subst e
    cases r1
    exact ⟨n, rfl, h0, h1, k B1 H1 _ _ r hp R1 s1 serves_range⟩⟩
theorem lc_exH {elt : Expr} {ifs : List Expr} {scope : Scope} {own : List (Str × Nat)} (I : List D → Nat → List D → Rho → Prop) (hi : WIH X tg e ρ PL) (nd : X.N.Nodup) (ok : BlkOk X.N X.env.scope scope own)
    (h0 : ∀ ds r, PL ds r → I ds 0 [] (unR r (own.map (·.2))) ∧ ds.length < 16777216 ∧ (own.map (·.2)).all (fun j => decide (j < r.length)) = true)
    (hb : ∀ ds i d acc ρ, ds[i]? = some d → I ds i acc ρ → ∃ ρt PT, (∀ (s : Shared) (H : Hp) (C : Addr) (cl : List (Str × Addr)) (fp : List Addr), TGT (blkH X s H scope (compEnvC scope cl C X.env) fp) tg (own.map (·.2)) d ρ ρt) ∧
      (∀ (s : Shared) (H : Hp) (C : Addr) (cl : List (Str × Addr)) (fp : List Addr), PTs (blkH X s H scope (compEnvC scope cl C X.env) fp) ifs (tWT X.K ρt PT)) ∧
      (∀ r, PT false r → I ds (i + 1) acc (unR r (own.map (·.2)))) ∧
      (∀ r, PT true r → ∀ (s : Shared) (H : Hp) (C : Addr) (cl : List (Str × Addr)) (fp : List Addr), WE (blkH X s H scope (compEnvC scope cl C X.env) fp) elt r (fun z r2 => I ds (i + 1) (acc ++ [z]) (unR r2 (own.map (·.2))))))
    : ∃ (wi : TI) (g : TG) (tt : TT) (te : TE), PIH X tg e wi ∧ (∀ (s : Shared) (H : Hp) (C : Addr) (cl : List (Str × Addr)) (fp : List Addr), PG (blkH X s H scope (compEnvC scope cl C X.env) fp) tg g) ∧ (∀ (s : Shared) (H : Hp) (C : Addr) (cl : List (Str × Addr)) (fp : List Addr), PTs (blkH X s H scope (compEnvC scope cl C X.env) fp) ifs tt) ∧
      (∀ (s : Shared) (H : Hp) (C : Addr) (cl : List (Str × Addr)) (fp : List Addr), PE (blkH X s H scope (compEnvC scope cl C X.env) fp) elt te) ∧ ∀ σ H Q, tWN X.K ρ (fun zs r => ∃ ds r', I ds ds.length zs r' ∧ r = unR r' (own.map (·.2))) σ H Q → tLc wi g tt te (own.map (·.2)) σ H Q := by
  have W := fun q : { q : List D × Nat × D × List D × Rho // q.1[q.2.1]? = some q.2.2.1 ∧ I q.1 q.2.1 q.2.2.2.1 q.2.2.2.2 } => hb q.1.1 q.1.2.1 q.1.2.2.1 q.1.2.2.2.1 q.1.2.2.2.2 q.2.1 q.2.2
  obtain ⟨fρt, W⟩ := Classical.axiomOfChoice W
  obtain ⟨fPT, W⟩ := Classical.axiomOfChoice W
  have A : ∀ (s : Shared) (H : Hp) (C : Addr) (cl : List (Str × Addr)) (fp : List Addr), PG (blkH X s H scope (compEnvC scope cl C X.env) fp) tg (fun v σ H Q => ∃ q, tTG X.K (own.map (·.2)) q.1.2.2.1 q.1.2.2.2.2 (fρt q) v σ H Q) := fun s H C cl fp => PG.ex fun q => (W q).1 s H C cl fp
  have T : ∀ (s : Shared) (H : Hp) (C : Addr) (cl : List (Str × Addr)) (fp : List Addr), PTs (blkH X s H scope (compEnvC scope cl C X.env) fp) ifs (fun σ H Q => ∃ q, tWT X.K (fρt q) (fPT q) σ H Q) := fun s H C cl fp =>
    ⟨fun pins s' σ' H' Q I' ⟨q, h⟩ => ((W q).2.1 s H C cl fp).run pins s' σ' H' Q I' h⟩
  have Ev : ∀ (s : Shared) (H : Hp) (C : Addr) (cl : List (Str × Addr)) (fp : List Addr), PE (blkH X s H scope (compEnvC scope cl C X.env) fp) elt (fun σ H Q => ∃ q : { q : { q : List D × Nat × D × List D × Rho // q.1[q.2.1]? = some q.2.2.1 ∧ I q.1 q.2.1 q.2.2.2.1 q.2.2.2.2 } × Rho // fPT q.1 true q.2 },
      tWE X.K q.1.2 (fun z r2 => I q.1.1.1.1 (q.1.1.1.2.1 + 1) (q.1.1.1.2.2.2.1 ++ [z]) (unR r2 (own.map (·.2)))) σ H Q) := fun s H C cl fp => PE.ex fun q => (W q.1.1).2.2.2 q.1.2 q.2 s H C cl fp
  refine ⟨_, _, _, _, hi, A, T, Ev, fun σ H Q ⟨w, B, R, k⟩ => ⟨w, B, R, fun B1 H1 J ds ρ1 hpl R1 s1 sv => ?_⟩⟩
  intro dl hD
  obtain ⟨h0, hz, hj⟩ := h0 ds ρ1 hpl
  have fD := Fresh.of R1 hD
  have g0 := Grow.make (o := .lst []) R1.ext hD
  have R1' := R1.grow g0
  let St : Nat → Hp → Prop := fun i H' => ∃ B' ρ' acc xs, SR X.K w B' H' (wipe σ (own.map (·.2))) ρ' ∧ Same B1 B' ∧ H' dl = some (.lst xs) ∧ B' dl = none ∧ Out dl ρ' ∧ Reps X.K B' xs acc ∧ I ds i acc ρ' ∧ acc.length ≤ i ∧
    (∀ a o, H1 a = some o → B1 a = none → Out a ρ1 → H' a = some o ∧ B' a = none ∧ Out a ρ') ∧ (∀ a, H1 a ≠ none → H' a ≠ none) ∧ ρ'.length = ρ1.length
  have wl : ∀ j, j ∉ own.map (·.2) → (wipe σ (own.map (·.2)))[j]? = σ[j]? := fun j hj => by rw [wipe_get, if_neg hj]
  refine ⟨fun i m H' => m = ds.length - i ∧ i ≤ ds.length ∧ St i H', ⟨_, rfl, Nat.zero_le _, B1, unR ρ1 (own.map (·.2)), [], [], R1'.wiped (wipe_length _ _) wl, Same.refl _, upd_same, fD.b, Out.un fD.foot, .nil, h0, Nat.le_refl _,
    fun a o h n f => ⟨g0.h a o h, n, Out.un f⟩, fun a h => Same.ne g0.h h, unR_len⟩, ?_⟩
  rintro i m H' ⟨rfl, hle, B', ρ', acc, xs, R', e', hx, bD, fD', rx, hI, hal, al, dm, lenρ⟩
  obtain ⟨sv1, sv2⟩ := sv i B' H' e' R'.ext
  by_cases hlt : i < ds.length
  · have hd : ds[i]? = some ds[i] := List.getElem?_eq_getElem hlt
    obtain ⟨go, yl⟩ := sv1 _ hd
    refine .inr ⟨go, St (i + 1), fun H2 h => ⟨ds.length - (i + 1), by omega, rfl, hlt, h⟩, fun x H2 y => ?_⟩
    obtain ⟨B2, g2, rv⟩ := yl x H2 y
    have R2 := R'.grow g2
    let q : { q : List D × Nat × D × List D × Rho // q.1[q.2.1]? = some q.2.2.1 ∧ I q.1 q.2.1 q.2.2.2.1 q.2.2.2.2 } := ⟨(ds, i, ds[i], acc, ρ'), hd, hI⟩
    have gs2 : Stp true ρ' B' H' ρ' B2 H2 := Stp.ofGrow g2
    refine ⟨q, w, B2, R2, fun j hq => by rw [wipe_length, R1.len]; exact of_decide_eq_true (List.all_eq_true.mp hj j hq), rv, fun σ3 R3 l3 k3 f3 => ⟨wipe_eq l3 k3, q, w, B2, R3, fun B3 H3 b ρa hb R4 s4 => ?_⟩⟩
    have ch : ∀ a o, H' a = some o → B' a = none → Out a ρ' → H3 a = some o ∧ B3 a = none ∧ Out a ρa := fun a o h n f => by
      obtain ⟨h2, n2, f2⟩ := gs2.al a o h n f
      refine s4.al a o h2 n2 fun j s hs => ?_
      rcases f3 j s hs with z | z
      · rw [z]; simp
      · exact f2 j s z
    obtain ⟨hx3, bD3, oD3⟩ := ch dl _ hx bD fD'
    have back : ∀ {B : Hp} {H : Hp} {ρ : Rho}, SR X.K w B H σ3 ρ → SR X.K w B H (wipe σ (own.map (·.2))) (unR ρ (own.map (·.2))) := fun {B H ρ} R => R.wiped l3.symm fun j hj => (k3 j hj).symm
    have dm3 : ∀ a, H1 a ≠ none → H3 a ≠ none := fun a h => s4.dom a (Same.ne g2.h (dm a h))
    have l4 : ρa.length = ρ1.length := by rw [← R4.len, l3, wipe_length, R1.len]
    cases b with
    | true =>
      refine iteT ⟨⟨(q, ρa), hb⟩, w, B3, R4, fun B4 H4 v z ρb hI2 R5 s5 r5 => ?_⟩
      obtain ⟨hx4, bD4, oD4⟩ := s5.al dl _ hx3 bD3 oD3
      have rx4 : Reps X.K B4 xs acc := rx.mono ((g2.b.trans s4.b).trans s5.b)
      refine ⟨xs, hx4, by rw [rx.len, sizeLine_eq]; omega, B4, _, acc ++ [z], xs ++ [v], (back R5).alien fD.h0 bD4 (Out.un oD4), e'.trans ((g2.b.trans s4.b).trans s5.b), upd_same, bD4, Out.un oD4, rx4.append (.cons r5 .nil), hI2, by rw [List.length_append, List.length_singleton]; omega, fun a o h n f => ?_, fun a h => ?_, ?_⟩
      · obtain ⟨h1, n1, f1⟩ := al a o h n f
        obtain ⟨h2, n2, f2⟩ := ch a o h1 n1 f1
        obtain ⟨h3, n3, f3⟩ := s5.al a o h2 n2 f2
        have ne : a ≠ dl := fun z => by rw [z, hD] at h; cases h
        exact ⟨by rw [upd_ne ne]; exact h3, n3, Out.un f3⟩
      · by_cases ne : a = dl
        · subst ne; rw [upd_same]; simp
        · rw [upd_ne ne]; exact s5.dom a (dm3 a h)
      · rw [unR_len, ← R5.len, l3, wipe_length, R1.len]
    | false =>
      refine iteF ⟨B3, _, acc, xs, back R4, e'.trans (g2.b.trans s4.b), hx3, bD3, Out.un oD3, rx.mono (g2.b.trans s4.b), (W q).2.2.1 ρa hb, by omega, fun a o h n f => ?_, dm3, by rw [unR_len]; exact l4⟩
      obtain ⟨h1, n1, f1⟩ := al a o h n f
      obtain ⟨h2, n2, f2⟩ := ch a o h1 n1 f1
      exact ⟨h2, n2, Out.un f2⟩
  · have e : i = ds.length := by omega
    subst e
    refine .inl ⟨sv2 (Nat.le_refl _), k B' H' dl xs acc _ ⟨ds, ρ', hI, rfl⟩ (R'.wiped (wipe_length _ _).symm fun j hj => (wl j hj).symm) ?_ (s1.free hD) ⟨fD.h0, bD, Out.un fD'⟩ hx rx⟩
    have st : Stp false ρ1 B1 H1 (unR ρ' (own.map (·.2))) B' H' := ⟨e', dm, fun a o h n f => by
      obtain ⟨h1, n1, f1⟩ := al a o h n f
      exact ⟨h1, n1, Out.un f1⟩, fun z => nomatch z⟩
    exact (s1.trans st).left fun z => nomatch z
theorem wn_lcH {elt : Expr} {ifs : List Expr} {scope : Scope} {own : List (Str × Nat)} (I : List D → Nat → List D → Rho → Prop) (hi : WIH X tg e ρ PL) (nd : X.N.Nodup) (ok : BlkOk X.N X.env.scope scope own)
    (h0 : ∀ ds r, PL ds r → I ds 0 [] (unR r (own.map (·.2))) ∧ ds.length < 16777216 ∧ (own.map (·.2)).all (fun j => decide (j < r.length)) = true)
    (hb : ∀ ds i d acc ρ, ds[i]? = some d → I ds i acc ρ → ∃ ρt PT, (∀ (s : Shared) (H : Hp) (C : Addr) (cl : List (Str × Addr)) (fp : List Addr), TGT (blkH X s H scope (compEnvC scope cl C X.env) fp) tg (own.map (·.2)) d ρ ρt) ∧
      (∀ (s : Shared) (H : Hp) (C : Addr) (cl : List (Str × Addr)) (fp : List Addr), PTs (blkH X s H scope (compEnvC scope cl C X.env) fp) ifs (tWT X.K ρt PT)) ∧
      (∀ r, PT false r → I ds (i + 1) acc (unR r (own.map (·.2)))) ∧
      (∀ r, PT true r → ∀ (s : Shared) (H : Hp) (C : Addr) (cl : List (Str × Addr)) (fp : List Addr), WE (blkH X s H scope (compEnvC scope cl C X.env) fp) elt r (fun z r2 => I ds (i + 1) (acc ++ [z]) (unR r2 (own.map (·.2))))))
    (hn : ∀ ds zs r, I ds ds.length zs r → QL zs (unR r (own.map (·.2))))
    (hc : HotC X) (hs : ∀ x, foldedSetIterable e X.env x = pure x := by intro _; rfl) : WN X (.ListComp elt [⟨tg, e, ifs, 0⟩] scope pos) ρ QL := by
  obtain ⟨wi, g, tt, te, h1, h2, h3, h4, h5⟩ := lc_exH I hi nd ok h0 hb
  exact PE.imp (pe_lcH hc nd h1 ok h2 h3 h4 hs) fun σ H Q ⟨w, B, R, k⟩ => h5 σ H Q ⟨w, B, R, fun B' H' a xs ds r ⟨ds', r', hI, e⟩ => k B' H' a xs ds r (e ▸ hn ds' ds r' hI)⟩
end
end G

set_option Elab.async false
set_option maxRecDepth 100000
set_option maxHeartbeats 4000000
set_option linter.all false
/-! G58: all of a list, defs and their calls: where an exception is handled. -/
namespace G
open PySem PySem.Spec L2 PyProof.Rows
open L2H (PIH PIEH TurnH HotC Hot1 RoomH PinOk FnH run_fnH pe_callH pi_range1H cxH fn_ofH roomH_of)
open HotX (HotAt raiseNew_hot)
theorem HotAt.keep {A : Around} {x1 : Addr} {h h' : Heap} (c : HotAt A x1 h) (k : ∀ o, h.get? x1 = some o → h'.get? x1 = some o) : HotAt A x1 h' :=
  let ⟨e, o, vs, h1, d1, c1⟩ := c; ⟨e, o, vs, k o h1, d1, c1⟩
section
variable {prog : Program} {w : World} {A : Around} {E : Value → Shared → Prop} {s : Shared}
theorem pyNext_list_end_hot {it l x1 : Addr} {i : Nat} {items : Array Value} {Q : Option Value → Shared → Prop} (hot : HotAt A x1 s.heap) (hne : x1 ≠ it)
    (hit : s.heap.IsListIter it l i) (hl : s.heap.IsList l items) (hx : items[i]? = none)
    (hQ : ∀ h', (∀ b o, b ≠ it → s.heap.get? b = some o → h'.get? b = some o) → Q none { s with heap := h' }) : wpAny (model prog w) A (pyNext (.ref it)) Q E s := by
  obtain ⟨o, ho, hc, hd⟩ := id hit
  obtain ⟨ol, hol, _, nl, hdl⟩ := hl
  unfold pyNext
  refine wpAny_bind (wpAny_attempt (wpAny_callSpecial?_slot (name := Str.ofString "__next__") hit.typeIs slot_listiter_next
    (wpAny_call_entry slot_listiter_next hit.typeIs entry_listiter_next ?_ (args_listiter_next _))))
  show wpAny _ _ (field (.ref it) 0 >>= _) _ _ s
  refine wpAny_bind (wpAny_field ho hd (x := .ref l) rfl ?_)
  show wpAny _ _ (if (Value.ref l == Value.none) = true then _ else _) _ _ s
  rw [if_neg (show ¬ ((Value.ref l == Value.none) = true) from Bool.false_ne_true)]
  show wpAny _ _ (field (.ref it) 1 >>= _) _ _ s
  refine wpAny_bind (wpAny_field ho hd (x := .int i 0) rfl ?_)
  show wpAny _ _ (seqItems? (.ref l) >>= _) _ _ s
  refine wpAny_bind (wpAny_seqItems hol hdl ?_)
  simp only [Int.toNat_natCast, hx]
  refine wpAny_bind (wpAny_rule (wpAny_bind (wpAny_setField ho hd (by simp) ?_)))
  show wpAny _ _ (newExc (.type "StopIteration") [] >>= _) _ _ _
  refine wpAny_bind ?_
  simp only [newExc, newTuple]
  refine wpAny_bind (wpAny_newObj_type ?_ (by size_fits))
  refine wpAny_bind (m := firstArgMember _ _) (wpAny_of_eq (a := Value.none) (by first | rfl | (simp only [firstArgMember]; rfl)) ?_)
  refine wpAny_newObj_type ?_ (by size_fits)
  have k0 : ∀ b u, b ≠ it → s.heap.get? b = some u → (s.heap.update it (Obj.mapFields (·.setIfInBounds 0 .none))).get? b = some u := fun b u h e => by rw [Heap.get?_update_other _ _ (Ne.symm h)]; exact e
  have hot1 := HotAt.keep hot (h' := s.heap.update it (Obj.mapFields (·.setIfInBounds 0 .none))) fun u e => k0 _ u hne e
  obtain ⟨hh, o1, vs1, h1, d1, c1⟩ := hot1
  refine raiseNew_hot ⟨hh, o1, vs1, Heap.get?_push_of_some _ (Heap.get?_push_of_some _ h1), d1, c1⟩ (Nat.ne_of_lt (Heap.lt_size (Heap.get?_push_of_some _ h1))) (Heap.get?_push_size _ rfl) rfl (by first | (simp; done) | (simp; omega) | (simp only [Array.size_append]; simp; omega)) ?_
  refine wpAny_bind (wpAny_isInstance (T := "StopIteration") (b := true) ⟨_, Heap.get?_update_self _ (Heap.get?_push_size _ rfl) rfl, rfl⟩ isSubtype_stop ?_)
  refine wpAny_pure (hQ _ fun b u hb e => ?_)
  rw [Heap.get?_update_other _ _ (Nat.ne_of_gt (Heap.lt_size (Heap.get?_push_of_some _ (k0 b u hb e))))]
  exact Heap.get?_push_of_some _ (Heap.get?_push_of_some _ (k0 b u hb e))
theorem Walks.listH {x1 : Addr} (I ax : Addr) (hne : ax ≠ I) (hx : x1 ≠ I) (items : Array Value) :
    Walks prog w A I [I, ax, x1] [I] items.size (fun i v => items[i]? = some v) (fun i h => h.IsListIter I ax i ∧ h.IsList ax items ∧ HotAt A x1 h) where
  sub := fun b hb => by simp at hb; simp [hb]
  frame := fun _ _ _ st hk => ⟨st.1.at fun o e => hk I (by simp) o e, st.2.1.at fun o e => hk ax (by simp) o e, HotAt.keep st.2.2 fun o e => hk x1 (by simp) o e⟩
  item := fun i s Q E hi st hQ => by
    refine wpAny_pyNext_list_item st.1 st.2.1 (x := items[i]) (by simp [hi]) fun h' hit' hs' => ?_
    exact hQ _ h' s.toks (by simp [hi]) ⟨hit', st.2.1.extBut hs'.extBut hne, HotAt.keep st.2.2 fun o e => hs'.extBut _ _ hx e⟩ fun b o hb e => hs'.extBut b o (fun h => hb (by simp [h])) e
  done := fun s Q E st hQ => pyNext_list_end_hot st.2.2 hx st.1 st.2.1 (by simp) fun h' k => hQ h' s.toks fun b o hb e => k b o (fun z => hb (by simp [z])) e
  self := fun i s Q E st hQ => wpAny_pyIter_listiter st.1 hQ
end
section
variable {X : Cx} {e : Expr} {p : Bool} {ρ ρ1 : Rho} {pp pos : Pos}
theorem cr_allH (hc : HotC X) : CallR X (.builtin "all") (rAll X.K) := by
  intro pins s σ H vs us Q I r h
  obtain ⟨a, bs, rfl, hs, q⟩ := h
  obtain ⟨its, rv, hl, _⟩ := I.list hs
  rw [Vals.ref1 r]
  have hb := rv.bls
  obtain ⟨x1, hot⟩ := hc.at I
  refine call_all_walk (iter_any hl.isList fun s₂ e2 st hne => ?_)
  subst e2
  have hx : x1 ≠ s.heap.objs.size := by
    obtain ⟨_, o1, vs1, h1, _⟩ := hot
    exact Nat.ne_of_lt (Heap.lt_size h1)
  have hot2 : HotAt X.A.in1 x1 (s.heap.push { cls := .type "list_iterator", data := .fields #[.ref a, .int 0 0] }) := by
    obtain ⟨hh, o1, vs1, h1, d1, c1⟩ := hot
    exact ⟨hh, o1, vs1, Heap.get?_push_of_some _ h1, d1, c1⟩
  refine ⟨_, _, _, _, _, _, _, rfl, Walks.listH (A := X.A.in1) (x1 := x1) _ a hne hx its.toArray, ⟨st.1, st.2, hot2⟩, truth_bools hb, fun h' tk hk => ?_⟩
  refine ⟨.bl _, H, I.kept fun b o eo => hk b o (fun hmem => ?_) (Heap.get?_push_of_some _ eo), ?_, q⟩
  · rcases List.mem_cons.mp hmem with e1 | hmem
    · exact absurd (e1 ▸ Heap.lt_size eo) (Nat.lt_irrefl _)
    · cases hmem
  · show Value.bool _ = Value.bool _
    rw [← L2.all_range, hb, List.size_toArray, List.length_map]
theorem ev_allLH {bs : List Bool} (hc : HotC X) (hm : X.mg "all" = none) (ha : EL X e p ρ (bs.map D.bl) ρ1) (hg : Gl X "all" := by rfl) (he : starEach [e] X.env = (false, eval e X.env) :: starEach [] X.env := by rfl) : EV X (.Call (.Name "all" pp) [e] [] pos) p ρ (.bl (bs.all id)) ρ1 :=
  ev_callBL (cr_allH hc) (fun B H a vs Q e ea r k => ⟨a, bs, rfl, by rw [← r.bls]; exact SqL.of ea, k B H _ (Grow.refl e) (.bl _)⟩) hm (by decide +kernel) ha hg (by decide) (by decide) he rfl
end
/-! ### defs -/
section
variable {P : Program} {w : World} {K : PySem.W.Frag} {mg : Str → Option Value} {base : Heap}
theorem fnPH {x qual : Str} {st : Stmt} {f : Addr} {fd : FuncData} {N ps : List Str} {k : Nat} {C : CP} (F : Fun K x qual st f fd) (S : FnScope N ps (defScope st)) (len : ∀ ds R, C ds R → ds.length = ps.length)
    (body : ∀ (cdv : Value) (A : Around) (outer : List Env) (s : Shared) (H : Hp) (E : XK) (pe : Addr × Obj) (ds : List D) (R : D → Prop), RoomH k (A.deeper (envOfC qual (defScope st) s.heap.objs.size f cdv)) → HotC (cxH CX0 P w K mg base N qual (defScope st) f cdv A outer s H E pe).nox → C ds R →
      ST (cxH CX0 P w K mg base N qual (defScope st) f cdv A outer s H E pe).nox (defBody st) (ds.map .fr ++ List.replicate (N.length - ds.length) .un) { nx := fun _ => R .non, rt := fun d _ => R d }) : FnH P w K mg base CX0 (k + 1) f fd ps (spP K C) := by
  have len2 : ∀ vs H Q E, spP K C vs H Q E → vs.length = ps.length := fun vs H Q E h => by
    obtain ⟨B, ds, R, hC, _, r, _⟩ := h
    rw [r.len]
    exact len ds R hC
  obtain ⟨oc, od, kV, doc, pm, an, cdv, ct, osl, rfl, lk, hcd⟩ := F.ex
  refine fn_ofH lk hcd S len2 fun A outer s H vs Q E pe hot hr h => ?_
  obtain ⟨B, ds, R, hC, e, r, q⟩ := h
  have hl : vs.length ≤ N.length := by
    have q := congrArg List.length S.pre
    rw [List.length_take] at q
    rw [r.len, len ds R hC]
    omega
  have hc : HotC (cxH CX0 P w K mg base N qual (defScope st) f cdv A outer s H E pe).nox := ⟨pe, hot, by show pe ∈ [pe]; simp⟩
  refine ⟨_, (body cdv A outer s H E pe ds R hr hc hC).nox, ⟨B, H, []⟩, B, ?_, ?_, ?_⟩
  · unfold L2.start
    exact (SR.args e r).pad (by rw [List.length_map, List.length_map, r.len]) (by rw [r.len])
  · unfold L2.start
    rw [List.length_append, List.length_map, List.length_replicate]
    show _ = N.length
    omega
  · exact ⟨fun ρ' σ' B' H' hR R' _ _ => q B' H' .non .non R'.grown hR .non, fun d ρ' σ' B' H' v hR R' rv => q B' H' v d R'.grown hR rv, fun _ _ _ _ z => z.elim, fun _ _ _ _ z => z.elim, fun _ _ _ _ _ _ _ z => z.elim⟩
end
section
variable {X : Cx} {k : Nat} {f : Addr} {fd : FuncData} {ps : List Str} {x : Str} {pp pos : Pos} {e : Expr} {es : List Expr} {p : Bool} {ρ ρ1 : Rho} {ds : List D} {z : D}
theorem ev_callH {C : CP} (F : FnH X.prog X.w X.K X.mg X.base CX0 k f fd ps (spP X.K C)) (hr : RoomH k X.A) (hc : HotC X) (hm : X.mg x = some (.ref f)) (hk : PySem.W.keepIn X.K (.ref f) = true) (hb : Binds X.K fd ps []) (ha : EA X (e :: es) p ρ ds ρ1) (hC : C ds (fun d => d = z))
    (hg : Gl X x := by rfl) (hdb : (x == ("__debug__" : Str)) = false := by decide) (he : starEach (e :: es) X.env = (false, eval e X.env) :: starEach es X.env := by rfl) (hpl : (backTo pos (starEach es X.env)).any (·.1) = false := by rfl) :
    EV X (.Call (.Name x pp) (e :: es) [] pos) p ρ z ρ1 := PE.imp (pe_callH (E := fun _ => E0) F hr hc hg hm hk hb (fun _ _ _ _ _ _ _ h => h.elim) ha hdb he hpl) fun σ H Q ⟨w, B, R, kk⟩ => ⟨w, B, R, fun B1 H1 vs R1 s1 r1 => by
  show spP X.K C vs H1 Q E0
  exact ⟨B1, ds, _, hC, R1.ext, r1, fun B' H' v d g hd rv => by
    subst hd
    exact kk B' H' v (R1.grow g) (s1.add g) rv⟩⟩
end
end G

set_option Elab.async false
set_option maxRecDepth 100000
set_option maxHeartbeats 4000000
set_option linter.all false
/-! G59: errors whose context is known to be None: raise, calls that may raise, try. -/
namespace PySem
namespace GEn
open PySem.W PySem.Calls PyProof.Rows PySem.HandSPX
structure SupMadeN (h h' : Heap) (e C dx : Addr) (mA : Str → Option Value) : Prop where
  keep : ∀ b o, h.get? b = some o → h'.get? b = some o
  new : h.objs.size ≤ e
  obj : ∃ t1, h'.get? e = some { cls := .ref C, dict := some dx, data := .fields #[.ref t1, .none, .none, .none, .bool false, .none] }
  big : h.objs.size ≤ dx
  ne : dx ≠ e
  ns : h'.Ns1 dx mA
section
variable {prog : Program} {w : World} {A : Around} {R : Result → Shared → Prop} {hp : Heap} {g : Array GenState} {d : Drawn} {t : Nat} {os : OsState} {K : Frag} {mg : Str → Option Value} {C fI cc cda : Addr} {mA : Str → Option Value}
theorem sup_madeN {us : List Value} (T : SupTxt prog K mg C fI cc cda) (X : K.In hp) (hz : us.length ≤ sizeLine) (hroom : A.depth + 1 < recursionLimit)
    (init : ∀ (h0 : Heap) (e t0 : Addr) (A' : Around) (R' : Result → Shared → Prop), K.In h0 → (∀ b o, hp.get? b = some o → h0.get? b = some o) → h0.get? e = some (excO C t0) → K.lookup e = none → A'.depth < recursionLimit → (∀ h' tk dx t1, SupEnd h0 h' e C dx t1 mA → R' (.ok (.ret .none)) ⟨h', g, d, tk, os⟩) → codeAny (model prog w) A' (.call (.ref fI) ⟨.ref e :: us, []⟩) R' ⟨h0, g, d, t, os⟩)
    (hq : ∀ h' tk e dx, SupMadeN hp h' e C dx mA → R (.ok (.ret (.ref e))) ⟨h', g, d, tk, os⟩) : codeAny (model prog w) A (.call (.ref C) ⟨us, []⟩) R ⟨hp, g, d, t, os⟩ := by
  obtain ⟨nm, qn, N, bs, bm, sn, sub, ab, col, dd, k0, k1, k2, k3, k5, hC, hbm⟩ := T.cls
  have kp : ∀ b o, hp.get? b = some o → ((hp.push (kdv_tup us)).push (excO C hp.objs.size)).get? b = some o := fun b o e => Heap.get?_push_of_some _ (Heap.get?_push_of_some _ e)
  have at0 : ((hp.push (kdv_tup us)).push (excO C hp.objs.size)).get? (hp.objs.size + 1) = some (excO C hp.objs.size) := by heap_get
  have out : K.lookup (hp.objs.size + 1) = none := by
    cases e : K.lookup (hp.objs.size + 1) with
    | none => rfl
    | some o => exact absurd (Heap.lt_size (X _ _ e)) (Nat.not_lt.mpr (Nat.le_succ _))
  refine call_own F.excBase_ValueError (fun Y => refsVE_contains Y bm hbm) (X _ _ hC) (looks_findIn X T.iC) (fun self => bind_fn X self T.tC) hz ?_
  refine init _ (hp.objs.size + 1) hp.objs.size _ _ (X.keeps kp) kp at0 out (by show A.depth + 1 < recursionLimit; exact hroom) (fun h' tk dx t1 S => ⟨rfl, ?_⟩)
  have sz : hp.objs.size ≤ ((hp.push (kdv_tup us)).push (excO C hp.objs.size)).objs.size := by
    rw [Heap.size_push, Heap.size_push]; omega
  exact hq h' tk (hp.objs.size + 1) dx ⟨fun b o e => S.keep b o (Nat.ne_of_lt (Nat.lt_succ_of_lt (Heap.lt_size e))) (kp b o e), Nat.le_succ _, ⟨_, S.obj⟩, Nat.le_trans sz S.big, S.ne, S.ns⟩
end
end GEn
end PySem
namespace G
open PySem L2 PyProof.Rows
section
variable {X : Cx} {C fI cc cda : Addr}
theorem pmk_supN {x : Str} {e : Expr} {es : List Expr} {ta : TA} {p pos : Pos} {k n : Nat} {fs : List V → List (Str × V)} {mA : List Value → Str → Option Value} (T : PySem.GEn.SupTxt X.prog X.K X.mg C fI cc cda) (gC : X.mg x = some (.ref C)) (hr : Room k X.A) (hn : n ≤ 1000) (rel : ∀ vs us, Vals vs us → vs.length = n → ∀ f, RelO ((fs vs).lookup f) (mA us f))
    (init : ∀ (us : List Value) (hp : Heap) (g : Array GenState) (d : Drawn) (t : Nat) (os : OsState) (h0 : Heap) (e t0 : Addr) (A' : Around) (R' : Result → Shared → Prop), us.length = n → X.K.In h0 → h0.NoLimit → h0.Ns mainGlobals X.mg → (∃ mb, h0.Ns builtinsNs mb ∧ ∀ x : Str, x ≠ "__name__" → mb x = bootBuiltins x) → h0.get? e = some (PySem.HandSPX.excO C t0) → X.K.lookup e = none → A'.depth < recursionLimit → (∀ h' tk dx t1, PySem.GEn.SupEnd h0 h' e C dx t1 (mA us) → R' (.ok (.ret .none)) ⟨h', g, d, tk, os⟩) → codeAny (model X.prog X.w) A' (.call (.ref fI) ⟨.ref e :: us, []⟩) R' ⟨h0, g, d, t, os⟩)
    (ha : PA X (e :: es) ta) (hg : Gl X x := by rfl) (hdb : (x == ("__debug__" : Str)) = false := by decide) (he : starEach (e :: es) X.env = (false, eval e X.env) :: starEach es X.env := by rfl) (hpl : (backTo pos (starEach es X.env)).any (·.1) = false := by rfl) :
    L2N.PMk X (.Call (.Name x p) (e :: es) [] pos) (tMkS C n fs ta) := by
  intro pins s σ H Q I h
  refine wpAny_Call_Name_kw (ld_glob (X := X) I hg gC ?_ hdb)
  refine PySem.W.callWith_K (h₀ := X.base) I.ok.mod.kin T.kC (thn (ha.run pos pins s σ H _ I h) fun us s1 hh => ?_) he hpl
  obtain ⟨vs, H1, I1, r1, hl, q1⟩ := hh
  refine ⟨I1.kIn, ?_⟩
  have hlim := I1.nolimit
  have M := I1.ok.mod
  have hbase : ∀ b o, X.base.get? b = some o → s1.heap.get? b = some o := I1.bk
  obtain ⟨hp, g, dr, tk, os⟩ := s1
  have hus : us.length = n := by rw [← r1.length]; exact hl
  show wpAny _ _ (call (.ref C) us) _ _ _
  refine wpAny_call (PySem.GEn.sup_madeN T I1.kIn (by rw [hus, sizeLine_eq]; omega) (by have := hr.dp; omega) (fun h0 e t0 A' R' X0 k0 e0 n0 d0 hR => init us hp g dr tk os h0 e t0 A' R' hus X0 (hlim.keeps k0) (M.glob.keeps fun b o z => k0 b o (hbase b o z)) ?_ e0 n0 d0 hR) fun h' tk' e dx S => ?_)
  · obtain ⟨mb, h1, h2⟩ := M.blt
    exact ⟨mb, h1.keeps fun b o z => k0 b o (hbase b o z), h2⟩
  show L2N.MkP X pins σ Q (.ref e) ⟨h', g, dr, tk', os⟩
  obtain ⟨t1, hoe⟩ := S.obj
  have hns := S.ns
  obtain ⟨G', g1, g2⟩ := restrict h' fun b => decide (b ≠ e)
  have gk : ∀ b, b ≠ e → G'.get? b = h'.get? b := fun b hb => g1 b (decide_eq_true hb)
  have ge : G'.get? e = none := g2 e (by simp)
  have old : ∀ b o, hp.get? b = some o → G'.get? b = some o := fun b o q => (gk b (Nat.ne_of_lt (Nat.lt_of_lt_of_le (Heap.lt_size q) S.new))).trans (S.keep b o q)
  have ob : ObjOk X.prog X.w (upd H1 dx (.xd (fs vs))) G' dx (.xd (fs vs)) := ⟨_, hns.at (fun o q => (gk dx S.ne).trans q), rel vs us r1 hl⟩
  have J : Inv X pins σ (upd H1 dx (.xd (fs vs))) ⟨G', g, dr, tk', os⟩ := I1.laid (t' := tk') old S.big ob
  refine ⟨e, _, _, ⟨G', g, dr, tk', os⟩, _, .ref C, some dx, rfl, J, fun b o q => ?_, ge, hoe, ⟨rfl, rfl, fun vs q => by cases q; rfl⟩, rfl, rfl, ?_, rfl, I1.bare, raises_own T.exC T.tyC, q1 dx (I1.hok.fresh S.big)⟩
  · by_cases hb : b = e
    · have q' : G'.get? b = some o := q
      rw [hb, ge] at q'; cases q'
    · exact (gk b hb).symm.trans q
  · rw [upd_ne (Ne.symm S.ne)]
    exact I1.hok.fresh S.new
end
structure Err1N (P : Program) (K : PySem.W.Frag) (mg : Str → Option Value) (x y : Str) (C : Addr) : Prop where
  made : ∀ {X : Cx}, X.prog = P → X.K = K → X.mg = mg → ∀ {k : Nat} (_ : Room k X.A) {p : Bool} {ρ ρ1 : Rho} {d : D} {e : Expr} {pp pos : Pos} (_ : EA X [e] p ρ [d] ρ1) (_ : Gl X x) (_ : (x == ("__debug__" : Str)) = false) (_ : starEach [e] X.env = (false, eval e X.env) :: starEach [] X.env) (_ : (backTo pos (starEach [] X.env)).any (·.1) = false),
    L2N.PMk X (.Call (.Name x pp) [e] [] pos) (tMkS C 1 (fun vs => [(y, vs.getD 0 .non)]) (tEA X.K p ρ [d] ρ1))
theorem takes_noN {X : Cx} : L2N.Takes X (fun _ _ _ _ => False) := fun _ _ ⟨_, _, _, _, _, _, _, _, _, _, _, _, _, _, _, _, z⟩ => z.elim
section
variable {X : Cx} {e : Expr} {es : List Expr} {p : Bool} {ρ ρ1 : Rho} {ds : List D} {DD : DEnds} {pos pos2 pp : Pos} {x : Str} {C : Addr} {n : Nat} {fv : List V → List (Str × V)} {rest : List Stmt}
theorem s_raiseSN {fsD : List (Str × D)} (tk : L2N.Takes X DD.W) (mk : L2N.PMk X (.Call (.Name x pp) (e :: es) [] pos) (tMkS C n fv (tEA X.K p ρ ds ρ1))) (hn : ds.length = n) (hf : ∀ (B : Hp) vs, Reps X.K B vs ds → RepF X.K B (fv vs) fsD) (k : DD.ex (.ref C) (some fsD) ρ1) (hc : X.calm = true := by rfl) :
    S1 X (.Raise (some (.Call (.Name x pp) (e :: es) [] pos)) none pos2) ρ DD :=
  PS.imp (L2N.ps_raise hc tk mk) fun E σ H ⟨w, B, R, hl, g⟩ => ⟨w, B, R, fun B1 H1 vs R1 s1 r1 => ⟨by rw [r1.len]; exact hn, fun dx hd => by
    have G0 := Grow.lay (o := .xd (fv vs)) R1.ext hd
    exact g.ex (.ref C) (some fsD) ρ1 σ _ _ (some dx) k (R1.grow G0) (s1.b.trans G0.b) hl ⟨dx, _, rfl, upd_same, hf _ vs (r1.mono G0.b)⟩⟩⟩
theorem st_raiseSN {fsD : List (Str × D)} (tk : L2N.Takes X DD.W) (mk : L2N.PMk X (.Call (.Name x pp) (e :: es) [] pos) (tMkS C n fv (tEA X.K p ρ ds ρ1))) (hn : ds.length = n) (hf : ∀ (B : Hp) vs, Reps X.K B vs ds → RepF X.K B (fv vs) fsD) (k : DD.ex (.ref C) (some fsD) ρ1) (hc : X.calm = true := by rfl) :
    ST X (.Raise (some (.Call (.Name x pp) (e :: es) [] pos)) none pos2 :: rest) ρ DD := st_cons (M := fun _ => False) (s_raiseSN tk mk hn hf k hc) fun _ z => z.elim
end
section
variable {P : Program} {w : World} {K : PySem.W.Frag} {mg : Str → Option Value} {base : Heap}
theorem okN {x qual : Str} {st : Stmt} {f : Addr} {fd : FuncData} {N ps : List Str} {k : Nat} {sp : Sp} (F : Fun K x qual st f fd) (S : FnScope N ps (defScope st)) (len : ∀ vs H Q E, sp vs H Q E → vs.length = ps.length)
    (hbody : ∀ (cdv : Value) (A : Around) (outer : List Env) (s : Shared) (H : Hp) (vs : List V) (Q : VK) (E : XK), Room k (A.deeper (envOfC qual (defScope st) s.heap.objs.size f cdv)) → sp vs H Q E →
      ∃ t, PSs (cxOf (L2N.CX P w) P w K mg base N qual (defScope st) f cdv A outer s H E) (defBody st) t ∧ t { nx := fun _ H' => Q .non H', rt := Q } (start N vs) H) : FnOk P w K mg base (L2N.CX P w) (k + 1) f fd ps sp := by
  obtain ⟨oc, od, kV, doc, pm, an, cdv, ct, osl, rfl, lk, hcd⟩ := F.ex
  exact fn_of lk hcd S len fun A outer s H vs Q E hr hsp => hbody cdv A outer s H vs Q E hr hsp
theorem fnPXN {x qual : Str} {st : Stmt} {f : Addr} {fd : FuncData} {N ps : List Str} {k : Nat} {C : CPX} (F : Fun K x qual st f fd) (S : FnScope N ps (defScope st)) (len : ∀ ds R RX, C ds R RX → ds.length = ps.length)
    (body : ∀ (cdv : Value) (A : Around) (outer : List Env) (s : Shared) (H : Hp) (E : XK) (ds : List D) (R : D → Prop) (RX : RXT), Room k (A.deeper (envOfC qual (defScope st) s.heap.objs.size f cdv)) → C ds R RX →
      ST (cxOf (L2N.CX P w) P w K mg base N qual (defScope st) f cdv A outer s H E) (defBody st) (ds.map .fr ++ List.replicate (N.length - ds.length) .un) { nx := fun _ => R .non, rt := fun d _ => R d, W := fun cls d _ H => E cls d H, ex := fun cls pay _ => RX cls pay }) :
    FnOk P w K mg base (L2N.CX P w) (k + 1) f fd ps (spPX K C) := by
  refine okN F S (fun vs H Q E h => ?_) (fun cdv A outer s H vs Q E hr h => ?_)
  · obtain ⟨B, ds, R, RX, hC, _, r, _⟩ := h
    rw [r.len]
    exact len ds R RX hC
  · obtain ⟨B, ds, R, RX, hC, e, r, h1, h2⟩ := h
    exact ⟨_, body cdv A outer s H E ds R RX hr hC, startP S e r (len ds R RX hC) (goPX h1 h2)⟩
end
section
variable {X : Cx} {W : WX} {k : Nat} {f : Addr} {fd : FuncData} {ps : List Str} {x : Str} {pp pos : Pos} {e : Expr} {es : List Expr} {ρ : Rho} {P : D → Rho → Prop} {PX : Value → Option (List (Str × D)) → Rho → Prop} {C : CPX}
theorem qe_callN (F : FnOk X.prog X.w X.K X.mg X.base (L2N.CX X.prog X.w) k f fd ps (spPX X.K C)) (hr : Room k X.A) (hm : X.mg x = some (.ref f)) (hk : PySem.W.keepIn X.K (.ref f) = true) (hb : Binds X.K fd ps []) (tk : L2N.Takes X W)
    (ha : WA X (e :: es) ρ (fun ds r => C ds (fun d => P d r) (fun cls pay => PX cls pay r)))
    (hg : Gl X x := by rfl) (hdb : (x == ("__debug__" : Str)) = false := by decide) (he : starEach (e :: es) X.env = (false, eval e X.env) :: starEach es X.env := by rfl) (hpl : (backTo pos (starEach es X.env)).any (·.1) = false := by rfl) :
    QE X W (.Call (.Name x pp) (e :: es) [] pos) ρ P PX := PE.imp (pe_callS F hr hg hm hk hb (L2N.passAt tk) ha hdb he hpl) qe_red
end
section
variable {X : Cx} {W : WX} {ρ : Rho} {pos : Pos} {DD : DEnds} {x : Str}
/-- try: body except x as n: suite -/
theorem s_tryN {n : Str} {c : Value} {i : Nat} {body suite : List Stmt} {b₀ : Stmt} {np hpos : Pos} {TX : Value → Option (List (Str × D)) → Rho → Prop} (nd : X.N.Nodup) (hi : X.N[i]? = some n) (hc : Names X x c) (tk : L2N.Takes X DD.W)
    (hb : ∀ (W : WX) (pn : List (Addr × Obj)) (xe : Value → Shared → Prop), L2N.Takes (X.tr pn xe) W → PassesOwn (model X.prog X.w) X.A X.env xe → ST (X.tr pn xe) body ρ { DD with W := W, ex := TX })
    (hx : ∀ cls pay r, TX cls pay r → ∃ b, PySem.W.exmOne X.K cls c = some b ∧ (b = false → DD.ex cls pay r))
    (hsu : ∀ (a : Addr) (oe : Obj) (cls : Value) (d : Option Addr) (pn : List (Addr × Obj)) pay r, L2N.Zn cls d oe → (∃ vs, oe.data = .fields vs) → TX cls pay r → PySem.W.exmOne X.K cls c = some true → (∃ B, PayOk X.K B pay d) → ST (X.suite a ((a, oe) :: pn)) (b₀ :: suite) (r.set i (.fr (excD a d pay))) { nx := fun r => DD.nx (r.set i .un), rt := fun d r => DD.rt d (r.set i .un), bk := fun r => DD.bk (r.set i .un), ct := fun r => DD.ct (r.set i .un) })
    (hs : X.stack = X.env :: X.outer := by rfl) (hf : X.env.frame = some X.env.locals := by rfl) (hln : X.env.kindOf n = some .local := by rfl): S1 X (.Try body [.ExceptHandler (some (.Name x np)) (some n) (b₀ :: suite) hpos] [] [] pos) ρ DD := by
  refine PS.imp (L2N.ps_try_as (tb := fun W => tST X.K X.N.length ρ { DD with W := W, ex := TX })
    (ts := fun a cls d E σ H => ∃ q : { q : Option (List (Str × D)) × Rho // TX cls q.1 q.2 ∧ PySem.W.exmOne X.K cls c = some true ∧ (∃ B, PayOk X.K B q.1 d) },
      tST X.K X.N.length (q.1.2.set i (.fr (excD a d q.1.1))) { nx := fun r => DD.nx (r.set i .un), rt := fun d r => DD.rt d (r.set i .un), bk := fun r => DD.bk (r.set i .un), ct := fun r => DD.ct (r.set i .un) } E σ H) hs hf nd hi hln hc tk hb ?_) ?_
  · intro a oe cls d pn hz hf
    exact PSs.ex fun q => hsu a oe cls d pn q.1.1 q.1.2 hz hf q.2.1 q.2.2.1 q.2.2.2
  · intro E σ H ⟨w, B, R, hl, g⟩
    refine ⟨w, B, R, hl, g.nx, g.rt, g.bk, g.ct, fun cls pay ρ' σ' B' H' d hT R' s l po => ?_⟩
    obtain ⟨b, hb1, hb2⟩ := hx cls pay ρ' hT
    refine ⟨b, hb1, fun e a _ => ?_, fun e => g.ex cls pay ρ' σ' B' H' d (hb2 e) R' s l po⟩
    subst e
    have hi' : i < σ'.length := slot_lt (n := 0) hi l
    refine ⟨⟨(pay, ρ'), hT, hb1, B', po⟩, w, B', R'.putF hi' (excD_rep po), by rw [List.length_set]; exact l, ?_⟩
    exact ⟨fun ρ2 σ2 B2 H2 h R2 e2 l2 => g.nx _ _ B2 H2 h (R2.drop i) (s.trans e2) (by rw [List.length_set]; exact l2), fun d ρ2 σ2 B2 H2 v h R2 rv => g.rt d _ _ B2 H2 v h (R2.drop i) rv, fun ρ2 σ2 B2 H2 h R2 e2 l2 => g.bk _ _ B2 H2 h (R2.drop i) (s.trans e2) (by rw [List.length_set]; exact l2),
      fun ρ2 σ2 B2 H2 h R2 e2 l2 => g.ct _ _ B2 H2 h (R2.drop i) (s.trans e2) (by rw [List.length_set]; exact l2), fun _ _ _ _ _ _ _ z => z.elim⟩
end
theorem hot_suite {X : Cx} {a : Addr} {oe : Obj} {cls : Value} {d : Option Addr} {pn : List (Addr × Obj)} (hz : L2N.Zn cls d oe) (hf : ∃ vs, oe.data = .fields vs) : L2H.HotC (X.suite a ((a, oe) :: pn)) :=
  let ⟨vs, e⟩ := hf; ⟨(a, oe), ⟨rfl, vs, e, hz.2.2 vs e⟩, List.mem_cons_self⟩
end G

set_option Elab.async false
set_option maxRecDepth 100000
set_option maxHeartbeats 4000000
set_option linter.all false
namespace G
open PySem L2 PyProof.Rows
section
variable {P : Program} {w : World} {K : PySem.W.Frag} {mg : Str → Option Value} {base : Heap} {C fI cc cda : Addr} {oc kV doc pm ct : Value} {od an : Option Addr} {osl : Array (Option Value)}
theorem err_noPlaceN (T : PySem.GEn.SupTxt P K mg C fI cc cda) (lk : K.lookup fI = some ⟨oc, od, .func (PySem.W.ksFn "__init__" "NoPlace.__init__" (defArgs sNoPlaceInit) (defBody sNoPlaceInit) (defScope sNoPlaceInit) .none kV doc pm an (.ref cda) ct cc), osl⟩) (hcd : PySem.W.codeIn K (.ref cda) "NoPlace.__init__" = true) (no : PySem.W.findIn K (.ref C) "place" = some none) (gC : mg "NoPlace" = some (.ref C)) : Err1N P K mg "NoPlace" "place" C := by
  refine ⟨fun {X} e1 e2 e3 {k} hr {p ρ ρ1 d e pp pos} ha hg hdb he hpl => ?_⟩
  subst e1 e2 e3
  refine pmk_supN (mA := fun us z => if z = "place" then us[0]? else none) T gC hr (by decide) (fun vs us r hl f => ?_) (fun us hp g d t os h0 e t0 A' R' => noPlaceI T lk hcd no us hp g d t os h0 e t0 A' R') ha hg hdb he hpl
  match vs, us, r with
  | [v], [u], .cons r .nil => exact relO1 r f
  | [], _, _ => simp at hl
  | _ :: _ :: _, _, _ => simp at hl

end
end G

set_option Elab.async false
set_option maxRecDepth 100000
set_option maxHeartbeats 4000000
set_option linter.all false
/-! Q16: check_place. -/
namespace G
open PySem L2 PyProof.Rows
section
variable {P : Program} {w : World} {K : PySem.W.Frag} {mg : Str → Option Value} {base : Heap} {C fI cc cda : Addr} {oc kV doc pm ct : Value} {od an : Option Addr} {osl : Array (Option Value)}
/-- a place of the graph, or the error that names it -/
def CCheck (Cl CP : Addr) : CPX := fun ds R RX => ∃ (n d : Nat) (es : Edges) (x : D), ds = [.ins Cl (graphF n d es), x] ∧ x.plain = true ∧ (∀ i : Nat, x = .int (i : Nat) → i < n → R .non) ∧ ((∀ i : Nat, x = .int (i : Nat) → ¬ i < n) → RX (.ref CP) (some [("place", x)]))
theorem ok_check {Cl f1 f f2 CP : Addr} {fd fd2 : FuncData} (F : Df K mg "check_place" "check_place" sCheckPlace ["graph", "place"] f fd) (GC : GCls K mg Cl f1) (F2 : Df K mg "is_whole" "is_whole" sIsWhole ["value"] f2 fd2) (EP : Err1 P K mg "NoPlace" "place" CP) (T : Bn mg) : FnOk P w K mg base (L2.CX P w) 2 f fd ["graph", "place"] (spPX K (CCheck Cl CP)) := by
  have G2 : FnOk P w K mg base CX0 1 f2 fd2 ["value"] (spP K CWhole) := ok_isWhole F2 T
  refine fnPX F.F scCheckPlace (fun ds R RX hC => ?_) (fun cdv A outer s H E ds R RX hr hC => ?_)
  · obtain ⟨n, d, es, x, rfl, _⟩ := hC; rfl
  · obtain ⟨n, d, es, x, rfl, hx, k, kx⟩ := hC
    show ST _ _ [.fr (.ins Cl (graphF n d es)), .fr x] _
    by_cases hxw : x.whole = true
    · obtain ⟨i, rfl⟩ : ∃ i, x = .int i := by cases x <;> first | exact ⟨_, rfl⟩ | cases hxw
      refine st_if (et_w (ew_or (et_not (et_val (ev_call G2 (hr.mono (by omega)) F2.g F2.F.kp F2.b (ea_cons (ev_var 1) ea_nil) ⟨_, rfl, rfl, rfl⟩))) fun _ => ew_or1 (et_not (et_chain op_le op_lt vle vlt ev_int (ev_var 1) (ev_fld (ev_var 0) GC.c GC.n rfl))))) (fun h => ?_) (fun h => ?_)
      · refine st_raiseS (fsD := [("place", D.int i)]) (takes_of rfl rfl rfl rfl) (EP.made rfl rfl rfl hr (ea_cons (ev_var 1) ea_nil) rfl (by decide) rfl rfl) rfl (fun B vs r => by
          cases r with
          | cons r1 rr => cases rr; exact .cons r1 .nil) (kx ?_)
        rintro j hj hlt
        cases hj
        simp [D.whole, hlt] at h
      · refine st_nil (st_nil ?_)
        simp [D.whole] at h
        exact k i.toNat (by congr 1; omega) (by omega)
    · have hxw' : x.whole = false := by simpa using hxw
      refine st_if (et_w (ew_or (q := true) (l := true) (et_not (et_val (ev_call G2 (hr.mono (by omega)) F2.g F2.F.kp F2.b (ea_cons (ev_var 1) ea_nil) ⟨_, rfl, hx, rfl⟩))) fun h => by rw [hxw'] at h; cases h)) (fun h => ?_) (fun h => ?_)
      · refine st_raiseS (fsD := [("place", x)]) (takes_of rfl rfl rfl rfl) (EP.made rfl rfl rfl hr (ea_cons (ev_var 1) ea_nil) rfl (by decide) rfl rfl) rfl (fun B vs r => by
          cases r with
          | cons r1 rr => cases rr; exact .cons r1 .nil) (kx ?_)
        rintro j rfl
        cases hxw'
      · simp at h
end
end G

set_option Elab.async false
set_option maxRecDepth 100000
set_option maxHeartbeats 4000000
set_option linter.all false
/-! Q18: check_place, the error's context known. -/
namespace G
open PySem L2 PyProof.Rows
section
variable {P : Program} {w : World} {K : PySem.W.Frag} {mg : Str → Option Value} {base : Heap} {C fI cc cda : Addr} {oc kV doc pm ct : Value} {od an : Option Addr} {osl : Array (Option Value)}
theorem ok_checkN {Cl f1 f f2 CP : Addr} {fd fd2 : FuncData} (F : Df K mg "check_place" "check_place" sCheckPlace ["graph", "place"] f fd) (GC : GCls K mg Cl f1) (F2 : Df K mg "is_whole" "is_whole" sIsWhole ["value"] f2 fd2) (EP : Err1N P K mg "NoPlace" "place" CP) (T : Bn mg) : FnOk P w K mg base (L2N.CX P w) 2 f fd ["graph", "place"] (spPX K (CCheck Cl CP)) := by
  have G2 : FnOk P w K mg base CX0 1 f2 fd2 ["value"] (spP K CWhole) := ok_isWhole F2 T
  refine fnPXN F.F scCheckPlace (fun ds R RX hC => ?_) (fun cdv A outer s H E ds R RX hr hC => ?_)
  · obtain ⟨n, d, es, x, rfl, _⟩ := hC; rfl
  · obtain ⟨n, d, es, x, rfl, hx, k, kx⟩ := hC
    show ST _ _ [.fr (.ins Cl (graphF n d es)), .fr x] _
    by_cases hxw : x.whole = true
    · obtain ⟨i, rfl⟩ : ∃ i, x = .int i := by cases x <;> first | exact ⟨_, rfl⟩ | cases hxw
      refine st_if (et_w (ew_or (et_not (et_val (ev_call G2 (hr.mono (by omega)) F2.g F2.F.kp F2.b (ea_cons (ev_var 1) ea_nil) ⟨_, rfl, rfl, rfl⟩))) fun _ => ew_or1 (et_not (et_chain op_le op_lt vle vlt ev_int (ev_var 1) (ev_fld (ev_var 0) GC.c GC.n rfl))))) (fun h => ?_) (fun h => ?_)
      · refine st_raiseSN (fsD := [("place", D.int i)]) (L2N.takes_of rfl rfl rfl rfl) (EP.made rfl rfl rfl hr (ea_cons (ev_var 1) ea_nil) rfl (by decide) rfl rfl) rfl (fun B vs r => by
          cases r with
          | cons r1 rr => cases rr; exact .cons r1 .nil) (kx ?_)
        rintro j hj hlt
        cases hj
        simp [D.whole, hlt] at h
      · refine st_nil (st_nil ?_)
        simp [D.whole] at h
        exact k i.toNat (by congr 1; omega) (by omega)
    · have hxw' : x.whole = false := by simpa using hxw
      refine st_if (et_w (ew_or (q := true) (l := true) (et_not (et_val (ev_call G2 (hr.mono (by omega)) F2.g F2.F.kp F2.b (ea_cons (ev_var 1) ea_nil) ⟨_, rfl, hx, rfl⟩))) fun h => by rw [hxw'] at h; cases h)) (fun h => ?_) (fun h => ?_)
      · refine st_raiseSN (fsD := [("place", x)]) (L2N.takes_of rfl rfl rfl rfl) (EP.made rfl rfl rfl hr (ea_cons (ev_var 1) ea_nil) rfl (by decide) rfl rfl) rfl (fun B vs r => by
          cases r with
          | cons r1 rr => cases rr; exact .cons r1 .nil) (kx ?_)
        rintro j rfl
        cases hxw'
      · simp at h
end
end G

set_option Elab.async false
set_option maxRecDepth 100000
set_option maxHeartbeats 4000000
set_option linter.all false
/-! Q17: _law_same, _law_is_integer where an exception is handled. -/
namespace G
open PySem L2 PyProof.Rows
open L2H (HotC RoomH FnH cxH RoomH.mono)
section
variable {P : Program} {w : World} {K : PySem.W.Frag} {mg : Str → Option Value} {base : Heap} {f f2 f3 : Addr} {fd fd2 fd3 : FuncData}
theorem ok_isIntH (F : Df K mg "_law_is_integer" "_law_is_integer" sLawIsInteger ["actual"] f fd) (T : Bn mg) : FnH P w K mg base CX0 1 f fd ["actual"] (spP K CIsInt) := by
  refine fnPH F.F scLawIsInteger (fun ds R hC => ?_) (fun cdv A outer s H E pe ds R hr hc hC => ?_)
  · obtain ⟨n, rfl, _⟩ := hC; rfl
  · obtain ⟨i, rfl, k⟩ := hC
    show ST _ _ [.fr (.int i)] _
    exact st_ret (ev_and (ev_isi (d := .int i) (ev_var 0) rfl kit_int_int T.isinstance T.int (by decide +kernel)) fun _ => ev_one (ev_not (ev_isi (d := .int i) (ev_var 0) rfl kit_int_bool T.isinstance T.bool (by decide +kernel)))) k
theorem same_stepH (F : Df K mg "_law_same" "_law_same" sLawSame ["actual", "due"] f fd) (F2 : Df K mg "_law_is_integer" "_law_is_integer" sLawIsInteger ["actual"] f2 fd2) (T : Bn mg) (n : Nat) (ih : ∀ m, n = m + 1 → FnH P w K mg base CX0 (m + 2) f fd ["actual", "due"] (spP K (CSame m))) : FnH P w K mg base CX0 (n + 2) f fd ["actual", "due"] (spP K (CSame n)) := by
  have G2 : FnH P w K mg base CX0 1 f2 fd2 ["actual"] (spP K CIsInt) := ok_isIntH F2 T
  refine fnPH F.F scLawSame (fun ds R hC => ?_) (fun cdv A outer s H E pe ds R hr hc hC => ?_)
  · obtain ⟨d, rfl, _⟩ := hC; rfl
  · obtain ⟨d, rfl, hd, k⟩ := hC
    show ST _ _ (rSame d) _
    cases hd with
    | tup m l hl hz =>
      have G1 := ih m rfl
      refine st_if (et_val (ev_isi (d := .tup l) (ev_var 1) rfl kit_tuple_tuple T.isinstance T.tuple (by decide +kernel))) (fun _ => ?_) (fun h => nomatch h)
      refine st_if (et_w (ew_or (et_not (et_val (ev_isi (d := .tup l) (ev_var 0) rfl kit_tuple_tuple T.isinstance T.tuple (by decide +kernel)))) fun _ => ew_or1 (et_neI (ev_lenT (ds := l) T.len (ev_var 0)) (ev_lenT (ds := l) T.len (ev_var 1))))) (fun h => ?_) (fun _ => ?_)
      · simp at h
      refine st_nil ?_
      refine st_ret (ev_is (ev_allLH (bs := List.replicate l.length true) hc T.all (el_ofN (en_ofW (ρ2 := rSame (.tup l)) (wn_lcH (own := [("k", 2)]) (PL := fun ds r => ds = rgD 0 l.length ∧ r = rSame (.tup l))
        (fun ds j acc r => ds = rgD 0 l.length ∧ acc = (List.replicate j true).map D.bl ∧ r = rSame (.tup l)) (wi_rangeH (we_of (ev_lenT (ds := l) T.len (ev_var 1)) ⟨_, rfl, by omega, by omega, rfl, rfl⟩) T.range) scLawSame.nd (blkOk_by (N := nLawSame) (sc := defScope sLawSame) (by decide +kernel)) (fun ds r h => ?_) (fun ds j d acc r hd hI => ?_) (fun ds zs r hI => ?_) hc)))) (d' := .bl true) (by simp)) k
      · obtain ⟨rfl, rfl⟩ := h
        exact ⟨⟨rfl, rfl, rfl⟩, by rw [rgD_len]; omega, rfl⟩
      · obtain ⟨rfl, rfl, rfl⟩ := hI
        obtain ⟨hj, rfl⟩ := rgD_get hd
        have g := List.getElem?_eq_getElem hj
        refine ⟨_, _, fun _ _ _ _ _ => tg_name 2 scLawSame.nd, fun _ _ _ _ _ => pts_nilW, fun r h => ?_, fun r h _ _ _ _ _ => ?_⟩
        · obtain ⟨h, _⟩ := h; cases h
        · obtain ⟨_, rfl⟩ := h
          refine we_of (ev_callH G1 hr (HotC.blk hc) F.g F.F.kp F.b (ea_cons (ev_ixT (ds := l) (ev_var 0) (ev_var 2) (wi_cells g)) (ea_cons (ev_ixT (ds := l) (ev_var 1) (ev_var 2) (wi_cells g)) ea_nil)) ⟨_, rfl, hl _ (List.getElem_mem _), rfl⟩) ⟨rfl, ?_, rfl⟩
          rw [List.replicate_succ', List.map_append]
          rfl
      · obtain ⟨rfl, rfl, rfl⟩ := hI
        rw [rgD_len]
        exact ⟨rfl, rfl⟩
    | lst m l hl hz =>
      have G1 := ih m rfl
      refine st_if (et_val (ev_isi (d := .lst l) (ev_var 1) rfl kit_list_tuple T.isinstance T.tuple (by decide +kernel))) (fun h => nomatch h) (fun _ => ?_)
      refine st_nil ?_
      refine st_if (et_val (ev_isi (d := .lst l) (ev_var 1) rfl kit_list_list T.isinstance T.list (by decide +kernel))) (fun _ => ?_) (fun h => nomatch h)
      refine st_if (et_w (ew_or (et_not (et_val (ev_isi (d := .lst l) (ev_var 0) rfl kit_list_list T.isinstance T.list (by decide +kernel)))) fun _ => ew_or1 (et_neI (ev_lenL T.len (el_ofV (ds := l) (ev_var 0))) (ev_lenL T.len (el_ofV (ds := l) (ev_var 1)))))) (fun h => ?_) (fun _ => ?_)
      · simp at h
      refine st_nil ?_
      refine st_ret (ev_is (ev_allLH (bs := List.replicate l.length true) hc T.all (el_ofN (en_ofW (ρ2 := rSame (.lst l)) (wn_lcH (own := [("k", 2)]) (PL := fun ds r => ds = rgD 0 l.length ∧ r = rSame (.lst l))
        (fun ds j acc r => ds = rgD 0 l.length ∧ acc = (List.replicate j true).map D.bl ∧ r = rSame (.lst l)) (wi_rangeH (we_of (ev_lenL T.len (el_ofV (ds := l) (ev_var 1))) ⟨_, rfl, by omega, by omega, rfl, rfl⟩) T.range) scLawSame.nd (blkOk_by (N := nLawSame) (sc := defScope sLawSame) (by decide +kernel)) (fun ds r h => ?_) (fun ds j d acc r hd hI => ?_) (fun ds zs r hI => ?_) hc)))) (d' := .bl true) (by simp)) k
      · obtain ⟨rfl, rfl⟩ := h
        exact ⟨⟨rfl, rfl, rfl⟩, by rw [rgD_len]; omega, rfl⟩
      · obtain ⟨rfl, rfl, rfl⟩ := hI
        obtain ⟨hj, rfl⟩ := rgD_get hd
        have g := List.getElem?_eq_getElem hj
        refine ⟨_, _, fun _ _ _ _ _ => tg_name 2 scLawSame.nd, fun _ _ _ _ _ => pts_nilW, fun r h => ?_, fun r h _ _ _ _ _ => ?_⟩
        · obtain ⟨h, _⟩ := h; cases h
        · obtain ⟨_, rfl⟩ := h
          refine we_of (ev_callH G1 hr (HotC.blk hc) F.g F.F.kp F.b (ea_cons (ev_ixF (ds := l) (ev_var 0) (ev_var 2) (wi_cells g)) (ea_cons (ev_ixF (ds := l) (ev_var 1) (ev_var 2) (wi_cells g)) ea_nil)) ⟨_, rfl, hl _ (List.getElem_mem _), rfl⟩) ⟨rfl, ?_, rfl⟩
          rw [List.replicate_succ', List.map_append]
          rfl
      · obtain ⟨rfl, rfl, rfl⟩ := hI
        rw [rgD_len]
        exact ⟨rfl, rfl⟩
    | non =>
      refine st_if (et_val (ev_isi (d := .non) (ev_var 1) rfl kit_NoneType_tuple T.isinstance T.tuple (by decide +kernel))) (fun h => nomatch h) (fun _ => ?_)
      refine st_nil ?_
      refine st_if (et_val (ev_isi (d := .non) (ev_var 1) rfl kit_NoneType_list T.isinstance T.list (by decide +kernel))) (fun h => nomatch h) (fun _ => ?_)
      refine st_nil ?_
      refine st_if (et_isN (x := .non) (ev_var 1)) (fun _ => ?_) (fun h => nomatch h)
      exact st_ret (ev_isN (x := .non) (ev_var 0)) k
    | bl _ b =>
      refine st_if (et_val (ev_isi (d := .bl b) (ev_var 1) rfl kit_bool_tuple T.isinstance T.tuple (by decide +kernel))) (fun h => nomatch h) (fun _ => ?_)
      refine st_nil ?_
      refine st_if (et_val (ev_isi (d := .bl b) (ev_var 1) rfl kit_bool_list T.isinstance T.list (by decide +kernel))) (fun h => nomatch h) (fun _ => ?_)
      refine st_nil ?_
      refine st_if (et_isN (x := .bl b) (ev_var 1)) (fun h => nomatch h) (fun _ => ?_)
      refine st_nil ?_
      refine st_if (et_val (ev_isi (d := .bl b) (ev_var 1) rfl kit_bool_bool T.isinstance T.bool (by decide +kernel))) (fun _ => ?_) (fun h => nomatch h)
      exact st_ret (ev_is (ev_and (ev_isi (d := .bl b) (ev_var 0) rfl kit_bool_bool T.isinstance T.bool (by decide +kernel)) fun _ => ev_one (ev_eqB (i := b) (j := b) (ev_var 0) (ev_var 1))) (d' := .bl true) (by simp)) k
    | int _ i =>
      refine st_if (et_val (ev_isi (d := .int i) (ev_var 1) rfl kit_int_tuple T.isinstance T.tuple (by decide +kernel))) (fun h => nomatch h) (fun _ => ?_)
      refine st_nil ?_
      refine st_if (et_val (ev_isi (d := .int i) (ev_var 1) rfl kit_int_list T.isinstance T.list (by decide +kernel))) (fun h => nomatch h) (fun _ => ?_)
      refine st_nil ?_
      refine st_if (et_isN (x := .int i) (ev_var 1)) (fun h => nomatch h) (fun _ => ?_)
      refine st_nil ?_
      refine st_if (et_val (ev_isi (d := .int i) (ev_var 1) rfl kit_int_bool T.isinstance T.bool (by decide +kernel))) (fun h => nomatch h) (fun _ => ?_)
      refine st_nil ?_
      refine st_if (et_val (ev_isi (d := .int i) (ev_var 1) rfl kit_int_str T.isinstance T.str (by decide +kernel))) (fun h => nomatch h) (fun _ => ?_)
      refine st_nil ?_
      exact st_ret (ev_is (ev_and (k := true) (ev_callH G2 (hr.mono (by omega)) hc F2.g F2.F.kp F2.b (ea_cons (d := .int i) (ev_var 0) ea_nil) ⟨i, rfl, rfl⟩) fun _ => ev_one (ev_eqI (i := i) (j := i) (ev_var 0) (ev_var 1))) (d' := .bl true) (by simp)) k
    | str _ x =>
      refine st_if (et_val (ev_isi (d := .str x) (ev_var 1) rfl kit_str_tuple T.isinstance T.tuple (by decide +kernel))) (fun h => nomatch h) (fun _ => ?_)
      refine st_nil ?_
      refine st_if (et_val (ev_isi (d := .str x) (ev_var 1) rfl kit_str_list T.isinstance T.list (by decide +kernel))) (fun h => nomatch h) (fun _ => ?_)
      refine st_nil ?_
      refine st_if (et_isN (x := .str x) (ev_var 1)) (fun h => nomatch h) (fun _ => ?_)
      refine st_nil ?_
      refine st_if (et_val (ev_isi (d := .str x) (ev_var 1) rfl kit_str_bool T.isinstance T.bool (by decide +kernel))) (fun h => nomatch h) (fun _ => ?_)
      refine st_nil ?_
      refine st_if (et_val (ev_isi (d := .str x) (ev_var 1) rfl kit_str_str T.isinstance T.str (by decide +kernel))) (fun _ => ?_) (fun h => nomatch h)
      exact st_ret (ev_is (ev_and (ev_isi (d := .str x) (ev_var 0) rfl kit_str_str T.isinstance T.str (by decide +kernel)) fun _ => ev_one (ev_eqS (i := x) (j := x) (ev_var 0) (ev_var 1))) (d' := .bl true) (by simp)) k
theorem ok_sameH (F : Df K mg "_law_same" "_law_same" sLawSame ["actual", "due"] f fd) (F2 : Df K mg "_law_is_integer" "_law_is_integer" sLawIsInteger ["actual"] f2 fd2) (T : Bn mg) : ∀ n, FnH P w K mg base CX0 (n + 2) f fd ["actual", "due"] (spP K (CSame n))
  | 0 => same_stepH F F2 T 0 (fun m h => by omega)
  | n + 1 => same_stepH F F2 T (n + 1) (fun m h => by
    have : m = n := by omega
    subst this
    exact ok_sameH F F2 T m)
end
end G

set_option Elab.async false
set_option maxRecDepth 100000
set_option maxHeartbeats 2000000
set_option linter.all false
/-! G41: try with several clauses, each `except X as n`, n the same name. -/
namespace G
open PySem L2 PyProof.Rows
abbrev SuTS := Addr → Value → Option Addr → TS
/-- what the clauses wish of an exception, the first that takes it -/
def asAll (Kf : PySem.W.Frag) (i : Nat) (out : WX) (EE : Ends) : List (Value × SuTS) → WX
  | [] => out
  | (cl, ts) :: r => wAs Kf cl i ts (asAll Kf i out EE r) EE
inductive AsOk (X : Cx) (n : Str) : List ExceptHandler → List (Value × SuTS) → Prop
  | nil : AsOk X n [] []
  | cons {y : Str} {cl : Value} {ts : SuTS} {b0 : Stmt} {su : List Stmt} {yp hp : Pos} {hs : List ExceptHandler} {l : List (Value × SuTS)} (nm : Names X y cl)
      (su_ : ∀ (xa : Addr) (xo : Obj) (cv : Value) (da : Option Addr) (pl : List (Addr × Obj)), Zc cv da xo → (∃ fs, xo.data = .fields fs) → PSs (X.suite xa ((xa, xo) :: pl)) (b0 :: su) (ts xa cv da)) (r : AsOk X n hs l) :
      AsOk X n (.ExceptHandler (some (.Name y yp)) (some n) (b0 :: su) hp :: hs) ((cl, ts) :: l)
section
variable {X : Cx} {n : Str} {i : Nat} {body : List Stmt} {h0 : ExceptHandler} {hs : List ExceptHandler} {l : List (Value × SuTS)} {tpos : Pos} {tb : WX → TS} {out : WX}
theorem ps_tryAs (stk : X.stack = X.env :: X.outer) (frm : X.env.frame = some X.env.locals) (nd : X.N.Nodup) (ni : X.N[i]? = some n) (loc : X.env.kindOf n = some .local) (tk : Takes X out)
    (pb : ∀ (W1 : WX) (pl : List (Addr × Obj)) (xe : Value → Shared → Prop), Takes (X.tr pl xe) W1 → PassesOwn (model X.prog X.w) X.A X.env xe → PSs (X.tr pl xe) body (tb W1))
    (ph : AsOk X n (h0 :: hs) l) : PS X (.Try body (h0 :: hs) [] [] tpos) (fun EE σ H => tb (asAll X.K i out EE l) EE σ H) := by
  refine ⟨fun pins st σ H EE I w0 => ?_⟩
  have okk := I.ok
  have frs0 : X.A.frames = some (X.env :: X.outer) := by rw [okk.frames, stk]
  have lo : Loc X.env.scope n := .inl loc
  refine wpAny_Try_except ?_
  refine wpAny_mono ((pb (asAll X.K i out EE l) (X.pn ++ pins) (fun ev t1 => wpAny (model X.prog X.w) X.A (noteFrame ev X.env) (fun _ t2 => wpAny (model X.prog X.w) X.A (setFlight ev none) (fun _ t3 =>
    wpAny (model X.prog X.w) X.A (handleBy ev X.env (h0 :: hs)) (SP X pins EE) X.xe t3) X.xe t2) X.xe t1) (fun u t xx => ?_) PassesOwn.looking).run [] st σ H EE (I.toTry _) w0) (fun fl t1 sp => ?_) (fun _ _ z => z)
  · obtain ⟨xa, BB, tI, pins2, σ2, H2, cv, da, rfl, J0, nb, up, sky, na, os, ag, ww⟩ := xx
    have J : Inv X pins σ2 H2 tI := J0.ofTry okk
    have sky2 : Sky BB (X.env :: X.outer) xa (Zc cv da) X.env.locals t.heap := by rw [← stk]; exact sky
    show wpAny (model X.prog X.w) X.A (noteFrame (.ref xa) X.env) _ _ _
    refine Sky.land Zc.steady frs0 frm sky2 fun g3 fl3 up3 => ?_
    have J3 : Inv X pins σ2 H2 { t with heap := g3 } := J.landed nb fl3.1 (up.trans up3) os ag
    obtain ⟨xo3, fs3, xe3, xz3, xd3⟩ := fl3.there
    have out_frames : xa ∉ frs (X.env :: X.outer) := fun hm => by
      obtain ⟨_, o', e', q⟩ := fl3.2.2.1.mem hm
      rw [xe3] at e'
      cases e'
      exact q _ xd3
    have nL : xa ≠ X.env.locals := fun z => out_frames (List.mem_filterMap.mpr ⟨X.env, List.mem_cons_self, by rw [frm, z]⟩)
    have nF : xa ∉ X.fs := fun hm => by
      obtain ⟨ev, he, q⟩ := List.mem_filterMap.mp hm
      exact out_frames (List.mem_filterMap.mpr ⟨ev, List.mem_cons_of_mem _ he, q⟩)
    have S3 := J3.suite xe3 xd3 na nL nF
    have go : ∀ {hs' : List ExceptHandler} {l' : List (Value × SuTS)}, AsOk X n hs' l' → asAll X.K i out EE l' cv da σ2 H2 →
        wpAny (model X.prog X.w) X.A (handleBy (.ref xa) X.env hs') (SP X pins EE) X.xe { t with heap := g3 } := by
      intro hs' l' hk
      induction hk with
      | nil =>
        intro wn
        refine wpAny_handleBy_nil ?_
        obtain ⟨k1, k2, k3, xo, fs, TT, oT, tt, xe, xz, xd, x1, xr⟩ := id fl3
        unfold PySem.passOn
        refine wpAny_bind (wpAny_field xe xd x1 ?_)
        rw [if_neg (by simp : ¬ ((Value.ref TT == Value.none) = true))]
        have fin : wpAny (model X.prog X.w) X.A (setFlight (.ref xa) X.env.frame) (fun _ t4 => wpAny (model X.prog X.w) X.A (throw (.ref xa) : Sem Flow) (SP X pins EE) X.xe t4) X.xe { t with heap := g3 } := by
          rw [frm]
          refine HandSPX.setFlight_upZ fl3 fun g4 gg up4 => wpAny_throw (tk _ _ ?_)
          exact ⟨xa, BB, tI, pins, σ2, H2, cv, da, rfl, J, nb, (up.trans up3).trans up4, .inr (.inr (by rw [stk]; exact gg)), na, os, ag, wn⟩
        first | exact wpAny_bind (wpAny_pure (wpAny_bind fin)) | exact wpAny_bind fin
      | @cons y cl ts b0 su yp hp hs2 l2 nm su_ r ih =>
        intro wn
        obtain ⟨b, xb, yes, no⟩ := wn
        refine wpAny_handleBy_cons (codeAny_handlers_test ?_) (by intro q; cases q)
        have LT : PySem.W.Looks (model X.prog X.w) g3 (typeOf (.ref xa)) cv := fun A Q E t' k q => wpAny_typeOf_ref (k _ _ xe3) (by rw [xz3.1]; exact q)
        have LM := PySem.W.exm_one (M := model X.prog X.w) (J3.kIn) LT xb
        have look : ∀ {Q E : Value → Shared → Prop}, Q cl { t with heap := g3 } → wpAny (model X.prog X.w) (X.A.mark (some (.ref xa))) (eval (.Name y yp) X.env) Q E { t with heap := g3 } := fun {Q E} q => by
          obtain ⟨hg, hdb, hm | ⟨hm, hv, hne⟩⟩ := nm
          · exact ld_glob (X := X.suite xa ((xa, xo3) :: (X.pn ++ pins))) S3 hg hm q hdb
          · exact ld_blt (X := X.suite xa ((xa, xo3) :: (X.pn ++ pins))) S3 hg hm hv q hne hdb
        refine look (LM.here ?_)
        cases b with
        | false => exact ih (no rfl)
        | true =>
          refine codeAny_handlers_suite_as ?_
          refine HandSPX.lands_againZ fl3 fun g4 fl4 up4 => ?_
          have J4 : Inv X pins σ2 H2 { t with heap := g4 } := J.landed nb fl4.1 ((up.trans up3).trans up4) os ag
          obtain ⟨xo4, fs4, xe4, xz4, xd4⟩ := fl4.there
          have S4 := J4.suite xe4 xd4 na nL nF
          refine store_ok (X := X.suite xa ((xa, xo4) :: (X.pn ++ pins))) (v := .ref xa) S4 nd ni lo rfl (fun t5 S5 => ?_) (.inr loc)
          refine wpAny_mono ((su_ xa xo4 cv da (X.pn ++ pins) xz4 ⟨_, xd4⟩).run [] t5 _ H2 _ S5 (yes rfl xa na)) (fun fl t6 sp => ?_) (fun _ _ z => z.elim)
          have ends : ∀ {σ6 : L2.St} {H6 : Hp} {Q : Shared → Prop}, Inv (X.suite xa ((xa, xo4) :: (X.pn ++ pins))) [] σ6 H6 t6 → (∀ t7, Inv X pins (σ6.set i none) H6 t7 → Q t7) →
              wpAny (model X.prog X.w) X.A (do bindName X.env n .none; unbindBehindTheSuite X.env n hp) (fun _ t7 => Q t7) X.xe t6 := fun {σ6 H6 Q} S6 hq => gone_ok (S6.unsuite okk) nd ni loc hq
          cases fl with
          | ret u =>
            obtain ⟨v6, σ6, H6, S6, r6, q6⟩ := sp
            exact ends S6 fun t7 J7 => ⟨_, _, _, J7, r6, q6⟩
          | _ =>
            obtain ⟨σ6, H6, S6, q6⟩ := sp
            exact ends S6 fun t7 J7 => ⟨_, _, J7, q6⟩
    exact go ph ww
  · cases fl with
    | next =>
      obtain ⟨σ2, H2, J2, q⟩ := sp
      exact wpAny_execs_nil ⟨σ2, H2, J2.ofTry okk, q⟩
    | ret u =>
      obtain ⟨v, σ2, H2, J2, r, q⟩ := sp
      exact ⟨v, σ2, H2, J2.ofTry okk, r, q⟩
    | _ =>
      obtain ⟨σ2, H2, J2, q⟩ := sp
      exact ⟨σ2, H2, J2.ofTry okk, q⟩
end
section
variable {X : Cx} {ρ : Rho} {DD : DEnds} {n : Str} {i : Nat}
/-- try: body except A as n: .. except B as n: .. ; QA, QB tell which exceptions go where -/
theorem s_try2 {x y : Str} {ca cb : Value} {body su sv : List Stmt} {b0 c0 : Stmt} {xp hp yp kp tpos : Pos} {TX : Value → Option (List (Str × D)) → Rho → Prop} (nd : X.N.Nodup) (ni : X.N[i]? = some n) (na : Names X x ca) (nb : Names X y cb) (tk : Takes X DD.W)
    (pb : ∀ (W : WX) (pl : List (Addr × Obj)) (xe : Value → Shared → Prop), Takes (X.tr pl xe) W → PassesOwn (model X.prog X.w) X.A X.env xe → ST (X.tr pl xe) body ρ { DD with W := W, ex := TX })
    (px : ∀ cls pay r, TX cls pay r → PySem.W.exmOne X.K cls ca = some true ∨ (PySem.W.exmOne X.K cls ca = some false ∧ PySem.W.exmOne X.K cls cb = some true))
    (pa : ∀ (xa : Addr) (xo : Obj) (cls : Value) (dd : Option Addr) (pl : List (Addr × Obj)) pay r, Zc cls dd xo → (∃ fs, xo.data = .fields fs) → TX cls pay r → PySem.W.exmOne X.K cls ca = some true → (∃ B, PayOk X.K B pay dd) →
      ST (X.suite xa ((xa, xo) :: pl)) (b0 :: su) (r.set i (.fr (excD xa dd pay))) { nx := fun r => DD.nx (r.set i .un), rt := fun d r => DD.rt d (r.set i .un), bk := fun r => DD.bk (r.set i .un), ct := fun r => DD.ct (r.set i .un) })
    (pc : ∀ (xa : Addr) (xo : Obj) (cls : Value) (dd : Option Addr) (pl : List (Addr × Obj)) pay r, Zc cls dd xo → (∃ fs, xo.data = .fields fs) → TX cls pay r → PySem.W.exmOne X.K cls cb = some true → PySem.W.exmOne X.K cls ca = some false → (∃ B, PayOk X.K B pay dd) →
      ST (X.suite xa ((xa, xo) :: pl)) (c0 :: sv) (r.set i (.fr (excD xa dd pay))) { nx := fun r => DD.nx (r.set i .un), rt := fun d r => DD.rt d (r.set i .un), bk := fun r => DD.bk (r.set i .un), ct := fun r => DD.ct (r.set i .un) })
    (stk : X.stack = X.env :: X.outer := by rfl) (frm : X.env.frame = some X.env.locals := by rfl) (loc : X.env.kindOf n = some .local := by rfl) :
    S1 X (.Try body [.ExceptHandler (some (.Name x xp)) (some n) (b0 :: su) hp, .ExceptHandler (some (.Name y yp)) (some n) (c0 :: sv) kp] [] [] tpos) ρ DD := by
  let EE : DEnds := { nx := fun r => DD.nx (r.set i .un), rt := fun d r => DD.rt d (r.set i .un), bk := fun r => DD.bk (r.set i .un), ct := fun r => DD.ct (r.set i .un) }
  refine PS.imp (ps_tryAs (tb := fun W => tST X.K X.N.length ρ { DD with W := W, ex := TX }) (l := [
    (ca, fun xa cls dd E σ H => ∃ q : { q : Option (List (Str × D)) × Rho // TX cls q.1 q.2 ∧ PySem.W.exmOne X.K cls ca = some true ∧ (∃ B, PayOk X.K B q.1 dd) }, tST X.K X.N.length (q.1.2.set i (.fr (excD xa dd q.1.1))) EE E σ H),
    (cb, fun xa cls dd E σ H => ∃ q : { q : Option (List (Str × D)) × Rho // TX cls q.1 q.2 ∧ PySem.W.exmOne X.K cls cb = some true ∧ PySem.W.exmOne X.K cls ca = some false ∧ (∃ B, PayOk X.K B q.1 dd) }, tST X.K X.N.length (q.1.2.set i (.fr (excD xa dd q.1.1))) EE E σ H)])
    stk frm nd ni loc tk pb (.cons na (fun xa xo cls dd pl xz xf => PSs.ex fun q => pa xa xo cls dd pl q.1.1 q.1.2 xz xf q.2.1 q.2.2.1 q.2.2.2) (.cons nb (fun xa xo cls dd pl xz xf => PSs.ex fun q => pc xa xo cls dd pl q.1.1 q.1.2 xz xf q.2.1 q.2.2.1 q.2.2.2.1 q.2.2.2.2) .nil))) ?_
  intro E σ H ⟨w, B, R, hl, g⟩
  refine ⟨w, B, R, hl, g.nx, g.rt, g.bk, g.ct, fun cls pay r σ' B' H' dd hT R' s len po => ?_⟩
  have lt : i < σ'.length := slot_lt (n := 0) ni len
  have goes : Go X.K X.N.length w B' EE { nx := fun σ' H' => E.nx (σ'.set i none) H', rt := E.rt, bk := fun σ' H' => E.bk (σ'.set i none) H', ct := fun σ' H' => E.ct (σ'.set i none) H' } :=
    ⟨fun r2 σ2 B2 H2 h R2 e2 l2 => g.nx _ _ B2 H2 h (R2.drop i) (s.trans e2) (by rw [List.length_set]; exact l2), fun d r2 σ2 B2 H2 v h R2 rv => g.rt d _ _ B2 H2 v h (R2.drop i) rv, fun r2 σ2 B2 H2 h R2 e2 l2 => g.bk _ _ B2 H2 h (R2.drop i) (s.trans e2) (by rw [List.length_set]; exact l2),
      fun r2 σ2 B2 H2 h R2 e2 l2 => g.ct _ _ B2 H2 h (R2.drop i) (s.trans e2) (by rw [List.length_set]; exact l2), fun _ _ _ _ _ _ _ z => z.elim⟩
  rcases px cls pay r hT with e1 | ⟨e1, e2⟩
  · exact ⟨true, e1, fun _ xa _ => ⟨⟨(pay, r), hT, e1, B', po⟩, w, B', R'.putF lt (excD_rep po), by rw [List.length_set]; exact len, goes⟩, fun z => nomatch z⟩
  · exact ⟨false, e1, fun z => (nomatch z), fun _ => ⟨true, e2, fun _ xa _ => ⟨⟨(pay, r), hT, e2, e1, B', po⟩, w, B', R'.putF lt (excD_rep po), by rw [List.length_set]; exact len, goes⟩, fun z => nomatch z⟩⟩
end
end G

set_option Elab.async false
set_option maxRecDepth 100000
set_option maxHeartbeats 4000000
set_option linter.all false
namespace G
open PySem L2 PyProof.Rows
open L2H (HotC RoomH FnH roomH_of RoomH.mono)
local macro_rules | `(tactic| walk_at "rho") => `(tactic| (show (_ : List Slot) = _; (try dsimp only [List.set_cons_succ, List.set_cons_zero, List.map_cons, List.map_nil, List.cons_append, List.nil_append, relend, unR]); all_goals exact rfl))
def toldR : Except (D × Str) (Nat × Nat × Edges) → D
  | .error (e, r) => .tup [.str "refused", e, .str r, .bl true]
  | .ok (n, d, es) => .tup [.str "told", .int (n : Nat), .int (d : Nat), .tup (edgesD (sortE es))]
def CToldG : CP := fun ds R => ∃ nD eD : D, ds = [nD, eD] ∧ nD.plain = true ∧ Two eD ∧ R (toldR (initR nD eD))
def CRow (Cl CP : Addr) : CPX := fun ds R RX => ∃ (n d : Nat) (es : Edges) (x : D), ds = [.ins Cl (graphF n d es), x] ∧ x.plain = true ∧ (∀ i : Nat, x = .int (i : Nat) → i < n → R (.tup (natsD ((tabOf n (sortE es)).getD i [])))) ∧ ((∀ i : Nat, x = .int (i : Nat) → ¬ i < n) → RX (.ref CP) (some [("place", x)]))
def CRaisesG (Cl : Addr) : CP := fun ds R => ∃ (n d : Nat) (es : Edges) (x : D), ds = [.ins Cl (graphF n d es), x] ∧ x.plain = true ∧ Pl 3 x ∧ (∀ i : Nat, x = .int (i : Nat) → ¬ i < n) ∧ R (.bl true)
theorem cmp_edge (e : Nat × Nat) : Cmpd 1 (encE e) := Cmpd.tup fun d hd => by
  rcases (show d = .int (e.1 : Nat) ∨ d = .int (e.2 : Nat) by simpa using hd) with rfl | rfl
  · exact .int _
  · exact .int _
theorem cmp_edges (es : Edges) : Cmpd 2 (.tup (edgesD es)) := Cmpd.tup fun d hd => by
  obtain ⟨e, _, rfl⟩ := List.mem_map.mp (show d ∈ es.map encE from hd)
  exact cmp_edge e
def sameG (n1 : Nat) (es1 : Edges) (n2 : Nat) (es2 : Edges) : Bool := decide (n1 = n2) && PyData.eqv (D.tup (edgesD (sortE es1))).py (D.tup (edgesD (sortE es2))).py
def CEqG (Cl : Addr) : CP := fun ds R => ∃ (n1 d1 n2 d2 : Nat) (es1 es2 : Edges), ds = [.ins Cl (graphF n1 d1 es1), .ins Cl (graphF n2 d2 es2)] ∧ R (.bl (sameG n1 es1 n2 es2))
section
variable {P : Program} {w : World} {K : PySem.W.Frag} {mg : Str → Option Value} {base : Heap} {f f1 f2 f3 f4 f5 : Addr} {fd fd1 fd2 fd3 fd4 fd5 : FuncData} {Cl CB CP CG : Addr}
theorem ok_eqG (F : Fun K "__eq__" "Graph.__eq__" sGraphEq f fd) (GC : GCls K mg Cl f1) (IC : InsC K Cl) (T : Bn mg) : FnOk P w K mg base CX0 1 f fd ["self", "other"] (spP K (CEqG Cl)) := by
  refine fnP F scGraphEq (fun ds R hC => ?_) (fun cdv A outer s H E ds R hr hC => ?_)
  · obtain ⟨n1, d1, n2, d2, es1, es2, rfl, _⟩ := hC; rfl
  · obtain ⟨n1, d1, n2, d2, es1, es2, rfl, k⟩ := hC
    show ST _ _ [.fr (.ins Cl (graphF n1 d1 es1)), .fr (.ins Cl (graphF n2 d2 es2))] _
    refine st_if (et_not (et_val (ev_isIns IC (ev_var 1) GC.g T.isinstance))) (fun h => nomatch h) (fun _ => st_nil ?_)
    refine st_ret (ev_is (ev_and (ev_eqI (i := ((n1 : Nat) : Int)) (j := ((n2 : Nat) : Int)) (ev_fld (ev_var 0) GC.c GC.n rfl) (ev_fld (ev_var 1) GC.c GC.n rfl)) fun _ => ev_one (ev_eqD hr (cmp_edges _) (cmp_edges _) (ev_fld (ev_var 0) GC.c GC.edges rfl) (ev_fld (ev_var 1) GC.c GC.edges rfl))) ?_) k
    refine congrArg D.bl ?_
    unfold sameG
    congr 1
    rw [Bool.eq_iff_iff, decide_eq_true_eq, decide_eq_true_eq]
    omega
theorem ok_row (F : Df K mg "row" "row" sRow ["graph", "place"] f fd) (GC : GCls K mg Cl f1) (G2 : FnOk P w K mg base (L2N.CX P w) 2 f2 fd2 ["graph", "place"] (spPX K (CCheck Cl CP))) (F2 : Df K mg "check_place" "check_place" sCheckPlace ["graph", "place"] f2 fd2) (G5 : FnOk P w K mg base CX0 1 f5 fd5 ["self"] (spP K fun ds R => ∃ (n d : Nat) (es : Edges), ds = [.ins Cl (graphF n d es)] ∧ R (tabD n es))) (b5 : Binds K fd5 ["self"] []) (m5 : Meth K Cl "table" f5) : FnOk P w K mg base (L2N.CX P w) 3 f fd ["graph", "place"] (spPX K (CRow Cl CP)) := by
  refine fnPXN F.F scRow (fun ds R RX hC => ?_) (fun cdv A outer s H E ds R RX hr hC => ?_)
  · obtain ⟨n, d, es, x, rfl, _⟩ := hC; rfl
  · obtain ⟨n, d, es, x, rfl, hx, k, kx⟩ := hC
    have r1 := hr.mono (show 1 ≤ 2 by omega)
    have tk : L2N.Takes _ _ := L2N.takes_of (X := cxOf (L2N.CX P w) P w K mg base nRow "row" (defScope sRow) f cdv A outer s H E) rfl rfl rfl rfl
    show ST _ _ [.fr (.ins Cl (graphF n d es)), .fr x] _
    refine st_cons (M := fun r => (∃ i : Nat, x = .int (i : Nat) ∧ i < n) ∧ r = [.fr (.ins Cl (graphF n d es)), .fr x])
      (s_exprQ (P := fun _ r => (∃ i : Nat, x = .int (i : Nat) ∧ i < n) ∧ r = [.fr (.ins Cl (graphF n d es)), .fr x]) (PX := fun cls pay r => (∀ i : Nat, x = .int (i : Nat) → ¬ i < n) ∧ cls = .ref CP ∧ pay = some [(("place" : Str), x)])
        (qe_callN G2 hr F2.g F2.F.kp F2.b tk (wa_of (ea_cons (ev_var 0) (ea_cons (ev_var 1) ea_nil)) ⟨n, d, es, x, rfl, hx, fun i h1 h2 => ⟨⟨i, h1, h2⟩, rfl⟩, fun h => ⟨h, rfl, rfl⟩⟩)) (fun z r h => h) (fun cls pay r h => ?_)) ?_
    · obtain ⟨h, rfl, rfl⟩ := h
      exact kx h
    rintro _ ⟨⟨i, rfl, hi⟩, rfl⟩
    have sq : Sq n (tabOf n (sortE es)) := (Sq.zero n).fold _
    exact st_ret (ev_ixT (ds := (tabOf n (sortE es)).map fun r => .tup (natsD r)) (ev_meth0 (ev_var 0) GC.c m5 G5 r1 b5 rfl ⟨n, d, es, rfl, rfl⟩) (ev_var 1) (atI_nat (by rw [List.getElem?_map, List.getD_eq_getElem?_getD, List.getElem?_eq_getElem (by rw [sq.1]; exact hi)]; rfl))) (k i rfl hi)
theorem ok_toldG (F : Df K mg "_law_told" "_law_told" sLawTold ["n", "edges"] f fd) (GC : GCls K mg Cl f1) (GI : FnOk P w K mg base (L2.CX P w) 3 f1 fd1 ["self", "n", "edges"] (spO K Cl (CInitX CB))) (b1 : Binds K fd1 ["self", "n", "edges"] []) (gB : mg "BadGraph" = some (.ref CB)) (xB : PySem.W.exmOne K (.ref CB) (.ref CB) = some true) (o1 : ErrF K CB "number") (o2 : ErrF K CB "reason") (eB : ExcC K CB)
    (gG : mg "GapError" = some (.ref CG)) (kG : PySem.W.kitOne K (.ref CB) (.ref CG) = some true) (kV : PySem.W.kitOne K (.ref CB) (.type "ValueError") = some true) (zV : mg "ValueError" = none) (T : Bn mg) : FnOk P w K mg base CX0 5 f fd ["n", "edges"] (spP K CToldG) := by
  refine fnP F.F scLawTold (fun ds R hC => ?_) (fun cdv A outer s H E ds R hr hC => ?_)
  · obtain ⟨nD, eD, rfl, _⟩ := hC; rfl
  · obtain ⟨nD, eD, rfl, hn, he, k⟩ := hC
    let ρ0 : Rho := [.fr nD, .fr eD, .un, .un]
    let TX : Value → Option (List (Str × D)) → Rho → Prop := fun cls pay r => ∃ q, initR nD eD = .error q ∧ cls = .ref CB ∧ pay = some [(("number" : Str), q.1), (("reason" : Str), .str q.2)] ∧ r = ρ0
    show ST _ _ ρ0 _
    refine st_cons (M := fun r => ∃ n d es, initR nD eD = .ok (n, d, es) ∧ r = [.fr nD, .fr eD, .fr (.ins Cl (graphF n d es)), .un]) (s_try (i := 3) (c := .ref CB) (TX := TX) scLawTold.nd rfl ⟨rfl, rfl, .inl gB⟩ takes_no (fun W pn xe tk _ => ?_) (fun cls pay r h => ?_) (fun a oe cls dd pn pay r hz hf h _ hp => ?_)) (fun r h => ?_)
    · refine st_one (M := fun _ => True) (s_asgQ (i := 2) (P := fun z r => ∃ n d es, initR nD eD = .ok (n, d, es) ∧ z = .ins Cl (graphF n d es) ∧ r = ρ0) (PX := TX) (qe_make GC.makes GI hr GC.g b1 tk (wa_of (ea_cons (ev_var 0) (ea_cons (ev_var 1) ea_nil)) ⟨nD, eD, rfl, hn, he, fun q hq => ⟨q, hq, rfl, rfl, rfl⟩, fun n d es h => ⟨n, d, es, h, rfl, rfl⟩⟩)) scLawTold.nd (fun z r h => ?_) (fun cls pay r h => h))
      obtain ⟨n, d, es, h, rfl, rfl⟩ := h
      exact ⟨n, d, es, h, rfl⟩
    · obtain ⟨q, _, rfl, _⟩ := h
      exact ⟨true, xB, fun z => nomatch z⟩
    · obtain ⟨⟨e, t⟩, hq, rfl, rfl, rfl⟩ := h
      obtain ⟨_, dx, vs, rfl, _, _⟩ := hp
      rw [hq] at k
      exact st_ret (ev_tup (ds := [.str "refused", e, .str t, .bl true]) (ea_cons ev_str (ea_cons (ev_errF (i := 3) o1 hz hf rfl) (ea_cons (ev_errF (i := 3) o2 hz hf rfl) (ea_cons (ev_is (ev_and (ev_isF (i := 3) (c := .ref CG) (cv := .ref CG) eB hz hf (fun u h => h) kG (pe_glob rfl gG rfl) T.isinstance) fun _ => ev_one (ev_isF (i := 3) (c := .ty "ValueError") (cv := .type "ValueError") eB hz hf (fun u h => h) kV (pe_bltn rfl zV (by decide +kernel) (v := .ty "ValueError") rfl (by decide) (by decide)) T.isinstance)) rfl) ea_nil)))) (by show 4 ≤ 100000; decide)) k
    · obtain ⟨n, d, es, h, rfl⟩ := h
      rw [h] at k
      exact st_ret (ev_tup (ds := [.str "told", .int (n : Nat), .int (d : Nat), .tup (edgesD (sortE es))]) (ea_cons ev_str (ea_cons (ev_fld (ev_var 2) GC.c GC.n rfl) (ea_cons (ev_fld (ev_var 2) GC.c GC.degree rfl) (ea_cons (ev_fld (ev_var 2) GC.c GC.edges rfl) ea_nil)))) (by show 4 ≤ 100000; decide)) k
theorem ok_raisesG (F : Df K mg "_law_raises" "_law_raises" sLawRaises ["graph", "place"] f fd) (G2 : FnOk P w K mg base (L2N.CX P w) 3 f2 fd2 ["graph", "place"] (spPX K (CRow Cl CP))) (F2 : Df K mg "row" "row" sRow ["graph", "place"] f2 fd2) (LS : Df K mg "_law_same" "_law_same" sLawSame ["actual", "due"] f3 fd3) (LI : Df K mg "_law_is_integer" "_law_is_integer" sLawIsInteger ["actual"] f4 fd4)
    (gP : mg "NoPlace" = some (.ref CP)) (xP : PySem.W.exmOne K (.ref CP) (.ref CP) = some true) (oP : ErrF K CP "place") (eP : ExcC K CP) (gG : mg "GapError" = some (.ref CG)) (kG : PySem.W.kitOne K (.ref CP) (.ref CG) = some true) (T : Bn mg) : FnOk P w K mg base CX0 6 f fd ["graph", "place"] (spP K (CRaisesG Cl)) := by
  have GM3 : FnH P w K mg base CX0 5 f3 fd3 ["actual", "due"] (spP K (CSame 3)) := ok_sameH LS LI T 3
  refine fnP F.F scLawRaises (fun ds R hC => ?_) (fun cdv A outer s H E ds R hr hC => ?_)
  · obtain ⟨n, d, es, x, rfl, _⟩ := hC; rfl
  · obtain ⟨n, d, es, x, rfl, hx, pl, hno, k⟩ := hC
    let ρ0 : Rho := [.fr (.ins Cl (graphF n d es)), .fr x, .un]
    let TX : Value → Option (List (Str × D)) → Rho → Prop := fun cls pay r => cls = .ref CP ∧ pay = some [(("place" : Str), x)] ∧ r = ρ0
    show ST _ _ ρ0 _
    refine st_cons (M := fun _ => False) (s_tryN (i := 2) (c := .ref CP) (TX := TX) scLawRaises.nd rfl ⟨rfl, rfl, .inl gP⟩ takes_noN (fun W pn xe tk _ => ?_) (fun cls pay r h => ?_) (fun a oe cls dd pn pay r hz hf h _ hp => ?_)) (fun r h => h.elim)
    · exact st_one (M := fun _ => True) (s_exprQ (P := fun _ _ => False) (PX := TX) (qe_callN G2 (hr.mono (by omega)) F2.g F2.F.kp F2.b tk (wa_of (ea_cons (ev_var 0) (ea_cons (ev_var 1) ea_nil)) ⟨n, d, es, x, rfl, hx, fun i h1 h2 => hno i h1 h2, fun _ => ⟨rfl, rfl, rfl⟩⟩)) (fun z r h => h.elim) (fun cls pay r h => h))
    · obtain ⟨rfl, _⟩ := h
      exact ⟨true, xP, fun z => nomatch z⟩
    · obtain ⟨rfl, rfl, rfl⟩ := h
      obtain ⟨_, dx, vs, rfl, _, _⟩ := hp
      exact st_ret (ev_is (ev_and (ev_callH GM3 ⟨hr.dp, hr.un⟩ (hot_suite hz hf) LS.g LS.F.kp LS.b (ea_cons (ev_errF (i := 2) oP hz.zc hf rfl) (ea_cons (ev_var 1) ea_nil)) ⟨x, rfl, pl, rfl⟩) fun _ => ev_one (ev_isF (i := 2) (c := .ref CG) (cv := .ref CG) eP hz.zc hf (fun u h => h) kG (pe_glob rfl gG rfl) T.isinstance)) rfl) k
end
end G

set_option Elab.async false
set_option maxRecDepth 100000
set_option maxHeartbeats 4000000
set_option linter.all false
/-! G60: dict([((i, j), k)]): one pair whose key is a tuple. -/
namespace G
open PySem PySem.Spec L2 PyProof.Rows
section
variable {prog : Program} {w : World} {A : Around} {E : Value → Shared → Prop}
theorem dofH_at {K : Type} [DecidableEq K] {knd : HeapKind prog w K} {h h' : Heap} {d : Addr} {xs : List (K × Addr × Value)} (x : h.DictOfH knd d xs) (e : ∀ o, h.get? d = some o → h'.get? d = some o) (his : ∀ y ∈ xs, knd.is h' y.1 y.2.1) : h'.DictOfH knd d xs :=
  let ⟨o, es, ep, h1, h2, h3, h4, _, h6⟩ := x; ⟨o, es, ep, e o h1, h2, h3, h4, his, h6⟩
theorem upd_one {R : Result → Shared → Prop} {S I l b kb : Addr} {ks : List Key} {v : Value} {items : Array Value} {res : Value} {s : Shared} (hh : A.handled = none) (hu : A.units + 1 < cLine) (hlI : l ≠ I) (hSI : S ≠ I) (hSl : S ≠ l) (hbS : b ≠ S) (hbI : b ≠ I) (hkI : kb ≠ I)
    (hi0 : items = #[.ref b]) (htup : IsTup s.heap b #[.ref kb, v]) (hk : (tupleKind (mixKind prog w)).is s.heap ks kb)
    (hit : s.heap.IsListIter I l 0) (hl : s.heap.IsList l items) (hm : s.heap.DictOfH (tupleKind (mixKind prog w)) S [])
    (hR : ∀ h' tk, h'.DictOfH (tupleKind (mixKind prog w)) S [(ks, kb, v)] → (∀ b o, b ≠ S → b ≠ I → s.heap.get? b = some o → h'.get? b = some o) → R (.ok (.ret res)) { s with heap := h', toks := tk }) :
    codeAny (model prog w) A (.builtin "dict.update.loop" ⟨[.ref S, .ref I, .int 0 0, res], []⟩) R s := by
  subst hi0
  refine codeAny_builtin ud_entry ?_
  rw [Around.under_plainId ud_plain _]
  show wpAny _ A.in1 (pyNext (.ref I) >>= _) _ _ s
  refine wpAny_bind (wpAny_pyNext_list_item (x := .ref b) hit hl rfl fun h1 hit1 hs1 => ?_)
  have ht1 : IsTup h1 b #[.ref kb, v] := htup.extBut hs1.extBut hbI
  have hl1 : h1.IsList l #[.ref b] := hl.extBut hs1.extBut hlI
  have kk1 : ∀ c o, c ≠ I → s.heap.get? c = some o → h1.get? c = some o := fun c o hc e => hs1.extBut c o hc e
  have hm1 : h1.DictOfH (tupleKind (mixKind prog w)) S [] := dofH_at hm (fun o e => kk1 S o hSI e) (fun y hy => by simp at hy)
  have hk1 : (tupleKind (mixKind prog w)).is h1 ks kb := by
    obtain ⟨o, its, n, e1, e2, e3, e4⟩ := hk
    exact ⟨o, its, n, kk1 kb o hkI e1, e2, e3, e4⟩
  obtain ⟨o, ho, hc, n, hd⟩ := id ht1
  show wpAny _ A.in1 (holding [Value.ref b] _ >>= _) _ _ _
  refine wpAny_bind (wpAny_holding ?_)
  refine wpAny_bind (wpAny_tryCatch ?_)
  unfold Builtin.Dict.pairItems
  refine wpAny_bind (wpAny_typeOf (T := "tuple") ⟨o, ho, hc⟩ ?_)
  rw [if_pos (by first | decide | rfl | simp)]
  refine wpAny_bind (wpAny_seqItems ho hd (wpAny_pure ?_))
  show wpAny _ A.in1 (holding [Value.ref kb, v] (dictSet S (.ref kb) v)) _ _ _
  refine wpAny_holding (wpAny_dictSet_heap (knd := tupleKind (mixKind prog w)) (k := ks) (by show A.in1.units < cLine; show A.units + 1 < cLine; exact hu) hk1 hm1 (fun h2 hm2 hs2 => ?_))
  have kk2 : ∀ c o, c ≠ S → h1.get? c = some o → h2.get? c = some o := fun c o hc e => hs2.extBut c o hc e
  refine wpAny_pure ⟨plainId_quiet ud_plain _, ?_⟩
  refine codeAny_builtin ud_entry ?_
  rw [Around.under_plainId ud_plain _]
  show wpAny _ A.in1 (pyNext (.ref I) >>= _) _ _ _
  refine wpAny_bind (wpAny_pyNext_list_end (A := A.in1) hh (hit1.at fun o' e => kk2 I o' (Ne.symm hSI) e) (hl1.extBut hs2.extBut (Ne.symm hSl)) (by simp) fun h' he => ?_)
  show wpAny _ A.in1 (Builtin.Dict.addKeywords S [] >>= _) _ _ _
  refine wpAny_bind (wpAny_pure (wpAny_pure ?_))
  have hm3 : h'.DictOfH (tupleKind (mixKind prog w)) S [(ks, kb, v)] := by
    refine dofH_at hm2 (fun o e => he S o hSI e) fun y hy => ?_
    have hy' : y = (ks, kb, v) := by
      have : y ∈ [(ks, kb, v)] := hy
      simpa using this
    subst hy'
    obtain ⟨_, _, _, _, _, _, _, his, _⟩ := hm2
    obtain ⟨o, its, n, e1, e2, e3, e4⟩ := his _ hy
    exact ⟨o, its, n, he kb o hkI e1, e2, e3, e4⟩
  exact hR h' _ hm3 fun c oc h3 h4 e => he c oc h4 (kk2 c oc h3 (kk1 c oc h4 e))
theorem call_dict_one {s : Shared} {l b kb : Addr} {ks : List Key} {v : Value} {ol : Obj} {n : Nat} {Q : Value → Shared → Prop} (hh : A.handled = none) (hu : A.units + 8 < cLine) (hl : s.heap.get? l = some ol) (hc : ol.cls = .type "list") (hd : ol.dict = none)
    (hdat : ol.data = .seq #[.ref b] n) (htup : IsTup s.heap b #[.ref kb, v]) (hk : (tupleKind (mixKind prog w)).is s.heap ks kb)
    (h : ∀ h' tk, h'.DictOfH (tupleKind (mixKind prog w)) s.heap.objs.size [(ks, kb, v)] → (∀ b o, s.heap.get? b = some o → h'.get? b = some o) → Q (.ref s.heap.objs.size) { s with heap := h', toks := tk }) :
    wpAny (model prog w) A (call (.type "dict") [.ref l]) Q E s := by
  refine callType_codes (Q₁ := fun obj s₁ => obj = .ref s.heap.objs.size ∧ s₁ = { s with heap := s.heap.push { cls := .type "dict", data := .dict #[] } }) PySem.F.kt_called_dict (PySem.F.kt_typeCall_dict_1 _) PySem.F.entry_dict_init (kt_code_dict_new _ ⟨rfl, rfl⟩) ?_
  rintro obj s₁ ⟨rfl, rfl⟩
  have hnew : (s.heap.push { cls := .type "dict", data := .dict #[] }).DictOfH (tupleKind (mixKind prog w)) s.heap.objs.size [] := Heap.DictOfH.new s.heap
  have hnT : ({ s with heap := s.heap.push { cls := .type "dict", data := .dict #[] } } : Shared).TypeIs (.ref s.heap.objs.size) "dict" := ⟨_, Heap.get?_push_size _ rfl, rfl⟩
  have k0 : ∀ b o, s.heap.get? b = some o → (s.heap.push { cls := .type "dict", data := .dict #[] }).get? b = some o := fun b o e => Heap.get?_push_of_some _ e
  refine ⟨hnT, PySem.F.args_dict_init_2 _ _, ?_⟩
  unfold Builtin.«dict.__init__»
  refine wpAny_bind ?_
  unfold Builtin.Dict.selfAndRest
  refine wpAny_bind (wpAny_notOrdered_dict hnT ?_)
  show wpAny _ _ (pure (s.heap.objs.size, [Value.ref l])) _ _ _
  refine wpAny_pure ?_
  show wpAny _ _ (Builtin.Dict.updateFrom "dict.__init__" s.heap.objs.size (.ref l) [] .none) _ _ _
  unfold Builtin.Dict.updateFrom
  refine wpAny_bind (wpAny_typeOf (T := "list") ⟨ol, k0 _ _ hl, hc⟩ ?_)
  rw [if_pos (by first | decide | rfl | simp)]
  refine wpAny_bind (miss_list (k0 _ _ hl) hc hdat hd hh fun h1 tk1 hk1 => ?_)
  rw [if_pos (show (none : Option Value).isNone = true from rfl)]
  refine wpAny_bind (wpAny_rule ?_)
  have hl1 : h1.IsList l #[.ref b] := ⟨ol, hk1 _ _ (k0 _ _ hl), hc, n, hdat⟩
  have hS1 : s.heap.objs.size < h1.objs.size := by
    have e : (s.heap.push { cls := .type "dict", data := .dict #[] }).get? s.heap.objs.size = some { cls := .type "dict", data := .dict #[] } := Heap.get?_push_size _ rfl
    exact Heap.lt_size (hk1 _ _ e)
  refine wpAny_bind (wpAny_pyIter_list hl1 ?_)
  have k2 : ∀ b o, h1.get? b = some o → (h1.push { cls := .type "list_iterator", data := .fields #[.ref l, .int 0 0] }).get? b = some o := fun b o e => Heap.get?_push_of_some _ e
  have kk : ∀ b o, s.heap.get? b = some o → (h1.push { cls := .type "list_iterator", data := .fields #[.ref l, .int 0 0] }).get? b = some o := fun b o e => k2 _ _ (hk1 _ _ (k0 _ _ e))
  have hlt : l < s.heap.objs.size := Heap.lt_size hl
  have hb : b < s.heap.objs.size := htup.lt
  have hkis : (tupleKind (mixKind prog w)).is (h1.push { cls := .type "list_iterator", data := .fields #[.ref l, .int 0 0] }) ks kb := by
    obtain ⟨o, its, n, e1, e2, e3, e4⟩ := id hk
    exact ⟨o, its, n, kk kb o e1, e2, e3, e4⟩
  have hkb : kb < s.heap.objs.size := by
    obtain ⟨o, its, n, e1, _⟩ := id hk
    exact Heap.lt_size e1
  have key := upd_one (prog := prog) (w := w) (A := A.in1) (R := wants (fun r s₂ => r = .none ∧ Q (.ref s.heap.objs.size) s₂) E) (S := s.heap.objs.size) (I := h1.objs.size) (l := l) (b := b) (kb := kb) (ks := ks) (v := v) (items := #[.ref b]) (res := Value.none)
    (s := { s with heap := h1.push { cls := .type "list_iterator", data := .fields #[.ref l, .int 0 0] }, toks := tk1 }) hh (by show A.units + 1 + 1 < cLine; omega)
    (Nat.ne_of_lt (Nat.lt_trans hlt hS1)) (Nat.ne_of_lt hS1) (Nat.ne_of_gt hlt) (Nat.ne_of_lt hb) (Nat.ne_of_lt (Nat.lt_trans hb hS1)) (Nat.ne_of_lt (Nat.lt_trans hkb hS1)) rfl
    (htup.keeps fun c o z => kk _ _ z) hkis
    ⟨_, Heap.get?_push_size _ rfl, rfl, rfl⟩ (hl1.at fun o e => k2 _ _ e) (dofH_at hnew (fun o e => k2 _ _ (hk1 _ _ e)) (fun y hy => by simp at hy))
    (fun h' tk hd' k => ⟨rfl, h h' tk hd' fun b o e => k b o (Nat.ne_of_lt (Heap.lt_size e)) (Nat.ne_of_lt (Nat.lt_trans (Heap.lt_size e) hS1)) (kk _ _ e)⟩)
  first
    | exact wpAny_pure ⟨plainId_quiet ud_plain _, key⟩
    | exact wpAny_bind (wpAny_pure (wpAny_pure ⟨plainId_quiet ud_plain _, key⟩))
end
section
variable {X : Cx} {e : Expr} {p : Bool} {ρ ρ1 : Rho} {pos pp : Pos}
theorem call_dictT1 (hcalm : X.calm = true) (hu : X.A.units + 8 < cLine) : CallR X (.type "dict") (fun xs H Q => ∃ (a b kb : Addr) (ks : List Key) (v : V), xs = [.ref a] ∧ SqL X.K H a [.ref b] ∧ SqT X.K H b [.ref kb, v] ∧ H kb = some (.tup (ks.map kV)) ∧
    ∀ p, H p = none → Q (.ref p) (upd H p (.dT [(ks, v)]))) := by
  intro pins s σ H xs us Q I r q
  obtain ⟨a, b, kb, ks, v, ex, hq, hp, hk, q⟩ := q
  subst ex
  obtain ⟨u, eu, rx⟩ := vals1 r
  subst eu
  cases rx
  obtain ⟨its, rv, pl, hz⟩ := I.list hq
  obtain ⟨u1, e1, r1⟩ := vals1 rv
  subst e1
  cases r1
  obtain ⟨its2, rv2, ht, _⟩ := I.tuple hp
  obtain ⟨u2, y, e2, r2, ry⟩ := vals2 rv2
  subst e2
  cases r2
  obtain ⟨o, n, ho, hc, hd, hdat⟩ := pl
  refine call_dict_one (ks := ks) (I.ok.hd hcalm) hu ho hc hd hdat ht (key_of I.hok hk) fun h' tk hd' k => ?_
  have hm : (s.heap.objs.size == sysModules) = false := beq_eq_false_iff_ne.mpr (Nat.ne_of_gt I.big)
  have hkS : kb ≠ s.heap.objs.size := fun z => by rw [z, I.hok.fresh (Nat.le_refl _)] at hk; cases hk
  obtain ⟨od, es, ep, q1, q2, q3, q4, _, q5⟩ := hd'
  exact ⟨.ref s.heap.objs.size, upd H s.heap.objs.size (.dT [(ks, v)]), I.laid (t' := tk) k (Nat.le_refl _) (show ObjOk X.prog X.w _ _ _ (.dT [(ks, v)]) from ⟨by show 1 ≤ sizeLine; decide, hm, [(ks, kb, y)], .cons ⟨rfl, by rw [upd_ne hkS]; exact hk, ry⟩ .nil, od, es, ep, q1, q2, q3, q4, q5⟩), rfl, q _ (I.hok.fresh (Nat.le_refl _))⟩
theorem ev_dictT {i j : Int} {z : D} {k : Nat} (hr : Room k X.A) (hc : X.calm = true) (hm : X.mg "dict" = none) (ha : EV X e p ρ (.lst [.tup [.tup [.int i, .int j], z]]) ρ1) (hg : Gl X "dict" := by rfl) (he : starEach [e] X.env = (false, eval e X.env) :: starEach [] X.env := by rfl) : EV X (.Call (.Name "dict" pp) [e] [] pos) (p && true) ρ .dct ρ1 :=
  PE.imp (L2.pe_callTy (call_dictT1 hc (by have := hr.un; omega)) hg hm (by decide +kernel) (ea_cons ha ea_nil he) (by decide) (by decide) he rfl) fun σ H Q ⟨w, B, R, k⟩ => ⟨w, B, R, fun B1 H1 vs R1 s1 r1 => by
    cases r1 with
    | cons r2 r0 =>
      cases r0
      cases r2 with
      | @lst a xs _ hb r3 =>
        cases r3 with
        | cons q1 q2 =>
          cases q2
          cases q1 with
          | @tup b xs2 _ hb2 q3 =>
            cases q3 with
            | @cons _ _ _ _ q4 q5 =>
              cases q5 with
              | @cons vz _ _ _ rz q6 =>
                cases q6
                cases q4 with
                | @tup kb xs3 _ hb3 q7 =>
                  cases q7 with
                  | cons q8 q9 =>
                    cases q9 with
                    | cons q10 q11 =>
                      cases q11
                      cases q8
                      cases q10
                      refine ⟨a, b, kb, [Sum.inl i, Sum.inl j], vz, rfl, SqL.of (R1.ext _ _ hb), SqT.of (R1.ext _ _ hb2), R1.ext _ _ hb3, fun t ht => ?_⟩
                      have g := Grow.lay (o := .dT [([Sum.inl i, Sum.inl j], vz)]) R1.ext ht
                      exact k _ _ _ (R1.grow g) (s1.add g) (.dct (.inr ⟨_, upd_same⟩))⟩
end
end G

set_option Elab.async false
set_option maxRecDepth 100000
set_option maxHeartbeats 4000000
set_option linter.all false
namespace G
open PySem L2 PyProof.Rows
local macro_rules | `(tactic| walk_at "rho") => `(tactic| (show (_ : List Slot) = _; (try dsimp only [List.set_cons_succ, List.set_cons_zero, List.map_cons, List.map_nil, List.cons_append, List.nil_append, relend, unR]); all_goals exact rfl))
/-! edges as rows, what Graph tells of good ones -/
def encB (b : Bool) (e : Nat × Nat) : D := rowD b [.int (e.1 : Nat), .int (e.2 : Nat)]
theorem fault_encB {n : Nat} {b : Bool} {e : Nat × Nat} (h : e.1 ≤ e.2 ∧ e.2 < n) : faultS n (encB b e) = none := by
  unfold faultS pairOf encB
  rw [row_rowD]
  have q : (0 : Int) ≤ (e.1 : Nat) ∧ ((e.1 : Nat) : Int) ≤ (e.2 : Nat) ∧ ((e.2 : Nat) : Int) < (n : Nat) := by omega
  exact if_pos q
theorem edgeN_encB {b : Bool} {e : Nat × Nat} : edgeN (encB b e) = e := by
  unfold edgeN pairOf encB
  rw [row_rowD]
  rfl
theorem map_encB {b : Bool} (es : Edges) : (es.map (encB b)).map edgeN = es := by
  rw [List.map_map]
  exact (List.map_congr_left fun e _ => edgeN_encB).trans (List.map_id _)
theorem edgesD_encB (es : Edges) : edgesD es = es.map (encB true) := rfl
theorem plain_rowD (b : Bool) (l : List D) : (rowD b l).plain = true := by cases b <;> rfl
theorem two_encB {b1 b2 : Bool} {es : Edges} (h : es.length < 16777216) : Two (rowD b1 (es.map (encB b2))) := by
  refine ⟨plain_rowD _ _, fun l hl => ?_⟩
  rw [row_rowD] at hl
  cases hl
  refine ⟨by rw [List.length_map]; exact h, fun y hy => ?_⟩
  obtain ⟨e, _, rfl⟩ := List.mem_map.mp hy
  refine ⟨plain_rowD _ _, fun m hm => ?_⟩
  unfold encB at hm
  rw [row_rowD] at hm
  cases hm
  refine ⟨by show 2 < 16777216; decide, fun z hz => ?_⟩
  rcases (show z = .int (e.1 : Nat) ∨ z = .int (e.2 : Nat) by simpa using hz) with rfl | rfl <;> rfl
theorem degR_reg {n d : Nat} {es : Edges} (h : Reg n d es) (hn : 1 ≤ n) : degR n es = if 64 < d then .error (.non, "degree") else .ok (n, d, es) := by
  have e0 : ∀ p, p < n → (endsOf n es).getD p 0 = d := fun p hp => by rw [endsOf_dg h.1]; exact h.2 p hp
  have o : oddAt (endsOf n es) = none := oddAt_none fun j hj => by
    rw [endsOf_len] at hj
    rw [e0 j hj, e0 0 (by omega)]
  have z := e0 0 (by omega)
  by_cases c : 64 < d
  · rw [if_pos c]; exact degR_many o (by omega)
  · rw [if_neg c, degR_ok o (by omega), z]
theorem initR_good {n : Nat} {b : Bool} {l : List D} (hn : 1 ≤ n) (hn2 : n ≤ 64) (hl : ∀ x ∈ l, faultS n x = none) : initR (.int (n : Nat)) (rowD b l) = if 4096 < l.length then .error (.non, "count") else degR n (l.map edgeN) := by
  rw [initR_in (by omega), Int.toNat_natCast, edgesR_row]
  by_cases c : 4096 < l.length
  · rw [if_pos c, rowsR_many c]
  · rw [if_neg c, rowsR_ok c (firstF_all hl)]
theorem initR_ok {n : Nat} {b1 b2 : Bool} {es : Edges} (hn : 1 ≤ n) (hn2 : n ≤ 64) (ok : EdgeOk n es) : initR (.int (n : Nat)) (rowD b1 (es.map (encB b2))) = if 4096 < es.length then .error (.non, "count") else degR n es := by
  rw [initR_good hn hn2 (fun x hx => by
    obtain ⟨e, he, rfl⟩ := List.mem_map.mp hx
    exact fault_encB (ok e he)), map_encB, List.length_map]
theorem initR_reg {n d : Nat} {b1 b2 : Bool} {es : Edges} (hn : 1 ≤ n) (hn2 : n ≤ 64) (h : Reg n d es) : initR (.int (n : Nat)) (rowD b1 (es.map (encB b2))) = if 4096 < es.length then .error (.non, "count") else if 64 < d then .error (.non, "degree") else .ok (n, d, es) := by
  rw [initR_ok hn hn2 h.1, degR_reg h hn]
/-! many edges -/
def loopsL (n : Nat) : Edges := (List.range n).map fun p => (p, p)
def pairsL (n : Nat) : Edges := (List.range (n / 2)).map fun p => (2 * p, 2 * p + 1)
def timesE (k : Nat) (es : Edges) : Edges := (List.replicate k es).flatten
theorem reg_times {n : Nat} {es : Edges} (h : Reg n 1 es) : ∀ k, Reg n k (timesE k es)
  | 0 => Reg.nil n
  | k + 1 => by
    have q := h.app (reg_times h k)
    rw [Nat.add_comm] at q
    exact q
theorem times_len (k : Nat) (es : Edges) : (timesE k es).length = k * es.length := by
  induction k with
  | zero => simp [timesE]
  | succ k ih =>
    have : timesE (k + 1) es = es ++ timesE k es := rfl
    rw [this, List.length_append, ih, Nat.succ_mul]; omega
theorem times_D (k : Nat) (es : Edges) : (List.replicate k (edgesD es)).flatten = edgesD (timesE k es) := by
  induction k with
  | zero => rfl
  | succ k ih =>
    have : timesE (k + 1) es = es ++ timesE k es := rfl
    rw [List.replicate_succ, List.flatten_cons, ih, this, edgesD_app]
theorem reg_loops (n : Nat) : Reg n 1 (loopsL n) := by
  refine ⟨fun e he => ?_, fun p hp => ?_⟩
  · obtain ⟨v, hv, rfl⟩ := List.mem_map.mp he
    exact ⟨Nat.le_refl _, List.mem_range.mp hv⟩
  · have e : endsL (loopsL n) = List.range n := by
      unfold endsL loopsL
      rw [List.flatMap_map]
      have : ∀ l : List Nat, (l.flatMap fun a => ends1 (a, a)) = l := fun l => by
        induction l with
        | nil => rfl
        | cons a l ih => rw [List.flatMap_cons, ih]; simp [ends1]
      exact this _
    unfold dg
    rw [e, count_range, if_pos hp]
instance (n : Nat) (es : Edges) : Decidable (EdgeOk n es) := by unfold EdgeOk; infer_instance
instance (n d : Nat) (es : Edges) : Decidable (Reg n d es) := by unfold Reg; infer_instance
theorem reg_pairs {n : Nat} (h : n = 2 ∨ n = 64) : Reg n 1 (pairsL n) := by
  rcases h with rfl | rfl <;> decide +kernel
def CEndsL : CP := fun ds R => ∃ (n : Nat) (es : Edges), ds = [.int (n : Nat), .lst (edgesD es)] ∧ n ≤ 64 ∧ EdgeOk n es ∧ R (.lst (natsD (endsOf n es)))
def CManySo : CM := fun ws ds R => ∃ q : Pool, ds = [] ∧ ws = q.enc ∧ q.Ok ∧ ∀ q' : Pool, q'.Ok → R (.bl true) q'.enc
abbrev rMany (a : Addr) (q : Pool) (n : Nat) (s2 s3 s4 : Slot) : Rho := [.pr a (.l q.enc), .fr (.int (n : Nat)), s2, s3, s4, .un]
section
variable {P : Program} {w : World} {K : PySem.W.Frag} {mg : Str → Option Value} {base : Heap} {f f1 f2 f3 f4 f5 : Addr} {fd fd1 fd2 fd3 fd4 fd5 : FuncData} {Cl CB CP CG : Addr}
abbrev rEndsL (n : Nat) (es : Edges) (a : Addr) (l : List Nat) (s3 s4 : Slot) : Rho := [.fr (.int (n : Nat)), .fr (.lst (edgesD es)), .ow a (.l (natsD l)), s3, s4]
theorem ok_lawEnds (F : Df K mg "_law_ends" "_law_ends" sLawEnds ["n", "edges"] f fd) (T : Bn mg) : FnOk P w K mg base CX0 1 f fd ["n", "edges"] (spP K CEndsL) := by
  refine fnP F.F scLawEnds (fun ds R hC => ?_) (fun cdv A outer s H E ds R hr hC => ?_)
  · obtain ⟨n, es, rfl, _⟩ := hC; rfl
  · obtain ⟨n, es, rfl, hn, hes, k⟩ := hC
    show ST _ _ [.fr (.int (n : Nat)), .fr (.lst (edgesD es)), .un, .un, .un] _
    have at1 : ∀ (l : List Nat) (j : Nat), j < l.length → L2.atI (natsD l) (j : Int) = some (.int ((l.getD j 0 : Nat) : Nat)) := fun l j hj => natsD_at (by rw [List.getD_eq_getElem?_getD, List.getElem?_eq_getElem hj]; rfl)
    have ix1 : ∀ (l : List Nat) (j : Nat), j < l.length → ixN (natsD l).length (j : Int) = some j := fun l j hj => by rw [natsD_len]; exact ixN_of hj
    refine st_new (i := 2) (ds := natsD (List.replicate n 0)) (en_is (en_rep1 (z := .int 0) (i := (n : Nat)) (ev_lst (ds := [.int 0]) (ea_cons ev_int ea_nil) (by show 1 ≤ 100000; decide)) (ev_var 0) (by omega) (by omega)) ?_) scLawEnds.nd (fun a => ?_)
    · unfold natsD
      rw [List.map_replicate]
      rfl
    show ST _ _ (rEndsL n es a (List.replicate n 0) .un .un) _
    refine st_cons (M := fun r => ∃ s3 s4, r = rEndsL n es a (endsOf n es) s3 s4)
      (s_for (js := [3, 4]) (fun i r => ∃ s3 s4, r = rEndsL n es a ((es.take i).foldl endsStep (List.replicate n 0)) s3 s4) (it_list (ev_var 1)) ⟨.un, .un, rfl⟩ (fun i d r hd hI => ?_) (fun r hI => ?_)) (fun r hM => ?_)
    · obtain ⟨s3, s4, rfl⟩ := hI
      obtain ⟨e, he, rfl⟩ := map_get hd
      have hok := hes e (List.mem_of_getElem? he)
      rw [foldl_take he]
      generalize hl0 : (es.take i).foldl endsStep (List.replicate n 0) = l
      have hl : l.length = n := by rw [← hl0, endsFold_len, List.length_replicate]
      refine ⟨_, tg_tup2 (tg_name 3 scLawEnds.nd) (tg_name 4 scLawEnds.nd), ?_⟩
      refine st_to (ρ2 := rEndsL n es a (bump l e.1) (.fr (.int (e.1 : Nat))) (.fr (.int (e.2 : Nat)))) (s_setI 2 (j := e.1) (ev_add (ev_ixL (el_own 2) (ev_var 3) (at1 l e.1 (by omega))) ev_int) (ev_var 3) rfl (.inl rfl) (ix1 l e.1 (by omega)) ?_) ?_
      · show (_ : List Slot) = _
        unfold rEndsL
        rw [natsD_bump]
        rfl
      refine st_one (M := fun _ => True) (s_if (et_neI (ev_var 3) (ev_var 4)) (fun h => ?_) (fun h => ?_))
      · have ne : ¬ e.2 = e.1 := by
          have : ¬ ((e.1 : Nat) : Int) = (e.2 : Nat) := by simpa using h
          omega
        have hl2 := bump_len l e.1
        refine st_one (M := fun _ => True) (s_setI 2 (j := e.2) (ev_add (ev_ixL (el_own 2) (ev_var 4) (at1 (bump l e.1) e.2 (by omega))) ev_int) (ev_var 4) rfl (.inl rfl) (ix1 (bump l e.1) e.2 (by omega)) ?_)
        refine ⟨.fr (.int (e.1 : Nat)), .fr (.int (e.2 : Nat)), ?_⟩
        unfold rEndsL endsStep
        rw [if_neg ne, natsD_bump (l := bump l e.1)]
        rfl
      · have ne : e.2 = e.1 := by
          have : ((e.1 : Nat) : Int) = (e.2 : Nat) := by simpa using h
          omega
        refine st_nil ⟨.fr (.int (e.1 : Nat)), .fr (.int (e.2 : Nat)), ?_⟩
        unfold endsStep
        rw [if_pos ne]
    · obtain ⟨s3, s4, rfl⟩ := hI
      refine ⟨s3, s4, ?_⟩
      rw [edgesD_len, List.take_length]
      rfl
    · obtain ⟨s3, s4, rfl⟩ := hM
      exact st_ret (ev_give 2) k
end
end G

set_option Elab.async false
set_option maxRecDepth 100000
set_option maxHeartbeats 4000000
set_option linter.all false
namespace G
open PySem L2 PyProof.Rows
local macro_rules | `(tactic| walk_at "rho") => `(tactic| (show (_ : List Slot) = _; (try dsimp only [List.set_cons_succ, List.set_cons_zero, List.map_cons, List.map_nil, List.cons_append, List.nil_append, relend, unR]); all_goals exact rfl))
def toldM (n k : Nat) (es : Edges) : D := toldR (if 4096 < es.length then .error (.non, "count") else if 64 < k then .error (.non, "degree") else .ok (n, k, es))
def goodD (n k : Nat) (es : Edges) : D := .tup [.str "told", .int (n : Nat), .int (k : Nat), .tup (edgesD (sortE es))]
def badD (e : D) (s : Str) : D := .tup [.str "refused", e, .str s, .bl true]
theorem toldM_ok {n k : Nat} {es : Edges} (h : ¬ 4096 < es.length) (hk : ¬ 64 < k) : toldM n k es = goodD n k es := by unfold toldM; rw [if_neg h, if_neg hk]; rfl
theorem toldM_count {n k : Nat} {es : Edges} (h : 4096 < es.length) : toldM n k es = badD .non "count" := by unfold toldM; rw [if_pos h]; rfl
theorem toldM_deg {n k : Nat} {es : Edges} (h : ¬ 4096 < es.length) (hk : 64 < k) : toldM n k es = badD .non "degree" := by unfold toldM; rw [if_neg h, if_pos hk]; rfl
theorem cmp_good (n k : Nat) (es : Edges) : Cmpd 3 (goodD n k es) := Cmpd.tup fun d hd => by
  rcases (show d = .str "told" ∨ d = .int (n : Nat) ∨ d = .int (k : Nat) ∨ d = .tup (edgesD (sortE es)) by simpa using hd) with rfl | rfl | rfl | rfl
  · exact .str (by decide +kernel)
  · exact .int _
  · exact .int _
  · exact cmp_edges _
theorem cmp_bad {s : Str} (h : (PyData.str s).canLay0 = true) : Cmpd 3 (badD .non s) := Cmpd.tup fun d hd => by
  rcases (show d = .str "refused" ∨ d = .non ∨ d = .str s ∨ d = .bl true by simpa using hd) with rfl | rfl | rfl | rfl
  · exact .str (by decide +kernel)
  · exact .non
  · exact .str h
  · exact .bl _
section
variable {P : Program} {w : World} {K : PySem.W.Frag} {mg : Str → Option Value} {base : Heap} {f f1 f2 f3 f4 f5 : Addr} {fd fd1 fd2 fd3 fd4 fd5 : FuncData} {Cl CB CP CG : Addr}
theorem ok_manySo (F : Df K mg "_law_many_so" "_law_many_so" sLawManySo ["pool"] f fd) (F1 : Df K mg "_law_pick" "_law_pick" sLawPick ["pool", "rows"] f1 fd1) (F2 : Df K mg "_law_take" "_law_take" sLawTake ["pool", "many"] f2 fd2) (G3 : FnOk P w K mg base CX0 5 f3 fd3 ["n", "edges"] (spP K CToldG)) (F3 : Df K mg "_law_told" "_law_told" sLawTold ["n", "edges"] f3 fd3)
    (T : Bn mg) : FnOk P w K mg base CX0 6 f fd ["pool"] (spM K CManySo) := by
  have G1 : FnOk P w K mg base CX0 3 f1 fd1 ["pool", "rows"] (spM K CPick) := ok_pick F1 F2 T
  have G2 : FnOk P w K mg base CX0 2 f2 fd2 ["pool", "many"] (spM K CTake) := ok_take F2 T
  refine fnM F.F scLawManySo (fun ws ds R hC => ?_) (fun cdv A outer s H E a ws ds R hr hC => ?_)
  · obtain ⟨q, rfl, _⟩ := hC; rfl
  · obtain ⟨q0, rfl, rfl, ok0, kk⟩ := hC
    have r2 := hr.mono (show 2 ≤ 5 by omega)
    have r3 := hr.mono (show 3 ≤ 5 by omega)
    show ST _ _ [.pr a (.l q0.enc), .un, .un, .un, .un, .un] _
    refine st_cons (M := fun r => ∃ (n : Nat) (q : Pool), (n = 1 ∨ n = 2 ∨ n = 7 ∨ n = 64) ∧ q.Ok ∧ r = rMany a q n .un .un .un)
      (s_asgW (i := 1) (P := fun z r => ∃ (n : Nat) (q : Pool), (n = 1 ∨ n = 2 ∨ n = 7 ∨ n = 64) ∧ q.Ok ∧ z = .int (n : Nat) ∧ r = [.pr a (.l q.enc), .un, .un, .un, .un, .un])
        (we_callM 0 G1 r3 F1.g F1.F.kp F1.b rfl (.inr rfl) (wa_of (ea_cons (ev_lst (ds := [.int 1, .int 2, .int 7, .int 64]) (ea_cons ev_int (ea_cons ev_int (ea_cons ev_int (ea_cons ev_int ea_nil)))) (by show 4 ≤ 100000; decide)) ea_nil) ⟨_, rfl, _, q0, rfl, by show 0 < 4; decide, by show 4 ≤ 16777216; decide, rfl, ok0, fun i o q' ho ok' => ?_⟩)) scLawManySo.nd (fun z r h => ?_)) ?_
    · have hm := List.mem_of_getElem? ho
      have hm : o = .int 1 ∨ o = .int 2 ∨ o = .int 7 ∨ o = .int 64 := by simpa using hm
      rcases hm with rfl | rfl | rfl | rfl
      · exact ⟨1, q', by omega, ok', rfl, rfl⟩
      · exact ⟨2, q', by omega, ok', rfl, rfl⟩
      · exact ⟨7, q', by omega, ok', rfl, rfl⟩
      · exact ⟨64, q', by omega, ok', rfl, rfl⟩
    · obtain ⟨n, q, hn, ok, rfl, rfl⟩ := h
      exact ⟨n, q, hn, ok, rfl⟩
    rintro _ ⟨n, q1, hn, ok1, rfl⟩
    have hn1 : 1 ≤ n := by omega
    have hn2 : n ≤ 64 := by omega
    refine st_cons (M := fun r => ∃ (q : Pool) (s2 s3 s4 : Slot), q.Ok ∧ r = rMany a q n s2 s3 s4)
      (s_for (js := [2]) (fun i r => ∃ (q : Pool) (s2 s3 s4 : Slot), q.Ok ∧ r = rMany a q n s2 s3 s4) (it_tup (ds := [.int 64, .int 65]) (ev_tup (ds := [.int 64, .int 65]) (ea_cons ev_int (ea_cons ev_int ea_nil)) (by show 2 ≤ 100000; decide))) ⟨q1, .un, .un, .un, ok1, rfl⟩ (fun i x r hx hI => ?_) (fun r hI => hI)) ?_
    · obtain ⟨q, s2, s3, s4, ok, rfl⟩ := hI
      obtain ⟨k, hk, rfl⟩ : ∃ k : Nat, (k = 64 ∨ k = 65) ∧ x = .int (k : Nat) := by
        have hm : x = .int 64 ∨ x = .int 65 := by simpa using List.mem_of_getElem? hx
        rcases hm with rfl | rfl
        · exact ⟨64, .inl rfl, rfl⟩
        · exact ⟨65, .inr rfl, rfl⟩
      refine ⟨_, tg_name 2 scLawManySo.nd, ?_⟩
      show ST _ _ (rMany a q n (.fr (.int (k : Nat))) s3 s4) _
      have hlo : (loopsL n).length = n := by unfold loopsL; rw [List.length_map, List.length_range]
      have hmul : n * k ≤ 64 * 65 := Nat.mul_le_mul hn2 (by omega)
      have tk : ((k : Nat) : Int).toNat = k := by omega
      have tn : ((n : Nat) : Int).toNat = n := by omega
      refine st_to (ρ2 := rMany a q n (.fr (.int (k : Nat))) (.fr (.lst (edgesD (timesE k (loopsL n))))) s4) (s_asg (i := 3) (ev_is (ev_ofN (en_rep (ev_ofN (en_map (own := [("place", 5)]) (zs := edgesD (loopsL n)) (it_range (n := ((n : Nat) : Int)) (ev_var 1) T.range (by omega) (by omega))
        ⟨scLawManySo.nd, blkOk_by (N := nLawManySo) (sc := defScope sLawManySo) (by decide +kernel), rfl, by rw [rgD_len]; omega, rfl, by rw [rgD_len, edgesD_len, hlo, tn], fun j z o hz ho => ?_⟩)) (ev_var 2) (by omega) (by omega) (by rw [edgesD_len, hlo, tk]; omega))) (d' := .lst (edgesD (timesE k (loopsL n)))) (by rw [tk, times_D])) scLawManySo.nd (by walk_at "rho")) ?_
      · obtain ⟨hj, rfl⟩ := rgD_get hz
        have hj' : j < n := by omega
        unfold edgesD loopsL at ho
        rw [List.map_map, List.getElem?_map, List.getElem?_range hj'] at ho
        cases ho
        refine ⟨_, _, _, fun _ _ _ _ _ => tg_name 5 scLawManySo.nd, fun _ _ _ _ _ => ev_is (ev_tup (ds := [.int (0 + (j : Nat)), .int (0 + (j : Nat))]) (ea_cons (ev_var 5) (ea_cons (ev_var 5) ea_nil)) (by show 2 ≤ 100000; decide)) ?_, rfl⟩
        rw [Int.zero_add]; rfl
      refine st_cons (M := fun r => ∃ (q : Pool) (es : Edges), q.Ok ∧ Reg n k es ∧ es.length ≤ n * k ∧ r = rMany a q n (.fr (.int (k : Nat))) (.fr (.lst (edgesD es))) s4)
        (s_ifW (PB := fun bb r => ∃ q : Pool, (bb = true → n % 2 = 0) ∧ q.Ok ∧ r = rMany a q n (.fr (.int (k : Nat))) (.fr (.lst (edgesD (timesE k (loopsL n))))) s4)
          (wt_w (ww_and (PB := fun bb r => (bb = true → n % 2 = 0) ∧ r = rMany a q n (.fr (.int (k : Nat))) (.fr (.lst (edgesD (timesE k (loopsL n))))) s4) (wt_of (et_eqI (ev_mod (ev_var 1) ev_int (by decide)) ev_int) ⟨fun h => ?_, rfl⟩) (fun r h => ?_) (fun r h => ?_))) (fun r h => ?_) (fun r h => ?_)) ?_
      · have h := of_decide_eq_true h
        omega
      · obtain ⟨he, rfl⟩ := h
        refine ww_and1 (wt_cmp op_eq (P := fun x r => ∃ (v : Nat) (q2 : Pool), q2.Ok ∧ x = .int (v : Nat) ∧ r = rMany a q2 n (.fr (.int (k : Nat))) (.fr (.lst (edgesD (timesE k (loopsL n))))) s4) (P2 := fun _ r y r2 => y = .int 0 ∧ r2 = r)
          (we_callM 0 G2 r2 F2.g F2.F.kp F2.b rfl (.inr rfl) (wa_of (ea_cons ev_int ea_nil) ⟨_, rfl, 2, rfl, by decide, small8 (by decide), q, rfl, ok, fun v q2 hv ok2 => ⟨v, q2, ok2, rfl, rfl⟩⟩)) (fun x r h => we_of ev_int ⟨rfl, rfl⟩) rfl (fun x ra y rb h h2 => ?_))
        obtain ⟨v, q2, ok2, rfl, rfl⟩ := h
        obtain ⟨rfl, rfl⟩ := h2
        exact ⟨_, veqI, q2, fun _ => he rfl, ok2, rfl⟩
      · obtain ⟨_, rfl⟩ := h
        exact ⟨q, (fun z => nomatch z), ok, rfl⟩
      · obtain ⟨q, he, ok, rfl⟩ := h
        have he := he rfl
        have hpa : (pairsL n).length = n / 2 := by unfold pairsL; rw [List.length_map, List.length_range]
        have th : ((n : Int) / 2).toNat = n / 2 := by omega
        have hmul2 : n / 2 * k ≤ n * k := Nat.mul_le_mul_right _ (by omega)
        refine st_to (ρ2 := rMany a q n (.fr (.int (k : Nat))) (.fr (.lst (edgesD (timesE k (pairsL n))))) s4) (s_asg (i := 3) (ev_is (ev_ofN (en_rep (ev_ofN (en_map (own := [("place", 5)]) (zs := edgesD (pairsL n)) (it_range (n := (n : Int) / 2) (ev_intI T.int (ev_fdiv (ev_var 1) ev_int (cdivw (by omega) (by decide)))) T.range (by omega) (by omega))
          ⟨scLawManySo.nd, blkOk_by (N := nLawManySo) (sc := defScope sLawManySo) (by decide +kernel), rfl, by rw [rgD_len]; omega, rfl, by rw [rgD_len, edgesD_len, hpa, th], fun j z o hz ho => ?_⟩)) (ev_var 2) (by omega) (by omega) (by rw [edgesD_len, hpa, tk]; omega))) (d' := .lst (edgesD (timesE k (pairsL n)))) (by rw [tk, times_D])) scLawManySo.nd (by walk_at "rho")) ?_
        · obtain ⟨hj, rfl⟩ := rgD_get hz
          have hj' : j < n / 2 := by omega
          unfold edgesD pairsL at ho
          rw [List.map_map, List.getElem?_map, List.getElem?_range hj'] at ho
          cases ho
          refine ⟨_, _, _, fun _ _ _ _ _ => tg_name 5 scLawManySo.nd, fun _ _ _ _ _ => ev_is (ev_tup (ds := [.int (2 * (0 + (j : Int))), .int (2 * (0 + (j : Int)) + 1)]) (ea_cons (ev_mul ev_int (ev_var 5) (cmul_l (by decide))) (ea_cons (ev_add (ev_mul ev_int (ev_var 5) (cmul_l (by decide))) ev_int) ea_nil)) (by show 2 ≤ 100000; decide)) ?_, rfl⟩
          rw [Int.zero_add]; rfl
        · exact st_nil ⟨q, _, ok, reg_times (reg_pairs (by omega)) k, by rw [times_len, hpa, Nat.mul_comm]; exact hmul2, rfl⟩
      · obtain ⟨q, _, ok, rfl⟩ := h
        exact st_nil ⟨q, _, ok, reg_times (reg_loops n) k, by rw [times_len, hlo, Nat.mul_comm]; exact Nat.le_refl _, rfl⟩
      rintro _ ⟨q, es, ok, hreg, hlen, rfl⟩
      refine st_to (ρ2 := rMany a q n (.fr (.int (k : Nat))) (.fr (.lst (edgesD es))) (.fr (toldM n k es))) (s_asg (i := 4) (ev_call G3 hr F3.g F3.F.kp F3.b (ea_cons (ev_var 1) (ea_cons (ev_var 3) ea_nil)) ⟨_, _, rfl, rfl, two_encB (b1 := false) (b2 := true) (by omega), congrArg toldR (initR_reg (b1 := false) (b2 := true) hn1 hn2 hreg)⟩) scLawManySo.nd (by walk_at "rho")) ?_
      have few : k = 64 → ¬ 4096 < es.length := fun h => by
        have := hreg.few64 hn2 (by omega)
        omega
      refine st_cons (M := fun r => r = rMany a q n (.fr (.int (k : Nat))) (.fr (.lst (edgesD es))) (.fr (toldM n k es)))
        (s_if (et_w (ew_and (q := true) (l := false) (et_eqI (ev_var 2) ev_int) fun h => ?_)) (fun h => by simp at h) (fun _ => st_nil rfl)) ?_
      · have h : k = 64 := by have := of_decide_eq_true h; omega
        have e := toldM_ok (n := n) (k := k) (few h) (by omega)
        refine ew_and1 (et_is (et_neD (m := 3) hr (d := toldM n k es) (e := goodD n k es) (by rw [e]; exact cmp_good _ _ _) (cmp_good _ _ _) (ev_var 4)
          (ev_is (ev_tup (ds := [.str "told", .int (n : Nat), .int 64, .tup (edgesD (sortE es))]) (ea_cons ev_str (ea_cons (ev_var 1) (ea_cons ev_int (ea_cons (ev_is (ev_tupleL T.tuple (el_ofN (en_sortP (es := es.map toI) T.sorted (el_ofV (ev_is (ev_var 3) (by rw [edgesD_pair])))))) (by rw [sort_edges])) ea_nil)))) (by show 4 ≤ 100000; decide)) (by subst h; rfl))) ?_)
        rw [e, (cmp_good n k es).refl]; rfl
      rintro _ rfl
      refine st_one (M := fun _ => True) (s_if (et_w (ew_and (q := true) (l := false) (et_eqI (ev_var 2) ev_int) fun h => ?_)) (fun h => by simp at h) (fun _ => st_nil ⟨q, _, _, _, ok, rfl⟩))
      have h : k = 65 := by have := of_decide_eq_true h; omega
      by_cases c : 4096 < es.length
      · have e := toldM_count (n := n) (k := k) c
        refine ew_and1 (et_is (et_neD (m := 3) hr (d := toldM n k es) (e := badD .non "count") (by rw [e]; exact cmp_bad (by decide +kernel)) (cmp_bad (by decide +kernel)) (ev_var 4)
          (ev_tup (ds := [.str "refused", .non, .str "count", .bl true]) (ea_cons ev_str (ea_cons ev_non (ea_cons (ev_ifT (q := true) (ρ2 := rMany a q n (.fr (.int (k : Nat))) (.fr (.lst (edgesD es))) (.fr (toldM n k es))) (et_gt (ev_lenL T.len (el_ofV (ds := edgesD es) (ev_var 3))) ev_int) (fun _ => ev_str) (fun z => ?_)) (ea_cons ev_bl ea_nil)))) (by show 4 ≤ 100000; decide))) ?_)
        · rw [edgesD_len] at z
          have := of_decide_eq_false z
          omega
        · rw [e, (cmp_bad (s := "count") (by decide +kernel)).refl]; rfl
      · have e := toldM_deg (n := n) (k := k) c (by omega)
        refine ew_and1 (et_is (et_neD (m := 3) hr (d := toldM n k es) (e := badD .non "degree") (by rw [e]; exact cmp_bad (by decide +kernel)) (cmp_bad (by decide +kernel)) (ev_var 4)
          (ev_tup (ds := [.str "refused", .non, .str "degree", .bl true]) (ea_cons ev_str (ea_cons ev_non (ea_cons (ev_ifT (q := true) (ρ2 := rMany a q n (.fr (.int (k : Nat))) (.fr (.lst (edgesD es))) (.fr (toldM n k es))) (et_gt (ev_lenL T.len (el_ofV (ds := edgesD es) (ev_var 3))) ev_int) (fun z => ?_) (fun _ => ev_str)) (ea_cons ev_bl ea_nil)))) (by show 4 ≤ 100000; decide))) ?_)
        · rw [edgesD_len] at z
          have := of_decide_eq_true z
          omega
        · rw [e, (cmp_bad (s := "degree") (by decide +kernel)).refl]; rfl
    rintro _ ⟨q, s2, s3, s4, ok, rfl⟩
    exact st_ret ev_bl ⟨q.enc, rfl, kk q ok⟩
end
end G

set_option Elab.async false
set_option maxRecDepth 100000
set_option maxHeartbeats 4000000
set_option linter.all false
namespace G
open PySem L2 PyProof.Rows
/-! what is wrong with the junk -/
structure OkRow (y : D) : Prop where
  pl : y.plain = true
  row : ∀ m, y.row? = some m → m.length < 16777216 ∧ ∀ z ∈ m, z.plain = true
theorem OkRow.of {y : D} {l : List D} (h : y = .tup l) (hl : l.length < 16777216) (hp : l.all (·.plain) = true) : OkRow y := by
  subst h
  refine ⟨rfl, fun m hm => ?_⟩
  cases hm
  exact ⟨hl, fun z hz => List.all_eq_true.mp hp z hz⟩
theorem OkRow.no {y : D} (hp : y.plain = true) (h : y.row? = none) : OkRow y := ⟨hp, fun m hm => by rw [h] at hm; cases hm⟩
theorem OkRow.enc (e : Nat × Nat) : OkRow (encE e) := .of (l := [.int (e.1 : Nat), .int (e.2 : Nat)]) rfl (by show 2 < 16777216; decide) rfl
theorem Two.of {b : Bool} {l : List D} (hl : l.length < 16777216) (h : ∀ y ∈ l, OkRow y) : Two (rowD b l) := by
  refine ⟨plain_rowD _ _, fun m hm => ?_⟩
  rw [row_rowD] at hm
  cases hm
  exact ⟨hl, fun y hy => ⟨(h y hy).pl, (h y hy).row⟩⟩
theorem Two.no {x : D} (hp : x.plain = true) (h : x.row? = none) : Two x := ⟨hp, fun m hm => by rw [h] at hm; cases hm⟩
def oddL : List D := [.non, .int 0, .int (-1), .int 65, .bl true, .str "5", .tup [.int 3], .int (10 ^ 30)]
def noneL : List D := [.non, .int 7, .str "01", .dct, .lst (List.replicate 4097 (.tup [.int 0, .int 0]))]
def rowsA : List (D × Str) := [(.non, "pair"), (.tup [.int 0], "pair"), (.tup [.int 0, .int 0, .int 0], "pair"), (.int 0, "pair"), (.str "00", "pair"), (.tup [.int 0, .bl true], "pair"), (.tup [.int 0, .non], "pair"), (.tup [.int 0, .str "0"], "pair")]
def rowsB (n : Nat) : List (D × Str) := [(.tup [.int 0, .int (n : Nat)], "place"), (.tup [.int (-1), .int 0], "place"), (.tup [.int (n : Nat), .int (n : Nat)], "place"), (.tup [.int (-1), .int (n : Nat)], "place"), (.dct, "pair")]
def rowsC (n : Nat) : List (D × Str) := if 1 < n then [(.tup [.int ((n : Int) - 1), .int 0], "place")] else []
def rowsW (n : Nat) : List (D × Str) := rowsA ++ rowsB n ++ rowsC n
def rsD (q : D × Str) : D := .tup [q.1, .str q.2]
theorem odd_facts {x : D} (h : x ∈ oddL) : x.plain = true ∧ ∀ e, initR x e = .error (.non, "places") := by
  have h : x = .non ∨ x = .int 0 ∨ x = .int (-1) ∨ x = .int 65 ∨ x = .bl true ∨ x = .str "5" ∨ x = .tup [.int 3] ∨ x = .int (10 ^ 30) := by simpa only [oddL, List.mem_cons, List.not_mem_nil, or_false] using h
  have key : ∀ y : D, y.plain = true → (∀ m : Int, y = .int m → ¬ (1 ≤ m ∧ m ≤ 64)) → y.plain = true ∧ ∀ e, initR y e = .error (.non, "places") := fun y hp hm => ⟨hp, fun e => initR_no hm⟩
  rcases h with rfl | rfl | rfl | rfl | rfl | rfl | rfl | rfl
  · exact key _ rfl fun m h => nomatch h
  · exact key _ rfl fun m h => by cases h; decide
  · exact key _ rfl fun m h => by cases h; decide
  · exact key _ rfl fun m h => by cases h; decide
  · exact key _ rfl fun m h => nomatch h
  · exact key _ rfl fun m h => nomatch h
  · exact key _ rfl fun m h => nomatch h
  · exact key _ rfl fun m h => by cases h; decide
theorem none_facts {x : D} (h : x ∈ noneL) : Two x ∧ ∀ n : Nat, 1 ≤ n → n ≤ 64 → initR (.int (n : Nat)) x = .error (.non, "count") := by
  have h : x = .non ∨ x = .int 7 ∨ x = .str "01" ∨ x = .dct ∨ x = .lst (List.replicate 4097 (.tup [.int 0, .int 0])) := by simpa only [noneL, List.mem_cons, List.not_mem_nil, or_false] using h
  have key : ∀ y : D, y.plain = true → y.row? = none → Two y ∧ ∀ n : Nat, 1 ≤ n → n ≤ 64 → initR (.int (n : Nat)) y = .error (.non, "count") := fun y hp hr => ⟨.no hp hr, fun n h1 h2 => by
    rw [initR_in (by omega)]
    unfold edgesR
    rw [hr]⟩
  rcases h with rfl | rfl | rfl | rfl | rfl
  · exact key _ rfl rfl
  · exact key _ rfl rfl
  · exact key _ rfl rfl
  · exact key _ rfl rfl
  · refine ⟨Two.of (b := false) (by rw [List.length_replicate]; decide) fun y hy => ?_, fun n h1 h2 => ?_⟩
    · rw [List.eq_of_mem_replicate hy]
      exact .of (l := [.int 0, .int 0]) rfl (by show 2 < 16777216; decide) rfl
    · rw [initR_in (by omega)]
      exact (edgesR_row (b := false)).trans (rowsR_many (by rw [List.length_replicate]; decide))
theorem fault_no {n : Nat} {x : D} (h : x.row? = none) : faultS n x = some "pair" := by
  unfold faultS pairOf
  rw [h]; rfl
theorem fault_pair {n : Nat} {l : List D} (h : pairL l = none) : faultS n (.tup l) = some "pair" := by
  unfold faultS pairOf
  show (match pairL l with | none => some "pair" | some (i, j) => if 0 ≤ i ∧ i ≤ j ∧ j < n then none else some "place") = some ("pair" : Str)
  rw [h]
theorem fault_place {n : Nat} {i j : Int} (h : ¬ (0 ≤ i ∧ i ≤ j ∧ j < n)) : faultS n (.tup [.int i, .int j]) = some "place" := if_neg h
theorem wrong_facts {n : Nat} {q : D × Str} (hn : 1 ≤ n) (h : q ∈ rowsW n) : OkRow q.1 ∧ faultS n q.1 = some q.2 := by
  rcases List.mem_append.mp h with h | h
  · rcases List.mem_append.mp h with h | h
    · simp only [rowsA, List.mem_cons, List.not_mem_nil, or_false] at h
      rcases h with rfl | rfl | rfl | rfl | rfl | rfl | rfl | rfl
      · exact ⟨.no rfl rfl, fault_no rfl⟩
      · exact ⟨.of rfl (by show 1 < 16777216; decide) rfl, fault_pair rfl⟩
      · exact ⟨.of rfl (by show 3 < 16777216; decide) rfl, fault_pair rfl⟩
      · exact ⟨.no rfl rfl, fault_no rfl⟩
      · exact ⟨.no rfl rfl, fault_no rfl⟩
      · exact ⟨.of rfl (by show 2 < 16777216; decide) rfl, fault_pair rfl⟩
      · exact ⟨.of rfl (by show 2 < 16777216; decide) rfl, fault_pair rfl⟩
      · exact ⟨.of rfl (by show 2 < 16777216; decide) rfl, fault_pair rfl⟩
    · simp only [rowsB, List.mem_cons, List.not_mem_nil, or_false] at h
      rcases h with rfl | rfl | rfl | rfl | rfl
      · exact ⟨.of rfl (by show 2 < 16777216; decide) rfl, fault_place (by omega)⟩
      · exact ⟨.of rfl (by show 2 < 16777216; decide) rfl, fault_place (by omega)⟩
      · exact ⟨.of rfl (by show 2 < 16777216; decide) rfl, fault_place (by omega)⟩
      · exact ⟨.of rfl (by show 2 < 16777216; decide) rfl, fault_place (by omega)⟩
      · exact ⟨.no rfl rfl, fault_no rfl⟩
  · unfold rowsC at h
    split at h
    · have h := List.mem_singleton.mp h
      subst h
      exact ⟨.of rfl (by show 2 < 16777216; decide) rfl, fault_place (by omega)⟩
    · cases h
theorem rows_len (n : Nat) : 13 ≤ (rowsW n).length ∧ (rowsW n).length ≤ 14 := by
  unfold rowsW rowsC
  split <;> simp [rowsA, rowsB]
/-- a list of edges with junk in it -/
theorem cells_init {n at' : Nat} {es : Edges} {x : D} {s : Str} {more : List D} {b : Bool} (hn : 1 ≤ n) (hn2 : n ≤ 64) (ok : EdgeOk n es) (ha : at' ≤ es.length) (hf : faultS n x = some s) (hm : more.length ≤ 1) (hl : es.length + 2 ≤ 4096) :
    initR (.int (n : Nat)) (rowD b ((edgesD es).take at' ++ [x] ++ (edgesD es).drop at' ++ more)) = .error (.int (at' : Nat), s) := by
  have hle : ((edgesD es).take at').length = at' := by rw [List.length_take, edgesD_len]; omega
  rw [initR_in (by omega), Int.toNat_natCast, edgesR_row]
  refine rowsR_bad ?_ ?_
  · rw [List.length_append, List.length_append, List.length_append, hle, List.length_drop, edgesD_len, List.length_singleton]
    omega
  · have q := firstF_at (n := n) (l := (edgesD es).take at' ++ [x] ++ (edgesD es).drop at' ++ more) (k := 0) (i := at') (x := x) (s := s) (fun j y hj hy => ?_) ?_ hf
    · rw [q]; congr 2; omega
    · rw [List.append_assoc, List.append_assoc, List.getElem?_append_left (by omega)] at hy
      have hy := List.mem_of_mem_take (List.mem_of_getElem? hy)
      obtain ⟨e, he, rfl⟩ := List.mem_map.mp (show y ∈ es.map encE from hy)
      exact fault_encB (b := true) (ok e he)
    · rw [List.append_assoc, List.append_assoc, List.getElem?_append_right (by omega), hle, Nat.sub_self]
      rfl
theorem cells_two {n at' : Nat} {es : Edges} {x : D} {more : List D} {b : Bool} (hx : OkRow x) (hm : ∀ y ∈ more, OkRow y) (hz : more.length ≤ 1) (hl : es.length ≤ 4096) : Two (rowD b ((edgesD es).take at' ++ [x] ++ (edgesD es).drop at' ++ more)) := by
  refine .of ?_ fun y hy => ?_
  · rw [List.length_append, List.length_append, List.length_append, List.length_take, List.length_drop, edgesD_len, List.length_singleton]
    omega
  · have enc : ∀ y ∈ edgesD es, OkRow y := fun y hy => by
      obtain ⟨e, _, rfl⟩ := List.mem_map.mp (show y ∈ es.map encE from hy)
      exact .enc e
    rcases List.mem_append.mp hy with h | h
    · rcases List.mem_append.mp h with h | h
      · rcases List.mem_append.mp h with h | h
        · exact enc y (List.mem_of_mem_take h)
        · rw [List.mem_singleton.mp h]; exact hx
      · exact enc y (List.mem_of_mem_drop h)
    · exact hm y h
/-- one loop more -/
def unlikeL (n : Nat) (es : Edges) : List Nat := (List.range n).filter fun k => (endsOf n es).getD k 0 != (endsOf n es).getD 0 0
def moreD (n : Nat) (es : Edges) : D := match unlikeL n es with
  | [] => goodD n ((endsOf n es).getD 0 0) es
  | u :: _ => badD (.int (u : Nat)) "degree"
theorem odd_unlike (n : Nat) (es : Edges) : oddAt (endsOf n es) = (unlikeL n es).head? := by
  unfold oddAt unlikeL
  rw [endsOf_len, List.head?_filter]
theorem more_told {n : Nat} {es : Edges} {b1 b2 : Bool} (hn : 1 ≤ n) (hn2 : n ≤ 64) (ok : EdgeOk n es) (hl : es.length ≤ 4096) (hd : (endsOf n es).getD 0 0 ≤ 64) : toldR (initR (.int (n : Nat)) (rowD b1 (es.map (encB b2)))) = moreD n es := by
  rw [initR_ok hn hn2 ok, if_neg (by omega)]
  have o := odd_unlike n es
  unfold moreD
  cases hu : unlikeL n es with
  | nil =>
    rw [hu] at o
    rw [degR_ok o (by omega)]
    rfl
  | cons u l =>
    rw [hu] at o
    rw [degR_odd o]
    rfl
theorem dg_loop (es : Edges) (v p : Nat) : dg (es ++ [(v, v)]) p ≤ dg es p + 1 := by
  rw [dg_app]
  have : dg [(v, v)] p ≤ 1 := by
    unfold dg endsL
    rw [List.flatMap_cons, List.flatMap_nil, List.append_nil]
    show (ends1 (v, v)).count p ≤ 1
    unfold ends1
    rw [if_pos rfl]
    exact Nat.le_trans List.count_le_length (Nat.le_refl _)
  omega
end G

set_option Elab.async false
set_option maxRecDepth 100000
set_option maxHeartbeats 2000000
set_option linter.all false
/-! G30: x, y = a, b of plain names. -/
namespace G
open PySem L2 PyProof.Rows
section
variable {X : Cx} {a b : Expr} {p : Bool} {ρ ρ1 ρ2 : Rho} {PL : List D → Rho → Prop} {DD : DEnds} {pos px py pt pt2 : Pos} {x y : Str} {i j : Nat} {kt k2 : Nat} {d1 d2 : D}
theorem s_parW (i j : Nat) (h : WA X [a, b] ρ PL) (nd : X.N.Nodup) (k : ∀ ds r, PL ds r → ∃ d1 d2, ds = [d1, d2] ∧ DD.nx ((r.set i (.fr d1)).set j (.fr d2))) (hc : X.calm = true := by rfl) (hi : X.N[i]? = some x := by rfl) (hj : X.N[j]? = some y := by rfl) (hij : i ≠ j := by decide)
    (hx : X.env.scope.names.lookup x = some .local := by rfl) (hy : X.env.scope.names.lookup y = some .local := by rfl)
    (hw : swappedStores [.Tuple [.Name x px, .Name y py] kt pt] (.Tuple [a, b] k2 pt2) X.env = pure (some [x, y]) := by rfl)
    (hs : swapsWithSole [.Tuple [.Name x px, .Name y py] kt pt] (.Tuple [a, b] k2 pt2) pos.line X.env = pure false := by rfl) : S1 X (.Assign [.Tuple [.Name x px, .Name y py] kt pt] (.Tuple [a, b] k2 pt2) pos) ρ DD :=
  PS.imp (ps_par hc nd hi hj hij hx hy h hw hs) fun E σ H ⟨w, B, R, hl, g⟩ => ⟨w, B, R, fun B1 H1 vs ds r hp R1 s1 r1 => by
    obtain ⟨d1, d2, rfl, q⟩ := k ds r hp
    match vs, r1 with
    | [v, u], .cons rv (.cons ru .nil) =>
      have li : i < σ.length := slot_lt (n := 0) hi hl
      have lj : j < (σ.set i (some v)).length := by rw [List.length_set]; exact slot_lt (n := 0) hj hl
      exact ⟨v, u, rfl, g.nx _ _ B1 H1 q ((R1.putF li rv).putF lj ru) s1.b (by rw [List.length_set, List.length_set]; exact hl)⟩⟩
theorem s_par (i j : Nat) (h : EA X [a, b] p ρ [d1, d2] ρ1) (nd : X.N.Nodup) (k : DD.nx ((ρ1.set i (.fr d1)).set j (.fr d2))) (hc : X.calm = true := by rfl) (hi : X.N[i]? = some x := by rfl) (hj : X.N[j]? = some y := by rfl) (hij : i ≠ j := by decide)
    (hx : X.env.scope.names.lookup x = some .local := by rfl) (hy : X.env.scope.names.lookup y = some .local := by rfl)
    (hw : swappedStores [.Tuple [.Name x px, .Name y py] kt pt] (.Tuple [a, b] k2 pt2) X.env = pure (some [x, y]) := by rfl)
    (hs : swapsWithSole [.Tuple [.Name x px, .Name y py] kt pt] (.Tuple [a, b] k2 pt2) pos.line X.env = pure false := by rfl) : S1 X (.Assign [.Tuple [.Name x px, .Name y py] kt pt] (.Tuple [a, b] k2 pt2) pos) ρ DD :=
  s_parW i j (PL := fun ds r => ds = [d1, d2] ∧ r = ρ1) (wa_of h ⟨rfl, rfl⟩) nd (fun ds r h => by obtain ⟨rfl, rfl⟩ := h; exact ⟨d1, d2, rfl, k⟩) hc hi hj hij hx hy hw hs
end
end G

set_option Elab.async false
set_option maxRecDepth 100000
set_option maxHeartbeats 2000000
set_option linter.all false
/-! G31: min of two drawn; list displays of drawn things. -/
namespace G
open PySem L2 PyProof.Rows
section
variable {X : Cx} {e b : Expr} {es : List Expr} {ρ : Rho} {PL : List D → Rho → Prop} {Q : D → Rho → Prop} {pos pp : Pos} {k : Nat}
theorem we_lst (h : WA X es ρ PL) (hz : ∀ ds r, PL ds r → ds.length ≤ 100000) (kk : ∀ ds r, PL ds r → Q (.lst ds) r) : WE X (.List es pos) ρ Q := (we_ofN (wn_lst h hz)).mono fun d r h => by
  obtain ⟨ds, rfl, hp⟩ := h
  exact kk ds r hp
theorem we_min2 (hc : X.calm = true) (hm : X.mg "min" = none) (ha : WA X [e, b] ρ PL) (kk : ∀ ds r, PL ds r → ∃ i j : Int, ds = [.int i, .int j] ∧ Q (.int (if j < i then j else i)) r) (hg : Gl X "min" := by rfl) (he : starEach [e, b] X.env = (false, eval e X.env) :: starEach [b] X.env := by rfl)
    (hpl : (backTo pos (starEach [b] X.env)).any (·.1) = false := by rfl) : WE X (.Call (.Name "min" pp) [e, b] [] pos) ρ Q :=
  we_callB (call_min2 hc) (fun ds r1 hp => by
    obtain ⟨i, j, rfl, q⟩ := kk ds r1 hp
    refine ⟨_, fun B H vs Q e r k => ?_, q⟩
    cases r with
    | cons r rr =>
      cases rr with
      | cons r' rr =>
        cases rr
        cases r
        cases r'
        exact ⟨i, j, rfl, k B H _ (Grow.refl e) (.int _)⟩) hm (by decide +kernel) ha hg (by decide) (by decide) he hpl
end
end G

set_option Elab.async false
set_option maxRecDepth 100000
set_option maxHeartbeats 2000000
set_option linter.all false
/-! G34: comprehensions over a drawn row. -/
namespace G
open PySem L2 PyProof.Rows
section
variable {X : Cx} {tg e elt : Expr} {ρ : Rho} {pos : Pos} {scope : Scope} {own : List (Str × Nat)} {PL QL : List D → Rho → Prop}
theorem wn_mapW (zsOf : List D → List D) (hi : WI X tg e ρ PL) (nd : X.N.Nodup) (ok : BlkOk X.N X.env.scope scope own) (M : ∀ ds r, PL ds r → MapOk X tg elt r ds (zsOf ds) scope own) (k : ∀ ds r, PL ds r → QL (zsOf ds) r) (hc : X.calm = true := by rfl) (hs : ∀ x, foldedSetIterable e X.env x = pure x := by intro _; rfl) : WN X (.ListComp elt [⟨tg, e, [], 0⟩] scope pos) ρ QL := by
  refine wn_lc (own := own) (PL := PL) (fun d j acc r => PL d r ∧ acc = (zsOf d).take j) hi nd ok (fun d r h => ?_) (fun d j x acc r hd hI => ?_) (fun d ys r hI => ?_) hc hs
  · have m := M d r h
    exact ⟨⟨by rw [m.un]; exact h, rfl⟩, m.few, m.lt⟩
  · obtain ⟨h, rfl⟩ := hI
    have m := M d r h
    have hj : j < (zsOf d).length := by rw [m.len]; exact (List.getElem?_eq_some_iff.mp hd).1
    have hz := List.getElem?_eq_getElem hj
    obtain ⟨ρt, ρe, pp, h1, h2, h3⟩ := m.b j x _ hd hz
    refine ⟨ρt, _, h1, fun _ _ _ _ _ => pts_nilW, fun r h => ?_, fun r' h' s H C cl fp => ?_⟩
    · obtain ⟨h, _⟩ := h; cases h
    · obtain ⟨_, rfl⟩ := h'
      refine we_of (h2 s H C cl fp) ⟨by rw [h3]; exact h, ?_⟩
      rw [take_snoc hz]
  · obtain ⟨h, rfl⟩ := hI
    have m := M d r h
    rw [m.un, ← m.len, List.take_length]
    exact k d r h
end
end G

set_option Elab.async false
set_option maxRecDepth 100000
set_option maxHeartbeats 2000000
set_option linter.all false
/-! G35: tuple(range(..)), list(range(a, b)); i in a tuple of ints. -/
namespace G
open PySem L2 PyProof.Rows
section
variable {X : Cx} {a b : Expr} {p q : Bool} {ρ ρ1 ρ2 : Rho} {pos pp : Pos}
theorem rgV_two {i j : Nat} : rgV (i : Int) (j : Int) = ((List.range' i (j - i)).map fun v => ((v : Nat) : Int)).map V.int := by
  unfold rgV
  rw [List.map_map, show ((j : Int) - (i : Int)).toNat = j - i by omega, List.range'_eq_map_range, List.map_map]
  apply List.map_congr_left
  intro k _
  show V.int ((i : Int) + (k : Nat)) = V.int ((i + k : Nat) : Int)
  rw [Int.natCast_add]
theorem natsD_map (l : List Nat) : (l.map fun v => ((v : Nat) : Int)).map D.int = l.map fun v => D.int (v : Nat) := by rw [List.map_map]; rfl
theorem ev_tupleR1 {p2 pos2 : Pos} {n : Nat} (hc : X.calm = true) (hm : X.mg "tuple" = none) (hm2 : X.mg "range" = none) (ha : EV X a p ρ (.int (n : Nat)) ρ1) (h1 : n ≤ 16777216) (hg : Gl X "tuple" := by rfl) (hg2 : Gl X "range" := by rfl)
    (na : starEach [a] X.env = (false, eval a X.env) :: starEach [] X.env := by rfl) (he : starEach [Expr.Call (.Name "range" p2) [a] [] pos2] X.env = (false, eval (Expr.Call (.Name "range" p2) [a] [] pos2) X.env) :: starEach [] X.env := by rfl) :
    EV X (.Call (.Name "tuple" pp) [.Call (.Name "range" p2) [a] [] pos2] [] pos) p ρ (.tup ((List.range n).map fun v => D.int (v : Nat))) ρ1 :=
  PE.imp (pe_tupRg hc hg hm (prg_1 hg2 hm2 ha na) he) fun σ H Q ⟨w, B, R, k⟩ => ⟨w, B, R, fun B1 H1 v R1 s1 r1 => by
    cases r1
    refine ⟨n, rfl, RgOk.of_le (Int.le_refl _) (by omega) (by decide) (by omega), fun l hl => ?_⟩
    have g := Grow.lay (o := .tup (rgV 0 n)) R1.ext hl
    exact k _ _ _ (R1.grow g) (s1.add g) (.tup upd_same (by
      have e : rgV 0 (n : Int) = ((List.range n).map fun v => ((v : Nat) : Int)).map V.int := by
        have q := rgV0 (n : Int)
        rwa [Int.toNat_natCast] at q
      rw [e, ← natsD_map]
      exact Reps.ofInts _))⟩
theorem ev_tupleR2 {p2 pos2 : Pos} {i j : Nat} (hc : X.calm = true) (hm : X.mg "tuple" = none) (hm2 : X.mg "range" = none) (ha : EV X a p ρ (.int (i : Nat)) ρ1) (hb : EV X b q ρ1 (.int (j : Nat)) ρ2) (h1 : j ≤ 16777216) (h2 : i ≤ 16777216) (hg : Gl X "tuple" := by rfl) (hg2 : Gl X "range" := by rfl)
    (na : starEach [a, b] X.env = (false, eval a X.env) :: starEach [b] X.env := by rfl) (nb : starEach [b] X.env = (false, eval b X.env) :: starEach [] X.env := by rfl) (hp : (backTo pos2 (starEach [b] X.env)).any (·.1) = false := by rfl) (he : starEach [Expr.Call (.Name "range" p2) [a, b] [] pos2] X.env = (false, eval (Expr.Call (.Name "range" p2) [a, b] [] pos2) X.env) :: starEach [] X.env := by rfl) :
    EV X (.Call (.Name "tuple" pp) [.Call (.Name "range" p2) [a, b] [] pos2] [] pos) (p && q) ρ (.tup ((List.range' i (j - i)).map fun v => D.int (v : Nat))) ρ2 :=
  PE.imp (pe_tupRg hc hg hm (prg_2 hg2 hm2 ha hb na nb hp) he) fun σ H Q ⟨w, B, R, k⟩ => ⟨w, B, R, fun B1 H1 v R1 s1 r1 => ⟨w, B1, R1, fun B2 H2 u R2 s2 r2 => by
    cases r1
    cases r2
    refine ⟨_, _, rfl, rfl, RgOk.of_le (by omega) (by omega) (by omega) (by omega), fun l hl => ?_⟩
    have g := Grow.lay (o := .tup (rgV i j)) R2.ext hl
    exact k _ _ _ (R2.grow g) ((s1.trans s2).add g) (.tup upd_same (by
      rw [rgV_two, ← natsD_map]
      exact Reps.ofInts _))⟩⟩
theorem en_listR2 {p2 pos2 : Pos} {i j : Nat} (hc : X.calm = true) (hm : X.mg "list" = none) (hm2 : X.mg "range" = none) (ha : EV X a p ρ (.int (i : Nat)) ρ1) (hb : EV X b q ρ1 (.int (j : Nat)) ρ2) (h1 : j ≤ 16777216) (h2 : i ≤ 16777216) (hg : Gl X "list" := by rfl) (hg2 : Gl X "range" := by rfl)
    (na : starEach [a, b] X.env = (false, eval a X.env) :: starEach [b] X.env := by rfl) (nb : starEach [b] X.env = (false, eval b X.env) :: starEach [] X.env := by rfl) (hp : (backTo pos2 (starEach [b] X.env)).any (·.1) = false := by rfl) (he : starEach [Expr.Call (.Name "range" p2) [a, b] [] pos2] X.env = (false, eval (Expr.Call (.Name "range" p2) [a, b] [] pos2) X.env) :: starEach [] X.env := by rfl) :
    EN X (.Call (.Name "list" pp) [.Call (.Name "range" p2) [a, b] [] pos2] [] pos) (p && q) ρ ((List.range' i (j - i)).map fun v => D.int (v : Nat)) ρ2 :=
  PE.imp (pe_listRg hc hg hm (prg_2 hg2 hm2 ha hb na nb hp) he) fun σ H Q ⟨w, B, R, k⟩ => ⟨w, B, R, fun B1 H1 v R1 s1 r1 => ⟨w, B1, R1, fun B2 H2 u R2 s2 r2 => by
    cases r1
    cases r2
    refine ⟨_, _, rfl, rfl, RgOk.of_le (by omega) (by omega) (by omega) (by omega), fun l hl => ?_⟩
    have f := Fresh.of R2 hl
    have g := Grow.make (o := .lst (rgV i j)) R2.ext hl
    exact k B2 _ l _ (R2.grow g) ((s1.trans s2).add g) ((s1.trans s2).free hl) f upd_same (by
      rw [rgV_two, ← natsD_map]
      exact Reps.ofInts _)⟩⟩
theorem et_inI {i : Int} {ns : List Int} (ha : EV X a p ρ (.int i) ρ1) (hb : EV X b q ρ1 (.tup (ns.map .int)) ρ2) (hm : behindInMarks .In b = false := by first | rfl | exact nomark _) : ET X (.Compare a [.In] [b] pos) (p && q) ρ (decide (i ∈ ns)) ρ2 :=
  et_cmp op_in_seq (fun B H v u Q e rv ru k => by
    cases rv
    cases ru with
    | tup hB r =>
      rw [r.ints] at hB
      refine ⟨_, _, rfl, .inr (SqT.of (e _ _ hB)), rfl, by simp [flatV], ?_⟩
      rw [inV_ints]
      exact k B H _ (Grow.refl e) (.bl _)) ha hb hm
end
end G

set_option Elab.async false
set_option maxRecDepth 100000
set_option maxHeartbeats 2000000
set_option linter.all false
/-! G36: x, y = e, a new list. -/
namespace G
open PySem L2 PyProof.Rows
theorem Fresh.setF {w : Wd} {B : Hp} {ρ : List Slot} {l : Addr} {i : Nat} {d : D} (f : Fresh w B ρ l) : Fresh w B (ρ.set i (.fr d)) l := ⟨f.h0, f.b, fun j s hs => by
  rcases set_cases hs with ⟨_, e, _⟩ | ⟨_, h⟩
  · subst e; simp [Slot.foot]
  · exact f.foot j s h⟩
section
variable {X : Cx} {a b : Expr} {p q : Bool} {ρ ρ1 ρ2 : Rho} {DD : DEnds} {pos px py pt pt2 : Pos} {x y : Str} {kt k2 : Nat} {d : D} {ds : List D}
theorem s_pairNew (i j : Nat) (ha : EV X a p ρ d ρ1) (hb : EN X b q ρ1 ds ρ2) (nd : X.N.Nodup) (k : ∀ l, DD.nx ((ρ2.set i (.fr d)).set j (.ow l (.l ds)))) (hc : X.calm = true := by rfl) (hi : X.N[i]? = some x := by rfl) (hj : X.N[j]? = some y := by rfl)
    (hx : Loc X.env.scope x := by first | exact Or.inl rfl | exact Or.inr rfl) (hy : Loc X.env.scope y := by first | exact Or.inl rfl | exact Or.inr rfl) (hf : X.fn x = true ∨ X.env.scope.names.lookup x = some .local := by first | exact .inl rfl | exact .inr rfl) (hf2 : X.fn y = true ∨ X.env.scope.names.lookup y = some .local := by first | exact .inl rfl | exact .inr rfl)
    (he : starEach [a, b] X.env = (false, eval a X.env) :: starEach [b] X.env := by rfl) (he2 : starEach [b] X.env = (false, eval b X.env) :: starEach [] X.env := by rfl)
    (hn : (assignEach [.Name x px, .Name y py] X.env).length = 2 := by rfl) (hst : (assignEach [.Name x px, .Name y py] X.env).findIdx? (·.1) = none := by rfl)
    (hs1 : (assignEach [.Name x px, .Name y py] X.env).map (·.2) = assign (.Name x px) X.env :: (assignEach [.Name y py] X.env).map (·.2) := by rfl) (hs2 : (assignEach [.Name y py] X.env).map (·.2) = assign (.Name y py) X.env :: (assignEach [] X.env).map (·.2) := by rfl)
    (hw : swappedStores [.Tuple [.Name x px, .Name y py] kt pt] (.Tuple [a, b] k2 pt2) X.env = pure none := by rfl)
    (hs : swapsWithSole [.Tuple [.Name x px, .Name y py] kt pt] (.Tuple [a, b] k2 pt2) pos.line X.env = pure false := by rfl)
    (h1 : (assignEach [.Tuple [.Name x px, .Name y py] kt pt] X.env).map (·.2) = [assign (.Tuple [.Name x px, .Name y py] kt pt) X.env] := by rfl) : S1 X (.Assign [.Tuple [.Name x px, .Name y py] kt pt] (.Tuple [a, b] k2 pt2) pos) ρ DD :=
  PS.imp (ps_asg (pe_tup (pa_cons ha (pa_cons hb pa_nil he2) he)) (pg_tup hc (pgs_cons (pg_name nd hi hx hf) (pgs_cons (pg_name nd hj hy hf2) pgs_nil hs2) hs1) hn hst) hs hw h1) fun E σ H ⟨w, B, R, hl, g⟩ => ⟨w, B, R, fun B1 H1 v R1 s1 r1 => ⟨w, B1, R1, fun B2 H2 l xs R2 s2 n2 f2 h2 r2 => by
    refine ⟨by show 2 ≤ sizeLine; rw [sizeLine_eq]; decide, fun t ht => ?_⟩
    have g1 := Grow.make (o := .tup [v, .ref l]) R2.ext ht
    have R3 := R2.grow g1
    have li : i < σ.length := slot_lt (n := 0) hi hl
    have lj : j < (σ.set i (some v)).length := by rw [List.length_set]; exact slot_lt (n := 0) hj hl
    refine ⟨t, [v, .ref l], rfl, SqT.of upd_same, rfl, _, _, rfl, ?_⟩
    refine ⟨_, _, rfl, rfl, ?_⟩
    exact g.nx _ _ B2 _ (k l) ((R3.putF li (r1.mono s2.b)).putL lj f2.setF (g1.h _ _ h2) r2) ((s1.b.trans s2.b)) (by rw [List.length_set, List.length_set]; exact hl)⟩⟩
end
end G

set_option Elab.async false
set_option maxRecDepth 100000
set_option maxHeartbeats 4000000
set_option linter.all false
namespace G
open PySem L2 PyProof.Rows
local macro_rules | `(tactic| walk_at "rho") => `(tactic| (show (_ : List Slot) = _; (try dsimp only [List.set_cons_succ, List.set_cons_zero, List.map_cons, List.map_nil, List.cons_append, List.nil_append, relend, unR]); all_goals exact rfl))
/-- how many ends lie between two rows of places -/
def cnt (t : List (List Nat)) (l1 l2 : List Nat) : Nat := (l1.map fun u => (l2.map fun v => ent t u v).sum).sum
def restL (n : Nat) (l : List Nat) : List Nat := (List.range n).filter fun v => decide (v ∉ l)
def nearL (t : List (List Nat)) (n : Nat) (l : List Nat) : List Nat := (List.range n).filter fun p => l.any fun v => ent t p v != 0
theorem perm_sum {l l' : List Nat} (h : l.Perm l') : l.sum = l'.sum := by
  induction h with
  | nil => rfl
  | cons x _ ih => rw [List.sum_cons, List.sum_cons, ih]
  | swap x y l => simp only [List.sum_cons]; omega
  | trans _ _ ih1 ih2 => rw [ih1, ih2]
theorem cnt_perm {t : List (List Nat)} {l1 l1' l2 l2' : List Nat} (h1 : l1.Perm l1') (h2 : l2.Perm l2') : cnt t l1 l2 = cnt t l1' l2' := by
  unfold cnt
  have e : ∀ u, (l2.map fun v => ent t u v).sum = (l2'.map fun v => ent t u v).sum := fun u => perm_sum (h2.map _)
  rw [List.map_congr_left fun u _ => e u]
  exact perm_sum (h1.map _)
theorem restL_perm {n : Nat} {l l' : List Nat} (h : l.Perm l') : restL n l = restL n l' := by
  unfold restL
  exact List.filter_congr fun v _ => decide_eq_decide.mpr (not_congr h.mem_iff)
theorem any_perm {α : Type} {l l' : List α} {p : α → Bool} (h : l.Perm l') : l.any p = l'.any p := by
  rw [Bool.eq_iff_iff, List.any_eq_true, List.any_eq_true]
  exact ⟨fun ⟨x, h1, h2⟩ => ⟨x, h.mem_iff.mp h1, h2⟩, fun ⟨x, h1, h2⟩ => ⟨x, h.mem_iff.mpr h1, h2⟩⟩
theorem nearL_perm {t : List (List Nat)} {n : Nat} {l l' : List Nat} (h : l.Perm l') : nearL t n l = nearL t n l' := by
  unfold nearL
  exact List.filter_congr fun v _ => any_perm h
theorem restL_len {n : Nat} {l : List Nat} : (restL n l).length ≤ n := by
  unfold restL
  have := List.length_filter_le (fun v => decide (v ∉ l)) (List.range n)
  rwa [List.length_range] at this
theorem restL_lt {n v : Nat} {l : List Nat} (h : v ∈ restL n l) : v < n := List.mem_range.mp (List.mem_filter.mp h).1
theorem natsD_ints (l : List Nat) : (l.map fun v => ((v : Nat) : Int)).map D.int = natsD l := by unfold natsD; rw [List.map_map]; rfl
theorem tabRow_at {n u : Nat} {t : List (List Nat)} (h : Sq n t) (hu : u < n) : L2.atI (t.map fun r => D.tup (natsD r)) (u : Int) = some (.tup (natsD (t.getD u []))) :=
  atI_nat (by rw [List.getElem?_map, List.getD_eq_getElem?_getD, List.getElem?_eq_getElem (by rw [h.1]; exact hu)]; rfl)
theorem filter_nats {α : Type} (l : List Nat) (p : Nat → Bool) : ((l.map fun v => if p v = true then some (D.int (v : Nat)) else none).filterMap id) = natsD (l.filter p) := by
  unfold natsD
  rw [List.filterMap_map, ← List.filterMap_eq_filter, List.map_filterMap]
  congr 1
  funext v
  show (if _ then _ else _) = Option.map _ (Option.guard _ _)
  unfold Option.guard
  by_cases h : p v = true
  · rw [if_pos h, if_pos h]; rfl
  · rw [if_neg h, if_neg h]; rfl
end G

set_option Elab.async false
set_option maxRecDepth 100000
set_option maxHeartbeats 2000000
set_option linter.all false
/-! G37: [v for v in range(n) if ..]. -/
namespace G
open PySem L2 PyProof.Rows
section
variable {X : Cx} {tg e elt c : Expr} {pp q : Bool} {ρ : Rho} {pos : Pos} {scope : Scope} {x : Str}
theorem en_filtR {n : Nat} (p : Nat → Bool) (i : Nat) (hi : ITR X tg e pp ρ (rgD 0 n) ρ) (nd : X.N.Nodup) (ok : BlkOk X.N X.env.scope scope [(x, i)]) (hn : n < 16777216) (un : unR ρ [i] = ρ) (lt : i < ρ.length)
    (htg : ∀ j, j < n → Blks X scope fun Y => TGT Y tg [i] (.int (j : Nat)) ρ (ρ.set i (.fr (.int (j : Nat))))) (hc : ∀ j, j < n → Blks X scope fun Y => ET Y c q (ρ.set i (.fr (.int (j : Nat)))) (p j) (ρ.set i (.fr (.int (j : Nat)))))
    (he : ∀ j, j < n → Blks X scope fun Y => EV Y elt true (ρ.set i (.fr (.int (j : Nat)))) (.int (j : Nat)) (ρ.set i (.fr (.int (j : Nat))))) (hcalm : X.calm = true := by rfl) (hs : ∀ x, foldedSetIterable e X.env x = pure x := by intro _; rfl) :
    EN X (.ListComp elt [⟨tg, e, [c], 0⟩] scope pos) false ρ (natsD ((List.range n).filter p)) ρ := by
  have back : ∀ j : Nat, unR (ρ.set i (.fr (.int (j : Nat)))) [i] = ρ := fun j => by
    refine Eq.trans ?_ un
    show (ρ.set i _).set i .un = ρ.set i .un
    rw [List.set_set]
  refine en_is (en_filt (own := [(x, i)]) (fs := (List.range n).map fun v => if p v = true then some (D.int (v : Nat)) else none) hi ⟨nd, ok, un, ?_, ?_, ?_, fun j z o hz ho => ?_⟩ hcalm hs) (filter_nats (α := Nat) _ _)
  · rw [rgD_len]; exact hn
  · show ([i]).all _ = true
    simp [lt]
  · rw [rgD_len]; simp
  · obtain ⟨hj, rfl⟩ := rgD_get hz
    rw [List.getElem?_map, List.getElem?_range hj] at ho
    cases ho
    rw [show (0 : Int) + (j : Nat) = ((j : Nat) : Int) by omega]
    refine ⟨_, _, q, htg j hj, fun s H C cl fp => ?_, back j, fun z hz => ?_⟩
    · have h := hc j hj s H C cl fp
      cases hp : p j with
      | true => rw [hp] at h; exact et_is h (by show true = Option.isSome (if p j = true then some (D.int (j : Nat)) else none); rw [hp]; rfl)
      | false => rw [hp] at h; exact et_is h (by show false = Option.isSome (if p j = true then some (D.int (j : Nat)) else none); rw [hp]; rfl)
    · have hz : (if p j = true then some (D.int (j : Nat)) else none) = some z := hz
      cases hp : p j with
      | true => rw [hp] at hz; cases hz; exact ⟨_, _, he j hj, back j⟩
      | false => rw [hp] at hz; cases hz
end
end G

set_option Elab.async false
set_option maxRecDepth 100000
set_option maxHeartbeats 4000000
set_option linter.all false
/-! G61: y = [k for k in range(n) if c]. -/
namespace G
open PySem L2 PyProof.Rows
section
variable {X : Cx} {tg e elt c : Expr} {pp q : Bool} {ρ : Rho} {pos : Pos} {scope : Scope} {x : Str}
theorem s_filtR {n : Nat} {spos : Pos} {y : Str} {py : Pos} {DD : DEnds} {l : Nat} (p : Nat → Bool) (i : Nat) (hi : ITR X tg e pp ρ (rgD 0 n) ρ) (nd : X.N.Nodup) (ok : BlkOk X.N X.env.scope scope [(x, i)]) (hn : n < 16777216) (un : unR ρ [i] = ρ) (lt : i < ρ.length)
    (htg : ∀ j, j < n → Blks X scope fun Y => TGT Y tg [i] (.int (j : Nat)) ρ (ρ.set i (.fr (.int (j : Nat))))) (hc : ∀ j, j < n → Blks X scope fun Y => ET Y c q (ρ.set i (.fr (.int (j : Nat)))) (p j) (ρ.set i (.fr (.int (j : Nat)))))
    (he : ∀ j, j < n → Blks X scope fun Y => EV Y elt true (ρ.set i (.fr (.int (j : Nat)))) (.int (j : Nat)) (ρ.set i (.fr (.int (j : Nat))))) (k : DD.nx (ρ.set l (.fr (.lst (natsD ((List.range n).filter p)))))) (hy : X.N[l]? = some y := by rfl) (hyl : X.env.scope.names.lookup y = some .local := by rfl)
    (hsw : swapsWith (.ListComp elt [⟨tg, e, [c], 0⟩] scope pos) (some (.Name y py)) spos.line X.env = pure true := by exact sw_true rfl rfl rfl (by decide +kernel)) (hcalm : X.calm = true := by rfl) (hs : ∀ x, foldedSetIterable e X.env x = pure x := by intro _; rfl) :
    S1 X (.Assign [.Name y py] (.ListComp elt [⟨tg, e, [c], 0⟩] scope pos) spos) ρ DD := by
  have back : ∀ j : Nat, unR (ρ.set i (.fr (.int (j : Nat)))) [i] = ρ := fun j => by
    refine Eq.trans ?_ un
    show (ρ.set i _).set i .un = ρ.set i .un
    rw [List.set_set]
  refine s_filtF (i := l) (own := [(x, i)]) (fs := (List.range n).map fun v => if p v = true then some (D.int (v : Nat)) else none) hi ⟨nd, ok, un, ?_, ?_, ?_, fun j z o hz ho => ?_⟩ (by rw [filter_nats (α := Nat)]; exact k) hy hyl hsw hcalm hs
  · rw [rgD_len]; exact hn
  · show ([i]).all _ = true
    simp [lt]
  · rw [rgD_len]; simp
  · obtain ⟨hj, rfl⟩ := rgD_get hz
    rw [List.getElem?_map, List.getElem?_range hj] at ho
    cases ho
    rw [show (0 : Int) + (j : Nat) = ((j : Nat) : Int) by omega]
    refine ⟨_, _, q, htg j hj, fun s H C cl fp => ?_, back j, fun z hz => ?_⟩
    · have h := hc j hj s H C cl fp
      cases hp : p j with
      | true => rw [hp] at h; exact et_is h (by show true = Option.isSome (if p j = true then some (D.int (j : Nat)) else none); rw [hp]; rfl)
      | false => rw [hp] at h; exact et_is h (by show false = Option.isSome (if p j = true then some (D.int (j : Nat)) else none); rw [hp]; rfl)
    · have hz : (if p j = true then some (D.int (j : Nat)) else none) = some z := hz
      cases hp : p j with
      | true => rw [hp] at hz; cases hz; exact ⟨_, _, he j hj, back j⟩
      | false => rw [hp] at hz; cases hz
end
end G

set_option Elab.async false
set_option maxRecDepth 100000
set_option maxHeartbeats 4000000
set_option linter.all false
namespace G
open PySem L2 PyProof.Rows
local macro_rules | `(tactic| walk_at "rho") => `(tactic| (show (_ : List Slot) = _; (try dsimp only [List.set_cons_succ, List.set_cons_zero, List.map_cons, List.map_nil, List.cons_append, List.nil_append, relend, unR]); all_goals exact rfl))
def CWrongSo : CM := fun ws ds R => ∃ (n d : Nat) (es : Edges) (q : Pool), ds = [.int (n : Nat), .lst (edgesD es)] ∧ 1 ≤ n ∧ n ≤ 64 ∧ Reg n d es ∧ d ≤ 63 ∧ ws = q.enc ∧ q.Ok ∧ ∀ q' : Pool, q'.Ok → R (.bl true) q'.enc
abbrev rWr (a : Addr) (q : Pool) (n : Nat) (es : Edges) (s3 s4 s5 s6 s7 s8 s9 s10 s11 s12 s13 s14 : Slot) : Rho := [.pr a (.l q.enc), .fr (.int (n : Nat)), .fr (.lst (edgesD es)), s3, s4, s5, s6, s7, s8, s9, s10, s11, s12, s13, s14, .un]
theorem pl_bad {e : D} {s : Str} (h : Pl 2 e) : Pl 3 (badD e s) := .tup 2 _ (fun d hd => by
  rcases (show d = .str "refused" ∨ d = e ∨ d = .str s ∨ d = .bl true by simpa using hd) with rfl | rfl | rfl | rfl
  · exact .str _ _
  · exact h
  · exact .str _ _
  · exact .bl _ _) (by show 4 < 16777216; decide)
theorem pl_good (n k : Nat) {es : Edges} (h : es.length < 16777216) : Pl 3 (goodD n k es) := .tup 2 _ (fun d hd => by
  rcases (show d = .str "told" ∨ d = .int (n : Nat) ∨ d = .int (k : Nat) ∨ d = .tup (edgesD (sortE es)) by simpa using hd) with rfl | rfl | rfl | rfl
  · exact .str _ _
  · exact .int _ _
  · exact .int _ _
  · exact Pl.edges (by rw [sortE_len]; exact h)) (by show 4 < 16777216; decide)
theorem pl_more (n : Nat) {es : Edges} (h : es.length < 16777216) : Pl 3 (moreD n es) := by
  unfold moreD
  split
  · exact pl_good _ _ h
  · exact pl_bad (.int _ _)
section
variable {P : Program} {w : World} {K : PySem.W.Frag} {mg : Str → Option Value} {base : Heap} {f f1 f2 f3 f4 f5 f6 : Addr} {fd fd1 fd2 fd3 fd4 fd5 fd6 : FuncData} {Cl CB CP CG : Addr}
theorem ok_wrongSo (F : Df K mg "_law_wrong_so" "_law_wrong_so" sLawWrongSo ["pool", "n", "edges"] f fd) (F1 : Df K mg "_law_pick" "_law_pick" sLawPick ["pool", "rows"] f1 fd1) (F2 : Df K mg "_law_take" "_law_take" sLawTake ["pool", "many"] f2 fd2) (G3 : FnOk P w K mg base CX0 5 f3 fd3 ["n", "edges"] (spP K CToldG)) (F3 : Df K mg "_law_told" "_law_told" sLawTold ["n", "edges"] f3 fd3)
    (F4 : Df K mg "_law_ends" "_law_ends" sLawEnds ["n", "edges"] f4 fd4) (F5 : Df K mg "_law_same" "_law_same" sLawSame ["actual", "due"] f5 fd5) (F6 : Df K mg "_law_is_integer" "_law_is_integer" sLawIsInteger ["actual"] f6 fd6) (gD : mg "dict" = none) (T : Bn mg) : FnOk P w K mg base CX0 6 f fd ["pool", "n", "edges"] (spM K CWrongSo) := by
  have G1 : FnOk P w K mg base CX0 3 f1 fd1 ["pool", "rows"] (spM K CPick) := ok_pick F1 F2 T
  have G2 : FnOk P w K mg base CX0 2 f2 fd2 ["pool", "many"] (spM K CTake) := ok_take F2 T
  have G4 : FnOk P w K mg base CX0 1 f4 fd4 ["n", "edges"] (spP K CEndsL) := ok_lawEnds F4 T
  have G5 : FnOk P w K mg base CX0 5 f5 fd5 ["actual", "due"] (spP K (CSame 3)) := ok_same F5 F6 T 3
  refine fnM F.F scLawWrongSo (fun ws ds R hC => ?_) (fun cdv A outer s H E a ws ds R hr hC => ?_)
  · obtain ⟨n, d, es, q, rfl, _⟩ := hC; rfl
  · obtain ⟨n, d, es, q0, rfl, hn1, hn2, hreg, hd, rfl, ok0, kk⟩ := hC
    have r1 := hr.mono (show 1 ≤ 5 by omega)
    have r2 := hr.mono (show 2 ≤ 5 by omega)
    have r3 := hr.mono (show 3 ≤ 5 by omega)
    have hes : es.length ≤ 4032 := by
      have h1 := hreg.few
      have h2 : n * d ≤ 64 * 63 := Nat.mul_le_mul hn2 hd
      omega
    show ST _ _ (rWr a q0 n es .un .un .un .un .un .un .un .un .un .un .un .un) _
    -- odd
    refine st_cons (M := fun r => ∃ (x : D) (q : Pool), x ∈ oddL ∧ q.Ok ∧ r = rWr a q n es (.fr x) .un .un .un .un .un .un .un .un .un .un .un)
      (s_asgW (i := 3) (P := fun z r => ∃ q : Pool, z ∈ oddL ∧ q.Ok ∧ r = rWr a q n es .un .un .un .un .un .un .un .un .un .un .un .un)
        (we_callM 0 G1 r3 F1.g F1.F.kp F1.b rfl (.inr rfl) (wa_of (ea_cons (ev_lst (ds := oddL) (ea_cons ev_non (ea_cons ev_int (ea_cons (ev_neg ev_int) (ea_cons ev_int (ea_cons ev_bl (ea_cons ev_str (ea_cons (ev_tup (ds := [.int 3]) (ea_cons ev_int ea_nil) (by show 1 ≤ 100000; decide)) (ea_cons (ev_pow ev_int ev_int ⟨by decide, by decide, by decide⟩) ea_nil)))))))) (by show 8 ≤ 100000; decide)) ea_nil)
          ⟨_, rfl, oddL, q0, rfl, by show 0 < 8; decide, by show 8 ≤ 16777216; decide, rfl, ok0, fun i o q' ho ok' => ⟨q', List.mem_of_getElem? ho, ok', rfl⟩⟩)) scLawWrongSo.nd (fun z r h => ?_)) ?_
    · obtain ⟨q, hz, ok, rfl⟩ := h
      exact ⟨z, q, hz, ok, rfl⟩
    rintro _ ⟨x, q1, hx, ok1, rfl⟩
    obtain ⟨hxp, hxi⟩ := odd_facts hx
    refine st_if (et_not (et_val (ev_call G5 hr F5.g F5.F.kp F5.b (ea_cons (ev_call G3 hr F3.g F3.F.kp F3.b (ea_cons (ev_var 3) (ea_cons (ev_var 2) ea_nil)) ⟨x, _, rfl, hxp, two_encB (b1 := false) (b2 := true) (by omega), congrArg toldR (hxi _)⟩)
      (ea_cons (ev_tup (ds := [.str "refused", .non, .str "places", .bl true]) (ea_cons ev_str (ea_cons ev_non (ea_cons ev_str (ea_cons ev_bl ea_nil)))) (by show 4 ≤ 100000; decide)) ea_nil)) ⟨badD .non "places", rfl, pl_bad (.non _), rfl⟩))) (fun h => nomatch h) (fun _ => st_nil ?_)
    -- none
    refine st_cons (M := fun r => ∃ (y : D) (q : Pool), y ∈ noneL ∧ q.Ok ∧ r = rWr a q n es (.fr x) (.fr y) .un .un .un .un .un .un .un .un .un .un)
      (s_asgW (i := 4) (P := fun z r => ∃ q : Pool, z ∈ noneL ∧ q.Ok ∧ r = rWr a q n es (.fr x) .un .un .un .un .un .un .un .un .un .un .un)
        (we_callM 0 G1 r3 F1.g F1.F.kp F1.b rfl (.inr rfl) (wa_of (ea_cons (ev_lst (ds := noneL) (ea_cons ev_non (ea_cons ev_int (ea_cons ev_str (ea_cons (ev_dictT (i := 0) (j := 0) (z := .int 1) hr rfl gD (ev_lst (ds := [.tup [.tup [.int 0, .int 0], .int 1]]) (ea_cons (ev_tup (ds := [.tup [.int 0, .int 0], .int 1]) (ea_cons (ev_tup (ds := [.int 0, .int 0]) (ea_cons ev_int (ea_cons ev_int ea_nil)) (by show 2 ≤ 100000; decide)) (ea_cons ev_int ea_nil)) (by show 2 ≤ 100000; decide)) ea_nil) (by show 1 ≤ 100000; decide)))
          (ea_cons (ev_ofN (en_rep1 (z := .tup [.int 0, .int 0]) (i := 4097) (ev_lst (ds := [.tup [.int 0, .int 0]]) (ea_cons (ev_tup (ds := [.int 0, .int 0]) (ea_cons ev_int (ea_cons ev_int ea_nil)) (by show 2 ≤ 100000; decide)) ea_nil) (by show 1 ≤ 100000; decide)) ev_int (by decide) (by decide))) ea_nil))))) (by show 5 ≤ 100000; decide)) ea_nil)
          ⟨_, rfl, noneL, q1, rfl, by show 0 < 5; decide, by show 5 ≤ 16777216; decide, rfl, ok1, fun i o q' ho ok' => ⟨q', List.mem_of_getElem? ho, ok', rfl⟩⟩)) scLawWrongSo.nd (fun z r h => ?_)) ?_
    · obtain ⟨q, hz, ok, rfl⟩ := h
      exact ⟨z, q, hz, ok, rfl⟩
    rintro _ ⟨y, q2, hy, ok2, rfl⟩
    obtain ⟨hyt, hyi⟩ := none_facts hy
    refine st_if (et_not (et_val (ev_call G5 hr F5.g F5.F.kp F5.b (ea_cons (ev_call G3 hr F3.g F3.F.kp F3.b (ea_cons (ev_var 1) (ea_cons (ev_var 4) ea_nil)) ⟨_, y, rfl, rfl, hyt, congrArg toldR (hyi n hn1 hn2)⟩)
      (ea_cons (ev_tup (ds := [.str "refused", .non, .str "count", .bl true]) (ea_cons ev_str (ea_cons ev_non (ea_cons ev_str (ea_cons ev_bl ea_nil)))) (by show 4 ≤ 100000; decide)) ea_nil)) ⟨badD .non "count", rfl, pl_bad (.non _), rfl⟩))) (fun h => nomatch h) (fun _ => st_nil ?_)
    -- rows
    refine st_to (ρ2 := rWr a q2 n es (.fr x) (.fr y) (.fr (.lst (rowsA.map rsD))) .un .un .un .un .un .un .un .un .un) (s_asg (i := 5) (ev_lst (ds := rowsA.map rsD) (ea_cons (ev_tup (ds := [_, .str _]) (ea_cons ev_non (ea_cons ev_str ea_nil)) (by show 2 ≤ 100000; decide)) (ea_cons (ev_tup (ds := [_, .str _]) (ea_cons (ev_tup (ds := [.int 0]) (ea_cons ev_int ea_nil) (by show 1 ≤ 100000; decide)) (ea_cons ev_str ea_nil)) (by show 2 ≤ 100000; decide)) (ea_cons (ev_tup (ds := [_, .str _]) (ea_cons (ev_tup (ds := [.int 0, .int 0, .int 0]) (ea_cons ev_int (ea_cons ev_int (ea_cons ev_int ea_nil))) (by show 3 ≤ 100000; decide)) (ea_cons ev_str ea_nil)) (by show 2 ≤ 100000; decide))
      (ea_cons (ev_tup (ds := [_, .str _]) (ea_cons ev_int (ea_cons ev_str ea_nil)) (by show 2 ≤ 100000; decide)) (ea_cons (ev_tup (ds := [_, .str _]) (ea_cons ev_str (ea_cons ev_str ea_nil)) (by show 2 ≤ 100000; decide)) (ea_cons (ev_tup (ds := [_, .str _]) (ea_cons (ev_tup (ds := [_, _]) (ea_cons ev_int (ea_cons ev_bl ea_nil)) (by show 2 ≤ 100000; decide)) (ea_cons ev_str ea_nil)) (by show 2 ≤ 100000; decide)) (ea_cons (ev_tup (ds := [_, .str _]) (ea_cons (ev_tup (ds := [_, _]) (ea_cons ev_int (ea_cons ev_non ea_nil)) (by show 2 ≤ 100000; decide)) (ea_cons ev_str ea_nil)) (by show 2 ≤ 100000; decide)) (ea_cons (ev_tup (ds := [_, .str _]) (ea_cons (ev_tup (ds := [_, _]) (ea_cons ev_int (ea_cons ev_str ea_nil)) (by show 2 ≤ 100000; decide)) (ea_cons ev_str ea_nil)) (by show 2 ≤ 100000; decide)) ea_nil)))))))) (by show 8 ≤ 100000; decide)) scLawWrongSo.nd (by walk_at "rho")) ?_
    refine st_new (i := 5) (ds := (rowsA ++ rowsB n).map rsD) (en_is (en_cat (ds := rowsA.map rsD) (ds' := (rowsB n).map rsD) (ev_var 5) (ev_lst (ds := (rowsB n).map rsD) (ea_cons (ev_tup (ds := [_, .str _]) (ea_cons (ev_tup (ds := [_, _]) (ea_cons ev_int (ea_cons (ev_var 1) ea_nil)) (by show 2 ≤ 100000; decide)) (ea_cons ev_str ea_nil)) (by show 2 ≤ 100000; decide)) (ea_cons (ev_tup (ds := [_, .str _]) (ea_cons (ev_tup (ds := [_, _]) (ea_cons (ev_neg ev_int) (ea_cons ev_int ea_nil)) (by show 2 ≤ 100000; decide)) (ea_cons ev_str ea_nil)) (by show 2 ≤ 100000; decide)) (ea_cons (ev_tup (ds := [_, .str _]) (ea_cons (ev_tup (ds := [_, _]) (ea_cons (ev_var 1) (ea_cons (ev_var 1) ea_nil)) (by show 2 ≤ 100000; decide)) (ea_cons ev_str ea_nil)) (by show 2 ≤ 100000; decide)) (ea_cons (ev_tup (ds := [_, .str _]) (ea_cons (ev_tup (ds := [_, _]) (ea_cons (ev_neg ev_int) (ea_cons (ev_var 1) ea_nil)) (by show 2 ≤ 100000; decide)) (ea_cons ev_str ea_nil)) (by show 2 ≤ 100000; decide)) (ea_cons (ev_tup (ds := [_, .str _]) (ea_cons (ev_dict (qs := [(0, 0), (1, 0)]) rfl gD (ev_lst (ds := [.tup [.int 0, .int 0], .tup [.int 1, .int 0]]) (ea_cons (ev_tup (ds := [_, _]) (ea_cons ev_int (ea_cons ev_int ea_nil)) (by show 2 ≤ 100000; decide)) (ea_cons (ev_tup (ds := [_, _]) (ea_cons ev_int (ea_cons ev_int ea_nil)) (by show 2 ≤ 100000; decide)) ea_nil)) (by show 2 ≤ 100000; decide))) (ea_cons ev_str ea_nil)) (by show 2 ≤ 100000; decide)) ea_nil))))) (by show 5 ≤ 100000; decide)) (by show 8 + 5 ≤ 16777216; decide)) (by rw [List.map_append])) scLawWrongSo.nd (fun b => ?_)
    show ST _ _ (rWr a q2 n es (.fr x) (.fr y) (.ow b (.l ((rowsA ++ rowsB n).map rsD))) .un .un .un .un .un .un .un .un .un) _
    refine st_cons (M := fun r => r = rWr a q2 n es (.fr x) (.fr y) (.ow b (.l ((rowsW n).map rsD))) .un .un .un .un .un .un .un .un .un)
      (s_if (et_gt (ev_var 1) ev_int) (fun h => ?_) (fun h => st_nil ?_)) ?_
    · have h : 1 < n := by have := of_decide_eq_true h; omega
      refine st_one (M := fun _ => True) (s_append 5 (d := rsD (.tup [.int ((n : Int) - 1), .int 0], "place")) (ev_tup (ds := [_, .str _]) (ea_cons (ev_tup (ds := [_, _]) (ea_cons (ev_sub (ev_var 1) ev_int) (ea_cons ev_int ea_nil)) (by show 2 ≤ 100000; decide)) (ea_cons ev_str ea_nil)) (by show 2 ≤ 100000; decide)) rfl (.inl rfl) ⟨_, rfl⟩ (by show 13 < 16777216; decide) ?_)
      show rWr a q2 n es (.fr x) (.fr y) (.ow b (.l ((rowsA ++ rowsB n).map rsD ++ [rsD (.tup [.int ((n : Int) - 1), .int 0], "place")]))) .un .un .un .un .un .un .un .un .un = _
      unfold rowsW rowsC
      rw [if_pos h, List.map_append (l₁ := rowsA ++ rowsB n)]
      rfl
    · have h : ¬ 1 < n := by have := of_decide_eq_false h; omega
      unfold rowsW rowsC
      rw [if_neg h, List.append_nil]
    rintro _ rfl
    refine st_iceL (i := 5) rfl ?_
    show ST _ _ (rWr a q2 n es (.fr x) (.fr y) (.fr (.lst ((rowsW n).map rsD))) .un .un .un .un .un .un .un .un .un) _
    -- cells
    refine st_new (i := 6) (en_listL T.list (el_ofV (ev_var 2))) scLawWrongSo.nd (fun c => ?_)
    show ST _ _ (rWr a q2 n es (.fr x) (.fr y) (.fr (.lst ((rowsW n).map rsD))) (.ow c (.l (edgesD es))) .un .un .un .un .un .un .un .un) _
    refine st_cons (M := fun r => ∃ (at' : Nat) (q : Pool), at' ≤ es.length ∧ q.Ok ∧ r = rWr a q n es (.fr x) (.fr y) (.fr (.lst ((rowsW n).map rsD))) (.ow c (.l (edgesD es))) (.fr (.int (at' : Nat))) .un .un .un .un .un .un .un)
      (s_asgW (i := 7) (P := fun z r => ∃ (at' : Nat) (q : Pool), at' ≤ es.length ∧ q.Ok ∧ z = .int (at' : Nat) ∧ r = rWr a q n es (.fr x) (.fr y) (.fr (.lst ((rowsW n).map rsD))) (.ow c (.l (edgesD es))) .un .un .un .un .un .un .un .un)
        (we_callM 0 G2 r2 F2.g F2.F.kp F2.b rfl (.inr rfl) (wa_of (ea_cons (ev_add (ev_lenL T.len (el_own 6)) ev_int) ea_nil) ⟨_, rfl, ((edgesD es).length : Nat) + 1, rfl, by omega, small8 (by rw [edgesD_len]; omega), q2, rfl, ok2, fun v q' hv ok' => ⟨v, q', by rw [edgesD_len] at hv; omega, ok', rfl, rfl⟩⟩)) scLawWrongSo.nd (fun z r h => ?_)) ?_
    · obtain ⟨at', q, h1, h2, rfl, rfl⟩ := h
      exact ⟨at', q, h1, h2, rfl⟩
    rintro _ ⟨at', q3, hat, ok3, rfl⟩
    have rl := rows_len n
    have pick : ∀ {i : Nat} {o : D}, ((rowsW n).map rsD)[i]? = some o → ∃ p, p ∈ rowsW n ∧ o = rsD p := fun {i o} h => by
      obtain ⟨p, hp, rfl⟩ := map_get h
      exact ⟨p, List.mem_of_getElem? hp, rfl⟩
    refine st_cons (M := fun r => ∃ (p : D × Str) (q : Pool), p ∈ rowsW n ∧ q.Ok ∧ r = rWr a q n es (.fr x) (.fr y) (.fr (.lst ((rowsW n).map rsD))) (.ow c (.l (edgesD es))) (.fr (.int (at' : Nat))) (.fr p.1) (.fr (.str p.2)) .un .un .un .un .un)
      (s_asgTW (js := [8, 9]) (P := fun z r => ∃ (p : D × Str) (q : Pool), p ∈ rowsW n ∧ q.Ok ∧ z = rsD p ∧ r = rWr a q n es (.fr x) (.fr y) (.fr (.lst ((rowsW n).map rsD))) (.ow c (.l (edgesD es))) (.fr (.int (at' : Nat))) .un .un .un .un .un .un .un)
        (we_callM 0 G1 r3 F1.g F1.F.kp F1.b rfl (.inr rfl) (wa_of (ea_cons (ev_var 5) ea_nil) ⟨_, rfl, _, q3, rfl, by rw [List.length_map]; omega, by rw [List.length_map]; omega, rfl, ok3, fun i o q' ho ok' => by
          obtain ⟨p, hp, rfl⟩ := pick ho
          exact ⟨p, q', hp, ok', rfl, rfl⟩⟩)) (fun z r h => ?_)) ?_
    · obtain ⟨p, q, hp, ok, rfl, rfl⟩ := h
      exact ⟨_, tg_tup2 (tg_name 8 scLawWrongSo.nd) (tg_name 9 scLawWrongSo.nd), p, q, hp, ok, rfl⟩
    rintro _ ⟨p, q4, hp, ok4, rfl⟩
    obtain ⟨hpo, hpf⟩ := wrong_facts hn1 hp
    refine st_cons (M := fun r => r = rWr a q4 n es (.fr x) (.fr y) (.fr (.lst ((rowsW n).map rsD))) (.ow c (.l ((edgesD es).take at' ++ [p.1] ++ (edgesD es).drop at'))) (.fr (.int (at' : Nat))) (.fr p.1) (.fr (.str p.2)) .un .un .un .un .un)
      (s_insertW (k := at') 6 (ev_var 7) (P := fun z r => z = p.1 ∧ r = rWr a q4 n es (.fr x) (.fr y) (.fr (.lst ((rowsW n).map rsD))) (.ow c (.l (edgesD es))) (.fr (.int (at' : Nat))) (.fr p.1) (.fr (.str p.2)) .un .un .un .un .un) (we_of (ev_var 8) ⟨rfl, rfl⟩) rfl (.inl rfl) (fun z r h => ?_)) ?_
    · obtain ⟨rfl, rfl⟩ := h
      exact ⟨edgesD es, rfl, by rw [edgesD_len]; omega, by omega, rfl⟩
    rintro _ rfl
    have hcl : ((edgesD es).take at' ++ [p.1] ++ (edgesD es).drop at').length ≤ 4096 := by
      rw [List.length_append, List.length_append, List.length_take, List.length_drop, edgesD_len, List.length_singleton]; omega
    refine st_cons (M := fun r => ∃ (more : List D) (q : Pool), more.length ≤ 1 ∧ (∀ y ∈ more, OkRow y) ∧ q.Ok ∧ r = rWr a q n es (.fr x) (.fr y) (.fr (.lst ((rowsW n).map rsD))) (.ow c (.l ((edgesD es).take at' ++ [p.1] ++ (edgesD es).drop at' ++ more))) (.fr (.int (at' : Nat))) (.fr p.1) (.fr (.str p.2)) .un .un .un .un .un)
      (s_ifW (PB := fun _ r => ∃ q : Pool, q.Ok ∧ r = rWr a q n es (.fr x) (.fr y) (.fr (.lst ((rowsW n).map rsD))) (.ow c (.l ((edgesD es).take at' ++ [p.1] ++ (edgesD es).drop at'))) (.fr (.int (at' : Nat))) (.fr p.1) (.fr (.str p.2)) .un .un .un .un .un)
        (wt_cmp op_eq (P := fun z r => ∃ (v : Nat) (q : Pool), q.Ok ∧ z = .int (v : Nat) ∧ r = rWr a q n es (.fr x) (.fr y) (.fr (.lst ((rowsW n).map rsD))) (.ow c (.l ((edgesD es).take at' ++ [p.1] ++ (edgesD es).drop at'))) (.fr (.int (at' : Nat))) (.fr p.1) (.fr (.str p.2)) .un .un .un .un .un) (P2 := fun _ r y r2 => y = .int 0 ∧ r2 = r)
          (we_callM 0 G2 r2 F2.g F2.F.kp F2.b rfl (.inr rfl) (wa_of (ea_cons ev_int ea_nil) ⟨_, rfl, 2, rfl, by decide, small8 (by decide), q4, rfl, ok4, fun v q2 hv ok2 => ⟨v, q2, ok2, rfl, rfl⟩⟩)) (fun x r h => we_of ev_int ⟨rfl, rfl⟩) rfl (fun x ra y rb h h2 => ?_)) (fun r h => ?_) (fun r h => ?_)) ?_
    · obtain ⟨v, q, ok, rfl, rfl⟩ := h
      obtain ⟨rfl, rfl⟩ := h2
      exact ⟨_, veqI, q, ok, rfl⟩
    · obtain ⟨q, ok, rfl⟩ := h
      refine st_one (M := fun _ => True) (s_appendW 6 (P := fun z r => ∃ q : Pool, OkRow z ∧ q.Ok ∧ r = rWr a q n es (.fr x) (.fr y) (.fr (.lst ((rowsW n).map rsD))) (.ow c (.l ((edgesD es).take at' ++ [p.1] ++ (edgesD es).drop at'))) (.fr (.int (at' : Nat))) (.fr p.1) (.fr (.str p.2)) .un .un .un .un .un)
        (we_ix ix_tup (P := fun z r => ∃ (p' : D × Str) (q : Pool), p' ∈ rowsW n ∧ q.Ok ∧ z = rsD p' ∧ r = rWr a q n es (.fr x) (.fr y) (.fr (.lst ((rowsW n).map rsD))) (.ow c (.l ((edgesD es).take at' ++ [p.1] ++ (edgesD es).drop at'))) (.fr (.int (at' : Nat))) (.fr p.1) (.fr (.str p.2)) .un .un .un .un .un) (P2 := fun _ r y r2 => y = .int 0 ∧ r2 = r)
          (we_callM 0 G1 r3 F1.g F1.F.kp F1.b rfl (.inr rfl) (wa_of (ea_cons (ev_var 5) ea_nil) ⟨_, rfl, _, q, rfl, by rw [List.length_map]; omega, by rw [List.length_map]; omega, rfl, ok, fun i o q' ho ok' => by
            obtain ⟨p', hp', rfl⟩ := pick ho
            exact ⟨p', q', hp', ok', rfl, rfl⟩⟩)) (fun z r h => we_of ev_int ⟨rfl, rfl⟩) (fun z ra y rb h h2 => ?_)) rfl (.inl rfl) (fun z r h => ?_))
      · obtain ⟨p', q', hp', ok', rfl, rfl⟩ := h
        obtain ⟨rfl, rfl⟩ := h2
        exact ⟨p'.1, vIxT (z := p'.1) rfl, q', (wrong_facts hn1 hp').1, ok', rfl⟩
      · obtain ⟨q', hz, ok', rfl⟩ := h
        exact ⟨_, rfl, by omega, [z], q', Nat.le_refl _, fun y hy => by rw [List.mem_singleton.mp hy]; exact hz, ok', rfl⟩
    · obtain ⟨q, ok, rfl⟩ := h
      exact st_nil ⟨[], q, Nat.zero_le _, (fun y hy => nomatch hy), ok, by rw [List.append_nil]⟩
    rintro _ ⟨more, q5, hm1, hm2, ok5, rfl⟩
    refine st_iceL (i := 6) rfl ?_
    generalize hcc : (edgesD es).take at' ++ [p.1] ++ (edgesD es).drop at' ++ more = cs
    show ST _ _ (rWr a q5 n es (.fr x) (.fr y) (.fr (.lst ((rowsW n).map rsD))) (.fr (.lst cs)) (.fr (.int (at' : Nat))) (.fr p.1) (.fr (.str p.2)) .un .un .un .un .un) _
    have csT : ∀ b : Bool, Two (rowD b cs) := fun b => by rw [← hcc]; exact cells_two (n := n) hpo hm2 hm1 (by omega)
    have csI : ∀ b : Bool, toldR (initR (.int (n : Nat)) (rowD b cs)) = badD (.int (at' : Nat)) p.2 := fun b => by
      rw [← hcc, cells_init hn1 hn2 hreg.1 hat hpf hm1 (by omega)]; rfl
    refine st_ifW (PB := fun bb r => (!bb) = true ∧ ∃ q : Pool, q.Ok ∧ r = rWr a q n es (.fr x) (.fr y) (.fr (.lst ((rowsW n).map rsD))) (.fr (.lst cs)) (.fr (.int (at' : Nat))) (.fr p.1) (.fr (.str p.2)) .un .un .un .un .un)
      (wt_not (PB := fun bb r => bb = true ∧ ∃ q : Pool, q.Ok ∧ r = rWr a q n es (.fr x) (.fr y) (.fr (.lst ((rowsW n).map rsD))) (.fr (.lst cs)) (.fr (.int (at' : Nat))) (.fr p.1) (.fr (.str p.2)) .un .un .un .un .un)
        (wt_val (we_call G5 hr F5.g F5.F.kp F5.b (wa_cons (P := fun z r => z = badD (.int (at' : Nat)) p.2 ∧ ∃ q : Pool, q.Ok ∧ r = rWr a q n es (.fr x) (.fr y) (.fr (.lst ((rowsW n).map rsD))) (.fr (.lst cs)) (.fr (.int (at' : Nat))) (.fr p.1) (.fr (.str p.2)) .un .un .un .un .un)
          (we_call G3 hr F3.g F3.F.kp F3.b (wa_cons (P := fun z r => z = .int (n : Nat) ∧ r = rWr a q5 n es (.fr x) (.fr y) (.fr (.lst ((rowsW n).map rsD))) (.fr (.lst cs)) (.fr (.int (at' : Nat))) (.fr p.1) (.fr (.str p.2)) .un .un .un .un .un) (we_of (ev_var 1) ⟨rfl, rfl⟩) (fun z r h => ?_))) (fun z r h => ?_))))) (fun r h => ?_) (fun r h => ?_)
    · obtain ⟨rfl, rfl⟩ := h
      refine wa_cons (P := fun z r => ∃ (b : Bool) (q : Pool), z = rowD b cs ∧ q.Ok ∧ r = rWr a q n es (.fr x) (.fr y) (.fr (.lst ((rowsW n).map rsD))) (.fr (.lst cs)) (.fr (.int (at' : Nat))) (.fr p.1) (.fr (.str p.2)) .un .un .un .un .un)
        (we_callM 0 G1 r3 F1.g F1.F.kp F1.b rfl (.inr rfl) (wa_of (ea_cons (ev_lst (ds := [.lst cs, .tup cs]) (ea_cons (ev_var 6) (ea_cons (ev_tupleL T.tuple (el_ofV (ev_var 6))) ea_nil)) (by show 2 ≤ 100000; decide)) ea_nil) ⟨_, rfl, _, q5, rfl, by show 0 < 2; decide, by show 2 ≤ 16777216; decide, rfl, ok5, fun i o q' ho ok' => ?_⟩)) (fun z r h => ?_)
      · have hm : o = .lst cs ∨ o = .tup cs := by simpa using List.mem_of_getElem? ho
        rcases hm with rfl | rfl
        · exact ⟨false, q', rfl, ok', rfl⟩
        · exact ⟨true, q', rfl, ok', rfl⟩
      · obtain ⟨b, q', rfl, ok', rfl⟩ := h
        exact wa_nil ⟨_, _, rfl, rfl, csT b, csI b, q', ok', rfl⟩
    · obtain ⟨rfl, q', ok', rfl⟩ := h
      exact wa_of (ea_cons (ev_tup (ds := [.str "refused", .int (at' : Nat), .str p.2, .bl true]) (ea_cons ev_str (ea_cons (ev_var 7) (ea_cons (ev_var 9) (ea_cons ev_bl ea_nil)))) (by show 4 ≤ 100000; decide)) ea_nil) ⟨badD (.int (at' : Nat)) p.2, rfl, pl_bad (.int _ _), true, rfl, rfl, q', ok', rfl⟩
    · obtain ⟨hb, _⟩ := h
      cases hb
    obtain ⟨_, q6, ok6, rfl⟩ := h
    refine st_nil ?_
    -- one loop more
    refine st_cons (M := fun r => ∃ (v : Nat) (q : Pool), v < n ∧ q.Ok ∧ r = rWr a q n es (.fr x) (.fr y) (.fr (.lst ((rowsW n).map rsD))) (.fr (.lst cs)) (.fr (.int (at' : Nat))) (.fr p.1) (.fr (.str p.2)) (.fr (.int (v : Nat))) .un .un .un .un)
      (s_asgW (i := 10) (P := fun z r => ∃ (v : Nat) (q : Pool), v < n ∧ q.Ok ∧ z = .int (v : Nat) ∧ r = rWr a q n es (.fr x) (.fr y) (.fr (.lst ((rowsW n).map rsD))) (.fr (.lst cs)) (.fr (.int (at' : Nat))) (.fr p.1) (.fr (.str p.2)) .un .un .un .un .un)
        (we_callM 0 G2 r2 F2.g F2.F.kp F2.b rfl (.inr rfl) (wa_of (ea_cons (ev_var 1) ea_nil) ⟨_, rfl, _, rfl, by omega, small8 (by omega), q6, rfl, ok6, fun v q' hv ok' => ⟨v, q', by omega, ok', rfl, rfl⟩⟩)) scLawWrongSo.nd (fun z r h => ?_)) ?_
    · obtain ⟨v, q, hv, ok, rfl, rfl⟩ := h
      exact ⟨v, q, hv, ok, rfl⟩
    rintro _ ⟨v, q7, hv, ok7, rfl⟩
    have hm0 : EdgeOk n (es ++ [(v, v)]) := hreg.1.app fun e he => by rw [List.mem_singleton.mp he]; exact ⟨Nat.le_refl _, hv⟩
    have hml : (es ++ [(v, v)]).length ≤ 4096 := by rw [List.length_append, List.length_singleton]; omega
    have hmd : (endsOf n (es ++ [(v, v)])).getD 0 0 ≤ 64 := by
      rw [endsOf_dg hm0]
      have h1 := dg_loop es v 0
      have h2 := hreg.2 0 (by omega)
      omega
    have hme : edgesD es ++ [.tup [.int (v : Nat), .int (v : Nat)]] = edgesD (es ++ [(v, v)]) := edgesD_snoc es (v, v)
    generalize hmm : es ++ [(v, v)] = ms at hm0 hml hmd hme
    refine st_to (ρ2 := rWr a q7 n es (.fr x) (.fr y) (.fr (.lst ((rowsW n).map rsD))) (.fr (.lst cs)) (.fr (.int (at' : Nat))) (.fr p.1) (.fr (.str p.2)) (.fr (.int (v : Nat))) (.fr (.lst (edgesD ms))) .un .un .un)
      (s_asg (i := 11) (ev_is (ev_cat (ds := edgesD es) (ds' := [.tup [.int (v : Nat), .int (v : Nat)]]) (ev_ofN (en_listL T.list (el_ofV (ev_var 2)))) (ev_lst (ds := [.tup [.int (v : Nat), .int (v : Nat)]]) (ea_cons (ev_tup (ds := [_, _]) (ea_cons (ev_var 10) (ea_cons (ev_var 10) ea_nil)) (by show 2 ≤ 100000; decide)) ea_nil) (by show 1 ≤ 100000; decide)) (by rw [edgesD_len]; show es.length + 1 ≤ 16777216; omega)) (congrArg D.lst hme)) scLawWrongSo.nd (by walk_at "rho")) ?_
    have eLen := endsOf_len n ms
    have e0 : L2.atI (natsD (endsOf n ms)) 0 = some (.int ((endsOf n ms).getD 0 0 : Nat)) := natsD_at (i := 0) (by rw [List.getD_eq_getElem?_getD, List.getElem?_eq_getElem (by omega)]; rfl)
    refine st_to (ρ2 := rWr a q7 n es (.fr x) (.fr y) (.fr (.lst ((rowsW n).map rsD))) (.fr (.lst cs)) (.fr (.int (at' : Nat))) (.fr p.1) (.fr (.str p.2)) (.fr (.int (v : Nat))) (.fr (.lst (edgesD ms))) (.fr (goodD n ((endsOf n ms).getD 0 0) ms)) .un .un)
      (s_asg (i := 12) (ev_tup (ds := [.str "told", .int (n : Nat), .int ((endsOf n ms).getD 0 0 : Nat), .tup (edgesD (sortE ms))]) (ea_cons ev_str (ea_cons (ev_var 1) (ea_cons (ev_ixF (ev_call G4 r1 F4.g F4.F.kp F4.b (ea_cons (ev_var 1) (ea_cons (ev_var 11) ea_nil)) ⟨n, ms, rfl, hn2, hm0, rfl⟩) ev_int e0) (ea_cons (ev_is (ev_tupleL T.tuple (el_ofN (en_sortP (es := ms.map toI) T.sorted (el_ofV (ev_is (ev_var 11) (by rw [edgesD_pair])))))) (by rw [sort_edges])) ea_nil)))) (by show 4 ≤ 100000; decide)) scLawWrongSo.nd (by walk_at "rho")) ?_
    refine st_to (ρ2 := rWr a q7 n es (.fr x) (.fr y) (.fr (.lst ((rowsW n).map rsD))) (.fr (.lst cs)) (.fr (.int (at' : Nat))) (.fr p.1) (.fr (.str p.2)) (.fr (.int (v : Nat))) (.fr (.lst (edgesD ms))) (.fr (goodD n ((endsOf n ms).getD 0 0) ms)) (.fr (.lst (natsD (endsOf n ms)))) .un)
      (s_asg (i := 13) (ev_call G4 r1 F4.g F4.F.kp F4.b (ea_cons (ev_var 1) (ea_cons (ev_var 11) ea_nil)) ⟨n, ms, rfl, hn2, hm0, rfl⟩) scLawWrongSo.nd (by walk_at "rho")) ?_
    have ej : ∀ j, j < n → L2.atI (natsD (endsOf n ms)) (j : Int) = some (.int ((endsOf n ms).getD j 0 : Nat)) := fun j hj => natsD_at (by rw [List.getD_eq_getElem?_getD, List.getElem?_eq_getElem (by omega)]; rfl)
    refine st_to (ρ2 := rWr a q7 n es (.fr x) (.fr y) (.fr (.lst ((rowsW n).map rsD))) (.fr (.lst cs)) (.fr (.int (at' : Nat))) (.fr p.1) (.fr (.str p.2)) (.fr (.int (v : Nat))) (.fr (.lst (edgesD ms))) (.fr (goodD n ((endsOf n ms).getD 0 0) ms)) (.fr (.lst (natsD (endsOf n ms)))) (.fr (.lst (natsD (unlikeL n ms)))))
      (s_filtR (l := 14) (fun k => (endsOf n ms).getD k 0 != (endsOf n ms).getD 0 0) 15 (it_range (n := ((n : Nat) : Int)) (ev_var 1) T.range (by omega) (by omega)) scLawWrongSo.nd (blkOk_by (N := nLawWrongSo) (sc := defScope sLawWrongSo) (own := [("k", 15)]) (by decide +kernel)) (by omega) rfl (by show 15 < 16; decide)
        (fun j hj _ _ _ _ _ => tg_name 15 scLawWrongSo.nd) (fun j hj _ _ _ _ _ => et_is (et_neI (ev_ixF (ev_var 13) (ev_var 15) (ej j hj)) (ev_ixF (ev_var 13) ev_int e0)) ?_) (fun j hj _ _ _ _ _ => ev_var 15) rfl) ?_
    · rw [Bool.eq_iff_iff]
      simp
      omega
    have fin := more_told (b1 := false) (b2 := true) hn1 hn2 hm0 hml hmd
    have tail : ∀ q, q = moreD n ms → ST (cxOf CX0 P w K mg base nLawWrongSo "_law_wrong_so" (defScope sLawWrongSo) f cdv A outer s H E).nox ((defBody sLawWrongSo).drop 19) (rWr a q7 n es (.fr x) (.fr y) (.fr (.lst ((rowsW n).map rsD))) (.fr (.lst cs)) (.fr (.int (at' : Nat))) (.fr p.1) (.fr (.str p.2)) (.fr (.int (v : Nat))) (.fr (.lst (edgesD ms))) (.fr q) (.fr (.lst (natsD (endsOf n ms)))) (.fr (.lst (natsD (unlikeL n ms))))) { nx := fun ρ => ∃ ws', ρ[0]? = some (.pr a (.l ws')) ∧ R .non ws', rt := fun d ρ => ∃ ws', ρ[0]? = some (.pr a (.l ws')) ∧ R d ws' } := fun q hq => by
      subst hq
      exact st_ret (ev_call G5 hr F5.g F5.F.kp F5.b (ea_cons (ev_call G3 hr F3.g F3.F.kp F3.b (ea_cons (ev_var 1) (ea_cons (ev_var 11) ea_nil)) ⟨_, _, rfl, rfl, two_encB (b1 := false) (b2 := true) (by omega), fin⟩) (ea_cons (ev_var 12) ea_nil)) ⟨moreD n ms, rfl, pl_more n (by omega), rfl⟩) ⟨q7.enc, rfl, kk q7 ok7⟩
    refine st_cons (M := fun r => r = rWr a q7 n es (.fr x) (.fr y) (.fr (.lst ((rowsW n).map rsD))) (.fr (.lst cs)) (.fr (.int (at' : Nat))) (.fr p.1) (.fr (.str p.2)) (.fr (.int (v : Nat))) (.fr (.lst (edgesD ms))) (.fr (moreD n ms)) (.fr (.lst (natsD (endsOf n ms)))) (.fr (.lst (natsD (unlikeL n ms)))))
      (s_if (et_truth (x := .lst (natsD (unlikeL n ms))) (ev_var 14) trivial) (fun h => ?_) (fun h => st_nil ?_)) (fun r h => by subst h; exact tail _ rfl)
    · obtain ⟨u, l, hu⟩ : ∃ u l, unlikeL n ms = u :: l := by
        cases q : unlikeL n ms with
        | nil => rw [q] at h; cases h
        | cons u l => exact ⟨u, l, rfl⟩
      have eq : moreD n ms = badD (.int (u : Nat)) "degree" := by unfold moreD; rw [hu]
      rw [eq, hu]
      exact st_one (M := fun _ => True) (s_asg (i := 12) (ev_tup (ds := [.str "refused", .int (u : Nat), .str "degree", .bl true]) (ea_cons ev_str (ea_cons (ev_ixF (ds := natsD (u :: l)) (z := .int (u : Nat)) (ev_var 14) ev_int (natsD_at (i := 0) rfl)) (ea_cons ev_str (ea_cons ev_bl ea_nil)))) (by show 4 ≤ 100000; decide)) scLawWrongSo.nd rfl)
    · have eq : moreD n ms = goodD n ((endsOf n ms).getD 0 0) ms := by
        cases q : unlikeL n ms with
        | nil => unfold moreD; rw [q]
        | cons u l => rw [q] at h; cases h
      rw [eq]
end
end G

set_option Elab.async false
set_option maxRecDepth 100000
set_option maxHeartbeats 2000000
set_option linter.all false
/-! G32: what repr wants, of rows of numbers. -/
namespace G
open PySem L2 PyProof.Rows
/-- depth k at most, m signs at most -/
structure Sh (k m : Nat) (d : D) : Prop where
  bare : d.bare = true
  show_ : d.py.showable = true
  flat : d.py.depth ≤ k
  len : d.py.shown.length ≤ m
theorem Sh.up {k m k' m' : Nat} {d : D} (h : Sh k m d) (h1 : k ≤ k') (h2 : m ≤ m') : Sh k' m' d := ⟨h.bare, h.show_, Nat.le_trans h.flat h1, Nat.le_trans h.len h2⟩
theorem Sh.shows {k m : Nat} {d : D} (h : Sh k m d) (h1 : k ≤ 20) (h2 : m ≤ 16777216) : Shows d := ⟨h.bare, h.show_, Nat.le_trans h.flat h1, by rw [sizeLine_eq]; exact Nat.le_trans h.len h2⟩
theorem Sh.int {k : Nat} {i : Int} (h : i.natAbs < 10 ^ 24) : Sh k 25 (.int i) := by
  refine ⟨by unfold D.bare; rfl, ?_, ?_, ?_⟩
  · unfold D.py PyData.showable
    refine decide_eq_true ?_
    by_cases q : i.natAbs = 0
    · rw [q]; decide
    · exact (Nat.log2_lt q).mpr (Nat.lt_of_lt_of_le h (by decide))
  · unfold D.py PyData.depth; exact Nat.zero_le _
  · have e := int_text_length_le10 (k := 24) (by decide) h
    unfold D.py
    show (Str.ofString (toString i)).length ≤ 25
    rw [PySem.ofString_length]
    exact e
theorem Sh.alls {k m : Nat} : ∀ {l : List D}, (∀ d ∈ l, Sh k m d) → D.bares l = true ∧ PyData.showableAll (D.pys l) = true ∧ PyData.depthAll (D.pys l) ≤ k ∧ ((PyData.shownAll (D.pys l)).map (·.length)).sum ≤ l.length * m ∧ (PyData.shownAll (D.pys l)).length = l.length
  | [], _ => by unfold D.bares D.pys PyData.showableAll PyData.depthAll PyData.shownAll; exact ⟨rfl, rfl, Nat.zero_le _, by simp, rfl⟩
  | d :: l, h => by
    obtain ⟨a1, a2, a3, a4, a5⟩ := Sh.alls (l := l) fun x hx => h x (by simp [hx])
    have b := h d (by simp)
    refine ⟨?_, ?_, ?_, ?_, ?_⟩
    · unfold D.bares; rw [b.bare, a1]; rfl
    · unfold D.pys PyData.showableAll; rw [b.show_, a2]; rfl
    · unfold D.pys PyData.depthAll; exact Nat.max_le.mpr ⟨b.flat, a3⟩
    · unfold D.pys PyData.shownAll
      rw [List.map_cons, List.sum_cons, List.length_cons, Nat.succ_mul]
      have := b.len
      omega
    · unfold D.pys PyData.shownAll
      rw [List.length_cons, List.length_cons, a5]
theorem Sh.row {k m N : Nat} {l : List D} (h : ∀ d ∈ l, Sh k m d) (hl : l.length ≤ N) : Sh (k + 1) (N * (m + 2) + 3) (.tup l) ∧ Sh (k + 1) (N * (m + 2) + 3) (.lst l) := by
  obtain ⟨a1, a2, a3, a4, a5⟩ := Sh.alls h
  have q : l.length * m + 2 * l.length + 3 ≤ N * (m + 2) + 3 := by
    have : l.length * (m + 2) ≤ N * (m + 2) := Nat.mul_le_mul_right _ hl
    rw [Nat.mul_add] at this
    omega
  refine ⟨⟨by unfold D.bare; exact a1, by unfold D.py PyData.showable; exact a2, by unfold D.py PyData.depth; omega, ?_⟩, ⟨by unfold D.bare; exact a1, by unfold D.py PyData.showable; exact a2, by unfold D.py PyData.depth; omega, ?_⟩⟩
  · unfold D.py PyData.shown
    have e := tupleText_len_le (PyData.shownAll (D.pys l))
    omega
  · unfold D.py PyData.shown
    have e := listText_len_le (PyData.shownAll (D.pys l))
    omega
end G

set_option Elab.async false
set_option maxRecDepth 100000
set_option maxHeartbeats 2000000
set_option linter.all false
/-! G53: an own list is read as if it were frozen, for one expression whose value has no list in it. -/
namespace G
open PySem L2 PyProof.Rows
mutual
def D.nol : D → Bool
  | .tup l => nolL l
  | .ins _ fs => nolF fs
  | .exc _ _ fs => nolF fs
  | .lst _ => false
  | .scr _ => false
  | _ => true
def nolL : List D → Bool
  | [] => true
  | d :: l => d.nol && nolL l
def nolF : List (Str × D) → Bool
  | [] => true
  | (_, d) :: l => d.nol && nolF l
end
def delB (B : Hp) (a : Addr) : Hp := fun x => if x = a then none else B x
section
variable {K : PySem.W.Frag} {B B' H H' : Hp} {a : Addr} {xs : List V}
theorem delB_ne {x : Addr} (h : x ≠ a) : delB B a x = B x := if_neg h
theorem delB_at {x : Addr} {o : HO} (ha : B a = some (.lst xs)) (h : B x = some o) (n : ∀ ys, o ≠ .lst ys) : delB B a x = some o := by
  rw [delB_ne]
  · exact h
  · rintro rfl
    rw [ha] at h
    cases h
    exact n xs rfl
mutual
theorem Rep.del (ha : B a = some (.lst xs)) : ∀ {v : V} {d : D}, Rep K B v d → d.nol = true → Rep K (delB B a) v d
  | _, _, .non, _ => .non
  | _, _, .bl b, _ => .bl b
  | _, _, .int i, _ => .int i
  | _, _, .str x, _ => .str x
  | _, _, .any v, _ => .any v
  | _, _, .vl v, _ => .vl v
  | _, _, .scr h, n => by simp [D.nol] at n
  | _, _, .exc h r, n => .exc (delB_at ha h fun _ z => nomatch z) (RepF.del ha r (by simpa [D.nol] using n))
  | _, _, .dct h, _ => .dct (h.imp (fun ⟨k, z⟩ => ⟨k, delB_at ha z fun _ z => nomatch z⟩) fun ⟨k, z⟩ => ⟨k, delB_at ha z fun _ z => nomatch z⟩)
  | _, _, .lst h r, n => by simp [D.nol] at n
  | _, _, .tup h r, n => .tup (delB_at ha h fun _ z => nomatch z) (Reps.del ha r (by simpa [D.nol] using n))
  | _, _, .ins h r, n => .ins (delB_at ha h fun _ z => nomatch z) (RepF.del ha r (by simpa [D.nol] using n))
theorem Reps.del (ha : B a = some (.lst xs)) : ∀ {vs : List V} {ds : List D}, Reps K B vs ds → nolL ds = true → Reps K (delB B a) vs ds
  | _, _, .nil, _ => .nil
  | _, _, .cons h r, n => by
    simp only [nolL, Bool.and_eq_true] at n
    exact .cons (Rep.del ha h n.1) (Reps.del ha r n.2)
theorem RepF.del (ha : B a = some (.lst xs)) : ∀ {vs : List (Str × V)} {ds : List (Str × D)}, RepF K B vs ds → nolF ds = true → RepF K (delB B a) vs ds
  | _, _, .nil, _ => .nil
  | _, _, .cons h r, n => by
    simp only [nolF, Bool.and_eq_true] at n
    exact .cons (Rep.del ha h n.1) (RepF.del ha r n.2)
end
end
section
variable {X : Cx} {e : Expr} {ρ : Rho} {d : D} {ds : List D} {a : Addr}
theorem ev_thaw (i : Nat) (hs : ρ[i]? = some (.ow a (.l ds))) (h : EV X e true (ρ.set i (.fr (.lst ds))) d (ρ.set i (.fr (.lst ds)))) (hn : d.nol = true) : EV X e true ρ d ρ :=
  PE.imp h fun σ H Q ⟨w, B, R, k⟩ => by
    obtain ⟨e0, xs, hx, rx⟩ := R.ok i _ hs
    obtain ⟨R1, f⟩ := R.orphan hs
    have fl := f a (by simp [W.foot])
    have R3 := R1.freeze fl hx
    have s3 : Same B (upd B a (.lst xs)) := Grow.freezeB fl.b
    have hi : i < σ.length := (List.getElem?_eq_some_iff.mp e0).1
    have q := R3.putF hi (.lst upd_same (rx.mono s3))
    rw [List.set_set] at q
    have e2 : σ.set i (some (.ref a)) = σ := by
      apply List.ext_getElem?
      intro j
      by_cases n : i = j
      · subst n; rw [List.getElem?_set_self hi, e0]
      · rw [List.getElem?_set_ne n]
    rw [e2] at q
    refine ⟨w, _, q, fun B1 H1 v R2 s2 r2 => ?_⟩
    have g := s2.g rfl
    have ha : B1 a = some (.lst xs) := g.b _ _ upd_same
    have sm : Same B (delB B1 a) := fun x o hx => by
      have n : x ≠ a := ne_of_none hx fl.b
      rw [delB_ne n]
      exact g.b x o (by rw [upd_ne n]; exact hx)
    have nw : ∀ x o, delB B1 a x = some o → B x = some o ∨ H x = none := fun x o hx => by
      by_cases n : x = a
      · subst n; unfold delB at hx; rw [if_pos rfl] at hx; cases hx
      · rw [delB_ne n] at hx
        rcases g.new x o hx with z | z
        · rw [upd_ne n] at z; exact .inl z
        · exact .inr z
    have none_at : ∀ x, B x = none → H x ≠ none → delB B1 a x = none := fun x h1 h2 => by
      cases hq : delB B1 a x with
      | none => rfl
      | some o =>
        rcases nw x o hq with z | z
        · rw [h1] at z; cases z
        · exact absurd z h2
    have there : ∀ (j : Nat) (s : Slot), ρ[j]? = some s → ∀ b ∈ s.foot, H b ≠ none := fun j s hj b hb => by
      have q := R.ok j s hj
      cases s with
      | un => cases hb
      | fr d => cases hb
      | ow c v => exact q.2.there b hb
      | pr c v => exact q.2.there b hb
    have sub : Same (delB B1 a) H1 := fun x o hx => by
      by_cases n : x = a
      · subst n; unfold delB at hx; rw [if_pos rfl] at hx; cases hx
      · rw [delB_ne n] at hx; exact g.ext x o hx
    have R' : SR X.K w (delB B1 a) H1 σ ρ := by
      refine ⟨sub, R.ex0.trans sm, R2.frame, R2.dom, fun x o hx => ?_, R.len, fun j s hj => (R.ok j s hj).keep sm fun b hb => ?_, R.apart, fun j s hj b hb => none_at b (R.sep j s hj b hb) (there j s hj b hb), R.own, R.par⟩
      · by_cases n : x = a
        · subst n; unfold delB at hx; rw [if_pos rfl] at hx; cases hx
        · rw [delB_ne n] at hx; exact R2.new x o hx
      · cases hq : H b with
        | none => exact absurd hq (there j s hj b hb)
        | some o => exact g.h b o hq
    exact k (delB B1 a) H1 v R' (Stp.ofGrow ⟨sm, g.h, sub, nw⟩) (r2.del ha hn)
end
section
variable {X : Cx} {k : Nat} {f Cl : Addr} {fd : FuncData} {ps : List Str} {x : Str} {e : Expr} {es : List Expr} {pp pos : Pos} {p : Bool} {ρ ρ1 : Rho} {ds : List D} {fs0 : List (Str × D)}
/-- C(e, ..), the arguments one each -/
theorem ev_make {C : CO} (M : Mk X.K Cl f) (F : FnOk X.prog X.w X.K X.mg X.base (L2.CX X.prog X.w) k f fd ps (spO X.K Cl C)) (hr : Room (k + 1) X.A) (hm : X.mg x = some (.ref Cl)) (hb : Binds X.K fd ps [])
    (ha : EA X (e :: es) p ρ ds ρ1) (hC : C ds (fun fs => fs = fs0) (fun _ _ => False))
    (hg : Gl X x := by rfl) (hdb : (x == ("__debug__" : Str)) = false := by decide) (he : starEach (e :: es) X.env = (false, eval e X.env) :: starEach es X.env := by rfl) (hpl : (backTo pos (starEach es X.env)).any (·.1) = false := by rfl) :
    EV X (.Call (.Name x pp) (e :: es) [] pos) p ρ (.ins Cl fs0) ρ1 :=
  PE.imp (pe_make M F hr hg hm hb .nil (E := fun _ _ _ => False) (passes_call takes_no fun _ _ _ _ z => z) ha hdb he hpl) fun σ H QV ⟨w, B, R, kk⟩ => ⟨w, B, R, fun B1 H1 vs R1 s1 r1 => fun y dy h1 h2 ne => by
    rw [List.append_nil]
    have e1 : Same B1 (upd (upd H1 dy (.own y)) y (.ins Cl dy [])) := fun a o q => by
      have hq := R1.ext a o q
      rw [upd_ne (ne_of_none hq h1), upd_ne (ne_of_none hq h2)]
      exact hq
    refine ⟨B1, y, vs, dy, ds, _, _, rfl, hC, e1, r1, upd_same, R1.ext.free h1, fun B' H' dx' ws fs g hx rf hR => ⟨rfl, ?_⟩, fun _ _ _ _ _ _ z => z.elim⟩
    subst hR
    have G0 := grow_made R1.ext h1 h2 g hx
    exact kk _ H' (.ref y) (R1.grow G0) (s1.add G0) (.ins upd_same (rf.mono (Grow.freezeB g.na)))⟩
end
end G

set_option Elab.async false
set_option maxRecDepth 100000
set_option maxHeartbeats 4000000
set_option linter.all false
/-! Q15: y = _law_pick(pool, [new list, value, new list]): a new list that is picked is the name's own. -/
namespace G
open PySem L2 PyProof.Rows
section
variable {X : Cx} {x y z : Str} {px py pp pl cpos pos : Pos} {e1 e2 e3 : Expr} {b1 b2 b3 : Bool} {ρ : Rho} {ds1 ds3 : List D} {d2 : D} {p : Addr} {q : Pool} {k : Nat} {f : Addr} {fd : FuncData} {DD : DEnds}
theorem s_pickOwn (ip i : Nat) (F : FnOk X.prog X.w X.K X.mg X.base CX0 k f fd ["pool", "rows"] (spM X.K CPick)) (hr : Room k X.A) (hm : X.mg x = some (.ref f)) (hk : PySem.W.keepIn X.K (.ref f) = true) (hb : Binds X.K fd ["pool", "rows"] [])
    (hp : ρ[ip]? = some (.ow p (.l q.enc))) (ok : q.Ok) (h1 : EN X e1 b1 ρ ds1 ρ) (h2 : EV X e2 b2 ρ d2 ρ) (h3 : EN X e3 b3 ρ ds3 ρ) (nd : X.N.Nodup)
    (k1 : ∀ (q' : Pool) a, q'.Ok → DD.nx ((ρ.set ip (.ow p (.l q'.enc))).set i (.ow a (.l ds1)))) (k2 : ∀ q' : Pool, q'.Ok → DD.nx ((ρ.set ip (.ow p (.l q'.enc))).set i (.fr d2))) (k3 : ∀ (q' : Pool) a, q'.Ok → DD.nx ((ρ.set ip (.ow p (.l q'.enc))).set i (.ow a (.l ds3))))
    (hN : X.N[ip]? = some y := by rfl) (hv : Vis X.env.scope y := by first | exact Or.inl rfl | exact Or.inr (Or.inl rfl) | exact Or.inr (Or.inr rfl)) (hd : (y == ("__debug__" : Str)) = false := by decide) (hcd : (y == ("__classdict__" : Str)) = false := by decide)
    (hg : Gl X x := by rfl) (hdb : (x == ("__debug__" : Str)) = false := by decide) (he : starEach [.Name y px, .List [e1, e2, e3] pl] X.env = (false, eval (.Name y px) X.env) :: starEach [.List [e1, e2, e3] pl] X.env := by rfl) (he2 : starEach [.List [e1, e2, e3] pl] X.env = (false, eval (.List [e1, e2, e3] pl) X.env) :: starEach [] X.env := by rfl)
    (hpl : (backTo cpos (starEach [.List [e1, e2, e3] pl] X.env)).any (·.1) = false := by rfl) (hl1 : starEach [e1, e2, e3] X.env = (false, eval e1 X.env) :: starEach [e2, e3] X.env := by rfl) (hl2 : starEach [e2, e3] X.env = (false, eval e2 X.env) :: starEach [e3] X.env := by rfl) (hl3 : starEach [e3] X.env = (false, eval e3 X.env) :: starEach [] X.env := by rfl)
    (hi : X.N[i]? = some z := by rfl) (hx : Loc X.env.scope z := by first | exact Or.inl rfl | exact Or.inr rfl) (hs : swapsWith (.Call (.Name x pp) [.Name y px, .List [e1, e2, e3] pl] [] cpos) (some (.Name z py)) pos.line X.env = pure false := by rfl)
    (hf : X.fn z = true ∨ X.env.scope.names.lookup z = some .local := by first | exact .inl rfl | exact .inr rfl) : S1 X (.Assign [.Name z py] (.Call (.Name x pp) [.Name y px, .List [e1, e2, e3] pl] [] cpos) pos) ρ DD :=
  PS.imp (ps_set nd hi hx (pe_call F hr hg hm hk hb .nil pass0 (pa_cons (pe_var hN hv hd hcd) (pa_cons (pe_lst (pa_cons h1 (pa_cons h2 (pa_cons h3 pa_nil hl3) hl2) hl1)) pa_nil he2) he) hdb he hpl) hs hf) fun E σ H ⟨w, B, R, hl, g⟩ => by
    have sl : σ[ip]? = some (some (.ref p)) := (own_at R hp (.inl rfl)).1
    refine ⟨_, sl, w, B, R, fun B1 H1 a1 xs1 R1 s1 n1 f1 hx1 r1 => ⟨w, B1, R1, fun B2 H2 v2 R2 s2 r2 => ⟨w, B2, R2, fun B3 H3 a3 xs3 R3 s3 n3 f3 hx3 r3 => ⟨by show 3 ≤ _; rw [sizeLine_eq]; decide, fun t ht => ?_⟩⟩⟩⟩
    obtain ⟨u2, v2', w2⟩ := s2.al a1 _ hx1 f1.b f1.foot
    obtain ⟨u3, v3, w3⟩ := s3.al a1 _ u2 v2' w2
    have G4 := Grow.lay (o := .lst [V.ref a1, v2, V.ref a3]) R3.ext ht
    have R4 := R3.grow G4
    have rr : Rep X.K (upd B3 t (.lst [V.ref a1, v2, V.ref a3])) (.ref t) (.lst [.vl (.ref a1), d2, .vl (.ref a3)]) := .lst upd_same (.cons (.vl _) (.cons ((r2.mono s3.b).mono G4.b) (.cons (.vl _) .nil)))
    obtain ⟨_, xs, h4, r4⟩ := own_at R4 hp (.inl rfl)
    have sp := R4.sep ip _ hp p (by simp [Slot.foot, W.foot])
    refine ⟨upd B3 t (.lst [V.ref a1, v2, V.ref a3]), p, [.ref t], xs, q.enc, [.lst [.vl (.ref a1), d2, .vl (.ref a3)]], fun d ws => ∃ q' : Pool, q'.Ok ∧ ws = q'.enc ∧ (d = .vl (.ref a1) ∨ d = d2 ∨ d = .vl (.ref a3)), rfl, ⟨_, q, rfl, by show 0 < 3; decide, by show 3 ≤ 16777216; decide, rfl, ok, fun i d q' hd ok' => ⟨q', ok', rfl, ?_⟩⟩, R4.ext, .cons rr .nil, h4, sp, r4, fun B' H' v d xs' ws' gm e2 rws hd rv => ?_⟩
    · match i, hd with
      | 0, hd => cases hd; exact .inl rfl
      | 1, hd => cases hd; exact .inr (.inl rfl)
      | 2, hd => cases hd; exact .inr (.inr rfl)
      | i + 3, hd => cases hd
    obtain ⟨q', ok', rfl, hd⟩ := hd
    have L : SR X.K w B' H' σ (ρ.set ip (.ow p (.l q'.enc))) := lent R4 hp (.inl rfl) gm e2 rws
    have hi' : i < σ.length := slot_lt (n := 0) hi hl
    have sB : Same B B' := s1.b.trans (s2.b.trans (s3.b.trans (G4.b.trans gm.b)))
    have own : ∀ (a : Addr) (us : List V) (es : List D), w.H0 a = none → H3 a = some (.lst us) → B3 a = none → (∀ (j : Nat) (s : Slot), ρ[j]? = some s → a ∉ s.foot) → Reps X.K B3 us es → Fresh w B' (ρ.set ip (.ow p (.l q'.enc))) a ∧ H' a = some (.lst us) ∧ Reps X.K B' us es := fun a us es z0 z1 z2 z3 z4 => by
      have nt : a ≠ t := ne_of_none z1 ht
      have np : a ≠ p := fun z => z3 ip _ hp (by simp [Slot.foot, W.foot, z])
      have hH4 : upd H3 t (.lst [V.ref a1, v2, V.ref a3]) a = some (.lst us) := by rw [upd_ne nt]; exact z1
      refine ⟨⟨z0, ?_, fun j s hj => ?_⟩, gm.fr a _ hH4 np, (z4.mono G4.b).mono gm.b⟩
      · cases hq : B' a with
        | none => rfl
        | some o =>
          rcases gm.new a o hq with y | y
          · rw [upd_ne nt, z2] at y; cases y
          · rw [hH4] at y; cases y
      · rcases set_cases hj with ⟨rfl, rfl, _⟩ | ⟨_, hj⟩
        · simpa [Slot.foot, W.foot] using np
        · exact z3 j s hj
    rcases hd with rfl | rfl | rfl
    · cases rv
      obtain ⟨fr, hh, rs⟩ := own a1 xs1 ds1 f1.h0 u3 v3 w3 (r1.mono (s2.b.trans s3.b))
      exact g.nx _ _ B' H' (k1 q' a1 ok') (L.putL hi' fr hh rs) sB (by rw [List.length_set]; exact hl)
    · exact g.nx _ _ B' H' (k2 q' ok') (L.putF hi' rv) sB (by rw [List.length_set]; exact hl)
    · cases rv
      obtain ⟨fr, hh, rs⟩ := own a3 xs3 ds3 f3.h0 hx3 f3.b f3.foot r3
      exact g.nx _ _ B' H' (k3 q' a3 ok') (L.putL hi' fr hh rs) sB (by rw [List.length_set]; exact hl)
end
end G

set_option Elab.async false
set_option maxRecDepth 100000
set_option maxHeartbeats 4000000
set_option linter.all false
namespace G
open PySem L2 PyProof.Rows
theorem vneS {K : PySem.W.Frag} {i j : Str} : VOp K rNe (.str i) (.str j) (.bl (!decide (i = j))) := .now fun B H v u Q e rv ru k => by
  cases rv
  cases ru
  refine ⟨rfl, ?_⟩
  have e : decide (V.str i = V.str j) = decide (i = j) := by
    rw [Bool.eq_iff_iff]
    simp
  rw [e]
  exact k _ (.bl _)
/-! data without lists -/
theorem nolL_of : ∀ {l : List D}, (∀ d ∈ l, d.nol = true) → nolL l = true
  | [], _ => rfl
  | d :: l, h => by
    unfold nolL
    rw [h d (List.mem_cons_self ..), nolL_of fun x hx => h x (List.mem_cons_of_mem _ hx)]
    rfl
theorem nol_nats (l : List Nat) : (D.tup (natsD l)).nol = true := by
  unfold D.nol
  refine nolL_of fun d hd => ?_
  obtain ⟨v, _, rfl⟩ := List.mem_map.mp (show d ∈ l.map _ from hd)
  unfold D.nol
  rfl
theorem nol_edges (es : Edges) : (D.tup (edgesD es)).nol = true := by
  unfold D.nol
  refine nolL_of fun d hd => ?_
  obtain ⟨e, _, rfl⟩ := List.mem_map.mp (show d ∈ es.map encE from hd)
  unfold encE D.nol
  refine nolL_of fun d hd => ?_
  rcases (show d = .int (e.1 : Nat) ∨ d = .int (e.2 : Nat) by simpa using hd) with rfl | rfl <;> (unfold D.nol; rfl)
theorem nol_tab (n : Nat) (es : Edges) : (tabD n es).nol = true := by
  unfold tabD D.nol
  refine nolL_of fun d hd => ?_
  obtain ⟨r, _, rfl⟩ := List.mem_map.mp hd
  exact nol_nats r
theorem nol_graph (Cl : Addr) (n d : Nat) (es : Edges) : (D.ins Cl (graphF n d es)).nol = true := by
  unfold D.nol graphF
  simp only [nolF, nol_edges, nol_tab]
  simp [D.nol]
/-! reading what is handed in -/
def RdSlot (ρ : Rho) (i : Nat) (b : Bool) (l : List D) : Prop := (b = false ∧ ∃ c, ρ[i]? = some (.ow c (.l l))) ∨ (b = true ∧ ρ[i]? = some (.fr (.tup l)))
theorem set_same {ρ : Rho} {i : Nat} {s : Slot} (h : ρ[i]? = some s) : ρ.set i s = ρ := by
  apply List.ext_getElem?
  intro j
  by_cases n : i = j
  · subst n
    rw [List.getElem?_set_self (List.getElem?_eq_some_iff.mp h).1, h]
  · rw [List.getElem?_set_ne n]
theorem ev_rd {X : Cx} {e : Expr} {ρ : Rho} {d : D} {b : Bool} {l : List D} (i : Nat) (hs : RdSlot ρ i b l) (h : EV X e true (ρ.set i (.fr (rowD b l))) d (ρ.set i (.fr (rowD b l)))) (hn : d.nol = true) : EV X e true ρ d ρ := by
  rcases hs with ⟨rfl, c, hs⟩ | ⟨rfl, hs⟩
  · exact ev_thaw i hs h hn
  · have e1 : ρ.set i (.fr (rowD true l)) = ρ := set_same hs
    rw [e1] at h
    exact h
theorem encB_sh {b : Bool} {n : Nat} {e : Nat × Nat} (h : e.1 ≤ e.2 ∧ e.2 < n) (hn : n ≤ 64) : Sh 1 57 (encB b e) := by
  have q := Sh.row (k := 0) (m := 25) (N := 2) (l := [.int (e.1 : Nat), .int (e.2 : Nat)]) (fun d hd => by
    rcases (show d = .int (e.1 : Nat) ∨ d = .int (e.2 : Nat) by simpa using hd) with rfl | rfl
    · exact Sh.int (by omega)
    · exact Sh.int (by omega)) (Nat.le_refl _)
  cases b with
  | true => exact q.1
  | false => exact q.2
theorem handed_shows {b1 b2 : Bool} {n : Nat} {es : Edges} (ok : EdgeOk n es) (hn : n ≤ 64) (hl : es.length ≤ 4096) : Shows (rowD b1 (es.map (encB b2))) := by
  have q := Sh.row (k := 1) (m := 57) (N := 4096) (l := es.map (encB b2)) (fun d hd => by
    obtain ⟨e, he, rfl⟩ := List.mem_map.mp hd
    exact encB_sh (ok e he) hn) (by rw [List.length_map]; exact hl)
  cases b1 with
  | true => exact q.1.shows (by decide) (by decide)
  | false => exact q.2.shows (by decide) (by decide)
/-! graphs that are equal and that are not -/
theorem sameG_perm {n : Nat} {es fs : Edges} (h : fs.Perm es) : sameG n es n fs = true := by
  unfold sameG
  rw [sortE_eq h, (cmp_edges (sortE es)).refl]
  simp
theorem sameG_len {n : Nat} {es fs : Edges} (h : es.length ≠ fs.length) : sameG n es n fs = false ∧ sameG n fs n es = false := by
  have key : ∀ a b : Edges, a.length ≠ b.length → sameG n a n b = false := fun a b hab => by
    unfold sameG
    have : PyData.eqv (D.tup (edgesD (sortE a))).py (D.tup (edgesD (sortE b))).py = false := by
      unfold D.py PyData.eqv
      refine eqv_len ?_
      rw [pys_len, pys_len, edgesD_len, edgesD_len, sortE_len, sortE_len]
      exact hab
    rw [this, Bool.and_false]
  exact ⟨key _ _ h, key _ _ (Ne.symm h)⟩
def befD (Cl : Addr) : Option (Nat × Nat × Edges) → D
  | none => .non
  | some (n, d, es) => .tup [.ins Cl (graphF n d es), .tup [.int (n : Nat), .tup (edgesD (sortE es))]]
theorem bef_eq (n m : Nat) (es fs : Edges) : PyData.eqv (D.tup [.int (n : Nat), .tup (edgesD (sortE es))]).py (D.tup [.int (m : Nat), .tup (edgesD (sortE fs))]).py = sameG n es m fs := by
  rw [eqv_tup2, eqv_int]
  unfold sameG
  congr 1
  rw [Bool.eq_iff_iff, decide_eq_true_eq, decide_eq_true_eq]
  omega
theorem cmp_bef (n : Nat) (es : Edges) : Cmpd 3 (.tup [.int (n : Nat), .tup (edgesD (sortE es))]) := Cmpd.tup fun d hd => by
  rcases (show d = .int (n : Nat) ∨ d = .tup (edgesD (sortE es)) by simpa using hd) with rfl | rfl
  · exact .int _
  · exact cmp_edges _
theorem reg_perm {n d : Nat} {es fs : Edges} (r : Reg n d es) (h : fs.Perm es) : Reg n d fs := ⟨fun e he => r.1 e (h.mem_iff.mp he), fun p hp => by rw [dg_perm h]; exact r.2 p hp⟩
/-- the edges in another order -/
def byOrd (es : Edges) (pi : List Nat) : Edges := pi.map fun k => es.getD k (0, 0)
theorem byOrd_perm {es : Edges} {pi : List Nat} (h : pi.Perm (List.range es.length)) : (byOrd es pi).Perm es := by
  have q : (byOrd es pi).Perm ((List.range es.length).map fun k => es.getD k (0, 0)) := h.map _
  have e : ((List.range es.length).map fun k => es.getD k (0, 0)) = es := by
    refine List.ext_getElem? fun j => ?_
    rw [List.getElem?_map]
    by_cases hj : j < es.length
    · rw [List.getElem?_range hj, List.getElem?_eq_getElem hj]
      show some (es.getD j (0, 0)) = some es[j]
      rw [List.getD_eq_getElem?_getD, List.getElem?_eq_getElem hj]; rfl
    · rw [List.getElem?_eq_none (by simpa using Nat.le_of_not_lt hj), List.getElem?_eq_none (by omega)]; rfl
  rw [e] at q
  exact q
section
variable {X : Cx} {e : Expr} {es : List Expr} {p : Bool} {pos pp : Pos} {x : Str} {k : Nat} {f : Addr} {fd : FuncData} {ps : List Str} {C : CPX} {ds : List D} {z : D} {ρ ρ1 : Rho}
/-- a call of a def that may raise, and does not here -/
theorem ev_callXN (F : FnOk X.prog X.w X.K X.mg X.base (L2N.CX X.prog X.w) k f fd ps (spPX X.K C)) (hr : Room k X.A) (hm : X.mg x = some (.ref f)) (hk : PySem.W.keepIn X.K (.ref f) = true) (hb : Binds X.K fd ps [])
    (ha : EA X (e :: es) p ρ ds ρ1) (hC : C ds (fun d => d = z ∧ ρ1 = ρ1) (fun _ _ => False))
    (hg : Gl X x := by rfl) (hdb : (x == ("__debug__" : Str)) = false := by decide) (he : starEach (e :: es) X.env = (false, eval e X.env) :: starEach es X.env := by rfl) (hpl : (backTo pos (starEach es X.env)).any (·.1) = false := by rfl) :
    EV X (.Call (.Name x pp) (e :: es) [] pos) false ρ z ρ1 :=
  ev_ofW (we_ofQ (qe_callN (P := fun d r => d = z ∧ r = ρ1) (PX := fun _ _ _ => False) F hr hm hk hb takes_noN (wa_of ha hC) hg hdb he hpl))
end
end G

set_option Elab.async false
set_option maxRecDepth 100000
set_option maxHeartbeats 4000000
set_option linter.all false
/-! Q9: Graph.table. -/
namespace G
open PySem L2 PyProof.Rows
local macro_rules | `(tactic| walk_at "rho") => `(tactic| (show (_ : List Slot) = _; (try dsimp only [List.set_cons_succ, List.set_cons_zero, List.map_cons, List.map_nil, List.cons_append, List.nil_append, relend, unR]); all_goals exact rfl))
def CTable (Cl : Addr) : CP := fun ds R => ∃ (n d : Nat) (es : Edges), ds = [.ins Cl (graphF n d es)] ∧ R (tabD n es)
section
variable {P : Program} {w : World} {K : PySem.W.Frag} {mg : Str → Option Value} {base : Heap} {f f1 : Addr} {fd : FuncData} {Cl : Addr}
theorem ok_table (F : Fun K "table" "Graph.table" sGraphTable f fd) (GC : GCls K mg Cl f1) : FnOk P w K mg base CX0 1 f fd ["self"] (spP K (CTable Cl)) := by
  refine fnP F scGraphTable (fun ds R hC => ?_) (fun cdv A outer s H E ds R hr hC => ?_)
  · obtain ⟨n, d, es, rfl, _⟩ := hC; rfl
  · obtain ⟨n, d, es, rfl, k⟩ := hC
    show ST _ _ [.fr (.ins Cl (graphF n d es))] _
    exact st_ret (ev_fld (ev_var 0) GC.c GC.table rfl) k
end
end G

set_option Elab.async false
set_option maxRecDepth 100000
set_option maxHeartbeats 4000000
set_option linter.all false
namespace G
open PySem L2 PyProof.Rows
local macro_rules | `(tactic| walk_at "rho") => `(tactic| (show (_ : List Slot) = _; (try dsimp only [List.set_cons_succ, List.set_cons_zero, List.map_cons, List.map_nil, List.cons_append, List.nil_append, relend, unR]); all_goals exact rfl))
abbrev rLaw (ns : List Int) (a : Addr) (q : Pool) (s2 s3 s4 s5 s6 s7 s8 s9 s10 s11 s12 s13 : Slot) : Rho := [.fr (.scr ns), .ow a (.l q.enc), s2, s3, s4, s5, s6, s7, s8, s9, s10, s11, s12, s13, .un, .un]
abbrev tabL (n : Nat) (es : Edges) : D := .lst ((tabOf n es).map fun r => .lst (natsD r))
abbrev dueD (n d : Nat) (es : Edges) : D := .tup [.int (n : Nat), .int (d : Nat), .tup (edgesD (sortE es))]
theorem pl_due {n d : Nat} {es : Edges} (h : es.length < 16777216) : Pl 3 (dueD n d es) := .tup 2 _ (fun x hx => by
  rcases (show x = .int (n : Nat) ∨ x = .int (d : Nat) ∨ x = .tup (edgesD (sortE es)) by simpa using hx) with rfl | rfl | rfl
  · exact .int _ _
  · exact .int _ _
  · exact Pl.edges (by rw [sortE_len]; exact h)) (by show 3 < 16777216; decide)
theorem natSum_cast : ∀ l : List Nat, (l.map fun i => ((i : Nat) : Int)).sum = ((l.sum : Nat) : Int)
  | [] => rfl
  | x :: l => by rw [List.map_cons, List.sum_cons, List.sum_cons, natSum_cast l]; omega
theorem ordE_at {es : Edges} {v : Nat} (h : v < es.length) : L2.atI (edgesD es) (v : Int) = some (encE (es.getD v (0, 0))) := atI_nat (by
  unfold edgesD
  rw [List.getElem?_map, List.getD_eq_getElem?_getD, List.getElem?_eq_getElem h]
  rfl)
def junkP (n : Nat) : List D := [.int (-1), .int (n : Nat), .int ((n : Int) + 1), .non, .bl true, .str "0", .tup [.int 0], .lst []]
theorem junk_facts {n : Nat} {x : D} (h : x ∈ junkP n) : x.plain = true ∧ Pl 3 x ∧ ∀ i : Nat, x = .int (i : Nat) → ¬ i < n := by
  simp only [junkP, List.mem_cons, List.not_mem_nil, or_false] at h
  rcases h with rfl | rfl | rfl | rfl | rfl | rfl | rfl | rfl
  · exact ⟨rfl, .int _ _, fun i hi => by injection hi with hi; omega⟩
  · exact ⟨rfl, .int _ _, fun i hi => by injection hi with hi; omega⟩
  · exact ⟨rfl, .int _ _, fun i hi => by injection hi with hi; omega⟩
  · exact ⟨rfl, .non _, fun i hi => nomatch hi⟩
  · exact ⟨rfl, .bl _ _, fun i hi => nomatch hi⟩
  · exact ⟨rfl, .str _ _, fun i hi => nomatch hi⟩
  · exact ⟨rfl, .tup 2 _ (fun d hd => by rw [List.mem_singleton.mp hd]; exact .int _ _) (by show 1 < 16777216; decide), fun i hi => nomatch hi⟩
  · exact ⟨rfl, .lst 2 _ (fun d hd => nomatch hd) (by show 0 < 16777216; decide), fun i hi => nomatch hi⟩
theorem initR_good2 {n d : Nat} {b1 b2 : Bool} {es : Edges} (hn : 1 ≤ n) (hn2 : n ≤ 64) (h : Reg n d es) (hl : es.length ≤ 4096) (hd : d ≤ 64) : initR (.int (n : Nat)) (rowD b1 (es.map (encB b2))) = .ok (n, d, es) := by
  rw [initR_reg hn hn2 h, if_neg (by omega), if_neg (by omega)]
section
variable {P : Program} {w : World} {K : PySem.W.Frag} {mg : Str → Option Value} {base : Heap} {f fGI fGE fGT CG CB CP CE : Addr} {fd dGI dGE dGT : FuncData} {fW fEF fEO fTO fCP fRW fLP fLT fLK fLI fLS fLO fLW fLA fLD fLG fLC fLR fLB fTD fLE fWS fMS fLX : Addr} {dW dEF dEO dTO dCP dRW dLP dLT dLK dLI dLS dLO dLW dLA dLD dLG dLC dLR dLB dTD dLE dWS dMS dLX : FuncData}
theorem ok_law (F : Fun K "law" "law" sLaw f fd) (DW : Df K mg "is_whole" "is_whole" sIsWhole ["value"] fW dW) (DEF : Df K mg "edge_fault" "edge_fault" sEdgeFault ["edge", "n"] fEF dEF) (DEO : Df K mg "ends_of" "ends_of" sEndsOf ["n", "edges"] fEO dEO) (DTO : Df K mg "table_of" "table_of" sTableOf ["n", "edges"] fTO dTO) (DCP : Df K mg "check_place" "check_place" sCheckPlace ["graph", "place"] fCP dCP) (DRW : Df K mg "row" "row" sRow ["graph", "place"] fRW dRW) (DLP : Df K mg "_law_pool" "_law_pool" sLawPool ["script"] fLP dLP) (DLT : Df K mg "_law_take" "_law_take" sLawTake ["pool", "many"] fLT dLT) (DLK : Df K mg "_law_pick" "_law_pick" sLawPick ["pool", "rows"] fLK dLK) (DLI : Df K mg "_law_is_integer" "_law_is_integer" sLawIsInteger ["actual"] fLI dLI) (DLS : Df K mg "_law_same" "_law_same" sLawSame ["actual", "due"] fLS dLS) (DLO : Df K mg "_law_order" "_law_order" sLawOrder ["pool", "many"] fLO dLO) (DLW : Df K mg "_law_power" "_law_power" sLawPower ["base", "many"] fLW dLW) (DLA : Df K mg "_law_all_pairs" "_law_all_pairs" sLawAllPairs ["n"] fLA dLA) (DLD : Df K mg "_law_digit_edges" "_law_digit_edges" sLawDigitEdges ["deep"] fLD dLD) (DLG : Df K mg "_law_pairing" "_law_pairing" sLawPairing ["pool", "n", "is_loose"] fLG dLG) (DLC : Df K mg "_law_circle_edges" "_law_circle_edges" sLawCircleEdges ["n", "shifts"] fLC dLC) (DLR : Df K mg "_law_graph" "_law_graph" sLawGraph ["pool", "most"] fLR dLR) (DLB : Df K mg "_law_table" "_law_table" sLawTable ["n", "edges"] fLB dLB) (DTD : Df K mg "_law_told" "_law_told" sLawTold ["n", "edges"] fTD dTD) (DLE : Df K mg "_law_ends" "_law_ends" sLawEnds ["n", "edges"] fLE dLE) (DWS : Df K mg "_law_wrong_so" "_law_wrong_so" sLawWrongSo ["pool", "n", "edges"] fWS dWS) (DMS : Df K mg "_law_many_so" "_law_many_so" sLawManySo ["pool"] fMS dMS) (DLX : Df K mg "_law_raises" "_law_raises" sLawRaises ["graph", "place"] fLX dLX)
    (FI : Fun K "__init__" "Graph.__init__" sGraphInit fGI dGI) (bI : Binds K dGI ["self", "n", "edges"] []) (GC : GCls K mg CG fGI)
    (FE : Fun K "__eq__" "Graph.__eq__" sGraphEq fGE dGE) (bE : Binds K dGE ["self", "other"] []) (aE : PySem.W.findIn K (.ref CG) "__eq__" = some (some (.ref fGE))) (iE : PySem.W.isFn K (.ref fGE) = true) (nE : PySem.W.findIn K (.ref CG) "__ne__" = some (some (.builtin "object.__ne__"))) (oE : PySem.W.mroIn K CG (.type "object") = some true) (IC : InsC K CG)
    (FT : Fun K "table" "Graph.table" sGraphTable fGT dGT) (bT : Binds K dGT ["self"] []) (mT : Meth K CG "table" fGT) (i1 : GInt mg "MOST_PLACES" 64) (i2 : GInt mg "MOST_DEGREE" 64) (i3 : GInt mg "MOST_EDGES" 4096)
    (EB : Err2 P K mg "BadGraph" "number" "reason" CB) (gB : mg "BadGraph" = some (.ref CB)) (xB : PySem.W.exmOne K (.ref CB) (.ref CB) = some true) (o1 : ErrF K CB "number") (o2 : ErrF K CB "reason") (eB : ExcC K CB) (kB : PySem.W.kitOne K (.ref CB) (.ref CE) = some true) (kV : PySem.W.kitOne K (.ref CB) (.type "ValueError") = some true)
    (EP : Err1N P K mg "NoPlace" "place" CP) (gP : mg "NoPlace" = some (.ref CP)) (xP : PySem.W.exmOne K (.ref CP) (.ref CP) = some true) (oP : ErrF K CP "place") (eP : ExcC K CP) (kP : PySem.W.kitOne K (.ref CP) (.ref CE) = some true)
    (gG : mg "GapError" = some (.ref CE)) (gD : mg "dict" = none) (gR : mg "repr" = none) (zV : mg "ValueError" = none) (T : Bn mg) : FnG P w K mg base 7 f fd ["script"] (spP K CLaw) := by
  have GP : FnOk P w K mg base CX0 1 fLP dLP ["script"] (spN K CPool) := ok_pool DLP
  have GK : FnOk P w K mg base CX0 3 fLK dLK ["pool", "rows"] (spM K CPick) := ok_pick DLK DLT T
  have GO : FnOk P w K mg base CX0 3 fLO dLO ["pool", "many"] (spM K COrder) := ok_order DLO DLT T
  have GR : FnOk P w K mg base CX0 5 fLR dLR ["pool", "most"] (spM K CGraph) := ok_graph DLR DLT DLO DLG DLC DLA DLW DLD T
  have GI : FnOk P w K mg base (L2.CX P w) 3 fGI dGI ["self", "n", "edges"] (spO K CG (CInitX CB)) := ok_initX FI GC DW DEF DEO DTO i1 i2 i3 EB T
  have GB : FnOk P w K mg base CX0 1 fLB dLB ["n", "edges"] (spP K CLawTab) := ok_LawTable DLB T
  have GE : FnOk P w K mg base CX0 1 fGE dGE ["self", "other"] (spP K (CEqG CG)) := ok_eqG FE GC IC T
  have GT : FnOk P w K mg base CX0 1 fGT dGT ["self"] (spP K (CTable CG)) := ok_table FT GC
  have GCP : FnOk P w K mg base (L2N.CX P w) 2 fCP dCP ["graph", "place"] (spPX K (CCheck CG CP)) := ok_checkN DCP GC DW EP T
  have GRW : FnOk P w K mg base (L2N.CX P w) 3 fRW dRW ["graph", "place"] (spPX K (CRow CG CP)) := ok_row DRW GC GCP DCP GT bT mT
  have GTD : FnOk P w K mg base CX0 5 fTD dTD ["n", "edges"] (spP K CToldG) := ok_toldG DTD GC GI bI gB xB o1 o2 eB gG kB kV zV T
  have GS : FnOk P w K mg base CX0 5 fLS dLS ["actual", "due"] (spP K (CSame 3)) := ok_same DLS DLI T 3
  have GX : FnOk P w K mg base CX0 6 fLX dLX ["graph", "place"] (spP K (CRaisesG CG)) := ok_raisesG DLX GRW DRW DLS DLI gP xP oP eP gG kP T
  have GW : FnOk P w K mg base CX0 6 fWS dWS ["pool", "n", "edges"] (spM K CWrongSo) := ok_wrongSo DWS DLK DLT GTD DTD DLE DLS DLI gD T
  have GM : FnOk P w K mg base CX0 6 fMS dMS ["pool"] (spM K CManySo) := ok_manySo DMS DLK DLT GTD DTD T
  refine fnPG F scLaw (fun ds R hC => ?_) (fun cdv A outer s H E ds R gd hr hC => ?_)
  · obtain ⟨ns, rfl, _⟩ := hC; rfl
  · obtain ⟨ns, rfl, hns, k⟩ := hC
    have r1 := hr.mono (show 1 ≤ 6 by omega)
    have r3 := hr.mono (show 3 ≤ 6 by omega)
    have r4 := hr.mono (show 4 ≤ 6 by omega)
    have r5 := hr.mono (show 5 ≤ 6 by omega)
    have r2 := hr.mono (show 2 ≤ 6 by omega)
    show ST _ _ [.fr (.scr ns), .un, .un, .un, .un, .un, .un, .un, .un, .un, .un, .un, .un, .un, .un, .un] _
    refine st_new (i := 1) (en_callN GP r1 DLP.g DLP.F.kp DLP.b (ea_cons (ev_var 0) ea_nil) ⟨ns, rfl, hns, rfl⟩) scLaw.nd (fun a => ?_)
    show ST _ _ (rLaw ns a (pool0 ns) .un .un .un .un .un .un .un .un .un .un .un .un) _
    refine st_to (ρ2 := (rLaw ns a (pool0 ns) (.fr (befD CG none)) .un .un .un .un .un .un .un .un .un .un .un)) (s_asg (i := 2) ev_non scLaw.nd (by walk_at "rho")) ?_
    refine st_cons (M := fun r => ∃ (q : Pool) (s2 s3 s4 s5 s6 s7 s8 s9 s10 s11 s12 s13 : Slot), q.Ok ∧ r = rLaw ns a q s2 s3 s4 s5 s6 s7 s8 s9 s10 s11 s12 s13)
      (s_for (js := [3]) (fun i r => ∃ (q : Pool) (bo : Option (Nat × Nat × Edges)) (s3 s4 s5 s6 s7 s8 s9 s10 s11 s12 s13 : Slot), q.Ok ∧ r = rLaw ns a q (.fr (befD CG bo)) s3 s4 s5 s6 s7 s8 s9 s10 s11 s12 s13) (it_range (n := 4) ev_int T.range (by decide) (by decide))
        ⟨pool0 ns, none, .un, .un, .un, .un, .un, .un, .un, .un, .un, .un, .un, pool0_ok ns, rfl⟩ (fun i x r hx hI => ?_) (fun r hI => ?_)) ?_
    · obtain ⟨q, bo, s3, s4, s5, s6, s7, s8, s9, s10, s11, s12, s13, ok, rfl⟩ := hI
      obtain ⟨hi, rfl⟩ := rgD_get hx
      refine ⟨_, tg_name 3 scLaw.nd, ?_⟩
      -- the graph
      refine st_cons (M := fun r => ∃ (n d : Nat) (es : Edges) (q : Pool), 1 ≤ n ∧ n ≤ 64 ∧ Reg n d es ∧ d ≤ 63 ∧ q.Ok ∧ r = (rLaw ns a q (.fr (befD CG bo)) (.fr (.int (0 + (i : Nat)))) (.fr (.int (n : Nat))) (.fr (.lst (edgesD es))) s6 s7 s8 s9 s10 s11 s12 s13))
        (s_asgTW (js := [4, 5]) (P := fun z r => ∃ (n d : Nat) (es : Edges) (q : Pool), 1 ≤ n ∧ n ≤ 64 ∧ Reg n d es ∧ d ≤ 63 ∧ q.Ok ∧ z = .tup [.int (n : Nat), .lst (edgesD es)] ∧ r = (rLaw ns a q (.fr (befD CG bo)) (.fr (.int (0 + (i : Nat)))) s4 s5 s6 s7 s8 s9 s10 s11 s12 s13))
          (we_callM 1 GR r5 DLR.g DLR.F.kp DLR.b rfl (.inl rfl) (wa_cons (P := fun z r => ∃ (m : Nat) (q : Pool), 1 ≤ m ∧ m ≤ 64 ∧ q.Ok ∧ z = .int (m : Nat) ∧ r = (rLaw ns a q (.fr (befD CG bo)) (.fr (.int (0 + (i : Nat)))) s4 s5 s6 s7 s8 s9 s10 s11 s12 s13))
            (we_callM 1 GK r3 DLK.g DLK.F.kp DLK.b rfl (.inl rfl) (wa_of (ea_cons (ev_lst (ds := [.int 1, .int 4, .int 12, .int 64]) (ea_cons ev_int (ea_cons ev_int (ea_cons ev_int (ea_cons ev_int ea_nil)))) (by show 4 ≤ 100000; decide)) ea_nil) ⟨_, rfl, _, q, rfl, by show 0 < 4; decide, by show 4 ≤ 16777216; decide, rfl, ok, fun i o q' ho ok' => ?_⟩)) (fun z r h => ?_))) (fun z r h => ?_)) ?_
      · match i, ho with
        | 0, ho => cases ho; exact ⟨1, q', by omega, by omega, ok', rfl, rfl⟩
        | 1, ho => cases ho; exact ⟨4, q', by omega, by omega, ok', rfl, rfl⟩
        | 2, ho => cases ho; exact ⟨12, q', by omega, by omega, ok', rfl, rfl⟩
        | 3, ho => cases ho; exact ⟨64, q', by omega, by omega, ok', rfl, rfl⟩
        | i + 4, ho => cases ho
      · obtain ⟨m, q', hm1, hm2, ok', rfl, rfl⟩ := h
        exact wa_nil ⟨_, rfl, m, q', rfl, hm1, hm2, rfl, ok', fun n d es q'' h1 h2 h3 h4 ok'' => ⟨n, d, es, q'', h1, by omega, h3, h4, ok'', rfl, rfl⟩⟩
      · obtain ⟨n, d, es, q', h1, h2, h3, h4, ok', rfl, rfl⟩ := h
        exact ⟨_, tg_tup2 (tg_name 4 scLaw.nd) (tg_name 5 scLaw.nd), n, d, es, q', h1, h2, h3, h4, ok', rfl⟩
      rintro _ ⟨n, d, es, q, hn1, hn2, hreg, hd, ok, rfl⟩
      have hes : es.length ≤ 4032 := by
        have h1 := hreg.few
        have h2 : n * d ≤ 64 * 63 := Nat.mul_le_mul hn2 hd
        omega
      -- what is handed in
      refine st_un 6 ?_
      refine st_cons (M := fun r => ∃ (b1 b2 : Bool) (q : Pool) (s6 : Slot), (∀ ρ : Rho, ρ[6]? = some s6 → RdSlot ρ 6 b1 (es.map (encB b2))) ∧ (b1 = false → ∃ c, s6 = .ow c (.l (es.map (encB b2)))) ∧ q.Ok ∧ r = (rLaw ns a q (.fr (befD CG bo)) (.fr (.int (0 + (i : Nat)))) (.fr (.int (n : Nat))) (.fr (.lst (edgesD es))) s6 s7 s8 s9 s10 s11 s12 s13))
        (s_pickOwn (ds1 := es.map (encB true)) (ds3 := es.map (encB false)) (d2 := .tup (es.map (encB true))) 1 6 GK r3 DLK.g DLK.F.kp DLK.b rfl ok (en_listL T.list (el_ofV (ev_var 5))) (ev_tupleL T.tuple (el_ofV (ev_var 5)))
          (en_map (own := [("edge", 15)]) (zs := es.map (encB false)) (it_list (ds := edgesD es) (ev_var 5)) ⟨scLaw.nd, blkOk_by (N := nLaw) (sc := defScope sLaw) (by decide +kernel), rfl, by rw [edgesD_len]; omega, rfl, by rw [edgesD_len, List.length_map], fun j z o hz ho => ?_⟩) scLaw.nd
          (fun q' c ok' => ⟨false, true, q', _, fun ρ h => .inl ⟨rfl, c, h⟩, fun _ => ⟨c, rfl⟩, ok', rfl⟩) (fun q' ok' => ⟨true, true, q', _, (fun ρ h => .inr ⟨rfl, h⟩), (fun z => nomatch z), ok', rfl⟩) (fun q' c ok' => ⟨false, false, q', _, fun ρ h => .inl ⟨rfl, c, h⟩, fun _ => ⟨c, rfl⟩, ok', rfl⟩)) ?_
      · rw [List.getElem?_map] at ho
        obtain ⟨e, he, rfl⟩ := map_get hz
        rw [he] at ho
        cases ho
        exact ⟨_, _, _, fun _ _ _ _ _ => tg_name 15 scLaw.nd, fun _ _ _ _ _ => ev_ofN (en_listT T.list (ev_var 15)), rfl⟩
      rintro _ ⟨b1, b2, q, s6', hrd, how, ok, rfl⟩
      have hsh := handed_shows (b1 := b1) (b2 := b2) hreg.1 hn2 (by omega)
      have hrow : (∃ l, rowD b1 (es.map (encB b2)) = .lst l) ∨ ∃ l, rowD b1 (es.map (encB b2)) = .tup l := by
        cases b1
        · exact .inl ⟨_, rfl⟩
        · exact .inr ⟨_, rfl⟩
      have noS : ∀ x : Str, (D.str x).nol = true := fun x => by unfold D.nol; rfl
      have noB : ∀ x : Bool, (D.bl x).nol = true := fun x => by unfold D.nol; rfl
      refine st_to (ρ2 := (rLaw ns a q (.fr (befD CG bo)) (.fr (.int (0 + (i : Nat)))) (.fr (.int (n : Nat))) (.fr (.lst (edgesD es))) s6' (.fr (.str (rowD b1 (es.map (encB b2))).py.shown)) s8 s9 s10 s11 s12 s13)) (s_asg (i := 7) (ev_rd 6 (hrd _ rfl) (ev_repr hr gd hsh hrow gR (ev_var 6)) (noS _)) scLaw.nd (by walk_at "rho")) ?_
      refine st_to (ρ2 := (rLaw ns a q (.fr (befD CG bo)) (.fr (.int (0 + (i : Nat)))) (.fr (.int (n : Nat))) (.fr (.lst (edgesD es))) s6' (.fr (.str (rowD b1 (es.map (encB b2))).py.shown)) (.fr (.ins CG (graphF n d es))) s9 s10 s11 s12 s13)) (s_asg (i := 8) (ev_rd 6 (hrd _ rfl) (ev_make GC.makes GI r4 GC.g bI (ea_cons (ev_var 4) (ea_cons (ev_var 6) ea_nil)) ⟨_, _, rfl, rfl, two_encB (b1 := b1) (b2 := b2) (es := es) (by omega), (fun z hz => by rw [initR_good2 hn1 hn2 hreg (by omega) (by omega)] at hz; cases hz), (fun n' d' es' hz => by rw [initR_good2 hn1 hn2 hreg (by omega) (by omega)] at hz; cases hz; rfl)⟩) (nol_graph _ _ _ _)) scLaw.nd (by walk_at "rho")) ?_
      refine st_if (et_is (et_cmp op_ne vneS (ev_rd 6 (hrd _ rfl) (ev_repr hr gd hsh hrow gR (ev_var 6)) (noS _)) (ev_var 7) (nomark _)) (show _ = false by rw [decide_eq_true rfl]; rfl)) (fun h => nomatch h) (fun _ => st_nil ?_)
      refine st_cons (M := fun r => ∃ s6, r = (rLaw ns a q (.fr (befD CG bo)) (.fr (.int (0 + (i : Nat)))) (.fr (.int (n : Nat))) (.fr (.lst (edgesD es))) s6 (.fr (.str (rowD b1 (es.map (encB b2))).py.shown)) (.fr (.ins CG (graphF n d es))) s9 s10 s11 s12 s13))
        (s_if (b := !b1) (et_val (ev_rd 6 (hrd _ rfl) (ev_isi (b := !b1) (d := rowD b1 (es.map (encB b2))) (ev_var 6) (plain_rowD _ _) (by cases b1 <;> first | exact kit_list_list | exact kit_tuple_list) T.isinstance T.list (by decide +kernel)) (noB _))) (fun h => ?_) (fun h => st_nil ⟨_, rfl⟩)) ?_
      · have hb : b1 = false := by simpa using h
        obtain ⟨c, rfl⟩ := how hb
        exact st_one (M := fun _ => True) (s_append 6 (d := .tup [.int 0, .int 0]) (ev_tup (ds := [.int 0, .int 0]) (ea_cons ev_int (ea_cons ev_int ea_nil)) (by show 2 ≤ 100000; decide)) rfl (.inl rfl) ⟨_, rfl⟩ (by rw [List.length_map]; omega) ⟨_, rfl⟩)
      rintro _ ⟨s6'', rfl⟩
      refine st_un 6 ?_
      show ST _ _ (rLaw ns a q (.fr (befD CG bo)) (.fr (.int (0 + (i : Nat)))) (.fr (.int (n : Nat))) (.fr (.lst (edgesD es))) .un (.fr (.str (rowD b1 (es.map (encB b2))).py.shown)) (.fr (.ins CG (graphF n d es))) s9 s10 s11 s12 s13) _
      -- table, due
      refine st_to (ρ2 := (rLaw ns a q (.fr (befD CG bo)) (.fr (.int (0 + (i : Nat)))) (.fr (.int (n : Nat))) (.fr (.lst (edgesD es))) .un (.fr (.str (rowD b1 (es.map (encB b2))).py.shown)) (.fr (.ins CG (graphF n d es))) (.fr (tabL n es)) s10 s11 s12 s13)) (s_asg (i := 9) (ev_call GB r1 DLB.g DLB.F.kp DLB.b (ea_cons (ev_var 4) (ea_cons (ev_var 5) ea_nil)) ⟨n, es, rfl, hn2, hreg.1, rfl⟩) scLaw.nd (by walk_at "rho")) ?_
      have sq : Sq n (tabOf n es) := (Sq.zero n).fold _
      have tat : ∀ p, p < n → L2.atI ((tabOf n es).map fun r => D.lst (natsD r)) (p : Int) = some (.lst (natsD ((tabOf n es).getD p []))) := fun p hp => atI_nat (by rw [List.getElem?_map, List.getD_eq_getElem?_getD, List.getElem?_eq_getElem (by rw [sq.1]; exact hp)]; rfl)
      have hsum : (((tabOf n es).getD 0 []).map fun i => ((i : Nat) : Int)).sum = (d : Nat) := by
        rw [natSum_cast, tabOf_sum hreg (by omega)]
      refine st_to (ρ2 := (rLaw ns a q (.fr (befD CG bo)) (.fr (.int (0 + (i : Nat)))) (.fr (.int (n : Nat))) (.fr (.lst (edgesD es))) .un (.fr (.str (rowD b1 (es.map (encB b2))).py.shown)) (.fr (.ins CG (graphF n d es))) (.fr (tabL n es)) (.fr (dueD n d es)) s11 s12 s13)) (s_asg (i := 10) (ev_is (ev_tup (ds := [.int (n : Nat), .int ((((tabOf n es).getD 0 []).map fun i => ((i : Nat) : Int)).sum), .tup (edgesD (sortE es))]) (ea_cons (ev_var 4) (ea_cons (ev_sumL (ns := ((tabOf n es).getD 0 []).map fun i => ((i : Nat) : Int)) rfl T.sum (el_ofV (ev_is (ev_ixF (ev_var 9) ev_int (tat 0 (by omega))) (by unfold natsD; rw [List.map_map]; rfl))))
        (ea_cons (ev_is (ev_tupleL T.tuple (el_ofN (en_sortP (es := es.map toI) T.sorted (el_ofV (ev_is (ev_var 5) (by rw [edgesD_pair])))))) (by rw [sort_edges])) ea_nil))) (by show 3 ≤ 100000; decide)) (by rw [hsum])) scLaw.nd (by walk_at "rho")) ?_
      refine st_if (et_not (et_val (ev_call GS r5 DLS.g DLS.F.kp DLS.b (ea_cons (ev_tup (ds := [.int (n : Nat), .int (d : Nat), .tup (edgesD (sortE es))]) (ea_cons (ev_fld (ev_var 8) GC.c GC.n rfl) (ea_cons (ev_fld (ev_var 8) GC.c GC.degree rfl) (ea_cons (ev_fld (ev_var 8) GC.c GC.edges rfl) ea_nil))) (by show 3 ≤ 100000; decide)) (ea_cons (ev_var 10) ea_nil)) ⟨dueD n d es, rfl, pl_due (by omega), rfl⟩))) (fun h => nomatch h) (fun _ => st_nil ?_)
      -- the rows
      refine st_cons (M := fun r => ∃ (q : Pool) (s11 : Slot), q.Ok ∧ r = (rLaw ns a q (.fr (befD CG bo)) (.fr (.int (0 + (i : Nat)))) (.fr (.int (n : Nat))) (.fr (.lst (edgesD es))) .un (.fr (.str (rowD b1 (es.map (encB b2))).py.shown)) (.fr (.ins CG (graphF n d es))) (.fr (tabL n es)) (.fr (dueD n d es)) s11 s12 s13))
        (s_forW (js := [11]) (PL := fun ds r => ∃ (pi : List Nat) (q : Pool), (∀ p ∈ pi, p < n) ∧ q.Ok ∧ ds = natsD pi ∧ r = (rLaw ns a q (.fr (befD CG bo)) (.fr (.int (0 + (i : Nat)))) (.fr (.int (n : Nat))) (.fr (.lst (edgesD es))) .un (.fr (.str (rowD b1 (es.map (encB b2))).py.shown)) (.fr (.ins CG (graphF n d es))) (.fr (tabL n es)) (.fr (dueD n d es)) s11 s12 s13)) (fun ds j0 r => ∃ (pi : List Nat) (q : Pool) (s11 : Slot), (∀ p ∈ pi, p < n) ∧ q.Ok ∧ ds = natsD pi ∧ r = (rLaw ns a q (.fr (befD CG bo)) (.fr (.int (0 + (i : Nat)))) (.fr (.int (n : Nat))) (.fr (.lst (edgesD es))) .un (.fr (.str (rowD b1 (es.map (encB b2))).py.shown)) (.fr (.ins CG (graphF n d es))) (.fr (tabL n es)) (.fr (dueD n d es)) s11 s12 s13))
          (wi_tup (we_cutT (P := fun x r => ∃ (pi : List Nat) (q : Pool), pi.Perm (List.range n) ∧ q.Ok ∧ x = .tup (natsD pi) ∧ r = (rLaw ns a q (.fr (befD CG bo)) (.fr (.int (0 + (i : Nat)))) (.fr (.int (n : Nat))) (.fr (.lst (edgesD es))) .un (.fr (.str (rowD b1 (es.map (encB b2))).py.shown)) (.fr (.ins CG (graphF n d es))) (.fr (tabL n es)) (.fr (dueD n d es)) s11 s12 s13)) (P2 := fun _ r y r2 => y = .int 6 ∧ r2 = r)
            (we_callM 1 GO r3 DLO.g DLO.F.kp DLO.b rfl (.inl rfl) (wa_of (ea_cons (ev_var 4) ea_nil) ⟨_, rfl, n, q, rfl, by omega, rfl, ok, fun pi q' hp ok' => ⟨pi, q', hp, ok', rfl, rfl⟩⟩)) (fun x r h => we_of ev_int ⟨rfl, rfl⟩) (fun x ra y rb h h2 => ?_)))
          (fun ds r h => ?_) (fun ds j0 x r hx hI => ?_) (fun ds r hI => ?_)) ?_
      · obtain ⟨pi, q', hp, ok', rfl, rfl⟩ := h
        obtain ⟨rfl, rfl⟩ := h2
        refine ⟨natsD pi, 6, rfl, rfl, _, rfl, pi.take 6, q', fun p hq => ?_, ok', ?_, rfl⟩
        · exact List.mem_range.mp (hp.mem_iff.mp (List.mem_of_mem_take hq))
        · unfold natsD; rw [List.map_take]
      · obtain ⟨pi, q', hp, ok', rfl, rfl⟩ := h
        exact ⟨pi, q', s11, hp, ok', rfl, rfl⟩
      · obtain ⟨pi, q', s11', hp, ok', rfl, rfl⟩ := hI
        obtain ⟨p, hpp, rfl⟩ := natsD_get hx
        have hpn := hp p (List.mem_of_getElem? hpp)
        refine ⟨_, tg_name 11 scLaw.nd, ?_⟩
        have len_row : ((tabOf n es).getD p []).length = n := sq.2 p hpn
        refine st_if (et_not (et_val (ev_call GS r5 DLS.g DLS.F.kp DLS.b (ea_cons (ev_callXN GRW r3 DRW.g DRW.F.kp DRW.b (ea_cons (ev_var 8) (ea_cons (ev_var 11) ea_nil)) ⟨n, d, es, _, rfl, rfl, fun j hj hjn => ?_, fun hno => absurd hpn (hno p rfl)⟩) (ea_cons (ev_tupleL T.tuple (el_ofV (ev_ixF (ev_var 9) (ev_var 11) (tat p hpn)))) ea_nil)) ⟨.tup (natsD ((tabOf n es).getD p [])), rfl, Pl.up (Pl.up (Pl.nats (by rw [len_row]; omega))), rfl⟩))) (fun h => nomatch h) (fun _ => st_nil (st_nil ⟨pi, q', _, hp, ok', rfl, rfl⟩))
        have hj : j = p := by injection hj with hj; omega
        subst hj
        exact ⟨by rw [tabOf_sort hreg.1], rfl⟩
      · obtain ⟨pi, q', s11', hp, ok', rfl, rfl⟩ := hI
        exact ⟨q', s11', ok', rfl⟩
      rintro _ ⟨q, s11', ok, rfl⟩
      refine st_un 11 ?_
      show ST _ _ (rLaw ns a q (.fr (befD CG bo)) (.fr (.int (0 + (i : Nat)))) (.fr (.int (n : Nat))) (.fr (.lst (edgesD es))) .un (.fr (.str (rowD b1 (es.map (encB b2))).py.shown)) (.fr (.ins CG (graphF n d es))) (.fr (tabL n es)) (.fr (dueD n d es)) .un s12 s13) _
      -- the same, and another
      refine st_cons (M := fun r => ∃ (fs : Edges) (q : Pool), fs.Perm es ∧ q.Ok ∧ r = (rLaw ns a q (.fr (befD CG bo)) (.fr (.int (0 + (i : Nat)))) (.fr (.int (n : Nat))) (.fr (.lst (edgesD es))) .un (.fr (.str (rowD b1 (es.map (encB b2))).py.shown)) (.fr (.ins CG (graphF n d es))) (.fr (tabL n es)) (.fr (dueD n d es)) .un (.fr (.ins CG (graphF n d fs))) s13))
        (s_asgW (i := 12) (P := fun z r => ∃ (fs : Edges) (q : Pool), fs.Perm es ∧ q.Ok ∧ z = .ins CG (graphF n d fs) ∧ r = (rLaw ns a q (.fr (befD CG bo)) (.fr (.int (0 + (i : Nat)))) (.fr (.int (n : Nat))) (.fr (.lst (edgesD es))) .un (.fr (.str (rowD b1 (es.map (encB b2))).py.shown)) (.fr (.ins CG (graphF n d es))) (.fr (tabL n es)) (.fr (dueD n d es)) .un s12 s13))
          (we_make GC.makes GI r4 GC.g bI takes_no (wa_cons (P := fun z r => z = .int (n : Nat) ∧ r = (rLaw ns a q (.fr (befD CG bo)) (.fr (.int (0 + (i : Nat)))) (.fr (.int (n : Nat))) (.fr (.lst (edgesD es))) .un (.fr (.str (rowD b1 (es.map (encB b2))).py.shown)) (.fr (.ins CG (graphF n d es))) (.fr (tabL n es)) (.fr (dueD n d es)) .un s12 s13)) (we_of (ev_var 4) ⟨rfl, rfl⟩) (fun z r h => ?_))) scLaw.nd (fun z r h => ?_)) ?_
      · obtain ⟨rfl, rfl⟩ := h
        refine wa_cons (P := fun z r => ∃ (fs : Edges) (q : Pool), fs.Perm es ∧ q.Ok ∧ z = .lst (edgesD fs) ∧ r = (rLaw ns a q (.fr (befD CG bo)) (.fr (.int (0 + (i : Nat)))) (.fr (.int (n : Nat))) (.fr (.lst (edgesD es))) .un (.fr (.str (rowD b1 (es.map (encB b2))).py.shown)) (.fr (.ins CG (graphF n d es))) (.fr (tabL n es)) (.fr (dueD n d es)) .un s12 s13))
          ((we_ofN (wn_mapW (own := [("k", 14)]) (PL := fun ds r => ∃ (pi : List Nat) (q : Pool), pi.Perm (List.range es.length) ∧ q.Ok ∧ ds = natsD pi ∧ r = (rLaw ns a q (.fr (befD CG bo)) (.fr (.int (0 + (i : Nat)))) (.fr (.int (n : Nat))) (.fr (.lst (edgesD es))) .un (.fr (.str (rowD b1 (es.map (encB b2))).py.shown)) (.fr (.ins CG (graphF n d es))) (.fr (tabL n es)) (.fr (dueD n d es)) .un s12 s13)) (QL := fun ds r => ∃ (fs : Edges) (q : Pool), fs.Perm es ∧ q.Ok ∧ ds = edgesD fs ∧ r = (rLaw ns a q (.fr (befD CG bo)) (.fr (.int (0 + (i : Nat)))) (.fr (.int (n : Nat))) (.fr (.lst (edgesD es))) .un (.fr (.str (rowD b1 (es.map (encB b2))).py.shown)) (.fr (.ins CG (graphF n d es))) (.fr (tabL n es)) (.fr (dueD n d es)) .un s12 s13)) (fun ds => ds.map fun x => match x with | .int j => encE (es.getD j.toNat (0, 0)) | _ => .non)
            (wi_tup (we_callM 1 GO r3 DLO.g DLO.F.kp DLO.b rfl (.inl rfl) (wa_of (ea_cons (ev_is (ev_lenL T.len (el_ofV (ds := edgesD es) (ev_var 5))) (by rw [edgesD_len])) ea_nil) ⟨_, rfl, es.length, q, rfl, by omega, rfl, ok, fun pi q' hp ok' => ⟨_, rfl, pi, q', hp, ok', rfl, rfl⟩⟩)))
            scLaw.nd (blkOk_by (N := nLaw) (sc := defScope sLaw) (own := [("k", 14)]) (by decide +kernel)) (fun ds r h => ?_) (fun ds r h => ?_))).mono fun z r h => ?_) (fun z r h => ?_)
        · obtain ⟨pi, q', hp, ok', rfl, rfl⟩ := h
          refine ⟨scLaw.nd, blkOk_by (N := nLaw) (sc := defScope sLaw) (own := [("k", 14)]) (by decide +kernel), rfl, ?_, rfl, by rw [List.length_map], fun j z o hz ho => ?_⟩
          · rw [natsD_len, hp.length_eq, List.length_range]; omega
          · obtain ⟨v, hv, rfl⟩ := natsD_get hz
            rw [List.getElem?_map, hz] at ho
            cases ho
            have hv' : v < es.length := List.mem_range.mp (hp.mem_iff.mp (List.mem_of_getElem? hv))
            exact ⟨_, _, _, fun _ _ _ _ _ => tg_name 14 scLaw.nd, fun _ _ _ _ _ => ev_ixF (ds := edgesD es) (z := encE (es.getD v (0, 0))) (ev_var 5) (ev_var 14) (ordE_at hv'), rfl⟩
        · obtain ⟨pi, q', hp, ok', rfl, rfl⟩ := h
          refine ⟨byOrd es pi, q', byOrd_perm hp, ok', ?_, rfl⟩
          unfold natsD byOrd edgesD
          rw [List.map_map, List.map_map]
          rfl
        · obtain ⟨ds, rfl, fs, q', hp, ok', rfl, rfl⟩ := h
          exact ⟨fs, q', hp, ok', rfl, rfl⟩
        · obtain ⟨fs, q', hp, ok', rfl, rfl⟩ := h
          have hl := hp.length_eq
          have e := initR_good2 (b1 := false) (b2 := true) hn1 hn2 (reg_perm hreg hp) (by omega) (by omega)
          exact wa_nil ⟨_, _, rfl, rfl, two_encB (b1 := false) (b2 := true) (es := fs) (by omega), (fun z hz => by have hz := hz.symm.trans e; cases hz), (fun n' d' es' hz => by have hz := hz.symm.trans e; cases hz; exact ⟨fs, q', hp, ok', rfl, rfl⟩)⟩
      · obtain ⟨fs, q', hp, ok', rfl, rfl⟩ := h
        exact ⟨fs, q', hp, ok', rfl⟩
      rintro _ ⟨fs, q, hp, ok, rfl⟩
      have hlo : (loopsL n).length = n := by unfold loopsL; rw [List.length_map, List.length_range]
      have tn : ((n : Nat) : Int).toNat = n := by omega
      have hlen : (es ++ loopsL n).length = es.length + n := by rw [List.length_append, hlo]
      have eo := initR_good2 (b1 := false) (b2 := true) hn1 hn2 (hreg.app (reg_loops n)) (by omega) (by omega)
      refine st_to (ρ2 := (rLaw ns a q (.fr (befD CG bo)) (.fr (.int (0 + (i : Nat)))) (.fr (.int (n : Nat))) (.fr (.lst (edgesD es))) .un (.fr (.str (rowD b1 (es.map (encB b2))).py.shown)) (.fr (.ins CG (graphF n d es))) (.fr (tabL n es)) (.fr (dueD n d es)) .un (.fr (.ins CG (graphF n d fs))) (.fr (.ins CG (graphF n (d + 1) (es ++ loopsL n)))))) (s_asg (i := 13) (ev_make GC.makes GI r4 GC.g bI (ea_cons (ev_var 4) (ea_cons (ev_is (ev_cat (ds := edgesD es) (ds' := edgesD (loopsL n)) (ev_var 5) (ev_ofN (en_map (own := [("place", 11)]) (zs := edgesD (loopsL n)) (it_range (n := ((n : Nat) : Int)) (ev_var 4) T.range (by omega) (by omega))
        ⟨scLaw.nd, blkOk_by (N := nLaw) (sc := defScope sLaw) (by decide +kernel), rfl, by rw [rgD_len]; omega, rfl, by rw [rgD_len, edgesD_len, hlo, tn], fun j z o hz ho => ?_⟩)) (by rw [edgesD_len, edgesD_len, hlo]; omega)) (d' := .lst (edgesD (es ++ loopsL n))) (by rw [edgesD_app])) ea_nil)) ⟨_, _, rfl, rfl, two_encB (b1 := false) (b2 := true) (es := es ++ loopsL n) (by omega), (fun z hz => by have hz := hz.symm.trans eo; cases hz), (fun n' d' es' hz => by have hz := hz.symm.trans eo; cases hz; rfl)⟩) scLaw.nd (by walk_at "rho")) ?_
      · obtain ⟨hj, rfl⟩ := rgD_get hz
        have hj' : j < n := by omega
        unfold edgesD loopsL at ho
        rw [List.map_map, List.getElem?_map, List.getElem?_range hj'] at ho
        cases ho
        refine ⟨_, _, _, fun _ _ _ _ _ => tg_name 11 scLaw.nd, fun _ _ _ _ _ => ev_is (ev_tup (ds := [.int (0 + (j : Nat)), .int (0 + (j : Nat))]) (ea_cons (ev_var 11) (ea_cons (ev_var 11) ea_nil)) (by show 2 ≤ 100000; decide)) ?_, rfl⟩
        rw [Int.zero_add]; rfl
      obtain ⟨ne1, ne2⟩ := sameG_len (n := n) (es := es) (fs := es ++ loopsL n) (by omega)
      have cEq : ∀ (n1 d1 n2 d2 : Nat) (es1 es2 : Edges) (v : Bool), sameG n1 es1 n2 es2 = v → CEqG CG [.ins CG (graphF n1 d1 es1), .ins CG (graphF n2 d2 es2)] (fun x => x = .bl v) := fun n1 d1 n2 d2 es1 es2 v hv => ⟨n1, d1, n2, d2, es1, es2, rfl, by rw [hv]⟩
      refine st_if (et_not (et_val (ev_call GS r5 DLS.g DLS.F.kp DLS.b (ea_cons (ev_tup (ds := [.bl true, .bl false, .bl false, .bl true])
        (ea_cons (ev_cmp (op_eqIns GE bE r1 aE iE) (veqIns (g := id) (cEq n d n d es fs true (sameG_perm hp))) (ev_var 8) (ev_var 12) (nomark _))
        (ea_cons (ev_cmp (op_eqIns GE bE r1 aE iE) (veqIns (g := id) (cEq n d n (d + 1) es (es ++ loopsL n) false ne1)) (ev_var 8) (ev_var 13) (nomark _))
        (ea_cons (ev_cmp (op_neIns GE bE r2 aE iE nE oE) (veqIns (g := not) (cEq n d n d es fs true (sameG_perm hp))) (ev_var 8) (ev_var 12) (nomark _))
        (ea_cons (ev_cmp (op_neIns GE bE r2 aE iE nE oE) (veqIns (g := not) (cEq n (d + 1) n d (es ++ loopsL n) es false ne2)) (ev_var 13) (ev_var 8) (nomark _)) ea_nil)))) (by show 4 ≤ 100000; decide))
        (ea_cons (ev_tup (ds := [.bl true, .bl false, .bl false, .bl true]) (ea_cons ev_bl (ea_cons ev_bl (ea_cons ev_bl (ea_cons ev_bl ea_nil)))) (by show 4 ≤ 100000; decide)) ea_nil)) ⟨_, rfl, .tup 2 _ (fun x hx => by
          rcases (show x = .bl true ∨ x = .bl false ∨ x = .bl false ∨ x = .bl true by simpa only [List.mem_cons, List.not_mem_nil, or_false] using hx) with rfl | rfl | rfl | rfl <;> exact .bl _ _) (by show 4 < 16777216; decide), rfl⟩))) (fun h => nomatch h) (fun _ => st_nil ?_)
      -- the graph before
      refine st_cons (M := fun r => r = (rLaw ns a q (.fr (befD CG bo)) (.fr (.int (0 + (i : Nat)))) (.fr (.int (n : Nat))) (.fr (.lst (edgesD es))) .un (.fr (.str (rowD b1 (es.map (encB b2))).py.shown)) (.fr (.ins CG (graphF n d es))) (.fr (tabL n es)) (.fr (dueD n d es)) .un (.fr (.ins CG (graphF n d fs))) (.fr (.ins CG (graphF n (d + 1) (es ++ loopsL n)))))) ?_ ?_
      · cases bo with
        | none => exact s_if (b := false) (et_w (ew_and (q := true) (l := false) (k := false) (et_notN (x := .non) (ev_var 2)) fun h => nomatch h)) (fun h => nomatch h) (fun _ => st_nil rfl)
        | some q0 =>
          obtain ⟨n0, d0, es0⟩ := q0
          refine s_if (b := false) (et_is (et_w (ew_and (q := true) (l := false) (k := true) (et_notN (x := befD CG (some (n0, d0, es0))) (ev_var 2)) fun _ => ew_and1 (et_is (et_not (et_val (ev_call GS r5 DLS.g DLS.F.kp DLS.b (ea_cons (ev_cmp (op_eqIns GE bE r1 aE iE) (veqIns (g := id) (cEq n d n0 d0 es es0 _ rfl)) (ev_var 8) (ev_ixT (ds := [.ins CG (graphF n0 d0 es0), .tup [.int (n0 : Nat), .tup (edgesD (sortE es0))]]) (ev_var 2) ev_int rfl) (nomark _))
            (ea_cons (ev_is (ev_eqD hr (cmp_bef n es) (cmp_bef n0 es0) (ev_tup (ds := [.int (n : Nat), .tup (edgesD (sortE es))]) (ea_cons (ev_var 4) (ea_cons (ev_ixT (ds := [.int (n : Nat), .int (d : Nat), .tup (edgesD (sortE es))]) (ev_var 10) ev_int rfl) ea_nil)) (by show 2 ≤ 100000; decide)) (ev_ixT (ds := [.ins CG (graphF n0 d0 es0), .tup [.int (n0 : Nat), .tup (edgesD (sortE es0))]]) (ev_var 2) ev_int rfl)) (congrArg D.bl (bef_eq n n0 es es0))) ea_nil)) ⟨.bl (sameG n es n0 es0), rfl, .bl _ _, rfl⟩))) rfl))) rfl) (fun h => nomatch h) (fun _ => st_nil rfl)
      rintro _ rfl
      refine st_to (ρ2 := (rLaw ns a q (.fr (befD CG (some (n, d, es)))) (.fr (.int (0 + (i : Nat)))) (.fr (.int (n : Nat))) (.fr (.lst (edgesD es))) .un (.fr (.str (rowD b1 (es.map (encB b2))).py.shown)) (.fr (.ins CG (graphF n d es))) (.fr (tabL n es)) (.fr (dueD n d es)) .un (.fr (.ins CG (graphF n d fs))) (.fr (.ins CG (graphF n (d + 1) (es ++ loopsL n)))))) (s_asg (i := 2) (ev_tup (ds := [.ins CG (graphF n d es), .tup [.int (n : Nat), .tup (edgesD (sortE es))]]) (ea_cons (ev_var 8) (ea_cons (ev_tup (ds := [.int (n : Nat), .tup (edgesD (sortE es))]) (ea_cons (ev_var 4) (ea_cons (ev_ixT (ds := [.int (n : Nat), .int (d : Nat), .tup (edgesD (sortE es))]) (ev_var 10) ev_int rfl) ea_nil)) (by show 2 ≤ 100000; decide)) ea_nil)) (by show 2 ≤ 100000; decide)) scLaw.nd (by walk_at "rho")) ?_
      -- what raises
      refine st_ifW (PB := fun bb r => (!bb) = true ∧ ∃ q : Pool, q.Ok ∧ r = (rLaw ns a q (.fr (befD CG (some (n, d, es)))) (.fr (.int (0 + (i : Nat)))) (.fr (.int (n : Nat))) (.fr (.lst (edgesD es))) .un (.fr (.str (rowD b1 (es.map (encB b2))).py.shown)) (.fr (.ins CG (graphF n d es))) (.fr (tabL n es)) (.fr (dueD n d es)) .un (.fr (.ins CG (graphF n d fs))) (.fr (.ins CG (graphF n (d + 1) (es ++ loopsL n)))))) (wt_not (PB := fun bb r => bb = true ∧ ∃ q : Pool, q.Ok ∧ r = (rLaw ns a q (.fr (befD CG (some (n, d, es)))) (.fr (.int (0 + (i : Nat)))) (.fr (.int (n : Nat))) (.fr (.lst (edgesD es))) .un (.fr (.str (rowD b1 (es.map (encB b2))).py.shown)) (.fr (.ins CG (graphF n d es))) (.fr (tabL n es)) (.fr (dueD n d es)) .un (.fr (.ins CG (graphF n d fs))) (.fr (.ins CG (graphF n (d + 1) (es ++ loopsL n))))))
        (wt_val (we_call GX hr DLX.g DLX.F.kp DLX.b (wa_cons (P := fun z r => z = .ins CG (graphF n d es) ∧ r = (rLaw ns a q (.fr (befD CG (some (n, d, es)))) (.fr (.int (0 + (i : Nat)))) (.fr (.int (n : Nat))) (.fr (.lst (edgesD es))) .un (.fr (.str (rowD b1 (es.map (encB b2))).py.shown)) (.fr (.ins CG (graphF n d es))) (.fr (tabL n es)) (.fr (dueD n d es)) .un (.fr (.ins CG (graphF n d fs))) (.fr (.ins CG (graphF n (d + 1) (es ++ loopsL n)))))) (we_of (ev_var 8) ⟨rfl, rfl⟩) (fun z r h => ?_))))) (fun r h => ?_) (fun r h => ?_)
      · obtain ⟨rfl, rfl⟩ := h
        refine wa_cons (P := fun z r => ∃ q : Pool, z ∈ junkP n ∧ q.Ok ∧ r = (rLaw ns a q (.fr (befD CG (some (n, d, es)))) (.fr (.int (0 + (i : Nat)))) (.fr (.int (n : Nat))) (.fr (.lst (edgesD es))) .un (.fr (.str (rowD b1 (es.map (encB b2))).py.shown)) (.fr (.ins CG (graphF n d es))) (.fr (tabL n es)) (.fr (dueD n d es)) .un (.fr (.ins CG (graphF n d fs))) (.fr (.ins CG (graphF n (d + 1) (es ++ loopsL n))))))
          (we_callM 1 GK r3 DLK.g DLK.F.kp DLK.b rfl (.inl rfl) (wa_of (ea_cons (ev_lst (ds := junkP n) (ea_cons (ev_neg ev_int) (ea_cons (ev_var 4) (ea_cons (ev_add (ev_var 4) ev_int) (ea_cons ev_non (ea_cons ev_bl (ea_cons ev_str (ea_cons (ev_tup (ds := [.int 0]) (ea_cons ev_int ea_nil) (by show 1 ≤ 100000; decide)) (ea_cons (ev_lst (ds := []) ea_nil (by show 0 ≤ 100000; decide)) ea_nil)))))))) (by show 8 ≤ 100000; decide)) ea_nil) ⟨_, rfl, junkP n, q, rfl, by show 0 < 8; decide, by show 8 ≤ 16777216; decide, rfl, ok, fun i o q' ho ok' => ⟨q', List.mem_of_getElem? ho, ok', rfl⟩⟩)) (fun z r h => ?_)
        obtain ⟨q', hz, ok', rfl⟩ := h
        obtain ⟨j1, j2, j3⟩ := junk_facts hz
        exact wa_nil ⟨n, d, es, z, rfl, j1, j2, j3, true, rfl, rfl, q', ok', rfl⟩
      · obtain ⟨hb, _⟩ := h
        cases hb
      obtain ⟨_, q, ok, rfl⟩ := h
      refine st_nil ?_
      refine st_one (M := fun _ => True) (s_ifW (PB := fun bb r => (!bb) = true ∧ ∃ q : Pool, q.Ok ∧ r = (rLaw ns a q (.fr (befD CG (some (n, d, es)))) (.fr (.int (0 + (i : Nat)))) (.fr (.int (n : Nat))) (.fr (.lst (edgesD es))) .un (.fr (.str (rowD b1 (es.map (encB b2))).py.shown)) (.fr (.ins CG (graphF n d es))) (.fr (tabL n es)) (.fr (dueD n d es)) .un (.fr (.ins CG (graphF n d fs))) (.fr (.ins CG (graphF n (d + 1) (es ++ loopsL n)))))) (wt_not (PB := fun bb r => bb = true ∧ ∃ q : Pool, q.Ok ∧ r = (rLaw ns a q (.fr (befD CG (some (n, d, es)))) (.fr (.int (0 + (i : Nat)))) (.fr (.int (n : Nat))) (.fr (.lst (edgesD es))) .un (.fr (.str (rowD b1 (es.map (encB b2))).py.shown)) (.fr (.ins CG (graphF n d es))) (.fr (tabL n es)) (.fr (dueD n d es)) .un (.fr (.ins CG (graphF n d fs))) (.fr (.ins CG (graphF n (d + 1) (es ++ loopsL n))))))
        (wt_val (we_callM 1 GW hr DWS.g DWS.F.kp DWS.b rfl (.inl rfl) (wa_of (ea_cons (ev_var 4) (ea_cons (ev_var 5) ea_nil)) ⟨_, rfl, n, d, es, q, rfl, hn1, hn2, hreg, hd, rfl, ok, fun q' ok' => ⟨true, rfl, rfl, q', ok', rfl⟩⟩)))) (fun r h => ?_) (fun r h => ?_))
      · obtain ⟨hb, _⟩ := h
        cases hb
      · obtain ⟨_, q', ok', rfl⟩ := h
        exact st_nil ⟨q', _, _, _, _, _, _, _, _, _, _, _, _, ok', rfl⟩
    · obtain ⟨q, bo, s3, s4, s5, s6, s7, s8, s9, s10, s11, s12, s13, ok, rfl⟩ := hI
      exact ⟨q, _, s3, s4, s5, s6, s7, s8, s9, s10, s11, s12, s13, ok, rfl⟩
    rintro _ ⟨q, s2, s3, s4, s5, s6, s7, s8, s9, s10, s11, s12, s13, ok, rfl⟩
    exact st_retW (P := fun z r => z = .bl true) (we_callM 1 GM hr DMS.g DMS.F.kp DMS.b rfl (.inl rfl) (wa_nil ⟨_, rfl, q, rfl, rfl, ok, fun q' ok' => rfl⟩)) (fun z r h => by subst h; exact k)
end
end G


set_option Elab.async false
set_option maxRecDepth 100000
set_option maxHeartbeats 4000000
set_option linter.all false
namespace G
open PySem L2 PyProof.Rows
theorem kitOne_ref {K : PySem.W.Frag} {t : Value} {C : Addr} (h1 : PySem.W.hasDictIn K C = true) (h2 : PySem.W.typeIn K (.ref C) = some (.type "type")) (h3 : PySem.W.subIn K t (.ref C) = some true) : PySem.W.kitOne K t (.ref C) = some true := by
  obtain ⟨cd, hc, _⟩ := PySem.W.any_some h1
  unfold PySem.W.kitOne
  split
  · rfl
  · show (if ((PySem.W.clsIn K C).isSome && PySem.W.typeIn K (.ref C) == some (.type "type")) = true then PySem.W.subIn K t (.ref C) else none) = some true
    rw [hc, h2, if_pos (by rfl)]
    exact h3
theorem kitOne_ty {K : PySem.W.Frag} {t : Value} {n : String} (h1 : PySem.W.kitMeta n = true) (h3 : PySem.W.subIn K t (.type n) = some true) : PySem.W.kitOne K t (.type n) = some true := by
  unfold PySem.W.kitOne
  split
  · rfl
  · show (if PySem.W.kitMeta n = true then PySem.W.subIn K t (.type n) else none) = some true
    rw [if_pos h1]
    exact h3

theorem all_mk {l : PySem.W.OpenLaw} {w : World} {K : PySem.W.Frag} {h : Heap} {mg : Str → Option Value} {fa : Addr} (X : K.In h) (G : h.Ns mainGlobals mg) (hfa : mg "law" = some (.ref fa))
    {fW : Addr} {odW anW : Option Addr} {slW : Array (Option Value)} {ocW kVW dcW pmW cdW ctW : Value} {fEF : Addr} {odEF anEF : Option Addr} {slEF : Array (Option Value)} {ocEF kVEF dcEF pmEF cdEF ctEF : Value} {fEO : Addr} {odEO anEO : Option Addr} {slEO : Array (Option Value)} {ocEO kVEO dcEO pmEO cdEO ctEO : Value} {fTO : Addr} {odTO anTO : Option Addr} {slTO : Array (Option Value)} {ocTO kVTO dcTO pmTO cdTO ctTO : Value} {fCP : Addr} {odCP anCP : Option Addr} {slCP : Array (Option Value)} {ocCP kVCP dcCP pmCP cdCP ctCP : Value} {fRW : Addr} {odRW anRW : Option Addr} {slRW : Array (Option Value)} {ocRW kVRW dcRW pmRW cdRW ctRW : Value} {fLP : Addr} {odLP anLP : Option Addr} {slLP : Array (Option Value)} {ocLP kVLP dcLP pmLP cdLP ctLP : Value} {fLT : Addr} {odLT anLT : Option Addr} {slLT : Array (Option Value)} {ocLT kVLT dcLT pmLT cdLT ctLT : Value} {fLK : Addr} {odLK anLK : Option Addr} {slLK : Array (Option Value)} {ocLK kVLK dcLK pmLK cdLK ctLK : Value} {fLI : Addr} {odLI anLI : Option Addr} {slLI : Array (Option Value)} {ocLI kVLI dcLI pmLI cdLI ctLI : Value} {fLS : Addr} {odLS anLS : Option Addr} {slLS : Array (Option Value)} {ocLS kVLS dcLS pmLS cdLS ctLS : Value} {fLO : Addr} {odLO anLO : Option Addr} {slLO : Array (Option Value)} {ocLO kVLO dcLO pmLO cdLO ctLO : Value} {fLW : Addr} {odLW anLW : Option Addr} {slLW : Array (Option Value)} {ocLW kVLW dcLW pmLW cdLW ctLW : Value} {fLA : Addr} {odLA anLA : Option Addr} {slLA : Array (Option Value)} {ocLA kVLA dcLA pmLA cdLA ctLA : Value} {fLD : Addr} {odLD anLD : Option Addr} {slLD : Array (Option Value)} {ocLD kVLD dcLD pmLD cdLD ctLD : Value} {fLG : Addr} {odLG anLG : Option Addr} {slLG : Array (Option Value)} {ocLG kVLG dcLG pmLG cdLG ctLG : Value} {fLC : Addr} {odLC anLC : Option Addr} {slLC : Array (Option Value)} {ocLC kVLC dcLC pmLC cdLC ctLC : Value} {fLR : Addr} {odLR anLR : Option Addr} {slLR : Array (Option Value)} {ocLR kVLR dcLR pmLR cdLR ctLR : Value} {fLB : Addr} {odLB anLB : Option Addr} {slLB : Array (Option Value)} {ocLB kVLB dcLB pmLB cdLB ctLB : Value} {fTD : Addr} {odTD anTD : Option Addr} {slTD : Array (Option Value)} {ocTD kVTD dcTD pmTD cdTD ctTD : Value} {fLE : Addr} {odLE anLE : Option Addr} {slLE : Array (Option Value)} {ocLE kVLE dcLE pmLE cdLE ctLE : Value} {fWS : Addr} {odWS anWS : Option Addr} {slWS : Array (Option Value)} {ocWS kVWS dcWS pmWS cdWS ctWS : Value} {fMS : Addr} {odMS anMS : Option Addr} {slMS : Array (Option Value)} {ocMS kVMS dcMS pmMS cdMS ctMS : Value} {fLX : Addr} {odLX anLX : Option Addr} {slLX : Array (Option Value)} {ocLX kVLX dcLX pmLX cdLX ctLX : Value} {CG : Addr} {fGI : Addr} {odGI anGI : Option Addr} {slGI : Array (Option Value)} {ocGI kVGI dcGI pmGI cdGI ctGI : Value} {fGE : Addr} {odGE anGE : Option Addr} {slGE : Array (Option Value)} {ocGE kVGE dcGE pmGE cdGE ctGE : Value} {fGT : Addr} {odGT anGT : Option Addr} {slGT : Array (Option Value)} {ocGT kVGT dcGT pmGT cdGT ctGT : Value} {fZZ : Addr} {odZZ anZZ : Option Addr} {slZZ : Array (Option Value)} {ocZZ kVZZ dcZZ pmZZ cdZZ ctZZ : Value} {CB : Addr} {NB : Addr} {nmB qB : Str} {bsB bmB subB : List Value} {snB : List Str} {abB : Bool} {colB : Option Bool} {ddB : Option Addr} {k0B k1B k2B k3B k5B : Option Value} {fB : Addr} {odB anB : Option Addr} {slB : Array (Option Value)} {ocB kVB dcB pmB ctB : Value} {ccB cdaB : Addr} {clcB : Value} {cldB : Option Addr} {cslB : Array (Option Value)} {cclB : Value} {cddB : Option Addr} {vsB : Array Value} {ccsB : Array (Option Value)} {fileB : Str} {tfB : Tok} {CP : Addr} {NP : Addr} {nmP qP : Str} {bsP bmP subP : List Value} {snP : List Str} {abP : Bool} {colP : Option Bool} {ddP : Option Addr} {k0P k1P k2P k3P k5P : Option Value} {fP : Addr} {odP anP : Option Addr} {slP : Array (Option Value)} {ocP kVP dcP pmP ctP : Value} {ccP cdaP : Addr} {clcP : Value} {cldP : Option Addr} {cslP : Array (Option Value)} {cclP : Value} {cddP : Option Addr} {vsP : Array Value} {ccsP : Array (Option Value)} {fileP : Str} {tfP : Tok} {Cge : Addr} {t_0 : Tok} {t_1 : Tok} {t_2 : Tok}
    (aW : PySem.W.nsIn K mainGlobals "is_whole" = some (some (.ref fW)))
    (lW : K.lookup fW = some ⟨ocW, odW, .func (PySem.W.fnOf "is_whole" "is_whole" (defArgs sIsWhole) (defBody sIsWhole) (defScope sIsWhole) .none kVW dcW pmW anW cdW ctW), slW⟩)
    (cW : PySem.W.codeIn K cdW "is_whole" = true)
    (kW : PySem.W.keepIn K (.ref fW) = true)
    (aEF : PySem.W.nsIn K mainGlobals "edge_fault" = some (some (.ref fEF)))
    (lEF : K.lookup fEF = some ⟨ocEF, odEF, .func (PySem.W.fnOf "edge_fault" "edge_fault" (defArgs sEdgeFault) (defBody sEdgeFault) (defScope sEdgeFault) .none kVEF dcEF pmEF anEF cdEF ctEF), slEF⟩)
    (cEF : PySem.W.codeIn K cdEF "edge_fault" = true)
    (kEF : PySem.W.keepIn K (.ref fEF) = true)
    (aEO : PySem.W.nsIn K mainGlobals "ends_of" = some (some (.ref fEO)))
    (lEO : K.lookup fEO = some ⟨ocEO, odEO, .func (PySem.W.fnOf "ends_of" "ends_of" (defArgs sEndsOf) (defBody sEndsOf) (defScope sEndsOf) .none kVEO dcEO pmEO anEO cdEO ctEO), slEO⟩)
    (cEO : PySem.W.codeIn K cdEO "ends_of" = true)
    (kEO : PySem.W.keepIn K (.ref fEO) = true)
    (aTO : PySem.W.nsIn K mainGlobals "table_of" = some (some (.ref fTO)))
    (lTO : K.lookup fTO = some ⟨ocTO, odTO, .func (PySem.W.fnOf "table_of" "table_of" (defArgs sTableOf) (defBody sTableOf) (defScope sTableOf) .none kVTO dcTO pmTO anTO cdTO ctTO), slTO⟩)
    (cTO : PySem.W.codeIn K cdTO "table_of" = true)
    (kTO : PySem.W.keepIn K (.ref fTO) = true)
    (aCP : PySem.W.nsIn K mainGlobals "check_place" = some (some (.ref fCP)))
    (lCP : K.lookup fCP = some ⟨ocCP, odCP, .func (PySem.W.fnOf "check_place" "check_place" (defArgs sCheckPlace) (defBody sCheckPlace) (defScope sCheckPlace) .none kVCP dcCP pmCP anCP cdCP ctCP), slCP⟩)
    (cCP : PySem.W.codeIn K cdCP "check_place" = true)
    (kCP : PySem.W.keepIn K (.ref fCP) = true)
    (aRW : PySem.W.nsIn K mainGlobals "row" = some (some (.ref fRW)))
    (lRW : K.lookup fRW = some ⟨ocRW, odRW, .func (PySem.W.fnOf "row" "row" (defArgs sRow) (defBody sRow) (defScope sRow) .none kVRW dcRW pmRW anRW cdRW ctRW), slRW⟩)
    (cRW : PySem.W.codeIn K cdRW "row" = true)
    (kRW : PySem.W.keepIn K (.ref fRW) = true)
    (aLP : PySem.W.nsIn K mainGlobals "_law_pool" = some (some (.ref fLP)))
    (lLP : K.lookup fLP = some ⟨ocLP, odLP, .func (PySem.W.fnOf "_law_pool" "_law_pool" (defArgs sLawPool) (defBody sLawPool) (defScope sLawPool) .none kVLP dcLP pmLP anLP cdLP ctLP), slLP⟩)
    (cLP : PySem.W.codeIn K cdLP "_law_pool" = true)
    (kLP : PySem.W.keepIn K (.ref fLP) = true)
    (aLT : PySem.W.nsIn K mainGlobals "_law_take" = some (some (.ref fLT)))
    (lLT : K.lookup fLT = some ⟨ocLT, odLT, .func (PySem.W.fnOf "_law_take" "_law_take" (defArgs sLawTake) (defBody sLawTake) (defScope sLawTake) .none kVLT dcLT pmLT anLT cdLT ctLT), slLT⟩)
    (cLT : PySem.W.codeIn K cdLT "_law_take" = true)
    (kLT : PySem.W.keepIn K (.ref fLT) = true)
    (aLK : PySem.W.nsIn K mainGlobals "_law_pick" = some (some (.ref fLK)))
    (lLK : K.lookup fLK = some ⟨ocLK, odLK, .func (PySem.W.fnOf "_law_pick" "_law_pick" (defArgs sLawPick) (defBody sLawPick) (defScope sLawPick) .none kVLK dcLK pmLK anLK cdLK ctLK), slLK⟩)
    (cLK : PySem.W.codeIn K cdLK "_law_pick" = true)
    (kLK : PySem.W.keepIn K (.ref fLK) = true)
    (aLI : PySem.W.nsIn K mainGlobals "_law_is_integer" = some (some (.ref fLI)))
    (lLI : K.lookup fLI = some ⟨ocLI, odLI, .func (PySem.W.fnOf "_law_is_integer" "_law_is_integer" (defArgs sLawIsInteger) (defBody sLawIsInteger) (defScope sLawIsInteger) .none kVLI dcLI pmLI anLI cdLI ctLI), slLI⟩)
    (cLI : PySem.W.codeIn K cdLI "_law_is_integer" = true)
    (kLI : PySem.W.keepIn K (.ref fLI) = true)
    (aLS : PySem.W.nsIn K mainGlobals "_law_same" = some (some (.ref fLS)))
    (lLS : K.lookup fLS = some ⟨ocLS, odLS, .func (PySem.W.fnOf "_law_same" "_law_same" (defArgs sLawSame) (defBody sLawSame) (defScope sLawSame) .none kVLS dcLS pmLS anLS cdLS ctLS), slLS⟩)
    (cLS : PySem.W.codeIn K cdLS "_law_same" = true)
    (kLS : PySem.W.keepIn K (.ref fLS) = true)
    (aLO : PySem.W.nsIn K mainGlobals "_law_order" = some (some (.ref fLO)))
    (lLO : K.lookup fLO = some ⟨ocLO, odLO, .func (PySem.W.fnOf "_law_order" "_law_order" (defArgs sLawOrder) (defBody sLawOrder) (defScope sLawOrder) .none kVLO dcLO pmLO anLO cdLO ctLO), slLO⟩)
    (cLO : PySem.W.codeIn K cdLO "_law_order" = true)
    (kLO : PySem.W.keepIn K (.ref fLO) = true)
    (aLW : PySem.W.nsIn K mainGlobals "_law_power" = some (some (.ref fLW)))
    (lLW : K.lookup fLW = some ⟨ocLW, odLW, .func (PySem.W.fnOf "_law_power" "_law_power" (defArgs sLawPower) (defBody sLawPower) (defScope sLawPower) .none kVLW dcLW pmLW anLW cdLW ctLW), slLW⟩)
    (cLW : PySem.W.codeIn K cdLW "_law_power" = true)
    (kLW : PySem.W.keepIn K (.ref fLW) = true)
    (aLA : PySem.W.nsIn K mainGlobals "_law_all_pairs" = some (some (.ref fLA)))
    (lLA : K.lookup fLA = some ⟨ocLA, odLA, .func (PySem.W.fnOf "_law_all_pairs" "_law_all_pairs" (defArgs sLawAllPairs) (defBody sLawAllPairs) (defScope sLawAllPairs) .none kVLA dcLA pmLA anLA cdLA ctLA), slLA⟩)
    (cLA : PySem.W.codeIn K cdLA "_law_all_pairs" = true)
    (kLA : PySem.W.keepIn K (.ref fLA) = true)
    (aLD : PySem.W.nsIn K mainGlobals "_law_digit_edges" = some (some (.ref fLD)))
    (lLD : K.lookup fLD = some ⟨ocLD, odLD, .func (PySem.W.fnOf "_law_digit_edges" "_law_digit_edges" (defArgs sLawDigitEdges) (defBody sLawDigitEdges) (defScope sLawDigitEdges) .none kVLD dcLD pmLD anLD cdLD ctLD), slLD⟩)
    (cLD : PySem.W.codeIn K cdLD "_law_digit_edges" = true)
    (kLD : PySem.W.keepIn K (.ref fLD) = true)
    (aLG : PySem.W.nsIn K mainGlobals "_law_pairing" = some (some (.ref fLG)))
    (lLG : K.lookup fLG = some ⟨ocLG, odLG, .func (PySem.W.fnOf "_law_pairing" "_law_pairing" (defArgs sLawPairing) (defBody sLawPairing) (defScope sLawPairing) .none kVLG dcLG pmLG anLG cdLG ctLG), slLG⟩)
    (cLG : PySem.W.codeIn K cdLG "_law_pairing" = true)
    (kLG : PySem.W.keepIn K (.ref fLG) = true)
    (aLC : PySem.W.nsIn K mainGlobals "_law_circle_edges" = some (some (.ref fLC)))
    (lLC : K.lookup fLC = some ⟨ocLC, odLC, .func (PySem.W.fnOf "_law_circle_edges" "_law_circle_edges" (defArgs sLawCircleEdges) (defBody sLawCircleEdges) (defScope sLawCircleEdges) .none kVLC dcLC pmLC anLC cdLC ctLC), slLC⟩)
    (cLC : PySem.W.codeIn K cdLC "_law_circle_edges" = true)
    (kLC : PySem.W.keepIn K (.ref fLC) = true)
    (aLR : PySem.W.nsIn K mainGlobals "_law_graph" = some (some (.ref fLR)))
    (lLR : K.lookup fLR = some ⟨ocLR, odLR, .func (PySem.W.fnOf "_law_graph" "_law_graph" (defArgs sLawGraph) (defBody sLawGraph) (defScope sLawGraph) .none kVLR dcLR pmLR anLR cdLR ctLR), slLR⟩)
    (cLR : PySem.W.codeIn K cdLR "_law_graph" = true)
    (kLR : PySem.W.keepIn K (.ref fLR) = true)
    (aLB : PySem.W.nsIn K mainGlobals "_law_table" = some (some (.ref fLB)))
    (lLB : K.lookup fLB = some ⟨ocLB, odLB, .func (PySem.W.fnOf "_law_table" "_law_table" (defArgs sLawTable) (defBody sLawTable) (defScope sLawTable) .none kVLB dcLB pmLB anLB cdLB ctLB), slLB⟩)
    (cLB : PySem.W.codeIn K cdLB "_law_table" = true)
    (kLB : PySem.W.keepIn K (.ref fLB) = true)
    (aTD : PySem.W.nsIn K mainGlobals "_law_told" = some (some (.ref fTD)))
    (lTD : K.lookup fTD = some ⟨ocTD, odTD, .func (PySem.W.fnOf "_law_told" "_law_told" (defArgs sLawTold) (defBody sLawTold) (defScope sLawTold) .none kVTD dcTD pmTD anTD cdTD ctTD), slTD⟩)
    (cTD : PySem.W.codeIn K cdTD "_law_told" = true)
    (kTD : PySem.W.keepIn K (.ref fTD) = true)
    (aLE : PySem.W.nsIn K mainGlobals "_law_ends" = some (some (.ref fLE)))
    (lLE : K.lookup fLE = some ⟨ocLE, odLE, .func (PySem.W.fnOf "_law_ends" "_law_ends" (defArgs sLawEnds) (defBody sLawEnds) (defScope sLawEnds) .none kVLE dcLE pmLE anLE cdLE ctLE), slLE⟩)
    (cLE : PySem.W.codeIn K cdLE "_law_ends" = true)
    (kLE : PySem.W.keepIn K (.ref fLE) = true)
    (aWS : PySem.W.nsIn K mainGlobals "_law_wrong_so" = some (some (.ref fWS)))
    (lWS : K.lookup fWS = some ⟨ocWS, odWS, .func (PySem.W.fnOf "_law_wrong_so" "_law_wrong_so" (defArgs sLawWrongSo) (defBody sLawWrongSo) (defScope sLawWrongSo) .none kVWS dcWS pmWS anWS cdWS ctWS), slWS⟩)
    (cWS : PySem.W.codeIn K cdWS "_law_wrong_so" = true)
    (kWS : PySem.W.keepIn K (.ref fWS) = true)
    (aMS : PySem.W.nsIn K mainGlobals "_law_many_so" = some (some (.ref fMS)))
    (lMS : K.lookup fMS = some ⟨ocMS, odMS, .func (PySem.W.fnOf "_law_many_so" "_law_many_so" (defArgs sLawManySo) (defBody sLawManySo) (defScope sLawManySo) .none kVMS dcMS pmMS anMS cdMS ctMS), slMS⟩)
    (cMS : PySem.W.codeIn K cdMS "_law_many_so" = true)
    (kMS : PySem.W.keepIn K (.ref fMS) = true)
    (aLX : PySem.W.nsIn K mainGlobals "_law_raises" = some (some (.ref fLX)))
    (lLX : K.lookup fLX = some ⟨ocLX, odLX, .func (PySem.W.fnOf "_law_raises" "_law_raises" (defArgs sLawRaises) (defBody sLawRaises) (defScope sLawRaises) .none kVLX dcLX pmLX anLX cdLX ctLX), slLX⟩)
    (cLX : PySem.W.codeIn K cdLX "_law_raises" = true)
    (kLX : PySem.W.keepIn K (.ref fLX) = true)
    (gCG : PySem.W.nsIn K mainGlobals "Graph" = some (some (.ref CG)))
    (pgG : PySem.W.plainGet K CG Str.empty = true)
    (hdG : PySem.W.hasDictIn K CG = true)
    (poG : PySem.W.plainOver K CG = true)
    (saG : PySem.W.findIn K (.ref CG) "__setattr__" = some (some (.builtin "object.__setattr__")))
    (mkG : PySem.W.makesIn K CG = true)
    (kcG : PySem.W.keepIn K (.ref CG) = true)
    (n0G : PySem.W.findIn K (.ref CG) "n" = some none)
    (n1G : PySem.W.findIn K (.ref CG) "edges" = some none)
    (n2G : PySem.W.findIn K (.ref CG) "degree" = some none)
    (n3G : PySem.W.findIn K (.ref CG) "_table" = some none)
    (n4G : PySem.W.findIn K (.ref CG) "kept" = some none)
    (aGI : PySem.W.findIn K (.ref CG) "__init__" = some (some (.ref fGI)))
    (iGI : PySem.W.isFn K (.ref fGI) = true)
    (lGI : K.lookup fGI = some ⟨ocGI, odGI, .func (PySem.W.fnOf "__init__" "Graph.__init__" (defArgs sGraphInit) (defBody sGraphInit) (defScope sGraphInit) .none kVGI dcGI pmGI anGI cdGI ctGI), slGI⟩)
    (cGI : PySem.W.codeIn K cdGI "Graph.__init__" = true)
    (kGI : PySem.W.keepIn K (.ref fGI) = true)
    (aGE : PySem.W.findIn K (.ref CG) "__eq__" = some (some (.ref fGE)))
    (iGE : PySem.W.isFn K (.ref fGE) = true)
    (lGE : K.lookup fGE = some ⟨ocGE, odGE, .func (PySem.W.fnOf "__eq__" "Graph.__eq__" (defArgs sGraphEq) (defBody sGraphEq) (defScope sGraphEq) .none kVGE dcGE pmGE anGE cdGE ctGE), slGE⟩)
    (cGE : PySem.W.codeIn K cdGE "Graph.__eq__" = true)
    (kGE : PySem.W.keepIn K (.ref fGE) = true)
    (aGT : PySem.W.findIn K (.ref CG) "table" = some (some (.ref fGT)))
    (iGT : PySem.W.isFn K (.ref fGT) = true)
    (lGT : K.lookup fGT = some ⟨ocGT, odGT, .func (PySem.W.fnOf "table" "Graph.table" (defArgs sGraphTable) (defBody sGraphTable) (defScope sGraphTable) .none kVGT dcGT pmGT anGT cdGT ctGT), slGT⟩)
    (cGT : PySem.W.codeIn K cdGT "Graph.table" = true)
    (kGT : PySem.W.keepIn K (.ref fGT) = true)
    (aZZ : PySem.W.nsIn K mainGlobals "law" = some (some (.ref fZZ)))
    (lZZ : K.lookup fZZ = some ⟨ocZZ, odZZ, .func (PySem.W.fnOf "law" "law" (defArgs sLaw) (defBody sLaw) (defScope sLaw) .none kVZZ dcZZ pmZZ anZZ cdZZ ctZZ), slZZ⟩)
    (cZZ : PySem.W.codeIn K cdZZ "law" = true)
    (kZZ : PySem.W.keepIn K (.ref fZZ) = true)
    (ogB : PySem.W.nsIn K mainGlobals "BadGraph" = some (some (.ref CB)))
    (oc_B : K.lookup CB = some (PySem.excClassObj nmB qB CB NB bsB bmB true snB subB abB colB ddB k0B k1B k2B k3B k5B "ValueError.__new__"))
    (ovB : PySem.HandSPX.refsVE bmB = true)
    (aB : PySem.W.findIn K (.ref CB) "__init__" = some (some (.ref fB)))
    (iB : PySem.W.isFn K (.ref fB) = true)
    (lB : K.lookup fB = some ⟨ocB, odB, .func (PySem.W.ksFn "__init__" "BadGraph.__init__" (defArgs sBadGraphInit) (defBody sBadGraphInit) (defScope sBadGraphInit) .none kVB dcB pmB anB (.ref cdaB) ctB ccB), slB⟩)
    (cB : PySem.W.codeIn K (.ref cdaB) "BadGraph.__init__" = true)
    (kB : PySem.W.keepIn K (.ref fB) = true)
    (okB : PySem.W.keepIn K (.ref CB) = true)
    (obB : PySem.W.subIn K (.ref CB) (.type "BaseException") = some true)
    (otB : PySem.W.typeIn K (.ref CB) = some (.type "type"))
    (osB : PySem.W.findIn K (.ref CB) "__setattr__" = some (some (.builtin "object.__setattr__")))
    (tyB : PySem.W.typeIn K (.ref fB) = some (.type "function"))
    (veB : PySem.W.subIn K (.ref CB) (.type "ValueError") = some true)
    (meB : PySem.W.mroIn K CB (.ref CB) = some true)
    (suB : PySem.W.ks_superIn K CB CB "__init__" = some (some (.builtin "ValueError.__init__")))
    (ooB : PySem.W.nsIn K cStatics "thirdparty.any" = some none)
    (oeB : K.lookup ccB = some ⟨clcB, cldB, .cell (some (.ref CB)), cslB⟩)
    (od_B : K.lookup cdaB = some ⟨cclB, cddB, .fields vsB, ccsB⟩)
    (ofB : vsB[2]? = some (.str fileB tfB))
    (omB : ((l.prog.main.file : Str) == fileB) = true)
    (opB : (l.prog.main.scope.names.lookup ("super" : Str)).isSome = false)
    (ozB : PySem.W.nsIn K mainGlobals "super" = some none)
    (no0B : PySem.W.findIn K (.ref CB) "number" = some none)
    (no1B : PySem.W.findIn K (.ref CB) "reason" = some none)
    (sNB : PySem.W.subIn K (.ref CB) (.ref CB) = some true)
    (egB : PySem.W.findIn K (.ref CB) "__getattribute__" = some (some (.builtin "BaseException.__getattribute__")))
    (ekB : PySem.W.findIn K (.ref CB) "__getattr__" = some none)
    (edB : PySem.W.hasDictIn K CB = true)
    (ogP : PySem.W.nsIn K mainGlobals "NoPlace" = some (some (.ref CP)))
    (oc_P : K.lookup CP = some (PySem.excClassObj nmP qP CP NP bsP bmP true snP subP abP colP ddP k0P k1P k2P k3P k5P "ValueError.__new__"))
    (ovP : PySem.HandSPX.refsVE bmP = true)
    (aP : PySem.W.findIn K (.ref CP) "__init__" = some (some (.ref fP)))
    (iP : PySem.W.isFn K (.ref fP) = true)
    (lP : K.lookup fP = some ⟨ocP, odP, .func (PySem.W.ksFn "__init__" "NoPlace.__init__" (defArgs sNoPlaceInit) (defBody sNoPlaceInit) (defScope sNoPlaceInit) .none kVP dcP pmP anP (.ref cdaP) ctP ccP), slP⟩)
    (cP : PySem.W.codeIn K (.ref cdaP) "NoPlace.__init__" = true)
    (kP : PySem.W.keepIn K (.ref fP) = true)
    (okP : PySem.W.keepIn K (.ref CP) = true)
    (obP : PySem.W.subIn K (.ref CP) (.type "BaseException") = some true)
    (otP : PySem.W.typeIn K (.ref CP) = some (.type "type"))
    (osP : PySem.W.findIn K (.ref CP) "__setattr__" = some (some (.builtin "object.__setattr__")))
    (tyP : PySem.W.typeIn K (.ref fP) = some (.type "function"))
    (veP : PySem.W.subIn K (.ref CP) (.type "ValueError") = some true)
    (meP : PySem.W.mroIn K CP (.ref CP) = some true)
    (suP : PySem.W.ks_superIn K CP CP "__init__" = some (some (.builtin "ValueError.__init__")))
    (ooP : PySem.W.nsIn K cStatics "thirdparty.any" = some none)
    (oeP : K.lookup ccP = some ⟨clcP, cldP, .cell (some (.ref CP)), cslP⟩)
    (od_P : K.lookup cdaP = some ⟨cclP, cddP, .fields vsP, ccsP⟩)
    (ofP : vsP[2]? = some (.str fileP tfP))
    (omP : ((l.prog.main.file : Str) == fileP) = true)
    (opP : (l.prog.main.scope.names.lookup ("super" : Str)).isSome = false)
    (ozP : PySem.W.nsIn K mainGlobals "super" = some none)
    (no0P : PySem.W.findIn K (.ref CP) "place" = some none)
    (sNP : PySem.W.subIn K (.ref CP) (.ref CP) = some true)
    (egP : PySem.W.findIn K (.ref CP) "__getattribute__" = some (some (.builtin "BaseException.__getattribute__")))
    (ekP : PySem.W.findIn K (.ref CP) "__getattr__" = some none)
    (edP : PySem.W.hasDictIn K CP = true)
    (gE : PySem.W.nsIn K mainGlobals "GapError" = some (some (.ref Cge)))
    (hE : PySem.W.hasDictIn K Cge = true)
    (tE : PySem.W.typeIn K (.ref Cge) = some (.type "type"))
    (en : PySem.W.specialIn K (.builtin "object.__class__") "__get__" = some (some (.builtin "getset_descriptor.__get__")))
    (et : PySem.W.takesIn K (.builtin "object.__class__") = some true)
    (eaB : PySem.W.findIn K (.ref CB) "__class__" = some (some (.builtin "object.__class__")))
    (emB : PySem.W.mroIn K CB (.type "object") = some true)
    (sEB : PySem.W.subIn K (.ref CB) (.ref Cge) = some true)
    (eaP : PySem.W.findIn K (.ref CP) "__class__" = some (some (.builtin "object.__class__")))
    (emP : PySem.W.mroIn K CP (.type "object") = some true)
    (sEP : PySem.W.subIn K (.ref CP) (.ref Cge) = some true)
    (m0 : PySem.W.nsIn K mainGlobals "MOST_PLACES" = some (some (.int 64 t_0)))
    (m1 : PySem.W.nsIn K mainGlobals "MOST_DEGREE" = some (some (.int 64 t_1)))
    (m2 : PySem.W.nsIn K mainGlobals "MOST_EDGES" = some (some (.int 4096 t_2)))
    (neG : PySem.W.findIn K (.ref CG) "__ne__" = some (some (.builtin "object.__ne__")))
    (clG : PySem.W.findIn K (.ref CG) "__class__" = some (some (.builtin "object.__class__")))
    (moG : PySem.W.mroIn K CG (.type "object") = some true)
    (tyG : PySem.W.typeIn K (.ref CG) = some (.type "type"))
    (suG : PySem.W.subIn K (.ref CG) (.ref CG) = some true)
    (zlen : PySem.W.nsIn K mainGlobals "len" = some none)
    (zint : PySem.W.nsIn K mainGlobals "int" = some none)
    (zrange : PySem.W.nsIn K mainGlobals "range" = some none)
    (zlist : PySem.W.nsIn K mainGlobals "list" = some none)
    (ztuple : PySem.W.nsIn K mainGlobals "tuple" = some none)
    (zsorted : PySem.W.nsIn K mainGlobals "sorted" = some none)
    (zsum : PySem.W.nsIn K mainGlobals "sum" = some none)
    (zall : PySem.W.nsIn K mainGlobals "all" = some none)
    (zany : PySem.W.nsIn K mainGlobals "any" = some none)
    (zmin : PySem.W.nsIn K mainGlobals "min" = some none)
    (zmax : PySem.W.nsIn K mainGlobals "max" = some none)
    (zisinstance : PySem.W.nsIn K mainGlobals "isinstance" = some none)
    (zbool : PySem.W.nsIn K mainGlobals "bool" = some none)
    (zstr : PySem.W.nsIn K mainGlobals "str" = some none)
    (zenumerate : PySem.W.nsIn K mainGlobals "enumerate" = some none)
    (zdict : PySem.W.nsIn K mainGlobals "dict" = some none)
    (zrepr : PySem.W.nsIn K mainGlobals "repr" = some none)
    (zValueError : PySem.W.nsIn K mainGlobals "ValueError" = some none)
    : ∃ fd : FuncData, (∀ (s : Shared) (v : Value), BindsTo s fd ⟨[v], []⟩ [("script", v)]) ∧ ∀ base : Heap, K.In base → base.Ns mainGlobals mg → FnG l.prog w K mg base 7 fa fd ["script"] (spP K CLaw) := by
  have e := hfa.symm.trans (PySem.W.mg_of X G aZZ)
  cases e
  have T : Bn mg := ⟨PySem.W.mg_none_of X G zlen, PySem.W.mg_none_of X G zint, PySem.W.mg_none_of X G zrange, PySem.W.mg_none_of X G zlist, PySem.W.mg_none_of X G ztuple, PySem.W.mg_none_of X G zsorted, PySem.W.mg_none_of X G zsum, PySem.W.mg_none_of X G zall, PySem.W.mg_none_of X G zany, PySem.W.mg_none_of X G zmin, PySem.W.mg_none_of X G zmax, PySem.W.mg_none_of X G zisinstance, PySem.W.mg_none_of X G zbool, PySem.W.mg_none_of X G zstr, PySem.W.mg_none_of X G zenumerate⟩
  have FW : Fun K "is_whole" "is_whole" sIsWhole fW _ := fun_mk lW cW kW
  have DW : Df K mg "is_whole" "is_whole" sIsWhole ["value"] fW _ := ⟨FW, FW.binds fun _ _ _ _ _ _ us hl => match us, hl with | [_], _ => rfl, PySem.W.mg_of X G aW⟩
  have FEF : Fun K "edge_fault" "edge_fault" sEdgeFault fEF _ := fun_mk lEF cEF kEF
  have DEF : Df K mg "edge_fault" "edge_fault" sEdgeFault ["edge", "n"] fEF _ := ⟨FEF, FEF.binds fun _ _ _ _ _ _ us hl => match us, hl with | [_, _], _ => rfl, PySem.W.mg_of X G aEF⟩
  have FEO : Fun K "ends_of" "ends_of" sEndsOf fEO _ := fun_mk lEO cEO kEO
  have DEO : Df K mg "ends_of" "ends_of" sEndsOf ["n", "edges"] fEO _ := ⟨FEO, FEO.binds fun _ _ _ _ _ _ us hl => match us, hl with | [_, _], _ => rfl, PySem.W.mg_of X G aEO⟩
  have FTO : Fun K "table_of" "table_of" sTableOf fTO _ := fun_mk lTO cTO kTO
  have DTO : Df K mg "table_of" "table_of" sTableOf ["n", "edges"] fTO _ := ⟨FTO, FTO.binds fun _ _ _ _ _ _ us hl => match us, hl with | [_, _], _ => rfl, PySem.W.mg_of X G aTO⟩
  have FCP : Fun K "check_place" "check_place" sCheckPlace fCP _ := fun_mk lCP cCP kCP
  have DCP : Df K mg "check_place" "check_place" sCheckPlace ["graph", "place"] fCP _ := ⟨FCP, FCP.binds fun _ _ _ _ _ _ us hl => match us, hl with | [_, _], _ => rfl, PySem.W.mg_of X G aCP⟩
  have FRW : Fun K "row" "row" sRow fRW _ := fun_mk lRW cRW kRW
  have DRW : Df K mg "row" "row" sRow ["graph", "place"] fRW _ := ⟨FRW, FRW.binds fun _ _ _ _ _ _ us hl => match us, hl with | [_, _], _ => rfl, PySem.W.mg_of X G aRW⟩
  have FLP : Fun K "_law_pool" "_law_pool" sLawPool fLP _ := fun_mk lLP cLP kLP
  have DLP : Df K mg "_law_pool" "_law_pool" sLawPool ["script"] fLP _ := ⟨FLP, FLP.binds fun _ _ _ _ _ _ us hl => match us, hl with | [_], _ => rfl, PySem.W.mg_of X G aLP⟩
  have FLT : Fun K "_law_take" "_law_take" sLawTake fLT _ := fun_mk lLT cLT kLT
  have DLT : Df K mg "_law_take" "_law_take" sLawTake ["pool", "many"] fLT _ := ⟨FLT, FLT.binds fun _ _ _ _ _ _ us hl => match us, hl with | [_, _], _ => rfl, PySem.W.mg_of X G aLT⟩
  have FLK : Fun K "_law_pick" "_law_pick" sLawPick fLK _ := fun_mk lLK cLK kLK
  have DLK : Df K mg "_law_pick" "_law_pick" sLawPick ["pool", "rows"] fLK _ := ⟨FLK, FLK.binds fun _ _ _ _ _ _ us hl => match us, hl with | [_, _], _ => rfl, PySem.W.mg_of X G aLK⟩
  have FLI : Fun K "_law_is_integer" "_law_is_integer" sLawIsInteger fLI _ := fun_mk lLI cLI kLI
  have DLI : Df K mg "_law_is_integer" "_law_is_integer" sLawIsInteger ["actual"] fLI _ := ⟨FLI, FLI.binds fun _ _ _ _ _ _ us hl => match us, hl with | [_], _ => rfl, PySem.W.mg_of X G aLI⟩
  have FLS : Fun K "_law_same" "_law_same" sLawSame fLS _ := fun_mk lLS cLS kLS
  have DLS : Df K mg "_law_same" "_law_same" sLawSame ["actual", "due"] fLS _ := ⟨FLS, FLS.binds fun _ _ _ _ _ _ us hl => match us, hl with | [_, _], _ => rfl, PySem.W.mg_of X G aLS⟩
  have FLO : Fun K "_law_order" "_law_order" sLawOrder fLO _ := fun_mk lLO cLO kLO
  have DLO : Df K mg "_law_order" "_law_order" sLawOrder ["pool", "many"] fLO _ := ⟨FLO, FLO.binds fun _ _ _ _ _ _ us hl => match us, hl with | [_, _], _ => rfl, PySem.W.mg_of X G aLO⟩
  have FLW : Fun K "_law_power" "_law_power" sLawPower fLW _ := fun_mk lLW cLW kLW
  have DLW : Df K mg "_law_power" "_law_power" sLawPower ["base", "many"] fLW _ := ⟨FLW, FLW.binds fun _ _ _ _ _ _ us hl => match us, hl with | [_, _], _ => rfl, PySem.W.mg_of X G aLW⟩
  have FLA : Fun K "_law_all_pairs" "_law_all_pairs" sLawAllPairs fLA _ := fun_mk lLA cLA kLA
  have DLA : Df K mg "_law_all_pairs" "_law_all_pairs" sLawAllPairs ["n"] fLA _ := ⟨FLA, FLA.binds fun _ _ _ _ _ _ us hl => match us, hl with | [_], _ => rfl, PySem.W.mg_of X G aLA⟩
  have FLD : Fun K "_law_digit_edges" "_law_digit_edges" sLawDigitEdges fLD _ := fun_mk lLD cLD kLD
  have DLD : Df K mg "_law_digit_edges" "_law_digit_edges" sLawDigitEdges ["deep"] fLD _ := ⟨FLD, FLD.binds fun _ _ _ _ _ _ us hl => match us, hl with | [_], _ => rfl, PySem.W.mg_of X G aLD⟩
  have FLG : Fun K "_law_pairing" "_law_pairing" sLawPairing fLG _ := fun_mk lLG cLG kLG
  have DLG : Df K mg "_law_pairing" "_law_pairing" sLawPairing ["pool", "n", "is_loose"] fLG _ := ⟨FLG, FLG.binds fun _ _ _ _ _ _ us hl => match us, hl with | [_, _, _], _ => rfl, PySem.W.mg_of X G aLG⟩
  have FLC : Fun K "_law_circle_edges" "_law_circle_edges" sLawCircleEdges fLC _ := fun_mk lLC cLC kLC
  have DLC : Df K mg "_law_circle_edges" "_law_circle_edges" sLawCircleEdges ["n", "shifts"] fLC _ := ⟨FLC, FLC.binds fun _ _ _ _ _ _ us hl => match us, hl with | [_, _], _ => rfl, PySem.W.mg_of X G aLC⟩
  have FLR : Fun K "_law_graph" "_law_graph" sLawGraph fLR _ := fun_mk lLR cLR kLR
  have DLR : Df K mg "_law_graph" "_law_graph" sLawGraph ["pool", "most"] fLR _ := ⟨FLR, FLR.binds fun _ _ _ _ _ _ us hl => match us, hl with | [_, _], _ => rfl, PySem.W.mg_of X G aLR⟩
  have FLB : Fun K "_law_table" "_law_table" sLawTable fLB _ := fun_mk lLB cLB kLB
  have DLB : Df K mg "_law_table" "_law_table" sLawTable ["n", "edges"] fLB _ := ⟨FLB, FLB.binds fun _ _ _ _ _ _ us hl => match us, hl with | [_, _], _ => rfl, PySem.W.mg_of X G aLB⟩
  have FTD : Fun K "_law_told" "_law_told" sLawTold fTD _ := fun_mk lTD cTD kTD
  have DTD : Df K mg "_law_told" "_law_told" sLawTold ["n", "edges"] fTD _ := ⟨FTD, FTD.binds fun _ _ _ _ _ _ us hl => match us, hl with | [_, _], _ => rfl, PySem.W.mg_of X G aTD⟩
  have FLE : Fun K "_law_ends" "_law_ends" sLawEnds fLE _ := fun_mk lLE cLE kLE
  have DLE : Df K mg "_law_ends" "_law_ends" sLawEnds ["n", "edges"] fLE _ := ⟨FLE, FLE.binds fun _ _ _ _ _ _ us hl => match us, hl with | [_, _], _ => rfl, PySem.W.mg_of X G aLE⟩
  have FWS : Fun K "_law_wrong_so" "_law_wrong_so" sLawWrongSo fWS _ := fun_mk lWS cWS kWS
  have DWS : Df K mg "_law_wrong_so" "_law_wrong_so" sLawWrongSo ["pool", "n", "edges"] fWS _ := ⟨FWS, FWS.binds fun _ _ _ _ _ _ us hl => match us, hl with | [_, _, _], _ => rfl, PySem.W.mg_of X G aWS⟩
  have FMS : Fun K "_law_many_so" "_law_many_so" sLawManySo fMS _ := fun_mk lMS cMS kMS
  have DMS : Df K mg "_law_many_so" "_law_many_so" sLawManySo ["pool"] fMS _ := ⟨FMS, FMS.binds fun _ _ _ _ _ _ us hl => match us, hl with | [_], _ => rfl, PySem.W.mg_of X G aMS⟩
  have FLX : Fun K "_law_raises" "_law_raises" sLawRaises fLX _ := fun_mk lLX cLX kLX
  have DLX : Df K mg "_law_raises" "_law_raises" sLawRaises ["graph", "place"] fLX _ := ⟨FLX, FLX.binds fun _ _ _ _ _ _ us hl => match us, hl with | [_, _], _ => rfl, PySem.W.mg_of X G aLX⟩
  have FGI : Fun K "__init__" "Graph.__init__" sGraphInit fGI _ := fun_mk lGI cGI kGI
  have bGI := FGI.binds (ps := ["self", "n", "edges"]) fun _ _ _ _ _ _ us hl => match us, hl with | [_, _, _], _ => rfl
  have mGI : Meth K CG "__init__" fGI := ⟨aGI, iGI, kGI⟩
  have FGE : Fun K "__eq__" "Graph.__eq__" sGraphEq fGE _ := fun_mk lGE cGE kGE
  have bGE := FGE.binds (ps := ["self", "other"]) fun _ _ _ _ _ _ us hl => match us, hl with | [_, _], _ => rfl
  have mGE : Meth K CG "__eq__" fGE := ⟨aGE, iGE, kGE⟩
  have FGT : Fun K "table" "Graph.table" sGraphTable fGT _ := fun_mk lGT cGT kGT
  have bGT := FGT.binds (ps := ["self"]) fun _ _ _ _ _ _ us hl => match us, hl with | [_], _ => rfl
  have mGT : Meth K CG "table" fGT := ⟨aGT, iGT, kGT⟩
  have clsG : Cls K CG := ⟨pgG, hdG, poG, saG⟩
  have mksG : Mk K CG fGI := ⟨mkG, aGI, iGI, kcG⟩
  have GC : GCls K mg CG fGI := ⟨clsG, n0G, n1G, n2G, n3G, n4G, mksG, PySem.W.mg_of X G gCG⟩
  have SB : PySem.GEn.SupTxt l.prog K mg CB fB ccB cdaB := ⟨⟨_, _, _, _, _, _, _, _, _, _, _, _, _, _, _, oc_B, ovB⟩, osB, aB, tyB, okB, obB, otB, veB, meB, suB, ooB, ⟨_, _, _, oeB⟩, ⟨_, _, _, _, _, _, od_B, ofB, omB⟩, opB, PySem.W.mg_none_of X G ozB⟩
  have EB := err_badGraph SB lB cB no0B no1B (PySem.W.mg_of X G ogB)
  have xNB : PySem.W.exmOne K (.ref CB) (.ref CB) = some true := PySem.W.exm_ref obB edB otB sNB
  have eF0B : ErrF K CB "number" := ⟨egB, ekB, obB, edB, no0B⟩
  have eF1B : ErrF K CB "reason" := ⟨egB, ekB, obB, edB, no1B⟩
  have SP : PySem.GEn.SupTxt l.prog K mg CP fP ccP cdaP := ⟨⟨_, _, _, _, _, _, _, _, _, _, _, _, _, _, _, oc_P, ovP⟩, osP, aP, tyP, okP, obP, otP, veP, meP, suP, ooP, ⟨_, _, _, oeP⟩, ⟨_, _, _, _, _, _, od_P, ofP, omP⟩, opP, PySem.W.mg_none_of X G ozP⟩
  have EP := err_noPlaceN SP lP cP no0P (PySem.W.mg_of X G ogP)
  have xNP : PySem.W.exmOne K (.ref CP) (.ref CP) = some true := PySem.W.exm_ref obP edP otP sNP
  have eF0P : ErrF K CP "place" := ⟨egP, ekP, obP, edP, no0P⟩
  have eNB : ExcC K CB := ⟨egB, ekB, obB, edB, eaB, en, et, emB⟩
  have kGB : PySem.W.kitOne K (.ref CB) (.ref Cge) = some true := kitOne_ref hE tE sEB
  have eNP : ExcC K CP := ⟨egP, ekP, obP, edP, eaP, en, et, emP⟩
  have kGP : PySem.W.kitOne K (.ref CP) (.ref Cge) = some true := kitOne_ref hE tE sEP
  have i0 : GInt mg "MOST_PLACES" 64 := ⟨_, PySem.W.mg_of X G m0, _, rfl⟩
  have i1 : GInt mg "MOST_DEGREE" 64 := ⟨_, PySem.W.mg_of X G m1, _, rfl⟩
  have i2 : GInt mg "MOST_EDGES" 4096 := ⟨_, PySem.W.mg_of X G m2, _, rfl⟩
  have IC : InsC K CG := ⟨clsG, clG, en, et, moG, kitOne_ref hdG tyG suG⟩
  exact ⟨PySem.W.fnOf "law" "law" (defArgs sLaw) (defBody sLaw) (defScope sLaw) .none kVZZ dcZZ pmZZ anZZ cdZZ ctZZ, fun s v => .of_eq rfl, fun base _ _ =>
    ok_law (fun_mk (st := sLaw) lZZ cZZ kZZ) DW DEF DEO DTO DCP DRW DLP DLT DLK DLI DLS DLO DLW DLA DLD DLG DLC DLR DLB DTD DLE DWS DMS DLX FGI bGI GC FGE bGE aGE iGE neG moG IC FGT bGT mGT i0 i1 i2 EB (PySem.W.mg_of X G ogB) xNB eF0B eF1B eNB kGB (kitOne_ty (by decide +kernel) veB) EP (PySem.W.mg_of X G ogP) xNP eF0P eNP kGP (PySem.W.mg_of X G gE) (PySem.W.mg_none_of X G zdict) (PySem.W.mg_none_of X G zrepr) (PySem.W.mg_none_of X G zValueError) T⟩
theorem walk {l : PySem.W.OpenLaw} {q : Program} {loose : List Str} {XP : (Str → Option Value) → Heap → Prop} {YP : World → Heap → Prop} {d : DefRec} {K : Params → PySem.W.Frag} (hn : l.most = some 63) (hdf : d.params.defaults = [])
    (hY : ∀ (w : World) (h : Heap), YP w h → (K w.params).In h)
    (F : ∀ (w : World) (mg : Str → Option Value) (fa : Addr) (h : Heap), (K w.params).In h → h.Ns mainGlobals mg → mg d.name = some (.ref fa) →
      ∃ fd : FuncData, (∀ (s : Shared) (u : Value), BindsTo s fd ⟨[u], []⟩ [("script", u)]) ∧ ∀ base : Heap, (K w.params).In base → base.Ns mainGlobals mg → FnG l.prog w (K w.params) mg base 7 fa fd ["script"] (spP (K w.params) CLaw)) :
    PySem.W.WalkO q loose XP YP l.row.toRowW d [] (fun f vs => PySem.call f vs) :=
  walk_goes (m := 63) (n := 7) (x := "script") (S := fun w => spP (K w.params) CLaw) hn (by rw [sizeLine_eq]; decide) hdf ⟨rfl, by decide, by decide⟩ hY F fun w H a ns hl _ hS => ⟨H, [.scr ns], fun d => d = .bl true, ⟨ns, rfl, hl, rfl⟩, Same.refl H, .cons (.scr fun H' e => Same.sql e hS) .nil, fun B' H' v d g hd rv => by
    subst hd
    cases rv
    rfl⟩

end G
open PySem PySem.W PyProof.Rows in
set_option maxRecDepth 100000 in
set_option maxHeartbeats 0 in
theorem PySem.Challenge.cw_gapsproved_k10_graphs_holds : PySem.Challenge.rw_gapsproved_k10_graphs.Holds := by
  w_on; o_law; k_head; (case hw => w_witness2)
  k_fill
  refine G.walk (l := PySem.Challenge.rw_gapsproved_k10_graphs) rfl rfl (fun w h Y => PySem.W.kIn_of Y) ?F
  case F =>
    intro w mg fa h KX GX hmg
    refine' G.all_mk KX GX hmg ?aW ?lW ?cW ?kW ?aEF ?lEF ?cEF ?kEF ?aEO ?lEO ?cEO ?kEO ?aTO ?lTO ?cTO ?kTO ?aCP ?lCP ?cCP ?kCP ?aRW ?lRW ?cRW ?kRW ?aLP ?lLP ?cLP ?kLP ?aLT ?lLT ?cLT ?kLT ?aLK ?lLK ?cLK ?kLK ?aLI ?lLI ?cLI ?kLI ?aLS ?lLS ?cLS ?kLS ?aLO ?lLO ?cLO ?kLO ?aLW ?lLW ?cLW ?kLW ?aLA ?lLA ?cLA ?kLA ?aLD ?lLD ?cLD ?kLD ?aLG ?lLG ?cLG ?kLG ?aLC ?lLC ?cLC ?kLC ?aLR ?lLR ?cLR ?kLR ?aLB ?lLB ?cLB ?kLB ?aTD ?lTD ?cTD ?kTD ?aLE ?lLE ?cLE ?kLE ?aWS ?lWS ?cWS ?kWS ?aMS ?lMS ?cMS ?kMS ?aLX ?lLX ?cLX ?kLX ?gCG ?pgG ?hdG ?poG ?saG ?mkG ?kcG ?n0G ?n1G ?n2G ?n3G ?n4G ?aGI ?iGI ?lGI ?cGI ?kGI ?aGE ?iGE ?lGE ?cGE ?kGE ?aGT ?iGT ?lGT ?cGT ?kGT ?aZZ ?lZZ ?cZZ ?kZZ ?ogB ?oc_B ?ovB ?aB ?iB ?lB ?cB ?kB ?okB ?obB ?otB ?osB ?tyB ?veB ?meB ?suB ?ooB ?oeB ?od_B ?ofB ?omB ?opB ?ozB ?no0B ?no1B ?sNB ?egB ?ekB ?edB ?ogP ?oc_P ?ovP ?aP ?iP ?lP ?cP ?kP ?okP ?obP ?otP ?osP ?tyP ?veP ?meP ?suP ?ooP ?oeP ?od_P ?ofP ?omP ?opP ?ozP ?no0P ?sNP ?egP ?ekP ?edP ?gE ?hE ?tE ?en ?et ?eaB ?emB ?sEB ?eaP ?emP ?sEP ?m0 ?m1 ?m2 ?neG ?clG ?moG ?tyG ?suG ?zlen ?zint ?zrange ?zlist ?ztuple ?zsorted ?zsum ?zall ?zany ?zmin ?zmax ?zisinstance ?zbool ?zstr ?zenumerate ?zdict ?zrepr ?zValueError
    (case aW => k_is)
    (case lW => k_is)
    (case cW => k_is)
    (case kW => k_is)
    (case aEF => k_is)
    (case lEF => k_is)
    (case cEF => k_is)
    (case kEF => k_is)
    (case aEO => k_is)
    (case lEO => k_is)
    (case cEO => k_is)
    (case kEO => k_is)
    (case aTO => k_is)
    (case lTO => k_is)
    (case cTO => k_is)
    (case kTO => k_is)
    (case aCP => k_is)
    (case lCP => k_is)
    (case cCP => k_is)
    (case kCP => k_is)
    (case aRW => k_is)
    (case lRW => k_is)
    (case cRW => k_is)
    (case kRW => k_is)
    (case aLP => k_is)
    (case lLP => k_is)
    (case cLP => k_is)
    (case kLP => k_is)
    (case aLT => k_is)
    (case lLT => k_is)
    (case cLT => k_is)
    (case kLT => k_is)
    (case aLK => k_is)
    (case lLK => k_is)
    (case cLK => k_is)
    (case kLK => k_is)
    (case aLI => k_is)
    (case lLI => k_is)
    (case cLI => k_is)
    (case kLI => k_is)
    (case aLS => k_is)
    (case lLS => k_is)
    (case cLS => k_is)
    (case kLS => k_is)
    (case aLO => k_is)
    (case lLO => k_is)
    (case cLO => k_is)
    (case kLO => k_is)
    (case aLW => k_is)
    (case lLW => k_is)
    (case cLW => k_is)
    (case kLW => k_is)
    (case aLA => k_is)
    (case lLA => k_is)
    (case cLA => k_is)
    (case kLA => k_is)
    (case aLD => k_is)
    (case lLD => k_is)
    (case cLD => k_is)
    (case kLD => k_is)
    (case aLG => k_is)
    (case lLG => k_is)
    (case cLG => k_is)
    (case kLG => k_is)
    (case aLC => k_is)
    (case lLC => k_is)
    (case cLC => k_is)
    (case kLC => k_is)
    (case aLR => k_is)
    (case lLR => k_is)
    (case cLR => k_is)
    (case kLR => k_is)
    (case aLB => k_is)
    (case lLB => k_is)
    (case cLB => k_is)
    (case kLB => k_is)
    (case aTD => k_is)
    (case lTD => k_is)
    (case cTD => k_is)
    (case kTD => k_is)
    (case aLE => k_is)
    (case lLE => k_is)
    (case cLE => k_is)
    (case kLE => k_is)
    (case aWS => k_is)
    (case lWS => k_is)
    (case cWS => k_is)
    (case kWS => k_is)
    (case aMS => k_is)
    (case lMS => k_is)
    (case cMS => k_is)
    (case kMS => k_is)
    (case aLX => k_is)
    (case lLX => k_is)
    (case cLX => k_is)
    (case kLX => k_is)
    (case gCG => k_is)
    (case pgG => k_is)
    (case hdG => k_is)
    (case poG => k_is)
    (case saG => k_is)
    (case mkG => k_is)
    (case kcG => k_is)
    (case n0G => k_is)
    (case n1G => k_is)
    (case n2G => k_is)
    (case n3G => k_is)
    (case n4G => k_is)
    (case aGI => k_is)
    (case iGI => k_is)
    (case lGI => k_is)
    (case cGI => k_is)
    (case kGI => k_is)
    (case aGE => k_is)
    (case iGE => k_is)
    (case lGE => k_is)
    (case cGE => k_is)
    (case kGE => k_is)
    (case aGT => k_is)
    (case iGT => k_is)
    (case lGT => k_is)
    (case cGT => k_is)
    (case kGT => k_is)
    (case aZZ => k_is)
    (case lZZ => k_is)
    (case cZZ => k_is)
    (case kZZ => k_is)
    (case ogB => k_is)
    (case oc_B => k_is)
    (case ovB => first | rfl | decide +kernel)
    (case aB => k_is)
    (case iB => k_is)
    (case lB => k_is)
    (case cB => k_is)
    (case kB => k_is)
    (case okB => k_is)
    (case obB => k_is)
    (case otB => k_is)
    (case osB => k_is)
    (case tyB => k_is)
    (case veB => k_is)
    (case meB => k_is)
    (case suB => ks_is)
    (case ooB => k_is)
    (case oeB => k_is)
    (case od_B => k_is)
    (case ofB => rfl)
    (case omB => first | rfl | decide +kernel)
    (case opB => first | rfl | decide +kernel)
    (case ozB => k_is)
    (case no0B => k_is)
    (case no1B => k_is)
    (case sNB => k_is)
    (case egB => k_is)
    (case ekB => k_is)
    (case edB => k_is)
    (case ogP => k_is)
    (case oc_P => k_is)
    (case ovP => first | rfl | decide +kernel)
    (case aP => k_is)
    (case iP => k_is)
    (case lP => k_is)
    (case cP => k_is)
    (case kP => k_is)
    (case okP => k_is)
    (case obP => k_is)
    (case otP => k_is)
    (case osP => k_is)
    (case tyP => k_is)
    (case veP => k_is)
    (case meP => k_is)
    (case suP => ks_is)
    (case ooP => k_is)
    (case oeP => k_is)
    (case od_P => k_is)
    (case ofP => rfl)
    (case omP => first | rfl | decide +kernel)
    (case opP => first | rfl | decide +kernel)
    (case ozP => k_is)
    (case no0P => k_is)
    (case sNP => k_is)
    (case egP => k_is)
    (case ekP => k_is)
    (case edP => k_is)
    (case gE => k_is)
    (case hE => k_is)
    (case tE => k_is)
    (case en => k_is)
    (case et => k_is)
    (case eaB => k_is)
    (case emB => k_is)
    (case sEB => k_is)
    (case eaP => k_is)
    (case emP => k_is)
    (case sEP => k_is)
    (case m0 => k_is)
    (case m1 => k_is)
    (case m2 => k_is)
    (case neG => k_is)
    (case clG => k_is)
    (case moG => k_is)
    (case tyG => k_is)
    (case suG => k_is)
    (case zlen => k_is)
    (case zint => k_is)
    (case zrange => k_is)
    (case zlist => k_is)
    (case ztuple => k_is)
    (case zsorted => k_is)
    (case zsum => k_is)
    (case zall => k_is)
    (case zany => k_is)
    (case zmin => k_is)
    (case zmax => k_is)
    (case zisinstance => k_is)
    (case zbool => k_is)
    (case zstr => k_is)
    (case zenumerate => k_is)
    (case zdict => k_is)
    (case zrepr => k_is)
    (case zValueError => k_is)


