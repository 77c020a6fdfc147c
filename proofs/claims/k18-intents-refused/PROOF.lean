import PyProof.Rows.All
import Wide.All
import OpenK.AllK
import Wide.FinOn
import HandS.ForExc
import HandS.Comp
import HandS.Wide
import HandS.Flow
import HandS.Exc
import HandS.TupMul
import HandS.TupLe
import HandS.Deep
import HandS.Defaults
import HandS.MakeKwOnly
import HandS.IsInst
import HandS.TupAny
import KE.KUnpackStar
import HandS.Dict
import HandS.ExcIs
import HandS.ExcValue
import HandS.SetFor
import HandS.Words
import HandS.WordsExc
import HandS.Ends
import HandS.Head0
import HandS.Head1
import HandS.Head2
import HandS.HeadEnd
import HandS.HeadHook1
import HandS.HeadHook2
import HandS.HeadHook3
import HandS.HeadHook4
import HandS.List
import HandS.Call
import PyProof.Rows.StrBoot
import PySem.Challenge.RW_tintroads_k18_intents_refused
set_option Elab.async false
set_option linter.all false
set_option maxRecDepth 100000
namespace TT
open PySem PySem.Spec L2

/-! ### data -/
inductive D where
  | non | bl (b : Bool) | int (i : Int) | str (s : Str) | ty (n : String)
  | tup (xs : List D) | lst (xs : List D) | dic (kvs : List (List Int × D)) | obj (C : Str) (fs : List (Str × D))
  | town | scr | err (c : Str)
instance : Inhabited D := ⟨.non⟩

/-- v: a value whose every part stands still; own: a fresh list or dict that nobody else holds; bp: a list or dict that a caller lent; bl: one's own, lent for a moment; ins: an instance that is being made -/
inductive DV where
  | v (d : D) | own (d : D) | bp (d : D) | bl (d : D) | ins (a : Addr) (c : Str) (fs : List (Str × D))
instance : Inhabited DV := ⟨.v .non⟩

structure Wd where
  F : Hp
  tw : Option (Addr × Addr)

/-- a caught error of the class cls at a -/
def ErrX (cls : Value) (d : Option Addr) (a : Addr) : HO := .ext fun h => ∃ (oe : Obj) (vs : Array Value), h.get? a = some oe ∧ Zc cls d oe ∧ oe.data = .fields vs
def keyOf (k : List Int) : List Key := k.map Sum.inl

section
variable (K : PySem.W.Frag) (mg : Str → Option Value)
mutual
inductive Rep (W : Wd) : V → D → Prop
  | non : Rep W .non .non
  | bl (b : Bool) : Rep W (.bl b) (.bl b)
  | int (i : Int) : Rep W (.int i) (.int i)
  | str (x : Str) : Rep W (.str x) (.str x)
  | ty (n : String) : Rep W (.ty n) (.ty n)
  | tup {a : Addr} {xs : List V} {ds : List D} : SqT K W.F a xs → RepL W xs ds → Rep W (.ref a) (.tup ds)
  | lst {a : Addr} {xs : List V} {ds : List D} : W.F a = some (.lst xs) → RepL W xs ds → Rep W (.ref a) (.lst ds)
  | dic {a : Addr} {xs : List (List Key × V)} {ds : List (List Int × D)} : W.F a = some (.dT xs) → RepK W xs ds → Rep W (.ref a) (.dic ds)
  | obj {a C dx : Addr} {c : Str} {xs : List (Str × V)} {ds : List (Str × D)} : W.F a = some (.ins C dx xs) → mg c = some (.ref C) → RepF W xs ds → Rep W (.ref a) (.obj c ds)
  | town {a b : Addr} : W.tw = some (a, b) → Rep W (.ref a) .town
  | scr {a : Addr} {ns : List Int} : SqL K W.F a (ns.map V.int) → ns.length ≤ 63 → Rep W (.ref a) .scr
  | err {a C : Addr} {c : Str} : W.F a = some (ErrX (.ref C) none a) → mg c = some (.ref C) → Rep W (.ref a) (.err c)
inductive RepL (W : Wd) : List V → List D → Prop
  | nil : RepL W [] []
  | cons {v : V} {vs : List V} {d : D} {ds : List D} : Rep W v d → RepL W vs ds → RepL W (v :: vs) (d :: ds)
inductive RepK (W : Wd) : List (List Key × V) → List (List Int × D) → Prop
  | nil : RepK W [] []
  | cons {k : List Int} {v : V} {vs : List (List Key × V)} {d : D} {ds : List (List Int × D)} : Rep W v d → RepK W vs ds → RepK W ((keyOf k, v) :: vs) ((k, d) :: ds)
inductive RepF (W : Wd) : List (Str × V) → List (Str × D) → Prop
  | nil : RepF W [] []
  | cons {k : Str} {v : V} {vs : List (Str × V)} {d : D} {ds : List (Str × D)} : Rep W v d → RepF W vs ds → RepF W ((k, v) :: vs) ((k, d) :: ds)
end
end

structure Wd.le (W W' : Wd) : Prop where
  F : Same W.F W'.F
  tw : ∀ t, W.tw = some t → W'.tw = some t
theorem Wd.le.refl (W : Wd) : W.le W := ⟨Same.refl _, fun _ h => h⟩
theorem Wd.le.trans {A B C : Wd} (a : A.le B) (b : B.le C) : A.le C := ⟨a.F.trans b.F, fun t h => b.tw t (a.tw t h)⟩

theorem Same.seqT {K : PySem.W.Frag} {H H' : Hp} {a : Addr} {xs : List V} (e : Same H H') (h : SqT K H a xs) : SqT K H' a xs := by
  rcases h with (h | ⟨o, h⟩) | h
  · exact .inl (.inl (e _ _ h))
  · exact .inl (.inr ⟨o, e _ _ h⟩)
  · exact .inr h

section
variable {K : PySem.W.Frag} {mg : Str → Option Value} {W W' : Wd}
mutual
theorem Rep.mono (hF : Same W.F W'.F) (ht : ∀ t, W.tw = some t → W'.tw = some t) : ∀ {v : V} {d : D}, Rep K mg W v d → Rep K mg W' v d
  | _, _, .non => .non
  | _, _, .bl b => .bl b
  | _, _, .int i => .int i
  | _, _, .str x => .str x
  | _, _, .ty n => .ty n
  | _, _, .tup h r => .tup (Same.seqT hF h) (RepL.mono hF ht r)
  | _, _, .lst h r => .lst (hF _ _ h) (RepL.mono hF ht r)
  | _, _, .scr h r => .scr (hF.seq h) r
  | _, _, .err h m => .err (hF _ _ h) m
  | _, _, .dic h r => .dic (hF _ _ h) (RepK.mono hF ht r)
  | _, _, .obj h m r => .obj (hF _ _ h) m (RepF.mono hF ht r)
  | _, _, .town h => .town (ht _ h)
theorem RepL.mono (hF : Same W.F W'.F) (ht : ∀ t, W.tw = some t → W'.tw = some t) : ∀ {v : List V} {d : List D}, RepL K mg W v d → RepL K mg W' v d
  | _, _, .nil => .nil
  | _, _, .cons h r => .cons (Rep.mono hF ht h) (RepL.mono hF ht r)
theorem RepK.mono (hF : Same W.F W'.F) (ht : ∀ t, W.tw = some t → W'.tw = some t) : ∀ {v : List (List Key × V)} {d : List (List Int × D)}, RepK K mg W v d → RepK K mg W' v d
  | _, _, .nil => .nil
  | _, _, .cons h r => .cons (Rep.mono hF ht h) (RepK.mono hF ht r)
theorem RepF.mono (hF : Same W.F W'.F) (ht : ∀ t, W.tw = some t → W'.tw = some t) : ∀ {v : List (Str × V)} {d : List (Str × D)}, RepF K mg W v d → RepF K mg W' v d
  | _, _, .nil => .nil
  | _, _, .cons h r => .cons (Rep.mono hF ht h) (RepF.mono hF ht r)
end
theorem Rep.le (l : W.le W') {v : V} {d : D} (r : Rep K mg W v d) : Rep K mg W' v d := r.mono l.F l.tw
theorem RepL.le (l : W.le W') {v : List V} {d : List D} (r : RepL K mg W v d) : RepL K mg W' v d := r.mono l.F l.tw
theorem RepK.le (l : W.le W') {v : List (List Key × V)} {d : List (List Int × D)} (r : RepK K mg W v d) : RepK K mg W' v d := r.mono l.F l.tw
theorem RepF.le (l : W.le W') {v : List (Str × V)} {d : List (Str × D)} (r : RepF K mg W v d) : RepF K mg W' v d := r.mono l.F l.tw
theorem RepL.length : ∀ {v : List V} {d : List D}, RepL K mg W v d → v.length = d.length
  | _, _, .nil => rfl
  | _, _, .cons _ r => congrArg (· + 1) (RepL.length r)
theorem RepL.append : ∀ {v v' : List V} {d d' : List D}, RepL K mg W v d → RepL K mg W v' d' → RepL K mg W (v ++ v') (d ++ d')
  | _, _, _, _, .nil, s => s
  | _, _, _, _, .cons h r, s => .cons h (RepL.append r s)
theorem RepL.get : ∀ {v : List V} {d : List D} {i : Nat} {x : D}, RepL K mg W v d → d[i]? = some x → ∃ u, v[i]? = some u ∧ Rep K mg W u x
  | _, _, _, _, .nil, e => by simp at e
  | _, _, 0, _, .cons h _, e => by simp at e; subst e; exact ⟨_, rfl, h⟩
  | _, _, i + 1, x, .cons _ r, e => by
    obtain ⟨u, h1, h2⟩ := RepL.get (i := i) (x := x) r (by simpa using e)
    exact ⟨u, by simpa using h1, h2⟩
theorem RepL.get' : ∀ {v : List V} {d : List D} {i : Nat} {u : V}, RepL K mg W v d → v[i]? = some u → ∃ x, d[i]? = some x ∧ Rep K mg W u x
  | _, _, _, _, .nil, e => by simp at e
  | _, _, 0, _, .cons h _, e => by simp at e; subst e; exact ⟨_, rfl, h⟩
  | _, _, i + 1, x, .cons _ r, e => by
    obtain ⟨u, h1, h2⟩ := RepL.get' (i := i) (u := x) r (by simpa using e)
    exact ⟨u, by simpa using h1, h2⟩
theorem RepL.set {x : V} {y : D} (h : Rep K mg W x y) : ∀ {v : List V} {d : List D} (i : Nat), RepL K mg W v d → RepL K mg W (v.set i x) (d.set i y)
  | _, _, _, .nil => .nil
  | _, _, 0, .cons _ r => .cons h r
  | _, _, i + 1, .cons q r => .cons q (RepL.set h i r)
theorem RepL.take : ∀ {v : List V} {d : List D} (n : Nat), RepL K mg W v d → RepL K mg W (v.take n) (d.take n)
  | _, _, 0, _ => .nil
  | _, _, _ + 1, .nil => .nil
  | _, _, n + 1, .cons h r => .cons h (RepL.take n r)
theorem RepL.drop : ∀ {v : List V} {d : List D} (n : Nat), RepL K mg W v d → RepL K mg W (v.drop n) (d.drop n)
  | _, _, 0, r => r
  | _, _, _ + 1, .nil => .nil
  | _, _, n + 1, .cons _ r => RepL.drop n r
theorem RepF.lookup : ∀ {v : List (Str × V)} {d : List (Str × D)} {f : Str} {x : D}, RepF K mg W v d → d.lookup f = some x → ∃ u, v.lookup f = some u ∧ Rep K mg W u x
  | _, _, _, _, .nil, e => by simp at e
  | _, _, f, x, .cons (k := k) h r, e => by
    by_cases q : f = k
    · subst q
      simp at e ⊢
      subst e
      exact h
    · have hb : (f == k) = false := beq_eq_false_iff_ne.mpr q
      simp only [List.lookup, hb] at e ⊢
      exact RepF.lookup r e
theorem RepF.none : ∀ {v : List (Str × V)} {d : List (Str × D)} {f : Str}, RepF K mg W v d → d.lookup f = Option.none → v.lookup f = Option.none
  | _, _, _, .nil, e => rfl
  | _, _, f, .cons (k := k) h r, e => by
    by_cases q : f = k
    · subst q
      simp at e
    · have hb : (f == k) = false := beq_eq_false_iff_ne.mpr q
      simp only [List.lookup, hb] at e ⊢
      exact RepF.none r e
theorem RepF.length : ∀ {v : List (Str × V)} {d : List (Str × D)}, RepF K mg W v d → v.length = d.length
  | _, _, .nil => rfl
  | _, _, .cons _ r => congrArg (· + 1) (RepF.length r)
end

/-! ### the town: a list of the row of cells and a count -/
def TownAt (H : Hp) (T R : Addr) : Prop := ∃ (ns : List Int) (n : Int), H T = some (.lst [.ref R, .int n]) ∧ H R = some (.lst (ns.map V.int)) ∧ 0 ≤ n ∧ 0 < ns.length ∧ ns.length ≤ 64

/-- the world w over the heap H -/
structure WOk (W : Wd) (H : Hp) : Prop where
  sub : Same W.F H
  town : ∀ T R, W.tw = some (T, R) → T ≠ R ∧ W.F T = none ∧ W.F R = none ∧ TownAt H T R

def Wd.ofTown (W : Wd) (a : Addr) : Prop := ∃ T R, W.tw = some (T, R) ∧ (a = T ∨ a = R)
theorem WOk.townSome {W : Wd} {H : Hp} (k : WOk W H) {a : Addr} (h : W.ofTown a) : ∃ o, H a = some o := by
  obtain ⟨T, R, e, h⟩ := h
  obtain ⟨_, _, _, ns, n, h1, h2, _⟩ := k.town T R e
  rcases h with rfl | rfl
  · exact ⟨_, h1⟩
  · exact ⟨_, h2⟩
theorem WOk.townF {W : Wd} {H : Hp} (k : WOk W H) {a : Addr} (h : W.ofTown a) : W.F a = none := by
  obtain ⟨T, R, e, h⟩ := h
  obtain ⟨_, h1, h2, _⟩ := k.town T R e
  rcases h with rfl | rfl
  · exact h1
  · exact h2

/-- from (W, H) on to (W', H'): nothing of H is changed but the town; what stands still is of before or new -/
structure Stp (W : Wd) (H : Hp) (W' : Wd) (H' : Hp) : Prop where
  le : W.le W'
  eff : ∀ a o, H a = some o → ¬ W.ofTown a → H' a = some o
  new : ∀ a, W'.F a ≠ none → W.F a ≠ none ∨ H a = none
  tnew : ∀ a, W'.ofTown a → W.ofTown a ∨ H a = none
  ok : WOk W' H'
theorem Stp.refl {W : Wd} {H : Hp} (k : WOk W H) : Stp W H W H := ⟨.refl _, fun _ _ h _ => h, fun _ h => .inl h, fun _ h => .inl h, k⟩
theorem Wd.le.ofTown {W W' : Wd} (l : W.le W') {a : Addr} (h : W.ofTown a) : W'.ofTown a := by
  obtain ⟨T, R, e, h⟩ := h
  exact ⟨T, R, l.tw _ e, h⟩
/-- what is new to the later heap was new to the earlier -/
theorem Stp.fresh {W W' : Wd} {H H' : Hp} (s : Stp W H W' H') {a : Addr} (h : H' a = none) : H a = none := by
  cases q : H a with
  | none => rfl
  | some o =>
    by_cases t : W.ofTown a
    · obtain ⟨o', e⟩ := s.ok.townSome (s.le.ofTown t)
      rw [h] at e; cases e
    · rw [s.eff a o q t] at h; cases h
theorem Stp.trans {W W1 W2 : Wd} {H H1 H2 : Hp} (a : Stp W H W1 H1) (b : Stp W1 H1 W2 H2) : Stp W H W2 H2 where
  le := a.le.trans b.le
  eff := fun c o h t => by
    refine b.eff c o (a.eff c o h t) fun t1 => ?_
    rcases a.tnew c t1 with q | q
    · exact t q
    · rw [h] at q; cases q
  new := fun c h => by
    rcases b.new c h with q | q
    · exact a.new c q
    · exact .inr (a.fresh q)
  tnew := fun c h => by
    rcases b.tnew c h with q | q
    · exact a.tnew c q
    · exact .inr (a.fresh q)
  ok := b.ok

/-- a new object, that stands still from now on -/
theorem Stp.laid {W : Wd} {H : Hp} (k : WOk W H) {p : Addr} (hp : H p = none) (o : HO) : Stp W H { W with F := upd W.F p o } (upd H p o) := by
  have hF : W.F p = none := k.sub.free hp
  have nt : ¬ W.ofTown p := fun t => by
    obtain ⟨o', e⟩ := k.townSome t
    rw [hp] at e; cases e
  refine ⟨⟨fun b u e => by show upd W.F p o b = _; rw [upd_ne (ne_of_none e hF)]; exact e, fun _ h => h⟩, fun a u e _ => by rw [upd_ne (ne_of_none e hp)]; exact e, fun a h => ?_, fun a h => .inl h, ⟨fun b u e => ?_, fun T R e => ?_⟩⟩
  · by_cases q : a = p
    · subst q; exact .inr hp
    · have h : upd W.F p o a ≠ none := h
      rw [upd_ne q] at h
      exact .inl h
  · have e : upd W.F p o b = some u := e
    by_cases q : b = p
    · subst q
      rw [upd_same] at e ⊢
      exact e
    · rw [upd_ne q] at e ⊢
      exact k.sub b u e
  · obtain ⟨h0, h1, h2, ns, n, h5, h6, h7⟩ := k.town T R e
    have nT : T ≠ p := fun z => nt ⟨T, R, e, .inl z.symm⟩
    have nR : R ≠ p := fun z => nt ⟨T, R, e, .inr z.symm⟩
    exact ⟨h0, by show upd W.F p o T = _; rw [upd_ne nT]; exact h1, by show upd W.F p o R = _; rw [upd_ne nR]; exact h2, ns, n, by rw [upd_ne nT]; exact h5, by rw [upd_ne nR]; exact h6, h7⟩
/-- an object that nobody speaks of is laid or changed -/
theorem WOk.upd {W : Wd} {H : Hp} (k : WOk W H) {p : Addr} (hF : W.F p = none) (nt : ¬ W.ofTown p) (o : HO) : WOk W (upd H p o) := by
  refine ⟨fun b u e => ?_, fun T R e => ?_⟩
  · rw [upd_ne (ne_of_none e hF)]; exact k.sub b u e
  · obtain ⟨h0, h1, h2, ns, n, h5, h6, h7⟩ := k.town T R e
    have nT : T ≠ p := fun z => nt ⟨T, R, e, .inl z.symm⟩
    have nR : R ≠ p := fun z => nt ⟨T, R, e, .inr z.symm⟩
    exact ⟨h0, h1, h2, ns, n, by rw [upd_ne nT]; exact h5, by rw [upd_ne nR]; exact h6, h7⟩
theorem WOk.notTown {W : Wd} {H : Hp} (k : WOk W H) {p : Addr} (hp : H p = none) : ¬ W.ofTown p := fun t => by
  obtain ⟨o', e⟩ := k.townSome t
  rw [hp] at e; cases e
/-- a new object, that does not stand still -/
theorem Stp.laidOwn {W : Wd} {H : Hp} (k : WOk W H) {p : Addr} (hp : H p = none) (o : HO) : Stp W H W (upd H p o) :=
  ⟨.refl _, fun a u e _ => by rw [upd_ne (ne_of_none e hp)]; exact e, fun a h => .inl h, fun a h => .inl h, k.upd (k.sub.free hp) (k.notTown hp) o⟩
/-- an object that is new since H0 is changed -/
theorem Stp.write {W0 W : Wd} {H0 H : Hp} (s : Stp W0 H0 W H) {p : Addr} (h0 : H0 p = none) (hF : W.F p = none) (nt : ¬ W.ofTown p) (o : HO) : Stp W0 H0 W (upd H p o) :=
  ⟨s.le, fun a u e t => by rw [upd_ne (ne_of_none e h0)]; exact s.eff a u e t, s.new, s.tnew, s.ok.upd hF nt o⟩
/-- what stood for itself stands still from now on -/
theorem Stp.freeze {W0 W : Wd} {H0 H : Hp} (s : Stp W0 H0 W H) {p : Addr} {o : HO} (h0 : H0 p = none) (hp : H p = some o) (hF : W.F p = none) (nt : ¬ W.ofTown p) : Stp W0 H0 { W with F := upd W.F p o } H ∧ W.le { W with F := upd W.F p o } := by
  have l : W.le { W with F := upd W.F p o } := ⟨fun b u e => by show upd W.F p o b = _; rw [upd_ne (ne_of_none e hF)]; exact e, fun _ h => h⟩
  refine ⟨⟨s.le.trans l, s.eff, fun a h => ?_, s.tnew, ⟨fun b u e => ?_, fun T R e => ?_⟩⟩, l⟩
  · by_cases q : a = p
    · subst q; exact .inr h0
    · have h : upd W.F p o a ≠ none := h
      rw [upd_ne q] at h
      exact s.new a h
  · have e : upd W.F p o b = some u := e
    by_cases q : b = p
    · subst q
      rw [upd_same] at e
      rw [hp]; exact e
    · rw [upd_ne q] at e
      exact s.ok.sub b u e
  · obtain ⟨h0', h1, h2, h5⟩ := s.ok.town T R e
    have nT : T ≠ p := fun z => nt ⟨T, R, e, .inl z.symm⟩
    have nR : R ≠ p := fun z => nt ⟨T, R, e, .inr z.symm⟩
    exact ⟨h0', by show upd W.F p o T = _; rw [upd_ne nT]; exact h1, by show upd W.F p o R = _; rw [upd_ne nR]; exact h2, h5⟩
end TT

set_option Elab.async false
set_option linter.all false
set_option maxRecDepth 100000
set_option autoImplicit false
namespace TT
open PySem PySem.Spec L2

abbrev Sl := List (Option DV)
/-- the entry of a body: its world and heap -/
abbrev N0 := Wd × Hp
/-- a def's promise over data: the arguments, what is wanted of the answer, of a refusal -/
abbrev DS := List D → (DV → Prop) → (Str → Prop) → Prop

section
variable (K : PySem.W.Frag) (mg : Str → Option Value)
def Cell (W : Wd) (H : Hp) (a : Addr) : D → Prop
  | .lst ds => ∃ xs, H a = some (.lst xs) ∧ RepL K mg W xs ds
  | .dic ds => ∃ xs, H a = some (.dT xs) ∧ RepK K mg W xs ds
  | _ => False
/-- readable: it stands still, or its top is told by the heap as it is -/
def RepT (W : Wd) (H : Hp) (v : V) (d : D) : Prop := Rep K mg W v d ∨ ∃ a, v = .ref a ∧ Cell K mg W H a d ∧ ¬ W.ofTown a
def Loose (W : Wd) (a : Addr) : Prop := W.F a = none ∧ ¬ W.ofTown a
/-- an expression's value; H1: the heap ahead of it -/
def VRep (n : N0) (H1 : Hp) (W : Wd) (H : Hp) (v : V) : DV → Prop
  | .v d => Rep K mg W v d
  | .own d => ∃ a, v = .ref a ∧ Cell K mg W H a d ∧ H1 a = none ∧ Loose W a
  | .bp d => Rep K mg W v d ∨ ∃ a, v = .ref a ∧ Cell K mg W n.2 a d ∧ ¬ n.1.ofTown a
  | .bl d => RepT K mg W H v d
  | .ins _ _ _ => False
/-- a slot's value; o: the address of what it owns -/
def SRep (n : N0) (W : Wd) (H : Hp) (v : V) (o : Option Addr) : DV → Prop
  | .v d => Rep K mg W v d
  | .own d => ∃ a, o = some a ∧ v = .ref a ∧ Cell K mg W H a d
  | .bp d => Rep K mg W v d ∨ ∃ a, v = .ref a ∧ Cell K mg W n.2 a d ∧ ¬ n.1.ofTown a
  | .bl _ => False
  | .ins a c fs => ∃ C dx xs, o = some a ∧ v = .ref a ∧ H a = some (.ins C dx xs) ∧ mg c = some (.ref C) ∧ RepF K mg W xs fs
structure Sto (n : N0) (W : Wd) (H : Hp) (σ : St) (δ : Sl) : Prop where
  len : σ.length = δ.length
  own : ∃ ow : Nat → Option Addr, (∀ i dv, δ[i]? = some (some dv) → ∃ v, σ[i]? = some (some v) ∧ SRep K mg n W H v (ow i) dv) ∧
    (∀ i j a, ow i = some a → ow j = some a → i = j) ∧ ∀ i a, ow i = some a → n.2 a = none ∧ H a ≠ none ∧ Loose W a
end

section
variable {K : PySem.W.Frag} {mg : Str → Option Value} {n : N0} {W W' : Wd} {H H' H1 : Hp} {σ : St} {δ : Sl} {v : V} {d : D} {dv : DV} {a : Addr}
theorem Cell.le (l : W.le W') (h : H' a = H a) : ∀ {d : D}, Cell K mg W H a d → Cell K mg W' H' a d
  | .lst ds, ⟨xs, e, r⟩ => ⟨xs, by rw [h]; exact e, r.le l⟩
  | .dic ds, ⟨xs, e, r⟩ => ⟨xs, by rw [h]; exact e, r.le l⟩
theorem Cell.some : ∀ {d : D}, Cell K mg W H a d → ∃ o, H a = Option.some o
  | .lst ds, ⟨xs, e, r⟩ => ⟨_, e⟩
  | .dic ds, ⟨xs, e, r⟩ => ⟨_, e⟩
theorem Stp.at (s : Stp W H W' H') (h : ∃ o, H a = some o) (t : ¬ W.ofTown a) : H' a = H a := by
  obtain ⟨o, e⟩ := h
  rw [e]; exact s.eff a o e t
theorem Stp.notTown (s : Stp W H W' H') (h : ∃ o, H a = some o) (t : ¬ W.ofTown a) : ¬ W'.ofTown a := fun q => by
  rcases s.tnew a q with z | z
  · exact t z
  · obtain ⟨o, e⟩ := h
    rw [e] at z; cases z
theorem Stp.loose (s : Stp W H W' H') (h : ∃ o, H a = some o) (l : Loose W a) : Loose W' a := by
  refine ⟨?_, s.notTown h l.2⟩
  cases q : W'.F a with
  | none => rfl
  | some o =>
    rcases s.new a (by rw [q]; simp) with z | z
    · exact absurd l.1 z
    · obtain ⟨o, e⟩ := h
      rw [e] at z; cases z
theorem RepT.step (s : Stp W H W' H') (r : RepT K mg W H v d) : RepT K mg W' H' v d := by
  rcases r with r | ⟨a, e, c, t⟩
  · exact .inl (r.le s.le)
  · exact .inr ⟨a, e, c.le s.le (s.at c.some t), s.notTown c.some t⟩
theorem SRep.step (s : Stp W H W' H') {o : Option Addr} (ho : ∀ a, o = some a → Loose W a) : ∀ {dv : DV}, SRep K mg n W H v o dv → SRep K mg n W' H' v o dv
  | .v d, r => Rep.le s.le r
  | .own d, ⟨a, e, ev, c⟩ => ⟨a, e, ev, c.le s.le (s.at c.some (ho a e).2)⟩
  | .bp d, r => by
    rcases r with r | ⟨a, e, c, t⟩
    · exact .inl (Rep.le s.le r)
    · exact .inr ⟨a, e, c.le s.le rfl, t⟩
  | .ins a c fs, ⟨C, dx, xs, e, ev, h, m, r⟩ => ⟨C, dx, xs, e, ev, by rw [s.at ⟨_, h⟩ (ho a e).2]; exact h, m, r.le s.le⟩
theorem Sto.step (t : Sto K mg n W H σ δ) (s : Stp W H W' H') : Sto K mg n W' H' σ δ := by
  obtain ⟨l, ow, h1, h2, h3⟩ := t
  have th : ∀ i a, ow i = some a → ∃ o, H a = some o := fun i a e => by
    cases q : H a with
    | none => exact absurd q (h3 i a e).2.1
    | some o => exact ⟨o, rfl⟩
  refine ⟨l, ow, fun i dv e => ?_, h2, fun i a e => ?_⟩
  · obtain ⟨v, e1, r⟩ := h1 i dv e
    exact ⟨v, e1, r.step s fun a e => (h3 i a e).2.2⟩
  · obtain ⟨a1, a2, a3⟩ := h3 i a e
    exact ⟨a1, by rw [s.at (th i a e) a3.2]; exact a2, s.loose (th i a e) a3⟩
/-- a value is readable -/
theorem VRep.read {n : N0} {W0 : Wd} (s0 : Stp n.1 n.2 W H) : ∀ {dv : DV}, VRep K mg n H1 W H v dv → (∀ a c fs, dv ≠ .ins a c fs) → ∃ d, (dv = .v d ∨ dv = .own d ∨ dv = .bp d ∨ dv = .bl d) ∧ RepT K mg W H v d
  | .v d, r, _ => ⟨d, .inl rfl, .inl r⟩
  | .own d, ⟨a, e, c, _, l⟩, _ => ⟨d, .inr (.inl rfl), .inr ⟨a, e, c, l.2⟩⟩
  | .bp d, r, _ => by
    refine ⟨d, .inr (.inr (.inl rfl)), ?_⟩
    rcases r with r | ⟨a, e, c, t⟩
    · exact .inl r
    · exact .inr ⟨a, e, c.le (.refl _) (s0.at c.some t), s0.notTown c.some t⟩
  | .bl d, r, _ => ⟨d, .inr (.inr (.inr rfl)), r⟩
/-- a fresh thing is given up: it stands still -/
theorem VRep.freeze (s : Stp W H1 W' H') (h : VRep K mg n H1 W' H' v (.own d)) : ∃ W'', Stp W H1 W'' H' ∧ W'.le W'' ∧ Rep K mg W'' v d := by
  obtain ⟨a, rfl, c, h1, l⟩ := h
  obtain ⟨o, e⟩ := c.some
  obtain ⟨s2, l2⟩ := s.freeze h1 e l.1 l.2
  refine ⟨_, s2, l2, ?_⟩
  cases d with
  | lst ds =>
    obtain ⟨xs, e1, r⟩ := c
    rw [e] at e1; cases e1
    exact .lst (by show upd W'.F a _ a = _; rw [upd_same]) (r.le l2)
  | dic ds =>
    obtain ⟨xs, e1, r⟩ := c
    rw [e] at e1; cases e1
    exact .dic (by show upd W'.F a _ a = _; rw [upd_same]) (r.le l2)
  | _ => exact c.elim
end

/-! ### readings over data -/
/-- a value as an argument: m = true, it may be lent -/
def RepM (K : PySem.W.Frag) (mg : Str → Option Value) (m : Bool) (W : Wd) (H : Hp) (v : V) (d : D) : Prop := if m = true then RepT K mg W H v d else Rep K mg W v d
inductive ArgsR (K : PySem.W.Frag) (mg : Str → Option Value) (W : Wd) (H : Hp) : List Bool → List V → List D → Prop
  | nil : ArgsR K mg W H [] [] []
  | cons {m : Bool} {ms : List Bool} {v : V} {vs : List V} {d : D} {ds : List D} : RepM K mg m W H v d → ArgsR K mg W H ms vs ds → ArgsR K mg W H (m :: ms) (v :: vs) (d :: ds)

@[reducible] def coM (m : Bool) (dv : DV) (q : D → Prop) : Prop := match dv with
  | .v d => q d
  | .own d => q d
  | .bp d => if m = true then q d else False
  | .bl d => if m = true then q d else False
  | .ins _ _ _ => False

section
variable (K : PySem.W.Frag) (mg : Str → Option Value) (n : N0)
def cE (w : Sl → (DV → Prop) → Prop) : TE := fun σ H Q => ∃ W δ q, Sto K mg n W H σ δ ∧ Stp n.1 n.2 W H ∧ w δ q ∧ ∀ W' H' v dv, Stp W H W' H' → VRep K mg n H W' H' v dv → q dv → Q v H'
def cV (m : Bool) (w : Sl → (D → Prop) → Prop) : TE := fun σ H Q => ∃ W δ q, Sto K mg n W H σ δ ∧ Stp n.1 n.2 W H ∧ w δ q ∧ ∀ W' H' v d, Stp W H W' H' → RepM K mg m W' H' v d → q d → Q v H'
def cT (w : Sl → (Bool → Prop) → Prop) : TT := fun σ H Q => ∃ W δ q, Sto K mg n W H σ δ ∧ Stp n.1 n.2 W H ∧ w δ q ∧ ∀ W' H' b, Stp W H W' H' → q b → Q b H'
def cA (ms : List Bool) (w : Sl → (List D → Prop) → Prop) : TA := fun σ H Q => ∃ W δ q, Sto K mg n W H σ δ ∧ Stp n.1 n.2 W H ∧ w δ q ∧ ∀ W' H' vs ds, Stp W H W' H' → ArgsR K mg W' H' ms vs ds → q ds → Q vs H'
end

theorem PE.imp {X : Cx} {e : Expr} {t t' : TE} (h : PE X e t) (i : ∀ σ H Q, t' σ H Q → t σ H Q) : PE X e t' := ⟨fun pins s σ H Q I q => h.run pins s σ H Q I (i _ _ _ q)⟩
theorem PT.imp {X : Cx} {e : Expr} {t t' : TT} (h : PT X e t) (i : ∀ σ H Q, t' σ H Q → t σ H Q) : PT X e t' := ⟨fun pins s σ H Q I q => h.run pins s σ H Q I (i _ _ _ q)⟩
theorem PW.imp {X : Cx} {e : Expr} {t t' : TT} (h : PW X e t) (i : ∀ σ H Q, t' σ H Q → t σ H Q) : PW X e t' := ⟨fun wh pins s σ H Q I q => h.run wh pins s σ H Q I (i _ _ _ q)⟩
theorem PA.imp {X : Cx} {es : List Expr} {t t' : TA} (h : PA X es t) (i : ∀ σ H Q, t' σ H Q → t σ H Q) : PA X es t' := ⟨fun pos pins s σ H Q I q => h.run pos pins s σ H Q I (i _ _ _ q)⟩
theorem PS.imp {X : Cx} {e : Stmt} {t t' : TS} (h : PS X e t) (i : ∀ D σ H, t' D σ H → t D σ H) : PS X e t' := ⟨fun pins s σ H D I q => h.run pins s σ H D I (i _ _ _ q)⟩
theorem PSs.imp {X : Cx} {e : List Stmt} {t t' : TS} (h : PSs X e t) (i : ∀ D σ H, t' D σ H → t D σ H) : PSs X e t' := ⟨fun pins s σ H D I q => h.run pins s σ H D I (i _ _ _ q)⟩

section
variable {K : PySem.W.Frag} {mg : Str → Option Value} {W W' : Wd} {H H' : Hp} {v : V} {d : D}
theorem RepM.of {m : Bool} (r : Rep K mg W v d) : RepM K mg m W H v d := by
  unfold RepM
  split
  · exact .inl r
  · exact r
theorem RepM.read {m : Bool} (r : RepM K mg m W H v d) : RepT K mg W H v d := by
  unfold RepM at r
  split at r
  · exact r
  · exact .inl r
theorem RepM.step {m : Bool} (s : Stp W H W' H') (r : RepM K mg m W H v d) : RepM K mg m W' H' v d := by
  unfold RepM at r ⊢
  split
  · rename_i h; rw [if_pos h] at r; exact r.step s
  · rename_i h; rw [if_neg h] at r; exact r.le s.le
theorem ArgsR.step (s : Stp W H W' H') : ∀ {ms : List Bool} {vs : List V} {ds : List D}, ArgsR K mg W H ms vs ds → ArgsR K mg W' H' ms vs ds
  | _, _, _, .nil => .nil
  | _, _, _, .cons h r => .cons (h.step s) (ArgsR.step s r)
theorem ArgsR.len : ∀ {ms : List Bool} {vs : List V} {ds : List D}, ArgsR K mg W H ms vs ds → vs.length = ms.length ∧ ds.length = ms.length
  | _, _, _, .nil => ⟨rfl, rfl⟩
  | _, _, _, .cons h r => ⟨congrArg (· + 1) (ArgsR.len r).1, congrArg (· + 1) (ArgsR.len r).2⟩
theorem ArgsR.strict {k : Nat} : ∀ {vs : List V} {ds : List D}, ArgsR K mg W H (List.replicate k false) vs ds → RepL K mg W vs ds := by
  induction k with
  | zero => intro vs ds h; cases h; exact .nil
  | succ k ih => intro vs ds h; cases h with | cons h r => exact .cons h (ih r)
end

/-! ### expressions -/
section
variable {X : Cx} {n : N0} {e : Expr} {es : List Expr} {pos : Pos}
/-- the reading of a slot -/
@[reducible] def wVar (i : Nat) : Sl → (DV → Prop) → Prop := fun δ q => match δ.getD i none with
  | some (.v d) => q (.v d)
  | some (.own d) => q (.bl d)
  | some (.bp d) => q (.bp d)
  | _ => False
theorem de_var {i : Nat} {x : Str} (hN : X.N[i]? = some x) (hv : Vis X.env.scope x) (hd : (x == ("__debug__" : Str)) = false) (hcd : (x == ("__classdict__" : Str)) = false) : PE X (.Name x pos) (cE X.K X.mg n (wVar i)) := by
  refine PE.imp (pe_var hN hv hd hcd) fun σ H Q ⟨W, δ, q, st, sp, hw, k⟩ => ?_
  obtain ⟨l, ow, h1, h2, h3⟩ := st
  unfold wVar at hw
  cases hi : δ[i]? with
  | none => rw [List.getD_eq_getElem?_getD, hi] at hw; exact hw.elim
  | some o =>
    rw [List.getD_eq_getElem?_getD, hi] at hw
    cases o with
    | none => exact hw.elim
    | some dv =>
      obtain ⟨v, e1, r⟩ := h1 i dv hi
      refine ⟨v, e1, ?_⟩
      cases dv with
      | v d => exact k W H v (.v d) (.refl sp.ok) r hw
      | own d =>
        obtain ⟨a, ea, ev, c⟩ := r
        exact k W H v (.bl d) (.refl sp.ok) (.inr ⟨a, ev, c, (h3 i a ea).2.2.2⟩) hw
      | bp d => exact k W H v (.bp d) (.refl sp.ok) r hw
      | bl d => exact hw.elim
      | ins _ c fs => exact hw.elim
@[reducible] def wK (d : D) : Sl → (DV → Prop) → Prop := fun _ q => q (.v d)
/-- a constant -/
theorem de_const {v : V} {d : D} (h : PE X e (tC v)) (r : ∀ W, Rep X.K X.mg W v d) : PE X e (cE X.K X.mg n (wK d)) :=
  PE.imp h fun σ H Q ⟨W, δ, q, st, sp, hw, k⟩ => k W H v (.v d) (.refl sp.ok) (r W) hw
@[reducible] def co (m : Bool) (w : Sl → (DV → Prop) → Prop) : Sl → (D → Prop) → Prop := fun δ q => w δ fun dv => coM m dv q
theorem cV.of {w : Sl → (DV → Prop) → Prop} {m : Bool} {σ : L2.St} {H : Hp} {Q : VK} (h : cV X.K X.mg n m (co m w) σ H Q) : cE X.K X.mg n w σ H Q := by
  obtain ⟨W, δ, q, st, sp, hw, k⟩ := h
  refine ⟨W, δ, _, st, sp, hw, fun W' H' v dv s r hq => ?_⟩
  cases dv with
  | v d => exact k W' H' v d s (RepM.of r) hq
  | own d =>
    obtain ⟨W'', s2, l2, r2⟩ := VRep.freeze s r
    exact k W'' H' v d s2 (RepM.of r2) hq
  | bp d =>
    unfold coM at hq
    cases m with
    | false => simp at hq
    | true =>
      simp at hq
      obtain ⟨d', e, r'⟩ := VRep.read (n := n) (W0 := W) (sp.trans s) r (fun _ _ _ z => by cases z)
      have : d' = d := by rcases e with e | e | e | e <;> cases e; rfl
      subst this
      exact k W' H' v _ s (by unfold RepM; rw [if_pos rfl]; exact r') hq
  | bl d =>
    unfold coM at hq
    cases m with
    | false => simp at hq
    | true =>
      simp at hq
      exact k W' H' v d s (by unfold RepM; rw [if_pos rfl]; exact r) hq
  | ins _ c fs => exact r.elim
theorem dv_of {w : Sl → (DV → Prop) → Prop} (m : Bool) (h : PE X e (cE X.K X.mg n w)) : PE X e (cV X.K X.mg n m (co m w)) := PE.imp h fun σ H Q z => cV.of z
/-- arguments -/
@[reducible] def waNil : Sl → (List D → Prop) → Prop := fun _ q => q []
@[reducible] def waCons (w : Sl → (D → Prop) → Prop) (wr : Sl → (List D → Prop) → Prop) : Sl → (List D → Prop) → Prop := fun δ q => w δ fun d => wr δ fun ds => q (d :: ds)
theorem da_nil : PA X [] (cA X.K X.mg n [] waNil) := PA.imp pa_nil fun σ H Q ⟨W, δ, q, st, sp, hw, k⟩ => k W H [] [] (.refl sp.ok) .nil hw
theorem da_cons {m : Bool} {ms : List Bool} {w : Sl → (D → Prop) → Prop} {wr : Sl → (List D → Prop) → Prop} (h : PE X e (cV X.K X.mg n m w)) (hr : PA X es (cA X.K X.mg n ms wr))
    (hs : starEach (e :: es) X.env = (false, eval e X.env) :: starEach es X.env) : PA X (e :: es) (cA X.K X.mg n (m :: ms) (waCons w wr)) := by
  refine PA.imp (pa_cons h hr hs) fun σ H Q ⟨W, δ, q, st, sp, hw, k⟩ => ⟨W, δ, _, st, sp, hw, fun W1 H1 v d s r hq => ⟨W1, δ, _, st.step s, sp.trans s, hq, fun W2 H2 vs ds s2 rs hq2 => ?_⟩⟩
  exact k W2 H2 (v :: vs) (d :: ds) (s.trans s2) (.cons (r.step s2) rs) hq2
/-- displays -/
@[reducible] def wTup (wa : Sl → (List D → Prop) → Prop) : Sl → (DV → Prop) → Prop := fun δ q => wa δ fun ds => q (.v (.tup ds))
@[reducible] def wLst (wa : Sl → (List D → Prop) → Prop) : Sl → (DV → Prop) → Prop := fun δ q => wa δ fun ds => q (.own (.lst ds))
theorem de_tup {k : Nat} {x1} {wa : Sl → (List D → Prop) → Prop} (h : PA X es (cA X.K X.mg n (List.replicate k false) wa)) (hk : k ≤ 1000) : PE X (.Tuple es x1 pos) (cE X.K X.mg n (wTup wa)) := by
  refine PE.imp (pe_tup h) fun σ H Q ⟨W, δ, q, st, sp, hw, kk⟩ => ⟨W, δ, _, st, sp, hw, fun W1 H1 vs ds s r hq => ⟨?_, fun p hp => ?_⟩⟩
  · have := r.len.1
    rw [List.length_replicate] at this
    exact Nat.le_of_lt (small1000 (by omega))
  · have s2 := Stp.laid s.ok hp (.tup vs)
    refine kk _ _ (.ref p) (.v (.tup ds)) (s.trans s2) ?_ hq
    exact .tup (SqT.of (by show upd W1.F p _ p = _; rw [upd_same])) (r.strict.le s2.le)
theorem de_lst {k : Nat} {wa : Sl → (List D → Prop) → Prop} (h : PA X es (cA X.K X.mg n (List.replicate k false) wa)) (hk : k ≤ 1000) : PE X (.List es pos) (cE X.K X.mg n (wLst wa)) := by
  refine PE.imp (pe_lst h) fun σ H Q ⟨W, δ, q, st, sp, hw, kk⟩ => ⟨W, δ, _, st, sp, hw, fun W1 H1 vs ds s r hq => ⟨?_, fun p hp => ?_⟩⟩
  · have := r.len.1
    rw [List.length_replicate] at this
    exact Nat.le_of_lt (small1000 (by omega))
  · have s2 := Stp.laidOwn s.ok hp (.lst vs)
    refine kk _ _ (.ref p) (.own (.lst ds)) (s.trans s2) ?_ hq
    exact ⟨p, rfl, ⟨vs, upd_same, r.strict⟩, s.fresh hp, s.ok.sub.free hp, s.ok.notTown hp⟩
/-- two operands -/
@[reducible] def w2 (wa wb : Sl → (D → Prop) → Prop) (op : D → D → (DV → Prop) → Prop) : Sl → (DV → Prop) → Prop := fun δ q => wa δ fun x => wb δ fun y => op x y q
/-- a rule by values serves an operation over data -/
def OpS (K : PySem.W.Frag) (mg : Str → Option Value) (n : N0) (ma mb : Bool) (r : R2) (op : D → D → (DV → Prop) → Prop) : Prop :=
  ∀ W H v1 v2 d1 d2 (q : DV → Prop) (Q : VK), WOk W H → RepM K mg ma W H v1 d1 → RepM K mg mb W H v2 d2 → op d1 d2 q → (∀ W' H' v dv, Stp W H W' H' → VRep K mg n H W' H' v dv → q dv → Q v H') → r v1 v2 H Q
theorem VRep.pre {K : PySem.W.Frag} {mg : Str → Option Value} {n : N0} {W W' : Wd} {H0 H H' : Hp} {v : V} (s : ∀ a, H a = none → H0 a = none) : ∀ {dv : DV}, VRep K mg n H W' H' v dv → VRep K mg n H0 W' H' v dv
  | .v d, r => r
  | .own d, ⟨a, e, c, h, l⟩ => ⟨a, e, c, s a h, l⟩
  | .bp d, r => r
  | .bl d, r => r
theorem c2 {r : R2} {ma mb : Bool} {wa wb : Sl → (D → Prop) → Prop} {op : D → D → (DV → Prop) → Prop} (ho : OpS X.K X.mg n ma mb r op) {σ : St} {H : Hp} {Q : VK} (hh : cE X.K X.mg n (w2 wa wb op) σ H Q) : tOp r (cV X.K X.mg n ma wa) (cV X.K X.mg n mb wb) σ H Q := by
  obtain ⟨W, δ, q, st, sp, hw, k⟩ := hh
  refine ⟨W, δ, _, st, sp, hw, fun W1 H1 v1 d1 s1 r1 q1 => ⟨W1, δ, _, st.step s1, sp.trans s1, q1, fun W2 H2 v2 d2 s2 r2 q2 => ?_⟩⟩
  refine ho W2 H2 v1 v2 d1 d2 q Q s2.ok (r1.step s2) r2 q2 fun W3 H3 v dv s3 r3 q3 => ?_
  exact k W3 H3 v dv ((s1.trans s2).trans s3) (VRep.pre (W := W) (fun a h => (s1.trans s2).fresh h) r3) q3
/-- one operand -/
@[reducible] def w1 (wa : Sl → (D → Prop) → Prop) (op : D → (DV → Prop) → Prop) : Sl → (DV → Prop) → Prop := fun δ q => wa δ fun x => op x q
theorem de_1 {e1 : Expr} {r : V → Hp → VK → Prop} {ma : Bool} {wa : Sl → (D → Prop) → Prop} {op : D → (DV → Prop) → Prop} (ha : PE X e1 (cV X.K X.mg n ma wa) → PE X e (tUn r (cV X.K X.mg n ma wa)))
    (h1 : PE X e1 (cV X.K X.mg n ma wa)) (ho : ∀ W H v1 d1 (q : DV → Prop) (Q : VK), WOk W H → RepM X.K X.mg ma W H v1 d1 → op d1 q → (∀ W' H' v dv, Stp W H W' H' → VRep X.K X.mg n H W' H' v dv → q dv → Q v H') → r v1 H Q) : PE X e (cE X.K X.mg n (w1 wa op)) := by
  refine PE.imp (ha h1) fun σ H Q ⟨W, δ, q, st, sp, hw, k⟩ => ⟨W, δ, _, st, sp, hw, fun W1 H1 v1 d1 s1 r1 q1 => ?_⟩
  refine ho W1 H1 v1 d1 q Q s1.ok r1 q1 fun W3 H3 v dv s3 r3 q3 => ?_
  exact k W3 H3 v dv (s1.trans s3) (VRep.pre (W := W) (fun a h => s1.fresh h) r3) q3
/-- a call of a built-in with values -/
@[reducible] def wB (wa : Sl → (List D → Prop) → Prop) (op : List D → (DV → Prop) → Prop) : Sl → (DV → Prop) → Prop := fun δ q => wa δ fun ds => op ds q
def BltS (K : PySem.W.Frag) (mg : Str → Option Value) (n : N0) (ms : List Bool) (r : List V → Hp → VK → Prop) (op : List D → (DV → Prop) → Prop) : Prop :=
  ∀ W H vs ds (q : DV → Prop) (Q : VK), WOk W H → ArgsR K mg W H ms vs ds → op ds q → (∀ W' H' v dv, Stp W H W' H' → VRep K mg n H W' H' v dv → q dv → Q v H') → r vs H Q
theorem de_B {r : List V → Hp → VK → Prop} {ms : List Bool} {wa : Sl → (List D → Prop) → Prop} {op : List D → (DV → Prop) → Prop} (h : PE X e (tCB r (cA X.K X.mg n ms wa))) (ho : BltS X.K X.mg n ms r op) : PE X e (cE X.K X.mg n (wB wa op)) := by
  refine PE.imp h fun σ H Q ⟨W, δ, q, st, sp, hw, k⟩ => ⟨W, δ, _, st, sp, hw, fun W1 H1 vs ds s1 r1 q1 => ?_⟩
  refine ho W1 H1 vs ds q Q s1.ok r1 q1 fun W3 H3 v dv s3 r3 q3 => ?_
  exact k W3 H3 v dv (s1.trans s3) (VRep.pre (W := W) (fun a h => s1.fresh h) r3) q3
end

/-! ### tests -/
section
variable {X : Cx} {n : N0} {e a b : Expr} {es rest : List Expr} {pos : Pos}
/-- a value that is a truth value -/
@[reducible] def asB (dv : DV) (q : Bool → Prop) : Prop := match dv with
  | .v (.bl b) => q b
  | _ => False
@[reducible] def wT (w : Sl → (DV → Prop) → Prop) : Sl → (Bool → Prop) → Prop := fun δ q => w δ fun dv => asB dv q
/-- a test's wish as a value's -/
theorem cT.val {w : Sl → (DV → Prop) → Prop} {σ : St} {H : Hp} {Q : Bool → Hp → Prop} (h : cT X.K X.mg n (wT w) σ H Q) : cE X.K X.mg n w σ H fun v H' => ∃ c, v = .bl c ∧ Q c H' := by
  obtain ⟨W, δ, q, st, sp, hw, k⟩ := h
  refine ⟨W, δ, _, st, sp, hw, fun W1 H1 v dv s1 r1 q1 => ?_⟩
  unfold asB at q1
  split at q1
  · cases r1
    exact ⟨_, rfl, k W1 H1 _ s1 q1⟩
  · exact q1.elim
theorem dt_val {w : Sl → (DV → Prop) → Prop} (h : PE X e (cE X.K X.mg n w)) (he : ∀ whole, isTrue e X.env whole = (do let v ← whole; standAt e.pos; holding [v] (truthy v))) : PT X e (cT X.K X.mg n (wT w)) :=
  PT.imp (pt_val h he) fun σ H Q h => cT.val h
@[reducible] def wAnd (wa wb : Sl → (Bool → Prop) → Prop) : Sl → (Bool → Prop) → Prop := fun δ q => wa δ fun c => if c = true then wb δ q else q false
@[reducible] def wOr (wa wb : Sl → (Bool → Prop) → Prop) : Sl → (Bool → Prop) → Prop := fun δ q => wa δ fun c => if c = true then q true else wb δ q
@[reducible] def wNot (wa : Sl → (Bool → Prop) → Prop) : Sl → (Bool → Prop) → Prop := fun δ q => wa δ fun c => q (!c)
theorem cT.and {wa wb : Sl → (Bool → Prop) → Prop} {σ : St} {H : Hp} {Q : Bool → Hp → Prop} (h : cT X.K X.mg n (wAnd wa wb) σ H Q) : tAnd (cT X.K X.mg n wa) (cT X.K X.mg n wb) σ H Q := by
  obtain ⟨W, δ, q, st, sp, hw, k⟩ := h
  refine ⟨W, δ, _, st, sp, hw, fun W1 H1 c s1 q1 => ?_⟩
  cases c with
  | true =>
    rw [if_pos rfl] at q1 ⊢
    exact ⟨W1, δ, _, st.step s1, sp.trans s1, q1, fun W2 H2 c s2 q2 => k W2 H2 c (s1.trans s2) q2⟩
  | false =>
    rw [if_neg Bool.false_ne_true] at q1 ⊢
    exact k W1 H1 false s1 q1
theorem cT.or {wa wb : Sl → (Bool → Prop) → Prop} {σ : St} {H : Hp} {Q : Bool → Hp → Prop} (h : cT X.K X.mg n (wOr wa wb) σ H Q) : tOr (cT X.K X.mg n wa) (cT X.K X.mg n wb) σ H Q := by
  obtain ⟨W, δ, q, st, sp, hw, k⟩ := h
  refine ⟨W, δ, _, st, sp, hw, fun W1 H1 c s1 q1 => ?_⟩
  cases c with
  | false =>
    rw [if_neg Bool.false_ne_true] at q1 ⊢
    exact ⟨W1, δ, _, st.step s1, sp.trans s1, q1, fun W2 H2 c s2 q2 => k W2 H2 c (s1.trans s2) q2⟩
  | true =>
    rw [if_pos rfl] at q1 ⊢
    exact k W1 H1 true s1 q1
theorem cT.not {wa : Sl → (Bool → Prop) → Prop} {σ : St} {H : Hp} {Q : Bool → Hp → Prop} (h : cT X.K X.mg n (wNot wa) σ H Q) : tNot (cT X.K X.mg n wa) σ H Q := by
  obtain ⟨W, δ, q, st, sp, hw, k⟩ := h
  exact ⟨W, δ, _, st, sp, hw, fun W1 H1 c s1 q1 => k W1 H1 _ s1 q1⟩
/-- .. as values -/
@[reducible] def vB (w : Sl → (Bool → Prop) → Prop) : Sl → (DV → Prop) → Prop := fun δ q => w δ fun c => q (.v (.bl c))
theorem cE.andV {w1 : Sl → (DV → Prop) → Prop} {w2 : Sl → (Bool → Prop) → Prop} {σ : St} {H : Hp} {Q : VK} (h : cE X.K X.mg n (vB (wAnd (wT w1) w2)) σ H Q) : tAndV (cE X.K X.mg n w1) (cE X.K X.mg n (vB w2)) σ H Q := by
  obtain ⟨W, δ, q, st, sp, hw, k⟩ := h
  refine ⟨W, δ, _, st, sp, hw, fun W1 H1 v dv s1 r1 q1 => ?_⟩
  unfold asB at q1
  split at q1
  · rename_i b
    cases r1
    refine ⟨b, rfl, ?_⟩
    cases b with
    | true =>
      rw [if_pos rfl] at q1 ⊢
      exact ⟨W1, δ, _, st.step s1, sp.trans s1, q1, fun W2 H2 v2 d2 s2 r2 q2 => k W2 H2 v2 d2 (s1.trans s2) (VRep.pre (W := W) (fun a h => s1.fresh h) r2) q2⟩
    | false =>
      rw [if_neg Bool.false_ne_true] at q1 ⊢
      exact k W1 H1 _ (.v (.bl false)) s1 (Rep.bl false) q1
  · exact q1.elim
theorem cE.orV {w1 : Sl → (DV → Prop) → Prop} {w2 : Sl → (Bool → Prop) → Prop} {σ : St} {H : Hp} {Q : VK} (h : cE X.K X.mg n (vB (wOr (wT w1) w2)) σ H Q) : tOrV (cE X.K X.mg n w1) (cE X.K X.mg n (vB w2)) σ H Q := by
  obtain ⟨W, δ, q, st, sp, hw, k⟩ := h
  refine ⟨W, δ, _, st, sp, hw, fun W1 H1 v dv s1 r1 q1 => ?_⟩
  unfold asB at q1
  split at q1
  · rename_i b
    cases r1
    refine ⟨b, rfl, ?_⟩
    cases b with
    | false =>
      rw [if_neg Bool.false_ne_true] at q1 ⊢
      exact ⟨W1, δ, _, st.step s1, sp.trans s1, q1, fun W2 H2 v2 d2 s2 r2 q2 => k W2 H2 v2 d2 (s1.trans s2) (VRep.pre (W := W) (fun a h => s1.fresh h) r2) q2⟩
    | true =>
      rw [if_pos rfl] at q1 ⊢
      exact k W1 H1 _ (.v (.bl true)) s1 (Rep.bl true) q1
  · exact q1.elim
theorem cE.notV {w1 : Sl → (DV → Prop) → Prop} {σ : St} {H : Hp} {Q : VK} (h : cE X.K X.mg n (vB (wNot (wT w1))) σ H Q) : tNotV (cE X.K X.mg n w1) σ H Q := by
  obtain ⟨W, δ, q, st, sp, hw, k⟩ := h
  refine ⟨W, δ, _, st, sp, hw, fun W1 H1 v dv s1 r1 q1 => ?_⟩
  unfold asB at q1
  split at q1
  · rename_i b
    cases r1
    exact ⟨b, rfl, k W1 H1 _ (.v (.bl _)) s1 (Rep.bl _) q1⟩
  · exact q1.elim
theorem cE.asV {w1 : Sl → (DV → Prop) → Prop} {σ : St} {H : Hp} {Q : VK} (h : cE X.K X.mg n (vB (wT w1)) σ H Q) : cE X.K X.mg n w1 σ H Q := by
  obtain ⟨W, δ, q, st, sp, hw, k⟩ := h
  refine ⟨W, δ, _, st, sp, hw, fun W1 H1 v dv s1 r1 q1 => ?_⟩
  unfold asB at q1
  split at q1
  · cases r1
    exact k W1 H1 _ (.v (.bl _)) s1 (Rep.bl _) q1
  · exact q1.elim
theorem cE.vT {w : Sl → (Bool → Prop) → Prop} {σ : St} {H : Hp} {Q : Bool → Hp → Prop} (h : cT X.K X.mg n (wT (vB w)) σ H Q) : cT X.K X.mg n w σ H Q := h
/-- a if t else b -/
@[reducible] def wIf (wc : Sl → (Bool → Prop) → Prop) (wa wb : Sl → (DV → Prop) → Prop) : Sl → (DV → Prop) → Prop := fun δ q => wc δ fun c => if c = true then wa δ q else wb δ q
theorem de_if {c : Expr} {wc : Sl → (Bool → Prop) → Prop} {wa wb : Sl → (DV → Prop) → Prop} (hc : PT X c (cT X.K X.mg n wc)) (ha : PE X a (cE X.K X.mg n wa)) (hb : PE X b (cE X.K X.mg n wb)) : PE X (.IfExp c a b pos) (cE X.K X.mg n (wIf wc wa wb)) := by
  refine PE.imp (pe_ifExp hc ha hb) fun σ H Q ⟨W, δ, q, st, sp, hw, k⟩ => ⟨W, δ, _, st, sp, hw, fun W1 H1 c s1 q1 => ?_⟩
  cases c with
  | true =>
    rw [if_pos rfl] at q1 ⊢
    exact ⟨W1, δ, _, st.step s1, sp.trans s1, q1, fun W2 H2 v2 d2 s2 r2 q2 => k W2 H2 v2 d2 (s1.trans s2) (VRep.pre (W := W) (fun a h => s1.fresh h) r2) q2⟩
  | false =>
    rw [if_neg Bool.false_ne_true] at q1 ⊢
    exact ⟨W1, δ, _, st.step s1, sp.trans s1, q1, fun W2 H2 v2 d2 s2 r2 q2 => k W2 H2 v2 d2 (s1.trans s2) (VRep.pre (W := W) (fun a h => s1.fresh h) r2) q2⟩
end
end TT

set_option Elab.async false
set_option linter.all false
set_option maxRecDepth 100000
set_option autoImplicit false
namespace TT
open PySem PySem.Spec L2

/-! ### sizes -/
/-- below two to the n -/
def Sz (n : Nat) (i : Int) : Prop := i.natAbs < 2 ^ n
theorem Sz.mono {a b : Nat} {i : Int} (h : Sz a i) (k : a ≤ b) : Sz b i := Nat.lt_of_lt_of_le h (Nat.pow_le_pow_right (by decide) k)
theorem Sz.mul {a b : Nat} {i j : Int} (h : Sz a i) (k : Sz b j) : Sz (a + b) (i * j) := wide_lt h k
theorem Sz.add {a b : Nat} {i j : Int} (h : Sz a i) (k : Sz b j) : Sz (max a b + 1) (i + j) := by
  have h1 := h.mono (Nat.le_max_left a b)
  have h2 := k.mono (Nat.le_max_right a b)
  unfold Sz at *
  rw [Nat.pow_succ]
  have := Int.natAbs_add_le i j
  omega
theorem Sz.neg {a : Nat} {i : Int} (h : Sz a i) : Sz a (-i) := by unfold Sz; rw [Int.natAbs_neg]; exact h
theorem Sz.sub {a b : Nat} {i j : Int} (h : Sz a i) (k : Sz b j) : Sz (max a b + 1) (i - j) := by rw [Int.sub_eq_add_neg]; exact h.add k.neg
def MulOk (i j : Int) : Prop := ∃ a b, Sz a i ∧ Sz b j ∧ a + b ≤ 999998
theorem MulOk.ok {i j : Int} (h : MulOk i j) : CMulW i j := by
  obtain ⟨a, b, h1, h2, h3⟩ := h
  exact wide_mul (h1.mono (Nat.le_succ a)) (h2.mono (Nat.le_succ b)) (by omega) (by omega) (by omega)
def DivOk (j : Int) : Prop := 0 < j ∧ Sz 9000 j
theorem DivOk.ok {i j : Int} (h : DivOk j) : CDivW i j := wide_div h.1 h.2 (by decide) (by decide)

/-! ### data as PyData -/
mutual
def py : D → PyData
  | .non => .none
  | .bl b => .bool b
  | .int i => .int i
  | .str s => .str s
  | .tup xs => .tuple (pyL xs)
  | .lst xs => .list (pyL xs)
  | _ => .none
def pyL : List D → List PyData
  | [] => []
  | x :: xs => py x :: pyL xs
end
/-- data that can be compared, to a depth -/
def plain : Nat → D → Bool
  | _, .non => true
  | _, .bl _ => true
  | _, .int _ => true
  | _, .str s => PyData.strOk s
  | k + 1, .tup xs => xs.all (plain k)
  | k + 1, .lst xs => xs.all (plain k)
  | _, _ => false
def eqD (a b : D) : Bool := PyData.eqv (py a) (py b)
def eqL (a b : List D) : Bool := PyData.eqvAll (pyL a) (pyL b)
theorem plain_list {k : Nat} (ih : ∀ d : D, plain k d = true → (py d).canLay0 = true ∧ (py d).depth ≤ k) : ∀ xs : List D, xs.all (plain k) = true → PyData.canLayAll0 (pyL xs) = true ∧ PyData.depthAll (pyL xs) ≤ k
  | [], _ => by simp [pyL, PyData.canLayAll0, PyData.depthAll]
  | x :: xs, h => by
    rw [List.all_cons, Bool.and_eq_true] at h
    obtain ⟨h1, h2⟩ := ih x h.1
    obtain ⟨h3, h4⟩ := plain_list ih xs h.2
    simp only [pyL, PyData.canLayAll0, PyData.depthAll, h1, h3, Bool.and_self, true_and]
    exact Nat.max_le.mpr ⟨h2, h4⟩
theorem plain_ok : ∀ (k : Nat) (d : D), plain k d = true → (py d).canLay0 = true ∧ (py d).depth ≤ k
  | k, .non, _ => by simp [py, PyData.canLay0, PyData.depth]
  | k, .bl _, _ => by simp [py, PyData.canLay0, PyData.depth]
  | k, .int _, _ => by simp [py, PyData.canLay0, PyData.depth]
  | k, .str s, h => by
    cases k <;> (simp [plain] at h; simp [py, PyData.canLay0, PyData.depth, h])
  | k + 1, .tup xs, h => by
    obtain ⟨h1, h2⟩ := plain_list (plain_ok k) xs (by simpa [plain] using h)
    simp only [py, PyData.canLay0, PyData.depth, h1, true_and]
    omega
  | k + 1, .lst xs, h => by
    obtain ⟨h1, h2⟩ := plain_list (plain_ok k) xs (by simpa [plain] using h)
    simp only [py, PyData.canLay0, PyData.depth, h1, true_and]
    omega
  | 0, .tup xs, h => by simp [plain] at h
  | 0, .lst xs, h => by simp [plain] at h
  | k, .ty _, h => by cases k <;> simp [plain] at h
  | k, .dic _, h => by cases k <;> simp [plain] at h
  | k, .obj _ _, h => by cases k <;> simp [plain] at h
  | k, .town, h => by cases k <;> simp [plain] at h
  | k, .scr, h => by cases k <;> simp [plain] at h
  | k, .err _, h => by cases k <;> simp [plain] at h
theorem plain_shaped {d : D} (h : plain 60 d = true) : SeqAt.shaped (py d) = true := by
  obtain ⟨h1, h2⟩ := plain_ok 60 d h
  unfold SeqAt.shaped
  rw [h1, Bool.true_and, decide_eq_true_eq]
  omega
section
variable {K : PySem.W.Frag} {mg : Str → Option Value} {W : Wd} {H : Hp}
mutual
theorem Rep.dp (s : Same W.F H) : ∀ {v : V} {d : D} {k : Nat}, Rep K mg W v d → plain k d = true → Dp K H v (py d)
  | _, _, _, .non, _ => by simp only [py]; exact .non
  | _, _, _, .bl b, _ => by simp only [py]; exact .bl b
  | _, _, _, .int i, _ => by simp only [py]; exact .int i
  | _, _, _, .str x, _ => by simp only [py]; exact .str x
  | _, _, k, .tup h r, p => by
    cases k with
    | zero => simp [plain] at p
    | succ k => simp only [py]; exact .tup (Same.seqT s h) (RepL.dp s r (by simpa [plain] using p))
  | _, _, k, .lst h r, p => by
    cases k with
    | zero => simp [plain] at p
    | succ k => simp only [py]; exact .lst (SqL.of (s _ _ h)) (RepL.dp s r (by simpa [plain] using p))
  | _, _, k, .ty _, p => by cases k <;> simp [plain] at p
  | _, _, k, .dic _ _, p => by cases k <;> simp [plain] at p
  | _, _, k, .obj _ _ _, p => by cases k <;> simp [plain] at p
  | _, _, k, .town _, p => by cases k <;> simp [plain] at p
  | _, _, k, .scr _ _, p => by cases k <;> simp [plain] at p
  | _, _, k, .err _ _, p => by cases k <;> simp [plain] at p
theorem RepL.dp (s : Same W.F H) : ∀ {v : List V} {d : List D} {k : Nat}, RepL K mg W v d → d.all (plain k) = true → DpAll K H v (pyL d)
  | _, _, _, .nil, _ => by simp only [pyL]; exact .nil
  | _, _, _, .cons h r, p => by
    rw [List.all_cons, Bool.and_eq_true] at p
    simp only [pyL]
    exact .cons (Rep.dp s h p.1) (RepL.dp s r p.2)
end
theorem RepT.dp (w : WOk W H) {v : V} {d : D} {k : Nat} (r : RepT K mg W H v d) (p : plain k d = true) : Dp K H v (py d) := by
  rcases r with r | ⟨a, rfl, c, _⟩
  · exact r.dp w.sub p
  · cases d with
    | lst ds =>
      obtain ⟨xs, e, r⟩ := c
      cases k with
      | zero => simp [plain] at p
      | succ k => simp only [py]; exact .lst (SqL.of e) (RepL.dp w.sub r (by simpa [plain] using p))
    | dic ds => cases k <;> simp [plain] at p
    | _ => exact c.elim
/-- what a readable list, tuple is made of -/
theorem RepT.lst (w : WOk W H) {v : V} {ds : List D} (r : RepT K mg W H v (.lst ds)) : ∃ a xs, v = .ref a ∧ H a = some (.lst xs) ∧ RepL K mg W xs ds := by
  rcases r with r | ⟨a, rfl, ⟨xs, e, r⟩, _⟩
  · cases r with
    | lst h r => exact ⟨_, _, rfl, w.sub _ _ h, r⟩
  · exact ⟨a, xs, rfl, e, r⟩
theorem RepT.tup (w : WOk W H) {v : V} {ds : List D} (r : RepT K mg W H v (.tup ds)) : ∃ a xs, v = .ref a ∧ SqT K H a xs ∧ RepL K mg W xs ds := by
  rcases r with r | ⟨a, rfl, c, _⟩
  · cases r with
    | tup h r => exact ⟨_, _, rfl, Same.seqT w.sub h, r⟩
  · exact c.elim
theorem RepT.dic (w : WOk W H) {v : V} {ds : List (List Int × D)} (r : RepT K mg W H v (.dic ds)) : ∃ a xs, v = .ref a ∧ H a = some (.dT xs) ∧ RepK K mg W xs ds := by
  rcases r with r | ⟨a, rfl, ⟨xs, e, r⟩, _⟩
  · cases r with
    | dic h r => exact ⟨_, _, rfl, w.sub _ _ h, r⟩
  · exact ⟨a, xs, rfl, e, r⟩
theorem RepT.obj (w : WOk W H) {v : V} {c : Str} {ds : List (Str × D)} (r : RepT K mg W H v (.obj c ds)) : ∃ a C dx xs, v = .ref a ∧ H a = some (.ins C dx xs) ∧ mg c = some (.ref C) ∧ RepF K mg W xs ds := by
  rcases r with r | ⟨a, rfl, c, _⟩
  · cases r with
    | obj h m r => exact ⟨_, _, _, _, rfl, w.sub _ _ h, m, r⟩
  · exact c.elim
theorem RepT.err (w : WOk W H) {v : V} {c : Str} (r : RepT K mg W H v (.err c)) : ∃ a C, v = .ref a ∧ H a = some (ErrX (.ref C) none a) ∧ mg c = some (.ref C) := by
  rcases r with r | ⟨a, rfl, c, _⟩
  · cases r with
    | err h m => exact ⟨_, _, rfl, w.sub _ _ h, m⟩
  · exact c.elim
theorem RepT.int {v : V} {i : Int} (r : RepT K mg W H v (.int i)) : v = .int i := by
  rcases r with r | ⟨a, rfl, c, _⟩
  · cases r; rfl
  · exact c.elim
theorem RepT.bl {v : V} {i : Bool} (r : RepT K mg W H v (.bl i)) : v = .bl i := by
  rcases r with r | ⟨a, rfl, c, _⟩
  · cases r; rfl
  · exact c.elim
theorem RepT.str {v : V} {i : Str} (r : RepT K mg W H v (.str i)) : v = .str i := by
  rcases r with r | ⟨a, rfl, c, _⟩
  · cases r; rfl
  · exact c.elim
end

/-! ### operators -/
inductive Bop where | add | sub | mul | fdiv | mod | pow
def opB : Bop → D → D → (DV → Prop) → Prop
  | .add, .int i, .int j, q => q (.v (.int (i + j)))
  | .add, .lst x, .lst y, q => x.length + y.length ≤ 1000000 ∧ q (.own (.lst (x ++ y)))
  | .add, .tup x, .tup y, q => x ≠ [] ∧ y ≠ [] ∧ x.length + y.length ≤ 1000000 ∧ q (.v (.tup (x ++ y)))
  | .sub, .int i, .int j, q => q (.v (.int (i - j)))
  | .mul, .int i, .int j, q => MulOk i j ∧ q (.v (.int (i * j)))
  | .mul, .lst x, .int j, q => 0 ≤ j ∧ j ≤ 1000 ∧ x.length ≤ 1000 ∧ q (.own (.lst (List.replicate j.toNat x).flatten))
  | .mul, .tup x, .int j, q => x ≠ [] ∧ 2 ≤ j ∧ j ≤ 1000 ∧ x.length ≤ 1000 ∧ q (.v (.tup (List.replicate j.toNat x).flatten))
  | .pow, .int i, .int j, q => (0 ≤ j ∧ j ≤ 1000000 ∧ i.natAbs < 2 ^ 64) ∧ q (.v (.int (i ^ j.toNat)))
  | .fdiv, .int i, .int j, q => DivOk j ∧ q (.v (.int (i / j)))
  | .mod, .int i, .int j, q => 0 < j ∧ q (.v (.int (i % j)))
  | _, _, _, _ => False
inductive Cop where | lt | le | gt | ge | eq | ne
def opC : Cop → D → D → (DV → Prop) → Prop
  | .lt, .int i, .int j, q => q (.v (.bl (decide (i < j))))
  | .le, .int i, .int j, q => q (.v (.bl (decide (i ≤ j))))
  | .gt, .int i, .int j, q => q (.v (.bl (decide (j < i))))
  | .ge, .int i, .int j, q => q (.v (.bl (decide (j ≤ i))))
  | .eq, x, y, q => plain 60 x = true ∧ plain 60 y = true ∧ q (.v (.bl (eqD x y)))
  | .ne, x, y, q => plain 60 x = true ∧ plain 60 y = true ∧ q (.v (.bl (!eqD x y)))
  | _, _, _, _ => False
def Bop.op : Bop → Operator
  | .add => .Add | .sub => .Sub | .mul => .Mult | .fdiv => .FloorDiv | .mod => .Mod | .pow => .Pow
def Cop.op : Cop → CmpOp
  | .lt => .Lt | .le => .LtE | .gt => .Gt | .ge => .GtE | .eq => .Eq | .ne => .NotEq

theorem RepL.rep {K : PySem.W.Frag} {mg : Str → Option Value} {W : Wd} {vs : List V} {ds : List D} (r : RepL K mg W vs ds) : ∀ k : Nat, RepL K mg W (List.replicate k vs).flatten (List.replicate k ds).flatten
  | 0 => .nil
  | k + 1 => by
    rw [List.replicate_succ, List.replicate_succ, List.flatten_cons, List.flatten_cons]
    exact r.append (RepL.rep r k)
section
variable {X : Cx} {n : N0}
/-- the value-level rule of each operator -/
theorem bop_rule (o : Bop) : ∃ r : R2, OpR X (binaryOp o.op) r ∧ OpS X.K X.mg n true true r (opB o) := by
  cases o with
  | add =>
    refine ⟨_, OpR.or op_catA (OpR.or op_add op_cat), fun W H v1 v2 d1 d2 q Q w r1 r2 h k => ?_⟩
    cases d1 <;> cases d2 <;> try exact h.elim
    · cases r1.read.int; cases r2.read.int
      exact .inr (.inl ⟨_, _, rfl, rfl, k W H _ (.v (.int _)) (.refl w) (Rep.int _) h⟩)
    · obtain ⟨a, xs, rfl, e1, l1⟩ := r1.read.tup w
      obtain ⟨b, ys, rfl, e2, l2⟩ := r2.read.tup w
      obtain ⟨hx, hy, hl, hq⟩ := h
      have hs : sizeLine = 16777216 := sizeLine_eq
      have nx : xs ≠ [] := fun z => hx (List.eq_nil_of_length_eq_zero (by rw [← l1.length, z]; rfl))
      have ny : ys ≠ [] := fun z => hy (List.eq_nil_of_length_eq_zero (by rw [← l2.length, z]; rfl))
      refine .inl ⟨a, b, xs, ys, rfl, rfl, e1, e2, by rw [l1.length, l2.length]; omega, fun z => absurd z nx, fun _ z => absurd z ny, fun _ _ p hp => ?_⟩
      have s2 := Stp.laid w hp (.tup (xs ++ ys))
      exact k _ _ _ (.v (.tup _)) s2 (.tup (SqT.of (by show upd W.F p _ p = _; rw [upd_same])) ((l1.append l2).le s2.le)) hq
    · obtain ⟨a, xs, rfl, e1, l1⟩ := r1.read.lst w
      obtain ⟨b, ys, rfl, e2, l2⟩ := r2.read.lst w
      have hs : sizeLine = 16777216 := sizeLine_eq
      refine .inr (.inr ⟨a, b, xs, ys, rfl, rfl, e1, e2, by rw [l1.length, l2.length]; have := h.1; omega, fun p hp => ?_⟩)
      exact k W _ _ (.own (.lst _)) (Stp.laidOwn w hp _) ⟨p, rfl, ⟨_, upd_same, l1.append l2⟩, hp, w.sub.free hp, w.notTown hp⟩ h.2
  | sub =>
    refine ⟨_, op_sub, fun W H v1 v2 d1 d2 q Q w r1 r2 h k => ?_⟩
    cases d1 <;> cases d2 <;> try exact h.elim
    cases r1.read.int; cases r2.read.int
    exact ⟨_, _, rfl, rfl, k W H _ (.v (.int _)) (.refl w) (Rep.int _) h⟩
  | mul =>
    refine ⟨_, OpR.or op_mulW (OpR.or op_rep op_repT), fun W H v1 v2 d1 d2 q Q w r1 r2 h k => ?_⟩
    cases d1 <;> cases d2 <;> try exact h.elim
    · cases r1.read.int; cases r2.read.int
      exact .inl ⟨_, _, rfl, rfl, h.1.ok, k W H _ (.v (.int _)) (.refl w) (Rep.int _) h.2⟩
    · rename_i x j
      obtain ⟨a, xs, rfl, e1, l1⟩ := r1.read.tup w
      cases r2.read.int
      obtain ⟨hne, h0, h1, h2, hq⟩ := h
      have nx : xs ≠ [] := fun z => hne (List.eq_nil_of_length_eq_zero (by rw [← l1.length, z]; rfl))
      refine .inr (.inr ⟨a, _, xs, rfl, rfl, e1, nx, h0, h1, by rw [l1.length]; exact h2, fun p hp => ?_⟩)
      have s2 := Stp.laid w hp (.tup (List.replicate j.toNat xs).flatten)
      exact k _ _ _ (.v (.tup _)) s2 (.tup (SqT.of (by show upd W.F p _ p = _; rw [upd_same])) ((RepL.rep l1 _).le s2.le)) hq
    · rename_i x j
      obtain ⟨a, xs, rfl, e1, l1⟩ := r1.read.lst w
      cases r2.read.int
      obtain ⟨h0, h1, h2, hq⟩ := h
      have hs : sizeLine = 16777216 := sizeLine_eq
      have e3 : j.toNat ≤ 1000 := by omega
      have e4 : xs.length * j.toNat ≤ 1000 * 1000 := Nat.mul_le_mul (by rw [l1.length]; exact h2) e3
      refine .inr (.inl ⟨a, _, xs, rfl, rfl, e1, by omega, by omega, by omega, fun p hp => ?_⟩)
      exact k W _ _ (.own (.lst _)) (Stp.laidOwn w hp _) ⟨p, rfl, ⟨_, upd_same, RepL.rep l1 _⟩, hp, w.sub.free hp, w.notTown hp⟩ hq
  | pow =>
    refine ⟨_, op_pow, fun W H v1 v2 d1 d2 q Q w r1 r2 h k => ?_⟩
    cases d1 <;> cases d2 <;> try exact h.elim
    cases r1.read.int; cases r2.read.int
    exact ⟨_, _, rfl, rfl, h.1, k W H _ (.v (.int _)) (.refl w) (Rep.int _) h.2⟩
  | fdiv =>
    refine ⟨_, op_fdivW, fun W H v1 v2 d1 d2 q Q w r1 r2 h k => ?_⟩
    cases d1 <;> cases d2 <;> try exact h.elim
    cases r1.read.int; cases r2.read.int
    exact ⟨_, _, rfl, rfl, h.1.ok, k W H _ (.v (.int _)) (.refl w) (Rep.int _) h.2⟩
  | mod =>
    refine ⟨_, op_mod, fun W H v1 v2 d1 d2 q Q w r1 r2 h k => ?_⟩
    cases d1 <;> cases d2 <;> try exact h.elim
    cases r1.read.int; cases r2.read.int
    exact ⟨_, _, rfl, rfl, h.1, k W H _ (.v (.int _)) (.refl w) (Rep.int _) h.2⟩
theorem cop_rule (hu : X.A.units + 64 < cLine) (o : Cop) : ∃ r : R2, OpR X (compareOp o.op) r ∧ OpS X.K X.mg n true true r (opC o) := by
  cases o with
  | lt =>
    refine ⟨_, op_lt, fun W H v1 v2 d1 d2 q Q w r1 r2 h k => ?_⟩
    cases d1 <;> cases d2 <;> try exact h.elim
    cases r1.read.int; cases r2.read.int
    exact ⟨_, _, rfl, rfl, k W H _ (.v (.bl _)) (.refl w) (Rep.bl _) h⟩
  | le =>
    refine ⟨_, op_le, fun W H v1 v2 d1 d2 q Q w r1 r2 h k => ?_⟩
    cases d1 <;> cases d2 <;> try exact h.elim
    cases r1.read.int; cases r2.read.int
    exact ⟨_, _, rfl, rfl, k W H _ (.v (.bl _)) (.refl w) (Rep.bl _) h⟩
  | gt =>
    refine ⟨_, op_gt, fun W H v1 v2 d1 d2 q Q w r1 r2 h k => ?_⟩
    cases d1 <;> cases d2 <;> try exact h.elim
    cases r1.read.int; cases r2.read.int
    exact ⟨_, _, rfl, rfl, k W H _ (.v (.bl _)) (.refl w) (Rep.bl _) h⟩
  | ge =>
    refine ⟨_, op_ge, fun W H v1 v2 d1 d2 q Q w r1 r2 h k => ?_⟩
    cases d1 <;> cases d2 <;> try exact h.elim
    cases r1.read.int; cases r2.read.int
    exact ⟨_, _, rfl, rfl, k W H _ (.v (.bl _)) (.refl w) (Rep.bl _) h⟩
  | eq =>
    refine ⟨_, op_eqD hu, fun W H v1 v2 d1 d2 q Q w r1 r2 h k => ?_⟩
    have h : plain 60 d1 = true ∧ plain 60 d2 = true ∧ q (.v (.bl (eqD d1 d2))) := by simpa only [opC] using h
    obtain ⟨p1, p2, h⟩ := h
    exact ⟨py d1, py d2, r1.read.dp w p1, r2.read.dp w p2, plain_shaped p1, plain_shaped p2, k W H _ (.v (.bl _)) (.refl w) (Rep.bl _) h⟩
  | ne =>
    refine ⟨_, op_neD hu, fun W H v1 v2 d1 d2 q Q w r1 r2 h k => ?_⟩
    have h : plain 60 d1 = true ∧ plain 60 d2 = true ∧ q (.v (.bl (!eqD d1 d2))) := by simpa only [opC] using h
    obtain ⟨p1, p2, h⟩ := h
    exact ⟨py d1, py d2, r1.read.dp w p1, r2.read.dp w p2, plain_shaped p1, plain_shaped p2, k W H _ (.v (.bl _)) (.refl w) (Rep.bl _) h⟩
/-- an item -/
def opIx (x y : D) (q : DV → Prop) : Prop := match x, y with
  | .tup xs, .int i => match atI xs i with
    | some d => q (.v d)
    | none => False
  | .lst xs, .int i => match atI xs i with
    | some d => q (.v d)
    | none => False
  | _, _ => False
theorem RepL.atI {K : PySem.W.Frag} {mg : Str → Option Value} {W : Wd} {xs : List V} {ds : List D} {i : Int} {d : D} (r : RepL K mg W xs ds) (h : L2.atI ds i = some d) : ∃ v, L2.atI xs i = some v ∧ Rep K mg W v d := by
  unfold L2.atI at h ⊢
  rw [← r.length] at h
  cases e : ixN xs.length i with
  | none => rw [e] at h; cases h
  | some j =>
    rw [e] at h
    exact r.get h
theorem ix_rule : IxR X (fun x y H Q => rIxT X.K x y H Q ∨ rIxL X.K x y H Q) ∧ OpS X.K X.mg n true true (fun x y H Q => rIxT X.K x y H Q ∨ rIxL X.K x y H Q) opIx := by
  refine ⟨ix_tup.or ix_list, fun W H v1 v2 d1 d2 q Q w r1 r2 h k => ?_⟩
  unfold opIx at h
  split at h
  · rename_i xs i
    split at h
    · rename_i d e
      obtain ⟨a, vs, rfl, e1, l1⟩ := r1.read.tup w
      cases r2.read.int
      obtain ⟨v, ev, rv⟩ := RepL.atI l1 e
      exact .inl ⟨a, vs, i, v, rfl, rfl, e1, ev, k W H v (.v d) (.refl w) rv h⟩
    · exact h.elim
  · rename_i xs i
    split at h
    · rename_i d e
      obtain ⟨a, vs, rfl, e1, l1⟩ := r1.read.lst w
      cases r2.read.int
      obtain ⟨v, ev, rv⟩ := RepL.atI l1 e
      exact .inr ⟨a, vs, i, v, rfl, rfl, SqL.of e1, ev, k W H v (.v d) (.refl w) rv h⟩
    · exact h.elim
  · exact h.elim
/-- -x -/
def opNeg (x : D) (q : DV → Prop) : Prop := match x with
  | .int i => q (.v (.int (-i)))
  | _ => False

/-! ### built-ins -/
inductive Blt where | len | abs | max2 | min2 | all | any | list | tuple | sum
def opBlt : Blt → List D → (DV → Prop) → Prop
  | .len, [.lst xs], q => q (.v (.int xs.length))
  | .len, [.tup xs], q => q (.v (.int xs.length))
  | .abs, [.int i], q => q (.v (.int (if i < 0 then -i else i)))
  | .max2, [.int i, .int j], q => q (.v (.int (if j > i then j else i)))
  | .min2, [.int i, .int j], q => q (.v (.int (if j < i then j else i)))
  | .all, [.lst xs], q => ∃ bs : List Bool, xs = bs.map D.bl ∧ q (.v (.bl (bs.all id)))
  | .any, [.lst xs], q => ∃ bs : List Bool, xs = bs.map D.bl ∧ q (.v (.bl (bs.any id)))
  | .sum, [.lst xs], q => ∃ ns : List Int, xs = ns.map D.int ∧ q (.v (.int ns.sum))
  | .list, [.lst xs], q => q (.own (.lst xs))
  | .list, [.tup xs], q => q (.own (.lst xs))
  | .tuple, [.lst xs], q => q (.v (.tup xs))
  | .tuple, [.tup xs], q => q (.v (.tup xs))
  | _, _, _ => False
def Blt.name : Blt → String
  | .len => "len" | .abs => "abs" | .max2 => "max" | .min2 => "min" | .all => "all" | .any => "any" | .list => "list" | .tuple => "tuple" | .sum => "sum"
def Blt.value : Blt → Value
  | .list => .type "list" | .tuple => .type "tuple" | b => .builtin b.name
def Blt.ty : Blt → Bool
  | .list => true | .tuple => true | _ => false
def Blt.ar : Blt → Nat
  | .max2 => 2 | .min2 => 2 | _ => 1
theorem RepL.bls {K : PySem.W.Frag} {mg : Str → Option Value} {W : Wd} : ∀ {vs : List V} {bs : List Bool}, RepL K mg W vs (bs.map D.bl) → vs = bs.map V.bl
  | _, [], .nil => rfl
  | _, b :: bs, .cons h r => by cases h; rw [RepL.bls r]; rfl
theorem RepL.ints {K : PySem.W.Frag} {mg : Str → Option Value} {W : Wd} : ∀ {vs : List V} {bs : List Int}, RepL K mg W vs (bs.map D.int) → vs = bs.map V.int
  | _, [], .nil => rfl
  | _, b :: bs, .cons h r => by cases h; rw [RepL.ints r]; rfl
theorem ArgsR.one {K : PySem.W.Frag} {mg : Str → Option Value} {W : Wd} {H : Hp} {m : Bool} {vs : List V} {d : D} (h : ArgsR K mg W H [m] vs [d]) : ∃ v, vs = [v] ∧ RepT K mg W H v d := by
  cases h with
  | cons h r => cases r; exact ⟨_, rfl, h.read⟩
theorem ArgsR.two {K : PySem.W.Frag} {mg : Str → Option Value} {W : Wd} {H : Hp} {m m' : Bool} {vs : List V} {d d' : D} (h : ArgsR K mg W H [m, m'] vs [d, d']) : ∃ v v', vs = [v, v'] ∧ RepT K mg W H v d ∧ RepT K mg W H v' d' := by
  cases h with
  | cons h r => cases r with
    | cons h2 r => cases r; exact ⟨_, _, rfl, h.read, h2.read⟩
theorem ArgsR.oneD {K : PySem.W.Frag} {mg : Str → Option Value} {W : Wd} {H : Hp} {m : Bool} {vs : List V} {ds : List D} (h : ArgsR K mg W H [m] vs ds) : ∃ d, ds = [d] := by
  cases h with
  | cons h r => cases r; exact ⟨_, rfl⟩
theorem ArgsR.twoD {K : PySem.W.Frag} {mg : Str → Option Value} {W : Wd} {H : Hp} {m m' : Bool} {vs : List V} {ds : List D} (h : ArgsR K mg W H [m, m'] vs ds) : ∃ d d', ds = [d, d'] := by
  cases h with
  | cons h r => cases r with
    | cons h2 r => cases r; exact ⟨_, _, rfl⟩
theorem blt_rule (hc : X.calm = true) (b : Blt) : ∃ r, CallR X b.value r ∧ BltS X.K X.mg n (List.replicate b.ar true) r (opBlt b) := by
  cases b with
  | len =>
    refine ⟨_, call_len, fun W H vs ds q Q w r h k => ?_⟩
    obtain ⟨d, rfl⟩ := r.oneD
    obtain ⟨v, rfl, r0⟩ := r.one
    cases d <;> try exact h.elim
    · obtain ⟨a, xs, rfl, e1, l1⟩ := r0.tup w
      exact ⟨_, xs.length, rfl, .inr ⟨xs, e1, rfl⟩, by rw [l1.length]; exact k W H _ (.v (.int _)) (.refl w) (Rep.int _) h⟩
    · obtain ⟨a, xs, rfl, e1, l1⟩ := r0.lst w
      exact ⟨_, xs.length, rfl, .inl ⟨xs, SqL.of e1, rfl⟩, by rw [l1.length]; exact k W H _ (.v (.int _)) (.refl w) (Rep.int _) h⟩
  | abs =>
    refine ⟨_, call_abs, fun W H vs ds q Q w r h k => ?_⟩
    obtain ⟨d, rfl⟩ := r.oneD
    obtain ⟨v, rfl, r0⟩ := r.one
    cases d <;> try exact h.elim
    cases r0.int
    exact ⟨_, rfl, k W H _ (.v (.int _)) (.refl w) (Rep.int _) h⟩
  | max2 =>
    refine ⟨_, call_max2 hc, fun W H vs ds q Q w r h k => ?_⟩
    obtain ⟨d, d', rfl⟩ := ArgsR.twoD (m := true) (m' := true) r
    obtain ⟨v, v', rfl, r1, r2⟩ := ArgsR.two (m := true) (m' := true) r
    cases d <;> cases d' <;> try exact h.elim
    cases r1.int; cases r2.int
    exact ⟨_, _, rfl, k W H _ (.v (.int _)) (.refl w) (Rep.int _) h⟩
  | min2 =>
    refine ⟨_, call_min2 hc, fun W H vs ds q Q w r h k => ?_⟩
    obtain ⟨d, d', rfl⟩ := ArgsR.twoD (m := true) (m' := true) r
    obtain ⟨v, v', rfl, r1, r2⟩ := ArgsR.two (m := true) (m' := true) r
    cases d <;> cases d' <;> try exact h.elim
    cases r1.int; cases r2.int
    exact ⟨_, _, rfl, k W H _ (.v (.int _)) (.refl w) (Rep.int _) h⟩
  | all =>
    refine ⟨_, cr_all hc, fun W H vs ds q Q w r h k => ?_⟩
    obtain ⟨d, rfl⟩ := r.oneD
    obtain ⟨v, rfl, r0⟩ := r.one
    cases d <;> try exact h.elim
    obtain ⟨bs, rfl, h⟩ := h
    obtain ⟨a, xs, rfl, e1, l1⟩ := r0.lst w
    cases RepL.bls l1
    exact ⟨a, bs, rfl, SqL.of e1, k W H _ (.v (.bl _)) (.refl w) (Rep.bl _) h⟩
  | any =>
    refine ⟨_, cr_any hc, fun W H vs ds q Q w r h k => ?_⟩
    obtain ⟨d, rfl⟩ := r.oneD
    obtain ⟨v, rfl, r0⟩ := r.one
    cases d <;> try exact h.elim
    obtain ⟨bs, rfl, h⟩ := h
    obtain ⟨a, xs, rfl, e1, l1⟩ := r0.lst w
    cases RepL.bls l1
    exact ⟨a, bs, rfl, SqL.of e1, k W H _ (.v (.bl _)) (.refl w) (Rep.bl _) h⟩
  | sum =>
    refine ⟨_, cr_sum hc, fun W H vs ds q Q w r h k => ?_⟩
    obtain ⟨d, rfl⟩ := r.oneD
    obtain ⟨v, rfl, r0⟩ := r.one
    cases d <;> try exact h.elim
    obtain ⟨bs, rfl, h⟩ := h
    obtain ⟨a, xs, rfl, e1, l1⟩ := r0.lst w
    cases RepL.ints l1
    exact ⟨a, bs, rfl, SqL.of e1, k W H _ (.v (.int _)) (.refl w) (Rep.int _) h⟩
  | list =>
    refine ⟨_, call_list_of, fun W H vs ds q Q w r h k => ?_⟩
    obtain ⟨d, rfl⟩ := r.oneD
    obtain ⟨v, rfl, r0⟩ := r.one
    cases d <;> try exact h.elim
    · obtain ⟨a, xs, rfl, e1, l1⟩ := r0.tup w
      exact ⟨_, xs, rfl, .inr e1, fun p hp => k W _ _ (.own (.lst _)) (Stp.laidOwn w hp _) ⟨p, rfl, ⟨_, upd_same, l1⟩, hp, w.sub.free hp, w.notTown hp⟩ h⟩
    · obtain ⟨a, xs, rfl, e1, l1⟩ := r0.lst w
      exact ⟨_, xs, rfl, .inl (SqL.of e1), fun p hp => k W _ _ (.own (.lst _)) (Stp.laidOwn w hp _) ⟨p, rfl, ⟨_, upd_same, l1⟩, hp, w.sub.free hp, w.notTown hp⟩ h⟩
  | tuple =>
    refine ⟨_, call_tuple_of, fun W H vs ds q Q w r h k => ?_⟩
    obtain ⟨d, rfl⟩ := r.oneD
    obtain ⟨v, rfl, r0⟩ := r.one
    cases d <;> try exact h.elim
    · have r' := r0
      obtain ⟨a, xs, rfl, e1, l1⟩ := r0.tup w
      refine ⟨_, xs, rfl, .inr ⟨e1, k W H _ (.v (.tup _)) (.refl w) ?_ h⟩⟩
      rcases r' with r' | ⟨_, _, c, _⟩
      · exact r'
      · exact c.elim
    · obtain ⟨a, xs, rfl, e1, l1⟩ := r0.lst w
      refine ⟨_, xs, rfl, .inl ⟨SqL.of e1, fun p hp => ?_⟩⟩
      have s2 := Stp.laid w hp (.tup xs)
      exact k _ _ _ (.v (.tup _)) s2 (.tup (SqT.of (by show upd W.F p _ p = _; rw [upd_same])) (l1.le s2.le)) h
end
end TT

set_option Elab.async false
set_option linter.all false
set_option maxRecDepth 100000
set_option autoImplicit false
namespace TT
open PySem PySem.Spec L2

/-! ### a def's promise over data -/
/-- what a def hands back: a thing that stands still, or a fresh one -/
def RRep (K : PySem.W.Frag) (mg : Str → Option Value) (H1 : Hp) (W : Wd) (H : Hp) (v : V) : DV → Prop
  | .v d => Rep K mg W v d
  | .own d => ∃ a, v = .ref a ∧ Cell K mg W H a d ∧ H1 a = none ∧ Loose W a
  | _ => False
def spD (K : PySem.W.Frag) (mg : Str → Option Value) (br : List Bool) (S : DS) : Sp := fun vs H Q E => vs.length = br.length ∧ ∃ W ds q Ed, WOk W H ∧ ArgsR K mg W H br vs ds ∧ S ds q Ed ∧
  (∀ W' H' v dv, Stp W H W' H' → RRep K mg H W' H' v dv → q dv → Q v H') ∧ ∀ c C W' H', Ed c → mg c = some (.ref C) → Stp W H W' H' → E (.ref C) none H'

/-- f keeps S where it stands; dv: the defaults that fill up -/
def FnG (P : Program) (w : World) (K : PySem.W.Frag) (mg : Str → Option Value) (base : Heap) (lv : Nat) (f : Str) (br : List Bool) (S : DS) (dv : List D) : Prop :=
  ∃ (a : Addr) (fd : FuncData) (ps : List Str) (ds : List Value) (dvs : List V), FnOk P w K mg base (L2.CX P w) lv a fd ps (spD K mg br S) ∧ mg f = some (.ref a) ∧ PySem.W.keepIn K (.ref a) = true ∧ Binds K fd ps ds ∧ Vals dvs ds ∧ ∀ W, RepL K mg W dvs dv

/-- where a body's walk stands -/
structure Ctx (X : Cx) (E : XK) (n : N0) (Ed : Str → Prop) (lv : Nat) : Prop where
  nd : X.N.Nodup
  calm : X.calm = true
  kind : X.env.scope.kind = .function
  room : Room lv X.A
  pass : Passes (L2.CX X.prog X.w) X E
  exc : ∀ c C W' H', Ed c → X.mg c = some (.ref C) → Stp n.1 n.2 W' H' → E (.ref C) none H'
theorem Ctx.units {X : Cx} {E : XK} {n : N0} {Ed : Str → Prop} {lv : Nat} (c : Ctx X E n Ed lv) : X.A.units + 64 < cLine := c.room.units

section
variable {K : PySem.W.Frag} {mg : Str → Option Value} {W W' : Wd} {H H' H1 : Hp}
theorem RRep.v {n : N0} {v : V} : ∀ {dv : DV}, RRep K mg H1 W H v dv → VRep K mg n H1 W H v dv
  | .v d, r => r
  | .own d, r => r
theorem ArgsR.app : ∀ {ms ms' : List Bool} {vs vs' : List V} {ds ds' : List D}, ArgsR K mg W H ms vs ds → ArgsR K mg W H ms' vs' ds' → ArgsR K mg W H (ms ++ ms') (vs ++ vs') (ds ++ ds')
  | _, _, _, _, _, _, .nil, s => s
  | _, _, _, _, _, _, .cons h r, s => .cons h (ArgsR.app r s)
theorem RepL.args : ∀ {vs : List V} {ds : List D}, RepL K mg W vs ds → ArgsR K mg W H (List.replicate ds.length false) vs ds
  | _, _, .nil => .nil
  | _, _, .cons h r => .cons (by unfold RepM; simpa using h) (RepL.args r)
end

section
variable {X : Cx} {E : XK} {n : N0} {Ed : Str → Prop} {lv : Nat}
@[reducible] def wCall (wa : Sl → (List D → Prop) → Prop) (S : DS) (dv : List D) (Ed : Str → Prop) : Sl → (DV → Prop) → Prop := fun δ q => wa δ fun ds => S (ds ++ dv) q Ed
theorem de_call {f : Str} {br ms : List Bool} {S : DS} {dv : List D} {x : Str} {p pos : Pos} {e : Expr} {es : List Expr} {wa : Sl → (List D → Prop) → Prop} (c : Ctx X E n Ed lv) (G : FnG X.prog X.w X.K X.mg X.base lv x br S dv) (hbr : br = ms ++ List.replicate dv.length false)
    (hg : Gl X x) (ha : PA X (e :: es) (cA X.K X.mg n ms wa)) (hdb : (x == ("__debug__" : Str)) = false) (he : starEach (e :: es) X.env = (false, eval e X.env) :: starEach es X.env)
    (hpl : (backTo pos (starEach es X.env)).any (·.1) = false) : PE X (.Call (.Name x p) (e :: es) [] pos) (cE X.K X.mg n (wCall wa S dv Ed)) := by
  obtain ⟨a, fd, ps, ds, dvs, F, hm, hk, hb, hd, hr⟩ := G
  refine PE.imp (pe_call (E := E) F c.room hg hm hk hb hd c.pass ha hdb he hpl) fun σ H Q ⟨W, δ, q, st, sp, hw, k⟩ => ⟨W, δ, _, st, sp, hw, fun W1 H1 vs d1 s1 r1 q1 => ?_⟩
  have hl := (hr W1).length
  refine ⟨?_, W1, d1 ++ dv, q, Ed, s1.ok, ?_, q1, fun W' H' v dv s r hq => k W' H' v dv (s1.trans s) (VRep.pre (W := W) (fun a h => s1.fresh h) r.v) hq, fun c' C W' H' he hc s => c.exc c' C W' H' he hc ((sp.trans s1).trans s)⟩
  · rw [List.length_append, r1.len.1, hbr, List.length_append, List.length_replicate, hl]
  · rw [hbr]
    exact r1.app (hr W1).args
theorem de_call0 {f : Str} {br : List Bool} {S : DS} {dv : List D} {x : Str} {p pos : Pos} (c : Ctx X E n Ed lv) (G : FnG X.prog X.w X.K X.mg X.base lv x br S dv) (hbr : br = List.replicate dv.length false)
    (hg : Gl X x) (hdb : (x == ("__debug__" : Str)) = false) : PE X (.Call (.Name x p) [] [] pos) (cE X.K X.mg n (wCall waNil S dv Ed)) := by
  obtain ⟨a, fd, ps, ds, dvs, F, hm, hk, hb, hd, hr⟩ := G
  refine PE.imp (pe_call0 (E := E) F c.room hg hm hk hb hd c.pass hdb) fun σ H Q ⟨W, δ, q, st, sp, hw, k⟩ => ?_
  have hl := (hr W).length
  refine ⟨?_, W, dv, q, Ed, sp.ok, ?_, hw, fun W' H' v dv s r hq => k W' H' v dv s r.v hq, fun c' C W' H' he hc s => c.exc c' C W' H' he hc (sp.trans s)⟩
  · show ([] ++ dvs).length = _
    rw [List.nil_append, hbr, List.length_replicate, hl]
  · rw [hbr]
    exact (hr W).args
end

/-! ### statements -/
structure Kn where
  nx : Sl → Prop
  rt : DV → Prop
  bk : Sl → Prop
  ct : Sl → Prop
section
variable (K : PySem.W.Frag) (mg : Str → Option Value) (n : N0)
def GoS (W : Wd) (p : Sl → Prop) (P : St → Hp → Prop) : Prop := ∀ W' H' σ' δ', W.le W' → Stp n.1 n.2 W' H' → Sto K mg n W' H' σ' δ' → p δ' → P σ' H'
structure Go (W : Wd) (k : Kn) (D : Ends) : Prop where
  nx : GoS K mg n W k.nx D.nx
  bk : GoS K mg n W k.bk D.bk
  ct : GoS K mg n W k.ct D.ct
  rt : ∀ W' H' v dv, Stp n.1 n.2 W' H' → RRep K mg n.2 W' H' v dv → k.rt dv → D.rt v H'
def cS (w : Kn → Sl → Prop) : TS := fun D σ H => ∃ W δ k, Sto K mg n W H σ δ ∧ Stp n.1 n.2 W H ∧ w k δ ∧ Go K mg n W k D
end
section
variable {K : PySem.W.Frag} {mg : Str → Option Value} {n : N0} {W W' : Wd} {H : Hp}
theorem GoS.le {p : Sl → Prop} {P : St → Hp → Prop} (g : GoS K mg n W p P) (l : W.le W') : GoS K mg n W' p P := fun W2 H2 σ2 δ2 l2 s2 t2 h => g W2 H2 σ2 δ2 (l.trans l2) s2 t2 h
theorem Go.le {k : Kn} {D : Ends} (g : Go K mg n W k D) (l : W.le W') : Go K mg n W' k D := ⟨g.nx.le l, g.bk.le l, g.ct.le l, g.rt⟩
/-- a slot is set -/
theorem Sto.set {W1 : Wd} {H1 : Hp} {σ : St} {δ : Sl} {i : Nat} {v : V} {dv : DV} (st : Sto K mg n W1 H1 σ δ) (sp : Stp n.1 n.2 W1 H1) (s : Stp W1 H1 W H) (r : VRep K mg n H1 W H v dv) (hv : ∀ d, dv ≠ .bl d) : Sto K mg n W H (σ.set i (some v)) (δ.set i (some dv)) := by
  have st0 := st
  obtain ⟨l, ow, h1, h2, h3⟩ := st.step s
  obtain ⟨_, ow0, g1, g2, g3⟩ := st0
  -- the new owner map
  have key : ∃ o : Option Addr, SRep K mg n W H v o dv ∧ ∀ a, o = some a → n.2 a = none ∧ H a ≠ none ∧ Loose W a ∧ H1 a = none := by
    cases dv with
    | v d => exact ⟨none, r, fun _ z => by cases z⟩
    | own d =>
      obtain ⟨a, e, c, h, lo⟩ := r
      refine ⟨some a, ⟨a, rfl, e, c⟩, fun b z => ?_⟩
      cases z
      obtain ⟨o, eo⟩ := c.some
      exact ⟨sp.fresh h, by rw [eo]; simp, lo, h⟩
    | bp d => exact ⟨none, r, fun _ z => by cases z⟩
    | bl d => exact absurd rfl (hv d)
    | ins _ c fs => exact r.elim
  obtain ⟨o, ro, ho⟩ := key
  -- the old owners are apart from the new one: they stood in H1; ow may differ from ow0, so the owners are taken from ow0
  have h1' : ∀ j dw, δ[j]? = some (some dw) → ∃ v, σ[j]? = some (some v) ∧ SRep K mg n W H v (ow0 j) dw := fun j dw e => by
    obtain ⟨u, e1, r1⟩ := g1 j dw e
    exact ⟨u, e1, r1.step s fun a q => (g3 j a q).2.2⟩
  have h3' : ∀ j a, ow0 j = some a → n.2 a = none ∧ H a ≠ none ∧ Loose W a ∧ H1 a ≠ none := fun j a e => by
    obtain ⟨a1, a2, a3⟩ := g3 j a e
    have th : ∃ o, H1 a = some o := by
      cases q : H1 a with
      | none => exact absurd q a2
      | some o => exact ⟨o, rfl⟩
    exact ⟨a1, by rw [s.at th a3.2]; exact a2, s.loose th a3, a2⟩
  refine ⟨by rw [List.length_set, List.length_set, l], fun j => if j = i then o else ow0 j, fun j dw e => ?_, fun j k a e1 e2 => ?_, fun j a e => ?_⟩
  · by_cases hj : j = i
    · subst hj
      have hlt : j < δ.length := by
        have := (List.getElem?_eq_some_iff.mp e).1
        rwa [List.length_set] at this
      rw [List.getElem?_set_self hlt] at e
      cases e
      refine ⟨v, List.getElem?_set_self (by rw [l]; exact hlt), ?_⟩
      show SRep K mg n W H v (if j = j then o else ow0 j) dv
      rw [if_pos rfl]
      exact ro
    · rw [List.getElem?_set_ne (Ne.symm hj)] at e
      show ∃ v_1, (σ.set i (some v))[j]? = some (some v_1) ∧ SRep K mg n W H v_1 (if j = i then o else ow0 j) dw
      rw [if_neg hj, List.getElem?_set_ne (Ne.symm hj)]
      exact h1' j dw e
  · have e1 : (if j = i then o else ow0 j) = some a := e1
    have e2 : (if k = i then o else ow0 k) = some a := e2
    by_cases hj : j = i
    · by_cases hk : k = i
      · rw [hj, hk]
      · rw [if_pos hj] at e1
        rw [if_neg hk] at e2
        exact absurd (ho a e1).2.2.2 (h3' k a e2).2.2.2
    · by_cases hk : k = i
      · rw [if_neg hj] at e1
        rw [if_pos hk] at e2
        exact absurd (ho a e2).2.2.2 (h3' j a e1).2.2.2
      · rw [if_neg hj] at e1
        rw [if_neg hk] at e2
        exact g2 j k a e1 e2
  · have e : (if j = i then o else ow0 j) = some a := e
    by_cases hj : j = i
    · rw [if_pos hj] at e
      obtain ⟨a1, a2, a3, _⟩ := ho a e
      exact ⟨a1, a2, a3⟩
    · rw [if_neg hj] at e
      obtain ⟨a1, a2, a3, _⟩ := h3' j a e
      exact ⟨a1, a2, a3⟩
end

section
variable {X : Cx} {E : XK} {n : N0} {Ed : Str → Prop} {lv : Nat} {e : Expr} {st : Stmt} {rest : List Stmt} {pos : Pos}
@[reducible] def swNext : Kn → Sl → Prop := fun k δ => k.nx δ
@[reducible] def swSeq (a b : Kn → Sl → Prop) : Kn → Sl → Prop := fun k δ => a { k with nx := b k } δ
theorem ds_nil : PSs X [] (cS X.K X.mg n swNext) := PSs.imp pss_nil fun D σ H ⟨W, δ, k, st, sp, hw, g⟩ => g.nx W H σ δ (.refl _) sp st hw
theorem ds_cons {a b : Kn → Sl → Prop} (h1 : PS X st (cS X.K X.mg n a)) (h2 : PSs X rest (cS X.K X.mg n b)) : PSs X (st :: rest) (cS X.K X.mg n (swSeq a b)) :=
  PSs.imp (pss_cons h1 h2) fun D σ H ⟨W, δ, k, st, sp, hw, g⟩ => ⟨W, δ, _, st, sp, hw, ⟨fun W' H' σ' δ' l s t hq => ⟨W', δ', k, t, s, hq, g.le l⟩, g.bk, g.ct, g.rt⟩⟩
theorem ds_pass : PS X (.Pass pos) (cS X.K X.mg n swNext) := PS.imp ps_pass fun D σ H ⟨W, δ, k, st, sp, hw, g⟩ => g.nx W H σ δ (.refl _) sp st hw
/-- name = e -/
@[reducible] def stV (dv : DV) (p : Prop) : Prop := match dv with
  | .v _ => p
  | .own _ => p
  | .bp _ => p
  | _ => False
@[reducible] def swSet (i : Nat) (w : Sl → (DV → Prop) → Prop) : Kn → Sl → Prop := fun k δ => w δ fun dv => stV dv (k.nx (δ.set i (some dv)))
theorem cS.set {i : Nat} {w : Sl → (DV → Prop) → Prop} {D : Ends} {σ : St} {H : Hp} (h : cS X.K X.mg n (swSet i w) D σ H) : tAsg (cE X.K X.mg n w) (gName i) D σ H := by
  obtain ⟨W, δ, k, st, sp, hw, g⟩ := h
  refine ⟨W, δ, _, st, sp, hw, fun W1 H1 v dv s r hq => ?_⟩
  have hv : (∀ d, dv ≠ .bl d) ∧ k.nx (δ.set i (some dv)) := by
    cases dv with
    | v d => exact ⟨(fun _ z => by cases z), hq⟩
    | own d => exact ⟨(fun _ z => by cases z), hq⟩
    | bp d => exact ⟨(fun _ z => by cases z), hq⟩
    | bl d => exact hq.elim
    | ins _ c fs => exact hq.elim
  exact g.nx W1 H1 _ _ s.le (sp.trans s) (Sto.set st sp s r hv.1) hv.2
/-- name = e, what comes stands still -/
@[reducible] def swSetv (i : Nat) (w : Sl → (D → Prop) → Prop) : Kn → Sl → Prop := fun k δ => w δ fun d => k.nx (δ.set i (some (.v d)))
theorem cS.setv {i : Nat} {w : Sl → (D → Prop) → Prop} {De : Ends} {σ : L2.St} {H : Hp} (h : cS X.K X.mg n (swSetv i w) De σ H) : tAsg (cV X.K X.mg n false w) (gName i) De σ H := by
  obtain ⟨W, δ, k, st, sp, hw, g⟩ := h
  refine ⟨W, δ, _, st, sp, hw, fun W1 H1 v d s r hq => ?_⟩
  have r : Rep X.K X.mg W1 v d := by simpa [RepM] using r
  exact g.nx W1 H1 _ _ s.le (sp.trans s) (Sto.set (dv := .v d) st sp s r (fun _ z => by cases z)) hq
/-- an expression for its effect -/
@[reducible] def swExpr (w : Sl → (DV → Prop) → Prop) : Kn → Sl → Prop := fun k δ => w δ fun _ => k.nx δ
theorem ds_expr {w : Sl → (DV → Prop) → Prop} (h : PE X e (cE X.K X.mg n w)) (hs : swapsWith e none pos.line X.env = pure false) : PS X (.Expr e pos) (cS X.K X.mg n (swExpr w)) :=
  PS.imp (ps_expr h hs) fun D σ H ⟨W, δ, k, st, sp, hw, g⟩ => ⟨W, δ, _, st, sp, hw, fun W1 H1 v dv s r hq => g.nx W1 H1 σ δ s.le (sp.trans s) (st.step s) hq⟩
/-- return e -/
@[reducible] def rtV (dv : DV) (p : DV → Prop) : Prop := match dv with
  | .v d => p (.v d)
  | .own d => p (.own d)
  | _ => False
@[reducible] def swRet (w : Sl → (DV → Prop) → Prop) : Kn → Sl → Prop := fun k δ => w δ fun dv => rtV dv k.rt
theorem ds_ret {w : Sl → (DV → Prop) → Prop} (h : PE X e (cE X.K X.mg n w)) : PS X (.Return (some e) pos) (cS X.K X.mg n (swRet w)) :=
  PS.imp (ps_ret h) fun D σ H ⟨W, δ, k, st, sp, hw, g⟩ => ⟨W, δ, _, st, sp, hw, fun W1 H1 v dv s r hq => by
    cases dv with
    | v d => exact g.rt W1 H1 v (.v d) (sp.trans s) r hq
    | own d =>
      obtain ⟨a, ea, c, h, lo⟩ := r
      exact g.rt W1 H1 v (.own d) (sp.trans s) ⟨a, ea, c, sp.fresh h, lo⟩ hq
    | bp d => exact hq.elim
    | bl d => exact hq.elim
    | ins _ c fs => exact hq.elim⟩
@[reducible] def swRetN : Kn → Sl → Prop := fun k _ => k.rt (.v .non)
theorem ds_retN : PS X (.Return none pos) (cS X.K X.mg n swRetN) := PS.imp ps_retN fun D σ H ⟨W, δ, k, st, sp, hw, g⟩ => g.rt W H .non (.v .non) sp Rep.non hw
/-- return x of an own list: it is handed over -/
@[reducible] def swRetO (i : Nat) : Kn → Sl → Prop := fun k δ => match δ.getD i none with
  | some (.own d) => k.rt (.own d)
  | some (.v d) => k.rt (.v d)
  | _ => False
theorem ds_retO {i : Nat} {x : Str} {p : Pos} (hN : X.N[i]? = some x) (hv : Vis X.env.scope x) (hd : (x == ("__debug__" : Str)) = false) (hcd : (x == ("__classdict__" : Str)) = false) : PS X (.Return (some (.Name x p)) pos) (cS X.K X.mg n (swRetO i)) := by
  refine PS.imp (ps_ret (pe_var hN hv hd hcd)) fun D σ H ⟨W, δ, k, st, sp, hw, g⟩ => ?_
  obtain ⟨l, ow, h1, h2, h3⟩ := st
  unfold swRetO at hw
  rw [List.getD_eq_getElem?_getD] at hw
  cases hi : δ[i]? with
  | none => rw [hi] at hw; exact hw.elim
  | some o =>
    rw [hi] at hw
    cases o with
    | none => exact hw.elim
    | some dv =>
      obtain ⟨v, e1, r⟩ := h1 i dv hi
      refine ⟨v, e1, ?_⟩
      cases dv with
      | v d => exact g.rt W H v (.v d) sp r hw
      | own d =>
        obtain ⟨a, ea, ev, c⟩ := r
        exact g.rt W H v (.own d) sp ⟨a, ev, c, (h3 i a ea).1, (h3 i a ea).2.2⟩ hw
      | bp d => exact hw.elim
      | bl d => exact hw.elim
      | ins _ c fs => exact hw.elim
@[reducible] def swIf (wc : Sl → (Bool → Prop) → Prop) (a b : Kn → Sl → Prop) : Kn → Sl → Prop := fun k δ => wc δ fun c => if c = true then a k δ else b k δ
theorem ds_if {c : Expr} {sa sb : List Stmt} {wc : Sl → (Bool → Prop) → Prop} {a b : Kn → Sl → Prop} (hc : PT X c (cT X.K X.mg n wc)) (ha : PSs X sa (cS X.K X.mg n a)) (hb : PSs X sb (cS X.K X.mg n b)) : PS X (.If c sa sb pos) (cS X.K X.mg n (swIf wc a b)) :=
  PS.imp (ps_if hc ha hb) fun D σ H ⟨W, δ, k, st, sp, hw, g⟩ => ⟨W, δ, _, st, sp, hw, fun W1 H1 c s hq => by
    cases c with
    | true =>
      rw [if_pos rfl] at hq ⊢
      exact ⟨W1, δ, k, st.step s, sp.trans s, hq, g.le s.le⟩
    | false =>
      rw [if_neg Bool.false_ne_true] at hq ⊢
      exact ⟨W1, δ, k, st.step s, sp.trans s, hq, g.le s.le⟩⟩
/-- what was one's own stands still from here on (no statement of the text) -/
@[reducible] def swFrz (i : Nat) (a : Kn → Sl → Prop) : Kn → Sl → Prop := fun k δ => match δ.getD i none with
  | some (.own d) => a k (δ.set i (some (.v d)))
  | some (.v _) => a k δ
  | _ => False
theorem Sto.frz {K : PySem.W.Frag} {mg : Str → Option Value} {W : Wd} {H : Hp} {σ : St} {δ : Sl} {i : Nat} {d : D} (st : Sto K mg n W H σ δ) (sp : Stp n.1 n.2 W H) (hi : δ[i]? = some (some (.own d))) :
    ∃ W', W.le W' ∧ Stp n.1 n.2 W' H ∧ Sto K mg n W' H σ (δ.set i (some (.v d))) := by
  obtain ⟨l, ow, h1, h2, h3⟩ := st
  obtain ⟨v, e1, a, ea, ev, c⟩ := h1 i (.own d) hi
  obtain ⟨a1, a2, a3⟩ := h3 i a ea
  obtain ⟨o, eo⟩ := c.some
  obtain ⟨s2, l2⟩ := sp.freeze a1 eo a3.1 a3.2
  have hlt : i < δ.length := (List.getElem?_eq_some_iff.mp hi).1
  refine ⟨_, l2, s2, by rw [List.length_set, l], fun j => if j = i then none else ow j, fun j dw e => ?_, fun j k b e1 e2 => ?_, fun j b e => ?_⟩
  · by_cases hj : j = i
    · subst hj
      rw [List.getElem?_set_self hlt] at e
      cases e
      refine ⟨v, e1, ?_⟩
      show SRep K mg n _ H v (if j = j then none else ow j) (.v d)
      show Rep K mg _ v d
      subst ev
      cases d with
      | lst ds =>
        obtain ⟨xs, e2, r⟩ := c
        rw [eo] at e2; cases e2
        exact .lst (by show upd W.F a _ a = _; rw [upd_same]) (r.le l2)
      | dic ds =>
        obtain ⟨xs, e2, r⟩ := c
        rw [eo] at e2; cases e2
        exact .dic (by show upd W.F a _ a = _; rw [upd_same]) (r.le l2)
      | _ => exact c.elim
    · rw [List.getElem?_set_ne (Ne.symm hj)] at e
      obtain ⟨u, eu, ru⟩ := h1 j dw e
      refine ⟨u, eu, ?_⟩
      show SRep K mg n _ H u (if j = i then none else ow j) dw
      rw [if_neg hj]
      cases dw with
      | v d => exact Rep.le l2 ru
      | own d =>
        obtain ⟨b, eb, ev', c'⟩ := ru
        exact ⟨b, eb, ev', c'.le l2 rfl⟩
      | bp d =>
        rcases ru with ru | ⟨b, eb, c', t⟩
        · exact .inl (Rep.le l2 ru)
        · exact .inr ⟨b, eb, c'.le l2 rfl, t⟩
      | bl d => exact ru.elim
      | ins ac cc fs =>
        obtain ⟨C, dx, xs, eb, ev', hb, m, rf⟩ := ru
        exact ⟨C, dx, xs, eb, ev', hb, m, rf.le l2⟩
  · have e1 : (if j = i then none else ow j) = some b := e1
    have e2 : (if k = i then none else ow k) = some b := e2
    by_cases hj : j = i
    · rw [if_pos hj] at e1; cases e1
    · by_cases hk : k = i
      · rw [if_pos hk] at e2; cases e2
      · rw [if_neg hj] at e1
        rw [if_neg hk] at e2
        exact h2 j k b e1 e2
  · have e : (if j = i then none else ow j) = some b := e
    by_cases hj : j = i
    · rw [if_pos hj] at e; cases e
    · rw [if_neg hj] at e
      obtain ⟨b1, b2, b3⟩ := h3 j b e
      refine ⟨b1, b2, ?_, b3.2⟩
      show upd W.F a o b = none
      rw [upd_ne (fun z => hj (h2 j i a (by rw [← z]; exact e) ea))]
      exact b3.1
theorem ds_frz {i : Nat} {a : Kn → Sl → Prop} (h : PSs X rest (cS X.K X.mg n a)) : PSs X rest (cS X.K X.mg n (swFrz i a)) :=
  PSs.imp h fun D σ H ⟨W, δ, k, st, sp, hw, g⟩ => by
    unfold swFrz at hw
    rw [List.getD_eq_getElem?_getD] at hw
    cases hi : δ[i]? with
    | none => rw [hi] at hw; exact hw.elim
    | some o =>
      rw [hi] at hw
      cases o with
      | none => exact hw.elim
      | some dv =>
        cases dv with
        | v d => exact ⟨W, δ, k, st, sp, hw, g⟩
        | own d =>
          obtain ⟨W', l, s, t⟩ := st.frz sp hi
          exact ⟨W', _, k, t, s, hw, g.le l⟩
        | bp d => exact hw.elim
        | bl d => exact hw.elim
        | ins _ c fs => exact hw.elim
/-- raise C(..) -/
@[reducible] def swRaise (c : Str) (Ed : Str → Prop) : Kn → Sl → Prop := fun _ _ => Ed c
theorem ds_raise {c : Str} {C : Addr} (cx : Ctx X E n Ed lv) (tk : Takes X fun cls d _ H => E cls d H) (gC : X.mg c = some (.ref C)) (hp : PMk X e fun _ H Q => Q (.ref C) none H) : PS X (.Raise (some e) none pos) (cS X.K X.mg n (swRaise c Ed)) :=
  PS.imp (ps_raise cx.calm tk hp) fun D σ H ⟨W, δ, k, st, sp, hw, g⟩ => cx.exc c C W H hw gC sp
/-- x.append(e) of an own list -/
@[reducible] def swApp (i : Nat) (w : Sl → (D → Prop) → Prop) : Kn → Sl → Prop := fun k δ => match δ.getD i none with
  | some (.own (.lst ds)) => w δ fun d => ds.length ≤ 1000000 ∧ k.nx (δ.set i (some (.own (.lst (ds ++ [d])))))
  | _ => False
/-- the own object of slot i is another one from now on -/
theorem Sto.write {K : PySem.W.Frag} {mg : Str → Option Value} {W : Wd} {H : Hp} {σ : St} {δ : Sl} {i : Nat} {a : Addr} {dv : DV} {o : HO} (l : σ.length = δ.length) (ow : Nat → Option Addr) (h1 : ∀ i dv, δ[i]? = some (some dv) → ∃ v, σ[i]? = some (some v) ∧ SRep K mg n W H v (ow i) dv)
    (h2 : ∀ i j a, ow i = some a → ow j = some a → i = j) (h3 : ∀ i a, ow i = some a → n.2 a = none ∧ H a ≠ none ∧ Loose W a) (sp : Stp n.1 n.2 W H) (ha : ow i = some a) (hv : ∃ v, σ[i]? = some (some v) ∧ SRep K mg n W (upd H a o) v (some a) dv) :
    Stp n.1 n.2 W (upd H a o) ∧ Sto K mg n W (upd H a o) σ (δ.set i (some dv)) := by
  obtain ⟨a1, a2, a3⟩ := h3 i a ha
  refine ⟨sp.write a1 a3.1 a3.2 o, by rw [List.length_set, l], ow, fun j dw e => ?_, h2, fun j b e => ?_⟩
  · by_cases hj : j = i
    · subst hj
      have hlt : j < δ.length := by
        have := (List.getElem?_eq_some_iff.mp e).1
        rwa [List.length_set] at this
      rw [List.getElem?_set_self hlt] at e
      cases e
      obtain ⟨v, e1, r⟩ := hv
      exact ⟨v, e1, by rw [ha]; exact r⟩
    · rw [List.getElem?_set_ne (Ne.symm hj)] at e
      obtain ⟨u, eu, ru⟩ := h1 j dw e
      refine ⟨u, eu, ?_⟩
      have ne : ∀ b, ow j = some b → b ≠ a := fun b e z => hj (h2 j i a (by rw [← z]; exact e) ha)
      cases dw with
      | v d => exact ru
      | own d =>
        obtain ⟨b, eb, ev', c'⟩ := ru
        exact ⟨b, eb, ev', c'.le (.refl _) (upd_ne (ne b eb))⟩
      | bp d => exact ru
      | bl d => exact ru.elim
      | ins ac cc fs =>
        obtain ⟨C, dx, xs, eb, ev', hb, m, rf⟩ := ru
        exact ⟨C, dx, xs, eb, ev', by rw [upd_ne (ne ac eb)]; exact hb, m, rf⟩
  · obtain ⟨b1, b2, b3⟩ := h3 j b e
    refine ⟨b1, ?_, b3⟩
    by_cases hb : b = a
    · rw [hb, upd_same]; simp
    · rw [upd_ne hb]; exact b2
theorem ds_app {i : Nat} {x : Str} {p pa pc : Pos} {w : Sl → (D → Prop) → Prop} (hN : X.N[i]? = some x) (hv : Vis X.env.scope x) (hd : (x == ("__debug__" : Str)) = false) (hcd : (x == ("__classdict__" : Str)) = false)
    (h : PE X e (cV X.K X.mg n false w)) (hs : starEach (e :: []) X.env = (false, eval e X.env) :: starEach [] X.env) (hl : (pa.endLine == pc.line) = true) : PS X (.Expr (.Call (.Attribute (.Name x p) "append" pa) [e] [] pc) pos) (cS X.K X.mg n (swApp i w)) := by
  have pe := pe_bm (X := X) (cpos := pc) (apos := pa) PySem.F.plainAttrs_list PySem.F.slot_list_append PySem.F.type_list_append mt_append (pe_var (pos := p) hN hv hd hcd) (pa_cons h pa_nil hs) (by rfl) (by rw [hs]; rfl) hl hs
  refine PS.imp (ps_expr pe) fun D σ H ⟨W, δ, k, st, sp, hw, g⟩ => ?_
  have st0 := st
  obtain ⟨l, ow, h1, h2, h3⟩ := st
  unfold swApp at hw
  rw [List.getD_eq_getElem?_getD] at hw
  cases hi : δ[i]? with
  | none => rw [hi] at hw; exact hw.elim
  | some o =>
    rw [hi] at hw
    cases o with
    | none => exact hw.elim
    | some dv =>
      cases dv with
      | own d =>
        cases d with
        | lst ds =>
          obtain ⟨v, e1, a, ea, ev, xs, ex, rx⟩ := h1 i _ hi
          subst ev
          refine ⟨.ref a, e1, .inl ⟨rfl, _, SqL.of ex⟩, W, δ, _, st0, sp, hw, fun W1 H1 v d s r hq => ?_⟩
          have l2 : W.le W1 := s.le
          have th : ∀ j b, ow j = some b → ∃ o, H b = some o := fun j b e => by
            cases q : H b with
            | none => exact absurd q (h3 j b e).2.1
            | some o => exact ⟨o, rfl⟩
          have ex1 : H1 a = some (.lst xs) := s.eff a _ ex (h3 i a ea).2.2.2
          have hlen : xs.length < sizeLine := by
            have := hq.1
            have hs : sizeLine = 16777216 := sizeLine_eq
            rw [rx.length]; omega
          have rv : Rep X.K X.mg W1 v d := by simpa [RepM] using r
          have h1' : ∀ j dw, δ[j]? = some (some dw) → ∃ v, σ[j]? = some (some v) ∧ SRep X.K X.mg n W1 H1 v (ow j) dw := fun j dw e => by
            obtain ⟨u, eu, ru⟩ := h1 j dw e
            exact ⟨u, eu, ru.step s fun b q => (h3 j b q).2.2⟩
          have h3' : ∀ j b, ow j = some b → n.2 b = none ∧ H1 b ≠ none ∧ Loose W1 b := fun j b e => by
            obtain ⟨b1, b2, b3⟩ := h3 j b e
            exact ⟨b1, by rw [s.at (th j b e) b3.2]; exact b2, s.loose (th j b e) b3⟩
          obtain ⟨s3, t3⟩ := Sto.write (dv := .own (.lst (ds ++ [d]))) (o := .lst (xs ++ [v])) l ow h1' h2 h3' (sp.trans s) ea ⟨_, e1, a, rfl, rfl, xs ++ [v], upd_same, (rx.le l2).append (.cons rv .nil)⟩
          exact ⟨a, xs, v, rfl, rfl, ex1, hlen, g.nx W1 _ σ _ l2 s3 t3 hq.2⟩
        | _ => exact hw.elim
      | _ => exact hw.elim
/-- while -/
@[reducible] def swWhile (wc : Sl → (Bool → Prop) → Prop) (b : Kn → Sl → Prop) : Kn → Sl → Prop := fun k δ => ∃ I : Nat → Sl → Prop, (∃ m, I m δ) ∧ ∀ m δ, I m δ → wc δ fun c => if c = true then b { nx := fun δ' => ∃ m', m' < m ∧ I m' δ', ct := fun δ' => ∃ m', m' < m ∧ I m' δ', bk := k.nx, rt := k.rt } δ else k.nx δ
theorem ds_while {c : Expr} {body : List Stmt} {wc : Sl → (Bool → Prop) → Prop} {b : Kn → Sl → Prop} (hp : PassesOwn (model X.prog X.w) X.A X.env X.xe) (hc : PT X c (cT X.K X.mg n wc)) (hb : PSs X body (cS X.K X.mg n b)) : PS X (.While c body [] pos) (cS X.K X.mg n (swWhile wc b)) := by
  refine PS.imp (ps_while hp hc hb) fun D σ H ⟨W, δ, k, st, sp, ⟨I, ⟨m0, i0⟩, turn⟩, g⟩ => ?_
  refine ⟨fun m σ H => ∃ W' δ, W.le W' ∧ Stp n.1 n.2 W' H ∧ Sto X.K X.mg n W' H σ δ ∧ I m δ, ⟨m0, W, δ, .refl _, sp, st, i0⟩, ?_⟩
  rintro m σ H ⟨W1, δ1, l1, sp1, st1, i1⟩
  refine ⟨W1, δ1, _, st1, sp1, turn m δ1 i1, fun W2 H2 c s hq => ?_⟩
  cases c with
  | true =>
    rw [if_pos rfl] at hq ⊢
    refine ⟨fun σ' H' => ∃ m', m' < m ∧ ∃ W' δ, W.le W' ∧ Stp n.1 n.2 W' H' ∧ Sto X.K X.mg n W' H' σ' δ ∧ I m' δ, fun σ' H' ⟨m', hm, h⟩ => ⟨m', hm, h⟩, W2, δ1, _, st1.step s, sp1.trans s, hq, ?_, ?_, ?_, ?_⟩
    · exact fun W' H' σ' δ' l s' t ⟨m', hm, i'⟩ => ⟨m', hm, W', δ', (l1.trans s.le).trans l, s', t, i'⟩
    · exact fun W' H' σ' δ' l s' t h => g.nx W' H' σ' δ' ((l1.trans s.le).trans l) s' t h
    · exact fun W' H' σ' δ' l s' t ⟨m', hm, i'⟩ => ⟨m', hm, W', δ', (l1.trans s.le).trans l, s', t, i'⟩
    · exact g.rt
  | false =>
    rw [if_neg Bool.false_ne_true] at hq ⊢
    exact g.nx W2 H2 σ δ1 (l1.trans s.le) (sp1.trans s) (st1.step s) hq
end
end TT

set_option Elab.async false
set_option linter.all false
set_option maxRecDepth 100000
set_option autoImplicit false
namespace TT
open PySem PySem.Spec L2

/-! ### what is walked -/
/-- the iterator J tells the data ds, one behind the other, wherever G holds -/
structure Wk (K : PySem.W.Frag) (mg : Str → Option Value) (G : Wd → Hp → Prop) (J : It) (ds : List D) : Prop where
  go : ∀ W H i, G W H → i < ds.length → J.go i H
  stop : ∀ W H i, G W H → ds.length ≤ i → J.stop i H
  yld : ∀ W H i x H' d, G W H → WOk W H → ds[i]? = some d → J.yld i H x H' → ∃ W', Stp W H W' H' ∧ Rep K mg W' x d
def GC (W1 : Wd) (H1 : Hp) : Wd → Hp → Prop := fun W H => Stp W1 H1 W H
def GS (n : N0) (W1 : Wd) : Wd → Hp → Prop := fun W H => W1.le W ∧ Stp n.1 n.2 W H
/-- an iterable's reading: c, within a comprehension (what is lent may be walked too) -/
def cI (K : PySem.W.Frag) (mg : Str → Option Value) (n : N0) (c : Bool) (w : Sl → (List D → Prop) → Prop) : TI := fun σ H R => ∃ W δ q, Sto K mg n W H σ δ ∧ Stp n.1 n.2 W H ∧ w δ q ∧
  ∀ W' H' J ds, Stp W H W' H' → Wk K mg (if c = true then GC W' H' else GS n W') J ds → q ds → R J H'
section
variable {K : PySem.W.Frag} {mg : Str → Option Value} {n : N0} {W1 : Wd} {H1 : Hp}
theorem Wk.imp {G G' : Wd → Hp → Prop} {J : It} {ds : List D} (k : Wk K mg G J ds) (i : ∀ W H, G' W H → G W H) : Wk K mg G' J ds :=
  ⟨fun W H j g => k.go W H j (i _ _ g), fun W H j g => k.stop W H j (i _ _ g), fun W H j x H' d g => k.yld W H j x H' d (i _ _ g)⟩
theorem Wk.any {J : It} {ds : List D} {c : Bool} (s : Stp n.1 n.2 W1 H1) (k : Wk K mg (GS n W1) J ds) : Wk K mg (if c = true then GC W1 H1 else GS n W1) J ds := by
  cases c with
  | true => rw [if_pos rfl]; exact k.imp fun W H g => ⟨g.le, s.trans g⟩
  | false => rw [if_neg Bool.false_ne_true]; exact k
def rngD (lo : Int) (k : Nat) : List D := (List.range k).map fun i => .int (lo + (i : Nat))
theorem rngD_len (lo : Int) (k : Nat) : (rngD lo k).length = k := by unfold rngD; rw [List.length_map, List.length_range]
theorem wk_rng {G : Wd → Hp → Prop} (lo : Int) (k : Nat) : Wk K mg G (Itr lo k) (rngD lo k) where
  go := fun W H i _ h => by rw [rngD_len] at h; exact h
  stop := fun W H i _ h => by rw [rngD_len] at h; exact h
  yld := fun W H i x H' d _ w h y => by
    obtain ⟨rfl, rfl⟩ := y
    unfold rngD at h
    rw [List.getElem?_map] at h
    cases e : (List.range k)[i]? with
    | none => rw [e] at h; cases h
    | some j =>
      rw [e] at h
      have : j = i := by
        obtain ⟨h1, h2⟩ := List.getElem?_eq_some_iff.mp e
        rw [List.getElem_range] at h2
        exact h2.symm
      subst this
      cases h
      exact ⟨W, .refl w, Rep.int _⟩
theorem wk_lst {G : Wd → Hp → Prop} {a : Addr} {xs : List V} {ds : List D} (h : ∀ W H, G W H → H a = some (.lst xs) ∧ RepL K mg W xs ds) : Wk K mg G (Itl K a) ds where
  go := fun W H i g hi => by
    obtain ⟨e, r⟩ := h W H g
    have : i < xs.length := by rw [r.length]; exact hi
    exact ⟨xs, xs[i], SqL.of e, List.getElem?_eq_getElem this⟩
  stop := fun W H i g hi => by
    obtain ⟨e, r⟩ := h W H g
    exact ⟨xs, SqL.of e, by rw [r.length]; exact hi⟩
  yld := fun W H i x H' d g w hd y => by
    obtain ⟨rfl, y⟩ := y
    obtain ⟨e, r⟩ := h W _ g
    obtain ⟨u, eu, ru⟩ := r.get hd
    have := y xs (SqL.of e)
    rw [eu] at this; cases this
    exact ⟨W, .refl w, ru⟩
theorem wk_tup {G : Wd → Hp → Prop} {a : Addr} {xs : List V} {ds : List D} (h : ∀ W H, G W H → SqT K H a xs ∧ RepL K mg W xs ds) : Wk K mg G (Itt K a) ds where
  go := fun W H i g hi => by
    obtain ⟨e, r⟩ := h W H g
    have : i < xs.length := by rw [r.length]; exact hi
    exact ⟨xs, xs[i], e, List.getElem?_eq_getElem this⟩
  stop := fun W H i g hi => by
    obtain ⟨e, r⟩ := h W H g
    exact ⟨xs, e, by rw [r.length]; exact hi⟩
  yld := fun W H i x H' d g w hd y => by
    obtain ⟨rfl, y⟩ := y
    obtain ⟨e, r⟩ := h W _ g
    obtain ⟨u, eu, ru⟩ := r.get hd
    have := y xs e
    rw [eu] at this; cases this
    exact ⟨W, .refl w, ru⟩
end

section
variable {X : Cx} {n : N0} {tg e a b : Expr} {pos p : Pos}
@[reducible] def wRng1 (wa : Sl → (List D → Prop) → Prop) : Sl → (List D → Prop) → Prop := fun δ q => wa δ fun ds => match ds with
  | [.int j] => -4611686018427387904 ≤ j ∧ j < 4611686018427387904 ∧ q (rngD 0 j.toNat)
  | _ => False
@[reducible] def wRng2 (wa : Sl → (List D → Prop) → Prop) : Sl → (List D → Prop) → Prop := fun δ q => wa δ fun ds => match ds with
  | [.int i, .int j] => (-4611686018427387904 ≤ i ∧ i < 4611686018427387904 ∧ -4611686018427387904 ≤ j ∧ j < 4611686018427387904) ∧ q (rngD i (j - i).toNat)
  | _ => False
theorem PI.imp {iter : Expr} {t t' : TI} (h : PI X tg iter t) (i : ∀ σ H R, t' σ H R → t σ H R) : PI X tg iter t' := ⟨fun pins s σ H R I q => h.run pins s σ H R I (i _ _ _ q)⟩
theorem di_rng1 {c : Bool} {wa : Sl → (List D → Prop) → Prop} (hg : Gl X "range") (hm : X.mg "range" = none) (ha : PA X [a] (cA X.K X.mg n [true] wa)) (hs : starEach [a] X.env = [(false, eval a X.env)]) :
    PI X tg (.Call (.Name "range" p) [a] [] pos) (cI X.K X.mg n c (wRng1 wa)) :=
  PI.imp (pi_range1 hg hm ha hs) fun σ H R ⟨W, δ, q, st, sp, hw, k⟩ => ⟨W, δ, _, st, sp, hw, fun W1 H1 vs ds s r hq => by
    obtain ⟨d, rfl⟩ := r.oneD
    obtain ⟨v, rfl, r0⟩ := r.one
    cases d <;> try exact hq.elim
    cases r0.int
    exact ⟨_, rfl, hq.1, hq.2.1, k W1 H1 _ _ s (Wk.any (sp.trans s) (wk_rng _ _)) hq.2.2⟩⟩
theorem di_rng2 {c : Bool} {wa : Sl → (List D → Prop) → Prop} (hg : Gl X "range") (hm : X.mg "range" = none) (ha : PA X [a, b] (cA X.K X.mg n [true, true] wa)) (hs : starEach [a, b] X.env = [(false, eval a X.env), (false, eval b X.env)]) (hs2 : starEach [b] X.env = [(false, eval b X.env)]) :
    PI X tg (.Call (.Name "range" p) [a, b] [] pos) (cI X.K X.mg n c (wRng2 wa)) :=
  PI.imp (pi_range2 hg hm ha hs hs2) fun σ H R ⟨W, δ, q, st, sp, hw, k⟩ => ⟨W, δ, _, st, sp, hw, fun W1 H1 vs ds s r hq => by
    obtain ⟨d, d', rfl⟩ := r.twoD
    obtain ⟨v, v', rfl, r1, r2⟩ := r.two
    cases d <;> cases d' <;> try exact hq.elim
    cases r1.int; cases r2.int
    exact ⟨_, _, rfl, hq.1, k W1 H1 _ _ s (Wk.any (sp.trans s) (wk_rng _ _)) hq.2⟩⟩
/-- a list or a tuple, whichever comes -/
theorem pi_seq {l : Expr} {tl : TE} (hl : PE X l tl) : PI X tg l (fun σ H R => tl σ H fun x H1 => ∃ a, x = .ref a ∧ ((∃ xs, SqL X.K H1 a xs) ∧ R (Itl X.K a) H1 ∨ (∃ xs, SqT X.K H1 a xs) ∧ R (Itt X.K a) H1)) := by
  constructor
  intro pins s σ H R I h
  have hrun := hl.run pins s σ H _ I h
  refine thn hrun ?_
  rintro v s1 ⟨x, H1, I1, r1, a, e, q⟩
  subst e
  obtain rfl : v = Value.ref a := r1
  rcases q with ⟨⟨xs, hq⟩, q⟩ | ⟨⟨xs, hq⟩, q⟩
  · have one := pi_list (X := X) (tg := tg) (l := l) (tl := fun σ' H' Q' => σ' = σ ∧ H' = H1 ∧ Q' (.ref a) H1)
    obtain ⟨its, rv, pl, hz⟩ := I1.list hq
    refine PySem.wpAny_pyIter_list pl.isList ?_
    refine ⟨_, [s1.heap.objs.size], _, _, H1, rfl, Inv.kept (t' := s1.toks) I1 (fun b o e => Heap.get?_push_of_some _ e), turn_list a _, ⟨_, Heap.get?_push_size _ rfl, rfl, rfl⟩, ?_, q⟩
    intro b hb
    rw [List.mem_singleton] at hb
    rw [hb]
    exact I1.fpOk (Nat.le_refl _) (HOk.fresh I1.hok (Nat.le_refl _))
  · obtain ⟨its, rv, pl, hz⟩ := I1.tuple hq
    refine PySem.wpAny_pyIter_tuple (show s1.heap.IsTuple a its.toArray from pl) ?_
    refine ⟨_, [s1.heap.objs.size], _, _, H1, rfl, Inv.kept (t' := s1.toks) I1 (fun b o e => Heap.get?_push_of_some _ e), turn_tuple a _, ⟨_, Heap.get?_push_size _ rfl, rfl, rfl⟩, ?_, q⟩
    intro b hb
    rw [List.mem_singleton] at hb
    rw [hb]
    exact I1.fpOk (Nat.le_refl _) (HOk.fresh I1.hok (Nat.le_refl _))
/-- walked as it comes; within a comprehension what is lent too -/
@[reducible] def seqD (c : Bool) (dv : DV) (q : List D → Prop) : Prop := match dv with
  | .v (.lst xs) => q xs
  | .v (.tup xs) => q xs
  | .own (.lst xs) => q xs
  | .bp (.lst xs) => q xs
  | .bp (.tup xs) => q xs
  | .bl (.lst xs) => if c = true then q xs else False
  | _ => False
@[reducible] def wSeq (c : Bool) (w : Sl → (DV → Prop) → Prop) : Sl → (List D → Prop) → Prop := fun δ q => w δ fun dv => seqD c dv q
theorem GS.sub {W1 W : Wd} {H : Hp} (g : GS n W1 W H) : Same W1.F W.F := g.1.F
theorem di_seq {c : Bool} {w : Sl → (DV → Prop) → Prop} (h : PE X e (cE X.K X.mg n w)) : PI X tg e (cI X.K X.mg n c (wSeq c w)) := by
  refine PI.imp (pi_seq h) fun σ H R ⟨W, δ, q, st, sp, hw, k⟩ => ⟨W, δ, _, st, sp, hw, fun W1 H1 v dv s r hq => ?_⟩
  have spn := sp.trans s
  -- what stands still, is a list
  have stL : ∀ {a : Addr} {xs : List V} {ds : List D} {W2 : Wd}, W2.F a = some (.lst xs) → RepL X.K X.mg W2 xs ds → Wk X.K X.mg (GS n W2) (Itl X.K a) ds := fun {a xs ds W2} e r' =>
    wk_lst fun W' H' g => ⟨g.2.ok.sub _ _ (g.1.F _ _ e), r'.le g.1⟩
  have stT : ∀ {a : Addr} {xs : List V} {ds : List D} {W2 : Wd}, SqT X.K W2.F a xs → RepL X.K X.mg W2 xs ds → Wk X.K X.mg (GS n W2) (Itt X.K a) ds := fun {a xs ds W2} e r' =>
    wk_tup fun W' H' g => ⟨Same.seqT (g.1.F.trans g.2.ok.sub) e, r'.le g.1⟩
  have fixed : ∀ {W2 : Wd} {d : D}, Stp W H W2 H1 → Rep X.K X.mg W2 v d → (∀ xs, d = .lst xs → q xs) → (∀ xs, d = .tup xs → q xs) → (∃ xs, d = .lst xs ∨ d = .tup xs) →
      ∃ a, v = .ref a ∧ ((∃ xs, SqL X.K H1 a xs) ∧ R (Itl X.K a) H1 ∨ (∃ xs, SqT X.K H1 a xs) ∧ R (Itt X.K a) H1) := fun {W2 d} s2 r' q1 q2 hd => by
    obtain ⟨ds, hd | hd⟩ := hd
    · subst hd
      cases r' with
      | lst e r' => exact ⟨_, rfl, .inl ⟨⟨_, SqL.of (s2.ok.sub _ _ e)⟩, k W2 H1 _ ds s2 (Wk.any (sp.trans s2) (stL e r')) (q1 ds rfl)⟩⟩
    · subst hd
      cases r' with
      | tup e r' => exact ⟨_, rfl, .inr ⟨⟨_, Same.seqT s2.ok.sub e⟩, k W2 H1 _ ds s2 (Wk.any (sp.trans s2) (stT e r')) (q2 ds rfl)⟩⟩
  cases dv with
  | v d =>
    cases d <;> try exact hq.elim
    · exact fixed s r (fun xs e => by cases e) (fun xs e => by cases e; exact hq) ⟨_, .inr rfl⟩
    · exact fixed s r (fun xs e => by cases e; exact hq) (fun xs e => by cases e) ⟨_, .inl rfl⟩
  | own d =>
    cases d <;> try exact hq.elim
    obtain ⟨W2, s2, l2, r2⟩ := VRep.freeze s r
    exact fixed s2 r2 (fun xs e => by cases e; exact hq) (fun xs e => by cases e) ⟨_, .inl rfl⟩
  | bp d =>
    have r := r
    rcases r with r | ⟨a, rfl, cc, t⟩
    · cases d <;> try exact hq.elim
      · exact fixed s r (fun xs e => by cases e) (fun xs e => by cases e; exact hq) ⟨_, .inr rfl⟩
      · exact fixed s r (fun xs e => by cases e; exact hq) (fun xs e => by cases e) ⟨_, .inl rfl⟩
    · cases d <;> try exact cc.elim
      · rename_i ds
        obtain ⟨xs, e, r'⟩ := cc
        refine ⟨a, rfl, .inl ⟨⟨xs, SqL.of (spn.eff a _ e t)⟩, k W1 H1 _ ds s (Wk.any spn (wk_lst fun W' H' g => ⟨g.2.eff a _ e t, r'.le g.1⟩)) hq⟩⟩
      · exact hq.elim
  | bl d =>
    cases d <;> try exact hq.elim
    rename_i ds
    cases c with
    | false => exact absurd (show False from by simpa [seqD] using hq) id
    | true =>
      have hq : q ds := by simpa [seqD] using hq
      have r := r
      rcases r with r | ⟨a, rfl, ⟨xs, e, r'⟩, t⟩
      · exact fixed s r (fun xs e => by cases e; exact hq) (fun xs e => by cases e) ⟨_, .inl rfl⟩
      · refine ⟨a, rfl, .inl ⟨⟨xs, SqL.of e⟩, k W1 H1 _ ds s ?_ hq⟩⟩
        rw [if_pos rfl]
        exact wk_lst fun W' H' g => ⟨g.eff a _ e t, r'.le g.le⟩
  | ins _ cc fs => exact hq.elim
end

/-! ### targets -/
inductive Tg where
  | nm (i : Nat)
  | tp (ts : List Tg)
mutual
def tgD : Tg → D → Sl → (Sl → Prop) → Prop
  | .nm i, d, δ, p => p (δ.set i (some (.v d)))
  | .tp ts, .tup xs, δ, p => tgsD ts xs δ p
  | .tp ts, .lst xs, δ, p => tgsD ts xs δ p
  | .tp _, _, _, _ => False
def tgsD : List Tg → List D → Sl → (Sl → Prop) → Prop
  | [], [], δ, p => p δ
  | t :: ts, d :: ds, δ, p => tgD t d δ fun δ' => tgsD ts ds δ' p
  | _, _, _, _ => False
end
mutual
def Tg.slots : Tg → List Nat
  | .nm i => [i]
  | .tp ts => Tg.slotsL ts
def Tg.slotsL : List Tg → List Nat
  | [] => []
  | t :: ts => t.slots ++ Tg.slotsL ts
end
def Apart (ss : List Nat) (σ σ' : L2.St) : Prop := ∀ vs : List Nat, (∀ i ∈ ss, i ∈ vs) → wipe σ' vs = wipe σ vs
section
variable (K : PySem.W.Frag) (mg : Str → Option Value) (n : N0)
/-- wherever the slots were told so, they are told so now -/
def Mv (W : Wd) (σ : L2.St) (δ : Sl) (σ' : L2.St) (δ' : Sl) : Prop := ∀ W' H', W.le W' → Stp n.1 n.2 W' H' → Sto K mg n W' H' σ δ → Sto K mg n W' H' σ' δ'
def cG (ss : List Nat) (w : D → Sl → (Sl → Prop) → Prop) : TG := fun v σ H Q => ∃ W δ d p, Sto K mg n W H σ δ ∧ Stp n.1 n.2 W H ∧ Rep K mg W v d ∧ w d δ p ∧ ∀ σ' δ', Mv K mg n W σ δ σ' δ' → Apart ss σ σ' → p δ' → Q σ' H
def cGs (ss : List Nat) (w : List D → Sl → (Sl → Prop) → Prop) : TGs := fun vs σ H Q => ∃ W δ ds p, Sto K mg n W H σ δ ∧ Stp n.1 n.2 W H ∧ RepL K mg W vs ds ∧ w ds δ p ∧ ∀ σ' δ', Mv K mg n W σ δ σ' δ' → Apart ss σ σ' → p δ' → Q σ' H
end
theorem wipe_set {σ : L2.St} {i : Nat} {o : Option V} : ∀ {vs : List Nat}, i ∈ vs → wipe (σ.set i o) vs = wipe σ vs
  | [], h => by cases h
  | v :: vs, h => by
    show (wipe (σ.set i o) vs).set v none = (wipe σ vs).set v none
    by_cases hm : i ∈ vs
    · rw [wipe_set hm]
    · have hv : i = v := by
        rcases List.mem_cons.mp h with e | e
        · exact e
        · exact absurd e hm
      subst hv
      have aux : ∀ (us : List Nat), i ∉ us → wipe (σ.set i o) us = (wipe σ us).set i o := by
        intro us
        induction us with
        | nil => intro _; rfl
        | cons u us ih =>
          intro hu
          show (wipe (σ.set i o) us).set u none = ((wipe σ us).set u none).set i o
          rw [ih (fun z => hu (List.mem_cons_of_mem _ z)), List.set_comm _ _ (fun z : i = u => hu (by rw [z]; exact List.mem_cons_self))]
      rw [aux vs hm, List.set_set]
section
variable {X : Cx} {n : N0} {e : Expr} {es : List Expr} {pos : Pos}
theorem PG.imp {t t' : TG} (h : PG X e t) (i : ∀ v σ H Q, t' v σ H Q → t v σ H Q) : PG X e t' := ⟨fun pins s σ H v u Q I r q => h.run pins s σ H v u Q I r (i _ _ _ _ q)⟩
theorem PGs.imp {t t' : TGs} (h : PGs X es t) (i : ∀ v σ H Q, t' v σ H Q → t v σ H Q) : PGs X es t' := ⟨fun pins s σ H v u Q I r q => h.run pins s σ H v u Q I r (i _ _ _ _ q)⟩
theorem dg_nm {i : Nat} {x : Str} (hN : X.N.Nodup) (hi : X.N[i]? = some x) (hx : Loc X.env.scope x) (hf : X.fn x = true ∨ X.env.scope.names.lookup x = some .local) : PG X (.Name x pos) (cG X.K X.mg n [i] (tgD (.nm i))) :=
  PG.imp (pg_name hN hi hx hf) fun v σ H Q ⟨W, δ, d, p, st, sp, r, hw, k⟩ => by
    have hw : p (δ.set i (some (.v d))) := by simpa only [tgD] using hw
    exact k _ _ (fun W' H' l sp' st' => Sto.set st' sp' (.refl sp'.ok) (dv := .v d) (r.le l) (fun _ z => by cases z)) (fun vs h => wipe_set (h i (List.mem_singleton.mpr rfl))) hw
theorem dgs_nil : PGs X [] (cGs X.K X.mg n [] (tgsD [])) := PGs.imp pgs_nil fun vs σ H Q ⟨W, δ, ds, p, st, sp, r, hw, k⟩ => by
  cases r with
  | nil =>
    have hw : p δ := by simpa only [tgsD] using hw
    exact ⟨rfl, k σ δ (fun _ _ _ _ st => st) (fun _ _ => rfl) hw⟩
  | cons _ _ => exact (show False from by simpa only [tgsD] using hw).elim
theorem dgs_cons {t : Tg} {ts : List Tg} (h : PG X e (cG X.K X.mg n t.slots (tgD t))) (hs : PGs X es (cGs X.K X.mg n (Tg.slotsL ts) (tgsD ts))) (hq : (assignEach (e :: es) X.env).map (·.2) = assign e X.env :: (assignEach es X.env).map (·.2)) :
    PGs X (e :: es) (cGs X.K X.mg n (Tg.slotsL (t :: ts)) (tgsD (t :: ts))) :=
  PGs.imp (pgs_cons h hs hq) fun vs σ H Q ⟨W, δ, ds, p, st, sp, r, hw, k⟩ => by
    cases r with
    | nil => exact (show False from by simpa only [tgsD] using hw).elim
    | cons r1 r2 =>
      have hw := (show tgD t _ δ fun δ' => tgsD ts _ δ' p from by simpa only [tgsD] using hw)
      refine ⟨_, _, rfl, W, δ, _, _, st, sp, r1, hw, fun σ1 δ1 m1 a1 h1 => ⟨W, δ1, _, p, m1 W H (.refl W) sp st, sp, r2, h1, fun σ2 δ2 m2 a2 h2 => k σ2 δ2 (fun W' H' l sp' st' => m2 W' H' l sp' (m1 W' H' l sp' st')) (fun vs hv => ?_) h2⟩⟩
      have e1 : ∀ i ∈ t.slots, i ∈ vs := fun i hi => hv i (by simp only [Tg.slotsL]; exact List.mem_append_left _ hi)
      have e2 : ∀ i ∈ Tg.slotsL ts, i ∈ vs := fun i hi => hv i (by simp only [Tg.slotsL]; exact List.mem_append_right _ hi)
      rw [a2 vs e2, a1 vs e1]
theorem PG.or {g g' : TG} (h : PG X e g) (h' : PG X e g') : PG X e (fun v σ H Q => g v σ H Q ∨ g' v σ H Q) := ⟨fun pins s σ H v u Q I r q => q.elim (h.run pins s σ H v u Q I r) (h'.run pins s σ H v u Q I r)⟩
theorem dg_tp {ts : List Tg} {k : Nat} (hc : X.calm = true) (h : PGs X es (cGs X.K X.mg n (Tg.slotsL ts) (tgsD ts))) (hn : (assignEach es X.env).length = ts.length) (hst : (assignEach es X.env).findIdx? (·.1) = none) :
    PG X (.Tuple es k pos) (cG X.K X.mg n (Tg.slots (.tp ts)) (tgD (.tp ts))) := by
  refine PG.imp (PG.or (pg_tup hc h hn hst) (pg_lst hc h hn hst)) fun v σ H Q ⟨W, δ, d, p, st, sp, r, hw, k⟩ => ?_
  have len : ∀ (ts : List Tg) (ds : List D) (δ : Sl) (p : Sl → Prop), tgsD ts ds δ p → (∀ t d δ p, tgD t d δ p → ∃ δ', p δ') → ds.length = ts.length := by
    intro ts
    induction ts with
    | nil => intro ds δ p h _; cases ds with
      | nil => rfl
      | cons _ _ => exact (show False from by simpa only [tgsD] using h).elim
    | cons t ts ih => intro ds δ p h g; cases ds with
      | nil => exact (show False from by simpa only [tgsD] using h).elim
      | cons d ds =>
        have h := (show tgD t d δ fun δ' => tgsD ts ds δ' p from by simpa only [tgsD] using h)
        obtain ⟨δ', h⟩ := g _ _ _ _ h
        exact congrArg (· + 1) (ih ds δ' p h g)
  have some_ : ∀ (t : Tg) (d : D) (δ : Sl) (p : Sl → Prop), tgD t d δ p → ∃ δ', p δ' := by
    intro t
    refine Tg.rec (motive_1 := fun t => ∀ (d : D) (δ : Sl) (p : Sl → Prop), tgD t d δ p → ∃ δ', p δ') (motive_2 := fun ts => ∀ (ds : List D) (δ : Sl) (p : Sl → Prop), tgsD ts ds δ p → ∃ δ', p δ') ?_ ?_ ?_ ?_ t
    · intro i d δ p h
      exact ⟨_, by simpa only [tgD] using h⟩
    · intro ts ih d δ p h
      cases d <;> simp only [tgD] at h
      · exact ih _ _ _ h
      · exact ih _ _ _ h
    · intro ds δ p h
      cases ds <;> simp only [tgsD] at h
      exact ⟨_, h⟩
    · intro t ts i1 i2 ds δ p h
      cases ds <;> simp only [tgsD] at h
      obtain ⟨δ', h⟩ := i1 _ _ _ h
      exact i2 _ _ _ h
  cases d <;> try exact (show False from by simpa only [tgD] using hw).elim
  · rename_i ds
    have hw : tgsD ts ds δ p := by simpa only [tgD] using hw
    cases r with
    | tup e r => exact .inl ⟨_, _, rfl, Same.seqT sp.ok.sub e, by rw [r.length]; exact len ts ds δ p hw some_, W, δ, ds, p, st, sp, r, hw, k⟩
  · rename_i ds
    have hw : tgsD ts ds δ p := by simpa only [tgD] using hw
    cases r with
    | lst e r => exact .inr ⟨_, _, rfl, SqL.of (sp.ok.sub _ _ e), by rw [r.length]; exact len ts ds δ p hw some_, W, δ, ds, p, st, sp, r, hw, k⟩
end

/-! ### for -/
def forD (t : Tg) (b : Kn → Sl → Prop) (k : Kn) : List D → Sl → Prop
  | [], δ => k.nx δ
  | d :: ds, δ => tgD t d δ fun δ' => b { nx := forD t b k ds, ct := forD t b k ds, bk := k.nx, rt := k.rt } δ'
@[reducible] def swFor (wi : Sl → (List D → Prop) → Prop) (t : Tg) (b : Kn → Sl → Prop) : Kn → Sl → Prop := fun k δ => wi δ fun ds => forD t b k ds δ
section
variable {X : Cx} {n : N0} {tg iter : Expr} {body : List Stmt} {pos : Pos}
theorem ds_for {wi : Sl → (List D → Prop) → Prop} {t : Tg} {b : Kn → Sl → Prop} (hp : PassesOwn (model X.prog X.w) X.A X.env X.xe) (hc : X.calm = true) (hi : PI X tg iter (cI X.K X.mg n false wi)) (hg : PG X tg (cG X.K X.mg n t.slots (tgD t))) (hb : PSs X body (cS X.K X.mg n b))
    (hs : ∀ x, foldedSetIterable iter X.env x = pure x) : PS X (.For tg iter body [] pos) (cS X.K X.mg n (swFor wi t b)) := by
  refine PS.imp (ps_for hp hc hi hg hb hs) fun D σ H ⟨W, δ, k, st, sp, hw, g⟩ => ⟨W, δ, _, st, sp, hw, fun W1 H1 J ds s wk hq => ?_⟩
  rw [if_neg Bool.false_ne_true] at wk
  refine ⟨fun i m σ H => m = ds.length - i ∧ i ≤ ds.length ∧ ∃ W' δ, W1.le W' ∧ Stp n.1 n.2 W' H ∧ Sto X.K X.mg n W' H σ δ ∧ forD t b k (ds.drop i) δ, ⟨ds.length, rfl, Nat.zero_le _, W1, δ, .refl _, sp.trans s, st.step s, hq⟩, ?_⟩
  rintro i m σ2 H2 ⟨rfl, hi, W2, δ2, l2, sp2, st2, h2⟩
  by_cases hlt : i < ds.length
  · rw [List.drop_eq_getElem_cons hlt] at h2
    refine .inr ⟨wk.go W2 H2 i ⟨l2, sp2⟩ hlt, fun σ' H' => ∃ W' δ, W1.le W' ∧ Stp n.1 n.2 W' H' ∧ Sto X.K X.mg n W' H' σ' δ ∧ forD t b k (ds.drop (i + 1)) δ, fun σ' H' h => ⟨_, Nat.sub_lt_sub_left hlt (Nat.lt_succ_self i), rfl, hlt, h⟩, fun x H3 y => ?_⟩
    obtain ⟨W3, s3, r3⟩ := wk.yld W2 H2 i x H3 ds[i] ⟨l2, sp2⟩ sp2.ok (List.getElem?_eq_getElem hlt) y
    refine ⟨W3, δ2, ds[i], _, st2.step s3, sp2.trans s3, r3, h2, fun σ' δ' mv _ h' => ⟨W3, δ', _, mv W3 _ (.refl W3) (sp2.trans s3) (st2.step s3), sp2.trans s3, h', ?_, ?_, ?_, g.rt⟩⟩
    · exact fun W' H' σ' δ' l s' t' h => ⟨W', δ', (l2.trans s3.le).trans l, s', t', h⟩
    · exact fun W' H' σ' δ' l s' t' h => g.nx W' H' σ' δ' (((s.le.trans l2).trans s3.le).trans l) s' t' h
    · exact fun W' H' σ' δ' l s' t' h => ⟨W', δ', (l2.trans s3.le).trans l, s', t', h⟩
  · have e : i = ds.length := by omega
    subst e
    rw [List.drop_length] at h2
    exact .inl ⟨wk.stop W2 H2 _ ⟨l2, sp2⟩ (Nat.le_refl _), g.nx W2 H2 σ2 δ2 (s.le.trans l2) sp2 st2 h2⟩
end

/-! ### [e for x in xs if t] -/
def compD (t : Tg) (wt : Sl → (Bool → Prop) → Prop) (we : Sl → (D → Prop) → Prop) (δ : Sl) (q : List D → Prop) : List D → List D → Prop
  | [], acc => q acc
  | d :: ds, acc => tgD t d δ fun δ2 => wt δ2 fun b => if b = true then we δ2 fun y => acc.length ≤ 1000000 ∧ compD t wt we δ q ds (acc ++ [y]) else compD t wt we δ q ds acc
@[reducible] def wipeD (δ : Sl) : List Nat → Sl
  | [] => δ
  | v :: vs => (wipeD δ vs).set v none
@[reducible] def wComp (wi : Sl → (List D → Prop) → Prop) (t : Tg) (wt : Sl → (Bool → Prop) → Prop) (we : Sl → (D → Prop) → Prop) (vs : List Nat) : Sl → (DV → Prop) → Prop := fun δ q => wi δ fun ds => compD t wt we (wipeD δ vs) (fun acc => q (.own (.lst acc))) ds []
section
variable {K : PySem.W.Frag} {mg : Str → Option Value} {n : N0}
theorem Sto.drop {W : Wd} {H : Hp} {σ : L2.St} {δ : Sl} (st : Sto K mg n W H σ δ) (i : Nat) : Sto K mg n W H (σ.set i none) (δ.set i none) := by
  obtain ⟨l, ow, h1, h2, h3⟩ := st
  refine ⟨by rw [List.length_set, List.length_set, l], ow, fun j dw e => ?_, h2, h3⟩
  by_cases hj : j = i
  · subst hj
    have hlt : j < δ.length := by
      have := (List.getElem?_eq_some_iff.mp e).1
      rwa [List.length_set] at this
    rw [List.getElem?_set_self hlt] at e
    cases e
  · rw [List.getElem?_set_ne (Ne.symm hj)] at e ⊢
    exact h1 j dw e
theorem Sto.wipe {W : Wd} {H : Hp} {σ : L2.St} {δ : Sl} (st : Sto K mg n W H σ δ) : ∀ vs : List Nat, Sto K mg n W H (L2.wipe σ vs) (wipeD δ vs)
  | [] => st
  | v :: vs => (Sto.wipe st vs).drop v
end
section
variable {X : Cx} {n : N0} {tg iter elt : Expr} {ifs : List Expr} {scope : Scope} {pos : Pos}
theorem cE.comp {wi : Sl → (List D → Prop) → Prop} {t : Tg} {wt : Sl → (Bool → Prop) → Prop} {we : Sl → (D → Prop) → Prop} {vs : List Nat} (hv : ∀ i ∈ t.slots, i ∈ vs) {σ : L2.St} {H : Hp} {Q : VK} (h : cE X.K X.mg n (wComp wi t wt we vs) σ H Q) :
    tLc (cI X.K X.mg n true wi) (cG X.K X.mg n t.slots (tgD t)) (cT X.K X.mg n wt) (cV X.K X.mg n false we) vs σ H Q := by
  obtain ⟨W, δ, q, st, sp, hw, k⟩ := h
  refine ⟨W, δ, _, st, sp, hw, fun W1 H1 J ds s wk hq L hL => ?_⟩
  rw [if_pos rfl] at wk
  have sp1 := sp.trans s
  have st1 := (st.step s).wipe vs
  have nF : W1.F L = none := s.ok.sub.free hL
  have nT : ¬ W1.ofTown L := s.ok.notTown hL
  -- what holds at the head of turn i
  refine ⟨fun i m H => m = ds.length - i ∧ i ≤ ds.length ∧ ∃ W' acc vacc, Stp W1 H1 W' H ∧ H L = some (.lst vacc) ∧ RepL X.K X.mg W' vacc acc ∧ Loose W' L ∧ compD t wt we (wipeD δ vs) (fun acc => q (.own (.lst acc))) (ds.drop i) acc,
    ⟨ds.length, rfl, Nat.zero_le _, W1, [], [], Stp.laidOwn s.ok hL _, upd_same, .nil, ⟨nF, nT⟩, hq⟩, ?_⟩
  rintro i m H2 ⟨rfl, hi, W2, acc, vacc, s2, eL, rL, lo, h2⟩
  by_cases hlt : i < ds.length
  · rw [List.drop_eq_getElem_cons hlt] at h2
    refine .inr ⟨wk.go W2 H2 i s2 hlt, fun H' => ∃ W' acc vacc, Stp W1 H1 W' H' ∧ H' L = some (.lst vacc) ∧ RepL X.K X.mg W' vacc acc ∧ Loose W' L ∧ compD t wt we (wipeD δ vs) (fun acc => q (.own (.lst acc))) (ds.drop (i + 1)) acc,
      fun H' h => ⟨_, Nat.sub_lt_sub_left hlt (Nat.lt_succ_self i), rfl, hlt, h⟩, fun x H3 y => ?_⟩
    obtain ⟨W3, s3, r3⟩ := wk.yld W2 H2 i x H3 ds[i] s2 s2.ok (List.getElem?_eq_getElem hlt) y
    have s13 := s2.trans s3
    have eL3 : H3 L = some (.lst vacc) := s3.eff L _ eL lo.2
    have lo3 := s3.loose ⟨_, eL⟩ lo
    refine ⟨W3, wipeD δ vs, ds[i], _, st1.step s13, sp1.trans s13, r3, h2, fun σ4 δ4 mv ap h4 => ⟨?_, ?_⟩⟩
    · have := ap vs hv
      -- wiping twice changes nothing
      have twice : ∀ (us : List Nat), (∀ u ∈ us, u ∈ vs) → L2.wipe (L2.wipe σ vs) us = L2.wipe σ vs := by
        intro us
        induction us with
        | nil => intro _; rfl
        | cons u us ih =>
          intro hu
          show (L2.wipe (L2.wipe σ vs) us).set u none = L2.wipe σ vs
          rw [ih fun z hz => hu z (List.mem_cons_of_mem _ hz)]
          have hm := hu u List.mem_cons_self
          have gone : ∀ ws : List Nat, u ∈ ws → (L2.wipe σ ws).set u none = L2.wipe σ ws := by
            intro ws
            induction ws with
            | nil => intro h; cases h
            | cons w ws ih2 =>
              intro h
              show ((L2.wipe σ ws).set w none).set u none = (L2.wipe σ ws).set w none
              by_cases hw : u = w
              · subst hw
                rw [List.set_set]
              · rcases List.mem_cons.mp h with e | e
                · exact absurd e hw
                · rw [List.set_comm _ _ (Ne.symm hw), ih2 e]
          exact gone vs hm
      exact this.trans (twice vs fun _ h => h)
    · have st4 := mv W3 _ (.refl W3) (sp1.trans s13) (st1.step s13)
      refine ⟨W3, δ4, _, st4, sp1.trans s13, h4, fun W5 H5 c s5 h5 => ?_⟩
      have eL5 : H5 L = some (.lst vacc) := s5.eff L _ eL3 lo3.2
      have lo5 := s5.loose ⟨_, eL3⟩ lo3
      cases c with
      | false =>
        simp only [Bool.false_eq_true, if_false] at h5 ⊢
        exact ⟨W5, acc, vacc, s13.trans s5, eL5, (rL.le s3.le).le s5.le, lo5, h5⟩
      | true =>
        simp only [if_true] at h5 ⊢
        refine ⟨W5, δ4, _, st4.step s5, (sp1.trans s13).trans s5, h5, fun W6 H6 v d s6 r6 h6 => ?_⟩
        have eL6 : H6 L = some (.lst vacc) := s6.eff L _ eL5 lo5.2
        have lo6 := s6.loose ⟨_, eL5⟩ lo5
        have rL6 := ((rL.le s3.le).le s5.le).le s6.le
        have rv : Rep X.K X.mg W6 v d := by simpa [RepM] using r6
        refine ⟨vacc, eL6, ?_, W6, acc ++ [d], vacc ++ [v], ((s13.trans s5).trans s6).write hL lo6.1 lo6.2 _, upd_same, rL6.append (.cons rv .nil), lo6, h6.2⟩
        have := h6.1
        have hs : sizeLine = 16777216 := sizeLine_eq
        rw [rL6.length]; omega
  · have e : i = ds.length := by omega
    subst e
    rw [List.drop_length] at h2
    refine .inl ⟨wk.stop W2 H2 _ s2 (Nat.le_refl _), ?_⟩
    exact k W2 H2 (.ref L) (.own (.lst acc)) (s.trans s2) ⟨L, rfl, ⟨vacc, eL, rL⟩, s.fresh hL, lo⟩ h2
theorem wipe_in {σ : L2.St} {u : Nat} : ∀ ws : List Nat, u ∈ ws → (L2.wipe σ ws).set u none = L2.wipe σ ws
  | [], h => by cases h
  | w :: ws, h => by
    show ((L2.wipe σ ws).set w none).set u none = (L2.wipe σ ws).set w none
    by_cases hw : u = w
    · subst hw
      rw [List.set_set]
    · rcases List.mem_cons.mp h with e | e
      · exact absurd e hw
      · rw [List.set_comm _ _ (Ne.symm hw), wipe_in ws e]
theorem wipe_twice {σ : L2.St} {vs : List Nat} : ∀ us : List Nat, (∀ u ∈ us, u ∈ vs) → L2.wipe (L2.wipe σ vs) us = L2.wipe σ vs
  | [], _ => rfl
  | u :: us, hu => by
    show (L2.wipe (L2.wipe σ vs) us).set u none = L2.wipe σ vs
    rw [wipe_twice us fun z hz => hu z (List.mem_cons_of_mem _ hz)]
    exact wipe_in vs (hu u List.mem_cons_self)
/-- two sources -/
def comp2D (t : Tg) (wt : Sl → (Bool → Prop) → Prop) (wi1 : Sl → (List D → Prop) → Prop) (t1 : Tg) (wt1 : Sl → (Bool → Prop) → Prop) (we : Sl → (D → Prop) → Prop) (vs1 : List Nat) (δ : Sl) (q : List D → Prop) : List D → List D → Prop
  | [], acc => q acc
  | d :: ds, acc => tgD t d δ fun δ2 => wt δ2 fun b => if b = true then wi1 δ2 fun es => compD t1 wt1 we (wipeD δ2 vs1) (comp2D t wt wi1 t1 wt1 we vs1 δ q ds) es acc else comp2D t wt wi1 t1 wt1 we vs1 δ q ds acc
@[reducible] def wComp2 (wi : Sl → (List D → Prop) → Prop) (t : Tg) (wt : Sl → (Bool → Prop) → Prop) (wi1 : Sl → (List D → Prop) → Prop) (t1 : Tg) (wt1 : Sl → (Bool → Prop) → Prop) (we : Sl → (D → Prop) → Prop) (vs vs1 : List Nat) : Sl → (DV → Prop) → Prop :=
  fun δ q => wi δ fun ds => comp2D t wt wi1 t1 wt1 we vs1 (wipeD δ vs) (fun acc => q (.own (.lst acc))) ds []
theorem cE.comp2 {wi wi1 : Sl → (List D → Prop) → Prop} {t t1 : Tg} {wt wt1 : Sl → (Bool → Prop) → Prop} {we : Sl → (D → Prop) → Prop} {vs vs1 : List Nat} (hv : ∀ i ∈ t.slots, i ∈ vs) (hv1 : ∀ i ∈ t1.slots, i ∈ vs1) {σ : L2.St} {H : Hp} {Q : VK} (h : cE X.K X.mg n (wComp2 wi t wt wi1 t1 wt1 we vs vs1) σ H Q) :
    tLc2 (cI X.K X.mg n true wi) (cG X.K X.mg n t.slots (tgD t)) (cT X.K X.mg n wt) (cI X.K X.mg n false wi1) (cG X.K X.mg n t1.slots (tgD t1)) (cT X.K X.mg n wt1) (cV X.K X.mg n false we) vs vs1 σ H Q := by
  obtain ⟨W, δ, q, st, sp, hw, k⟩ := h
  refine ⟨W, δ, _, st, sp, hw, fun W1 H1 J ds s wk hq L hL => ?_⟩
  rw [if_pos rfl] at wk
  have sp1 := sp.trans s
  have st1 := (st.step s).wipe vs
  have nF : W1.F L = none := s.ok.sub.free hL
  have nT : ¬ W1.ofTown L := s.ok.notTown hL
  refine ⟨fun i m H => m = ds.length - i ∧ i ≤ ds.length ∧ ∃ W' acc vacc, Stp W1 H1 W' H ∧ H L = some (.lst vacc) ∧ RepL X.K X.mg W' vacc acc ∧ Loose W' L ∧ comp2D t wt wi1 t1 wt1 we vs1 (wipeD δ vs) (fun acc => q (.own (.lst acc))) (ds.drop i) acc,
    ⟨ds.length, rfl, Nat.zero_le _, W1, [], [], Stp.laidOwn s.ok hL _, upd_same, .nil, ⟨nF, nT⟩, hq⟩, ?_⟩
  rintro i m H2 ⟨rfl, hi, W2, acc, vacc, s2, eL, rL, lo, h2⟩
  by_cases hlt : i < ds.length
  · rw [List.drop_eq_getElem_cons hlt] at h2
    refine .inr ⟨wk.go W2 H2 i s2 hlt, fun H' => ∃ W' acc vacc, Stp W1 H1 W' H' ∧ H' L = some (.lst vacc) ∧ RepL X.K X.mg W' vacc acc ∧ Loose W' L ∧ comp2D t wt wi1 t1 wt1 we vs1 (wipeD δ vs) (fun acc => q (.own (.lst acc))) (ds.drop (i + 1)) acc,
      fun H' h => ⟨_, Nat.sub_lt_sub_left hlt (Nat.lt_succ_self i), rfl, hlt, h⟩, fun x H3 y => ?_⟩
    obtain ⟨W3, s3, r3⟩ := wk.yld W2 H2 i x H3 ds[i] s2 s2.ok (List.getElem?_eq_getElem hlt) y
    have s13 := s2.trans s3
    have eL3 : H3 L = some (.lst vacc) := s3.eff L _ eL lo.2
    have lo3 := s3.loose ⟨_, eL⟩ lo
    refine ⟨W3, wipeD δ vs, ds[i], _, st1.step s13, sp1.trans s13, r3, h2, fun σ4 δ4 mv ap h4 => ⟨(ap vs hv).trans (wipe_twice vs fun _ h => h), ?_⟩⟩
    have st4 := mv W3 _ (.refl W3) (sp1.trans s13) (st1.step s13)
    refine ⟨W3, δ4, _, st4, sp1.trans s13, h4, fun W5 H5 c s5 h5 => ?_⟩
    have eL5 : H5 L = some (.lst vacc) := s5.eff L _ eL3 lo3.2
    have lo5 := s5.loose ⟨_, eL3⟩ lo3
    have rL5 := (rL.le s3.le).le s5.le
    have s15 := s13.trans s5
    cases c with
    | false =>
      simp only [Bool.false_eq_true, if_false] at h5 ⊢
      exact ⟨W5, acc, vacc, s15, eL5, rL5, lo5, h5⟩
    | true =>
      simp only [if_true] at h5 ⊢
      -- the second source
      refine ⟨W5, δ4, _, st4.step s5, sp1.trans s15, h5, fun W6 H6 J1 es s6 wk1 hq1 => ?_⟩
      rw [if_neg Bool.false_ne_true] at wk1
      have eL6 : H6 L = some (.lst vacc) := s6.eff L _ eL5 lo5.2
      have lo6 := s6.loose ⟨_, eL5⟩ lo5
      have rL6 := rL5.le s6.le
      have s16 := s15.trans s6
      have l36 := s5.le.trans s6.le
      refine ⟨fun j k H => k = es.length - j ∧ j ≤ es.length ∧ ∃ W' acc vacc, Stp W1 H1 W' H ∧ W6.le W' ∧ H L = some (.lst vacc) ∧ RepL X.K X.mg W' vacc acc ∧ Loose W' L ∧ compD t1 wt1 we (wipeD δ4 vs1) (comp2D t wt wi1 t1 wt1 we vs1 (wipeD δ vs) (fun acc => q (.own (.lst acc))) (ds.drop (i + 1))) (es.drop j) acc,
        ⟨es.length, rfl, Nat.zero_le _, W6, acc, vacc, s16, .refl _, eL6, rL6, lo6, hq1⟩, ?_⟩
      rintro j m1 H7 ⟨rfl, hj, W7, acc7, vacc7, s7, l7, eL7, rL7, lo7, h7⟩
      by_cases hlj : j < es.length
      · rw [List.drop_eq_getElem_cons hlj] at h7
        refine .inr ⟨wk1.go W7 H7 j ⟨l7, sp1.trans s7⟩ hlj, fun H' => ∃ W' acc vacc, Stp W1 H1 W' H' ∧ W6.le W' ∧ H' L = some (.lst vacc) ∧ RepL X.K X.mg W' vacc acc ∧ Loose W' L ∧ compD t1 wt1 we (wipeD δ4 vs1) (comp2D t wt wi1 t1 wt1 we vs1 (wipeD δ vs) (fun acc => q (.own (.lst acc))) (ds.drop (i + 1))) (es.drop (j + 1)) acc,
          fun H' h => ⟨_, Nat.sub_lt_sub_left hlj (Nat.lt_succ_self j), rfl, hlj, h⟩, fun x8 H8 y8 => ?_⟩
        obtain ⟨W8, s8, r8⟩ := wk1.yld W7 H7 j x8 H8 es[j] ⟨l7, sp1.trans s7⟩ s7.ok (List.getElem?_eq_getElem hlj) y8
        have s78 := s7.trans s8
        have eL8 : H8 L = some (.lst vacc7) := s8.eff L _ eL7 lo7.2
        have lo8 := s8.loose ⟨_, eL7⟩ lo7
        have sp8 := sp1.trans s78
        have st8 : Sto X.K X.mg n W8 H8 (L2.wipe σ4 vs1) (wipeD δ4 vs1) := (mv W8 H8 ((l36.trans l7).trans s8.le) sp8 (st1.step s78)).wipe vs1
        refine ⟨W8, wipeD δ4 vs1, es[j], _, st8, sp8, r8, h7, fun σ9 δ9 mv9 ap9 h9 => ⟨(ap9 vs1 hv1).trans (wipe_twice vs1 fun _ h => h), ?_⟩⟩
        have st9 := mv9 W8 H8 (.refl W8) sp8 st8
        refine ⟨W8, δ9, _, st9, sp8, h9, fun Wa Ha c sa ha => ?_⟩
        have eLa : Ha L = some (.lst vacc7) := sa.eff L _ eL8 lo8.2
        have loa := sa.loose ⟨_, eL8⟩ lo8
        have rLa := (rL7.le s8.le).le sa.le
        have l6a := (l7.trans s8.le).trans sa.le
        cases c with
        | false =>
          simp only [Bool.false_eq_true, if_false] at ha ⊢
          exact ⟨Wa, acc7, vacc7, s78.trans sa, l6a, eLa, rLa, loa, ha⟩
        | true =>
          simp only [if_true] at ha ⊢
          refine ⟨Wa, δ9, _, st9.step sa, sp8.trans sa, ha, fun Wb Hb v d sb rb hb => ?_⟩
          have eLb : Hb L = some (.lst vacc7) := sb.eff L _ eLa loa.2
          have lob := sb.loose ⟨_, eLa⟩ loa
          have rLb := rLa.le sb.le
          have rv : Rep X.K X.mg Wb v d := by simpa [RepM] using rb
          refine ⟨vacc7, eLb, ?_, Wb, acc7 ++ [d], vacc7 ++ [v], ((s78.trans sa).trans sb).write hL lob.1 lob.2 _, l6a.trans sb.le, upd_same, rLb.append (.cons rv .nil), lob, hb.2⟩
          have := hb.1
          have hs : sizeLine = 16777216 := sizeLine_eq
          rw [rLb.length]; omega
      · have e : j = es.length := by omega
        subst e
        rw [List.drop_length] at h7
        exact .inl ⟨wk1.stop W7 H7 _ ⟨l7, sp1.trans s7⟩ (Nat.le_refl _), W7, acc7, vacc7, s7, eL7, rL7, lo7, h7⟩
  · have e : i = ds.length := by omega
    subst e
    rw [List.drop_length] at h2
    refine .inl ⟨wk.stop W2 H2 _ s2 (Nat.le_refl _), ?_⟩
    exact k W2 H2 (.ref L) (.own (.lst acc)) (s.trans s2) ⟨L, rfl, ⟨vacc, eL, rL⟩, s.fresh hL, lo⟩ h2
end
end TT

set_option Elab.async false
set_option linter.all false
set_option maxRecDepth 100000
set_option autoImplicit false
namespace TT
open PySem PySem.Spec L2

/-! ### *a, b = a tuple -/
section
open PySem.Calls PySem.W PyProof.Rows
theorem star_two {prog : Program} {w : World} {A : Around} {E : Value → Shared → Prop} {s : Shared} {l : Addr} {items : Array Value} {Q : List Value → Shared → Prop} (hl : IsTup s.heap l items) (hh : A.handled = none) (hn : 1 ≤ items.size) (hz : items.size ≤ sizeLine)
    (h : ∀ (h' : Heap) (tk : Nat), (∀ b o, s.heap.get? b = some o → h'.get? b = some o) → Q ([.ref h'.objs.size] ++ items.toList.drop (items.size - 1)) { s with heap := h'.push { cls := .type "list", data := .seq (items.toList.take (items.size - 1)).toArray }, toks := tk }) :
    wpAny (model prog w) A (unpackItems (.ref l) 2 (some 0)) Q E s := by
  have hlt : l ≠ s.heap.objs.size := by obtain ⟨o, ho, _⟩ := hl; exact Nat.ne_of_lt (Heap.lt_size ho)
  have hll : l < s.heap.objs.size := by obtain ⟨o, ho, _⟩ := hl; exact Heap.lt_size ho
  have hd : items.toList.length = items.size := Array.length_toList
  unfold unpackItems notIterableAtAll
  refine wpAny_bind (wpAny_bind (wpAny_specialOf hl.typeIs slot_tuple_iter.lookup (wpAny_pure ?_)))
  simp only [Bool.false_eq_true, if_false]
  refine wpAny_bind (wpAny_holding (iter_tuple hl ?_))
  refine wpAny_bind (wpAny_holding (wpAny_pure ?_))
  rw [if_neg (show ¬ (([] : List Value).length < 0) by simp)]
  refine wpAny_bind (wpAny_holding (kun_collect (T := "tuple_iterator") (.inr (.inr (.inr rfl))) (Walks.tuple (A := A.in1) hh s.heap.objs.size l hlt items) (fun j u st => st.1.typeIs) (k := 0) (Nat.zero_le _) ⟨⟨_, Heap.get?_push_size _ rfl, rfl, rfl⟩, hl.push _⟩ ?_ ?_ (fun h₂ tk hk => ?_) hz))
  · show s.heap.objs.size < _
    exact Heap.lt_size (Heap.get?_push_size _ rfl)
  · obtain ⟨o, ho, _⟩ := hl.push { cls := .type "tuple_iterator", data := .fields #[.ref l, .int 0 0] }
    exact Heap.lt_size ho
  rw [List.drop_zero]
  rw [if_neg (show ¬ (items.toList.length < 2 - 1 - 0) by rw [hd]; omega)]
  rw [hd]
  refine wpAny_bind (wpAny_newList (wpAny_pure ?_) (Nat.le_trans (List.length_take_le _ _) (Nat.le_trans (Nat.sub_le _ _) hz)))
  exact h h₂ tk fun b o e => hk b o (Nat.ne_of_lt (Heap.lt_size e)) (Heap.get?_push_of_some _ e)
end
/-- first slot: a new list of all but the last; second slot: the last -/
def gStar (K : PySem.W.Frag) (i j : Nat) : TG := fun v σ H Q => ∃ a xs z, v = .ref a ∧ SqT K H a (xs ++ [z]) ∧ ∀ p, H p = none → Q ((σ.set i (some (.ref p))).set j (some z)) (upd H p (.lst xs))
section
variable {X : Cx} {n : N0} {p p1 p2 p3 : Pos}
theorem pg_star {i j : Nat} {x y : Str} {k : Nat} (hc : X.calm = true) (hN : X.N.Nodup) (hi : X.N[i]? = some x) (hx : Loc X.env.scope x) (hfx : X.fn x = true) (hj : X.N[j]? = some y) (hy : Loc X.env.scope y) (hfy : X.fn y = true) :
    PG X (.Tuple [.Starred (.Name x p) p1, .Name y p2] k p3) (gStar X.K i j) := by
  refine ⟨fun pins s σ H v u Q I r hw => ?_⟩
  obtain ⟨a, xs, z, rfl, hq, hw⟩ := hw
  cases r
  obtain ⟨its, rv, ht, hz⟩ := I.tuple hq
  have hl := rv.length
  rw [List.length_append, List.length_singleton] at hl
  have hs : its.toArray.size = its.length := by simp
  rw [PyProof.Rows.assign_Tuple]
  refine wpAny_bind (wpAny_standAt ?_)
  unfold unpack
  refine wpAny_bind (wpAny_holding (star_two ht (I.ok.hd hc) (by omega) (by rw [hs, ← hl]; simpa using hz) fun h' tk hk => ?_))
  have I1 : Inv X pins σ H { s with heap := h', toks := tk } := I.kept hk
  have hf : H h'.objs.size = none := I1.hok.fresh (Nat.le_refl _)
  have e1 : its.toArray.toList = its := by simp
  rw [e1, hs]
  have hk1 : its.length - 1 = xs.length := by omega
  rw [hk1]
  have r1 : Vals xs (its.take xs.length) := by have := rv.take xs.length; rwa [List.take_left'] at this; rfl
  have r2 : Vals [z] (its.drop xs.length) := by have := rv.drop xs.length; rwa [List.drop_left'] at this; rfl
  have z1 : xs.length ≤ sizeLine := by have := hz; rw [List.length_append] at this; omega
  have I2 : Inv X pins σ (upd H h'.objs.size (.lst xs)) { s with heap := h'.push { cls := .type "list", data := .seq (its.take xs.length).toArray }, toks := tk } :=
    I1.laid (t' := tk) (fun b u e => Heap.get?_push_of_some _ e) (Nat.le_refl _) ⟨z1, _, 0, r1, Heap.get?_push_size _ rfl⟩
  have gg := pgs_cons (pg_name (pos := p) hN hi hx (.inl hfx)) (pgs_cons (pg_name (pos := p2) hN hj hy (.inl hfy)) pgs_nil)
  exact gg.run pins _ σ _ (.ref h'.objs.size :: [z]) _ Q I2 (.cons rfl r2) ⟨_, _, rfl, ⟨_, _, rfl, ⟨rfl, hw _ hf⟩⟩⟩
end
end TT

set_option Elab.async false
set_option linter.all false
set_option maxRecDepth 100000
set_option autoImplicit false
/-! Attributes of instances that stand still. -/
namespace TT
open PySem PySem.Spec L2
/-- the field f of an instance of the class named c -/
def opAtt (c f : Str) (x : D) (q : DV → Prop) : Prop := match x with
  | .obj c' fs => c' = c ∧ match fs.lookup f with
    | some d => q (.v d)
    | none => False
  | _ => False
section
variable {X : Cx} {n : N0}
theorem de_att {e : Expr} {c f : Str} {pos : Pos} {w : Sl → (D → Prop) → Prop} (hk : ∀ C, X.mg c = some (.ref C) → Cls X.K C ∧ NoAttr X.K C f) (h : PE X e (cV X.K X.mg n true w)) (hb : attributeBase e f X.env (eval e X.env) = eval e X.env) :
    PE X (.Attribute e f pos) (cE X.K X.mg n (w1 w (opAtt c f))) := by
  refine PE.imp (pe_fld h hb) fun σ H Q ⟨W, δ, q, st, sp, hw, k⟩ => ⟨W, δ, _, st, sp, hw, fun W1 H1 v d s r hq => ?_⟩
  cases d <;> try exact hq.elim
  rename_i c' fs
  obtain ⟨rfl, hq⟩ := hq
  split at hq
  · rename_i d e1
    obtain ⟨a, C, dx, xs, rfl, ha, hm, rf⟩ := r.read.obj s.ok
    obtain ⟨u, hu, ru⟩ := rf.lookup e1
    obtain ⟨h1, h2⟩ := hk C hm
    exact ⟨a, C, dx, xs, u, rfl, ha, h1, h2, hu, k W1 H1 u (.v d) s ru hq⟩
  · exact hq.elim
end
end TT

set_option Elab.async false
set_option linter.all false
set_option maxRecDepth 100000
set_option autoImplicit false
/-! Methods of instances that stand still. -/
namespace TT
open PySem PySem.Spec L2
/-- the method m of the class named c keeps S -/
def MeG (P : Program) (w : World) (K : PySem.W.Frag) (mg : Str → Option Value) (base : Heap) (lv : Nat) (c m : Str) (br : List Bool) (S : DS) (dv : List D) : Prop :=
  ∃ (C a : Addr) (fd : FuncData) (ps : List Str) (ds : List Value) (dvs : List V), mg c = some (.ref C) ∧ Cls K C ∧ Meth K C m a ∧ FnOk P w K mg base (L2.CX P w) lv a fd ps (spD K mg (false :: br) S) ∧ Binds K fd ps ds ∧ Vals dvs ds ∧ ∀ W, RepL K mg W dvs dv
@[reducible] def wMeth (c m : Str) (wo : Sl → (D → Prop) → Prop) (wa : Sl → (List D → Prop) → Prop) (S : DS) (dv : List D) (Ed : Str → Prop) : Sl → (DV → Prop) → Prop := fun δ q => wo δ fun d => (∃ fs, d = .obj c fs ∧ fs.lookup m = none) ∧ wa δ fun ds => S (d :: (ds ++ dv)) q Ed
/-- o.m(..) of a name o -/
theorem meth_eval {env : Env} {m : Str} {apos pos : Pos} {o : Expr} {es : List Expr} (hb : attributeBase o m env (eval o env) = eval o env) (hf : methodCallForm (es.length + 0) (backTo pos (starEach es env)) (backToKw pos (keywordEach [] env)) = true) (hl : (apos.endLine == pos.line) = true) :
    eval (.Call (.Attribute o m apos) es [] pos) env = (do
      let ov ← eval o env
      standAt apos.atName
      let (f, first) ← holding [ov] (getMethod ov m (do return (← importBound o env).getD true))
      callWith pos f first (backTo pos (starEach es env)) (backToKw pos (keywordEach [] env))) := by
  rw [arm_eval_Call, hb]
  unfold methodCall calleeOf methodCallPos
  simp only [List.length_nil, hf, hl, if_true, Bool.not_true, Bool.false_or]
  rfl
section
variable {X : Cx} {E : XK} {n : N0} {Ed : Str → Prop} {lv : Nat}
theorem RepT.objR {K : PySem.W.Frag} {mg : Str → Option Value} {W : Wd} {H : Hp} {v : V} {c : Str} {ds : List (Str × D)} (r : RepT K mg W H v (.obj c ds)) : Rep K mg W v (.obj c ds) := by
  rcases r with r | ⟨_, _, z, _⟩
  · exact r
  · exact z.elim
theorem de_meth {pl : Sem Bool} {cn m : Str} {br ms : List Bool} {S : DS} {dv : List D} {apos pos : Pos} {o e : Expr} {es : List Expr} {wo : Sl → (D → Prop) → Prop} {wa : Sl → (List D → Prop) → Prop} (c : Ctx X E n Ed lv) (G : MeG X.prog X.w X.K X.mg X.base lv cn m br S dv) (hbr : br = ms ++ List.replicate dv.length false)
    (he : PE X o (cV X.K X.mg n true wo)) (ha : PA X (e :: es) (cA X.K X.mg n ms wa)) (hst : starEach (e :: es) X.env = (false, eval e X.env) :: starEach es X.env) (hpl : (backTo pos (starEach es X.env)).any (·.1) = false)
    (ht : eval (.Call (.Attribute o m apos) (e :: es) [] pos) X.env = (do
      let ov ← eval o X.env
      standAt apos.atName
      let (f, first) ← holding [ov] (getMethod ov m pl)
      callWith pos f first (backTo pos (starEach (e :: es) X.env)) (backToKw pos (keywordEach [] X.env)))) :
    PE X (.Call (.Attribute o m apos) (e :: es) [] pos) (cE X.K X.mg n (wMeth cn m wo wa S dv Ed)) := by
  obtain ⟨C, a, fd, ps, ds, dvs, hC, cl, me, F, hb, hd, hr⟩ := G
  refine PE.imp (pe_meth (E := E) he cl me F c.room hb hd c.pass ha hst hpl ht) fun σ H Q ⟨W, δ, q, st, sp, hw, k⟩ => ⟨W, δ, _, st, sp, hw, fun W1 H1 v d s r hq => ?_⟩
  obtain ⟨⟨fs, rfl, hl⟩, hq⟩ := hq
  have rr := r.read.objR
  have r0 := rr
  cases r0 with
  | obj e0 hm rf =>
    have eC := hm.symm.trans hC
    cases eC
    refine ⟨_, _, _, rfl, s.ok.sub _ _ e0, rf.none hl, W1, δ, _, st.step s, sp.trans s, hq, fun W2 H2 vs d1 s2 r2 q2 => ?_⟩
    have hl2 := (hr W2).length
    refine ⟨?_, W2, .obj cn fs :: (d1 ++ dv), q, Ed, s2.ok, ?_, q2, fun W' H' v dv s' r hq => k W' H' v dv ((s.trans s2).trans s') (VRep.pre (W := W) (fun a h => (s.trans s2).fresh h) r.v) hq, fun c' C W' H' he hc s' => c.exc c' C W' H' he hc (((sp.trans s).trans s2).trans s')⟩
    · rw [List.length_cons, List.length_append, r2.len.1, hbr, List.length_cons, List.length_append, List.length_replicate, hl2]
    · rw [hbr]
      exact .cons (by simpa [RepM] using rr.le s2.le) (r2.app (hr W2).args)
theorem de_meth0 {pl : Sem Bool} {cn m : Str} {br : List Bool} {S : DS} {dv : List D} {apos pos : Pos} {o : Expr} {wo : Sl → (D → Prop) → Prop} (c : Ctx X E n Ed lv) (G : MeG X.prog X.w X.K X.mg X.base lv cn m br S dv) (hbr : br = List.replicate dv.length false)
    (he : PE X o (cV X.K X.mg n true wo))
    (ht : eval (.Call (.Attribute o m apos) [] [] pos) X.env = (do
      let ov ← eval o X.env
      standAt apos.atName
      let (f, first) ← holding [ov] (getMethod ov m pl)
      callWith pos f first (backTo pos (starEach [] X.env)) (backToKw pos (keywordEach [] X.env)))) :
    PE X (.Call (.Attribute o m apos) [] [] pos) (cE X.K X.mg n (wMeth cn m wo waNil S dv Ed)) := by
  obtain ⟨C, a, fd, ps, ds, dvs, hC, cl, me, F, hb, hd, hr⟩ := G
  refine PE.imp (pe_meth0 (E := E) he cl me F c.room hb hd c.pass ht) fun σ H Q ⟨W, δ, q, st, sp, hw, k⟩ => ⟨W, δ, _, st, sp, hw, fun W1 H1 v d s r hq => ?_⟩
  obtain ⟨⟨fs, rfl, hl⟩, hq⟩ := hq
  have rr := r.read.objR
  have r0 := rr
  cases r0 with
  | obj e0 hm rf =>
    have eC := hm.symm.trans hC
    cases eC
    have hl2 := (hr W1).length
    refine ⟨_, _, _, rfl, s.ok.sub _ _ e0, rf.none hl, ?_, W1, .obj cn fs :: dv, q, Ed, s.ok, ?_, hq, fun W' H' v dv s' r hq => k W' H' v dv (s.trans s') (VRep.pre (W := W) (fun a h => s.fresh h) r.v) hq, fun c' C W' H' he hc s' => c.exc c' C W' H' he hc ((sp.trans s).trans s')⟩
    · show (_ :: ([] ++ dvs)).length = _
      rw [List.nil_append, List.length_cons, List.length_cons, hl2, hbr, List.length_replicate]
    · rw [hbr]
      exact .cons (by simpa [RepM] using rr) (hr W1).args
end
end TT

set_option Elab.async false
set_option linter.all false
set_option maxRecDepth 100000
set_option autoImplicit false
/-! self.f = e, self an instance that is being made. -/
namespace TT
open PySem PySem.Spec L2
def putD (f : Str) (v : D) : List (Str × D) → List (Str × D)
  | [] => [(f, v)]
  | (g, x) :: r => if g = f then (g, v) :: r else (g, x) :: putD f v r
theorem RepF.put {K : PySem.W.Frag} {mg : Str → Option Value} {W : Wd} {f : Str} {v : V} {d : D} (h : Rep K mg W v d) : ∀ {xs : List (Str × V)} {ds : List (Str × D)}, RepF K mg W xs ds → RepF K mg W (putF f v xs) (putD f d ds)
  | _, _, .nil => .cons h .nil
  | _, _, .cons (k := g) r rs => by
    unfold putF putD
    by_cases e : g = f
    · rw [if_pos e, if_pos e]
      exact .cons h rs
    · rw [if_neg e, if_neg e]
      exact .cons r (RepF.put h rs)
@[reducible] def swFld (i : Nat) (cn f : Str) (w : Sl → (D → Prop) → Prop) : Kn → Sl → Prop := fun k δ => match δ.getD i none with
  | some (.ins a c fs) => c = cn ∧ w δ fun d => fs.length < 1000 ∧ k.nx (δ.set i (some (.ins a c (putD f d fs))))
  | _ => False
section
variable {X : Cx} {n : N0} {e : Expr} {pos : Pos}
theorem ds_fld {i : Nat} {x cn f : Str} {p pa : Pos} {w : Sl → (D → Prop) → Prop} (hk : ∀ C, X.mg cn = some (.ref C) → Cls X.K C ∧ NoAttr X.K C f) (hN : X.N[i]? = some x) (hv : Vis X.env.scope x) (hd : (x == ("__debug__" : Str)) = false) (hcd : (x == ("__classdict__" : Str)) = false)
    (h : PE X e (cV X.K X.mg n false w)) (hs : swapsWith e (some (.Attribute (.Name x p) f pa)) pos.line X.env = pure false) : PS X (.Assign [.Attribute (.Name x p) f pa] e pos) (cS X.K X.mg n (swFld i cn f w)) := by
  refine PS.imp (ps_fld (pe_var hN hv hd hcd) h hs) fun D σ H ⟨W, δ, k, st, sp, hw, g⟩ => ?_
  have st0 := st
  obtain ⟨l, ow, h1, h2, h3⟩ := st
  unfold swFld at hw
  rw [List.getD_eq_getElem?_getD] at hw
  cases hi : δ[i]? with
  | none => rw [hi] at hw; exact hw.elim
  | some o =>
    rw [hi] at hw
    cases o with
    | none => exact hw.elim
    | some dv =>
      cases dv with
      | ins a c fs =>
        obtain ⟨rfl, hw⟩ := hw
        obtain ⟨v, e1, C, dx, xs, ea, ev, ex, hm, rx⟩ := h1 i _ hi
        subst ev
        refine ⟨W, δ, _, st0, sp, hw, fun W1 H1 v d s r hq => ?_⟩
        have th : ∀ j b, ow j = some b → ∃ o, H b = some o := fun j b e => by
          cases q : H b with
          | none => exact absurd q (h3 j b e).2.1
          | some o => exact ⟨o, rfl⟩
        have ex1 : H1 a = some (.ins C dx xs) := s.eff a _ ex (h3 i a ea).2.2.2
        have rv : Rep X.K X.mg W1 v d := by simpa [RepM] using r
        have h1' : ∀ j dw, δ[j]? = some (some dw) → ∃ v, σ[j]? = some (some v) ∧ SRep X.K X.mg n W1 H1 v (ow j) dw := fun j dw e => by
          obtain ⟨u, eu, ru⟩ := h1 j dw e
          exact ⟨u, eu, ru.step s fun b q => (h3 j b q).2.2⟩
        have h3' : ∀ j b, ow j = some b → n.2 b = none ∧ H1 b ≠ none ∧ Loose W1 b := fun j b e => by
          obtain ⟨b1, b2, b3⟩ := h3 j b e
          exact ⟨b1, by rw [s.at (th j b e) b3.2]; exact b2, s.loose (th j b e) b3⟩
        obtain ⟨k1, k2⟩ := hk C hm
        obtain ⟨s3, t3⟩ := Sto.write (dv := .ins a c (putD f d fs)) (o := .ins C dx (putF f v xs)) l ow h1' h2 h3' (sp.trans s) ea ⟨_, e1, C, dx, _, rfl, rfl, upd_same, hm, RepF.put rv (rx.le s.le)⟩
        exact ⟨.ref a, e1, a, C, dx, xs, rfl, ex1, k1, k2, by rw [rx.length]; exact hq.1, g.nx W1 _ σ _ s.le s3 t3 hq.2⟩
      | _ => exact hw.elim
end
end TT

set_option Elab.async false
set_option linter.all false
set_option maxRecDepth 100000
set_option autoImplicit false
/-! Calls with keywords; instances that are made. -/
namespace TT
open PySem PySem.Spec L2
section
variable (P : Program) (w : World) (K : PySem.W.Frag) (mg : Str → Option Value) (base : Heap) (lv : Nat)
/-- f(.., ks = ..): n positional ones; dv: the defaults that fill up -/
def FnK (f : Str) (n : Nat) (ks : List Str) (br : List Bool) (S : DS) (dv : List D) : Prop :=
  ∃ (a : Addr) (fd : FuncData) (ps : List Str) (g : List Value → List Value → List Value) (dvs : List V), FnOk P w K mg base (L2.CX P w) lv a fd ps (spD K mg br S) ∧ mg f = some (.ref a) ∧ PySem.W.keepIn K (.ref a) = true ∧
    KBn K fd ps n ks g (fun vs zs => vs ++ (zs ++ dvs)) ∧ ∀ W, RepL K mg W dvs dv
end
/-- what __init__ of the class named cn promises: vs begins with the instance that is being made -/
def spI (K : PySem.W.Frag) (mg : Str → Option Value) (cn : Str) (br : List Bool) (S : DS) : Sp := fun vs H Q E => ∃ (x : Addr) (vs' : List V), vs = .ref x :: vs' ∧ vs'.length = br.length ∧
  ∃ W H0 dx C ds q Ed, WOk W H0 ∧ H0 x = none ∧ H0 dx = none ∧ dx ≠ x ∧ mg cn = some (.ref C) ∧ H = upd (upd H0 dx (.own x)) x (.ins C dx []) ∧ ArgsR K mg W H0 br vs' ds ∧ S ds q Ed ∧
    (∀ W' H' fs, Stp W H0 W' H' → Rep K mg W' (.ref x) (.obj cn fs) → q (.v (.obj cn fs)) → Q .non H') ∧ ∀ c C' W' H', Ed c → mg c = some (.ref C') → Stp W H0 W' H' → E (.ref C') none H'
section
variable (P : Program) (w : World) (K : PySem.W.Frag) (mg : Str → Option Value) (base : Heap) (lv : Nat)
/-- the class named cn is made, positionally / by keywords -/
def MkG (cn : Str) (br : List Bool) (S : DS) (dv : List D) : Prop :=
  ∃ (C f : Addr) (fd : FuncData) (ps : List Str) (ds : List Value) (dvs : List V), mg cn = some (.ref C) ∧ Mk K C f ∧ FnOk P w K mg base (L2.CX P w) lv f fd ps (spI K mg cn br S) ∧ Binds K fd ps ds ∧ Vals dvs ds ∧ ∀ W, RepL K mg W dvs dv
def MkK (cn : Str) (ks : List Str) (br : List Bool) (S : DS) (dv : List D) : Prop :=
  ∃ (C f : Addr) (fd : FuncData) (ps : List Str) (g : List Value → List Value → List Value) (dvs : List V), mg cn = some (.ref C) ∧ Mk K C f ∧ FnOk P w K mg base (L2.CX P w) lv f fd ps (spI K mg cn br S) ∧
    KBn K fd ps 1 ks g (fun vs zs => vs ++ (zs ++ dvs)) ∧ ∀ W, RepL K mg W dvs dv
end
section
variable {X : Cx} {E : XK} {n : N0} {Ed : Str → Prop} {lv : Nat}
theorem dk_nil : PK X [] (cA X.K X.mg n [] waNil) := ⟨fun pos pins s σ H Q I ⟨W, δ, q, st, sp, hw, k⟩ => pk_nil.run pos pins s σ H Q I (k W H [] [] (.refl sp.ok) .nil hw)⟩
theorem dk_cons {m : Bool} {ms : List Bool} {e : Expr} {kws : List Keyword} {nm : Option Str} {kp : Pos} {w : Sl → (D → Prop) → Prop} {wr : Sl → (List D → Prop) → Prop} (h : PE X e (cV X.K X.mg n m w)) (hr : PK X kws (cA X.K X.mg n ms wr)) : PK X (⟨nm, e, kp⟩ :: kws) (cA X.K X.mg n (m :: ms) (waCons w wr)) := by
  refine ⟨fun pos pins s σ H Q I ⟨W, δ, q, st, sp, hw, k⟩ => (pk_cons h hr).run pos pins s σ H Q I ⟨W, δ, _, st, sp, hw, fun W1 H1 v d s r hq => ⟨W1, δ, _, st.step s, sp.trans s, hq, fun W2 H2 vs ds s2 rs hq2 => ?_⟩⟩⟩
  exact k W2 H2 (v :: vs) (d :: ds) (s.trans s2) (.cons (r.step s2) rs) hq2
@[reducible] def wCallK (wa wk : Sl → (List D → Prop) → Prop) (S : DS) (dv : List D) (Ed : Str → Prop) : Sl → (DV → Prop) → Prop := fun δ q => wa δ fun ds => wk δ fun zs => S (ds ++ (zs ++ dv)) q Ed
theorem de_callK {f : Str} {br ms mk : List Bool} {S : DS} {dv : List D} {ks : List Str} {x : Str} {p pos : Pos} {e : Expr} {es : List Expr} {kws : List Keyword} {wa wk : Sl → (List D → Prop) → Prop} (c : Ctx X E n Ed lv)
    (G : FnK X.prog X.w X.K X.mg X.base lv x ms.length ks br S dv) (hbr : br = ms ++ (mk ++ List.replicate dv.length false)) (hmk : mk.length = ks.length) (hg : Gl X x) (ha : PA X (e :: es) (cA X.K X.mg n ms wa)) (hkw : PK X kws (cA X.K X.mg n mk wk))
    (hdb : (x == ("__debug__" : Str)) = false) (he : starEach (e :: es) X.env = (false, eval e X.env) :: starEach es X.env)
    (hall : (backToKw pos (keywordEach kws X.env)).all (·.1.isSome) = true) (hks : (backToKw pos (keywordEach kws X.env)).filterMap (·.1) = ks)
    (hpl : ((backTo pos (starEach (e :: es) X.env)).any (·.1) || (backToKw pos (keywordEach kws X.env)).any (·.1.isNone)) = false) : PE X (.Call (.Name x p) (e :: es) kws pos) (cE X.K X.mg n (wCallK wa wk S dv Ed)) := by
  obtain ⟨a, fd, ps, g, dvs, F, hm, hk, hb, hr⟩ := G
  refine PE.imp (pe_callN (E := E) F c.room hg hm hk hb c.pass ha hkw hall hks hdb he hpl) fun σ H Q ⟨W, δ, q, st, sp, hw, k⟩ => ⟨W, δ, _, st, sp, hw, fun W1 H1 vs d1 s1 r1 q1 => ⟨W1, δ, _, st.step s1, sp.trans s1, q1, fun W2 H2 zs d2 s2 r2 q2 => ?_⟩⟩
  have hl := (hr W2).length
  refine ⟨r1.len.1, r2.len.1.trans hmk, ?_, W2, d1 ++ (d2 ++ dv), q, Ed, s2.ok, ?_, q2, fun W' H' v dv s r hq => k W' H' v dv ((s1.trans s2).trans s) (VRep.pre (W := W) (fun a h => (s1.trans s2).fresh h) r.v) hq, fun c' C W' H' he hc s => c.exc c' C W' H' he hc (((sp.trans s1).trans s2).trans s)⟩
  · rw [List.length_append, List.length_append, r1.len.1, r2.len.1, hbr, List.length_append, List.length_append, List.length_replicate, hl]
  · rw [hbr]
    exact (r1.step s2).app (r2.app (hr W2).args)
@[reducible] def wMk (wa : Sl → (List D → Prop) → Prop) (S : DS) (dv : List D) (Ed : Str → Prop) : Sl → (DV → Prop) → Prop := fun δ q => wa δ fun ds => S (ds ++ dv) q Ed
theorem de_mk {cn : Str} {br ms : List Bool} {S : DS} {dv : List D} {p pos : Pos} {e : Expr} {es : List Expr} {wa : Sl → (List D → Prop) → Prop} (c : Ctx X E n Ed lv) {j : Nat} (hj : lv = j + 1) (G : MkG X.prog X.w X.K X.mg X.base j cn br S dv) (hbr : br = ms ++ List.replicate dv.length false)
    (hg : Gl X cn) (ha : PA X (e :: es) (cA X.K X.mg n ms wa)) (hdb : (cn == ("__debug__" : Str)) = false) (he : starEach (e :: es) X.env = (false, eval e X.env) :: starEach es X.env)
    (hpl : (backTo pos (starEach es X.env)).any (·.1) = false) : PE X (.Call (.Name cn p) (e :: es) [] pos) (cE X.K X.mg n (wMk wa S dv Ed)) := by
  obtain ⟨C, f, fd, ps, ds, dvs, hC, M, F, hb, hd, hr⟩ := G
  subst hj
  refine PE.imp (pe_make (E := E) M F c.room hg hC hb hd c.pass ha hdb he hpl) fun σ H Q ⟨W, δ, q, st, sp, hw, k⟩ => ⟨W, δ, _, st, sp, hw, fun W1 H1 vs d1 s1 r1 q1 x dx hx hdx hne => ?_⟩
  have hl := (hr W1).length
  refine ⟨x, vs ++ dvs, rfl, ?_, W1, H1, dx, C, d1 ++ dv, q, Ed, s1.ok, hx, hdx, hne, hC, rfl, ?_, q1, fun W' H' fs s r hq => ⟨rfl, k W' H' _ (.v (.obj cn fs)) (s1.trans s) r hq⟩, fun c' C W' H' he hc s => c.exc c' C W' H' he hc ((sp.trans s1).trans s)⟩
  · rw [List.length_append, r1.len.1, hbr, List.length_append, List.length_replicate, hl]
  · rw [hbr]
    exact r1.app (hr W1).args
theorem de_mkK {cn : Str} {br mk : List Bool} {S : DS} {dv : List D} {ks : List Str} {p pos : Pos} {kws : List Keyword} {wk : Sl → (List D → Prop) → Prop} (c : Ctx X E n Ed lv) {j : Nat} (hj : lv = j + 1) (G : MkK X.prog X.w X.K X.mg X.base j cn ks br S dv) (hbr : br = mk ++ List.replicate dv.length false)
    (hmk : mk.length = ks.length) (hg : Gl X cn) (hkw : PK X kws (cA X.K X.mg n mk wk)) (hdb : (cn == ("__debug__" : Str)) = false)
    (hall : (backToKw pos (keywordEach kws X.env)).all (·.1.isSome) = true) (hks : (backToKw pos (keywordEach kws X.env)).filterMap (·.1) = ks)
    (hpl : ((backTo pos (starEach [] X.env)).any (·.1) || (backToKw pos (keywordEach kws X.env)).any (·.1.isNone)) = false) : PE X (.Call (.Name cn p) [] kws pos) (cE X.K X.mg n (wMk wk S dv Ed)) := by
  obtain ⟨C, f, fd, ps, g, dvs, hC, M, F, hb, hr⟩ := G
  subst hj
  refine PE.imp (pe_makeK0 (E := E) M F c.room hg hC hb c.pass hkw hall hks hdb hpl) fun σ H Q ⟨W, δ, q, st, sp, hw, k⟩ => ⟨W, δ, _, st, sp, hw, fun W1 H1 zs d1 s1 r1 q1 => ⟨rfl, r1.len.1.trans hmk, fun x dx hx hdx hne => ?_⟩⟩
  have hl := (hr W1).length
  refine ⟨x, zs ++ dvs, rfl, ?_, W1, H1, dx, C, d1 ++ dv, q, Ed, s1.ok, hx, hdx, hne, hC, rfl, ?_, q1, fun W' H' fs s r hq => ⟨rfl, k W' H' _ (.v (.obj cn fs)) (s1.trans s) r hq⟩, fun c' C W' H' he hc s => c.exc c' C W' H' he hc ((sp.trans s1).trans s)⟩
  · rw [List.length_append, r1.len.1, hbr, List.length_append, List.length_replicate, hl]
  · rw [hbr]
    exact r1.app (hr W1).args
/-- {} -/
theorem de_dic0 {pos : Pos} : PE X (.Dict [] [] pos) (cE X.K X.mg n fun _ q => q (.own (.dic []))) := by
  refine PE.imp pe_dnewT fun σ H Q ⟨W, δ, q, st, sp, hw, k⟩ p hp => ?_
  exact k W _ (.ref p) (.own (.dic [])) (Stp.laidOwn sp.ok hp _) ⟨p, rfl, ⟨[], upd_same, .nil⟩, hp, sp.ok.sub.free hp, sp.ok.notTown hp⟩ hw
end
end TT

set_option Elab.async false
set_option linter.all false
set_option maxRecDepth 100000
set_option autoImplicit false
namespace TT
open PySem PySem.Spec L2

/-! ### taking an expression apart -/
def dName : Expr → Option Str | .Name x _ => some x | _ => none
def dConst : Expr → Option Const | .Constant c _ _ => some c | _ => none
def dTup : Expr → Option (List Expr) | .Tuple es _ _ => some es | _ => none
def dLst : Expr → Option (List Expr) | .List es _ => some es | _ => none
def dBin : Expr → Option (Expr × Operator × Expr) | .BinOp a o b _ => some (a, o, b) | _ => none
def dUn : Expr → Option (UnaryOp × Expr) | .UnaryOp o a _ => some (o, a) | _ => none
def dCmp : Expr → Option (Expr × List CmpOp × List Expr) | .Compare a os bs _ => some (a, os, bs) | _ => none
def dBool : Expr → Option (BoolOp × List Expr) | .BoolOp o es _ => some (o, es) | _ => none
def dIte : Expr → Option (Expr × Expr × Expr) | .IfExp c a b _ => some (c, a, b) | _ => none
def dSub : Expr → Option (Expr × Expr) | .Subscript a i _ => some (a, i) | _ => none
def dCall : Expr → Option (Expr × List Expr × List Keyword) | .Call f es ks _ => some (f, es, ks) | _ => none
def dComp : Expr → Option (Expr × List Comprehension × Scope) | .ListComp e gs sc _ => some (e, gs, sc) | _ => none
section
variable {e : Expr}
theorem dName_eq {x : Str} (h : dName e = some x) : ∃ p, e = .Name x p := by
  cases e <;> simp [dName] at h
  subst h; exact ⟨_, rfl⟩
theorem dConst_eq {x : Const} (h : dConst e = some x) : ∃ k p, e = .Constant x k p := by
  cases e <;> simp [dConst] at h
  subst h; exact ⟨_, _, rfl⟩
theorem dTup_eq {x : List Expr} (h : dTup e = some x) : ∃ k p, e = .Tuple x k p := by
  cases e <;> simp [dTup] at h
  subst h; exact ⟨_, _, rfl⟩
theorem dLst_eq {x : List Expr} (h : dLst e = some x) : ∃ p, e = .List x p := by
  cases e <;> simp [dLst] at h
  subst h; exact ⟨_, rfl⟩
theorem dBin_eq {a b : Expr} {o : Operator} (h : dBin e = some (a, o, b)) : ∃ p, e = .BinOp a o b p := by
  cases e <;> simp [dBin] at h
  obtain ⟨rfl, rfl, rfl⟩ := h; exact ⟨_, rfl⟩
theorem dUn_eq {a : Expr} {o : UnaryOp} (h : dUn e = some (o, a)) : ∃ p, e = .UnaryOp o a p := by
  cases e <;> simp [dUn] at h
  obtain ⟨rfl, rfl⟩ := h; exact ⟨_, rfl⟩
theorem dCmp_eq {a : Expr} {os : List CmpOp} {bs : List Expr} (h : dCmp e = some (a, os, bs)) : ∃ p, e = .Compare a os bs p := by
  cases e <;> simp [dCmp] at h
  obtain ⟨rfl, rfl, rfl⟩ := h; exact ⟨_, rfl⟩
theorem dBool_eq {o : BoolOp} {es : List Expr} (h : dBool e = some (o, es)) : ∃ p, e = .BoolOp o es p := by
  cases e <;> simp [dBool] at h
  obtain ⟨rfl, rfl⟩ := h; exact ⟨_, rfl⟩
theorem dIte_eq {a b c : Expr} (h : dIte e = some (c, a, b)) : ∃ p, e = .IfExp c a b p := by
  cases e <;> simp [dIte] at h
  obtain ⟨rfl, rfl, rfl⟩ := h; exact ⟨_, rfl⟩
theorem dSub_eq {a i : Expr} (h : dSub e = some (a, i)) : ∃ p, e = .Subscript a i p := by
  cases e <;> simp [dSub] at h
  obtain ⟨rfl, rfl⟩ := h; exact ⟨_, rfl⟩
theorem dCall_eq {f : Expr} {es : List Expr} {ks : List Keyword} (h : dCall e = some (f, es, ks)) : ∃ p, e = .Call f es ks p := by
  cases e <;> simp [dCall] at h
  obtain ⟨rfl, rfl, rfl⟩ := h; exact ⟨_, rfl⟩
theorem dComp_eq {f : Expr} {gs : List Comprehension} {sc : Scope} (h : dComp e = some (f, gs, sc)) : ∃ p, e = .ListComp f gs sc p := by
  cases e <;> simp [dComp] at h
  obtain ⟨rfl, rfl, rfl⟩ := h; exact ⟨_, rfl⟩
end
def isStar : Expr → Bool | .Starred _ _ => true | _ => false
def isSet : Expr → Bool | .Set _ _ _ => true | _ => false
def isSlice : Expr → Bool | .Slice _ _ _ _ => true | _ => false
theorem star_cons {e : Expr} {es : List Expr} {env : Env} (h : isStar e = false) : starEach (e :: es) env = (false, eval e env) :: starEach es env := by
  cases e <;> first | rfl | (simp [isStar] at h)
theorem set_no {e : Expr} {env : Env} (h : isSet e = false) (x : Value) : foldedSetIterable e env x = pure x := by
  cases e <;> first | rfl | (simp [isSet] at h)
theorem mark_no {e : Expr} (op : CmpOp) (h : isSet e = false) : behindInMarks op e = false := by
  cases e <;> first | rfl | (simp [isSet] at h)
theorem plainIx {e : Expr} (h : isSlice e = false) : PlainIx e := by
  cases e <;> first | (intro _ _; rfl) | (simp [isSlice] at h)
def vis (sc : Scope) (x : Str) : Bool := match sc.names.lookup x with
  | some .local => true
  | some .cell => true
  | some .free => true
  | _ => false
theorem vis_ok {sc : Scope} {x : Str} (h : vis sc x = true) : Vis sc x := by
  unfold vis at h
  split at h
  · exact .inl (by assumption)
  · exact .inr (.inl (by assumption))
  · exact .inr (.inr (by assumption))
  · cases h
def okN (x : Str) : Bool := !(x == ("__debug__" : Str)) && !(x == ("__classdict__" : Str)) && !(x == ("__name__" : Str))
theorem okN_1 {x : Str} (h : okN x = true) : (x == ("__debug__" : Str)) = false := by
  unfold okN at h; simp only [Bool.and_eq_true, Bool.not_eq_true'] at h; exact h.1.1
theorem okN_2 {x : Str} (h : okN x = true) : (x == ("__classdict__" : Str)) = false := by
  unfold okN at h; simp only [Bool.and_eq_true, Bool.not_eq_true'] at h; exact h.1.2
theorem okN_3 {x : Str} (h : okN x = true) : x ≠ ("__name__" : Str) := by
  unfold okN at h; simp only [Bool.and_eq_true, Bool.not_eq_true'] at h
  intro e; rw [e] at h; simp at h
def isGl (sc : Scope) (x : Str) : Bool := decide (sc.names.lookup x = some .globalImplicit)
theorem isGl_ok {X : Cx} {x : Str} (h : isGl X.env.scope x = true) : Gl X x := by
  unfold isGl at h
  have := of_decide_eq_true h
  exact this
/-- a target's name in the scope that it is written in -/
def isOwn (sc : Scope) (x : Str) : Bool := match sc.names.lookup x with
  | some .local => true
  | some .cell => true
  | _ => false

/-! ### types of values -/
inductive Ty where | int | bool | str | tuple | list | dict
  deriving DecidableEq
def Ty.name : Ty → String
  | .int => "int" | .bool => "bool" | .str => "str" | .tuple => "tuple" | .list => "list" | .dict => "dict"
def tyD : D → Option String
  | .non => some "NoneType" | .bl _ => some "bool" | .int _ => some "int" | .str _ => some "str" | .tup _ => some "tuple" | .lst _ => some "list" | .dic _ => some "dict" | _ => none
def isT (t : Ty) : D → Option Bool
  | .non => some false
  | .bl _ => match t with
    | .int => some true
    | .bool => some true
    | _ => some false
  | .int _ => match t with
    | .int => some true
    | _ => some false
  | .str _ => match t with
    | .str => some true
    | _ => some false
  | .tup _ => match t with
    | .tuple => some true
    | _ => some false
  | .lst _ => match t with
    | .list => some true
    | _ => some false
  | .dic _ => match t with
    | .dict => some true
    | _ => some false
  | _ => none
def isTs : List Ty → D → Option Bool
  | [], _ => some false
  | t :: ts, d => match isT t d with
    | some true => some true
    | some false => isTs ts d
    | none => none
def opIsi (t : Ty) (x : D) (q : DV → Prop) : Prop := match isT t x with
  | some b => q (.v (.bl b))
  | none => False
def opIsis (ts : List Ty) (x : D) (q : DV → Prop) : Prop := match isTs ts x with
  | some b => q (.v (.bl b))
  | none => False
def opNon (b : Bool) (x : D) (q : DV → Prop) : Prop := match x with
  | .non => q (.v (.bl b))
  | _ => q (.v (.bl (!b)))
theorem isT_kit {K : PySem.W.Frag} {t : Ty} {d : D} {b : Bool} (h : isT t d = some b) : ∃ a, tyD d = some a ∧ PySem.W.kitOne K (.type a) (.type t.name) = some b := by
  cases d <;> cases t <;> simp [isT] at h <;> subst h <;> exact ⟨_, rfl, kit_ty (by decide +kernel)⟩
theorem RepT.ty {K : PySem.W.Frag} {mg : Str → Option Value} {W : Wd} {H : Hp} {v : V} {d : D} {a : String} (w : WOk W H) (r : RepT K mg W H v d) (h : tyD d = some a) : TyX K H v (.type a) := by
  have bad : ∀ x : D, tyD x = none → d = x → False := fun x e z => by rw [z, e] at h; cases h
  cases d with
  | non => rcases r with r | ⟨_, _, c, _⟩; (cases r; cases h; exact .base .non); exact c.elim
  | bl b => cases r.bl; cases h; exact .base (.bl b)
  | int i => cases r.int; cases h; exact .base (.int i)
  | str s => cases r.str; cases h; exact .base (.str s)
  | tup ds =>
    obtain ⟨p, xs, rfl, e, l⟩ := r.tup w
    cases h
    rcases e with (e | ⟨o, e⟩) | ⟨o, its, k, e, c, _⟩
    · exact .base (.tup e)
    · exact .fTuple e
    · exact .kTuple e c
  | lst ds =>
    obtain ⟨p, xs, rfl, e, l⟩ := r.lst w
    cases h
    exact .base (.lst e)
  | dic ds =>
    obtain ⟨p, xs, rfl, e, l⟩ := r.dic w
    cases h
    exact .base (.dT e)
  | _ => exact absurd h (by simp [tyD])
theorem isTs_kit {K : PySem.W.Frag} {d : D} {a : String} (ha : tyD d = some a) : ∀ {ts : List Ty} {b : Bool}, isTs ts d = some b → PySem.W.kitAny K (.type a) (ts.map fun t => .type t.name) = some b
  | [], b, h => by
    cases h
    exact kitAny_nil
  | t :: ts, b, h => by
    unfold isTs at h
    cases e : isT t d with
    | none => rw [e] at h; cases h
    | some c =>
      rw [e] at h
      obtain ⟨a', ea, k⟩ := isT_kit (K := K) e
      rw [ha] at ea; cases ea
      cases c with
      | true =>
        cases h
        exact kitAny_cons k (fun z => by cases z) (fun _ => rfl)
      | false => exact kitAny_cons k (fun _ => isTs_kit ha h) (fun z => by cases z)
theorem boot_ty (t : Ty) : bootBuiltins (Str.ofString t.name) = some (.type t.name) := by cases t <;> decide +kernel
def chkTy (sc : Scope) : List Ty → Option (List Expr) → Bool
  | [], some [] => true
  | t :: ts, some (e :: es) => decide (dName e = some (Str.ofString t.name)) && (isGl sc (Str.ofString t.name) && chkTy sc ts (some es))
  | _, _ => false

/-! ### operations of one and of two operands, by the shape of their writing -/
def errNames : List Str := ["TintError", "BadNumber", "BadShare", "BadCurve", "BadSquare", "NoBack", "BadGrid", "BadColour", "BadIntent", "BadProfile", "BadInk", "BadText"]
def isE (c x : Str) : Bool := decide (x = "ValueError") || decide (x = "TintError") || decide (c = x)
inductive P1 where
  /-- isinstance(e, an error's class) -/
  | isx (x : Str)
  /-- o.f; isinstance(o, an own class); .. is True -/
  | att (c f : Str) | isc (c : Str) | isTr
inductive P2 where
  /-- xs.count(b), xs.index(b) of truth values -/
  | cnt | idx
  /-- x in xs; xs[:j], xs[j:] -/
  | isin (neg : Bool) | cutL | cutR
def shIsi (sc : Scope) (x : Str) : Expr → Option Expr
  | .Call (.Name g _) [a, .Name y _] [] _ => if (decide (g = ("isinstance" : Str)) && (decide (y = x) && (isGl sc g && (isGl sc y && (okN y && !isStar a))))) = true then some a else none
  | _ => none
def shAtt (f : Str) : Expr → Option Expr
  | .Attribute (.Name y p) g _ => if f = g then some (.Name y p) else none
  | _ => none
def shTr : Expr → Option Expr
  | .Compare a [.Is] [.Constant (.bool true) _ _] _ => some a
  | _ => none
def sh1 (sc : Scope) (p : P1) (e : Expr) : Option Expr := match p with
  | .isx x => shIsi sc x e
  | .isc x => shIsi sc x e
  | .att _ f => shAtt f e
  | .isTr => shTr e
def shM (m : Str) : Expr → Option (Expr × Expr)
  | .Call (.Attribute a f p) [b] [] q => if (decide (f = m) && ((p.endLine == q.line) && (!isStar b && decide ((dName a).isSome)))) = true then some (a, b) else none
  | _ => none
def opIn (neg : Bool) : CmpOp := if neg = true then .NotIn else .In
def shIn (neg : Bool) : Expr → Option (Expr × Expr)
  | .Compare a [o] [b] _ => if (decide (o = opIn neg) && !isSet b) = true then some (a, b) else none
  | _ => none
def shL : Expr → Option (Expr × Expr)
  | .Subscript a (.Slice none (some b) none _) _ => some (a, b)
  | _ => none
def shR : Expr → Option (Expr × Expr)
  | .Subscript a (.Slice (some b) none none _) _ => some (a, b)
  | _ => none
def sh2 (sc : Scope) (p : P2) (e : Expr) : Option (Expr × Expr) := match p with
  | .cnt => shM "count" e
  | .idx => shM "index" e
  | .isin neg => shIn neg e
  | .cutL => shL e
  | .cutR => shR e
def op1 : P1 → D → (DV → Prop) → Prop
  | .isx x, .err c, q => c ∈ errNames ∧ q (.v (.bl (isE c x)))
  | .att c f, d, q => opAtt c f d q
  | .isc c, .obj c' _, q => c' = c ∧ q (.v (.bl true))
  | .isc _, d, q => (tyD d).isSome = true ∧ q (.v (.bl false))
  | .isTr, .bl b, q => q (.v (.bl b))
  | _, _, _ => False
def op2 : P2 → D → D → (DV → Prop) → Prop
  | .cnt, .lst xs, .bl b, q => ∃ bs : List Bool, xs = bs.map D.bl ∧ q (.v (.int (bs.count b : Nat)))
  | .idx, .lst xs, .bl b, q => ∃ (bs : List Bool) (j : Nat), xs = bs.map D.bl ∧ bs[j]? = some b ∧ (∀ m, m < j → bs[m]? = some (!b)) ∧ q (.v (.int (j : Nat)))
  | .isin neg, x, .lst ys, q => plain 60 x = true ∧ plain 60 (.lst ys) = true ∧ q (.v (.bl (neg ^^ ys.any fun z => eqD z x)))
  | .isin neg, x, .tup ys, q => plain 60 x = true ∧ plain 60 (.tup ys) = true ∧ q (.v (.bl (neg ^^ ys.any fun z => eqD z x)))
  | .cutL, .tup xs, .int j, q => 0 ≤ j ∧ j < xs.length ∧ q (.v (.tup (xs.take j.toNat)))
  | .cutL, .lst xs, .int j, q => 0 ≤ j ∧ q (.own (.lst (xs.take j.toNat)))
  | .cutR, .tup xs, .int j, q => 0 < j ∧ xs ≠ [] ∧ q (.v (.tup (xs.drop j.toNat)))
  | .cutR, .lst xs, .int j, q => 0 ≤ j ∧ q (.own (.lst (xs.drop j.toNat)))
  | _, _, _, _ => False

/-- what is asked of the first operand before the second is looked at -/
def pre2 : P2 → D → Prop
  | .cnt, .lst _ => True
  | .cnt, _ => False
  | .idx, .lst _ => True
  | .idx, _ => False
  | _, _ => True
@[reducible] def w2p (p : P2) (wa wb : Sl → (D → Prop) → Prop) : Sl → (DV → Prop) → Prop := fun δ q => wa δ fun x => pre2 p x ∧ wb δ fun y => op2 p x y q

/-! ### the walk's own syntax -/
mutual
inductive Ex where
  | var (i : Nat) | int (i : Int) | str (s : Str) | bl (b : Bool) | non
  | glb (x : Str) (d : D)
  | tup (es : List Ex) | lst (es : List Ex)
  | bin (o : Bop) (a b : Ex) | neg (a : Ex)
  | cmp (o : Cop) (a b : Ex) | chain (o o' : Cop) (a b c : Ex) | isN (a : Ex) | notN (a : Ex)
  | ands (es : List Ex) | ors (es : List Ex) | not (a : Ex) | ite (c a b : Ex)
  | ix (a i : Ex)
  | call (f : Str) (br : List Bool) (S : DS) (dv : List D) (es : List Ex)
  | blt (b : Blt) (es : List Ex)
  | isi (a : Ex) (t : Ty) | isis (a : Ex) (ts : List Ty)
  | comp (own : List (Str × Nat)) (t : Tg) (it : Itx) (c : Option Ex) (e : Ex)
  | comp2 (own : List (Str × Nat)) (t : Tg) (it : Itx) (c : Option Ex) (t1 : Tg) (it1 : Itx) (c1 : Option Ex) (e : Ex)
  | p1 (p : P1) (a : Ex) | p2 (p : P2) (a b : Ex)
  | dic0
  | callK (f : Str) (br : List Bool) (S : DS) (ks : List Str) (dv : List D) (es kes : List Ex)
  | mk (c : Str) (br : List Bool) (S : DS) (dv : List D) (es : List Ex)
  | mkK (c : Str) (br : List Bool) (S : DS) (ks : List Str) (dv : List D) (kes : List Ex)
  | meth (c m : Str) (br : List Bool) (S : DS) (dv : List D) (o : Ex) (es : List Ex)
inductive Itx where
  | rng (a : Ex) | rng2 (a b : Ex) | seq (a : Ex)
end

mutual
def chkT (N : List Str) (raw : Scope) : Tg → Expr → Bool
  | .nm i, e => match dName e with
    | some x => decide (N[i]? = some x) && isOwn raw x
    | none => false
  | .tp ts, e => match dTup e with
    | some es => chkTs N raw ts es
    | none => false
def chkTs (N : List Str) (raw : Scope) : List Tg → List Expr → Bool
  | [], [] => true
  | t :: ts, e :: es => chkT N raw t e && chkTs N raw ts es
  | _, _ => false
end

mutual
def chkE (N : List Str) : Ex → Scope → Expr → Bool
  | .var i, sc, e => match dName e with
    | some x => decide (N[i]? = some x) && (vis sc x && okN x)
    | none => false
  | .int i, sc, e => match dConst e with
    | some (.int j) => decide (i = j)
    | _ => false
  | .str s, sc, e => match dConst e with
    | some (.str j) => decide (s = j)
    | _ => false
  | .bl s, sc, e => match dConst e with
    | some (.bool j) => decide (s = j)
    | _ => false
  | .non, sc, e => match dConst e with
    | some .none => true
    | _ => false
  | .glb x d, sc, e => match dName e with
    | some y => decide (x = y) && (isGl sc x && okN x)
    | none => false
  | .tup es, sc, e => match dTup e with
    | some fs => decide (es.length ≤ 1000) && chkL N es sc fs
    | none => false
  | .lst es, sc, e => match dLst e with
    | some fs => decide (es.length ≤ 1000) && chkL N es sc fs
    | none => false
  | .bin o a b, sc, e => match dBin e with
    | some (x, op, y) => decide (op = o.op) && (chkE N a sc x && chkE N b sc y)
    | none => false
  | .neg a, sc, e => match dUn e with
    | some (.USub, x) => chkE N a sc x
    | _ => false
  | .cmp o a b, sc, e => match dCmp e with
    | some (x, [op], [y]) => decide (op = o.op) && (!isSet y && (chkE N a sc x && chkE N b sc y))
    | _ => false
  | .chain o o' a b c, sc, e => match dCmp e with
    | some (x, [op, op'], [y, z]) => (decide (op = o.op) && decide (op' = o'.op)) && (!isSet z && (chkE N a sc x && (chkE N b sc y && chkE N c sc z)))
    | _ => false
  | .isN a, sc, e => match dCmp e with
    | some (x, [.Is], [y]) => decide (dConst y = some .none) && chkE N a sc x
    | _ => false
  | .notN a, sc, e => match dCmp e with
    | some (x, [.IsNot], [y]) => decide (dConst y = some .none) && chkE N a sc x
    | _ => false
  | .ands es, sc, e => match dBool e with
    | some (.And, fs) => decide (es ≠ []) && chkL N es sc fs
    | _ => false
  | .ors es, sc, e => match dBool e with
    | some (.Or, fs) => decide (es ≠ []) && chkL N es sc fs
    | _ => false
  | .not a, sc, e => match dUn e with
    | some (.Not, x) => chkE N a sc x
    | _ => false
  | .ite c a b, sc, e => match dIte e with
    | some (x, y, z) => chkE N c sc x && (chkE N a sc y && chkE N b sc z)
    | none => false
  | .ix a i, sc, e => match dSub e with
    | some (x, y) => !isSlice y && (chkE N a sc x && chkE N i sc y)
    | none => false
  | .call f br S dv es, sc, e => match dCall e with
    | some (g, fs, []) => decide (dName g = some f) && (isGl sc f && (okN f && (decide (es.length ≤ br.length ∧ br = br.take es.length ++ List.replicate dv.length false) && chkL N es sc fs)))
    | _ => false
  | .blt b es, sc, e => match dCall e with
    | some (g, fs, []) => decide (dName g = some (Str.ofString b.name)) && (isGl sc (Str.ofString b.name) && (decide (es.length = b.ar) && chkL N es sc fs))
    | _ => false
  | .isi a t, sc, e => match dCall e with
    | some (g, [x, y], []) => (decide (dName g = some ("isinstance" : Str)) && (isGl sc ("isinstance" : Str) && decide (dName y = some (Str.ofString t.name)))) && (isGl sc (Str.ofString t.name) && (!isStar x && chkE N a sc x))
    | _ => false
  | .isis a ts, sc, e => match dCall e with
    | some (g, [x, y], []) => (decide (dName g = some ("isinstance" : Str)) && (isGl sc ("isinstance" : Str) && (decide (ts ≠ [] ∧ ts.length ≤ 1000) && chkTy sc ts (dTup y)))) && (!isStar x && chkE N a sc x)
    | _ => false
  | .comp own t it c el, sc, e => match dComp e with
    | some (f, [⟨tg, iter, ifs, 0⟩], scope) => (blkC N sc scope own && (decide (∀ i ∈ t.slots, i ∈ own.map (·.2)) && chkT N scope t tg)) && ((!isSet iter && chkI N it sc iter) && (chkO N c (relS scope sc) ifs && chkE N el (relS scope sc) f))
    | _ => false
  | .comp2 own t it c t1 it1 c1 el, sc, e => match dComp e with
    | some (f, [⟨tg, iter, ifs, 0⟩, ⟨tg1, iter1, ifs1, 0⟩], scope) => (blkC N sc scope own && (decide ((∀ i ∈ t.slots, i ∈ own.map (·.2)) ∧ ∀ i ∈ t1.slots, i ∈ own.map (·.2)) && (chkT N scope t tg && chkT N scope t1 tg1))) && ((!isSet iter && (!isSet iter1 && (chkI N it sc iter && chkI N it1 (relS scope sc) iter1))) && ((chkO N c (relS scope sc) ifs && chkO N c1 (relS scope sc) ifs1) && chkE N el (relS scope sc) f))
    | _ => false
  | .p1 p a, sc, e => match sh1 sc p e with
    | some x => chkE N a sc x
    | none => false
  | .p2 p a b, sc, e => match sh2 sc p e with
    | some (x, y) => chkE N a sc x && chkE N b sc y
    | none => false
  | .dic0, sc, e => match e with
    | .Dict [] [] _ => true
    | _ => false
  | .callK f br S ks dv es kes, sc, e => match dCall e with
    | some (g, fs, kws) => decide (dName g = some f) && (isGl sc f && (okN f && (decide (es ≠ [] ∧ es.length + kes.length ≤ br.length ∧ br = br.take es.length ++ ((br.drop es.length).take kes.length ++ List.replicate dv.length false)) && (decide (kws.map (·.arg) = ks.map some ∧ kes.length = ks.length) && (chkL N es sc fs && chkL N kes sc (kws.map (·.value)))))))
    | _ => false
  | .mk f br S dv es, sc, e => match dCall e with
    | some (g, fs, []) => decide (dName g = some f) && (isGl sc f && (okN f && (decide (es ≠ [] ∧ es.length ≤ br.length ∧ br = br.take es.length ++ List.replicate dv.length false) && chkL N es sc fs)))
    | _ => false
  | .mkK f br S ks dv kes, sc, e => match dCall e with
    | some (g, [], kws) => decide (dName g = some f) && (isGl sc f && (okN f && (decide (kes.length ≤ br.length ∧ br = br.take kes.length ++ List.replicate dv.length false) && (decide (kws.map (·.arg) = ks.map some ∧ kes.length = ks.length) && chkL N kes sc (kws.map (·.value))))))
    | _ => false
  | .meth cn m br S dv o es, sc, e => match e with
    | .Call (.Attribute (.Name y p) g apos) fs [] pos => (decide (g = m) && ((apos.endLine == pos.line) && decide (es.length < 30))) && (decide (es.length ≤ br.length ∧ br = br.take es.length ++ List.replicate dv.length false) && (chkE N o sc (.Name y p) && chkL N es sc fs))
    | _ => false
def chkL (N : List Str) : List Ex → Scope → List Expr → Bool
  | [], _, [] => true
  | a :: as, sc, e :: es => !isStar e && (chkE N a sc e && chkL N as sc es)
  | _, _, _ => false
def chkI (N : List Str) : Itx → Scope → Expr → Bool
  | .rng a, sc, e => match dCall e with
    | some (g, [x], []) => decide (dName g = some ("range" : Str)) && (isGl sc ("range" : Str) && (!isStar x && chkE N a sc x))
    | _ => false
  | .rng2 a b, sc, e => match dCall e with
    | some (g, [x, y], []) => decide (dName g = some ("range" : Str)) && (isGl sc ("range" : Str) && ((!isStar x && !isStar y) && (chkE N a sc x && chkE N b sc y)))
    | _ => false
  | .seq a, sc, e => chkE N a sc e
def chkO (N : List Str) : Option Ex → Scope → List Expr → Bool
  | none, _, [] => true
  | some a, sc, [e] => chkE N a sc e
  | _, _, _ => false
end

/-! ### what it comes to -/
mutual
@[reducible] def wE (Ed : Str → Prop) : Ex → Sl → (DV → Prop) → Prop
  | .var i => wVar i
  | .int i => wK (.int i)
  | .str s => wK (.str s)
  | .bl b => wK (.bl b)
  | .non => wK .non
  | .glb _ d => wK d
  | .tup es => wTup (wA Ed es (List.replicate es.length false))
  | .lst es => wLst (wA Ed es (List.replicate es.length false))
  | .bin o a b => w2 (co true (wE Ed a)) (co true (wE Ed b)) (opB o)
  | .neg a => w1 (co true (wE Ed a)) opNeg
  | .cmp o a b => w2 (co true (wE Ed a)) (co true (wE Ed b)) (opC o)
  | .chain o o' a b c => fun δ q => co true (wE Ed a) δ fun x => co true (wE Ed b) δ fun y => opC o x y fun t => asB t fun t => if t = true then co true (wE Ed c) δ fun z => opC o' y z q else q (.v (.bl false))
  | .isN a => w1 (co true (wE Ed a)) (opNon true)
  | .notN a => w1 (co true (wE Ed a)) (opNon false)
  | .ands es => vB (wAnds Ed es)
  | .ors es => vB (wOrs Ed es)
  | .not a => vB (wNot (wT (wE Ed a)))
  | .ite c a b => wIf (wT (wE Ed c)) (wE Ed a) (wE Ed b)
  | .ix a i => w2 (co true (wE Ed a)) (co true (wE Ed i)) opIx
  | .call f br S dv es => wCall (wA Ed es (br.take es.length)) S dv Ed
  | .blt b es => wB (wA Ed es (List.replicate b.ar true)) (opBlt b)
  | .isi a t => w1 (co true (wE Ed a)) (opIsi t)
  | .isis a ts => w1 (co true (wE Ed a)) (opIsis ts)
  | .comp own t it c e => wComp (wI true (fun _ => False) it) t (wO (fun _ => False) c) (co false (wE (fun _ => False) e)) (own.map (·.2))
  | .comp2 own t it c t1 it1 c1 e => wComp2 (wI true (fun _ => False) it) t (wO (fun _ => False) c) (wI false (fun _ => False) it1) t1 (wO (fun _ => False) c1) (co false (wE (fun _ => False) e)) (own.map (·.2)) t1.slots
  | .p1 p a => w1 (co true (wE Ed a)) (op1 p)
  | .p2 p a b => w2p p (co true (wE Ed a)) (co true (wE Ed b))
  | .dic0 => fun _ q => q (.own (.dic []))
  | .callK f br S ks dv es kes => wCallK (wA Ed es (br.take es.length)) (wA Ed kes ((br.drop es.length).take kes.length)) S dv Ed
  | .mk f br S dv es => wMk (wA Ed es (br.take es.length)) S dv Ed
  | .mkK f br S ks dv kes => wMk (wA Ed kes (br.take kes.length)) S dv Ed
  | .meth cn m br S dv o es => wMeth cn m (co true (wE Ed o)) (wA Ed es (br.take es.length)) S dv Ed
@[reducible] def wA (Ed : Str → Prop) : List Ex → List Bool → Sl → (List D → Prop) → Prop
  | a :: as, m :: ms => waCons (co m (wE Ed a)) (wA Ed as ms)
  | _, _ => waNil
@[reducible] def wAnds (Ed : Str → Prop) : List Ex → Sl → (Bool → Prop) → Prop
  | [] => fun _ _ => False
  | [a] => wT (wE Ed a)
  | a :: as => wAnd (wT (wE Ed a)) (wAnds Ed as)
@[reducible] def wOrs (Ed : Str → Prop) : List Ex → Sl → (Bool → Prop) → Prop
  | [] => fun _ _ => False
  | [a] => wT (wE Ed a)
  | a :: as => wOr (wT (wE Ed a)) (wOrs Ed as)
@[reducible] def wI (c : Bool) (Ed : Str → Prop) : Itx → Sl → (List D → Prop) → Prop
  | .rng a => wRng1 (waCons (co true (wE Ed a)) waNil)
  | .rng2 a b => wRng2 (waCons (co true (wE Ed a)) (waCons (co true (wE Ed b)) waNil))
  | .seq a => wSeq c (wE Ed a)
@[reducible] def wO (Ed : Str → Prop) : Option Ex → Sl → (Bool → Prop) → Prop
  | none => fun _ q => q true
  | some a => wT (wE Ed a)
end
end TT

set_option Elab.async false
set_option linter.all false
set_option maxRecDepth 100000
set_option autoImplicit false
/-! A caught error that is kept behind its suite. -/
namespace TT
open PySem PySem.Spec PyProof.Rows L2

section
variable {X : Cx} {pins : List (Addr × Obj)} {σ : L2.St} {H : Hp} {sI s' : Shared} {B : Heap} {a : Addr} {cls : Value} {d : Option Addr}
/-- the ground with the error on it, tracked -/
theorem landT {oe : Obj} {vs : Array Value} (I : Inv X pins σ H sI) (nb : ∀ b o, sI.heap.get? b = some o → b ∉ frs X.stack → B.get? b = some o) (st : B.StaysIn s'.heap) (up : sI.heap.UpToSlots s'.heap) (os : s'.os = sI.os) (ag : AllBare s'.gens)
    (na : H a = none) (ng : sI.heap.get? a = none) (he : s'.heap.get? a = some oe) (hz : Zc cls d oe) (hv : oe.data = .fields vs) : Inv X pins σ (upd H a (ErrX cls d a)) s' := by
  have ne : ∀ b o, H b = some o → b ≠ a := fun b o e z => by rw [z, na] at e; cases e
  have ne2 : ∀ b o, sI.heap.get? b = some o → b ≠ a := fun b o e z => by rw [z, ng] at e; cases e
  have sl : ∀ b ∈ frs X.stack, ∀ o, sI.heap.get? b = some o → ∃ t, s'.heap.get? b = some { o with slots := t } := fun b hb o e => by
    obtain ⟨_, o1, e1, q⟩ := I.stack.mem hb
    rw [e] at e1
    cases e1
    exact up b o e q
  refine I.call' (ch := []) os ⟨?_, ?_, ?_, ?_, ?_, ?_, ?_⟩ ?_ ag (fun _ z => nomatch z)
  · intro b o e _ hb _
    exact st b o (nb b o e hb)
  · intro b o e _ hb _
    exact sl b hb o e
  · intro b o e n _
    rw [upd_ne (ne2 b o e)]
    exact n
  · intro b o e _
    by_cases hb : b ∈ frs X.stack
    · obtain ⟨t, q⟩ := sl b hb o e
      exact ⟨_, q⟩
    · exact ⟨o, st b o (nb b o e hb)⟩
  · intro b xs e
    rw [upd_ne (ne b _ e)]
    exact e
  · intro b o xs e
    rw [upd_ne (ne b _ e)]
    exact e
  · intro b ps e
    refine ⟨#[], ?_⟩
    rw [upd_ne (ne b _ e), e]
    simp
  · refine (I.inGround nb).laidN st na ⟨⟨oe, vs, he, hz, hv⟩, ⟨oe, he⟩, ?_⟩
    rintro h1 h2 ⟨o, v, q, r⟩ k
    exact ⟨o, v, k o q, r⟩
/-- no frame's own record -/
theorem notFrame {l : List Env} {h : Heap} {o : Obj} {vs : Array Value} (f : h.FunFrames B l) (e : h.get? a = some o) (q : o.data = .fields vs) : a ∉ frs l := fun m => by
  obtain ⟨_, o1, e1, nf⟩ := f.mem m
  rw [e] at e1
  cases e1
  exact nf _ q
/-- into the suite, nothing pinned -/
theorem inSuite {s : Shared} (I : Inv X pins σ H s) (u : Addr) : Inv (X.suite u (X.pn ++ pins)) [] σ H s :=
  ⟨I.ok.suite _ _, I.os, I.bare, I.base, I.loc, I.cell, I.free, I.freeC, fun p hp => I.pin p (by simpa using hp), I.hok, I.len⟩
/-- .. and out -/
theorem outSuite {s : Shared} {u : Addr} (ok : X.Ok) (I : Inv (X.suite u (X.pn ++ pins)) [] σ H s) : Inv X pins σ H s :=
  ⟨ok, I.os, I.bare, I.base, I.loc, I.cell, I.free, I.freeC, fun p hp => I.pin p (List.mem_append_left _ hp), I.hok, I.len⟩
end

/-- what the try wishes of an error: slot j holds it behind the suite -/
def wKeep (K : PySem.W.Frag) (m : Nat) (c : Value) (j : Nat) (D : Ends) : WX := fun cls d σ H => PySem.W.exmOne K cls c = some true ∧
  ∀ a σ', H a = none → σ'.length = m → σ'[j]? = some (some (.ref a)) → D.nx σ' (upd H a (ErrX cls d a))

section
variable {X : Cx} {x e t : Str} {c : Value} {i j : Nat} {body : List Stmt} {np tp ep ap p1 pos : Pos} {tb : WX → TS}
theorem ps_keep (hs : X.stack = X.env :: X.outer) (hf : X.env.frame = some X.env.locals) (hN : X.N.Nodup) (hi : X.N[i]? = some e) (hj : X.N[j]? = some t) (hij : i ≠ j) (le : X.env.kindOf e = some .local) (lt : X.env.kindOf t = some .local) (hc : Names X x c)
    (d1 : (e == ("__debug__" : Str)) = false) (d2 : (e == ("__classdict__" : Str)) = false)
    (hb : ∀ (W : WX) (pn : List (Addr × Obj)) (xe : Value → Shared → Prop), Takes (X.tr pn xe) W → PassesOwn (model X.prog X.w) X.A X.env xe → PSs (X.tr pn xe) body (tb W)) :
    PS X (.Try body [.ExceptHandler (some (.Name x np)) (some e) [.Assign [.Name t tp] (.Name e ep) ap] p1] [] [] pos) (fun D σ H => σ.length = X.N.length → tb (wKeep X.K X.N.length c j D) D σ H) := by
  constructor
  intro pins s σ H D I h
  replace h := h I.len
  have ok := I.ok
  refine wpAny_Try_except (wpAny_mono ((hb (wKeep X.K X.N.length c j D) (X.pn ++ pins) _ ?tk ?po).run [] s σ H D (I.toTry _) h) ?nrm fun _ _ z => z)
  case po => exact PassesOwn.looking
  case nrm =>
    intro f s1 z
    cases f with
    | next =>
      obtain ⟨σ1, H1, J, q⟩ := z
      exact wpAny_execs_nil ⟨σ1, H1, J.ofTry ok, q⟩
    | brk =>
      obtain ⟨σ1, H1, J, q⟩ := z
      exact ⟨σ1, H1, J.ofTry ok, q⟩
    | cont =>
      obtain ⟨σ1, H1, J, q⟩ := z
      exact ⟨σ1, H1, J.ofTry ok, q⟩
    | ret u =>
      obtain ⟨v, σ1, H1, J, r, q⟩ := z
      exact ⟨v, σ1, H1, J.ofTry ok, r, q⟩
  case tk =>
    rintro u s1 ⟨a, B, sI, _, σ1, H1, cls, d, rfl, J0, nb, up, sky, na, os, ag, hm, hw⟩
    have J : Inv X pins σ1 H1 sI := J0.ofTry ok
    have fr : X.A.frames = some (X.env :: X.outer) := by rw [ok.frames, hs]
    have sk : Sky B (X.env :: X.outer) a (Zc cls d) X.env.locals s1.heap := by rw [← hs]; exact sky
    refine Sky.land Zc.steady fr hf sk fun h2 fl up2 => ?_
    obtain ⟨o2, v2, e2, z2, q2⟩ := fl.there
    have nf := notFrame fl.2.2.1 e2 q2
    have ng : sI.heap.get? a = none := by
      cases q : sI.heap.get? a with
      | none => rfl
      | some o =>
        have := nb a o q (by rw [show (X.tr (X.pn ++ pins) _).stack = X.stack from rfl, hs]; exact nf)
        rw [fl.2.1] at this
        cases this
    have J2 : Inv X pins σ1 H1 { s1 with heap := h2 } := J.landed nb fl.1 (up.trans up2) os ag
    have LT : PySem.W.Looks (model X.prog X.w) h2 (typeOf (.ref a)) cls := fun A Q E s k q => wpAny_typeOf_ref (k _ _ e2) (by rw [z2.1]; exact q)
    have LM := PySem.W.exm_one (M := model X.prog X.w) J2.kIn LT hm
    have S2 := inSuite J2 a
    have nm : ∀ {Q E : Value → Shared → Prop}, Q c { s1 with heap := h2 } → wpAny (model X.prog X.w) (X.A.mark (some (.ref a))) (eval (.Name x np) X.env) Q E { s1 with heap := h2 } := by
      intro Q E q
      obtain ⟨hg, hd, k | ⟨k, k2, k3⟩⟩ := hc
      · exact ld_glob (X := X.suite a (X.pn ++ pins)) S2 hg k q hd
      · exact ld_blt (X := X.suite a (X.pn ++ pins)) S2 hg k k2 q k3 hd
    refine wpAny_handleBy_cons (codeAny_handlers_test (nm (LM.here ?_))) (by intro q; cases q)
    refine codeAny_handlers_suite_as (HandSPX.lands_againZ fl fun h3 fl3 up3 => ?_)
    obtain ⟨o3, v3, e3, z3, q3⟩ := fl3.there
    have J3 : Inv X pins σ1 (upd H1 a (ErrX cls d a)) { s1 with heap := h3 } := landT J nb fl3.1 ((up.trans up2).trans up3) os ag na ng e3 z3 q3
    have S3 := inSuite J3 a
    have vE : Vis X.env.scope e := .inl le
    have len : ∀ k : Nat, k < X.N.length → k < σ1.length := fun k hk => by rw [J.len]; exact hk
    have li := (List.getElem?_eq_some_iff.mp hi).1
    have lj := (List.getElem?_eq_some_iff.mp hj).1
    refine store_ok (X := X.suite a (X.pn ++ pins)) (v := .ref a) S3 hN hi (.inl le) rfl (fun s4 S4 => ?_) (.inr le)
    have row : PSs (X.suite a (X.pn ++ pins)) [.Assign [.Name t tp] (.Name e ep) ap] _ := pss_one (ps_set (i := j) hN hj (.inl lt) (pe_var (i := i) hi vE d1 d2) rfl (.inr lt))
    refine wpAny_mono (row.run [] s4 _ _ { nx := fun σ H => σ = (σ1.set i (some (.ref a))).set j (some (.ref a)) ∧ H = upd H1 a (ErrX cls d a), rt := fun _ _ => False } S4 ?_) (fun f s5 z => ?_) fun _ _ z => z.elim
    · exact ⟨.ref a, List.getElem?_set_self (len i li), rfl, rfl⟩
    · cases f with
      | next =>
        obtain ⟨σ5, H5, S5, rfl, rfl⟩ := z
        refine gone_ok (outSuite ok S5) hN hi le fun s6 J6 => ⟨_, _, J6, hw a _ na ?_ ?_⟩
        · rw [List.length_set, List.length_set, List.length_set]
          exact J.len
        · rw [List.getElem?_set_ne hij]
          exact List.getElem?_set_self (by rw [List.length_set]; exact len j lj)
      | brk =>
        obtain ⟨_, _, _, z⟩ := z
        exact z.elim
      | cont =>
        obtain ⟨_, _, _, z⟩ := z
        exact z.elim
      | ret u =>
        obtain ⟨_, _, _, _, _, z⟩ := z
        exact z.elim
end

/-- isinstance(e, c) of an error that is tracked -/
def rIsT (K : PySem.W.Frag) : List V → Hp → VK → Prop := fun xs H Q => ∃ (a D : Addr) (c : V) (cv : Value) (b : Bool), xs = [.ref a, c] ∧ H a = some (ErrX (.ref D) none a) ∧ ExcC K D ∧ (∀ u, RelV c u → u = cv) ∧ PySem.W.kitOne K (.ref D) cv = some b ∧ Q (.bl b) H
theorem call_isT {X : Cx} : CallR X (.builtin "isinstance") (rIsT X.K) := by
  intro pins s σ H xs us Q I r h
  obtain ⟨a, D, c, cv, b, rfl, hH, C, hcv, hk, q⟩ := h
  obtain ⟨u1, u2, rfl, r1, r2⟩ := vals2 r
  cases r1
  cases hcv _ r2
  obtain ⟨⟨o, vs, ho, hz, hv⟩, _, _⟩ := I.hok a _ hH
  have J : PySem.W.InstAt s.heap a o D none := by
    obtain ⟨oc, od, dt, sl⟩ := o
    obtain ⟨h1, h2⟩ := hz
    simp only at h1 h2 hv
    subst h1 h2 hv
    exact ⟨ho, rfl, rfl, trivial⟩
  refine PySem.W.kia_one (PySem.W.handS_kitx_exc C.hg C.hk C.hs C.hd C.ha C.hn C.ht C.hm) I.kIn J hk (fun z => nomatch z) ?_
  intro tk
  exact ⟨.bl b, H, I.tok tk, rfl, q⟩

/-- xs.count(y), flat items -/
def rCnt (K : PySem.W.Frag) : V → List V → Hp → VK → Prop := fun x xs H Q => ∃ (a : Addr) (ys : List V) (y : V), x = .ref a ∧ xs = [y] ∧ SqL K H a ys ∧ flatV y = true ∧ ys.all flatV = true ∧ Q (.int (ys.countP fun z => eqV z y : Nat)) H
theorem count_vals {y : V} {uy : Value} : ∀ {ys : List V} {us : List Value}, Vals ys us → RelV y uy → ys.all flatV = true → us.countP (eqU y) = ys.countP fun z => eqV z y
  | _, _, .nil, _, _ => rfl
  | _, _, .cons (a := z) (b := u) r t, ry, h => by
    simp only [List.all_cons, Bool.and_eq_true] at h
    rw [List.countP_cons, List.countP_cons, count_vals t ry h.2, eqU_of r h.1]
theorem mt_cnt {X : Cx} : MtR X "list.count" (rCnt X.K) := by
  intro pins s σ H x xs v us Q I rx rxs h
  obtain ⟨a, ys, y, rfl, rfl, hs, fy, fys, q⟩ := h
  cases rx
  obtain ⟨u, rfl, ru⟩ := rxs.one
  obtain ⟨its, rv, ⟨⟨cls, dd, data, sl⟩, n, ho, hc, hdn, hd⟩, hlen⟩ := I.list hs
  simp only at hc hd
  subst hc hd
  refine call_meets PySem.F.slot_list_count ⟨_, ho, rfl⟩ PySem.F.entry_list_count (PySem.F.args_list_count_2 _ _) (SeqAt.list_countAt a its.toArray n dd sl u (eqU y)) ⟨ho, ?_, ?_⟩
  · intro w hw
    exact mem_eqAt ru fy rv fys w (by simpa using hw)
  · refine ⟨.int (ys.countP fun z => eqV z y : Nat), H, I.tok _, ⟨s.toks, ?_⟩, q⟩
    have e := count_vals rv ru fys
    show Value.int ((its.toArray.toList.countP (eqU y) : Nat) : Int) s.toks = _
    rw [← e]
end TT

set_option Elab.async false
set_option linter.all false
set_option maxRecDepth 100000
set_option autoImplicit false
namespace TT
open PySem PySem.Spec L2

/-- what the top has written, as far as a body leans on it -/
structure Top where
  P : Program
  w : World
  K : PySem.W.Frag
  mg : Str → Option Value
  base : Heap
  lv : Nat
def Top.fn (G : Top) : Str → List Bool → DS → List D → Prop := FnG G.P G.w G.K G.mg G.base G.lv
def Top.bare (G : Top) (x : Str) : Prop := G.mg x = none
def Top.glb (G : Top) (x : Str) (d : D) : Prop := ∃ v u, G.mg x = some u ∧ RelV v u ∧ ∀ W, Rep G.K G.mg W v d
def Top.isx (G : Top) (x : Str) : Prop := ∃ cv : Value, ((x = "ValueError" ∧ cv = .type "ValueError" ∧ G.mg x = none) ∨ ∃ C, cv = .ref C ∧ G.mg x = some cv) ∧ G.bare ("isinstance" : Str) ∧
  ∀ c ∈ errNames, ∀ C, G.mg c = some (.ref C) → ExcC G.K C ∧ PySem.W.kitOne G.K (.ref C) cv = some (isE c x)
def Top.att (G : Top) (cn f : Str) : Prop := ∀ C, G.mg cn = some (.ref C) → Cls G.K C ∧ NoAttr G.K C f
def Top.isc (G : Top) (cn : Str) : Prop := G.bare ("isinstance" : Str) ∧ ∃ C, G.mg cn = some (.ref C) ∧ Cls G.K C ∧ PySem.W.findIn G.K (.ref C) "__class__" = some (some (.builtin "object.__class__")) ∧
  PySem.W.specialIn G.K (.builtin "object.__class__") "__get__" = some (some (.builtin "getset_descriptor.__get__")) ∧ PySem.W.takesIn G.K (.builtin "object.__class__") = some true ∧ PySem.W.mroIn G.K C (.type "object") = some true ∧
  ∀ a ∈ ["NoneType", "bool", "int", "str", "tuple", "list", "dict"], PySem.W.kitOne G.K (.type a) (.ref C) = some false
def Top.fnK (G : Top) : Str → Nat → List Str → List Bool → DS → List D → Prop := FnK G.P G.w G.K G.mg G.base G.lv
def Top.me (G : Top) : Str → Str → List Bool → DS → List D → Prop := MeG G.P G.w G.K G.mg G.base G.lv
def Top.made (G : Top) (c : Str) (br : List Bool) (S : DS) (dv : List D) : Prop := ∃ j, G.lv = j + 1 ∧ MkG G.P G.w G.K G.mg G.base j c br S dv
def Top.madeK (G : Top) (c : Str) (ks : List Str) (br : List Bool) (S : DS) (dv : List D) : Prop := ∃ j, G.lv = j + 1 ∧ MkK G.P G.w G.K G.mg G.base j c ks br S dv
def ok1 (G : Top) : P1 → Prop
  | .isx x => G.isx x
  | .att c f => G.att c f
  | .isc c => G.isc c
  | .isTr => True
def ok2 (_ : Top) : P2 → Prop
  | _ => True
mutual
def okE (G : Top) : Ex → Prop
  | .glb x d => G.glb x d
  | .tup es => okL G es
  | .lst es => okL G es
  | .bin _ a b => okE G a ∧ okE G b
  | .neg a => okE G a
  | .cmp _ a b => okE G a ∧ okE G b
  | .chain _ _ a b c => okE G a ∧ okE G b ∧ okE G c
  | .isN a => okE G a
  | .notN a => okE G a
  | .ands es => okL G es
  | .ors es => okL G es
  | .not a => okE G a
  | .ite c a b => okE G c ∧ okE G a ∧ okE G b
  | .ix a i => okE G a ∧ okE G i
  | .call f br S dv es => G.fn f br S dv ∧ okL G es
  | .blt b es => G.bare (Str.ofString b.name) ∧ okL G es
  | .isi a t => G.bare ("isinstance" : Str) ∧ G.bare (Str.ofString t.name) ∧ okE G a
  | .isis a ts => G.bare ("isinstance" : Str) ∧ (∀ t ∈ ts, G.bare (Str.ofString t.name)) ∧ okE G a
  | .comp _ _ it c e => okI G it ∧ okO G c ∧ okE G e
  | .comp2 _ _ it c _ it1 c1 e => okI G it ∧ okO G c ∧ okI G it1 ∧ okO G c1 ∧ okE G e
  | .p1 p a => ok1 G p ∧ okE G a
  | .p2 p a b => ok2 G p ∧ okE G a ∧ okE G b
  | .callK f br S ks dv es kes => G.fnK f es.length ks br S dv ∧ okL G es ∧ okL G kes
  | .mk f br S dv es => G.made f br S dv ∧ okL G es
  | .mkK f br S ks dv kes => G.madeK f ks br S dv ∧ okL G kes
  | .meth cn m br S dv o es => G.me cn m br S dv ∧ okE G o ∧ okL G es
  | _ => True
def okL (G : Top) : List Ex → Prop
  | [] => True
  | a :: as => okE G a ∧ okL G as
def okI (G : Top) : Itx → Prop
  | .rng a => G.bare ("range" : Str) ∧ okE G a
  | .rng2 a b => G.bare ("range" : Str) ∧ okE G a ∧ okE G b
  | .seq a => okE G a
def okO (G : Top) : Option Ex → Prop
  | none => True
  | some a => okE G a
end
abbrev topOf (X : Cx) (lv : Nat) : Top := ⟨X.prog, X.w, X.K, X.mg, X.base, lv⟩

section
variable {X : Cx} {n : N0}
/-- isinstance -/
theorem de_isi {x : Expr} {t : Ty} {p p' pos : Pos} {w : Sl → (D → Prop) → Prop} (hg : Gl X "isinstance") (hm : X.mg "isinstance" = none) (hg' : Gl X (Str.ofString t.name)) (hm' : X.mg (Str.ofString t.name) = none)
    (hs : isStar x = false) (h : PE X x (cV X.K X.mg n true w)) : PE X (.Call (.Name "isinstance" p) [x, .Name (Str.ofString t.name) p'] [] pos) (cE X.K X.mg n (w1 w (opIsi t))) := by
  have ht : PE X (.Name (Str.ofString t.name) p') (tC (.ty t.name)) := pe_bltn hg' hm' (boot_ty t) rfl (by cases t <;> decide) (by cases t <;> decide)
  have hp := pe_callB (pos := pos) (p := p) call_isi hg hm PyProof.Rows.boot_isinstance (pa_cons h (pa_cons ht pa_nil (star_cons rfl)) (star_cons hs)) (by decide) (by decide) (star_cons hs) rfl
  refine PE.imp hp fun σ H Q ⟨W, δ, q, st, sp, hw, k⟩ => ⟨W, δ, _, st, sp, hw, fun W1 H1 v d s r hq => ?_⟩
  unfold opIsi at hq
  split at hq
  · rename_i b e
    obtain ⟨a, ea, kk⟩ := isT_kit (K := X.K) e
    exact ⟨v, .ty t.name, _, _, b, rfl, .ty _, r.read.ty s.ok ea, kk, k W1 H1 _ (.v (.bl b)) s (Rep.bl b) hq⟩
  · exact hq.elim
theorem pa_tys : ∀ {ts : List Ty} {es : List Expr}, chkTy X.env.scope ts (some es) = true → (∀ t ∈ ts, X.mg (Str.ofString t.name) = none) → PA X es (fun _ H Q => Q (ts.map fun t => V.ty t.name) H)
  | [], [], _, _ => pa_nil
  | [], _ :: _, h, _ => by simp [chkTy] at h
  | _ :: _, [], h, _ => by simp [chkTy] at h
  | t :: ts, e :: es, h, hm => by
    simp only [chkTy, Bool.and_eq_true, decide_eq_true_eq] at h
    obtain ⟨p, rfl⟩ := dName_eq h.1
    have ht : PE X (.Name (Str.ofString t.name) p) (tC (.ty t.name)) := pe_bltn (isGl_ok h.2.1) (hm t List.mem_cons_self) (boot_ty t) rfl (by cases t <;> decide) (by cases t <;> decide)
    exact pa_cons ht (pa_tys h.2.2 fun t' ht' => hm t' (List.mem_cons_of_mem _ ht')) (star_cons rfl)
theorem tys_cls : ∀ ts : List Ty, Paired ClsV (ts.map fun t => V.ty t.name) (ts.map fun t => Value.type t.name)
  | [] => .nil
  | t :: ts => .cons (.ty _) (tys_cls ts)
theorem isTs_ty {d : D} {b : Bool} : ∀ {ts : List Ty}, ts ≠ [] → isTs ts d = some b → ∃ a, tyD d = some a
  | [], h, _ => absurd rfl h
  | t :: ts, _, h => by
    unfold isTs at h
    cases e : isT t d with
    | none => rw [e] at h; cases h
    | some c =>
      cases d <;> first | exact ⟨_, rfl⟩ | (simp [isT] at e)
theorem de_isis {x : Expr} {ts : List Ty} {es : List Expr} {k' : Nat} {p p' pos : Pos} {w : Sl → (D → Prop) → Prop} (hl : ts ≠ [] ∧ ts.length ≤ 1000) (hc : chkTy X.env.scope ts (some es) = true) (hg : Gl X "isinstance") (hm : X.mg "isinstance" = none) (hm' : ∀ t ∈ ts, X.mg (Str.ofString t.name) = none)
    (hs : isStar x = false) (h : PE X x (cV X.K X.mg n true w)) : PE X (.Call (.Name "isinstance" p) [x, .Tuple es k' p'] [] pos) (cE X.K X.mg n (w1 w (opIsis ts))) := by
  have ht : PE X (.Tuple es k' p') _ := pe_tup (pa_tys hc hm')
  have hp := pe_callB (pos := pos) (p := p) call_isiT hg hm PyProof.Rows.boot_isinstance (pa_cons h (pa_cons ht pa_nil (star_cons rfl)) (star_cons hs)) (by decide) (by decide) (star_cons hs) rfl
  refine PE.imp hp fun σ H Q ⟨W, δ, q, st, sp, hw, k⟩ => ⟨W, δ, _, st, sp, hw, fun W1 H1 v d s r hq => ?_⟩
  refine ⟨by rw [List.length_map]; exact Nat.le_of_lt (small1000 hl.2), fun T hT => ?_⟩
  unfold opIsis at hq
  split at hq
  · rename_i b e
    have s2 := Stp.laid s.ok hT (.tup (ts.map fun t => V.ty t.name))
    obtain ⟨a, ea⟩ := isTs_ty hl.1 e
    exact ⟨v, T, _, _, _, b, rfl, upd_same, tys_cls ts, (r.step s2).read.ty s2.ok ea, isTs_kit ea e, k _ _ _ (.v (.bl b)) (s.trans s2) (Rep.bl b) hq⟩
  · exact hq.elim
theorem chain_imp {o o' : Cop} {wa wb wc : Sl → (D → Prop) → Prop} {r r' : R2} (h1 : OpS X.K X.mg n true true r (opC o)) (h2 : OpS X.K X.mg n true true r' (opC o')) {σ : L2.St} {H : Hp} {Q : VK}
    (h : cE X.K X.mg n (fun δ q => wa δ fun x => wb δ fun y => opC o x y fun t => asB t fun t => if t = true then wc δ fun z => opC o' y z q else q (.v (.bl false))) σ H Q) : tChain r r' (cV X.K X.mg n true wa) (cV X.K X.mg n true wb) (cV X.K X.mg n true wc) σ H Q := by
  obtain ⟨W, δ, q, st, sp, hw, k⟩ := h
  refine ⟨W, δ, _, st, sp, hw, fun W1 H1 v1 d1 s1 r1 q1 => ⟨W1, δ, _, st.step s1, sp.trans s1, q1, fun W2 H2 v2 d2 s2 r2 q2 => ?_⟩⟩
  refine h1 W2 H2 v1 v2 d1 d2 _ _ s2.ok (r1.step s2) r2 q2 fun W3 H3 v dv s3 r3 q3 => ?_
  unfold asB at q3
  split at q3
  · rename_i b
    cases r3
    refine ⟨b, rfl, ?_⟩
    have s13 := (s1.trans s2).trans s3
    cases b with
    | true =>
      rw [if_pos rfl] at q3 ⊢
      refine ⟨W3, δ, _, st.step s13, sp.trans s13, q3, fun W4 H4 v4 d4 s4 r4 q4 => ?_⟩
      refine h2 W4 H4 v2 v4 d2 d4 _ _ s4.ok ((r2.step s3).step s4) r4 q4 fun W5 H5 v5 dv5 s5 r5 q5 => ?_
      exact k W5 H5 v5 dv5 ((s13.trans s4).trans s5) (VRep.pre (W := W) (fun a h => (s13.trans s4).fresh h) r5) q5
    | false =>
      rw [if_neg Bool.false_ne_true] at q3 ⊢
      exact k W3 H3 _ (.v (.bl false)) s13 (Rep.bl false) q3
  · exact q3.elim
theorem const_none {e : Expr} (h : dConst e = some .none) : ∃ k p, e = .Constant .none k p := dConst_eq h
def isNon : D → Bool
  | .non => true
  | _ => false
theorem non_rep {v : V} {d : D} {W : Wd} {H : Hp} (r : RepT X.K X.mg W H v d) : decide (v = .non) = isNon d := by
  rcases r with r | ⟨a, rfl, c, _⟩
  · cases r <;> rfl
  · cases d <;> first | rfl | exact c.elim
theorem isN_imp {w : Sl → (D → Prop) → Prop} {b : Bool} {σ : L2.St} {H : Hp} {Q : VK}
    (h : cE X.K X.mg n (w1 w (opNon b)) σ H Q) : cV X.K X.mg n true w σ H fun v H1 => Q (.bl (if b = true then decide (v = .non) else !decide (v = .non))) H1 := by
  obtain ⟨W, δ, q, st, sp, hw, k⟩ := h
  refine ⟨W, δ, _, st, sp, hw, fun W1 H1 v d s r hq => ?_⟩
  show Q (V.bl (if b = true then decide (v = V.non) else !decide (v = V.non))) H1
  rw [non_rep r.read]
  unfold opNon at hq
  split at hq
  · cases b <;> exact k W1 H1 _ (.v (.bl _)) s (Rep.bl _) hq
  · rename_i hne
    have e : isNon d = false := by
      cases d <;> first | rfl | exact absurd rfl hne
    rw [e]
    cases b <;> exact k W1 H1 _ (.v (.bl _)) s (Rep.bl _) hq
end
end TT

set_option Elab.async false
set_option linter.all false
set_option maxRecDepth 100000
set_option autoImplicit false
namespace TT
open PySem PySem.Spec L2

section
variable {X : Cx} {E : XK} {n : N0} {Ed : Str → Prop} {lv : Nat}
theorem chkTs_assign {env : Env} {N : List Str} {raw : Scope} : ∀ {ts : List Tg} {es : List Expr}, chkTs N raw ts es = true → (assignEach es env).length = ts.length ∧ (assignEach es env).findIdx? (·.1) = none
  | [], [], _ => ⟨rfl, rfl⟩
  | [], _ :: _, h => by simp [chkTs] at h
  | _ :: _, [], h => by simp [chkTs] at h
  | t :: ts, e :: es, h => by
    simp only [chkTs, Bool.and_eq_true] at h
    obtain ⟨h1, h2⟩ := chkTs_assign (env := env) h.2
    have he : assignEach (e :: es) env = (false, assign e env) :: assignEach es env := by
      cases t <;> simp only [chkT] at h
      · cases e <;> first | rfl | (simp [dName] at h)
      · cases e <;> first | rfl | (simp [dTup] at h)
    rw [he]
    refine ⟨by rw [List.length_cons, List.length_cons, h1], ?_⟩
    rw [List.findIdx?_cons, h2]
    rfl
theorem assign_cons {env : Env} {N : List Str} {raw : Scope} {t : Tg} {e : Expr} {es : List Expr} (h : chkT N raw t e = true) : (assignEach (e :: es) env).map (·.2) = assign e env :: (assignEach es env).map (·.2) := by
  cases t <;> simp only [chkT] at h
  · cases e <;> first | rfl | (simp [dName] at h)
  · cases e <;> first | rfl | (simp [dTup] at h)
mutual
theorem soundT {raw : Scope} (hN : X.N.Nodup) (hc : X.calm = true) (hr : ∀ x, isOwn raw x = true → Loc X.env.scope x ∧ (X.fn x = true ∨ X.env.scope.names.lookup x = some .local)) : ∀ (t : Tg) {e : Expr}, chkT X.N raw t e = true → PG X e (cG X.K X.mg n t.slots (tgD t))
  | .nm i, e, h => by
    simp only [chkT] at h
    split at h
    · rename_i x hx
      rw [Bool.and_eq_true, decide_eq_true_eq] at h
      obtain ⟨p, rfl⟩ := dName_eq hx
      obtain ⟨h1, h2⟩ := hr x h.2
      simp only [Tg.slots]
      exact dg_nm hN h.1 h1 h2
    · cases h
  | .tp ts, e, h => by
    simp only [chkT] at h
    split at h
    · rename_i es hx
      obtain ⟨k, p, rfl⟩ := dTup_eq hx
      obtain ⟨h1, h2⟩ := chkTs_assign (env := X.env) h
      exact dg_tp hc (soundTs hN hc hr ts h) h1 h2
    · cases h
theorem soundTs {raw : Scope} (hN : X.N.Nodup) (hc : X.calm = true) (hr : ∀ x, isOwn raw x = true → Loc X.env.scope x ∧ (X.fn x = true ∨ X.env.scope.names.lookup x = some .local)) : ∀ (ts : List Tg) {es : List Expr}, chkTs X.N raw ts es = true → PGs X es (cGs X.K X.mg n (Tg.slotsL ts) (tgsD ts))
  | [], [], _ => by simp only [Tg.slotsL]; exact dgs_nil
  | [], _ :: _, h => by simp [chkTs] at h
  | _ :: _, [], h => by simp [chkTs] at h
  | t :: ts, e :: es, h => by
    simp only [chkTs, Bool.and_eq_true] at h
    exact dgs_cons (soundT hN hc hr t h.1) (soundTs hN hc hr ts h.2) (assign_cons h.1)
end
end

theorem isOwn_rel {scope sc : Scope} {x : Str} (h : isOwn scope x = true) : Loc (relS scope sc) x ∧ ((scope.names.lookup x == some .cell) = true ∨ (relS scope sc).names.lookup x = some .local) := by
  unfold isOwn at h
  split at h
  · rename_i e
    have := lookup_relS_keep (sc := sc) (k := .local) (by decide) e
    exact ⟨.inl this, .inr this⟩
  · rename_i e
    have := lookup_relS_keep (sc := sc) (k := .cell) (by decide) e
    exact ⟨.inr this, .inl (by rw [e]; rfl)⟩
  · cases h

theorem Ctx.blk {X : Cx} {E : XK} {n : N0} {Ed : Str → Prop} {lv : Nat} (c : Ctx X E n Ed lv) (s : Shared) (H : Hp) {scope : Scope} (hk : scope.kind = .function) (C : Addr) (cl : List (Str × Addr)) (fp : List Addr) :
    Ctx (X.blk s H scope (PySem.compEnvC scope cl C X.env) fp) E0 n (fun _ => False) lv :=
  ⟨c.nd, c.calm, hk, c.room, passL, fun _ _ _ _ z => z.elim⟩

/-- the same place, no refusal wished for -/
theorem Ctx.mask {X : Cx} {E : XK} {n : N0} {Ed : Str → Prop} {lv : Nat} (c : Ctx X E n Ed lv) : Ctx X E n (fun _ => False) lv :=
  ⟨c.nd, c.calm, c.kind, c.room, c.pass, fun _ _ _ _ z => z.elim⟩

theorem co_none {c : Bool} {w : Sl → (DV → Prop) → Prop} : co c w = co c w := rfl
theorem blt_boot (b : Blt) : bootBuiltins (Str.ofString b.name) = some b.value := by cases b <;> decide +kernel

section
variable {X : Cx} {n : N0}
theorem de_blt {b : Blt} {x : Expr} {es : List Expr} {p pos : Pos} {wa : Sl → (List D → Prop) → Prop} (hc : X.calm = true) (hg : Gl X (Str.ofString b.name)) (hm : X.mg (Str.ofString b.name) = none) (hs : isStar x = false)
    (hpl : (backTo pos (starEach es X.env)).any (·.1) = false) (ha : PA X (x :: es) (cA X.K X.mg n (List.replicate b.ar true) wa)) : PE X (.Call (.Name (Str.ofString b.name) p) (x :: es) [] pos) (cE X.K X.mg n (wB wa (opBlt b))) := by
  obtain ⟨r, h1, h2⟩ := blt_rule (X := X) (n := n) hc b
  refine de_B ?_ h2
  have hn : (Str.ofString b.name) ≠ ("__name__" : Str) := by cases b <;> decide
  have hd : (Str.ofString b.name == ("__debug__" : Str)) = false := by cases b <;> decide
  cases b <;> first
    | exact pe_callB h1 hg hm (blt_boot _) ha hn hd (star_cons hs) hpl
    | exact pe_callTy h1 hg hm (blt_boot _) ha hn hd (star_cons hs) hpl
theorem dt_if {c a b : Expr} {pos : Pos} {wc : Sl → (Bool → Prop) → Prop} {wa wb : Sl → (DV → Prop) → Prop} (hc : PT X c (cT X.K X.mg n wc)) (ha : PT X a (cT X.K X.mg n (wT wa))) (hb : PT X b (cT X.K X.mg n (wT wb))) : PT X (.IfExp c a b pos) (cT X.K X.mg n (wT (wIf wc wa wb))) := by
  constructor
  rintro pins s σ H Q I ⟨W, δ, q, st, sp, hw, k⟩
  refine PyProof.Rows.isTrue_IfExp (thn (hc.run pins s σ H (fun t H1 => if t = true then cT X.K X.mg n (wT wa) σ H1 Q else cT X.K X.mg n (wT wb) σ H1 Q) I ⟨W, δ, _, st, sp, hw, fun W1 H1 t s1 q1 => ?_⟩) ?_)
  · cases t with
    | true =>
      rw [if_pos rfl] at q1 ⊢
      exact ⟨W1, δ, q, st.step s1, sp.trans s1, q1, fun W2 H2 b s2 q2 => k W2 H2 b (s1.trans s2) q2⟩
    | false =>
      rw [if_neg Bool.false_ne_true] at q1 ⊢
      exact ⟨W1, δ, q, st.step s1, sp.trans s1, q1, fun W2 H2 b s2 q2 => k W2 H2 b (s1.trans s2) q2⟩
  · rintro t s1 ⟨H1, I1, q1⟩
    cases t with
    | true => exact ha.run pins s1 σ H1 Q I1 q1
    | false => exact hb.run pins s1 σ H1 Q I1 q1
end
end TT

set_option Elab.async false
set_option linter.all false
set_option maxRecDepth 100000
set_option autoImplicit false
namespace TT
open PySem PySem.Spec L2

/-- both readings from a value's, where the test asks the value -/
theorem both {X : Cx} {n : N0} {e : Expr} {w : Sl → (DV → Prop) → Prop} (h : PE X e (cE X.K X.mg n w)) (he : ∀ whole, isTrue e X.env whole = (do let v ← whole; standAt e.pos; holding [v] (truthy v))) : PE X e (cE X.K X.mg n w) ∧ PT X e (cT X.K X.mg n (wT w)) := ⟨h, dt_val h he⟩
theorem shIsi_eq {sc : Scope} {x : Str} {e a : Expr} (h : shIsi sc x e = some a) : ∃ p p2 p3, e = .Call (.Name "isinstance" p) [a, .Name x p2] [] p3 ∧ isGl sc "isinstance" = true ∧ isGl sc x = true ∧ okN x = true ∧ isStar a = false := by
  unfold shIsi at h
  split at h
  · split at h
    · rename_i hh
      cases h
      simp only [Bool.and_eq_true, decide_eq_true_eq, Bool.not_eq_true'] at hh
      obtain ⟨rfl, rfl, h1, h2, h3, h4⟩ := hh
      exact ⟨_, _, _, rfl, h1, h2, h3, h4⟩
    · cases h
  · cases h
theorem sh1_isx {sc : Scope} {x : Str} {e a : Expr} (h : sh1 sc (.isx x) e = some a) : ∃ p p2 p3, e = .Call (.Name "isinstance" p) [a, .Name x p2] [] p3 ∧ isGl sc "isinstance" = true ∧ isGl sc x = true ∧ okN x = true ∧ isStar a = false := shIsi_eq h
theorem sh1_isc {sc : Scope} {x : Str} {e a : Expr} (h : sh1 sc (.isc x) e = some a) : ∃ p p2 p3, e = .Call (.Name "isinstance" p) [a, .Name x p2] [] p3 ∧ isGl sc "isinstance" = true ∧ isGl sc x = true ∧ okN x = true ∧ isStar a = false := shIsi_eq h
theorem sh1_att {sc : Scope} {c f : Str} {e a : Expr} (h : sh1 sc (.att c f) e = some a) : ∃ y p p2, e = .Attribute (.Name y p) f p2 ∧ a = .Name y p := by
  have h : shAtt f e = some a := h
  unfold shAtt at h
  split at h
  · split at h
    · rename_i hh
      cases h
      subst hh
      exact ⟨_, _, _, rfl, rfl⟩
    · cases h
  · cases h
theorem sh1_isTr {sc : Scope} {e a : Expr} (h : sh1 sc .isTr e = some a) : ∃ k p p2, e = .Compare a [.Is] [.Constant (.bool true) k p] p2 := by
  have h : shTr e = some a := h
  unfold shTr at h
  split at h
  · cases h; exact ⟨_, _, _, rfl⟩
  · cases h
theorem shM_eq {m : Str} {e a b : Expr} (h : shM m e = some (a, b)) : ∃ p q, e = .Call (.Attribute a m p) [b] [] q ∧ (p.endLine == q.line) = true ∧ isStar b = false ∧ (dName a).isSome = true := by
  unfold shM at h
  split at h
  · split at h
    · rename_i hh
      cases h
      simp only [Bool.and_eq_true, decide_eq_true_eq, Bool.not_eq_true'] at hh
      obtain ⟨rfl, h1, h2, h3⟩ := hh
      exact ⟨_, _, rfl, h1, h2, h3⟩
    · cases h
  · cases h
theorem sh2_cnt {sc : Scope} {e a b : Expr} (h : sh2 sc .cnt e = some (a, b)) : ∃ p q, e = .Call (.Attribute a "count" p) [b] [] q ∧ (p.endLine == q.line) = true ∧ isStar b = false ∧ (dName a).isSome = true := shM_eq h
theorem sh2_idx {sc : Scope} {e a b : Expr} (h : sh2 sc .idx e = some (a, b)) : ∃ p q, e = .Call (.Attribute a "index" p) [b] [] q ∧ (p.endLine == q.line) = true ∧ isStar b = false ∧ (dName a).isSome = true := shM_eq h
theorem sh2_in {sc : Scope} {neg : Bool} {e a b : Expr} (h : sh2 sc (.isin neg) e = some (a, b)) : ∃ p, e = .Compare a [opIn neg] [b] p ∧ isSet b = false := by
  have h : shIn neg e = some (a, b) := h
  unfold shIn at h
  split at h
  · split at h
    · rename_i hh
      cases h
      simp only [Bool.and_eq_true, decide_eq_true_eq, Bool.not_eq_true'] at hh
      exact ⟨_, by rw [hh.1], hh.2⟩
    · cases h
  · cases h
theorem sh2_cutL {sc : Scope} {e a b : Expr} (h : sh2 sc .cutL e = some (a, b)) : ∃ p p2, e = .Subscript a (.Slice none (some b) none p) p2 := by
  have h : shL e = some (a, b) := h
  unfold shL at h
  split at h
  · cases h; exact ⟨_, _, rfl⟩
  · cases h
theorem sh2_cutR {sc : Scope} {e a b : Expr} (h : sh2 sc .cutR e = some (a, b)) : ∃ p p2, e = .Subscript a (.Slice (some b) none none p) p2 := by
  have h : shR e = some (a, b) := h
  unfold shR at h
  split at h
  · cases h; exact ⟨_, _, rfl⟩
  · cases h
theorem any_py (d : D) : ∀ ys : List D, (pyL ys).any (fun z => PyData.eqv z (py d)) = ys.any fun z => eqD z d
  | [] => rfl
  | y :: ys => by
    simp only [pyL, List.any_cons]
    rw [any_py d ys]
    rfl
theorem flat_bls : ∀ bs : List Bool, (bs.map V.bl).all flatV = true
  | [] => rfl
  | b :: bs => by rw [List.map_cons, List.all_cons, flat_bls bs]; rfl
theorem eqV_bl (a b : Bool) : eqV (.bl a) (.bl b) = (a == b) := by cases a <;> cases b <;> rfl
theorem cnt_bls (b : Bool) : ∀ bs : List Bool, (bs.map V.bl).countP (fun z => eqV z (.bl b)) = bs.count b
  | [] => rfl
  | a :: bs => by
    rw [List.map_cons, List.countP_cons, List.count_cons, cnt_bls b bs, eqV_bl]
theorem RepT.tyL {K : PySem.W.Frag} {mg : Str → Option Value} {W : Wd} {H : Hp} {v : V} {ds : List D} (w : WOk W H) (r : RepT K mg W H v (.lst ds)) : tyV K "list" v H := by
  obtain ⟨a, xs, rfl, e, _⟩ := r.lst w
  exact .inl ⟨rfl, xs, SqL.of e⟩

section
variable {X : Cx} {E : XK} {n : N0} {Ed : Str → Prop} {lv : Nat} (c : Ctx X E n Ed lv)
include c
theorem prim1 (p : P1) {e x : Expr} {w : Sl → (D → Prop) → Prop} (hs : sh1 X.env.scope p e = some x) (ho : ok1 (topOf X lv) p) (h : PE X x (cV X.K X.mg n true w)) : PE X e (cE X.K X.mg n (w1 w (op1 p))) ∧ PT X e (cT X.K X.mg n (wT (w1 w (op1 p)))) := by
  cases p with
  | isx y =>
    obtain ⟨p1, p2, p3, rfl, h1, h2, h3, h4⟩ := sh1_isx hs
    obtain ⟨cv, hcv, hm, hk⟩ := ho
    have cls : ∃ cl : V, PE X (.Name y p2) (tC cl) ∧ ∀ u, RelV cl u → u = cv := by
      rcases hcv with ⟨rfl, rfl, m⟩ | ⟨C, rfl, m⟩
      · exact ⟨.ty "ValueError", pe_bltn (isGl_ok h2) m (by decide +kernel) rfl (by decide) (by decide), fun u r => r⟩
      · exact ⟨.ref C, pe_glob (isGl_ok h2) m rfl (okN_1 h3), fun u r => r⟩
    obtain ⟨cl, pc, hcl⟩ := cls
    have hp := pe_callB (pos := p3) (p := p1) call_isT (isGl_ok h1) hm PyProof.Rows.boot_isinstance (pa_cons h (pa_cons pc pa_nil (star_cons rfl)) (star_cons h4)) (by decide) (by decide) (star_cons h4) rfl
    refine both (PE.imp hp fun σ H Q ⟨W, δ, q, st, sp, hw, k⟩ => ⟨W, δ, _, st, sp, hw, fun W1 H1 v d s r hq => ?_⟩) (by intro _; rfl)
    cases d <;> try exact hq.elim
    rename_i ec
    obtain ⟨a, C, rfl, ha, hC⟩ := r.read.err s.ok
    obtain ⟨k1, k2⟩ := hk ec hq.1 C hC
    exact ⟨a, C, cl, cv, _, rfl, ha, k1, hcl, k2, k W1 H1 _ (.v (.bl _)) s (Rep.bl _) hq.2⟩
  | att cn f =>
    obtain ⟨y, p, p2, rfl, rfl⟩ := sh1_att hs
    exact both (de_att (X := X) (c := cn) (f := f) ho h rfl) (by intro _; rfl)
  | isc cn =>
    obtain ⟨p1, p2, p3, rfl, h1, h2, h3, h4⟩ := sh1_isc hs
    obtain ⟨hm, C, hC, cl, k1, k2, k3, k4, k5⟩ := ho
    have pgl : PE X (.Name cn p2) (tC (.ref C)) := pe_glob (isGl_ok h2) hC rfl (okN_1 h3)
    have hp := pe_callB (pos := p3) (p := p1) call_isi (isGl_ok h1) hm PyProof.Rows.boot_isinstance (pa_cons h (pa_cons pgl pa_nil (star_cons rfl)) (star_cons h4)) (by decide) (by decide) (star_cons h4) rfl
    refine both (PE.imp hp fun σ H Q ⟨W, δ, q, st, sp, hw, k⟩ => ⟨W, δ, _, st, sp, hw, fun W1 H1 v d s r hq => ?_⟩) (by intro _; rfl)
    have basic : (tyD d).isSome = true → q (.v (.bl false)) → ∃ (x c : V) (t u : Value) (b : Bool), [v, V.ref C] = [x, c] ∧ ClsV c u ∧ TyX X.K H1 x t ∧ PySem.W.kitOne X.K t u = some b ∧ Q (.bl b) H1 := fun hb hq => by
      obtain ⟨a, ea⟩ := Option.isSome_iff_exists.mp hb
      refine ⟨v, .ref C, _, _, false, rfl, .own C, r.read.ty s.ok ea, k5 a ?_, k W1 H1 _ (.v (.bl _)) s (Rep.bl _) hq⟩
      cases d <;> first | (cases ea; decide) | (simp [tyD] at ea)
    cases d with
    | obj c' fs =>
      obtain ⟨rfl, hq⟩ := hq
      obtain ⟨a, C', dx, xs, rfl, ha, hm', _⟩ := r.read.obj s.ok
      cases hC.symm.trans hm'
      exact ⟨_, _, _, _, true, rfl, .own C, .base (.ins ha cl k1 k2 k3 k4), by unfold PySem.W.kitOne; simp, k W1 H1 _ (.v (.bl _)) s (Rep.bl _) hq⟩
    | _ => exact basic hq.1 hq.2
  | isTr =>
    obtain ⟨kk, p, p2, rfl⟩ := sh1_isTr hs
    have go : ∀ {σ : L2.St} {H : Hp} {Q : VK}, cE X.K X.mg n (w1 w (op1 .isTr)) σ H Q → tOp (fun x y H Q => ∃ a b, x = V.bl a ∧ y = V.bl b ∧ Q (.bl (decide (a = b))) H) (cV X.K X.mg n true w) (tC (.bl true)) σ H Q := by
      rintro σ H Q ⟨W, δ, q, st, sp, hw, k⟩
      refine ⟨W, δ, _, st, sp, hw, fun W1 H1 v d s r hq => ?_⟩
      cases d <;> try exact hq.elim
      rename_i b
      cases r.read.bl
      refine ⟨b, true, rfl, rfl, ?_⟩
      have e : decide (b = true) = b := by cases b <;> rfl
      rw [e]
      exact k W1 H1 _ (.v (.bl _)) s (Rep.bl _) hq
    exact ⟨PE.imp (pe_cmpR op_is_bl h pe_bl (mark_no _ rfl)) fun σ H Q z => go z, PT.imp (pt_cmpR op_is_bl h pe_bl (mark_no _ rfl)) fun σ H Q z => go (cT.val z)⟩
/-- in, not in: lists and tuples of any data -/
def rInA (K : PySem.W.Frag) (neg : Bool) : R2 := fun x y H Q => ∃ (l : Bool) (d : PyData) (ds : List PyData), Dp K H x d ∧ Dp K H y (if l = true then .list ds else .tuple ds) ∧ SeqAt.shaped d = true ∧ SeqAt.shaped (if l = true then PyData.list ds else .tuple ds) = true ∧ Q (.bl (neg ^^ ds.any fun z => PyData.eqv z d)) H
omit c in
theorem op_inA (hu : X.A.units + 65 < cLine) (neg : Bool) : OpR X (compareOp (opIn neg)) (rInA X.K neg) := by
  intro pins s σ H x y v u Q I rx ry h
  obtain ⟨l, d, ds, hd, he, sd, se, q⟩ := h
  obtain ⟨as, r1⟩ := Dp.reads I d x v hd rx
  obtain ⟨bs, r2⟩ := Dp.reads I _ y u he ry
  cases l with
  | true =>
    cases neg with
    | true => exact SeqAt.notIn_list_reads r2 r1 (SeqAt.canLay_of_shaped se) (SeqAt.canLay_of_shaped sd) (PyProof.Rows.room_in_shaped sd hu) ⟨.bl _, H, I, rfl, by simpa using q⟩
    | false => exact SeqAt.in_list_reads r2 r1 (SeqAt.canLay_of_shaped se) (SeqAt.canLay_of_shaped sd) (PyProof.Rows.room_in_shaped sd hu) ⟨.bl _, H, I, rfl, by simpa using q⟩
  | false =>
    cases neg with
    | true => exact SeqAt.notIn_tuple_reads r2 r1 (SeqAt.canLay_of_shaped se) (SeqAt.canLay_of_shaped sd) (PyProof.Rows.room_in_shaped sd hu) ⟨.bl _, H, I, rfl, by simpa using q⟩
    | false => exact SeqAt.in_tuple_reads r2 r1 (SeqAt.canLay_of_shaped se) (SeqAt.canLay_of_shaped sd) (PyProof.Rows.room_in_shaped sd hu) ⟨.bl _, H, I, rfl, by simpa using q⟩
omit c in
theorem cut_take {xs : List V} {j : Nat} : cutV xs none (some (j : Int)) = xs.take j := by
  unfold cutV
  rw [HT.sIx_nat, HT.sIx_none, List.drop_zero, Nat.sub_zero]
  rcases Nat.le_total j xs.length with h | h
  · rw [Nat.min_eq_left h]
  · rw [Nat.min_eq_right h, List.take_of_length_le (Nat.le_refl _), List.take_of_length_le h]
omit c in
theorem cut_drop {xs : List V} {j : Nat} : cutV xs (some (j : Int)) none = xs.drop j := by
  unfold cutV
  rw [HT.sIx_nat, HT.sIx_none]
  rcases Nat.le_total j xs.length with h | h
  · rw [Nat.min_eq_left h, List.take_of_length_le (by rw [List.length_drop]; omega)]
  · rw [Nat.min_eq_right h, Nat.sub_self, List.take_zero, List.drop_eq_nil_of_le h]
theorem prim2 (p : P2) {e x y : Expr} {wa wb : Sl → (D → Prop) → Prop} (hs : sh2 X.env.scope p e = some (x, y)) (ho : ok2 (topOf X lv) p) (ha : PE X x (cV X.K X.mg n true wa)) (hb : PE X y (cV X.K X.mg n true wb)) : PE X e (cE X.K X.mg n (w2p p wa wb)) ∧ PT X e (cT X.K X.mg n (wT (w2p p wa wb))) := by
  cases p with
  | cnt =>
    obtain ⟨p1, q1, rfl, h1, h2, h3⟩ := sh2_cnt hs
    obtain ⟨nm, hn⟩ := Option.isSome_iff_exists.mp h3
    obtain ⟨p3, rfl⟩ := dName_eq hn
    have hp := pe_bm (T := "list") PySem.F.plainAttrs_list PySem.F.slot_list_count PySem.F.type_list_count mt_cnt ha (pa_cons hb pa_nil (star_cons h2)) rfl (by rw [star_cons h2]; rfl) h1 (star_cons h2) rfl
    refine both (PE.imp hp fun σ H Q ⟨W, δ, q, st, sp, hw, k⟩ => ⟨W, δ, _, st, sp, hw, fun W1 H1 v1 d1 s1 r1 ⟨z, q1⟩ => ?_⟩) (by intro _; rfl)
    cases d1 <;> try exact z.elim
    refine ⟨r1.read.tyL s1.ok, W1, δ, _, st.step s1, sp.trans s1, q1, fun W2 H2 v2 d2 s2 r2 q2 => ?_⟩
    cases d2 <;> try exact q2.elim
    obtain ⟨bs, rfl, q3⟩ := q2
    obtain ⟨a, xs, rfl, e1, l1⟩ := (r1.step s2).read.lst s2.ok
    cases RepL.bls l1
    cases r2.read.bl
    refine ⟨a, _, _, rfl, rfl, SqL.of e1, rfl, flat_bls bs, ?_⟩
    rw [cnt_bls]
    exact k W2 H2 _ (.v (.int _)) (s1.trans s2) (Rep.int _) q3
  | idx =>
    obtain ⟨p1, q1, rfl, h1, h2, h3⟩ := sh2_idx hs
    obtain ⟨nm, hn⟩ := Option.isSome_iff_exists.mp h3
    obtain ⟨p3, rfl⟩ := dName_eq hn
    have hp := pe_bm (T := "list") PySem.F.plainAttrs_list PySem.F.slot_list_index PySem.F.type_list_index mt_index ha (pa_cons hb pa_nil (star_cons h2)) rfl (by rw [star_cons h2]; rfl) h1 (star_cons h2) rfl
    refine both (PE.imp hp fun σ H Q ⟨W, δ, q, st, sp, hw, k⟩ => ⟨W, δ, _, st, sp, hw, fun W1 H1 v1 d1 s1 r1 ⟨z, q1⟩ => ?_⟩) (by intro _; rfl)
    cases d1 <;> try exact z.elim
    refine ⟨r1.read.tyL s1.ok, W1, δ, _, st.step s1, sp.trans s1, q1, fun W2 H2 v2 d2 s2 r2 q2 => ?_⟩
    cases d2 <;> try exact q2.elim
    rename_i b
    obtain ⟨bs, j, rfl, hj, hm, q3⟩ := q2
    obtain ⟨a, xs, rfl, e1, l1⟩ := (r1.step s2).read.lst s2.ok
    cases RepL.bls l1
    cases r2.read.bl
    refine ⟨a, _, _, j, .bl b, rfl, rfl, SqL.of e1, rfl, flat_bls bs, ?_, ?_, ?_, ?_⟩
    · rw [List.getElem?_map, hj]; rfl
    · rw [eqV_bl]; simp
    · intro m z' hmj e
      rw [List.getElem?_map, hm m hmj] at e
      cases e
      rw [eqV_bl]; cases b <;> rfl
    · exact k W2 H2 _ (.v (.int _)) (s1.trans s2) (Rep.int _) q3
  | isin neg =>
    obtain ⟨p, rfl, h1⟩ := sh2_in hs
    have hu : X.A.units + 65 < cLine := by have := c.room.un; omega
    have go : ∀ {σ : L2.St} {H : Hp} {Q : VK}, cE X.K X.mg n (w2p (.isin neg) wa wb) σ H Q → tOp (rInA X.K neg) (cV X.K X.mg n true wa) (cV X.K X.mg n true wb) σ H Q := by
      rintro σ H Q ⟨W, δ, q, st, sp, hw, k⟩
      refine ⟨W, δ, _, st, sp, hw, fun W1 H1 v1 d1 s1 r1 q1 => ⟨W1, δ, _, st.step s1, sp.trans s1, q1.2, fun W2 H2 v2 d2 s2 r2 q2 => ?_⟩⟩
      have rr1 := (r1.step s2).read
      have rr2 := r2.read
      cases d2 <;> try (cases d1 <;> exact False.elim q2)
      · rename_i ys
        have q2 : plain 60 d1 = true ∧ plain 60 (.tup ys) = true ∧ q (.v (.bl (neg ^^ ys.any fun z => eqD z d1))) := by cases d1 <;> exact q2
        obtain ⟨p1, p2, q2⟩ := q2
        have e2 := rr2.dp s2.ok p2
        have e3 := plain_shaped p2
        simp only [py] at e2 e3
        refine ⟨false, py d1, pyL ys, rr1.dp s2.ok p1, e2, plain_shaped p1, e3, ?_⟩
        rw [any_py]
        exact k W2 H2 _ (.v (.bl _)) (s1.trans s2) (Rep.bl _) q2
      · rename_i ys
        have q2 : plain 60 d1 = true ∧ plain 60 (.lst ys) = true ∧ q (.v (.bl (neg ^^ ys.any fun z => eqD z d1))) := by cases d1 <;> exact q2
        obtain ⟨p1, p2, q2⟩ := q2
        have e2 := rr2.dp s2.ok p2
        have e3 := plain_shaped p2
        simp only [py] at e2 e3
        refine ⟨true, py d1, pyL ys, rr1.dp s2.ok p1, e2, plain_shaped p1, e3, ?_⟩
        rw [any_py]
        exact k W2 H2 _ (.v (.bl _)) (s1.trans s2) (Rep.bl _) q2
    exact ⟨PE.imp (pe_cmpR (op_inA hu neg) ha hb (mark_no _ h1)) fun σ H Q z => go z, PT.imp (pt_cmpR (op_inA hu neg) ha hb (mark_no _ h1)) fun σ H Q z => go (cT.val z)⟩
  | cutL =>
    obtain ⟨p, p2, rfl⟩ := sh2_cutL hs
    refine both (PE.imp (pe_slice (SlR.or sl_tup sl_list) ha po_none (po_some hb)) fun σ H Q ⟨W, δ, q, st, sp, hw, k⟩ => ⟨W, δ, _, st, sp, hw, fun W1 H1 v1 d1 s1 r1 q1 => ⟨W1, δ, _, st.step s1, sp.trans s1, q1.2, fun W2 H2 v2 d2 s2 r2 q2 => ?_⟩⟩) (by intro _; rfl)
    cases d2 <;> try (cases d1 <;> exact False.elim q2)
    rename_i j
    cases r2.read.int
    refine ⟨j, rfl, ?_⟩
    cases d1 <;> try exact q2.elim
    · obtain ⟨h0, h1, q2⟩ := q2
      obtain ⟨m, rfl⟩ := Int.eq_ofNat_of_zero_le h0
      obtain ⟨a, xs, rfl, e1, l1⟩ := (r1.step s2).read.tup s2.ok
      have hl := l1.length
      refine .inl ⟨a, xs, rfl, e1, fun z => ?_, fun q hq => ?_⟩
      · have := z.2
        rw [HT.sIx_nat] at this
        omega
      · rw [cut_take]
        have s3 := Stp.laid s2.ok hq (.tup (xs.take m))
        exact k _ _ (.ref q) (.v (.tup _)) ((s1.trans s2).trans s3) (.tup (SqT.of (by show upd W2.F q _ q = _; rw [upd_same])) ((l1.take m).le s3.le)) q2
    · obtain ⟨h0, q2⟩ := q2
      obtain ⟨m, rfl⟩ := Int.eq_ofNat_of_zero_le h0
      obtain ⟨a, xs, rfl, e1, l1⟩ := (r1.step s2).read.lst s2.ok
      refine .inr ⟨a, xs, rfl, SqL.of e1, fun q hq => ?_⟩
      rw [cut_take]
      exact k W2 _ (.ref q) (.own (.lst _)) ((s1.trans s2).trans (Stp.laidOwn s2.ok hq _)) ⟨q, rfl, ⟨_, upd_same, l1.take m⟩, (s1.trans s2).fresh hq, s2.ok.sub.free hq, s2.ok.notTown hq⟩ q2
  | cutR =>
    obtain ⟨p, p2, rfl⟩ := sh2_cutR hs
    refine both (PE.imp (pe_slice (SlR.or sl_tup sl_list) ha (po_some hb) po_none) fun σ H Q ⟨W, δ, q, st, sp, hw, k⟩ => ⟨W, δ, _, st, sp, hw, fun W1 H1 v1 d1 s1 r1 q1 => ⟨W1, δ, _, st.step s1, sp.trans s1, q1.2, fun W2 H2 v2 d2 s2 r2 q2 => ?_⟩⟩) (by intro _; rfl)
    cases d2 <;> try (cases d1 <;> exact False.elim q2)
    rename_i j
    cases r2.read.int
    refine ⟨j, rfl, ?_⟩
    cases d1 <;> try exact q2.elim
    · obtain ⟨h0, h1, q2⟩ := q2
      obtain ⟨m, rfl⟩ := Int.eq_ofNat_of_zero_le (Int.le_of_lt h0)
      obtain ⟨a, xs, rfl, e1, l1⟩ := (r1.step s2).read.tup s2.ok
      have hl := l1.length
      refine .inl ⟨a, xs, rfl, e1, fun z => ?_, fun q hq => ?_⟩
      · have z1 := z.1
        rw [HT.sIx_nat] at z1
        have : xs.length ≠ 0 := fun z => h1 (List.eq_nil_of_length_eq_zero (by rw [← hl]; exact z))
        omega
      · rw [cut_drop]
        have s3 := Stp.laid s2.ok hq (.tup (xs.drop m))
        exact k _ _ (.ref q) (.v (.tup _)) ((s1.trans s2).trans s3) (.tup (SqT.of (by show upd W2.F q _ q = _; rw [upd_same])) ((l1.drop m).le s3.le)) q2
    · obtain ⟨h0, q2⟩ := q2
      obtain ⟨m, rfl⟩ := Int.eq_ofNat_of_zero_le h0
      obtain ⟨a, xs, rfl, e1, l1⟩ := (r1.step s2).read.lst s2.ok
      refine .inr ⟨a, xs, rfl, SqL.of e1, fun q hq => ?_⟩
      rw [cut_drop]
      exact k W2 _ (.ref q) (.own (.lst _)) ((s1.trans s2).trans (Stp.laidOwn s2.ok hq _)) ⟨q, rfl, ⟨_, upd_same, l1.drop m⟩, (s1.trans s2).fresh hq, s2.ok.sub.free hq, s2.ok.notTown hq⟩ q2
end
end TT

set_option Elab.async false
set_option linter.all false
set_option maxRecDepth 100000
set_option autoImplicit false
namespace TT
open PySem PySem.Spec L2

theorem chkL_len {N : List Str} {sc : Scope} : ∀ {xs : List Ex} {es : List Expr}, chkL N xs sc es = true → es.length = xs.length
  | [], [], _ => rfl
  | [], _ :: _, h => by simp [chkL] at h
  | _ :: _, [], h => by simp [chkL] at h
  | x :: xs, e :: es, h => by
    simp only [chkL, Bool.and_eq_true] at h
    exact congrArg (· + 1) (chkL_len h.2.2)
theorem chkL_back {N : List Str} {sc : Scope} {pos : Pos} {env : Env} : ∀ {xs : List Ex} {es : List Expr}, chkL N xs sc es = true → (backTo pos (starEach es env)).any (·.1) = false
  | [], [], _ => rfl
  | [], _ :: _, h => by simp [chkL] at h
  | _ :: _, [], h => by simp [chkL] at h
  | x :: xs, e :: es, h => by
    simp only [chkL, Bool.and_eq_true, Bool.not_eq_true'] at h
    rw [star_cons h.1]
    show (false || (backTo pos (starEach es env)).any (·.1)) = false
    rw [chkL_back h.2.2]
    rfl
theorem take_len {br : List Bool} {k : Nat} (h : k ≤ br.length) : (br.take k).length = k := by
  rw [List.length_take]; omega


theorem kw_names {pos : Pos} {env : Env} : ∀ {kws : List Keyword} {ks : List Str}, kws.map (·.arg) = ks.map some → (backToKw pos (keywordEach kws env)).all (·.1.isSome) = true ∧ (backToKw pos (keywordEach kws env)).filterMap (·.1) = ks ∧ (backToKw pos (keywordEach kws env)).any (·.1.isNone) = false
  | [], [], _ => ⟨rfl, rfl, rfl⟩
  | [], _ :: _, h => by simp at h
  | _ :: _, [], h => by simp at h
  | ⟨a, v, p⟩ :: kws, k :: ks, h => by
    simp only [List.map_cons, List.cons.injEq] at h
    obtain ⟨h0, h1⟩ := h
    subst h0
    obtain ⟨k1, k2, k3⟩ := kw_names (pos := pos) (env := env) h1
    refine ⟨?_, ?_, ?_⟩
    · show (true && (backToKw pos (keywordEach kws env)).all (·.1.isSome)) = true
      rw [k1]; rfl
    · show k :: (backToKw pos (keywordEach kws env)).filterMap (·.1) = _
      rw [k2]
    · show (false || (backToKw pos (keywordEach kws env)).any (·.1.isNone)) = false
      rw [k3]; rfl
mutual
theorem soundE : ∀ (x : Ex) {X : Cx} {E : XK} {n : N0} {Ed : Str → Prop} {lv : Nat} (c : Ctx X E n Ed lv) {e : Expr}, chkE X.N x X.env.scope e = true → okE (topOf X lv) x → PE X e (cE X.K X.mg n (wE Ed x)) ∧ PT X e (cT X.K X.mg n (wT (wE Ed x)))
  | .var i, X, E, n, Ed, lv, c, e, h, ho => by
    simp only [chkE] at h
    split at h
    · rename_i x hx
      rw [Bool.and_eq_true, Bool.and_eq_true, decide_eq_true_eq] at h
      obtain ⟨p, rfl⟩ := dName_eq hx
      simp only [wE]
      exact both (de_var h.1 (vis_ok h.2.1) (okN_1 h.2.2) (okN_2 h.2.2)) (by intro _; rfl)
    · cases h
  | .int i, X, E, n, Ed, lv, c, e, h, ho => by
    simp only [chkE] at h
    split at h
    · rename_i x hx
      rw [decide_eq_true_eq] at h
      obtain ⟨k, p, rfl⟩ := dConst_eq hx
      subst h
      simp only [wE]
      exact both (de_const pe_int fun _ => .int _) (by intro _; rfl)
    · cases h
  | .str i, X, E, n, Ed, lv, c, e, h, ho => by
    simp only [chkE] at h
    split at h
    · rename_i x hx
      rw [decide_eq_true_eq] at h
      obtain ⟨k, p, rfl⟩ := dConst_eq hx
      subst h
      simp only [wE]
      exact both (de_const pe_str fun _ => .str _) (by intro _; rfl)
    · cases h
  | .bl i, X, E, n, Ed, lv, c, e, h, ho => by
    simp only [chkE] at h
    split at h
    · rename_i x hx
      rw [decide_eq_true_eq] at h
      obtain ⟨k, p, rfl⟩ := dConst_eq hx
      subst h
      simp only [wE]
      exact both (de_const pe_bl fun _ => .bl _) (by intro _; rfl)
    · cases h
  | .non, X, E, n, Ed, lv, c, e, h, ho => by
    simp only [chkE] at h
    split at h
    · rename_i x hx
      obtain ⟨k, p, rfl⟩ := dConst_eq hx
      simp only [wE]
      exact both (de_const pe_non fun _ => .non) (by intro _; rfl)
    · cases h
  | .glb y d, X, E, n, Ed, lv, c, e, h, ho => by
    simp only [chkE] at h
    split at h
    · rename_i x hx
      rw [Bool.and_eq_true, Bool.and_eq_true, decide_eq_true_eq] at h
      obtain ⟨p, rfl⟩ := dName_eq hx
      obtain ⟨rfl, h2, h3⟩ := h
      simp only [okE] at ho
      obtain ⟨v, u, hm, r, rr⟩ := ho
      simp only [wE]
      exact both (de_const (pe_glob (isGl_ok h2) hm r (okN_1 h3)) rr) (by intro _; rfl)
    · cases h
  | .tup es, X, E, n, Ed, lv, c, e, h, ho => by
    simp only [chkE] at h
    split at h
    · rename_i fs hx
      rw [Bool.and_eq_true, decide_eq_true_eq] at h
      obtain ⟨k, p, rfl⟩ := dTup_eq hx
      simp only [okE] at ho
      simp only [wE]
      exact both (de_tup (soundA es (List.replicate es.length false) c List.length_replicate h.2 ho) h.1) (by intro _; rfl)
    · cases h
  | .lst es, X, E, n, Ed, lv, c, e, h, ho => by
    simp only [chkE] at h
    split at h
    · rename_i fs hx
      rw [Bool.and_eq_true, decide_eq_true_eq] at h
      obtain ⟨p, rfl⟩ := dLst_eq hx
      simp only [okE] at ho
      simp only [wE]
      exact both (de_lst (soundA es (List.replicate es.length false) c List.length_replicate h.2 ho) h.1) (by intro _; rfl)
    · cases h
  | .bin o a b, X, E, n, Ed, lv, c, e, h, ho => by
    simp only [chkE] at h
    split at h
    · rename_i x op y hx
      rw [Bool.and_eq_true, Bool.and_eq_true, decide_eq_true_eq] at h
      obtain ⟨p, rfl⟩ := dBin_eq hx
      obtain ⟨rfl, h2, h3⟩ := h
      simp only [okE] at ho
      obtain ⟨r, k1, k2⟩ := bop_rule (X := X) (n := n) o
      simp only [wE]
      exact both (PE.imp (pe_op k1 (dv_of true (soundE a c h2 ho.1).1) (dv_of true (soundE b c h3 ho.2).1)) fun σ H Q z => c2 k2 z) (by intro _; rfl)
    · cases h
  | .neg a, X, E, n, Ed, lv, c, e, h, ho => by
    simp only [chkE] at h
    split at h
    · rename_i x hx
      obtain ⟨p, rfl⟩ := dUn_eq hx
      simp only [okE] at ho
      simp only [wE]
      refine both (de_1 (pe_un un_neg) (dv_of true (soundE a c h ho).1) fun W H v1 d1 q Q w r hq k => ?_) (by intro _; rfl)
      cases d1 <;> try exact hq.elim
      cases r.read.int
      exact ⟨_, rfl, k W H _ (.v (.int _)) (.refl w) (Rep.int _) hq⟩
    · cases h
  | .cmp o a b, X, E, n, Ed, lv, c, e, h, ho => by
    simp only [chkE] at h
    split at h
    · rename_i x op y hx
      rw [Bool.and_eq_true, Bool.and_eq_true, Bool.and_eq_true, decide_eq_true_eq, Bool.not_eq_true'] at h
      obtain ⟨p, rfl⟩ := dCmp_eq hx
      obtain ⟨rfl, h1, h2, h3⟩ := h
      simp only [okE] at ho
      obtain ⟨r, k1, k2⟩ := cop_rule (X := X) (n := n) c.units o
      have ha := dv_of true (soundE a c h2 ho.1).1
      have hb := dv_of true (soundE b c h3 ho.2).1
      simp only [wE]
      exact ⟨PE.imp (pe_cmpR k1 ha hb (mark_no _ h1)) fun σ H Q z => c2 k2 z, PT.imp (pt_cmpR k1 ha hb (mark_no _ h1)) fun σ H Q z => c2 k2 (cT.val z)⟩
    · cases h
  | .chain o o' a b d, X, E, n, Ed, lv, c, e, h, ho => by
    simp only [chkE] at h
    split at h
    · rename_i x op op' y z hx
      simp only [Bool.and_eq_true, decide_eq_true_eq, Bool.not_eq_true'] at h
      obtain ⟨p, rfl⟩ := dCmp_eq hx
      obtain ⟨⟨rfl, rfl⟩, h1, h2, h3, h4⟩ := h
      simp only [okE] at ho
      obtain ⟨r, k1, k2⟩ := cop_rule (X := X) (n := n) c.units o
      obtain ⟨r', k1', k2'⟩ := cop_rule (X := X) (n := n) c.units o'
      have ha := dv_of true (soundE a c h2 ho.1).1
      have hb := dv_of true (soundE b c h3 ho.2.1).1
      have hd := dv_of true (soundE d c h4 ho.2.2).1
      have hm : lastMarks [o.op, o'.op] [y, z] = false := mark_no o'.op h1
      simp only [wE]
      exact ⟨PE.imp (pe_chain k1 k1' ha hb hd hm) fun σ H Q t => chain_imp k2 k2' t, PT.imp (pt_chain k1 k1' ha hb hd hm) fun σ H Q t => chain_imp k2 k2' (cT.val t)⟩
    · cases h
  | .isN a, X, E, n, Ed, lv, c, e, h, ho => by
    simp only [chkE] at h
    split at h
    · rename_i x y hx
      rw [Bool.and_eq_true, decide_eq_true_eq] at h
      obtain ⟨p, rfl⟩ := dCmp_eq hx
      obtain ⟨k', p', rfl⟩ := const_none h.1
      simp only [okE] at ho
      have ha := dv_of true (soundE a c h.2 ho).1
      simp only [wE]
      exact ⟨PE.imp (pe_cmpR op_isN ha pe_non (mark_no _ rfl)) fun σ H Q z => by
          obtain ⟨W, δ, q, st, sp, hw, k⟩ := isN_imp (b := true) z
          exact ⟨W, δ, q, st, sp, hw, fun W' H' v d s r hq => ⟨rfl, k W' H' v d s r hq⟩⟩,
        PT.imp (pt_cmpR op_isN ha pe_non (mark_no _ rfl)) fun σ H Q z => by
          obtain ⟨W, δ, q, st, sp, hw, k⟩ := isN_imp (b := true) (cT.val z)
          exact ⟨W, δ, q, st, sp, hw, fun W' H' v d s r hq => ⟨rfl, k W' H' v d s r hq⟩⟩⟩
    · cases h
  | .notN a, X, E, n, Ed, lv, c, e, h, ho => by
    simp only [chkE] at h
    split at h
    · rename_i x y hx
      rw [Bool.and_eq_true, decide_eq_true_eq] at h
      obtain ⟨p, rfl⟩ := dCmp_eq hx
      obtain ⟨k', p', rfl⟩ := const_none h.1
      simp only [okE] at ho
      have ha := dv_of true (soundE a c h.2 ho).1
      simp only [wE]
      exact ⟨PE.imp (pe_cmpR op_notN ha pe_non (mark_no _ rfl)) fun σ H Q z => by
          obtain ⟨W, δ, q, st, sp, hw, k⟩ := isN_imp (b := false) z
          exact ⟨W, δ, q, st, sp, hw, fun W' H' v d s r hq => ⟨rfl, k W' H' v d s r hq⟩⟩,
        PT.imp (pt_cmpR op_notN ha pe_non (mark_no _ rfl)) fun σ H Q z => by
          obtain ⟨W, δ, q, st, sp, hw, k⟩ := isN_imp (b := false) (cT.val z)
          exact ⟨W, δ, q, st, sp, hw, fun W' H' v d s r hq => ⟨rfl, k W' H' v d s r hq⟩⟩⟩
    · cases h
  | .ands es, X, E, n, Ed, lv, c, e, h, ho => by
    simp only [chkE] at h
    split at h
    · rename_i fs hx
      rw [Bool.and_eq_true, decide_eq_true_eq] at h
      obtain ⟨p, rfl⟩ := dBool_eq hx
      simp only [okE] at ho
      obtain ⟨k1, k2⟩ := soundAnds es h.1 c h.2 ho p
      simp only [wE]
      exact ⟨k1, PT.imp k2.pt fun σ H Q z => cE.vT z⟩
    · cases h
  | .ors es, X, E, n, Ed, lv, c, e, h, ho => by
    simp only [chkE] at h
    split at h
    · rename_i fs hx
      rw [Bool.and_eq_true, decide_eq_true_eq] at h
      obtain ⟨p, rfl⟩ := dBool_eq hx
      simp only [okE] at ho
      obtain ⟨k1, k2⟩ := soundOrs es h.1 c h.2 ho p
      simp only [wE]
      exact ⟨k1, PT.imp k2.pt fun σ H Q z => cE.vT z⟩
    · cases h
  | .not a, X, E, n, Ed, lv, c, e, h, ho => by
    simp only [chkE] at h
    split at h
    · rename_i x hx
      obtain ⟨p, rfl⟩ := dUn_eq hx
      simp only [okE] at ho
      obtain ⟨k1, k2⟩ := soundE a c h ho
      simp only [wE]
      exact ⟨PE.imp (pe_not k1) fun σ H Q z => cE.notV z, PT.imp (pt_not k2) fun σ H Q z => cT.not (cE.vT z)⟩
    · cases h
  | .ite d a b, X, E, n, Ed, lv, c, e, h, ho => by
    simp only [chkE] at h
    split at h
    · rename_i x y z hx
      rw [Bool.and_eq_true, Bool.and_eq_true] at h
      obtain ⟨p, rfl⟩ := dIte_eq hx
      simp only [okE] at ho
      simp only [wE]
      obtain ⟨_, d2⟩ := soundE d c h.1 ho.1
      obtain ⟨a1, a2⟩ := soundE a c h.2.1 ho.2.1
      obtain ⟨b1, b2⟩ := soundE b c h.2.2 ho.2.2
      exact ⟨de_if d2 a1 b1, dt_if d2 a2 b2⟩
    · cases h
  | .ix a b, X, E, n, Ed, lv, c, e, h, ho => by
    simp only [chkE] at h
    split at h
    · rename_i x y hx
      rw [Bool.and_eq_true, Bool.and_eq_true, Bool.not_eq_true'] at h
      obtain ⟨p, rfl⟩ := dSub_eq hx
      simp only [okE] at ho
      obtain ⟨k1, k2⟩ := ix_rule (X := X) (n := n)
      simp only [wE]
      exact both (PE.imp (pe_ix k1 (dv_of true (soundE a c h.2.1 ho.1).1) (dv_of true (soundE b c h.2.2 ho.2).1) (plainIx h.1)) fun σ H Q z => c2 k2 z) (by intro _; rfl)
    · cases h
  | .call f br S dv es, X, E, n, Ed, lv, c, e, h, ho => by
    simp only [chkE] at h
    split at h
    · rename_i g fs hx
      simp only [Bool.and_eq_true, decide_eq_true_eq] at h
      obtain ⟨p, rfl⟩ := dCall_eq hx
      obtain ⟨h1, h2, h3, ⟨h4, h5⟩, h6⟩ := h
      obtain ⟨p', rfl⟩ := dName_eq h1
      simp only [okE] at ho
      have ha := soundA es (br.take es.length) c (take_len h4) h6 ho.2
      simp only [wE]
      cases es with
      | nil =>
        cases fs with
        | nil => exact both (de_call0 (f := f) c ho.1 (by simpa using h5) (isGl_ok h2) (okN_1 h3)) (by intro _; rfl)
        | cons _ _ => simp [chkL] at h6
      | cons a as =>
        cases fs with
        | nil => simp [chkL] at h6
        | cons y ys =>
          have hst : isStar y = false := by
            simp only [chkL, Bool.and_eq_true, Bool.not_eq_true'] at h6
            exact h6.1
          have hb : (backTo p (starEach ys X.env)).any (·.1) = false := by
            simp only [chkL, Bool.and_eq_true] at h6
            exact chkL_back h6.2.2
          exact both (de_call (f := f) c ho.1 h5 (isGl_ok h2) ha (okN_1 h3) (star_cons hst) hb) (by intro _; rfl)
    · cases h
  | .blt b es, X, E, n, Ed, lv, c, e, h, ho => by
    simp only [chkE] at h
    split at h
    · rename_i g fs hx
      simp only [Bool.and_eq_true, decide_eq_true_eq] at h
      obtain ⟨p, rfl⟩ := dCall_eq hx
      obtain ⟨h1, h2, h3, h6⟩ := h
      obtain ⟨p', rfl⟩ := dName_eq h1
      simp only [okE] at ho
      have ha := soundA es (List.replicate b.ar true) c (by rw [List.length_replicate, h3]) h6 ho.2
      simp only [wE]
      cases es with
      | nil => cases b <;> simp [Blt.ar] at h3
      | cons a as =>
        cases fs with
        | nil => simp [chkL] at h6
        | cons y ys =>
          have hst : isStar y = false := by
            simp only [chkL, Bool.and_eq_true, Bool.not_eq_true'] at h6
            exact h6.1
          have hb : (backTo p (starEach ys X.env)).any (·.1) = false := by
            simp only [chkL, Bool.and_eq_true] at h6
            exact chkL_back h6.2.2
          exact both (de_blt c.calm (isGl_ok h2) ho.1 hst hb ha) (by intro _; rfl)
    · cases h
  | .isi a t, X, E, n, Ed, lv, c, e, h, ho => by
    simp only [chkE] at h
    split at h
    · rename_i g x y hx
      simp only [Bool.and_eq_true, decide_eq_true_eq, Bool.not_eq_true'] at h
      obtain ⟨p, rfl⟩ := dCall_eq hx
      obtain ⟨⟨h1, h2, h3⟩, h4, h5, h6⟩ := h
      obtain ⟨p', rfl⟩ := dName_eq h1
      obtain ⟨p2, rfl⟩ := dName_eq h3
      simp only [okE] at ho
      simp only [wE]
      exact both (de_isi (isGl_ok h2) ho.1 (isGl_ok h4) ho.2.1 h5 (dv_of true (soundE a c h6 ho.2.2).1)) (by intro _; rfl)
    · cases h
  | .isis a ts, X, E, n, Ed, lv, c, e, h, ho => by
    simp only [chkE] at h
    split at h
    · rename_i g x y hx
      simp only [Bool.and_eq_true, decide_eq_true_eq, Bool.not_eq_true'] at h
      obtain ⟨p, rfl⟩ := dCall_eq hx
      obtain ⟨⟨h1, h2, h3, h4⟩, h5, h6⟩ := h
      obtain ⟨p', rfl⟩ := dName_eq h1
      cases hy : dTup y with
      | none =>
        rw [hy] at h4
        cases ts with
        | nil => exact absurd rfl h3.1
        | cons _ _ => simp [chkTy] at h4
      | some fs =>
        obtain ⟨k', p2, rfl⟩ := dTup_eq hy
        rw [hy] at h4
        simp only [okE] at ho
        simp only [wE]
        exact both (de_isis h3 h4 (isGl_ok h2) ho.1 ho.2.1 h5 (dv_of true (soundE a c h6 ho.2.2).1)) (by intro _; rfl)
    · cases h
  | .comp own t it d el, X, E, n, Ed, lv, c, e, h, ho => by
    simp only [chkE] at h
    split at h
    · rename_i f tg iter ifs scope hx
      simp only [Bool.and_eq_true, decide_eq_true_eq, Bool.not_eq_true'] at h
      obtain ⟨p, rfl⟩ := dComp_eq hx
      obtain ⟨⟨h1, h2, h3⟩, ⟨h4, h5⟩, h6, h7⟩ := h
      simp only [okE] at ho
      have ok := blkOk_by h1
      have hi := soundI it true (c.mask) (tg := tg) h5 ho.1
      simp only [wE]
      refine both (PE.imp (pe_lc c.calm c.nd hi ok (fun s H C cl fp => ?_) (fun s H C cl fp => ?_) (fun s H C cl fp => ?_) (set_no h4)) fun σ H Q z => cE.comp (by simpa using h2) z) (by intro _; rfl)
      · exact soundT (X := X.blk s H scope (PySem.compEnvC scope cl C X.env) fp) c.nd c.calm (fun x hx => isOwn_rel hx) t h3
      · exact soundO d (c.blk s H ok.kind C cl fp) h6 ho.2.1
      · exact dv_of false (soundE el (c.blk s H ok.kind C cl fp) h7 ho.2.2).1
    · cases h
  | .comp2 own t it d t1 it1 d1 el, X, E, n, Ed, lv, c, e, h, ho => by
    simp only [chkE] at h
    split at h
    · rename_i f tg iter ifs tg1 iter1 ifs1 scope hx
      simp only [Bool.and_eq_true, decide_eq_true_eq, Bool.not_eq_true'] at h
      obtain ⟨p, rfl⟩ := dComp_eq hx
      obtain ⟨⟨h1, ⟨h2, h2'⟩, h3, h3'⟩, ⟨h4, h4', h5, h5'⟩, ⟨h6, h6'⟩, h7⟩ := h
      simp only [okE] at ho
      have ok := blkOk_by h1
      have hi := soundI it true (c.mask) (tg := tg) h5 ho.1
      simp only [wE]
      refine both (PE.imp (pe_lc2 (vs1 := t1.slots) c.calm c.nd hi ok h2' (fun s H C cl fp => ?_) (fun s H C cl fp => ?_) (fun s H C cl fp => ?_) (fun s H C cl fp => ?_) (fun s H C cl fp => ?_) (fun s H C cl fp => ?_) (set_no h4) (fun env x => set_no h4' x)) fun σ H Q z => cE.comp2 h2 (fun _ z => z) z) (by intro _; rfl)
      · exact soundT (X := X.blk s H scope (PySem.compEnvC scope cl C X.env) fp) c.nd c.calm (fun x hx => isOwn_rel hx) t h3
      · exact soundO d (c.blk s H ok.kind C cl fp) h6 ho.2.1
      · exact soundI it1 false (c.blk s H ok.kind C cl fp) h5' ho.2.2.1
      · exact soundT (X := X.blk s H scope (PySem.compEnvC scope cl C X.env) fp) c.nd c.calm (fun x hx => isOwn_rel hx) t1 h3'
      · exact soundO d1 (c.blk s H ok.kind C cl fp) h6' ho.2.2.2.1
      · exact dv_of false (soundE el (c.blk s H ok.kind C cl fp) h7 ho.2.2.2.2).1
    · cases h
  | .p1 p a, X, E, n, Ed, lv, c, e, h, ho => by
    simp only [chkE] at h
    split at h
    · rename_i x hx
      simp only [okE] at ho
      simp only [wE]
      exact prim1 c p hx ho.1 (dv_of true (soundE a c h ho.2).1)
    · cases h
  | .p2 p a b, X, E, n, Ed, lv, c, e, h, ho => by
    simp only [chkE] at h
    split at h
    · rename_i x y hx
      rw [Bool.and_eq_true] at h
      simp only [okE] at ho
      simp only [wE]
      exact prim2 c p hx ho.1 (dv_of true (soundE a c h.1 ho.2.1).1) (dv_of true (soundE b c h.2 ho.2.2).1)
    · cases h
  | .dic0, X, E, n, Ed, lv, c, e, h, ho => by
    simp only [chkE] at h
    split at h
    · simp only [wE]
      exact both de_dic0 (by intro _; rfl)
    · cases h
  | .callK f br S ks dv es kes, X, E, n, Ed, lv, c, e, h, ho => by
    simp only [chkE] at h
    split at h
    · rename_i g fs kws hx
      simp only [Bool.and_eq_true, decide_eq_true_eq] at h
      obtain ⟨p, rfl⟩ := dCall_eq hx
      obtain ⟨h1, h2, h3, ⟨h4, h4', h5⟩, ⟨h6, h6'⟩, h7, h8⟩ := h
      obtain ⟨p', rfl⟩ := dName_eq h1
      simp only [okE] at ho
      have t1 : (br.take es.length).length = es.length := take_len (by omega)
      have t2 : ((br.drop es.length).take kes.length).length = kes.length := take_len (by rw [List.length_drop]; omega)
      have ha := soundA es (br.take es.length) c t1 h7 ho.2.1
      have hk := soundK kes ((br.drop es.length).take kes.length) c t2 h8 ho.2.2
      simp only [wE]
      cases es with
      | nil => exact absurd rfl h4
      | cons a as =>
        cases fs with
        | nil => simp [chkL] at h7
        | cons y ys =>
          have hst : isStar y = false := by
            simp only [chkL, Bool.and_eq_true, Bool.not_eq_true'] at h7
            exact h7.1
          have hb : (backTo p (starEach (y :: ys) X.env)).any (·.1) = false := chkL_back h7
          obtain ⟨k1, k2, k3⟩ := kw_names (pos := p) (env := X.env) h6
          exact both (de_callK (f := f) c (by rw [t1]; exact ho.1) h5 (t2.trans h6') (isGl_ok h2) ha hk (okN_1 h3) (star_cons hst) k1 k2 (by rw [hb, k3]; rfl)) (by intro _; rfl)
    · cases h
  | .mk f br S dv es, X, E, n, Ed, lv, c, e, h, ho => by
    simp only [chkE] at h
    split at h
    · rename_i g fs hx
      simp only [Bool.and_eq_true, decide_eq_true_eq] at h
      obtain ⟨p, rfl⟩ := dCall_eq hx
      obtain ⟨h1, h2, h3, ⟨h4, h4', h5⟩, h7⟩ := h
      obtain ⟨p', rfl⟩ := dName_eq h1
      simp only [okE] at ho
      obtain ⟨⟨j, hj, G⟩, ho2⟩ := ho
      have ha := soundA es (br.take es.length) c (take_len h4') h7 ho2
      simp only [wE]
      cases es with
      | nil => exact absurd rfl h4
      | cons a as =>
        cases fs with
        | nil => simp [chkL] at h7
        | cons y ys =>
          have hst : isStar y = false := by
            simp only [chkL, Bool.and_eq_true, Bool.not_eq_true'] at h7
            exact h7.1
          have hb : (backTo p (starEach ys X.env)).any (·.1) = false := by
            simp only [chkL, Bool.and_eq_true] at h7
            exact chkL_back h7.2.2
          exact both (de_mk c hj G h5 (isGl_ok h2) ha (okN_1 h3) (star_cons hst) hb) (by intro _; rfl)
    · cases h
  | .mkK f br S ks dv kes, X, E, n, Ed, lv, c, e, h, ho => by
    simp only [chkE] at h
    split at h
    · rename_i g kws hx
      simp only [Bool.and_eq_true, decide_eq_true_eq] at h
      obtain ⟨p, rfl⟩ := dCall_eq hx
      obtain ⟨h1, h2, h3, ⟨h4, h5⟩, ⟨h6, h6'⟩, h8⟩ := h
      obtain ⟨p', rfl⟩ := dName_eq h1
      simp only [okE] at ho
      obtain ⟨⟨j, hj, G⟩, ho2⟩ := ho
      have t2 : (br.take kes.length).length = kes.length := take_len h4
      have hk := soundK kes (br.take kes.length) c t2 h8 ho2
      obtain ⟨k1, k2, k3⟩ := kw_names (pos := p) (env := X.env) h6
      simp only [wE]
      exact both (de_mkK c hj G h5 (t2.trans h6') (isGl_ok h2) hk (okN_1 h3) k1 k2 (by rw [k3]; rfl)) (by intro _; rfl)
    · cases h
  | .meth cn m br S dv o es, X, E, n, Ed, lv, c, e, h, ho => by
    simp only [chkE] at h
    split at h
    · rename_i y p g apos fs pos
      simp only [Bool.and_eq_true, decide_eq_true_eq] at h
      obtain ⟨⟨hm, h1, h2⟩, ⟨h3, h4⟩, h5, h6⟩ := h
      subst hm
      simp only [okE] at ho
      have hl := chkL_len h6
      have hf : methodCallForm (fs.length + 0) (backTo pos (starEach fs X.env)) (backToKw pos (keywordEach [] X.env)) = true := by
        unfold methodCallForm
        have hb := chkL_back (pos := pos) (env := X.env) h6
        have : (backTo pos (starEach fs X.env)).all (fun x => !x.1) = true := by
          rw [List.all_eq_true]
          intro x hx
          rw [List.any_eq_false] at hb
          simpa using hb x hx
        rw [this, hl]
        simp [keywordEach, backToKw]
        omega
      have ev := meth_eval (env := X.env) (m := g) (apos := apos) (pos := pos) (o := .Name y p) (es := fs) rfl hf h1
      have hoo := dv_of true (soundE o c h5 ho.2.1).1
      have ha := soundA es (br.take es.length) c (take_len h3) h6 ho.2.2
      simp only [wE]
      cases es with
      | nil =>
        cases fs with
        | cons _ _ => simp [chkL] at h6
        | nil => exact both (de_meth0 c ho.1 (by simpa using h4) hoo ev) (by intro _; rfl)
      | cons a as =>
        cases fs with
        | nil => simp [chkL] at h6
        | cons z zs =>
          have hst : isStar z = false := by
            simp only [chkL, Bool.and_eq_true, Bool.not_eq_true'] at h6
            exact h6.1
          have hb : (backTo pos (starEach zs X.env)).any (·.1) = false := by
            simp only [chkL, Bool.and_eq_true] at h6
            exact chkL_back h6.2.2
          exact both (de_meth c ho.1 h4 hoo ha (star_cons hst) hb ev) (by intro _; rfl)
    · cases h
theorem soundA : ∀ (xs : List Ex) (ms : List Bool) {X : Cx} {E : XK} {n : N0} {Ed : Str → Prop} {lv : Nat} (c : Ctx X E n Ed lv) {es : List Expr}, ms.length = xs.length → chkL X.N xs X.env.scope es = true → okL (topOf X lv) xs → PA X es (cA X.K X.mg n ms (wA Ed xs ms))
  | [], [], X, E, n, Ed, lv, c, [], _, h, ho => by simp only [wA]; exact da_nil
  | [], [], X, E, n, Ed, lv, c, _ :: _, _, h, ho => by simp [chkL] at h
  | [], _ :: _, X, E, n, Ed, lv, c, es, hl, h, ho => by simp at hl
  | _ :: _, [], X, E, n, Ed, lv, c, es, hl, h, ho => by simp at hl
  | _ :: _, _ :: _, X, E, n, Ed, lv, c, [], hl, h, ho => by simp [chkL] at h
  | x :: xs, m :: ms, X, E, n, Ed, lv, c, e :: es, hl, h, ho => by
    simp only [chkL, Bool.and_eq_true, Bool.not_eq_true'] at h
    simp only [okL] at ho
    simp only [wA]
    exact da_cons (dv_of m (soundE x c h.2.1 ho.1).1) (soundA xs ms c (by simpa using hl) h.2.2 ho.2) (star_cons h.1)
theorem soundK : ∀ (xs : List Ex) (ms : List Bool) {X : Cx} {E : XK} {n : N0} {Ed : Str → Prop} {lv : Nat} (c : Ctx X E n Ed lv) {kws : List Keyword}, ms.length = xs.length → chkL X.N xs X.env.scope (kws.map (·.value)) = true → okL (topOf X lv) xs → PK X kws (cA X.K X.mg n ms (wA Ed xs ms))
  | [], [], X, E, n, Ed, lv, c, [], _, h, ho => by simp only [wA]; exact dk_nil
  | [], [], X, E, n, Ed, lv, c, _ :: _, _, h, ho => by simp [chkL] at h
  | [], _ :: _, X, E, n, Ed, lv, c, es, hl, h, ho => by simp at hl
  | _ :: _, [], X, E, n, Ed, lv, c, es, hl, h, ho => by simp at hl
  | _ :: _, _ :: _, X, E, n, Ed, lv, c, [], hl, h, ho => by simp [chkL] at h
  | x :: xs, m :: ms, X, E, n, Ed, lv, c, ⟨a0, v0, p0⟩ :: ks, hl, h, ho => by
    simp only [List.map_cons, chkL, Bool.and_eq_true, Bool.not_eq_true'] at h
    simp only [okL] at ho
    simp only [wA]
    exact dk_cons (dv_of m (soundE x c h.2.1 ho.1).1) (soundK xs ms c (by simpa using hl) h.2.2 ho.2)
theorem soundAnds : ∀ (xs : List Ex) {X : Cx} {E : XK} {n : N0} {Ed : Str → Prop} {lv : Nat} (_ : xs ≠ []) (c : Ctx X E n Ed lv) {es : List Expr}, chkL X.N xs X.env.scope es = true → okL (topOf X lv) xs → ∀ pos, PE X (.BoolOp .And es pos) (cE X.K X.mg n (vB (wAnds Ed xs))) ∧ PW X (.BoolOp .And es pos) (cT X.K X.mg n (wAnds Ed xs))
  | [], X, E, n, Ed, lv, hne, c, es, h, ho, pos => absurd rfl hne
  | _ :: _, X, E, n, Ed, lv, hne, c, [], h, ho, pos => by simp [chkL] at h
  | [x], X, E, n, Ed, lv, hne, c, e :: es, h, ho, pos => by
    simp only [chkL, Bool.and_eq_true] at h
    simp only [okL] at ho
    cases es with
    | nil =>
      obtain ⟨k1, k2⟩ := soundE x c h.2.1 ho.1
      simp only [wAnds]
      exact ⟨pe_one (PE.imp k1 fun σ H Q z => cE.asV z), pw_and1 k2⟩
    | cons _ _ => simp [chkL] at h
  | x :: y :: ys, X, E, n, Ed, lv, hne, c, e :: es, h, ho, pos => by
    simp only [chkL, Bool.and_eq_true] at h
    simp only [okL] at ho
    cases es with
    | nil => simp [chkL] at h
    | cons f fs =>
      obtain ⟨k1, k2⟩ := soundE x c h.2.1 ho.1
      obtain ⟨k3, k4⟩ := soundAnds (y :: ys) (by simp) c (es := f :: fs) h.2.2 (by simp only [okL]; exact ho.2) pos
      simp only [wAnds]
      exact ⟨PE.imp (pe_and k1 k3) fun σ H Q z => cE.andV z, PW.imp (pw_and k2 k4) fun σ H Q z => cT.and z⟩
theorem soundOrs : ∀ (xs : List Ex) {X : Cx} {E : XK} {n : N0} {Ed : Str → Prop} {lv : Nat} (_ : xs ≠ []) (c : Ctx X E n Ed lv) {es : List Expr}, chkL X.N xs X.env.scope es = true → okL (topOf X lv) xs → ∀ pos, PE X (.BoolOp .Or es pos) (cE X.K X.mg n (vB (wOrs Ed xs))) ∧ PW X (.BoolOp .Or es pos) (cT X.K X.mg n (wOrs Ed xs))
  | [], X, E, n, Ed, lv, hne, c, es, h, ho, pos => absurd rfl hne
  | _ :: _, X, E, n, Ed, lv, hne, c, [], h, ho, pos => by simp [chkL] at h
  | [x], X, E, n, Ed, lv, hne, c, e :: es, h, ho, pos => by
    simp only [chkL, Bool.and_eq_true] at h
    simp only [okL] at ho
    cases es with
    | nil =>
      obtain ⟨k1, k2⟩ := soundE x c h.2.1 ho.1
      simp only [wOrs]
      exact ⟨pe_one (PE.imp k1 fun σ H Q z => cE.asV z), pw_or1 k2⟩
    | cons _ _ => simp [chkL] at h
  | x :: y :: ys, X, E, n, Ed, lv, hne, c, e :: es, h, ho, pos => by
    simp only [chkL, Bool.and_eq_true] at h
    simp only [okL] at ho
    cases es with
    | nil => simp [chkL] at h
    | cons f fs =>
      obtain ⟨k1, k2⟩ := soundE x c h.2.1 ho.1
      obtain ⟨k3, k4⟩ := soundOrs (y :: ys) (by simp) c (es := f :: fs) h.2.2 (by simp only [okL]; exact ho.2) pos
      simp only [wOrs]
      exact ⟨PE.imp (pe_or k1 k3) fun σ H Q z => cE.orV z, PW.imp (pw_or k2 k4) fun σ H Q z => cT.or z⟩
theorem soundI : ∀ (it : Itx) (cm : Bool) {X : Cx} {E : XK} {n : N0} {Ed : Str → Prop} {lv : Nat} (c : Ctx X E n Ed lv) {e tg : Expr}, chkI X.N it X.env.scope e = true → okI (topOf X lv) it → PI X tg e (cI X.K X.mg n cm (wI cm Ed it))
  | .rng a, cm, X, E, n, Ed, lv, c, e, tg, h, ho => by
    simp only [chkI] at h
    split at h
    · rename_i g x hx
      simp only [Bool.and_eq_true, decide_eq_true_eq, Bool.not_eq_true'] at h
      obtain ⟨p, rfl⟩ := dCall_eq hx
      obtain ⟨h1, h2, h3, h4⟩ := h
      obtain ⟨p', rfl⟩ := dName_eq h1
      simp only [okI] at ho
      simp only [wI]
      exact di_rng1 (isGl_ok h2) ho.1 (da_cons (dv_of true (soundE a c h4 ho.2).1) da_nil (star_cons h3)) (star_cons h3)
    · cases h
  | .rng2 a b, cm, X, E, n, Ed, lv, c, e, tg, h, ho => by
    simp only [chkI] at h
    split at h
    · rename_i g x y hx
      simp only [Bool.and_eq_true, decide_eq_true_eq, Bool.not_eq_true'] at h
      obtain ⟨p, rfl⟩ := dCall_eq hx
      obtain ⟨h1, h2, ⟨h3, h3'⟩, h4, h5⟩ := h
      obtain ⟨p', rfl⟩ := dName_eq h1
      simp only [okI] at ho
      simp only [wI]
      refine di_rng2 (isGl_ok h2) ho.1 (da_cons (dv_of true (soundE a c h4 ho.2.1).1) (da_cons (dv_of true (soundE b c h5 ho.2.2).1) da_nil (star_cons h3')) (star_cons h3)) ?_ (star_cons h3')
      rw [star_cons h3, star_cons h3']
      rfl
    · cases h
  | .seq a, cm, X, E, n, Ed, lv, c, e, tg, h, ho => by
    simp only [chkI] at h
    simp only [okI] at ho
    simp only [wI]
    exact di_seq (soundE a c h ho).1
theorem soundO : ∀ (o : Option Ex) {X : Cx} {E : XK} {n : N0} {Ed : Str → Prop} {lv : Nat} (c : Ctx X E n Ed lv) {es : List Expr}, chkO X.N o X.env.scope es = true → okO (topOf X lv) o → PTs X es (cT X.K X.mg n (wO Ed o))
  | none, X, E, n, Ed, lv, c, [], h, ho => by
    simp only [wO]
    exact ⟨fun pins s σ H Q I hw => pts_nil.run pins s σ H Q I (by
      obtain ⟨W, δ, q, st, sp, hw, k⟩ := hw
      exact k W H true (.refl sp.ok) hw)⟩
  | none, X, E, n, Ed, lv, c, _ :: _, h, ho => by simp [chkO] at h
  | some a, X, E, n, Ed, lv, c, [], h, ho => by simp [chkO] at h
  | some a, X, E, n, Ed, lv, c, [e], h, ho => by
    simp only [chkO] at h
    simp only [okO] at ho
    simp only [wO]
    exact pts_one (soundE a c h ho).2
  | some a, X, E, n, Ed, lv, c, _ :: _ :: _, h, ho => by simp [chkO] at h
end
end TT

set_option Elab.async false
set_option linter.all false
set_option maxRecDepth 100000
set_option autoImplicit false
namespace TT
open PySem PySem.Spec L2

/-! ### statements: the syntax -/
inductive Sx where
  | set (i : Nat) (e : Ex) | setv (i : Nat) (e : Ex)
  | par (i j : Nat) (a b : Ex)
  | tgt (t : Tg) (e : Ex)
  | star (i j : Nat) (e : Ex)
  | expr (e : Ex)
  | app (i : Nat) (e : Ex)
  | ret (e : Ex) | retN | retO (i : Nat)
  | ifs (c : Ex) (a b : List Sx)
  | forr (t : Tg) (it : Itx) (b : List Sx)
  | loop (c : Ex) (b : List Sx)
  | raise (c : Str)
  | pass
  | frz (i : Nat)
  | tryK (b : List Sx) (c : Str) (i j : Nat)
  | fld (i : Nat) (c f : Str) (e : Ex)

def linesOk (x y : Expr) : Bool := x.pos.line == y.pos.line
/-- the two names are stored the other way round -/
def swapOk (sc : Scope) (x y : Str) (tx ty a b : Expr) : Bool :=
  (decide (sc.names.lookup x = some .local) && decide (sc.names.lookup y = some .local)) && ((tx.pos.line == ty.pos.line) && (decide (x ≠ y) && ((!isStar a && !isStar b) && (!([a, b].all (foldedForSure 8)) && !([a, b].all (constantsAlone 8))))))
theorem swap_two {env : Env} {x y : Str} {px py pt pt2 : Pos} {kt k2 : Nat} {a b : Expr} (hk : env.scope.kind = .function) (h : swapOk env.scope x y (.Name x px) (.Name y py) a b = true) :
    swappedStores [.Tuple [.Name x px, .Name y py] kt pt] (.Tuple [a, b] k2 pt2) env = pure (some [x, y]) := by
  simp only [swapOk, Bool.and_eq_true, decide_eq_true_eq, Bool.not_eq_true'] at h
  obtain ⟨⟨h1, h2⟩, h3, h4, ⟨h5, h6⟩, h7, h8⟩ := h
  have hb : env.blockKind = .function := by unfold Env.blockKind; rw [hk]; rfl
  have k1 : env.kindOf x = some .local := h1
  have k2' : env.kindOf y = some .local := h2
  have l1 : (px.line == px.line) = true := by simp
  have l2 : (py.line == px.line) = true := by
    have : (px.line == py.line) = true := h3
    simp at this ⊢
    exact this.symm
  have ny : (y == x) = false := by simpa using Ne.symm h4
  have l2' : py.line = px.line := by simpa using l2
  unfold swappedStores
  simp only [hb, h7, h8, List.length_cons, List.length_nil, List.filterMap_cons, List.filterMap_nil, k1, k2', List.head?_cons, Option.map_some, Option.getD_some, Expr.pos, l1, l2, Bool.and_self, if_true]
  simp [List.eraseDups, List.eraseDupsBy, List.eraseDupsBy.loop, ny, l2', Expr.pos]
  intro z
  exfalso
  rcases z with z | z
  · split at z
    · exact absurd h5 (by simp [isStar])
    · cases z
  · split at z
    · exact absurd h6 (by simp [isStar])
    · cases z

/-- whether a comprehension is stored within its own frame -/
def lcSwap (sc : Scope) (y : Str) (yl cl : Nat) (scope : Scope) : Bool := decide (sc.names.lookup y = some .local) && ((yl == cl) && !(scope.names.any fun (n, k) => n == y && (k == .local || k == .cell)))
theorem lc_plain {env : Env} {elt : Expr} {gs : List Comprehension} {scope : Scope} {pos py : Pos} {y : Str} {l : Nat} (hk : env.scope.kind = .function) (h : lcSwap env.scope y py.line pos.line scope = false) :
    swapsWith (.ListComp elt gs scope pos) (some (.Name y py)) l env = pure false := by
  have hb : env.blockKind = .function := by unfold Env.blockKind; rw [hk]; rfl
  unfold swapsWith
  simp only [hb, Expr.pos]
  unfold lcSwap at h
  have e : (env.kindOf y == some .local) = decide (env.scope.names.lookup y = some .local) := by
    rw [Bool.eq_iff_iff]
    simp [Env.kindOf]
  rw [e]
  simp only [beq_self_eq_true, Bool.true_and]
  rw [Bool.and_assoc, h]
theorem swap_none {value : Expr} {l : Nat} {env : Env} (h : dComp value = none) (hs : ∀ e gs sc p, value ≠ .SetComp e gs sc p) (hd : ∀ e v gs sc p, value ≠ .DictComp e v gs sc p) (t : Option Expr) : swapsWith value t l env = pure false := by
  cases value <;> first | rfl | exact absurd rfl (hs _ _ _ _) | exact absurd rfl (hd _ _ _ _ _) | (simp [dComp] at h)
def isSDC : Expr → Bool | .SetComp _ _ _ _ => true | .DictComp _ _ _ _ _ => true | _ => false
theorem swap_no {value : Expr} {l : Nat} {env : Env} (h : dComp value = none) (hs : isSDC value = false) (t : Option Expr) : swapsWith value t l env = pure false :=
  swap_none h (fun _ _ _ _ e => by rw [e] at hs; cases hs) (fun _ _ _ _ _ e => by rw [e] at hs; cases hs) t
theorem swap_tup {value : Expr} {l : Nat} {env : Env} {es : List Expr} {k : Nat} {p : Pos} : swapsWithSole [.Tuple es k p] value l env = pure false := by
  cases value <;> rfl
theorem stores_no {value : Expr} {env : Env} {es : List Expr} {k : Nat} {p : Pos} (h : dTup value = none) : swappedStores [.Tuple es k p] value env = pure none := by
  cases value <;> first | rfl | (simp [dTup] at h)

/-! ### the check -/
def dAssign : Stmt → Option (Expr × Expr) | .Assign [t] e _ => some (t, e) | _ => none
theorem dAssign_eq {s : Stmt} {t e : Expr} (h : dAssign s = some (t, e)) : ∃ p, s = .Assign [t] e p := by
  unfold dAssign at h
  split at h
  · cases h; exact ⟨_, rfl⟩
  · cases h
def dApp : Expr → Option (Str × Expr × Nat × Nat)
  | .Call (.Attribute (.Name x _) a pa) [e] [] pc => if a = ("append" : Str) then some (x, e, pa.endLine, pc.line) else none
  | _ => none
theorem dApp_eq {s : Expr} {x : Str} {e : Expr} {l l' : Nat} (h : dApp s = some (x, e, l, l')) : ∃ p pa pc, s = .Call (.Attribute (.Name x p) "append" pa) [e] [] pc ∧ l = pa.endLine ∧ l' = pc.line := by
  unfold dApp at h
  split at h
  · split at h
    · rename_i ha
      cases h
      exact ⟨_, _, _, by rw [ha], rfl, rfl⟩
    · cases h
  · cases h
def dRaise : Stmt → Option Str
  | .Raise (some (.Call (.Name x _) [.Constant (.str _) _ _] [] _)) none _ => some x
  | _ => none
theorem dRaise_eq {s : Stmt} {x : Str} (h : dRaise s = some x) : ∃ p m j p2 pos pos', s = .Raise (some (.Call (.Name x p) [.Constant (.str m) j p2] [] pos)) none pos' := by
  unfold dRaise at h
  split at h
  · cases h; exact ⟨_, _, _, _, _, _, rfl⟩
  · cases h
/-- name = e, where e is no comprehension, or one that is stored plainly or within its frame -/
def setOk (sc : Scope) (t e : Expr) (x : Str) : Bool := match dComp e with
  | none => !isSDC e
  | some (_, _, scope) => lcSwap sc x t.pos.line e.pos.line scope || !(lcSwap sc x t.pos.line e.pos.line scope)
/-- try: body / except C as e: t = e -/
def dTry : Stmt → Option (List Stmt × Str × Str × Str)
  | .Try b [.ExceptHandler (some (.Name x _)) (some e) [.Assign [.Name t _] (.Name e2 _) _] _] [] [] _ => if e2 = e then some (b, x, e, t) else none
  | _ => none
theorem dTry_eq {s : Stmt} {b : List Stmt} {x e t : Str} (h : dTry s = some (b, x, e, t)) : ∃ np tp ep ap p1 pos, s = .Try b [.ExceptHandler (some (.Name x np)) (some e) [.Assign [.Name t tp] (.Name e ep) ap] p1] [] [] pos := by
  unfold dTry at h
  split at h
  · split at h
    · rename_i he
      cases h
      subst he
      exact ⟨_, _, _, _, _, _, rfl⟩
    · cases h
  · cases h
@[reducible] def keepV : Option DV → Option DV
  | some (.v d) => some (.v d)
  | _ => none
@[reducible] def unbp : Option DV → Option DV
  | some (.v d) => some (.v d)
  | some (.own d) => some (.own d)
  | _ => none
/-- no display of two or three is taken apart into plain locals -/
def plainLoc (sc : Scope) (e : Expr) : Bool := match dName e with
  | some x => decide (sc.names.lookup x = some .local)
  | none => false
def longT (sc : Scope) (v f : Expr) : Bool := match dTup v, dTup f with
  | none, _ => true
  | _, some ts => decide (4 ≤ ts.length) || !ts.all (plainLoc sc)
  | _, _ => false
theorem names_short {sc : Scope} {g : Expr → Option Str} (hg : ∀ e, plainLoc sc e = false → g e = none) : ∀ {ts : List Expr}, ts.all (plainLoc sc) = false → (ts.filterMap g).length < ts.length
  | [], h => by simp at h
  | t :: ts, h => by
    have le : (ts.filterMap g).length ≤ ts.length := List.length_filterMap_le g ts
    rw [List.filterMap_cons]
    cases ht : plainLoc sc t with
    | false =>
      rw [hg t ht]
      show (ts.filterMap g).length < ts.length + 1
      omega
    | true =>
      have h2 : ts.all (plainLoc sc) = false := by simpa [ht] using h
      have := names_short hg h2
      cases g t with
      | none => show (ts.filterMap g).length < ts.length + 1; omega
      | some y => show (ts.filterMap g).length + 1 < ts.length + 1; omega
theorem stores_long {v : Expr} {env : Env} {es : List Expr} {k : Nat} {p : Pos} (h : longT env.scope v (.Tuple es k p) = true) : swappedStores [.Tuple es k p] v env = pure none := by
  cases hv : dTup v with
  | none => exact stores_no hv
  | some vs =>
    obtain ⟨k2, p2, rfl⟩ := dTup_eq hv
    unfold longT at h
    rw [hv] at h
    have h : (decide (4 ≤ es.length) || !es.all (plainLoc env.scope)) = true := h
    unfold swappedStores
    dsimp only
    by_cases h4 : 4 ≤ es.length
    · have e : (!(es.length == 2 || es.length == 3)) = true := by simp; omega
      simp [e]
    · have ha : es.all (plainLoc env.scope) = false := by simpa [h4] using h
      split
      · rfl
      split
      · rfl
      have lt := names_short (sc := env.scope) (g := fun e => match e with
        | .Name id pos => if (env.kindOf id == some .local && pos.line == (es.head?.map (·.pos.line)).getD 0) = true then some id else none
        | _ => none) (fun e he => by
          cases e <;> first | rfl | skip
          rename_i x px
          have : env.kindOf x ≠ some .local := by
            intro z
            unfold plainLoc dName at he
            have z : env.scope.names.lookup x = some .local := z
            simp [z] at he
          simp [this]) ha
      rw [if_pos]
      simp only [Bool.or_eq_true, bne_iff_ne, ne_eq]
      exact .inl (Nat.ne_of_lt lt)
/-- *x, y = e -/
def dStar : Stmt → Option (Str × Str × Expr)
  | .Assign [.Tuple [.Starred (.Name x _) _, .Name y _] _ _] e _ => some (x, y, e)
  | _ => none
theorem dStar_eq {s : Stmt} {x y : Str} {e : Expr} (h : dStar s = some (x, y, e)) : ∃ p p1 p2 k p3 pos, s = .Assign [.Tuple [.Starred (.Name x p) p1, .Name y p2] k p3] e pos := by
  unfold dStar at h
  split at h
  · cases h; exact ⟨_, _, _, _, _, _, rfl⟩
  · cases h
def dFld : Stmt → Option (Str × Str × Expr)
  | .Assign [.Attribute (.Name x _) f _] e _ => some (x, f, e)
  | _ => none
theorem dFld_eq {s : Stmt} {x f : Str} {e : Expr} (h : dFld s = some (x, f, e)) : ∃ p pa pos, s = .Assign [.Attribute (.Name x p) f pa] e pos := by
  unfold dFld at h
  split at h
  · cases h; exact ⟨_, _, _, rfl⟩
  · cases h
theorem swap_att {value : Expr} {l : Nat} {env : Env} {o : Expr} {f : Str} {p : Pos} : swapsWith value (some (.Attribute o f p)) l env = pure false := by
  cases value <;> rfl
mutual
def chkS (N : List Str) (sc : Scope) : Sx → Stmt → Bool
  | .set i e, s => match dAssign s with
    | some (t, f) => match dName t with
      | some x => (decide (N[i]? = some x) && isOwn sc x) && (setOk sc t f x && chkE N e sc f)
      | none => false
    | none => false
  | .setv i e, s => match dAssign s with
    | some (t, f) => match dName t with
      | some x => (decide (N[i]? = some x) && isOwn sc x) && (setOk sc t f x && chkE N e sc f)
      | none => false
    | none => false
  | .par i j a b, s => match dAssign s with
    | some (.Tuple [.Name x px, .Name y py] _ _, .Tuple [fa, fb] _ _) => (decide (N[i]? = some x) && decide (N[j]? = some y)) && (swapOk sc x y (.Name x px) (.Name y py) fa fb && chkL N [a, b] sc [fa, fb])
    | _ => false
  | .tgt t e, s => match dAssign s with
    | some (f, v) => ((dTup f).isSome && (longT sc v f && chkT N sc t f)) && chkE N e sc v
    | none => false
  | .star i j e, s => match dStar s with
    | some (x, y, v) => (decide (N[i]? = some x) && decide (N[j]? = some y)) && ((isOwn sc x && isOwn sc y) && (decide ((dTup v).isNone) && chkE N e sc v))
    | none => false
  | .expr e, s => match s with
    | .Expr f _ => (decide ((dComp f).isNone) && !isSDC f) && chkE N e sc f
    | _ => false
  | .app i e, s => match s with
    | .Expr f _ => match dApp f with
      | some (x, v, l, l') => (decide (N[i]? = some x) && (vis sc x && okN x)) && ((l == l') && (!isStar v && chkE N e sc v))
      | none => false
    | _ => false
  | .ret e, s => match s with
    | .Return (some f) _ => chkE N e sc f
    | _ => false
  | .retN, s => match s with
    | .Return none _ => true
    | _ => false
  | .retO i, s => match s with
    | .Return (some f) _ => match dName f with
      | some x => decide (N[i]? = some x) && (vis sc x && okN x)
      | none => false
    | _ => false
  | .ifs c a b, s => match s with
    | .If f x y _ => chkE N c sc f && (chkB N sc a x && chkB N sc b y)
    | _ => false
  | .forr t it b, s => match s with
    | .For f iter x [] _ => (!isSet iter && chkT N sc t f) && (chkI N it sc iter && chkB N sc b x)
    | _ => false
  | .loop c b, s => match s with
    | .While f x [] _ => chkE N c sc f && chkB N sc b x
    | _ => false
  | .raise c, s => decide (dRaise s = some c) && (isGl sc c && okN c)
  | .pass, s => match s with
    | .Pass _ => true
    | _ => false
  | .frz _, _ => false
  | .tryK b c i j, s => match dTry s with
    | some (x, cn, e, t) => ((decide (cn = c) && (isGl sc c && okN c)) && (decide (N[i]? = some e) && decide (N[j]? = some t))) && ((decide (i ≠ j) && okN e) && ((decide (sc.names.lookup e = some .local) && decide (sc.names.lookup t = some .local)) && chkB N sc b x))
    | none => false
  | .fld i _ f e, s => match dFld s with
    | some (x, g, v) => (decide (N[i]? = some x) && (decide (g = f) && (vis sc x && okN x))) && chkE N e sc v
    | none => false
def chkB (N : List Str) (sc : Scope) : List Sx → List Stmt → Bool
  | [], [] => true
  | .frz _ :: as, ss => chkB N sc as ss
  | a :: as, s :: ss => chkS N sc a s && chkB N sc as ss
  | _, _ => false
end

/-! ### what it comes to -/
@[reducible] def swPar (i j : Nat) (wa : Sl → (List D → Prop) → Prop) : Kn → Sl → Prop := fun k δ => wa δ fun ds => match ds with
  | [x, y] => k.nx ((δ.set i (some (.v x))).set j (some (.v y)))
  | _ => False
@[reducible] def swTgt (t : Tg) (w : Sl → (D → Prop) → Prop) : Kn → Sl → Prop := fun k δ => w δ fun d => tgD t d δ k.nx
@[reducible] def starD (i j : Nat) (δ : Sl) (p : Sl → Prop) : D → Prop
  | .tup ds => match ds.getLast? with
    | some z => p ((δ.set i (some (.v (.lst ds.dropLast)))).set j (some (.v z)))
    | none => False
  | _ => False
@[reducible] def swStar (i j : Nat) (w : Sl → (D → Prop) → Prop) : Kn → Sl → Prop := fun k δ => w δ fun d => starD i j δ k.nx d
@[reducible] def caught (c : Str) (j : Nat) (δ : Sl) : Sl := (List.replicate δ.length none).set j (some (.v (.err c)))
mutual
@[reducible] def wS (Ed : Str → Prop) : Sx → Kn → Sl → Prop
  | .set i e => swSet i (wE Ed e)
  | .setv i e => swSetv i (co false (wE Ed e))
  | .par i j a b => swPar i j (wA Ed [a, b] [false, false])
  | .tgt t e => swTgt t (co false (wE Ed e))
  | .star i j e => swStar i j (co false (wE Ed e))
  | .expr e => swExpr (wE Ed e)
  | .app i e => swApp i (co false (wE Ed e))
  | .ret e => swRet (wE Ed e)
  | .retN => swRetN
  | .retO i => swRetO i
  | .ifs c a b => swIf (wT (wE Ed c)) (wBk Ed a) (wBk Ed b)
  | .forr t it b => swFor (wI false Ed it) t (wBk Ed b)
  | .loop c b => swWhile (wT (wE Ed c)) (wBk Ed b)
  | .raise c => swRaise c Ed
  | .pass => swNext
  | .frz _ => fun _ _ => False
  | .tryK b _ _ j => fun k δ => wBk (fun c => c ∈ errNames ∧ k.nx (caught c j δ)) b ⟨fun δ' => k.nx (δ'.map unbp), fun _ => False, fun _ => False, fun _ => False⟩ (δ.map keepV)
  | .fld i c f e => swFld i c f (co false (wE Ed e))
@[reducible] def wBk (Ed : Str → Prop) : List Sx → Kn → Sl → Prop
  | [] => swNext
  | .frz i :: as => swFrz i (wBk Ed as)
  | a :: as => swSeq (wS Ed a) (wBk Ed as)
end
def Top.exc (G : Top) (c : Str) : Prop := ∃ C, G.mg c = some (.ref C) ∧ PySem.W.excIn G.K C [.type "ValueError", .type "Exception", .type "BaseException", .type "object"] "ValueError.__new__" = true ∧ PySem.W.keepIn G.K (.ref C) = true ∧
  PySem.W.subIn G.K (.ref C) (.type "BaseException") = some true ∧ PySem.W.typeIn G.K (.ref C) = some (.type "type")
def Top.try (G : Top) (x : Str) : Prop := ∃ T, G.mg x = some (.ref T) ∧ ∀ c ∈ errNames, ∀ C, G.mg c = some (.ref C) → PySem.W.exmOne G.K (.ref C) (.ref T) = some true
mutual
def okS (G : Top) : Sx → Prop
  | .set _ e => okE G e
  | .setv _ e => okE G e
  | .par _ _ a b => okE G a ∧ okE G b
  | .tgt _ e => okE G e
  | .star _ _ e => okE G e
  | .expr e => okE G e
  | .app _ e => okE G e
  | .ret e => okE G e
  | .ifs c a b => okE G c ∧ okB G a ∧ okB G b
  | .forr _ it b => okI G it ∧ okB G b
  | .loop c b => okE G c ∧ okB G b
  | .raise c => G.exc c
  | .tryK b c _ _ => G.try c ∧ okB G b
  | .fld _ c f e => G.att c f ∧ okE G e
  | _ => True
def okB (G : Top) : List Sx → Prop
  | [] => True
  | a :: as => okS G a ∧ okB G as
end

/-! ### it is so -/
structure CtxS (X : Cx) (E : XK) (n : N0) (Ed : Str → Prop) (lv : Nat) : Prop extends Ctx X E n Ed lv where
  fn : ∀ x, X.fn x = true
  pos : PassesOwn (model X.prog X.w) X.A X.env X.xe
  takes : Takes X fun cls d _ H => E cls d H
  stk : X.stack = X.env :: X.outer
  frm : X.env.frame = some X.env.locals
section
variable {X : Cx} {E : XK} {n : N0} {Ed : Str → Prop} {lv : Nat}
theorem isOwn_loc {sc : Scope} {x : Str} (h : isOwn sc x = true) : Loc sc x := by
  unfold isOwn at h
  split at h
  · exact .inl (by assumption)
  · exact .inr (by assumption)
  · cases h
theorem ArgsR.twoS {K : PySem.W.Frag} {mg : Str → Option Value} {W : Wd} {H : Hp} {vs : List V} {ds : List D} (h : ArgsR K mg W H [false, false] vs ds) : ∃ v v' d d', vs = [v, v'] ∧ ds = [d, d'] ∧ Rep K mg W v d ∧ Rep K mg W v' d' := by
  cases h with
  | cons h r => cases r with
    | cons h2 r => cases r; exact ⟨_, _, _, _, rfl, rfl, by simpa [RepM] using h, by simpa [RepM] using h2⟩
theorem cS.par {i j : Nat} {wa : Sl → (List D → Prop) → Prop} {De : Ends} {σ : L2.St} {H : Hp} (h : cS X.K X.mg n (swPar i j wa) De σ H) : tPar i j (cA X.K X.mg n [false, false] wa) De σ H := by
  obtain ⟨W, δ, k, st, sp, hw, g⟩ := h
  refine ⟨W, δ, _, st, sp, hw, fun W1 H1 vs ds s r hq => ?_⟩
  obtain ⟨v, v', d, d', rfl, rfl, r1, r2⟩ := r.twoS
  have sp1 := sp.trans s
  have t1 := Sto.set (i := i) (dv := .v d) (st.step s) sp1 (.refl s.ok) r1 (fun _ z => by cases z)
  have t2 := Sto.set (i := j) (dv := .v d') t1 sp1 (.refl s.ok) r2 (fun _ z => by cases z)
  exact ⟨v, v', rfl, g.nx W1 H1 _ _ s.le sp1 t2 hq⟩
theorem cS.tgt {t : Tg} {w : Sl → (D → Prop) → Prop} {De : Ends} {σ : L2.St} {H : Hp} (h : cS X.K X.mg n (swTgt t w) De σ H) : tAsg (cV X.K X.mg n false w) (cG X.K X.mg n t.slots (tgD t)) De σ H := by
  obtain ⟨W, δ, k, st, sp, hw, g⟩ := h
  refine ⟨W, δ, _, st, sp, hw, fun W1 H1 v d s r hq => ?_⟩
  exact ⟨W1, δ, d, k.nx, st.step s, sp.trans s, by simpa [RepM] using r, hq, fun σ' δ' mv _ h' => g.nx W1 H1 σ' δ' s.le (sp.trans s) (mv W1 H1 (.refl W1) (sp.trans s) (st.step s)) h'⟩
theorem cS.star {i j : Nat} {w : Sl → (D → Prop) → Prop} {De : Ends} {σ : L2.St} {H : Hp} (h : cS X.K X.mg n (swStar i j w) De σ H) : tAsg (cV X.K X.mg n false w) (gStar X.K i j) De σ H := by
  obtain ⟨W, δ, k, st, sp, hw, g⟩ := h
  refine ⟨W, δ, _, st, sp, hw, fun W1 H1 v d s r hq => ?_⟩
  replace r : Rep X.K X.mg W1 v d := by simpa [RepM] using r
  cases d with
  | tup ds =>
    cases hl : ds.getLast? with
    | none => simp only [starD, hl] at hq
    | some z =>
      simp only [starD, hl] at hq
      have hds : ds = ds.dropLast ++ [z] := by
        obtain ⟨ys, rfl⟩ := List.getLast?_eq_some_iff.mp hl
        simp
      cases r with
      | tup e r =>
        rename_i a vs
        have hsz := r.length
        have hv : ∃ vs0 vz, vs = vs0 ++ [vz] ∧ RepL X.K X.mg W1 vs0 ds.dropLast ∧ Rep X.K X.mg W1 vz z := by
          have hk : ds.length = ds.dropLast.length + 1 := by
            have := congrArg List.length hds
            rwa [List.length_append, List.length_singleton] at this
          refine ⟨vs.take ds.dropLast.length, ?_⟩
          have r0 := r.take ds.dropLast.length
          have hzz : ds[ds.dropLast.length]? = some z := by conv => lhs; rw [hds]; simp
          obtain ⟨vz, e1, rz⟩ := r.get hzz
          have htk : ds.take ds.dropLast.length = ds.dropLast := by
            conv => lhs; arg 2; rw [hds]
            exact List.take_left' rfl
          rw [htk] at r0
          refine ⟨vz, ?_, r0, rz⟩
          have : vs.take (ds.dropLast.length + 1) = vs.take ds.dropLast.length ++ [vz] := by rw [List.take_succ, e1]; rfl
          rw [← this, List.take_of_length_le (by omega)]
        obtain ⟨vs0, vz, rfl, r0, rz⟩ := hv
        refine ⟨a, vs0, vz, rfl, Same.seqT s.ok.sub e, fun p hp => ?_⟩
        have s2 := Stp.laidOwn s.ok hp (.lst vs0)
        have vr : VRep X.K X.mg n H1 W1 (upd H1 p (.lst vs0)) (.ref p) (.own (.lst ds.dropLast)) := ⟨p, rfl, ⟨vs0, upd_same, r0⟩, hp, s.ok.sub.free hp, s.ok.notTown hp⟩
        obtain ⟨W2, s3, l3, r3⟩ := VRep.freeze s2 vr
        have spn := sp.trans (s.trans s3)
        have t1 := Sto.set (i := i) (dv := .v (.lst ds.dropLast)) (st.step (s.trans s3)) spn (.refl spn.ok) r3 (fun _ z => by cases z)
        have t2 := Sto.set (i := j) (dv := .v z) t1 spn (.refl spn.ok) (rz.le s3.le) (fun _ z => by cases z)
        exact g.nx W2 _ _ _ (s.trans s3).le spn t2 hq
  | _ => exact hq.elim
theorem keepV_get {δ : Sl} {i : Nat} {dv : DV} (h : (δ.map keepV)[i]? = some (some dv)) : ∃ d, dv = .v d ∧ δ[i]? = some (some (.v d)) := by
  rw [List.getElem?_map] at h
  cases e : δ[i]? with
  | none => rw [e] at h; cases h
  | some o =>
    rw [e] at h
    have h : keepV o = some dv := Option.some.inj h
    cases o with
    | none => cases h
    | some dw => cases dw <;> cases h; exact ⟨_, rfl, rfl⟩
theorem unbp_get {δ : Sl} {i : Nat} {dv : DV} (h : (δ.map unbp)[i]? = some (some dv)) : δ[i]? = some (some dv) ∧ ∃ d, dv = .v d ∨ dv = .own d := by
  rw [List.getElem?_map] at h
  cases e : δ[i]? with
  | none => rw [e] at h; cases h
  | some o =>
    rw [e] at h
    have h : unbp o = some dv := Option.some.inj h
    cases o with
    | none => cases h
    | some dw => cases dw <;> cases h <;> exact ⟨rfl, _, by first | exact .inl rfl | exact .inr rfl⟩
/-- the slots that stand still, from here on -/
theorem Sto.keepV {K : PySem.W.Frag} {mg : Str → Option Value} {W : Wd} {H : Hp} {σ : L2.St} {δ : Sl} (t : Sto K mg n W H σ δ) : Sto K mg (W, H) W H σ (δ.map TT.keepV) := by
  obtain ⟨l, ow, h1, h2, h3⟩ := t
  refine ⟨by rw [List.length_map]; exact l, fun _ => none, fun i dv e => ?_, (fun _ _ _ z => nomatch z), (fun _ _ z => nomatch z)⟩
  obtain ⟨d, rfl, e2⟩ := keepV_get e
  obtain ⟨v, e3, r⟩ := h1 i _ e2
  exact ⟨v, e3, r⟩
/-- .. as the whole body sees them -/
theorem Sto.up {K : PySem.W.Frag} {mg : Str → Option Value} {W0 W : Wd} {H0 H : Hp} {σ : L2.St} {δ : Sl} (s : Stp n.1 n.2 W0 H0) (t : Sto K mg (W0, H0) W H σ δ) : Sto K mg n W H σ (δ.map unbp) := by
  obtain ⟨l, ow, h1, h2, h3⟩ := t
  refine ⟨by rw [List.length_map]; exact l, ow, fun i dv e => ?_, h2, fun i a e => ?_⟩
  · obtain ⟨e2, d, hd⟩ := unbp_get e
    obtain ⟨v, e3, r⟩ := h1 i _ e2
    refine ⟨v, e3, ?_⟩
    rcases hd with rfl | rfl
    · exact r
    · exact r
  · obtain ⟨a1, a2, a3⟩ := h3 i a e
    exact ⟨s.fresh a1, a2, a3⟩
theorem Sto.caught {K : PySem.W.Frag} {mg : Str → Option Value} {W : Wd} {H : Hp} {σ : L2.St} {δ : Sl} {a C : Addr} {c : Str} {j : Nat} (hl : σ.length = δ.length) (hj : σ[j]? = some (some (.ref a))) (ha : W.F a = some (ErrX (.ref C) none a)) (hm : mg c = some (.ref C)) : Sto K mg n W H σ (TT.caught c j δ) := by
  refine ⟨by unfold TT.caught; rw [List.length_set, List.length_replicate]; exact hl, fun _ => none, fun i dv e => ?_, (fun _ _ _ z => nomatch z), (fun _ _ z => nomatch z)⟩
  unfold TT.caught at e
  by_cases hi : i = j
  · subst hi
    have lt := (List.getElem?_eq_some_iff.mp hj).1
    rw [List.getElem?_set_self (by rw [List.length_replicate, ← hl]; exact lt)] at e
    cases e
    exact ⟨_, hj, Rep.err ha hm⟩
  · rw [List.getElem?_set_ne (Ne.symm hi), List.getElem?_replicate] at e
    split at e <;> cases e
theorem sh1_lc {sc : Scope} {p : P1} {e : Expr} {gs : List Comprehension} {s2 : Scope} {q : Pos} : sh1 sc p (.ListComp e gs s2 q) = none := by cases p <;> rfl
theorem sh2_lc {sc : Scope} {p : P2} {e : Expr} {gs : List Comprehension} {s2 : Scope} {q : Pos} : sh2 sc p (.ListComp e gs s2 q) = none := by cases p <;> rfl
mutual
theorem soundS : ∀ (x : Sx) {X : Cx} {E : XK} {n : N0} {Ed : Str → Prop} {lv : Nat} (c : CtxS X E n Ed lv) {s : Stmt}, chkS X.N X.env.scope x s = true → okS (topOf X lv) x → PS X s (cS X.K X.mg n (wS Ed x))
  | .set i e, X, E, n, Ed, lv, c, s, h, ho => by
    simp only [chkS] at h
    split at h
    · rename_i t f hx
      split at h
      · rename_i x hn
        simp only [Bool.and_eq_true, decide_eq_true_eq] at h
        obtain ⟨⟨h1, h2⟩, h3, h4⟩ := h
        obtain ⟨p, rfl⟩ := dAssign_eq hx
        obtain ⟨p', rfl⟩ := dName_eq hn
        simp only [okS] at ho
        simp only [wS]
        have he := soundE e c.toCtx h4 ho
        cases hc : dComp f with
        | none =>
          unfold setOk at h3
          rw [hc] at h3
          exact PS.imp (ps_set c.nd h1 (isOwn_loc h2) he.1 (swap_no hc (by simpa using h3) _) (.inl (c.fn x))) fun D σ H z => cS.set z
        | some t =>
          obtain ⟨elt, gs, scope⟩ := t
          obtain ⟨pc, rfl⟩ := dComp_eq hc
          cases hb : lcSwap X.env.scope x p'.line pc.line scope with
          | false => exact PS.imp (ps_set c.nd h1 (isOwn_loc h2) he.1 (lc_plain c.kind hb) (.inl (c.fn x))) fun D σ H z => cS.set z
          | true =>
            -- stored within the comprehension's frame
            cases e <;> simp only [chkE, dName, dConst, dTup, dLst, dBin, dUn, dCmp, dBool, dIte, dSub, dCall, sh1_lc, sh2_lc] at h4 <;> try exact absurd h4 Bool.false_ne_true
            · rename_i own t it d el
              simp only [dComp] at h4
              split at h4
              · rename_i f2 tg iter ifs sc2 hx2
                cases hx2
                simp only [Bool.and_eq_true, decide_eq_true_eq, Bool.not_eq_true'] at h4
                obtain ⟨⟨g1, g2, g3⟩, ⟨g4, g5⟩, g6, g7⟩ := h4
                simp only [okE] at ho
                have ok := blkOk_by g1
                have hi := soundI it true c.toCtx.mask (tg := tg) g5 ho.1
                unfold lcSwap at hb
                simp only [Bool.and_eq_true, decide_eq_true_eq, Bool.not_eq_true'] at hb
                refine PS.imp (ps_setLc (g := cG X.K X.mg n t.slots (tgD t)) (tt := cT X.K X.mg n (wO (fun _ => False) d)) (te := cV X.K X.mg n false (co false (wE (fun _ => False) el))) c.calm c.nd h1 hb.1 (sw_true c.kind hb.1 hb.2.1 hb.2.2) hi ok (fun s H C cl fp => ?_) (fun s H C cl fp => ?_) (fun s H C cl fp => ?_) (set_no g4)) fun D σ H z => ?_
                · exact soundT (X := X.blk s H scope (PySem.compEnvC scope cl C X.env) fp) c.nd c.calm (fun x hx => isOwn_rel hx) t g3
                · exact soundO d (c.toCtx.blk s H ok.kind C cl fp) g6 ho.2.1
                · exact dv_of false (soundE el (c.toCtx.blk s H ok.kind C cl fp) g7 ho.2.2).1
                · have := cS.set z
                  simp only [wE] at this
                  exact cE.comp (by simpa using g2) this
              · cases h4
            · rename_i own t it d t1 it1 d1 el
              simp only [dComp] at h4
              split at h4
              · rename_i f2 tg iter ifs tg1 iter1 ifs1 sc2 hx2
                cases hx2
                simp only [Bool.and_eq_true, decide_eq_true_eq, Bool.not_eq_true'] at h4
                obtain ⟨⟨g1, ⟨g2, g2'⟩, g3, g3'⟩, ⟨g4, g4', g5, g5'⟩, ⟨g6, g6'⟩, g7⟩ := h4
                simp only [okE] at ho
                have ok := blkOk_by g1
                have hi := soundI it true c.toCtx.mask (tg := tg) g5 ho.1
                unfold lcSwap at hb
                simp only [Bool.and_eq_true, decide_eq_true_eq, Bool.not_eq_true'] at hb
                refine PS.imp (ps_setLc2 (vs1 := t1.slots) (g := cG X.K X.mg n t.slots (tgD t)) (tt := cT X.K X.mg n (wO (fun _ => False) d)) (wi1 := cI X.K X.mg n false (wI false (fun _ => False) it1)) (g1 := cG X.K X.mg n t1.slots (tgD t1)) (tt1 := cT X.K X.mg n (wO (fun _ => False) d1)) (te := cV X.K X.mg n false (co false (wE (fun _ => False) el))) c.calm c.nd h1 hb.1 (sw_true c.kind hb.1 hb.2.1 hb.2.2) hi ok g2' (fun s H C cl fp => ?_) (fun s H C cl fp => ?_) (fun s H C cl fp => ?_) (fun s H C cl fp => ?_) (fun s H C cl fp => ?_) (fun s H C cl fp => ?_) (set_no g4) (fun env x => set_no g4' x)) fun D σ H z => ?_
                · exact soundT (X := X.blk s H scope (PySem.compEnvC scope cl C X.env) fp) c.nd c.calm (fun x hx => isOwn_rel hx) t g3
                · exact soundO d (c.toCtx.blk s H ok.kind C cl fp) g6 ho.2.1
                · exact soundI it1 false (c.toCtx.blk s H ok.kind C cl fp) g5' ho.2.2.1
                · exact soundT (X := X.blk s H scope (PySem.compEnvC scope cl C X.env) fp) c.nd c.calm (fun x hx => isOwn_rel hx) t1 g3'
                · exact soundO d1 (c.toCtx.blk s H ok.kind C cl fp) g6' ho.2.2.2.1
                · exact dv_of false (soundE el (c.toCtx.blk s H ok.kind C cl fp) g7 ho.2.2.2.2).1
                · have := cS.set z
                  simp only [wE] at this
                  exact cE.comp2 (by simpa using g2) (fun _ z => z) this
              · cases h4
      · cases h
    · cases h
  | .setv i e, X, E, n, Ed, lv, c, s, h, ho => by
    simp only [chkS] at h
    split at h
    · rename_i t f hx
      split at h
      · rename_i x hn
        simp only [Bool.and_eq_true, decide_eq_true_eq] at h
        obtain ⟨⟨h1, h2⟩, h3, h4⟩ := h
        obtain ⟨p, rfl⟩ := dAssign_eq hx
        obtain ⟨p', rfl⟩ := dName_eq hn
        simp only [okS] at ho
        simp only [wS]
        have he := soundE e c.toCtx h4 ho
        cases hc : dComp f with
        | none =>
          unfold setOk at h3
          rw [hc] at h3
          exact PS.imp (ps_set c.nd h1 (isOwn_loc h2) (dv_of false he.1) (swap_no hc (by simpa using h3) _) (.inl (c.fn x))) fun D σ H z => cS.setv z
        | some t =>
          obtain ⟨elt, gs, scope⟩ := t
          obtain ⟨pc, rfl⟩ := dComp_eq hc
          cases hb : lcSwap X.env.scope x p'.line pc.line scope with
          | false => exact PS.imp (ps_set c.nd h1 (isOwn_loc h2) (dv_of false he.1) (lc_plain c.kind hb) (.inl (c.fn x))) fun D σ H z => cS.setv z
          | true =>
            -- stored within the comprehension's frame
            cases e <;> simp only [chkE, dName, dConst, dTup, dLst, dBin, dUn, dCmp, dBool, dIte, dSub, dCall, sh1_lc, sh2_lc] at h4 <;> try exact absurd h4 Bool.false_ne_true
            · rename_i own t it d el
              simp only [dComp] at h4
              split at h4
              · rename_i f2 tg iter ifs sc2 hx2
                cases hx2
                simp only [Bool.and_eq_true, decide_eq_true_eq, Bool.not_eq_true'] at h4
                obtain ⟨⟨g1, g2, g3⟩, ⟨g4, g5⟩, g6, g7⟩ := h4
                simp only [okE] at ho
                have ok := blkOk_by g1
                have hi := soundI it true c.toCtx.mask (tg := tg) g5 ho.1
                unfold lcSwap at hb
                simp only [Bool.and_eq_true, decide_eq_true_eq, Bool.not_eq_true'] at hb
                refine PS.imp (ps_setLc (g := cG X.K X.mg n t.slots (tgD t)) (tt := cT X.K X.mg n (wO (fun _ => False) d)) (te := cV X.K X.mg n false (co false (wE (fun _ => False) el))) c.calm c.nd h1 hb.1 (sw_true c.kind hb.1 hb.2.1 hb.2.2) hi ok (fun s H C cl fp => ?_) (fun s H C cl fp => ?_) (fun s H C cl fp => ?_) (set_no g4)) fun D σ H z => ?_
                · exact soundT (X := X.blk s H scope (PySem.compEnvC scope cl C X.env) fp) c.nd c.calm (fun x hx => isOwn_rel hx) t g3
                · exact soundO d (c.toCtx.blk s H ok.kind C cl fp) g6 ho.2.1
                · exact dv_of false (soundE el (c.toCtx.blk s H ok.kind C cl fp) g7 ho.2.2).1
                · have := cV.of (cS.setv z)
                  simp only [wE] at this
                  exact cE.comp (by simpa using g2) this
              · cases h4
            · rename_i own t it d t1 it1 d1 el
              simp only [dComp] at h4
              split at h4
              · rename_i f2 tg iter ifs tg1 iter1 ifs1 sc2 hx2
                cases hx2
                simp only [Bool.and_eq_true, decide_eq_true_eq, Bool.not_eq_true'] at h4
                obtain ⟨⟨g1, ⟨g2, g2'⟩, g3, g3'⟩, ⟨g4, g4', g5, g5'⟩, ⟨g6, g6'⟩, g7⟩ := h4
                simp only [okE] at ho
                have ok := blkOk_by g1
                have hi := soundI it true c.toCtx.mask (tg := tg) g5 ho.1
                unfold lcSwap at hb
                simp only [Bool.and_eq_true, decide_eq_true_eq, Bool.not_eq_true'] at hb
                refine PS.imp (ps_setLc2 (vs1 := t1.slots) (g := cG X.K X.mg n t.slots (tgD t)) (tt := cT X.K X.mg n (wO (fun _ => False) d)) (wi1 := cI X.K X.mg n false (wI false (fun _ => False) it1)) (g1 := cG X.K X.mg n t1.slots (tgD t1)) (tt1 := cT X.K X.mg n (wO (fun _ => False) d1)) (te := cV X.K X.mg n false (co false (wE (fun _ => False) el))) c.calm c.nd h1 hb.1 (sw_true c.kind hb.1 hb.2.1 hb.2.2) hi ok g2' (fun s H C cl fp => ?_) (fun s H C cl fp => ?_) (fun s H C cl fp => ?_) (fun s H C cl fp => ?_) (fun s H C cl fp => ?_) (fun s H C cl fp => ?_) (set_no g4) (fun env x => set_no g4' x)) fun D σ H z => ?_
                · exact soundT (X := X.blk s H scope (PySem.compEnvC scope cl C X.env) fp) c.nd c.calm (fun x hx => isOwn_rel hx) t g3
                · exact soundO d (c.toCtx.blk s H ok.kind C cl fp) g6 ho.2.1
                · exact soundI it1 false (c.toCtx.blk s H ok.kind C cl fp) g5' ho.2.2.1
                · exact soundT (X := X.blk s H scope (PySem.compEnvC scope cl C X.env) fp) c.nd c.calm (fun x hx => isOwn_rel hx) t1 g3'
                · exact soundO d1 (c.toCtx.blk s H ok.kind C cl fp) g6' ho.2.2.2.1
                · exact dv_of false (soundE el (c.toCtx.blk s H ok.kind C cl fp) g7 ho.2.2.2.2).1
                · have := cV.of (cS.setv z)
                  simp only [wE] at this
                  exact cE.comp2 (by simpa using g2) (fun _ z => z) this
              · cases h4
      · cases h
    · cases h
  | .par i j a b, X, E, n, Ed, lv, c, s, h, ho => by
    simp only [chkS] at h
    split at h
    · rename_i x px y py _ _ fa fb _ _ hx
      simp only [Bool.and_eq_true, decide_eq_true_eq] at h
      obtain ⟨⟨h1, h2⟩, h3, h4⟩ := h
      obtain ⟨p, rfl⟩ := dAssign_eq hx
      simp only [okS] at ho
      simp only [wS]
      have ha := soundA [a, b] [false, false] c.toCtx rfl h4 (by simp only [okL]; exact ⟨ho.1, ho.2, trivial⟩)
      have hs := h3
      simp only [swapOk, Bool.and_eq_true, decide_eq_true_eq] at hs
      have hij : i ≠ j := by
        rintro rfl
        rw [h1] at h2
        cases h2
        exact hs.2.2.1 rfl
      exact PS.imp (ps_par c.calm c.nd h1 h2 hij hs.1.1 hs.1.2 ha (swap_two c.kind h3) swap_tup) fun D σ H z => cS.par z
    · cases h
  | .tgt t e, X, E, n, Ed, lv, c, s, h, ho => by
    simp only [chkS] at h
    split at h
    · rename_i f v hx
      simp only [Bool.and_eq_true, decide_eq_true_eq] at h
      obtain ⟨⟨h1, h2, h3⟩, h4⟩ := h
      obtain ⟨p, rfl⟩ := dAssign_eq hx
      obtain ⟨es, hes⟩ := Option.isSome_iff_exists.mp h1
      obtain ⟨k, p', rfl⟩ := dTup_eq hes
      simp only [okS] at ho
      simp only [wS]
      have hg := soundT (n := n) c.nd c.calm (raw := X.env.scope) (fun x hx => ⟨isOwn_loc hx, .inl (c.fn x)⟩) t h3
      exact PS.imp (ps_asg (dv_of false (soundE e c.toCtx h4 ho).1) hg swap_tup (stores_long h2) rfl) fun D σ H z => cS.tgt z
    · cases h
  | .star i j e, X, E, n, Ed, lv, c, s, h, ho => by
    simp only [chkS] at h
    split at h
    · rename_i x y v hx
      simp only [Bool.and_eq_true, decide_eq_true_eq] at h
      obtain ⟨⟨h1, h2⟩, ⟨h3, h4⟩, h5, h6⟩ := h
      obtain ⟨p, p1, p2, k, p3, pos, rfl⟩ := dStar_eq hx
      simp only [okS] at ho
      simp only [wS]
      have hn : dTup v = none := by simpa using h5
      exact PS.imp (ps_asg (dv_of false (soundE e c.toCtx h6 ho).1) (pg_star c.calm c.nd h1 (isOwn_loc h3) (c.fn _) h2 (isOwn_loc h4) (c.fn _)) swap_tup (stores_no hn) rfl) fun D σ H z => cS.star z
    · cases h
  | .expr e, X, E, n, Ed, lv, c, s, h, ho => by
    cases s <;> simp only [chkS] at h <;> try exact absurd h Bool.false_ne_true
    rename_i f pos
    simp only [Bool.and_eq_true, decide_eq_true_eq, Bool.not_eq_true'] at h
    simp only [okS] at ho
    simp only [wS]
    exact ds_expr (soundE e c.toCtx h.2 ho).1 (swap_no (by simpa using h.1.1) h.1.2 _)
  | .app i e, X, E, n, Ed, lv, c, s, h, ho => by
    cases s <;> simp only [chkS] at h <;> try exact absurd h Bool.false_ne_true
    rename_i f pos
    split at h
    · rename_i x v l l' hx
      simp only [Bool.and_eq_true, decide_eq_true_eq, Bool.not_eq_true'] at h
      obtain ⟨⟨h1, h2, h3⟩, h4, h5, h6⟩ := h
      obtain ⟨p, pa, pc, rfl, rfl, rfl⟩ := dApp_eq hx
      simp only [okS] at ho
      simp only [wS]
      exact ds_app h1 (vis_ok h2) (okN_1 h3) (okN_2 h3) (dv_of false (soundE e c.toCtx h6 ho).1) (star_cons h5) h4
    · cases h
  | .ret e, X, E, n, Ed, lv, c, s, h, ho => by
    cases s <;> simp only [chkS] at h <;> try exact absurd h Bool.false_ne_true
    rename_i f pos
    cases f <;> simp only at h <;> try exact absurd h Bool.false_ne_true
    simp only [okS] at ho
    simp only [wS]
    exact ds_ret (soundE e c.toCtx h ho).1
  | .retN, X, E, n, Ed, lv, c, s, h, ho => by
    cases s <;> simp only [chkS] at h <;> try exact absurd h Bool.false_ne_true
    rename_i f pos
    cases f <;> simp only at h <;> try exact absurd h Bool.false_ne_true
    simp only [wS]
    exact ds_retN
  | .retO i, X, E, n, Ed, lv, c, s, h, ho => by
    cases s <;> simp only [chkS] at h <;> try exact absurd h Bool.false_ne_true
    rename_i f pos
    cases f <;> simp only at h <;> try exact absurd h Bool.false_ne_true
    split at h
    · rename_i x hx
      simp only [Bool.and_eq_true, decide_eq_true_eq] at h
      obtain ⟨p, rfl⟩ := dName_eq hx
      simp only [wS]
      exact ds_retO h.1 (vis_ok h.2.1) (okN_1 h.2.2) (okN_2 h.2.2)
    · cases h
  | .ifs d a b, X, E, n, Ed, lv, c, s, h, ho => by
    cases s <;> simp only [chkS] at h <;> try exact absurd h Bool.false_ne_true
    simp only [Bool.and_eq_true] at h
    simp only [okS] at ho
    simp only [wS]
    exact ds_if (soundE d c.toCtx h.1 ho.1).2 (soundB a c h.2.1 ho.2.1) (soundB b c h.2.2 ho.2.2)
  | .forr t it b, X, E, n, Ed, lv, c, s, h, ho => by
    cases s <;> simp only [chkS] at h <;> try exact absurd h Bool.false_ne_true
    rename_i f iter x orelse pos
    cases orelse <;> simp only at h <;> try exact absurd h Bool.false_ne_true
    simp only [Bool.and_eq_true, Bool.not_eq_true'] at h
    obtain ⟨⟨h1, h2⟩, h3, h4⟩ := h
    simp only [okS] at ho
    simp only [wS]
    have hg := soundT (n := n) c.nd c.calm (raw := X.env.scope) (fun x hx => ⟨isOwn_loc hx, .inl (c.fn x)⟩) t h2
    exact ds_for c.pos c.calm (soundI it false c.toCtx h3 ho.1) hg (soundB b c h4 ho.2) (set_no h1)
  | .loop d b, X, E, n, Ed, lv, c, s, h, ho => by
    cases s <;> simp only [chkS] at h <;> try exact absurd h Bool.false_ne_true
    rename_i f x orelse pos
    cases orelse <;> simp only at h <;> try exact absurd h Bool.false_ne_true
    simp only [Bool.and_eq_true] at h
    simp only [okS] at ho
    simp only [wS]
    exact ds_while c.pos (soundE d c.toCtx h.1 ho.1).2 (soundB b c h.2 ho.2)
  | .raise d, X, E, n, Ed, lv, c, s, h, ho => by
    simp only [chkS, Bool.and_eq_true, decide_eq_true_eq] at h
    obtain ⟨h1, h2, h3⟩ := h
    obtain ⟨p, m, j, p2, pos, pos', rfl⟩ := dRaise_eq h1
    simp only [okS] at ho
    obtain ⟨C, gC, xC, kC, bC, tC⟩ := ho
    simp only [wS]
    exact ds_raise c.toCtx c.takes gC (pmk_own PySem.F.excBase_ValueError xC gC kC (raises_own bC tC) (isGl_ok h2) (okN_1 h3))
  | .pass, X, E, n, Ed, lv, c, s, h, ho => by
    cases s <;> simp only [chkS] at h <;> try exact absurd h Bool.false_ne_true
    simp only [wS]
    exact ds_pass
  | .frz i, X, E, n, Ed, lv, c, s, h, ho => by simp [chkS] at h
  | .tryK b cn i j, X, E, n, Ed, lv, c, s, h, ho => by
    simp only [chkS] at h
    split at h
    · rename_i bd cn2 e t hx
      simp only [Bool.and_eq_true, decide_eq_true_eq] at h
      obtain ⟨⟨⟨rfl, h1, h2⟩, h3, h4⟩, ⟨h5, h6⟩, ⟨h7, h8⟩, h9⟩ := h
      obtain ⟨np, tp, ep, ap, p1, pos, rfl⟩ := dTry_eq hx
      simp only [okS] at ho
      obtain ⟨⟨T, hT, hE⟩, hb⟩ := ho
      simp only [wS]
      have rule := ps_keep (np := np) (tp := tp) (ep := ep) (ap := ap) (p1 := p1) (pos := pos) (body := bd) (x := cn2) (c := .ref T)
        (tb := fun Wx D σ H => ∃ (n' : N0) (Ed' : Str → Prop), (∀ c C W' H' σ', Ed' c → X.mg c = some (.ref C) → Stp n'.1 n'.2 W' H' → Wx (.ref C) none σ' H') ∧ cS X.K X.mg n' (wBk Ed' b) D σ H)
        c.stk c.frm c.nd h3 h4 h5 h7 h8 ⟨isGl_ok h1, okN_1 h2, .inl hT⟩ (okN_1 h6) (okN_2 h6) fun Wx pn xe tk po => by
          constructor
          rintro pins s σ H D I ⟨n', Ed', hw, hc⟩
          have tk2 : Takes (X.tr pn xe) (fun cls d _ H => (fun cls d H => ∀ σ', Wx cls d σ' H) cls d H) := tk.imp fun cls d σ H z => z σ
          have c2 : CtxS (X.tr pn xe) (fun cls d H => ∀ σ', Wx cls d σ' H) n' Ed' lv :=
            ⟨⟨c.nd, c.calm, c.kind, c.room, passes_call tk2 fun _ _ _ _ h => h, fun c' C W' H' he hm st σ' => hw c' C W' H' σ' he hm st⟩, c.fn, po, tk2, c.stk, c.frm⟩
          exact (soundB b c2 h9 hb).run pins s σ H D I hc
      refine PS.imp rule fun D σ H ⟨W, δ, k, st, sp, hw, g⟩ hl => ⟨(W, H), _, ?_, W, _, _, st.keepV, .refl sp.ok, hw, ?_, ?_, ?_, ?_⟩
      · rintro c' C W' H' σ' ⟨hc', hk⟩ hm s
        refine ⟨hE c' hc' C hm, fun a σ'' ha hl2 hj2 => ?_⟩
        have s2 := Stp.laid s.ok ha (ErrX (.ref C) none a)
        exact g.nx _ _ σ'' _ (s.trans s2).le ((sp.trans s).trans s2) (Sto.caught (by rw [hl2, ← hl]; exact st.len) hj2 (by show upd W'.F a _ a = _; rw [upd_same]) hm) hk
      · intro W' H' σ' δ' l s t h
        exact g.nx W' H' σ' _ l (sp.trans s) (t.up sp) h
      · intro _ _ _ _ _ _ _ h; exact h.elim
      · intro _ _ _ _ _ _ _ h; exact h.elim
      · intro _ _ _ _ _ _ h; exact h.elim
    · cases h
  | .fld i cn f e, X, E, n, Ed, lv, c, s, h, ho => by
    simp only [chkS] at h
    split at h
    · rename_i x g v hx
      simp only [Bool.and_eq_true, decide_eq_true_eq] at h
      obtain ⟨⟨h1, rfl, h2, h3⟩, h4⟩ := h
      obtain ⟨p, pa, pos, rfl⟩ := dFld_eq hx
      simp only [okS] at ho
      simp only [wS]
      exact ds_fld ho.1 h1 (vis_ok h2) (okN_1 h3) (okN_2 h3) (dv_of false (soundE e c.toCtx h4 ho.2).1) swap_att
    · cases h
theorem soundB : ∀ (xs : List Sx) {X : Cx} {E : XK} {n : N0} {Ed : Str → Prop} {lv : Nat} (c : CtxS X E n Ed lv) {ss : List Stmt}, chkB X.N X.env.scope xs ss = true → okB (topOf X lv) xs → PSs X ss (cS X.K X.mg n (wBk Ed xs))
  | [], X, E, n, Ed, lv, c, [], h, ho => by simp only [wBk]; exact ds_nil
  | [], X, E, n, Ed, lv, c, _ :: _, h, ho => by simp [chkB] at h
  | x :: xs, X, E, n, Ed, lv, c, ss, h, ho => by
    simp only [okB] at ho
    have plain : (∀ i, x ≠ .frz i) → PSs X ss (cS X.K X.mg n (wBk Ed (x :: xs))) := fun hx => by
      cases ss with
      | nil => cases x <;> first | (simp [chkB] at h; done) | exact absurd rfl (hx _)
      | cons s ss =>
        have h' : chkS X.N X.env.scope x s = true ∧ chkB X.N X.env.scope xs ss = true := by
          cases x <;> first | (simpa [chkB] using h) | exact absurd rfl (hx _)
        have e : wBk Ed (x :: xs) = swSeq (wS Ed x) (wBk Ed xs) := by
          cases x <;> first | rfl | (simp only [wBk]; done) | exact absurd rfl (hx _)
        rw [e]
        exact ds_cons (soundS x c h'.1 ho.1) (soundB xs c h'.2 ho.2)
    by_cases hf : ∃ i, x = .frz i
    · obtain ⟨i, rfl⟩ := hf
      simp only [wBk]
      exact ds_frz (soundB xs c (by simpa [chkB] using h) ho.2)
    · exact plain fun i e => hf ⟨i, e⟩
end
end
end TT

set_option Elab.async false
set_option linter.all false
set_option maxRecDepth 100000
set_option autoImplicit false
namespace TT
open PySem PySem.Spec L2

/-! ### a def by its body -/
@[reducible] def argV (b : Bool) (d : D) : DV := if b = true then .bp d else .v d
@[reducible] def start0 (m : Nat) (br : List Bool) (ds : List D) : Sl := (List.zipWith (fun b d => some (argV b d)) br ds) ++ List.replicate (m - ds.length) none
section
variable {K : PySem.W.Frag} {mg : Str → Option Value} {W : Wd} {H : Hp}
theorem ArgsR.at : ∀ {br : List Bool} {vs : List V} {ds : List D} {i : Nat} {dv : DV}, ArgsR K mg W H br vs ds → (List.zipWith (fun b d => some (argV b d)) br ds)[i]? = some (some dv) → ∃ v, vs[i]? = some v ∧ SRep K mg (W, H) W H v none dv
  | _, _, _, _, _, .nil, e => by simp at e
  | _, _, _, 0, dv, .cons (m := m) (v := v0) (d := d0) h r, e => by
    simp at e
    subst e
    refine ⟨_, rfl, ?_⟩
    unfold argV
    cases m with
    | true => exact h.read
    | false =>
      have h : Rep K mg W v0 d0 := by simpa [RepM] using h
      exact h
  | _, _, _, i + 1, dv, .cons h r, e => by
    obtain ⟨v, e1, e2⟩ := ArgsR.at (i := i) (dv := dv) r (by simpa using e)
    exact ⟨v, by simpa using e1, e2⟩
theorem zip_len : ∀ {br : List Bool} {ds : List D}, ds.length = br.length → (List.zipWith (fun b d => some (argV b d)) br ds).length = ds.length
  | _, _, h => by rw [List.length_zipWith, h, Nat.min_self]
theorem Sto.first {N : List Str} {br : List Bool} {vs : List V} {ds : List D} (r : ArgsR K mg W H br vs ds) (w : WOk W H) (hN : br.length ≤ N.length) : Sto K mg (W, H) W H (L2.start N vs) (start0 N.length br ds) := by
  have l1 := r.len.1
  have l2 := r.len.2
  have lz := zip_len l2
  refine ⟨?_, fun _ => none, fun i dv e => ?_, fun i j a e _ => by (cases e), fun i a e => by cases e⟩
  · unfold L2.start start0
    rw [List.length_append, List.length_append, List.length_map, List.length_replicate, List.length_replicate, lz, l1, l2]
  · unfold start0 at e
    by_cases hi : i < ds.length
    · rw [List.getElem?_append_left (by rw [lz]; exact hi)] at e
      obtain ⟨v, e1, e2⟩ := r.at e
      refine ⟨v, ?_, e2⟩
      unfold L2.start
      rw [List.getElem?_append_left (by rw [List.length_map, l1, ← l2]; exact hi), List.getElem?_map, e1]
      rfl
    · rw [List.getElem?_append_right (by rw [lz]; omega), List.getElem?_replicate] at e
      split at e <;> cases e
end
section
variable {P : Program} {w : World} {K : PySem.W.Frag} {mg : Str → Option Value} {base : Heap}
theorem fnD {lv : Nat} {f : Addr} {name qual : Str} {params : Arguments} {body : List Stmt} {scope : Scope} {dV kV doc pm cdv ct oc : Value} {an od : Option Addr} {osl : Array (Option Value)} {N ps : List Str} {br : List Bool} {S : DS}
    (lk : K.lookup f = some ⟨oc, od, .func (PySem.W.fnOf name qual params body scope dV kV doc pm an cdv ct), osl⟩) (hcd : PySem.W.codeIn K cdv qual = true) (sc : FnScope N ps scope) (hb : br.length = ps.length) (B : List Sx) (hc : chkB N scope B body = true)
    (ho : okB ⟨P, w, K, mg, base, lv⟩ B) (vc : ∀ ds q Ed, ds.length = br.length → S ds q Ed → wBk Ed B ⟨fun _ => q (.v .non), q, fun _ => False, fun _ => False⟩ (start0 N.length br ds)) :
    FnOk P w K mg base (L2.CX P w) (lv + 1) f (PySem.W.fnOf name qual params body scope dV kV doc pm an cdv ct) ps (spD K mg br S) := by
  refine fn_of lk hcd sc (fun vs H Q E h => h.1.trans hb) fun A outer s H vs Q E hr hsp => ?_
  obtain ⟨hl, W, ds, q, Ed, wk, ra, hS, hq, hE⟩ := hsp
  have hpl : ps.length ≤ N.length := by
    have e := congrArg List.length sc.pre
    rw [List.length_take] at e
    omega
  have tk : Takes (cxOf (L2.CX P w) P w K mg base N qual scope f cdv A outer s H E) (fun cls d _ H => E cls d H) := takes_of rfl rfl rfl rfl
  have c : CtxS (cxOf (L2.CX P w) P w K mg base N qual scope f cdv A outer s H E) E (W, H) Ed lv :=
    ⟨⟨sc.nd, rfl, sc.kind, hr, passes_call tk fun _ _ _ _ h => h, fun c' C W' H' he hm st => hE c' C W' H' he hm st⟩, fun _ => rfl, passes_of rfl, tk, rfl, rfl⟩
  refine ⟨_, soundB B c hc ho, W, start0 N.length br ds, _, Sto.first ra wk (by rw [hb]; exact hpl), .refl wk, vc ds q Ed ra.len.2 hS, ?_, ?_, ?_, ?_⟩
  · intro W' H' σ' δ' l s' t h
    exact hq W' H' .non (.v .non) s' Rep.non h
  · intro W' H' σ' δ' l s' t h; exact h.elim
  · intro W' H' σ' δ' l s' t h; exact h.elim
  · intro W' H' v dv s' r h
    exact hq W' H' v dv s' r h
end
section
variable {P : Program} {w : World} {K : PySem.W.Frag} {mg : Str → Option Value} {base : Heap}
/-- what the end of an __init__ is asked -/
@[reducible] def initK (x : Addr) (cn : Str) (q : DV → Prop) : Kn := ⟨fun δ => match δ.getD 0 none with
  | some (.ins a c fs) => a = x ∧ c = cn ∧ q (.v (.obj cn fs))
  | _ => False, fun _ => False, fun _ => False, fun _ => False⟩
theorem Sto.firstI {N : List Str} {br : List Bool} {vs : List V} {ds : List D} {W : Wd} {H0 : Hp} {x dx C : Addr} {cn : Str} (r : ArgsR K mg W H0 br vs ds) (wk : WOk W H0) (hN : br.length + 1 ≤ N.length) (hx : H0 x = none) (hdx : H0 dx = none) (hne : dx ≠ x) (hC : mg cn = some (.ref C)) :
    Stp W H0 W (upd (upd H0 dx (.own x)) x (.ins C dx [])) ∧ Sto K mg (W, H0) W (upd (upd H0 dx (.own x)) x (.ins C dx [])) (L2.start N (.ref x :: vs)) (some (.ins x cn []) :: start0 (N.length - 1) br ds) := by
  have s1 := Stp.laidOwn wk hdx (.own x)
  have hx1 : upd H0 dx (.own x) x = none := by rw [upd_ne (Ne.symm hne)]; exact hx
  have s2 := s1.trans (Stp.laidOwn s1.ok hx1 (.ins C dx []))
  refine ⟨s2, ?_⟩
  have l1 := r.len.1
  have l2 := r.len.2
  have lz := zip_len l2
  have st : L2.start N (.ref x :: vs) = some (.ref x) :: (vs.map some ++ List.replicate (N.length - 1 - vs.length) none) := by
    unfold L2.start
    rw [List.map_cons, List.length_cons, List.cons_append, Nat.sub_sub, Nat.add_comm 1]
  rw [st]
  refine ⟨?_, fun i => if i = 0 then some x else none, fun i dv e => ?_, fun i j a e1 e2 => ?_, fun i a e => ?_⟩
  · unfold start0
    rw [List.length_cons, List.length_cons, List.length_append, List.length_append, List.length_map, List.length_replicate, List.length_replicate, lz, l1, l2]
  · cases i with
    | zero =>
      cases e
      exact ⟨.ref x, rfl, C, dx, [], rfl, rfl, upd_same, hC, .nil⟩
    | succ i =>
      have e : (start0 (N.length - 1) br ds)[i]? = some (some dv) := e
      unfold start0 at e
      by_cases hi : i < ds.length
      · rw [List.getElem?_append_left (by rw [lz]; exact hi)] at e
        obtain ⟨v, e1, e2⟩ := r.at e
        refine ⟨v, ?_, ?_⟩
        · show (vs.map some ++ List.replicate (N.length - 1 - vs.length) none)[i]? = _
          rw [List.getElem?_append_left (by rw [List.length_map, l1, ← l2]; exact hi), List.getElem?_map, e1]
          rfl
        · exact SRep.step (n := (W, H0)) s2 (o := none) (fun _ z => nomatch z) e2
      · rw [List.getElem?_append_right (by rw [lz]; omega), List.getElem?_replicate] at e
        split at e <;> cases e
  · by_cases h1 : i = 0
    · by_cases h2 : j = 0
      · rw [h1, h2]
      · dsimp only at e2; rw [if_neg h2] at e2; cases e2
    · dsimp only at e1; rw [if_neg h1] at e1; cases e1
  · by_cases h1 : i = 0
    · dsimp only at e; rw [if_pos h1] at e; cases e
      exact ⟨hx, by rw [upd_same]; simp, wk.sub.free hx, wk.notTown hx⟩
    · dsimp only at e; rw [if_neg h1] at e; cases e
theorem fnI {lv : Nat} {cn : Str} {f : Addr} {name qual : Str} {params : Arguments} {body : List Stmt} {scope : Scope} {dV kV doc pm cdv ct oc : Value} {an od : Option Addr} {osl : Array (Option Value)} {N ps : List Str} {br : List Bool} {S : DS}
    (lk : K.lookup f = some ⟨oc, od, .func (PySem.W.fnOf name qual params body scope dV kV doc pm an cdv ct), osl⟩) (hcd : PySem.W.codeIn K cdv qual = true) (sc : FnScope N ps scope) (hb : br.length + 1 = ps.length) (B : List Sx) (hc : chkB N scope B body = true)
    (ho : okB ⟨P, w, K, mg, base, lv⟩ B) (vc : ∀ x ds q Ed, ds.length = br.length → S ds q Ed → wBk Ed B (initK x cn q) (some (.ins x cn []) :: start0 (N.length - 1) br ds)) :
    FnOk P w K mg base (L2.CX P w) (lv + 1) f (PySem.W.fnOf name qual params body scope dV kV doc pm an cdv ct) ps (spI K mg cn br S) := by
  refine fn_of lk hcd sc (fun vs H Q E h => by obtain ⟨x, vs', rfl, hl, _⟩ := h; rw [List.length_cons, hl]; exact hb) fun A outer s H vs Q E hr hsp => ?_
  obtain ⟨x, vs', rfl, hl, W, H0, dx, C, ds, q, Ed, wk, hx, hdx, hne, hC, rfl, ra, hS, hq, hE⟩ := hsp
  have hpl : ps.length ≤ N.length := by
    have e := congrArg List.length sc.pre
    rw [List.length_take] at e
    omega
  obtain ⟨sp, st⟩ := Sto.firstI (N := N) (cn := cn) ra wk (by omega) hx hdx hne hC
  have tk : Takes (cxOf (L2.CX P w) P w K mg base N qual scope f cdv A outer s (upd (upd H0 dx (.own x)) x (.ins C dx [])) E) (fun cls d _ H => E cls d H) := takes_of rfl rfl rfl rfl
  have c : CtxS (cxOf (L2.CX P w) P w K mg base N qual scope f cdv A outer s (upd (upd H0 dx (.own x)) x (.ins C dx [])) E) E (W, H0) Ed lv :=
    ⟨⟨sc.nd, rfl, sc.kind, hr, passes_call tk fun _ _ _ _ h => h, fun c' C W' H' he hm st => hE c' C W' H' he hm st⟩, fun _ => rfl, passes_of rfl, tk, rfl, rfl⟩
  refine ⟨_, soundB B c hc ho, W, _, _, st, sp, vc x ds q Ed ra.len.2 hS, ?_, ?_, ?_, ?_⟩
  · intro W' H' σ' δ' l s' t h
    dsimp only [initK] at h
    split at h
    · rename_i a c' fs e
      obtain ⟨rfl, rfl, h⟩ := h
      obtain ⟨_, ow, g1, _, g3⟩ := t
      rw [List.getD_eq_getElem?_getD] at e
      have e0 : δ'[0]? = some (some (.ins a c' fs)) := by
        cases z : δ'[0]? with
        | none => rw [z] at e; cases e
        | some o => rw [z] at e; cases e; rfl
      obtain ⟨v, ev, C', dx', xs, ea, rfl, eh, hm, rf⟩ := g1 0 _ e0
      obtain ⟨b1, b2, b3⟩ := g3 0 a ea
      obtain ⟨s3, l3⟩ := s'.freeze b1 eh b3.1 b3.2
      exact hq _ H' fs s3 (.obj (by show upd W'.F a _ a = _; rw [upd_same]) hm (rf.le l3)) h
    · exact h.elim
  · intro W' H' σ' δ' l s' t h; exact h.elim
  · intro W' H' σ' δ' l s' t h; exact h.elim
  · intro W' H' v dv s' r h; exact h.elim
end
end TT

set_option Elab.async false
set_option linter.all false
set_option maxRecDepth 100000
set_option autoImplicit false
namespace TT
open PySem PySem.Spec L2

/-! ### the town -/
/-- a draw: any whole number from 0 on, below what is asked -/
@[irreducible] def S_draw : DS := fun ds q _ => ∃ m, ds = [.town, .int m] ∧ 0 < m ∧ Sz 9000 m ∧ ∀ d, 0 ≤ d → d < m → q (.v (.int d))
def spTown (K : PySem.W.Frag) : Sp := fun vs H Q _ => ∃ (a : Addr) (ns : List Int), vs = [.ref a] ∧ SqL K H a (ns.map V.int) ∧ ns.length ≤ 63 ∧ ∀ T R H', Same H H' → H T = none → H R = none → T ≠ R → TownAt H' T R → Q (.ref T) H'
def spLaw (K : PySem.W.Frag) : Sp := fun vs H Q _ => ∃ (a : Addr) (ns : List Int), vs = [.ref a] ∧ SqL K H a (ns.map V.int) ∧ ns.length ≤ 63 ∧ ∀ H', Q (.bl true) H'
theorem py_ints : ∀ ns : List Int, PyData.canLayAll0 (ns.map PyData.int) = true ∧ PyData.depthAll (ns.map PyData.int) = 0
  | [] => by simp [PyData.canLayAll0, PyData.depthAll]
  | n :: ns => by
    obtain ⟨h1, h2⟩ := py_ints ns
    simp [PyData.canLayAll0, PyData.depthAll, PyData.canLay0, PyData.depth, h1, h2]
theorem shaped_ints (ns : List Int) : SeqAt.shaped (.list (ns.map PyData.int)) = true := by
  obtain ⟨h1, h2⟩ := py_ints ns
  simp [SeqAt.shaped, PyData.canLay0, PyData.depth, h1, h2]
theorem dp_ints {K : PySem.W.Frag} {H : Hp} : ∀ ns : List Int, DpAll K H (ns.map V.int) (ns.map PyData.int)
  | [] => .nil
  | n :: ns => .cons (.int n) (dp_ints ns)
theorem eqv_nil (ns : List Int) : PyData.eqv (.list (ns.map PyData.int)) (.list []) = ns.isEmpty := by
  cases ns <;> simp [PyData.eqv, PyData.eqvAll]
/-- behind a draw -/
theorem Stp.town {W : Wd} {H : Hp} (k : WOk W H) {T R : Addr} (e : W.tw = some (T, R)) {n : Int} {ns : List Int} (hn : 0 ≤ n) (h0 : 0 < ns.length) (h6 : ns.length ≤ 64) {H' : Hp} (hT : H' T = some (.lst [.ref R, .int n])) (hR : H' R = some (.lst (ns.map V.int)))
    (ho : ∀ a, a ≠ T → a ≠ R → H' a = H a) : Stp W H W H' := by
  obtain ⟨h1, h2, h3, _⟩ := k.town T R e
  have away : ∀ a o, W.F a = some o → a ≠ T ∧ a ≠ R := fun a o q => ⟨(fun z => by rw [z, h2] at q; cases q), (fun z => by rw [z, h3] at q; cases q)⟩
  refine ⟨.refl _, fun a o q t => ?_, fun a h => .inl h, fun a h => .inl h, ⟨fun a o q => ?_, fun T' R' e' => ?_⟩⟩
  · rw [ho a (fun z => t ⟨T, R, e, .inl z⟩) (fun z => t ⟨T, R, e, .inr z⟩)]
    exact q
  · rw [ho a (away a o q).1 (away a o q).2]
    exact k.sub a o q
  · rw [e] at e'; cases e'
    exact ⟨h1, h2, h3, ns, n, hT, hR, hn, h0, h6⟩
theorem Rep.townInv {K : PySem.W.Frag} {mg : Str → Option Value} {W : Wd} {v : V} (r : Rep K mg W v .town) : ∃ T R, v = .ref T ∧ W.tw = some (T, R) := by
  cases r with
  | town h => exact ⟨_, _, rfl, h⟩

section
variable {P : Program} {w : World} {K : PySem.W.Frag} {mg : Str → Option Value} {base : Heap}
/-- the law's own def: its first row makes the town; B: the rows behind it -/
theorem lawD {lv : Nat} {f : Addr} {name qual : Str} {params : Arguments} {s0 : Stmt} {body : List Stmt} {scope : Scope} {dV kV doc pm cdv ct oc : Value} {an od : Option Addr} {osl : Array (Option Value)} {N : List Str} {x y g : Str} {p1 p2 p3 p4 p5 : Pos} {fT : Addr} {fdT : FuncData}
    (hs0 : s0 = .Assign [.Name y p1] (.Call (.Name g p2) [.Name x p3] [] p4) p5)
    (lk : K.lookup f = some ⟨oc, od, .func (PySem.W.fnOf name qual params (s0 :: body) scope dV kV doc pm an cdv ct), osl⟩) (hcd : PySem.W.codeIn K cdv qual = true) (sc : FnScope N [x] scope)
    (hx : N[0]? = some x) (hy : N[1]? = some y) (hvx : vis scope x = true) (hox : okN x = true) (hoy : isOwn scope y = true) (hgg : isGl scope g = true) (hog : okN g = true)
    (FT : FnOk P w K mg base (L2.CX P w) lv fT fdT ["_law_script"] (spTown K)) (hmT : mg g = some (.ref fT)) (hkT : PySem.W.keepIn K (.ref fT) = true) (hbT : Binds K fdT ["_law_script"] [])
    (B : List Sx) (hc : chkB N scope B body = true) (ho : okB ⟨P, w, K, mg, base, lv⟩ B)
    (vc : wBk (fun _ => False) B ⟨fun _ => False, fun dv => dv = .v (.bl true), fun _ => False, fun _ => False⟩ ((List.replicate N.length none).set 1 (some (.v .town)))) :
    FnOk P w K mg base (L2.CX P w) (lv + 1) f (PySem.W.fnOf name qual params (s0 :: body) scope dV kV doc pm an cdv ct) [x] (spLaw K) := by
  refine fn_of lk hcd sc (fun vs H Q E h => by obtain ⟨_, _, rfl, _⟩ := h; rfl) fun A outer s H vs Q E hr hsp => ?_
  obtain ⟨a, ns, rfl, hS, hlen, hQ⟩ := hsp
  have tk0 : Takes (cxOf (L2.CX P w) P w K mg base N qual scope f cdv A outer s H E) (fun cls d _ H => E cls d H) := takes_of rfl rfl rfl rfl
  have tk : Takes (cxOf (L2.CX P w) P w K mg base N qual scope f cdv A outer s H E) (fun cls d _ H => E0 cls d H) := tk0.imp fun _ _ _ _ z => z.elim
  subst hs0
  -- the first row
  have first : PS (cxOf (L2.CX P w) P w K mg base N qual scope f cdv A outer s H E) (.Assign [.Name y p1] (.Call (.Name g p2) [.Name x p3] [] p4) p5) _ :=
    ps_set (i := 1) sc.nd hy (isOwn_loc hoy) (pe_call (E := E0) FT hr (isGl_ok hgg) hmT hkT hbT .nil passL (pa_cons (pe_var (i := 0) hx (vis_ok hvx) (okN_1 hox) (okN_2 hox)) pa_nil) (okN_1 hog) rfl rfl) rfl (.inl rfl)
  -- the rest, from whatever entry
  have rest : PSs (cxOf (L2.CX P w) P w K mg base N qual scope f cdv A outer s H E) body (fun D σ H1 => ∃ n, cS K mg n (wBk (fun _ => False) B) D σ H1) := by
    constructor
    rintro pins s1 σ H1 D I ⟨n, hn⟩
    have c : CtxS (cxOf (L2.CX P w) P w K mg base N qual scope f cdv A outer s H E) E0 n (fun _ => False) lv :=
      ⟨⟨sc.nd, rfl, sc.kind, hr, passL, fun _ _ _ _ z => z.elim⟩, fun _ => rfl, passes_of rfl, tk, rfl, rfl⟩
    exact (soundB (n := n) B c hc ho).run pins s1 σ H1 D I hn
  have hN : 1 < N.length := (List.getElem?_eq_some_iff.mp hy).1
  refine ⟨_, pss_cons first rest, ?_⟩
  refine ⟨.ref a, rfl, a, ns, rfl, hS, hlen, fun T R H' same nT nR ne tn => ?_⟩
  refine ⟨(⟨fun _ => none, some (T, R)⟩, H'), ⟨fun _ => none, some (T, R)⟩, _, _, ?_, .refl ?_, vc, ?_, ?_, ?_, ?_⟩
  · refine ⟨?_, fun _ => none, fun i dv e => ?_, (fun _ _ _ e => nomatch e), (fun _ _ e => nomatch e)⟩
    · unfold L2.start
      simp
      omega
    · by_cases hi : i = 1
      · subst hi
        rw [List.getElem?_set_self (by rw [List.length_replicate]; exact hN)] at e
        cases e
        refine ⟨.ref T, List.getElem?_set_self ?_, Rep.town rfl⟩
        unfold L2.start
        simp
        omega
      · rw [List.getElem?_set_ne (Ne.symm hi), List.getElem?_replicate] at e
        split at e <;> cases e
  · refine ⟨fun b o e => (nomatch e), fun T' R' e => ?_⟩
    cases e
    exact ⟨ne, rfl, rfl, tn⟩
  · intro _ _ _ _ _ _ _ z; exact z.elim
  · intro _ _ _ _ _ _ _ z; exact z.elim
  · intro _ _ _ _ _ _ _ z; exact z.elim
  · intro W' H'' v dv st r e
    subst e
    cases r
    exact hQ H''
end
end TT

set_option Elab.async false
set_option linter.all false
set_option maxRecDepth 100000
set_option autoImplicit false
/-! What stands behind the top, by names; the law's end. -/
namespace TT
open PySem PySem.Spec L2
def dfn (x : Str) (st : Stmt) (dfl : List He.Dv) : He.DefD := ⟨(x, none), x, x, defArgs st, defBody st, defScope st, dfl, []⟩
/-- a def behind the top -/
structure Got (K : PySem.W.Frag) (mg : Str → Option Value) (x : Str) (st : Stmt) (dvs : List V) (f : Addr) : Prop where
  fn : ∃ fd, FunD K x x (defArgs st) (defBody st) (defScope st) dvs [] f fd
  at_ : mg x = some (.ref f)
section
variable {K : PySem.W.Frag} {h : Heap} {mg : Str → Option Value} {fa : List He.Fa} {fn : List He.DefD}
theorem got_of (X : K.In h) (G : h.Ns mainGlobals mg) (c : He.SaysD fa fn K) {x : Str} {st : Stmt} {dfl : List He.Dv} (i j : Nat) (h1 : fn[i]? = some (dfn x st dfl)) (h2 : fa[j]? = some (.glo x)) : Got K mg x st (dfl.map (He.Dv.v K)) (He.ga K x) :=
  ⟨c.def_ i h1, He.glo_ok X G (c.fact j h2)⟩
theorem free_of (X : K.In h) (G : h.Ns mainGlobals mg) (c : He.SaysD fa fn K) {x : Str} (j : Nat) (h2 : fa[j]? = some (.free x)) : mg x = none := He.free_ok X G (c.fact j h2)
theorem exc_of {P : Program} {w : World} {base : Heap} {lv : Nat} (X : K.In h) (G : h.Ns mainGlobals mg) (c : He.SaysD fa fn K) {x : Str} (i j : Nat) (h1 : fa[i]? = some (.glo x)) (h2 : fa[j]? = some (.exc x)) : Top.exc ⟨P, w, K, mg, base, lv⟩ x := by
  have e : (PySem.W.excIn K (He.ga K x) He.veBase "ValueError.__new__" && (PySem.W.keepIn K (.ref (He.ga K x)) && (decide (PySem.W.subIn K (.ref (He.ga K x)) (.type "BaseException") = some true) && decide (PySem.W.typeIn K (.ref (He.ga K x)) = some (.type "type"))))) = true := c.fact j h2
  simp only [Bool.and_eq_true, decide_eq_true_eq] at e
  exact ⟨_, He.glo_ok X G (c.fact i h1), e.1, e.2.1, e.2.2.1, e.2.2.2⟩
end
/-! ### constants of the top -/
def relOne : D → Value → Bool
  | .int i, .int j _ => decide (i = j)
  | .str x, .str y _ => decide (x = y)
  | _, _ => false
def relAll : List D → List Value → Bool
  | [], [] => true
  | d :: ds, v :: vs => relOne d v && relAll ds vs
  | _, _ => false
/-- x stands for a tuple of numbers and texts -/
def flatB (K : PySem.W.Frag) (x : Str) (ds : List D) : Bool := match PySem.W.nsIn K mainGlobals x with
  | some (some (.ref a)) => (match K.lookup a with
    | some o => decide (o.cls = .type "tuple") && (match o.data with
      | .seq its _ => decide (its.size ≤ 1000) && relAll ds its.toList
      | _ => false)
    | none => false)
  | _ => false
theorem relAll_ok {K : PySem.W.Frag} {mg : Str → Option Value} : ∀ {ds : List D} {us : List Value}, relAll ds us = true → ∃ vs, Vals vs us ∧ ∀ W, RepL K mg W vs ds
  | [], [], _ => ⟨[], .nil, fun _ => .nil⟩
  | [], _ :: _, h => by simp [relAll] at h
  | _ :: _, [], h => by simp [relAll] at h
  | d :: ds, u :: us, h => by
    simp only [relAll, Bool.and_eq_true] at h
    obtain ⟨vs, h1, h2⟩ := relAll_ok (K := K) (mg := mg) h.2
    have h3 := h.1
    unfold relOne at h3
    split at h3
    · rename_i i j t
      have e := of_decide_eq_true h3
      subst e
      exact ⟨.int i :: vs, .cons ⟨t, rfl⟩ h1, fun W => .cons (.int i) (h2 W)⟩
    · rename_i i j t
      have e := of_decide_eq_true h3
      subst e
      exact ⟨.str i :: vs, .cons ⟨t, rfl⟩ h1, fun W => .cons (.str i) (h2 W)⟩
    · cases h3
theorem glbT_of {P : Program} {w : World} {K : PySem.W.Frag} {h : Heap} {mg : Str → Option Value} {base : Heap} {lv : Nat} (X : K.In h) (G : h.Ns mainGlobals mg) {x : Str} {ds : List D} (c : flatB K x ds = true) : Top.glb ⟨P, w, K, mg, base, lv⟩ x (.tup ds) := by
  unfold flatB at c
  split at c
  · rename_i a e
    split at c
    · rename_i o lk
      rw [Bool.and_eq_true, decide_eq_true_eq] at c
      obtain ⟨c1, c2⟩ := c
      split at c2
      · rename_i its n e2
        rw [Bool.and_eq_true, decide_eq_true_eq] at c2
        obtain ⟨vs, h1, h2⟩ := relAll_ok (K := K) (mg := mg) c2.2
        have hs : sizeLine = 16777216 := sizeLine_eq
        exact ⟨.ref a, .ref a, PySem.W.mg_of X G e, rfl, fun W => .tup (.inr ⟨o, its, n, lk, c1, e2, by omega, h1⟩) (h2 W)⟩
      · cases c2
    · cases c
  · cases c
theorem glbI_of {P : Program} {w : World} {K : PySem.W.Frag} {h : Heap} {mg : Str → Option Value} {base : Heap} {lv : Nat} {fa : List He.Fa} {fn : List He.DefD} (X : K.In h) (G : h.Ns mainGlobals mg) (c : He.SaysD fa fn K) {x : Str} {i : Int} (j : Nat) (h2 : fa[j]? = some (.int x i)) : Top.glb ⟨P, w, K, mg, base, lv⟩ x (.int i) := by
  obtain ⟨t, e⟩ := He.int_ok X G (c.fact j h2)
  exact ⟨.int i, .int i t, e, ⟨t, rfl⟩, fun W => .int i⟩
section
variable {P : Program} {w : World} {K : PySem.W.Frag} {mg : Str → Option Value} {base : Heap}
theorem FnG.up {j lv : Nat} {f : Str} {br : List Bool} {S : DS} {dv : List D} (g : FnG P w K mg base j f br S dv) (e : j ≤ lv) : Top.fn ⟨P, w, K, mg, base, lv⟩ f br S dv := by
  obtain ⟨a, fd, ps, ds, dvs, F, r⟩ := g
  exact ⟨a, fd, ps, ds, dvs, F.mono e, r⟩
/-- every parameter is written -/
def NoDfl (x : Str) (st : Stmt) (ps : List Str) : Prop := ∀ (kV doc pm : Value) (an : Option Addr) (cdv ct : Value) (us : List Value), us.length = ps.length → bindArgs (PySem.W.fnOf x x (defArgs st) (defBody st) (defScope st) .none kV doc pm an cdv ct) ⟨us, []⟩ = pure (ps.zip us)
theorem g_of {lv : Nat} {x : Str} {st : Stmt} {N ps : List Str} {br : List Bool} {S : DS} {f : Addr} (g : Got K mg x st [] f) (sc : FnScope N ps (defScope st)) (hb : br.length = ps.length) (B : List Sx) (hc : chkB N (defScope st) B (defBody st) = true)
    (bi : NoDfl x st ps) (ho : okB ⟨P, w, K, mg, base, lv⟩ B)
    (vc : ∀ ds q Ed, ds.length = br.length → S ds q Ed → wBk Ed B ⟨fun _ => q (.v .non), q, fun _ => False, fun _ => False⟩ (start0 N.length br ds)) : FnG P w K mg base (lv + 1) x br S [] := by
  obtain ⟨fd, F⟩ := g.fn
  have b := F.bindsN bi
  obtain ⟨oc, od, dV, kV, doc, pm, an, cdv, ct, osl, rfl, lk, hcd, _, _⟩ := F.ex
  exact ⟨f, _, ps, [], [], fnD lk hcd sc hb B hc ho vc, g.at_, F.kp, b, .nil, fun W => .nil⟩
/-- the def itself, whatever its defaults -/
theorem f_of {lv : Nat} {x : Str} {st : Stmt} {N ps : List Str} {br : List Bool} {S : DS} {f : Addr} {fd : FuncData} {dvs : List V} (F : FunD K x x (defArgs st) (defBody st) (defScope st) dvs [] f fd) (sc : FnScope N ps (defScope st)) (hb : br.length = ps.length) (B : List Sx) (hc : chkB N (defScope st) B (defBody st) = true)
    (ho : okB ⟨P, w, K, mg, base, lv⟩ B)
    (vc : ∀ ds q Ed, ds.length = br.length → S ds q Ed → wBk Ed B ⟨fun _ => q (.v .non), q, fun _ => False, fun _ => False⟩ (start0 N.length br ds)) : FnOk P w K mg base (L2.CX P w) (lv + 1) f fd ps (spD K mg br S) := by
  obtain ⟨oc, od, dV, kV, doc, pm, an, cdv, ct, osl, rfl, lk, hcd, _, _⟩ := F.ex
  exact fnD lk hcd sc hb B hc ho vc
/-- one whole number as a last default: the call that leaves it out, the call that writes it -/
theorem g_dfl {lv : Nat} {x : Str} {st : Stmt} {ps : List Str} {br : List Bool} {S : DS} {f : Addr} {fd : FuncData} {i : Int} (F : FunD K x x (defArgs st) (defBody st) (defScope st) [.int i] [] f fd) (at_ : mg x = some (.ref f)) (O : FnOk P w K mg base (L2.CX P w) lv f fd ps (spD K mg br S))
    (b : ∃ ds, Vals [V.int i] ds ∧ Binds K fd ps ds) : FnG P w K mg base lv x br S [.int i] := by
  obtain ⟨ds, hv, hb⟩ := b
  exact ⟨f, fd, ps, ds, [.int i], O, at_, F.kp, hb, hv, fun W => .cons (.int i) .nil⟩
theorem g_all {lv : Nat} {x : Str} {st : Stmt} {ps : List Str} {br : List Bool} {S : DS} {f : Addr} {fd : FuncData} {dvs : List V} (F : FunD K x x (defArgs st) (defBody st) (defScope st) dvs [] f fd) (at_ : mg x = some (.ref f)) (O : FnOk P w K mg base (L2.CX P w) lv f fd ps (spD K mg br S))
    (b : Binds K fd ps []) : FnG P w K mg base lv x br S [] :=
  ⟨f, fd, ps, [], [], O, at_, F.kp, b, .nil, fun W => .nil⟩
/-- all written of a def with defaults -/
theorem FunD.full {x : Str} {st : Stmt} {f : Addr} {fd : FuncData} {dvs : List V} {ps : List Str} (F : FunD K x x (defArgs st) (defBody st) (defScope st) dvs [] f fd) (hd : dvs ≠ []) (hn : ps.length + (dvs.length - dvs.length) = ps.length)
    (hh : ∀ (T : Addr) (kV doc pm : Value) (an : Option Addr) (cdv ct : Value) (us its : List Value), us.length = ps.length → its.length = dvs.length →
      ∃ k, bindArgs (PySem.W.fnOf x x (defArgs st) (defBody st) (defScope st) (.ref T) kV doc pm an cdv ct) ⟨us, []⟩ = seqItems? (.ref T) >>= k ∧ k (some its.toArray) = pure (ps.zip us)) : Binds K fd ps [] := by
  obtain ⟨ds, hv, hb⟩ := F.binds1 (ps := ps) ps.length dvs.length hd hn fun T kV doc pm an cdv ct us its h1 h2 => by
    obtain ⟨k, e1, e2⟩ := hh T kV doc pm an cdv ct us its h1 h2
    refine ⟨k, e1, e2.trans ?_⟩
    rw [← h2, List.drop_length, List.append_nil]
  rw [List.drop_length] at hv
  cases hv
  exact hb
end
section
variable {P : Program} {w : World} {K : PySem.W.Frag} {mg : Str → Option Value} {base : Heap}
theorem Got.fun {x : Str} {st : Stmt} {f : Addr} (g : Got K mg x st [] f) {ps : List Str} (bi : NoDfl x st ps) : ∃ fd, Fun K x x st f fd ∧ PySem.W.keepIn K (.ref f) = true ∧ Binds K fd ps [] := by
  obtain ⟨fd, F⟩ := g.fn
  have b := F.bindsN bi
  have kp := F.kp
  obtain ⟨oc, od, dV, kV, doc, pm, an, cdv, ct, osl, rfl, lk, hcd, hD, _⟩ := F.ex
  rcases hD with ⟨_, rfl⟩ | ⟨e, _⟩
  · exact ⟨_, ⟨⟨oc, od, kV, doc, pm, an, cdv, ct, osl, rfl, lk, hcd⟩, kp⟩, kp, b⟩
  · exact absurd rfl e
theorem law_of {lv : Nat} {st s0 : Stmt} {body : List Stmt} {N : List Str} {x y g : Str} {p1 p2 p3 p4 p5 : Pos} {fT f : Addr} {fdT : FuncData} (G : Got K mg "law" st [] f) (bi : NoDfl "law" st [x]) (hbd : defBody st = s0 :: body)
    (hs0 : s0 = .Assign [.Name y p1] (.Call (.Name g p2) [.Name x p3] [] p4) p5) (sc : FnScope N [x] (defScope st))
    (hx : N[0]? = some x) (hy : N[1]? = some y) (hvx : vis (defScope st) x = true) (hox : okN x = true) (hoy : isOwn (defScope st) y = true) (hgg : isGl (defScope st) g = true) (hog : okN g = true)
    (FT : FnOk P w K mg base (L2.CX P w) lv fT fdT ["_law_script"] (spTown K)) (hmT : mg g = some (.ref fT)) (hkT : PySem.W.keepIn K (.ref fT) = true) (hbT : Binds K fdT ["_law_script"] [])
    (B : List Sx) (hc : chkB N (defScope st) B body = true) (ho : okB ⟨P, w, K, mg, base, lv⟩ B)
    (vc : wBk (fun _ => False) B ⟨fun _ => False, fun dv => dv = .v (.bl true), fun _ => False, fun _ => False⟩ ((List.replicate N.length none).set 1 (some (.v .town)))) :
    ∀ fd, FunD K "law" "law" (defArgs st) (defBody st) (defScope st) [] [] f fd → FnOk P w K mg base (L2.CX P w) (lv + 1) f fd [x] (spLaw K) := by
  intro fd F
  obtain ⟨oc, od, dV, kV, doc, pm, an, cdv, ct, osl, rfl, lk, hcd, hD, _⟩ := F.ex
  rw [hbd] at lk ⊢
  exact lawD hs0 lk hcd sc hx hy hvx hox hoy hgg hog FT hmT hkT hbT B hc ho vc
end
/-- no exception leaves the law -/
theorem cx_none {P : Program} {w : World} {H : Hp} {s : Shared} {e : Value} {s' : Shared} (z : L2.CX P w [] H s (fun _ _ _ => False) e s') : False := by
  obtain ⟨_, _, _, _, _, _, _, _, _, _, _, _, z⟩ := z
  exact z
/-- the law behind the top: its walk is the whole -/
theorem walkW {l : PySem.W.OpenLaw} {n k : Nat} {q : Program} {loose : List Str} {XP : (Str → Option Value) → Heap → Prop} {YP : World → Heap → Prop} {d : DefRec} {x : Str} (hn : l.most = some n) (hn2 : n ≤ sizeLine) (h63 : n ≤ 63) (hdf : d.params.defaults = []) (hr : Room k callerA)
    (F : ∀ (w : World) (mg : Str → Option Value) (fa : Addr) (h : Heap), YP w h → h.Ns mainGlobals mg → mg d.name = some (.ref fa) →
      ∃ K : PySem.W.Frag, K.In h ∧ ∃ fd : FuncData, (∀ (s : Shared) (u : Value), BindsTo s fd ⟨[u], []⟩ [(x, u)]) ∧ ∀ base : Heap, K.In base → base.Ns mainGlobals mg → FnOk l.prog w K mg base (L2.CX l.prog w) k fa fd [x] (spLaw K)) :
    PySem.W.WalkO q loose XP YP l.row.toRowW d [] (fun f vs => PySem.call f vs) := by
  refine Att.attach_call hn hdf ?_
  intro w s0 s1 mg mb fa o pm cd doc a vs ns G Y ho hd hcd hmg hobj hints hlen hg
  obtain ⟨K, KX, fd, hb, hF⟩ := F w mg fa _ Y G.T.g hmg
  refine law_call KX G.T.g G.T.b G.T.builtins G.T.nolimit hg hobj hints (Nat.le_trans hlen hn2) hr hF hb ?_ ?_
  · intro H hO hS
    exact ⟨a, ns, rfl, hS, Nat.le_trans hlen h63, fun _ => rfl⟩
  · intro H e s' z
    exact cx_none z
end TT

set_option Elab.async false
set_option linter.all false
set_option maxRecDepth 100000
set_option autoImplicit false
/-! The classes of refusals, behind the top. -/
namespace TT
open PySem PySem.Spec L2
def excB (K : PySem.W.Frag) (D : Addr) : Bool :=
  decide (PySem.W.findIn K (.ref D) "__getattribute__" = some (some (.builtin "BaseException.__getattribute__"))) && (decide (PySem.W.findIn K (.ref D) "__getattr__" = some none) && (decide (PySem.W.subIn K (.ref D) (.type "BaseException") = some true) &&
  (PySem.W.hasDictIn K D && (decide (PySem.W.findIn K (.ref D) "__class__" = some (some (.builtin "object.__class__"))) && (decide (PySem.W.specialIn K (.builtin "object.__class__") "__get__" = some (some (.builtin "getset_descriptor.__get__"))) &&
  (decide (PySem.W.takesIn K (.builtin "object.__class__") = some true) && decide (PySem.W.mroIn K D (.type "object") = some true)))))))
theorem excB_ok {K : PySem.W.Frag} {D : Addr} (h : excB K D = true) : ExcC K D := by
  simp only [excB, Bool.and_eq_true, decide_eq_true_eq] at h
  obtain ⟨h1, h2, h3, h4, h5, h6, h7, h8⟩ := h
  exact ⟨h1, h2, h3, h4, h5, h6, h7, h8⟩
def errB (K : PySem.W.Frag) : Bool := errNames.all fun c => (excB K (He.ga K c) && errNames.all fun x => decide (PySem.W.kitOne K (.ref (He.ga K c)) (.ref (He.ga K x)) = some (isE c x))) &&
  (decide (PySem.W.kitOne K (.ref (He.ga K c)) (.type "ValueError") = some true) && decide (PySem.W.exmOne K (.ref (He.ga K c)) (.ref (He.ga K "TintError")) = some true))
theorem errs_of {P : Program} {w : World} {K : PySem.W.Frag} {mg : Str → Option Value} {base : Heap} {lv : Nat} (gl : ∀ x ∈ errNames, mg x = some (.ref (He.ga K x))) (nv : mg "ValueError" = none) (ni : mg "isinstance" = none) (e : errB K = true) :
    (∀ x ∈ ("ValueError" : Str) :: errNames, Top.isx ⟨P, w, K, mg, base, lv⟩ x) ∧ Top.try ⟨P, w, K, mg, base, lv⟩ "TintError" := by
  have at_ : ∀ c ∈ errNames, ∀ C, mg c = some (.ref C) → C = He.ga K c := fun c hc C h => by
    have := (gl c hc).symm.trans h
    cases this
    rfl
  unfold errB at e
  rw [List.all_eq_true] at e
  refine ⟨fun x hx => ?_, _, gl _ (by decide), fun c hc C h => ?_⟩
  · rcases List.mem_cons.mp hx with rfl | hx
    · refine ⟨_, .inl ⟨rfl, rfl, nv⟩, ni, fun c hc C h => ?_⟩
      cases at_ c hc C h
      have := e c hc
      simp only [Bool.and_eq_true, decide_eq_true_eq] at this
      refine ⟨excB_ok this.1.1, ?_⟩
      have q : isE c "ValueError" = true := by simp [isE]
      rw [q]
      exact this.2.1
    · refine ⟨_, .inr ⟨_, rfl, gl x hx⟩, ni, fun c hc C h => ?_⟩
      cases at_ c hc C h
      have := e c hc
      simp only [Bool.and_eq_true, decide_eq_true_eq, List.all_eq_true] at this
      exact ⟨excB_ok this.1.1, this.1.2 x hx⟩
  · cases at_ c hc C h
    have := e c hc
    simp only [Bool.and_eq_true, decide_eq_true_eq] at this
    exact this.2.2
end TT

set_option Elab.async false
set_option linter.all false
set_option maxRecDepth 100000
set_option autoImplicit false
/-! Methods, making and keyword calls, behind the top. -/
namespace TT
open PySem PySem.Spec L2
def inCls (st : Stmt) (j : Nat) : Stmt := match st with
  | .ClassDef _ _ _ body _ _ _ _ _ _ _ => body.getD j st
  | _ => st
def mdf (c m q : Str) (st : Stmt) : He.DefD := ⟨(c, some m), m, q, defArgs st, defBody st, defScope st, [], []⟩
/-- a def with keyword-only defaults -/
def kdf (x : Str) (st : Stmt) (kwd : List (Str × He.Dv)) : He.DefD := ⟨(x, none), x, x, defArgs st, defBody st, defScope st, [], kwd⟩
section
variable {P : Program} {w : World} {K : PySem.W.Frag} {mg : Str → Option Value} {base : Heap}
/-- the def by its body, whatever it is called -/
theorem f_ofM {lv : Nat} {x q : Str} {st : Stmt} {N ps : List Str} {br : List Bool} {S : DS} {f : Addr} {fd : FuncData} {dvs : List V} {kws : List (Str × V)} (F : FunD K x q (defArgs st) (defBody st) (defScope st) dvs kws f fd) (sc : FnScope N ps (defScope st)) (hb : br.length = ps.length) (B : List Sx) (hc : chkB N (defScope st) B (defBody st) = true)
    (ho : okB ⟨P, w, K, mg, base, lv⟩ B) (vc : ∀ ds q Ed, ds.length = br.length → S ds q Ed → wBk Ed B ⟨fun _ => q (.v .non), q, fun _ => False, fun _ => False⟩ (start0 N.length br ds)) : FnOk P w K mg base (L2.CX P w) (lv + 1) f fd ps (spD K mg br S) := by
  obtain ⟨oc, od, dV, kV, doc, pm, an, cdv, ct, osl, rfl, lk, hcd, _, _⟩ := F.ex
  exact fnD lk hcd sc hb B hc ho vc
theorem f_ofI {lv : Nat} {cn x q : Str} {st : Stmt} {N ps : List Str} {br : List Bool} {S : DS} {f : Addr} {fd : FuncData} {dvs : List V} {kws : List (Str × V)} {m : Nat} (F : FunD K x q (defArgs st) (defBody st) (defScope st) dvs kws f fd) (sc : FnScope N ps (defScope st)) (hb : br.length + 1 = ps.length) (hm : N.length - 1 = m) (B : List Sx) (hc : chkB N (defScope st) B (defBody st) = true)
    (ho : okB ⟨P, w, K, mg, base, lv⟩ B) (vc : ∀ x ds q Ed, ds.length = br.length → S ds q Ed → wBk Ed B (initK x cn q) (some (.ins x cn []) :: start0 m br ds)) : FnOk P w K mg base (L2.CX P w) (lv + 1) f fd ps (spI K mg cn br S) := by
  obtain ⟨oc, od, dV, kV, doc, pm, an, cdv, ct, osl, rfl, lk, hcd, _, _⟩ := F.ex
  subst hm
  exact fnI lk hcd sc hb B hc ho vc
/-- all of the keyword-only ones are written -/
theorem kb_all {x q : Str} {st : Stmt} {f : Addr} {fd : FuncData} {kws : List (Str × V)} {ps ks : List Str} {n : Nat} (F : FunD K x q (defArgs st) (defBody st) (defScope st) [] kws f fd)
    (h : ∀ (kV doc pm : Value) (an : Option Addr) (cdv ct : Value) (us ws : List Value), us.length = n → ws.length = ks.length → bindArgs (PySem.W.fnOf x q (defArgs st) (defBody st) (defScope st) .none kV doc pm an cdv ct) ⟨us, ks.zip ws⟩ = pure (ps.zip (us ++ ws))) :
    KBn K fd ps n ks (fun us ws => us ++ ws) (fun vs zs => vs ++ (zs ++ [])) := by
  obtain ⟨oc, od, dV, kV, doc, pm, an, cdv, ct, osl, rfl, lk, hcd, hD, hK⟩ := F.ex
  rcases hD with ⟨_, rfl⟩ | ⟨e, _⟩
  · refine ⟨fun s us ws _ l1 l2 => .of_eq (h kV doc pm an cdv ct us ws l1 l2), fun r1 r2 => ?_⟩
    rw [List.append_nil]
    exact r1.append r2
  · exact absurd rfl e
/-- no defaults; x: the def's own name -/
theorem bi_all {x q : Str} {st : Stmt} {f : Addr} {fd : FuncData} {kws : List (Str × V)} {ps : List Str} (F : FunD K x q (defArgs st) (defBody st) (defScope st) [] kws f fd)
    (h : ∀ (kV doc pm : Value) (an : Option Addr) (cdv ct : Value) (us : List Value), us.length = ps.length → bindArgs (PySem.W.fnOf x q (defArgs st) (defBody st) (defScope st) .none kV doc pm an cdv ct) ⟨us, []⟩ = pure (ps.zip us)) : Binds K fd ps [] := by
  obtain ⟨oc, od, dV, kV, doc, pm, an, cdv, ct, osl, rfl, lk, hcd, hD, hK⟩ := F.ex
  rcases hD with ⟨_, rfl⟩ | ⟨e, _⟩
  · exact .all (h kV doc pm an cdv ct)
  · exact absurd rfl e
theorem att_of {cn f : Str} {lv : Nat} {C : Addr} (hC : mg cn = some (.ref C)) (h1 : Cls K C) (h2 : NoAttr K C f) : Top.att ⟨P, w, K, mg, base, lv⟩ cn f := fun C' h => by
  cases hC.symm.trans h
  exact ⟨h1, h2⟩
end
def clsB (K : PySem.W.Frag) (x : Str) : Bool := decide (PySem.W.findIn K (.ref (He.ga K x)) "__class__" = some (some (.builtin "object.__class__"))) && (decide (PySem.W.specialIn K (.builtin "object.__class__") "__get__" = some (some (.builtin "getset_descriptor.__get__"))) &&
  (decide (PySem.W.takesIn K (.builtin "object.__class__") = some true) && (decide (PySem.W.mroIn K (He.ga K x) (.type "object") = some true) && ["NoneType", "bool", "int", "str", "tuple", "list", "dict"].all fun a => decide (PySem.W.kitOne K (.type a) (.ref (He.ga K x)) = some false))))
theorem isc_of {P : Program} {w : World} {K : PySem.W.Frag} {mg : Str → Option Value} {base : Heap} {cn : Str} {lv : Nat} (hC : mg cn = some (.ref (He.ga K cn))) (h1 : Cls K (He.ga K cn)) (hi : mg "isinstance" = none) (e : clsB K cn = true) : Top.isc ⟨P, w, K, mg, base, lv⟩ cn := by
  simp only [clsB, Bool.and_eq_true, decide_eq_true_eq, List.all_eq_true] at e
  obtain ⟨e1, e2, e3, e4, e5⟩ := e
  exact ⟨hi, _, hC, h1, e1, e2, e3, e4, e5⟩
section
variable {P : Program} {w : World} {K : PySem.W.Frag} {mg : Str → Option Value} {base : Heap}
theorem FnK.up {j lv : Nat} {f : Str} {n : Nat} {ks : List Str} {br : List Bool} {S : DS} {dv : List D} (g : FnK P w K mg base j f n ks br S dv) (e : j ≤ lv) : Top.fnK ⟨P, w, K, mg, base, lv⟩ f n ks br S dv := by
  obtain ⟨a, fd, ps, g, dvs, F, r⟩ := g
  exact ⟨a, fd, ps, g, dvs, F.mono e, r⟩
theorem MeG.up {j lv : Nat} {c m : Str} {br : List Bool} {S : DS} {dv : List D} (g : MeG P w K mg base j c m br S dv) (e : j ≤ lv) : Top.me ⟨P, w, K, mg, base, lv⟩ c m br S dv := by
  obtain ⟨C, a, fd, ps, ds, dvs, h1, h2, h3, F, r⟩ := g
  exact ⟨C, a, fd, ps, ds, dvs, h1, h2, h3, F.mono e, r⟩
theorem MkG.up {j lv : Nat} {c : Str} {br : List Bool} {S : DS} {dv : List D} (g : MkG P w K mg base j c br S dv) (e : j + 1 ≤ lv) : Top.made ⟨P, w, K, mg, base, lv⟩ c br S dv := by
  obtain ⟨C, f, fd, ps, ds, dvs, h1, h2, F, r⟩ := g
  exact ⟨lv - 1, by show lv = _; omega, C, f, fd, ps, ds, dvs, h1, h2, F.mono (by omega), r⟩
theorem MkK.up {j lv : Nat} {c : Str} {ks : List Str} {br : List Bool} {S : DS} {dv : List D} (g : MkK P w K mg base j c ks br S dv) (e : j + 1 ≤ lv) : Top.madeK ⟨P, w, K, mg, base, lv⟩ c ks br S dv := by
  obtain ⟨C, f, fd, ps, g, dvs, h1, h2, F, r⟩ := g
  exact ⟨lv - 1, by show lv = _; omega, C, f, fd, ps, g, dvs, h1, h2, F.mono (by omega), r⟩
end
end TT

set_option Elab.async false
set_option linter.all false
set_option maxRecDepth 100000
set_option autoImplicit false
set_option maxHeartbeats 4000000
namespace TT
open PySem PySem.Spec L2
/-! ### shares as data -/
def sh (q : Rat) : D := .tup [.int q.num, .int (q.den : Int)]
def RSz (n : Nat) (q : Rat) : Prop := Sz n q.num ∧ Sz n (q.den : Int)
theorem RSz.mono {a b : Nat} {q : Rat} (h : RSz a q) (k : a ≤ b) : RSz b q := ⟨h.1.mono k, h.2.mono k⟩
theorem bsp {b : Bool} {A B : Prop} (h1 : b = true → A) (h2 : b = false → B) : if b = true then A else B := by
  cases b with
  | true => rw [if_pos rfl]; exact h1 rfl
  | false => rw [if_neg Bool.false_ne_true]; exact h2 rfl
theorem bspd {c A B : Prop} [Decidable c] (h1 : c → A) (h2 : ¬ c → B) : if decide c = true then A else B :=
  bsp (fun h => h1 (of_decide_eq_true h)) (fun h => h2 (of_decide_eq_false h))
theorem bspn {c A B : Prop} [Decidable c] (h1 : c → B) (h2 : ¬ c → A) : if (!decide c) = true then A else B := by
  by_cases h : c
  · rw [decide_eq_true h]; exact h1 h
  · rw [decide_eq_false h]; exact h2 h
theorem den_pos (q : Rat) : (0 : Int) < (q.den : Int) := Int.natCast_pos.mpr q.den_pos
theorem sh_low {t b : Int} (hb : 0 < b) : D.tup [.int (t / (Int.gcd t b : Int)), .int (b / (Int.gcd t b : Int))] = sh (Rat.divInt t b) := by
  unfold sh
  rw [Rat.num_divInt, Rat.den_divInt, if_neg (by omega), Int.sign_eq_one_of_pos hb, Int.one_mul, Int.gcd_comm b t]
  have e : ((b.natAbs / t.gcd b : Nat) : Int) = b / (t.gcd b : Int) := by
    rw [Int.natCast_ediv]
    congr 1
    omega
  rw [e]
theorem gcd_pos_of {t b : Int} (hb : b ≠ 0) : (0 : Int) < (Int.gcd t b : Int) := by
  have := Int.gcd_pos_of_ne_zero_right t hb
  omega
theorem gcd_sz {t b : Int} {k : Nat} (hb : b ≠ 0) (h : Sz k b) : Sz k (Int.gcd t b : Int) := by
  unfold Sz at *
  have h1 : Int.gcd t b ≤ b.natAbs := Nat.le_of_dvd (by omega) (Int.gcd_dvd_natAbs_right t b)
  show (Int.gcd t b : Int).natAbs < 2 ^ k
  rw [Int.natAbs_natCast]
  exact Nat.lt_of_le_of_lt h1 h
theorem gcd_step {x y : Int} (hx : 0 ≤ x) (hy : 0 < y) : Int.gcd y (x % y) = Int.gcd x y := by
  obtain ⟨a, rfl⟩ := Int.eq_ofNat_of_zero_le hx
  obtain ⟨b, rfl⟩ := Int.eq_ofNat_of_zero_le (Int.le_of_lt hy)
  show Nat.gcd (b : Int).natAbs (((a : Int) % (b : Int))).natAbs = Nat.gcd (a : Int).natAbs (b : Int).natAbs
  rw [← Int.natCast_emod, Int.natAbs_natCast, Int.natAbs_natCast, Int.natAbs_natCast, Nat.gcd_comm a b, Nat.gcd_rec b a, Nat.gcd_comm]
/-- what comes by a basic type -/
def basic (d : D) : Bool := (tyD d).isSome
def isInt : D → Bool
  | .int _ => true
  | _ => false
def isSh : D → Bool
  | .tup [.int t, .int b] => decide (0 < b) && decide (Int.gcd t b = 1)
  | _ => false
theorem isSh_sh (q : Rat) : isSh (sh q) = true := by
  unfold sh isSh
  have h1 := q.den_pos
  have h2 := q.reduced
  rw [Bool.and_eq_true, decide_eq_true_eq, decide_eq_true_eq]
  refine ⟨Int.natCast_pos.mpr h1, ?_⟩
  show Nat.gcd q.num.natAbs ((q.den : Int)).natAbs = 1
  rw [Int.natAbs_natCast]
  exact h2
theorem isSh_inv {d : D} (h : isSh d = true) : ∃ q, d = sh q := by
  unfold isSh at h
  split at h
  · rename_i t b
    rw [Bool.and_eq_true, decide_eq_true_eq, decide_eq_true_eq] at h
    refine ⟨Rat.divInt t b, ?_⟩
    rw [← sh_low h.1, h.2]
    simp
  · cases h

/-! ### the program's words about shares -/
@[irreducible] def S_is_int : DS := fun ds q _ => ∃ d, ds = [d] ∧ basic d = true ∧ q (.v (.bl (isInt d)))
@[irreducible] def S_common_measure : DS := fun ds q _ => ∃ a b : Int, ds = [.int a, .int b] ∧ q (.v (.int (Int.gcd a b)))
@[irreducible] def S_lowest : DS := fun ds q _ => ∃ t b : Int, ds = [.int t, .int b] ∧ b ≠ 0 ∧ Sz 9000 b ∧ q (.v (sh (Rat.divInt t b)))
@[irreducible] def S_share : DS := fun ds q Ed => ∃ a b, ds = [a, b] ∧ basic a = true ∧ basic b = true ∧ match a, b with
  | .int t, .int u => if u = 0 then Ed "BadNumber" else Sz 9000 u ∧ q (.v (sh (Rat.divInt t u)))
  | _, _ => Ed "BadNumber"
/-- a thing of which it may be asked whether it is a share -/
def okSh : D → Prop
  | .tup xs => xs.length = 2 → (∀ x ∈ xs, basic x = true) ∧ ∀ t b, xs = [.int t, .int b] → Sz 9000 b
  | d => basic d = true
@[irreducible] def S_is_share : DS := fun ds q _ => ∃ d, ds = [d] ∧ okSh d ∧ q (.v (.bl (isSh d)))
@[irreducible] def S_look_shares : DS := fun ds q Ed => ∃ xs, ds = [.lst xs] ∧ xs.length ≤ 1000 ∧ (∀ x ∈ xs, okSh x) ∧ if xs.all isSh = true then q (.v .non) else Ed "BadShare"
@[irreducible] def S_plus : DS := fun ds q _ => ∃ (x y : Rat) (a b : Nat), ds = [sh x, sh y] ∧ RSz a x ∧ RSz b y ∧ a + b ≤ 9000 ∧ q (.v (sh (x + y)))
@[irreducible] def S_times : DS := fun ds q _ => ∃ (x y : Rat) (a b : Nat), ds = [sh x, sh y] ∧ RSz a x ∧ RSz b y ∧ a + b ≤ 9000 ∧ q (.v (sh (x * y)))

section
variable {q : DV → Prop} {Ed : Str → Prop}
theorem is_int_i {d : D} (h : basic d = true) (hq : q (.v (.bl (isInt d)))) : S_is_int [d] q Ed := by unfold S_is_int; exact ⟨d, rfl, h, hq⟩
theorem measure_i {a b : Int} (hq : q (.v (.int (Int.gcd a b)))) : S_common_measure [.int a, .int b] q Ed := by unfold S_common_measure; exact ⟨a, b, rfl, hq⟩
theorem lowest_i {t b : Int} (hb : b ≠ 0) (hs : Sz 9000 b) (hq : q (.v (sh (Rat.divInt t b)))) : S_lowest [.int t, .int b] q Ed := by unfold S_lowest; exact ⟨t, b, rfl, hb, hs, hq⟩
theorem is_share_i {d : D} (h : okSh d) (hq : q (.v (.bl (isSh d)))) : S_is_share [d] q Ed := by unfold S_is_share; exact ⟨d, rfl, h, hq⟩
theorem look_i {xs : List D} (hl : xs.length ≤ 1000) (h : ∀ x ∈ xs, okSh x) (hq : if xs.all isSh = true then q (.v .non) else Ed "BadShare") : S_look_shares [.lst xs] q Ed := by unfold S_look_shares; exact ⟨xs, rfl, hl, h, hq⟩
theorem plus_i {x y : Rat} {a b : Nat} (hx : RSz a x) (hy : RSz b y) (hab : a + b ≤ 9000) (hq : q (.v (sh (x + y)))) : S_plus [sh x, sh y] q Ed := by unfold S_plus; exact ⟨x, y, a, b, rfl, hx, hy, hab, hq⟩
theorem times_i {x y : Rat} {a b : Nat} (hx : RSz a x) (hy : RSz b y) (hab : a + b ≤ 9000) (hq : q (.v (sh (x * y)))) : S_times [sh x, sh y] q Ed := by unfold S_times; exact ⟨x, y, a, b, rfl, hx, hy, hab, hq⟩
theorem draw_i {m : Int} (h0 : 0 < m) (hs : m < 1000000000) (hq : ∀ d, 0 ≤ d → d < m → q (.v (.int d))) : S_draw [.town, .int m] q Ed := by
  unfold S_draw
  refine ⟨m, rfl, h0, ?_, hq⟩
  have : Sz 30 m := by unfold Sz; omega
  exact this.mono (by decide)
end
def B_is_int : List Sx := [
  .ret (.ands [.isi (.var 0) .int, .not (.isi (.var 0) .bool)])]
def B_common_measure : List Sx := [
  .par 0 1 (.blt .abs [.var 0]) (.blt .abs [.var 1]),
  .loop (.cmp .gt (.var 1) (.int 0)) [.par 0 1 (.var 1) (.bin .mod (.var 0) (.var 1))],
  .ret (.var 0)]
def B_share : List Sx := [
  .ifs (.ors [.not (.call "is_int" [false] S_is_int [] [.var 0]), .not (.call "is_int" [false] S_is_int [] [.var 1]), .cmp .eq (.var 1) (.int 0)]) [.raise "BadNumber"] [],
  .ret (.call "lowest" [false, false] S_lowest [] [.var 0, .var 1])]
def B_lowest : List Sx := [
  .ifs (.cmp .lt (.var 1) (.int 0)) [.par 0 1 (.neg (.var 0)) (.neg (.var 1))] [],
  .setv 2 (.call "common_measure" [false, false] S_common_measure [] [.var 0, .var 1]),
  .ret (.tup [.bin .fdiv (.var 0) (.var 2), .bin .fdiv (.var 1) (.var 2)])]
def B_is_share : List Sx := [
  .ifs (.ors [.not (.isi (.var 0) .tuple), .cmp .ne (.blt .len [.var 0]) (.int 2), .not (.blt .all [.comp [("one", 1)] (.nm 1) (.seq (.var 0)) none (.call "is_int" [false] S_is_int [] [.var 1])])]) [.ret (.bl false)] [],
  .ret (.ands [.cmp .gt (.ix (.var 0) (.int 1)) (.int 0), .cmp .eq (.call "lowest" [false, false] S_lowest [] [.ix (.var 0) (.int 0), .ix (.var 0) (.int 1)]) (.var 0)])]
def B_look_shares : List Sx := [
  .ifs (.not (.blt .all [.comp [("one", 1)] (.nm 1) (.seq (.var 0)) none (.call "is_share" [false] S_is_share [] [.var 1])])) [.raise "BadShare"] []]
def B_plus : List Sx := [
  .ret (.call "lowest" [false, false] S_lowest [] [.bin .add (.bin .mul (.ix (.var 0) (.int 0)) (.ix (.var 1) (.int 1))) (.bin .mul (.ix (.var 1) (.int 0)) (.ix (.var 0) (.int 1))), .bin .mul (.ix (.var 0) (.int 1)) (.ix (.var 1) (.int 1))])]
def B_times : List Sx := [
  .ret (.call "lowest" [false, false] S_lowest [] [.bin .mul (.ix (.var 0) (.int 0)) (.ix (.var 1) (.int 0)), .bin .mul (.ix (.var 0) (.int 1)) (.ix (.var 1) (.int 1))])]

/-- a body keeps its word -/
def VC (k : Nat) (br : List Bool) (S : DS) (B : List Sx) : Prop := ∀ ds q Ed, ds.length = br.length → S ds q Ed → wBk Ed B ⟨fun _ => q (.v .non), q, fun _ => False, fun _ => False⟩ (start0 k br ds)
theorem vc_is_int : VC 1 [false] S_is_int B_is_int := by
  intro ds q Ed hl h
  unfold S_is_int at h
  obtain ⟨d, rfl, hb, h⟩ := h
  cases d <;> first | exact h | (simp [basic, tyD] at hb)
theorem vc_common_measure : VC 2 [false, false] S_common_measure B_common_measure := by
  intro ds q Ed hl h
  unfold S_common_measure at h
  obtain ⟨a, b, rfl, h⟩ := h
  refine ⟨fun m δ => ∃ x y : Int, δ = [some (.v (.int x)), some (.v (.int y))] ∧ 0 ≤ x ∧ 0 ≤ y ∧ Int.gcd x y = Int.gcd a b ∧ m = y.toNat, ⟨_, _, _, rfl, ?_, ?_, ?_, rfl⟩, ?_⟩
  · split <;> omega
  · split <;> omega
  · have e : ∀ x : Int, (if x < 0 then -x else x) = x.natAbs := fun x => by split <;> omega
    rw [e, e]
    simp [Int.gcd]
  · rintro m δ ⟨x, y, rfl, hx, hy, hg, rfl⟩
    refine bspd (fun h0 => ?_) (fun h0 => ?_)
    · refine ⟨h0, (x % y).toNat, ?_, y, x % y, rfl, hy, Int.emod_nonneg _ (by omega), ?_, rfl⟩
      · have h1 := Int.emod_lt_of_pos x h0
        have h2 := Int.emod_nonneg x (show y ≠ 0 by omega)
        omega
      · rw [← hg]
        exact gcd_step hx h0
    · have e : y = 0 := by omega
      subst e
      have : x = (Int.gcd a b : Int) := by
        rw [← hg, Int.gcd_zero_right]
        omega
      show q (.v (.int x))
      rw [this]
      exact h
theorem vc_lowest : VC 3 [false, false] S_lowest B_lowest := by
  intro ds q Ed hl h
  unfold S_lowest at h
  obtain ⟨t, b, rfl, hb, hs, h⟩ := h
  refine bspd (fun h0 => ?_) (fun h0 => ?_)
  · refine measure_i ⟨⟨gcd_pos_of (by omega), gcd_sz (by omega) hs.neg⟩, ⟨gcd_pos_of (by omega), gcd_sz (by omega) hs.neg⟩, ?_⟩
    show q (.v (.tup [.int (-t / (Int.gcd (-t) (-b) : Int)), .int (-b / (Int.gcd (-t) (-b) : Int))]))
    rw [sh_low (by omega), Rat.neg_divInt_neg]
    exact h
  · refine measure_i ⟨⟨gcd_pos_of hb, gcd_sz hb hs⟩, ⟨gcd_pos_of hb, gcd_sz hb hs⟩, ?_⟩
    show q (.v (.tup [.int (t / (Int.gcd t b : Int)), .int (b / (Int.gcd t b : Int))]))
    rw [sh_low (by omega)]
    exact h
theorem vc_share : VC 2 [false, false] S_share B_share := by
  intro ds q Ed hl h
  unfold S_share at h
  obtain ⟨a, b, rfl, ha, hb, h⟩ := h
  refine is_int_i ha (bsp (fun h1 => ?_) (fun h1 => is_int_i hb (bsp (fun h2 => ?_) (fun h2 => ?_))))
  · cases a <;> first | exact h | (simp [isInt] at h1)
  · cases a <;> cases b <;> first | exact h | (simp [isInt] at h1 h2)
  · cases a <;> simp [isInt] at h1
    cases b <;> simp [isInt] at h2
    rename_i t u
    refine ⟨rfl, rfl, bsp (fun h3 => ?_) (fun h3 => ?_)⟩
    · have : u = 0 := by simpa [eqD, py, PyData.eqv] using h3
      dsimp only at h
      rw [if_pos this] at h
      exact h
    · have : u ≠ 0 := by simpa [eqD, py, PyData.eqv] using h3
      dsimp only at h
      rw [if_neg this] at h
      exact lowest_i this h.1 h.2
theorem vc_plus : VC 2 [false, false] S_plus B_plus := by
  intro ds q Ed hl h
  unfold S_plus at h
  obtain ⟨x, y, a, b, rfl, hx, hy, hab, h⟩ := h
  have hd : (x.den : Int) * (y.den : Int) ≠ 0 := Int.ne_of_gt (Int.mul_pos (den_pos x) (den_pos y))
  refine ⟨⟨a, b, hx.1, hy.2, by omega⟩, ⟨b, a, hy.1, hx.2, by omega⟩, ⟨a, b, hx.2, hy.2, by omega⟩, lowest_i hd ((hx.2.mul hy.2).mono hab) ?_⟩
  show q (.v (sh _))
  have e : x + y = Rat.divInt (x.num * y.den + y.num * x.den) (x.den * y.den) := by
    rw [Rat.add_def', ← Rat.divInt_ofNat]
    norm_cast
  rw [← e]
  exact h
theorem vc_times : VC 2 [false, false] S_times B_times := by
  intro ds q Ed hl h
  unfold S_times at h
  obtain ⟨x, y, a, b, rfl, hx, hy, hab, h⟩ := h
  have hd : (x.den : Int) * (y.den : Int) ≠ 0 := Int.ne_of_gt (Int.mul_pos (den_pos x) (den_pos y))
  refine ⟨⟨a, b, hx.1, hy.1, by omega⟩, ⟨a, b, hx.2, hy.2, by omega⟩, lowest_i hd ((hx.2.mul hy.2).mono hab) ?_⟩
  show q (.v (sh _))
  have e : x * y = Rat.divInt (x.num * y.num) (x.den * y.den) := by
    rw [Rat.mul_def', ← Rat.divInt_ofNat]
    norm_cast
  rw [← e]
  exact h
/-- a comprehension without a test whose element is g of the item -/
theorem comp_map {i : Nat} {we : Sl → (D → Prop) → Prop} {δ : Sl} (g : D → D) : ∀ {ds acc : List D} {q : List D → Prop}, (∀ d ∈ ds, ∀ k : D → Prop, k (g d) → we (δ.set i (some (.v d))) k) → acc.length + ds.length ≤ 1000000 → q (acc ++ ds.map g) → compD (.nm i) (fun _ q => q true) we δ q ds acc
  | [], acc, q, _, _, h => by simpa [compD] using h
  | d :: ds, acc, q, hg, hl, h => by
    show (if true = true then we (δ.set i (some (.v d))) (fun y => acc.length ≤ 1000000 ∧ compD (.nm i) (fun _ q => q true) we δ q ds (acc ++ [y])) else compD (.nm i) (fun _ q => q true) we δ q ds acc)
    rw [if_pos rfl]
    simp only [List.length_cons] at hl
    refine hg d List.mem_cons_self _ ⟨by omega, comp_map g (fun d' h' => hg d' (List.mem_cons_of_mem _ h')) ?_ ?_⟩
    · simp only [List.length_append, List.length_cons, List.length_nil]; omega
    · simpa using h
theorem eqD_int {a b : Int} : eqD (.int a) (.int b) = decide (a = b) := by
  simp [eqD, py, PyData.eqv, Bool.beq_eq_decide_eq]
theorem eqD_tup {a b : List D} : eqD (.tup a) (.tup b) = eqL a b := by simp [eqD, eqL, py, PyData.eqv]
theorem eqD_lst {a b : List D} : eqD (.lst a) (.lst b) = eqL a b := by simp [eqD, eqL, py, PyData.eqv]
theorem eqL_cons {a b : D} {as bs : List D} : eqL (a :: as) (b :: bs) = (eqD a b && eqL as bs) := by simp [eqD, eqL, pyL, PyData.eqvAll]
theorem eqL_nil : eqL [] [] = true := by simp [eqL, pyL, PyData.eqvAll]
theorem eqL_nc {a : D} {as : List D} : eqL [] (a :: as) = false := by simp [eqL, pyL, PyData.eqvAll]
theorem eqL_cn {a : D} {as : List D} : eqL (a :: as) [] = false := by simp [eqL, pyL, PyData.eqvAll]
theorem sh_inj {p q : Rat} (h : sh p = sh q) : p = q := by
  unfold sh at h
  injection h with h
  injection h with h1 h2
  injection h2 with h2 _
  injection h1 with h1
  injection h2 with h2
  exact Rat.ext h1 (by exact_mod_cast h2)
theorem eqD_sh {p q : Rat} : eqD (sh p) (sh q) = decide (p = q) := by
  unfold sh
  rw [eqD_tup, eqL_cons, eqL_cons, eqL_nil, eqD_int, eqD_int, Bool.and_true, Bool.eq_iff_iff, Bool.and_eq_true, decide_eq_true_eq, decide_eq_true_eq, decide_eq_true_eq]
  constructor
  · rintro ⟨h1, h2⟩
    exact Rat.ext h1 (by exact_mod_cast h2)
  · rintro rfl
    exact ⟨rfl, rfl⟩
theorem low_eq {t b : Int} (hb : 0 < b) : eqD (sh (Rat.divInt t b)) (.tup [.int t, .int b]) = decide (Int.gcd t b = 1) := by
  rw [← sh_low hb, eqD_tup, eqL_cons, eqL_cons, eqL_nil, eqD_int, eqD_int, Bool.and_true, Bool.eq_iff_iff, Bool.and_eq_true, decide_eq_true_eq, decide_eq_true_eq, decide_eq_true_eq]
  constructor
  · rintro ⟨h1, h2⟩
    have hg := gcd_pos_of (t := t) (b := b) (by omega)
    have hd : b / (Int.gcd t b : Int) * (Int.gcd t b : Int) = b := Int.ediv_mul_cancel (Int.gcd_dvd_right t b)
    rw [h2] at hd
    have : b * (Int.gcd t b : Int) = b * 1 := by omega
    have := Int.eq_of_mul_eq_mul_left (by omega : b ≠ 0) this
    exact_mod_cast this
  · intro h
    rw [h]
    simp
theorem vc_is_share : VC 2 [false] S_is_share B_is_share := by
  intro ds q Ed hl h
  unfold S_is_share at h
  obtain ⟨d, rfl, ho, h⟩ := h
  cases d <;> try first | exact h | (simp [okSh, basic, tyD] at ho; done)
  rename_i xs
  by_cases hx : xs.length = 2
  · obtain ⟨x, y, rfl⟩ : ∃ x y, xs = [x, y] := by
      match xs, hx with
      | [x, y], _ => exact ⟨x, y, rfl⟩
    obtain ⟨hb, hs⟩ := ho rfl
    have hb1 := hb x (by simp)
    have hb2 := hb y (by simp)
    refine ⟨rfl, rfl, is_int_i hb1 ⟨Nat.zero_le _, is_int_i hb2 ⟨(by show 1 ≤ 1000000; decide), [isInt x, isInt y], rfl, bsp (fun h1 => ?_) (fun h1 => ?_)⟩⟩⟩
    · have e : isSh (.tup [x, y]) = false := by
        cases x <;> cases y <;> first | rfl | (simp [isInt] at h1)
      rw [e] at h
      exact h
    · cases x <;> simp [isInt] at h1
      cases y <;> simp at h1
      rename_i t b
      refine bsp (fun h2 => ?_) (fun h2 => ?_)
      · have h2 : 0 < b := of_decide_eq_true h2
        refine lowest_i (by omega) (hs t b rfl) ⟨rfl, rfl, ?_⟩
        show q (.v (.bl (eqD (sh (Rat.divInt t b)) (.tup [.int t, .int b]))))
        rw [low_eq h2]
        have e : isSh (.tup [.int t, .int b]) = decide (Int.gcd t b = 1) := by simp [isSh, h2]
        rw [e] at h
        exact h
      · have h2 : ¬ 0 < b := of_decide_eq_false h2
        have e : isSh (.tup [.int t, .int b]) = false := by simp [isSh, h2]
        rw [e] at h
        exact h
  · have e : isSh (.tup xs) = false := by
      unfold isSh
      split
      · rename_i z; cases z; exact absurd rfl hx
      · rfl
    rw [e] at h
    refine ⟨rfl, rfl, bsp (fun h1 => h) (fun h1 => ?_)⟩
    exfalso
    have : eqD (.int xs.length) (.int 2) = true := by simpa using h1
    rw [eqD_int, decide_eq_true_eq] at this
    omega
theorem vc_look_shares : VC 2 [false] S_look_shares B_look_shares := by
  intro ds q Ed hl h
  unfold S_look_shares at h
  obtain ⟨xs, rfl, hlen, ho, h⟩ := h
  refine comp_map (fun d => .bl (isSh d)) (fun d hd k hk => is_share_i (ho d hd) hk) (by simp; omega) ⟨xs.map isSh, ?_, ?_⟩
  · simp
  · have e : (xs.map isSh).all id = xs.all isSh := by simp [List.all_map, Function.comp_def]
    rw [e]
    cases ha : xs.all isSh with
    | true =>
      rw [ha] at h
      exact h
    | false =>
      rw [ha] at h
      exact h
end TT

set_option Elab.async false
set_option linter.all false
set_option maxRecDepth 100000
set_option autoImplicit false
set_option maxHeartbeats 4000000
namespace TT
open PySem PySem.Spec L2
/-! ### the looked-at words; the law's own words about shares -/
@[irreducible] def S_added : DS := fun ds q Ed => ∃ x y, ds = [x, y] ∧ okSh x ∧ okSh y ∧ ((isSh x && isSh y) = false → Ed "BadShare") ∧ ∀ u v, x = sh u → y = sh v → ∃ a b, RSz a u ∧ RSz b v ∧ a + b ≤ 9000 ∧ q (.v (sh (u + v)))
@[irreducible] def S_multiplied : DS := fun ds q Ed => ∃ x y, ds = [x, y] ∧ okSh x ∧ okSh y ∧ ((isSh x && isSh y) = false → Ed "BadShare") ∧ ∀ u v, x = sh u → y = sh v → ∃ a b, RSz a u ∧ RSz b v ∧ a + b ≤ 9000 ∧ q (.v (sh (u * v)))
@[irreducible] def S_floor_of : DS := fun ds q Ed => ∃ x, ds = [x] ∧ okSh x ∧ (isSh x = false → Ed "BadShare") ∧ ∀ u, x = sh u → RSz 8000 u ∧ q (.v (.int u.floor))
@[irreducible] def S_nearest_whole : DS := fun ds q Ed => ∃ x, ds = [x] ∧ okSh x ∧ (isSh x = false → Ed "BadShare") ∧ ∀ u, x = sh u → RSz 8000 u ∧ q (.v (.int ((2 * u.num + u.den) / (2 * u.den))))
@[irreducible] def S_law_pick : DS := fun ds q _ => ∃ xs, ds = [.town, .lst xs] ∧ 0 < xs.length ∧ xs.length ≤ 1000 ∧ ∀ x ∈ xs, q (.v x)
@[irreducible] def S_law_any_share : DS := fun ds q _ => ds = [.town] ∧ ∀ u : Rat, RSz 12 u → q (.v (sh u))
def B_added : List Sx := [
  .expr (.call "look_shares" [false] S_look_shares [] [.lst [.var 0, .var 1]]),
  .ret (.call "plus" [false, false] S_plus [] [.var 0, .var 1])]
def B_multiplied : List Sx := [
  .expr (.call "look_shares" [false] S_look_shares [] [.lst [.var 0, .var 1]]),
  .ret (.call "times" [false, false] S_times [] [.var 0, .var 1])]
def B_floor_of : List Sx := [
  .expr (.call "look_shares" [false] S_look_shares [] [.lst [.var 0]]),
  .ret (.bin .fdiv (.ix (.var 0) (.int 0)) (.ix (.var 0) (.int 1)))]
def B_nearest_whole : List Sx := [
  .expr (.call "look_shares" [false] S_look_shares [] [.lst [.var 0]]),
  .ret (.bin .fdiv (.bin .add (.bin .mul (.int 2) (.ix (.var 0) (.int 0))) (.ix (.var 0) (.int 1))) (.bin .mul (.int 2) (.ix (.var 0) (.int 1))))]
def B_law_pick : List Sx := [
  .ret (.ix (.var 1) (.call "_law_draw" [false, false] S_draw [] [.var 0, .blt .len [.var 1]]))]
def B_law_whole : List Sx := [
  .ret (.ands [.isi (.var 0) .int, .not (.isi (.var 0) .bool)])]
def B_law_low : List Sx := [
  .ifs (.cmp .lt (.var 1) (.int 0)) [.par 0 1 (.bin .sub (.int 0) (.var 0)) (.bin .sub (.int 0) (.var 1))] [],
  .par 2 3 (.blt .max2 [.var 0, .bin .sub (.int 0) (.var 0)]) (.var 1),
  .loop (.cmp .gt (.var 3) (.int 0)) [.par 2 3 (.var 3) (.bin .mod (.var 2) (.var 3))],
  .ret (.tup [.bin .fdiv (.var 0) (.var 2), .bin .fdiv (.var 1) (.var 2)])]
def B_law_times : List Sx := [
  .ret (.call "_law_low" [false, false] S_lowest [] [.bin .mul (.ix (.var 0) (.int 0)) (.ix (.var 1) (.int 0)), .bin .mul (.ix (.var 0) (.int 1)) (.ix (.var 1) (.int 1))])]
def B_law_any_share : List Sx := [
  .setv 1 (.call "_law_low" [false, false] S_lowest [] [.call "_law_draw" [false, false] S_draw [] [.var 0, .int 2001], .bin .add (.int 1) (.call "_law_draw" [false, false] S_draw [] [.var 0, .int 30])]),
  .ret (.ite (.cmp .eq (.call "_law_draw" [false, false] S_draw [] [.var 0, .int 2]) (.int 0)) (.var 1) (.tup [.bin .sub (.int 0) (.ix (.var 1) (.int 0)), .ix (.var 1) (.int 1)]))]
def B_law_is_share : List Sx := [
  .ifs (.ors [.not (.isi (.var 0) .tuple), .cmp .ne (.blt .len [.var 0]) (.int 2), .not (.call "_law_whole" [false] S_is_int [] [.ix (.var 0) (.int 0)]), .not (.call "_law_whole" [false] S_is_int [] [.ix (.var 0) (.int 1)])]) [.ret (.bl false)] [],
  .ret (.ands [.cmp .gt (.ix (.var 0) (.int 1)) (.int 0), .cmp .eq (.call "_law_low" [false, false] S_lowest [] [.ix (.var 0) (.int 0), .ix (.var 0) (.int 1)]) (.var 0)])]

theorem sz_of {k : Nat} {i : Int} {m : Nat} (h : i.natAbs < m) (hm : m ≤ 2 ^ k) : Sz k i := Nat.lt_of_lt_of_le h hm
theorem sz12 {k : Nat} {i : Int} (h : i.natAbs < 4096) (hk : 12 ≤ k) : Sz k i := (sz_of (k := 12) h (by decide)).mono hk
theorem vc_added : VC 2 [false, false] S_added B_added := by
  intro ds q Ed hl h
  unfold S_added at h
  obtain ⟨x, y, rfl, hx, hy, hE, h⟩ := h
  refine look_i (by simp) (by simp [hx, hy]) ?_
  have e : [x, y].all isSh = (isSh x && isSh y) := by simp
  rw [e]
  refine bsp (fun h1 => ?_) (fun h1 => hE h1)
  rw [Bool.and_eq_true] at h1
  obtain ⟨u, rfl⟩ := isSh_inv h1.1
  obtain ⟨v, rfl⟩ := isSh_inv h1.2
  obtain ⟨a, b, ha, hb, hab, hq⟩ := h u v rfl rfl
  exact plus_i ha hb hab hq
theorem vc_multiplied : VC 2 [false, false] S_multiplied B_multiplied := by
  intro ds q Ed hl h
  unfold S_multiplied at h
  obtain ⟨x, y, rfl, hx, hy, hE, h⟩ := h
  refine look_i (by simp) (by simp [hx, hy]) ?_
  have e : [x, y].all isSh = (isSh x && isSh y) := by simp
  rw [e]
  refine bsp (fun h1 => ?_) (fun h1 => hE h1)
  rw [Bool.and_eq_true] at h1
  obtain ⟨u, rfl⟩ := isSh_inv h1.1
  obtain ⟨v, rfl⟩ := isSh_inv h1.2
  obtain ⟨a, b, ha, hb, hab, hq⟩ := h u v rfl rfl
  exact times_i ha hb hab hq
theorem vc_floor_of : VC 1 [false] S_floor_of B_floor_of := by
  intro ds q Ed hl h
  unfold S_floor_of at h
  obtain ⟨x, rfl, hx, hE, h⟩ := h
  refine look_i (by simp) (by simp [hx]) ?_
  have e : [x].all isSh = isSh x := by simp
  rw [e]
  refine bsp (fun h1 => ?_) (fun h1 => hE h1)
  obtain ⟨u, rfl⟩ := isSh_inv h1
  obtain ⟨hz, hq⟩ := h u rfl
  refine ⟨⟨den_pos u, hz.2.mono (by decide)⟩, ?_⟩
  rw [Rat.floor_def] at hq
  exact hq
theorem vc_nearest_whole : VC 1 [false] S_nearest_whole B_nearest_whole := by
  intro ds q Ed hl h
  unfold S_nearest_whole at h
  obtain ⟨x, rfl, hx, hE, h⟩ := h
  refine look_i (by simp) (by simp [hx]) ?_
  have e : [x].all isSh = isSh x := by simp
  rw [e]
  refine bsp (fun h1 => ?_) (fun h1 => hE h1)
  obtain ⟨u, rfl⟩ := isSh_inv h1
  obtain ⟨hz, hq⟩ := h u rfl
  have h2 : Sz 2 (2 : Int) := by unfold Sz; decide
  have hd := den_pos u
  refine ⟨⟨2, 8000, h2, hz.1, by decide⟩, ⟨2, 8000, h2, hz.2, by decide⟩, ⟨?_, (h2.mul hz.2).mono (by decide)⟩, hq⟩
  omega
theorem vc_law_pick : VC 2 [false, false] S_law_pick B_law_pick := by
  intro ds q Ed hl h
  unfold S_law_pick at h
  obtain ⟨xs, rfl, h0, h1, h⟩ := h
  refine draw_i (by omega) (by omega) fun d hd0 hd1 => ?_
  · obtain ⟨k, rfl⟩ := Int.eq_ofNat_of_zero_le hd0
    have hk : k < xs.length := by omega
    have e : atI xs (k : Int) = some xs[k] := atI_nat (List.getElem?_eq_getElem hk)
    show opIx (.lst xs) (.int k) _
    dsimp only [opIx]
    rw [e]
    exact h _ (List.getElem_mem hk)
theorem vc_law_whole : VC 1 [false] S_is_int B_law_whole := vc_is_int
theorem vc_law_low : VC 4 [false, false] S_lowest B_law_low := by
  intro ds q Ed hl h
  unfold S_lowest at h
  obtain ⟨t, b, rfl, hb, hs, h⟩ := h
  -- the loop, from a positive number on
  have run : ∀ t b : Int, 0 < b → Sz 9000 b → q (.v (sh (Rat.divInt t b))) → wBk Ed (B_law_low.drop 1) ⟨fun _ => q (.v .non), q, fun _ => False, fun _ => False⟩ [some (.v (.int t)), some (.v (.int b)), none, none] := by
    intro t b hb hs h
    refine ⟨fun m δ => ∃ x y : Int, δ = [some (.v (.int t)), some (.v (.int b)), some (.v (.int x)), some (.v (.int y))] ∧ 0 ≤ x ∧ 0 ≤ y ∧ Int.gcd x y = Int.gcd t b ∧ m = y.toNat, ⟨_, _, _, rfl, ?_, by omega, ?_, rfl⟩, ?_⟩
    · split <;> omega
    · have e : (if 0 - t > t then 0 - t else t) = t.natAbs := by split <;> omega
      rw [e]
      simp [Int.gcd]
    · rintro m δ ⟨x, y, rfl, hx, hy, hg, rfl⟩
      refine bspd (fun h0 => ?_) (fun h0 => ?_)
      · refine ⟨h0, (x % y).toNat, ?_, y, x % y, rfl, hy, Int.emod_nonneg _ (by omega), ?_, rfl⟩
        · have h1 := Int.emod_lt_of_pos x h0
          have h2 := Int.emod_nonneg x (show y ≠ 0 by omega)
          omega
        · rw [← hg]
          exact gcd_step hx h0
      · have e : y = 0 := by omega
        subst e
        have : x = (Int.gcd t b : Int) := by
          rw [← hg, Int.gcd_zero_right]
          omega
        subst this
        refine ⟨⟨gcd_pos_of (by omega), gcd_sz (by omega) hs⟩, ⟨gcd_pos_of (by omega), gcd_sz (by omega) hs⟩, ?_⟩
        show q (.v (.tup [.int (t / (Int.gcd t b : Int)), .int (b / (Int.gcd t b : Int))]))
        rw [sh_low hb]
        exact h
  refine bspd (fun h0 => ?_) (fun h0 => ?_)
  · refine run (0 - t) (0 - b) (by omega) (by rw [Int.zero_sub]; exact hs.neg) ?_
    rw [Int.zero_sub, Int.zero_sub, Rat.neg_divInt_neg]
    exact h
  · exact run t b (by omega) hs h
theorem vc_law_times : VC 2 [false, false] S_times B_law_times := by
  intro ds q Ed hl h
  unfold S_times at h
  obtain ⟨x, y, a, b, rfl, hx, hy, hab, h⟩ := h
  have hd : (x.den : Int) * (y.den : Int) ≠ 0 := Int.ne_of_gt (Int.mul_pos (den_pos x) (den_pos y))
  refine ⟨⟨a, b, hx.1, hy.1, by omega⟩, ⟨a, b, hx.2, hy.2, by omega⟩, lowest_i hd ((hx.2.mul hy.2).mono hab) ?_⟩
  show q (.v (sh _))
  have e : x * y = Rat.divInt (x.num * y.num) (x.den * y.den) := by
    rw [Rat.mul_def', ← Rat.divInt_ofNat]
    norm_cast
  rw [← e]
  exact h
/-- a ratio is no greater than what it is made of -/
theorem rsz_div {k : Nat} {t b : Int} (hb : 0 < b) (ht : Sz k t) (hs : Sz k b) : RSz k (Rat.divInt t b) := by
  have hg := gcd_pos_of (t := t) (b := b) (by omega)
  have le : ∀ x : Int, Sz k x → Sz k (x / (Int.gcd t b : Int)) := fun x hx => by
    unfold Sz at *
    refine Nat.lt_of_le_of_lt ?_ hx
    exact Int.natAbs_ediv_le_natAbs x _
  have e := sh_low (t := t) hb
  unfold sh at e
  injection e with e
  injection e with e1 e2
  injection e2 with e2 _
  injection e1 with e1
  injection e2 with e2
  exact ⟨by rw [← e1]; exact le t ht, by rw [← e2]; exact le b hs⟩
theorem RSz.neg {k : Nat} {u : Rat} (h : RSz k u) : RSz k (-u) := ⟨by rw [Rat.neg_num]; exact h.1.neg, by rw [Rat.neg_den]; exact h.2⟩
theorem vc_law_any_share : VC 2 [false] S_law_any_share B_law_any_share := by
  intro ds q Ed hl h
  unfold S_law_any_share at h
  obtain ⟨rfl, h⟩ := h
  refine draw_i (by decide) (by decide) fun t ht0 ht1 => ?_
  refine draw_i (by decide) (by decide) fun b hb0 hb1 => ?_
  have sb : Sz 12 (1 + b) := sz_of (m := 4096) (by omega) (by decide)
  have st : Sz 12 t := sz_of (m := 4096) (by omega) (by decide)
  refine lowest_i (by omega) (sb.mono (by decide)) ?_
  have hr := rsz_div (by omega) st sb
  refine draw_i (by decide) (by decide) fun s hs0 hs1 => ⟨rfl, rfl, bsp (fun _ => h _ hr) (fun _ => ?_)⟩
  show q (.v (.tup [.int (0 - (Rat.divInt t (1 + b)).num), .int _]))
  have := h _ hr.neg
  unfold sh at this
  rw [Rat.neg_num, Rat.neg_den] at this
  rw [Int.zero_sub]
  exact this
theorem vc_law_is_share : VC 1 [false] S_is_share B_law_is_share := by
  intro ds q Ed hl h
  unfold S_is_share at h
  obtain ⟨d, rfl, ho, h⟩ := h
  cases d <;> try first | exact h | (simp [okSh, basic, tyD] at ho; done)
  rename_i xs
  by_cases hx : xs.length = 2
  · obtain ⟨x, y, rfl⟩ : ∃ x y, xs = [x, y] := by
      match xs, hx with
      | [x, y], _ => exact ⟨x, y, rfl⟩
    obtain ⟨hb, hs⟩ := ho rfl
    have hb1 := hb x (by simp)
    have hb2 := hb y (by simp)
    refine ⟨rfl, rfl, is_int_i hb1 (bsp (fun h1 => ?_) (fun h1 => is_int_i hb2 (bsp (fun h1' => ?_) (fun h1' => ?_))))⟩
    · have e : isSh (.tup [x, y]) = false := by
        cases x <;> cases y <;> first | rfl | (simp [isInt] at h1)
      rw [e] at h
      exact h
    · have e : isSh (.tup [x, y]) = false := by
        cases x <;> cases y <;> first | rfl | (simp [isInt] at h1 h1')
      rw [e] at h
      exact h
    · cases x <;> simp [isInt] at h1
      cases y <;> simp [isInt] at h1'
      rename_i t b
      refine bsp (fun h2 => ?_) (fun h2 => ?_)
      · have h2 : 0 < b := of_decide_eq_true h2
        refine lowest_i (by omega) (hs t b rfl) ⟨rfl, rfl, ?_⟩
        show q (.v (.bl (eqD (sh (Rat.divInt t b)) (.tup [.int t, .int b]))))
        rw [low_eq h2]
        have e : isSh (.tup [.int t, .int b]) = decide (Int.gcd t b = 1) := by simp [isSh, h2]
        rw [e] at h
        exact h
      · have h2 : ¬ 0 < b := of_decide_eq_false h2
        have e : isSh (.tup [.int t, .int b]) = false := by simp [isSh, h2]
        rw [e] at h
        exact h
  · have e : isSh (.tup xs) = false := by
      unfold isSh
      split
      · rename_i z; cases z; exact absurd rfl hx
      · rfl
    rw [e] at h
    refine ⟨rfl, rfl, bsp (fun h1 => h) (fun h1 => ?_)⟩
    exfalso
    have : eqD (.int xs.length) (.int 2) = true := by simpa using h1
    rw [eqD_int, decide_eq_true_eq] at this
    omega
theorem for_inv {t : Tg} {b : Kn → Sl → Prop} {k : Kn} (I : Sl → Prop) : ∀ {ds : List D} {δ : Sl}, I δ → (∀ d ∈ ds, ∀ δ, I δ → ∀ nx : Sl → Prop, (∀ δ, I δ → nx δ) → tgD t d δ (fun δ' => b ⟨nx, k.rt, k.nx, nx⟩ δ')) → (∀ δ, I δ → k.nx δ) → forD t b k ds δ
  | [], δ, h0, hs, hd => hd δ h0
  | d :: ds, δ, h0, hs, hd => hs d List.mem_cons_self δ h0 (forD t b k ds) fun δ' h' => for_inv I h' (fun d' m => hs d' (List.mem_cons_of_mem _ m)) hd
theorem ne_t {x y : D} {q : DV → Prop} (p1 : plain 60 x = true) (p2 : plain 60 y = true) (e : eqD x y = true) (h : q (.v (.bl false))) : opC .ne x y q := by
  refine ⟨p1, p2, ?_⟩
  rw [e]; exact h
theorem eq_t {x y : D} {q : DV → Prop} (p1 : plain 60 x = true) (p2 : plain 60 y = true) (e : eqD x y = true) (h : q (.v (.bl true))) : opC .eq x y q := by
  refine ⟨p1, p2, ?_⟩
  rw [e]; exact h
theorem eq_int {i j : Int} (h : i = j) : eqD (.int i) (.int j) = true := by rw [eqD_int, h]; simp
theorem eq_sh {i j : Rat} (h : i = j) : eqD (sh i) (sh j) = true := by rw [eqD_sh, h]; simp
theorem okSh_sh {u : Rat} {k : Nat} (h : RSz k u) (hk : k ≤ 9000) : okSh (sh u) := by
  intro _
  refine ⟨by simp [basic, tyD], fun t b e => ?_⟩
  injection e with e1 e2
  injection e2 with e2 _
  injection e2 with e2
  rw [← e2]
  exact h.2.mono hk
theorem is_share_t {u : Rat} {k : Nat} {q : DV → Prop} {Ed : Str → Prop} (h : RSz k u) (hk : k ≤ 9000) (hq : q (.v (.bl true))) : S_is_share [sh u] q Ed := is_share_i (okSh_sh h hk) (by rw [isSh_sh]; exact hq)
theorem share_t {t u : Int} {q : DV → Prop} {Ed : Str → Prop} (hu : u ≠ 0) (hs : Sz 9000 u) (hq : q (.v (sh (Rat.divInt t u)))) : S_share [.int t, .int u] q Ed := by
  unfold S_share
  refine ⟨_, _, rfl, rfl, rfl, ?_⟩
  dsimp only
  rw [if_neg hu]
  exact ⟨hs, hq⟩
theorem added_t {u v : Rat} {a b : Nat} {q : DV → Prop} {Ed : Str → Prop} (ha : RSz a u) (hb : RSz b v) (hab : a + b ≤ 9000) (hq : q (.v (sh (u + v)))) : S_added [sh u, sh v] q Ed := by
  unfold S_added
  refine ⟨_, _, rfl, okSh_sh ha (by omega), okSh_sh hb (by omega), fun h => ?_, fun u' v' e1 e2 => ?_⟩
  · rw [isSh_sh, isSh_sh] at h; cases h
  · rw [← sh_inj e1, ← sh_inj e2]
    exact ⟨a, b, ha, hb, hab, hq⟩
theorem multiplied_t {u v : Rat} {a b : Nat} {q : DV → Prop} {Ed : Str → Prop} (ha : RSz a u) (hb : RSz b v) (hab : a + b ≤ 9000) (hq : q (.v (sh (u * v)))) : S_multiplied [sh u, sh v] q Ed := by
  unfold S_multiplied
  refine ⟨_, _, rfl, okSh_sh ha (by omega), okSh_sh hb (by omega), fun h => ?_, fun u' v' e1 e2 => ?_⟩
  · rw [isSh_sh, isSh_sh] at h; cases h
  · rw [← sh_inj e1, ← sh_inj e2]
    exact ⟨a, b, ha, hb, hab, hq⟩
theorem floor_t {u : Rat} {a : Nat} {q : DV → Prop} {Ed : Str → Prop} (ha : RSz a u) (hab : a ≤ 8000) (hq : q (.v (.int u.floor))) : S_floor_of [sh u] q Ed := by
  unfold S_floor_of
  refine ⟨_, rfl, okSh_sh ha (by omega), fun h => ?_, fun u' e1 => ?_⟩
  · rw [isSh_sh] at h; cases h
  · rw [← sh_inj e1]
    exact ⟨ha.mono hab, hq⟩
theorem nearest_t {u : Rat} {a : Nat} {q : DV → Prop} {Ed : Str → Prop} (ha : RSz a u) (hab : a ≤ 8000) (hq : q (.v (.int ((2 * u.num + u.den) / (2 * u.den))))) : S_nearest_whole [sh u] q Ed := by
  unfold S_nearest_whole
  refine ⟨_, rfl, okSh_sh ha (by omega), fun h => ?_, fun u' e1 => ?_⟩
  · rw [isSh_sh] at h; cases h
  · rw [← sh_inj e1]
    exact ⟨ha.mono hab, hq⟩
theorem rsz_add {a b : Nat} {u v : Rat} (ha : RSz a u) (hb : RSz b v) : RSz (a + b + 1) (u + v) := by
  have e : u + v = Rat.divInt (u.num * v.den + v.num * u.den) (u.den * v.den) := by
    rw [Rat.add_def', ← Rat.divInt_ofNat]
    norm_cast
  rw [e]
  refine rsz_div (Int.mul_pos (den_pos u) (den_pos v)) ?_ ((ha.2.mul hb.2).mono (by omega))
  have := (ha.1.mul hb.2).add (hb.1.mul ha.2)
  exact this.mono (by omega)
theorem rsz_mul {a b : Nat} {u v : Rat} (ha : RSz a u) (hb : RSz b v) : RSz (a + b) (u * v) := by
  have e : u * v = Rat.divInt (u.num * v.num) (u.den * v.den) := by
    rw [Rat.mul_def', ← Rat.divInt_ofNat]
    norm_cast
  rw [e]
  exact rsz_div (Int.mul_pos (den_pos u) (den_pos v)) (ha.1.mul hb.1) (ha.2.mul hb.2)

theorem pick_i {xs : List D} {q : DV → Prop} {Ed : Str → Prop} (h0 : 0 < xs.length) (h1 : xs.length ≤ 1000) (hq : ∀ x ∈ xs, q (.v x)) : S_law_pick [.town, .lst xs] q Ed := by unfold S_law_pick; exact ⟨xs, rfl, h0, h1, hq⟩
theorem any_share_i {q : DV → Prop} {Ed : Str → Prop} (hq : ∀ u : Rat, RSz 12 u → q (.v (sh u))) : S_law_any_share [.town] q Ed := by unfold S_law_any_share; exact ⟨rfl, hq⟩
end TT

set_option Elab.async false
set_option linter.all false
set_option maxRecDepth 100000
set_option autoImplicit false
/-! a keyword-only default that is a tuple -/
namespace TT
open PySem PySem.Spec L2
def mdk (c m q : Str) (st : Stmt) (kwd : List (Str × He.Dv)) : He.DefD := ⟨(c, some m), m, q, defArgs st, defBody st, defScope st, [], kwd⟩
def kwAt (f : Str × Option Str) (x : Str) (K : PySem.W.Frag) : Addr := match K.lookup (He.fAd K f) with
  | some ⟨_, _, .func fd, _⟩ => (match fd.kwdefaults with
    | .ref D => (match PySem.W.nsIn K D x with
      | some (some (.ref b)) => b
      | _ => 0)
    | _ => 0)
  | _ => 0
def flatA (K : PySem.W.Frag) (a : Addr) (ds : List D) : Bool := match K.lookup a with
  | some o => decide (o.cls = .type "tuple") && (match o.data with
    | .seq its _ => decide (its.size ≤ 1000) && relAll ds its.toList
    | _ => false)
  | none => false
theorem flatA_ok {K : PySem.W.Frag} {mg : Str → Option Value} {a : Addr} {ds : List D} (c : flatA K a ds = true) : ∀ W, RepL K mg W [.ref a] [.tup ds] := by
  unfold flatA at c
  split at c
  · rename_i o lk
    rw [Bool.and_eq_true, decide_eq_true_eq] at c
    obtain ⟨c1, c2⟩ := c
    split at c2
    · rename_i its n e2
      rw [Bool.and_eq_true, decide_eq_true_eq] at c2
      obtain ⟨vs, h1, h2⟩ := relAll_ok (K := K) (mg := mg) c2.2
      have hs : sizeLine = 16777216 := sizeLine_eq
      exact fun W => .cons (.tup (.inr ⟨o, its, n, lk, c1, e2, by omega, h1⟩) (h2 W)) .nil
    · cases c2
  · cases c
section
variable {K : PySem.W.Frag}
theorem kb_dfl {x q : Str} {st : Stmt} {f : Addr} {fd : FuncData} {nm : Str} {v : V} {ps ks : List Str} {n : Nat} (F : FunD K x q (defArgs st) (defBody st) (defScope st) [] [(nm, v)] f fd)
    (h : ∀ (D : Addr) (doc pm : Value) (an : Option Addr) (cdv ct : Value) (us mv ws : List Value), us.length = n → mv.length = 1 → ws.length = ks.length →
      KwChain D ([nm].zip mv) (bindArgs (PySem.W.fnOf x q (defArgs st) (defBody st) (defScope st) .none (.ref D) doc pm an cdv ct) ⟨us, ks.zip ws⟩) (ps.zip (us ++ (ws ++ mv)))) :
    ∃ mv : List Value, KBn K fd ps n ks (fun us ws => us ++ (ws ++ mv)) (fun vs zs => vs ++ (zs ++ [v])) :=
  FunD.kbinds0 F n ks [(nm, v)] (fun vs mz zs => vs ++ (zs ++ mz)) (by simp) (fun q h => h) (fun r1 r2 r3 => r1.append (r3.append r2)) h
end
end TT

set_option Elab.async false
set_option linter.all false
set_option maxRecDepth 100000
set_option autoImplicit false
set_option maxHeartbeats 4000000
namespace TT
open PySem PySem.Spec L2
/-! ### more words about shares -/
@[irreducible] def S_minus : DS := fun ds q _ => ∃ (x y : Rat) (a b : Nat), ds = [sh x, sh y] ∧ RSz a x ∧ RSz b y ∧ a + b ≤ 9000 ∧ q (.v (sh (x - y)))
@[irreducible] def S_by : DS := fun ds q _ => ∃ (x y : Rat) (a b : Nat), ds = [sh x, sh y] ∧ y ≠ 0 ∧ RSz a x ∧ RSz b y ∧ a + b ≤ 9000 ∧ q (.v (sh (x / y)))
@[irreducible] def S_is_less : DS := fun ds q _ => ∃ (x y : Rat) (a b : Nat), ds = [sh x, sh y] ∧ RSz a x ∧ RSz b y ∧ a + b ≤ 9000 ∧ q (.v (.bl (decide (x < y))))
@[irreducible] def S_law_less : DS := fun ds q _ => ∃ (x y : Rat) (a b : Nat), ds = [sh x, sh y] ∧ RSz a x ∧ RSz b y ∧ a + b ≤ 9000 ∧ q (.v (sh (x - y)))
@[irreducible] def S_law_by : DS := fun ds q _ => ∃ (x y : Rat) (a b : Nat), ds = [sh x, sh y] ∧ y ≠ 0 ∧ RSz a x ∧ RSz b y ∧ a + b ≤ 9000 ∧ q (.v (sh (x / y)))
@[irreducible] def S_law_below : DS := fun ds q _ => ∃ (x y : Rat) (a b : Nat), ds = [sh x, sh y] ∧ RSz a x ∧ RSz b y ∧ a + b ≤ 9000 ∧ q (.v (.bl (decide (x < y))))
section
variable {q : DV → Prop} {Ed : Str → Prop} {x y : Rat} {a b : Nat}
theorem minus_i (hx : RSz a x) (hy : RSz b y) (hab : a + b ≤ 9000) (hq : q (.v (sh (x - y)))) : S_minus [sh x, sh y] q Ed := by unfold S_minus; exact ⟨x, y, a, b, rfl, hx, hy, hab, hq⟩
theorem less_i (hx : RSz a x) (hy : RSz b y) (hab : a + b ≤ 9000) (hq : q (.v (sh (x - y)))) : S_law_less [sh x, sh y] q Ed := by unfold S_law_less; exact ⟨x, y, a, b, rfl, hx, hy, hab, hq⟩
theorem by_i (h0 : y ≠ 0) (hx : RSz a x) (hy : RSz b y) (hab : a + b ≤ 9000) (hq : q (.v (sh (x / y)))) : S_by [sh x, sh y] q Ed := by unfold S_by; exact ⟨x, y, a, b, rfl, h0, hx, hy, hab, hq⟩
theorem law_by_i (h0 : y ≠ 0) (hx : RSz a x) (hy : RSz b y) (hab : a + b ≤ 9000) (hq : q (.v (sh (x / y)))) : S_law_by [sh x, sh y] q Ed := by unfold S_law_by; exact ⟨x, y, a, b, rfl, h0, hx, hy, hab, hq⟩
theorem is_less_i (hx : RSz a x) (hy : RSz b y) (hab : a + b ≤ 9000) (hq : q (.v (.bl (decide (x < y))))) : S_is_less [sh x, sh y] q Ed := by unfold S_is_less; exact ⟨x, y, a, b, rfl, hx, hy, hab, hq⟩
theorem below_i (hx : RSz a x) (hy : RSz b y) (hab : a + b ≤ 9000) (hq : q (.v (.bl (decide (x < y))))) : S_law_below [sh x, sh y] q Ed := by unfold S_law_below; exact ⟨x, y, a, b, rfl, hx, hy, hab, hq⟩
end
def B_minus : List Sx := [
  .ret (.call "plus" [false, false] S_plus [] [.var 0, .tup [.neg (.ix (.var 1) (.int 0)), .ix (.var 1) (.int 1)]])]
def B_by : List Sx := [
  .ret (.call "lowest" [false, false] S_lowest [] [.bin .mul (.ix (.var 0) (.int 0)) (.ix (.var 1) (.int 1)), .bin .mul (.ix (.var 0) (.int 1)) (.ix (.var 1) (.int 0))])]
def B_is_less : List Sx := [
  .ret (.cmp .lt (.bin .mul (.ix (.var 0) (.int 0)) (.ix (.var 1) (.int 1))) (.bin .mul (.ix (.var 1) (.int 0)) (.ix (.var 0) (.int 1))))]
def B_law_less : List Sx := [
  .ret (.call "_law_low" [false, false] S_lowest [] [.bin .sub (.bin .mul (.ix (.var 0) (.int 0)) (.ix (.var 1) (.int 1))) (.bin .mul (.ix (.var 1) (.int 0)) (.ix (.var 0) (.int 1))), .bin .mul (.ix (.var 0) (.int 1)) (.ix (.var 1) (.int 1))])]
def B_law_by : List Sx := [
  .ret (.call "_law_low" [false, false] S_lowest [] [.bin .mul (.ix (.var 0) (.int 0)) (.ix (.var 1) (.int 1)), .bin .mul (.ix (.var 0) (.int 1)) (.ix (.var 1) (.int 0))])]
def B_law_below : List Sx := [
  .ret (.cmp .lt (.bin .mul (.ix (.var 0) (.int 0)) (.ix (.var 1) (.int 1))) (.bin .mul (.ix (.var 1) (.int 0)) (.ix (.var 0) (.int 1))))]
theorem sh_neg (u : Rat) : D.tup [.int (-u.num), .int (u.den : Int)] = sh (-u) := by
  unfold sh
  rw [Rat.neg_num, Rat.neg_den]
theorem vc_minus : VC 2 [false, false] S_minus B_minus := by
  intro ds q Ed hl h
  unfold S_minus at h
  obtain ⟨x, y, a, b, rfl, hx, hy, hab, h⟩ := h
  show S_plus [sh x, .tup [.int (-y.num), .int (y.den : Int)]] _ Ed
  rw [sh_neg]
  refine plus_i hx hy.neg hab ?_
  rw [← Rat.sub_eq_add_neg]
  exact h
theorem num_ne {y : Rat} (h : y ≠ 0) : y.num ≠ 0 := fun e => h (Rat.num_eq_zero.mp e)
theorem by_eq (x y : Rat) : Rat.divInt (x.num * y.den) (x.den * y.num) = x / y := by
  rw [Rat.div_def, Rat.inv_def, ← Rat.divInt_mul_divInt, Rat.num_divInt_den]
theorem vc_by : VC 2 [false, false] S_by B_by := by
  intro ds q Ed hl h
  unfold S_by at h
  obtain ⟨x, y, a, b, rfl, h0, hx, hy, hab, h⟩ := h
  have hd : (x.den : Int) * y.num ≠ 0 := Int.mul_ne_zero (Int.ne_of_gt (den_pos x)) (num_ne h0)
  refine ⟨⟨a, b, hx.1, hy.2, by omega⟩, ⟨a, b, hx.2, hy.1, by omega⟩, lowest_i hd ((hx.2.mul hy.1).mono hab) ?_⟩
  rw [by_eq]
  exact h
theorem vc_law_by : VC 2 [false, false] S_law_by B_law_by := by
  intro ds q Ed hl h
  unfold S_law_by at h
  obtain ⟨x, y, a, b, rfl, h0, hx, hy, hab, h⟩ := h
  have hd : (x.den : Int) * y.num ≠ 0 := Int.mul_ne_zero (Int.ne_of_gt (den_pos x)) (num_ne h0)
  refine ⟨⟨a, b, hx.1, hy.2, by omega⟩, ⟨a, b, hx.2, hy.1, by omega⟩, lowest_i hd ((hx.2.mul hy.1).mono hab) ?_⟩
  rw [by_eq]
  exact h
theorem lt_eq (x y : Rat) : decide (x.num * y.den < y.num * x.den) = decide (x < y) := by
  rw [decide_eq_decide]
  exact (Rat.lt_iff x y).symm
theorem vc_is_less : VC 2 [false, false] S_is_less B_is_less := by
  intro ds q Ed hl h
  unfold S_is_less at h
  obtain ⟨x, y, a, b, rfl, hx, hy, hab, h⟩ := h
  rw [← lt_eq] at h
  exact ⟨⟨a, b, hx.1, hy.2, by omega⟩, ⟨b, a, hy.1, hx.2, by omega⟩, h⟩
theorem vc_law_below : VC 2 [false, false] S_law_below B_law_below := by
  intro ds q Ed hl h
  unfold S_law_below at h
  obtain ⟨x, y, a, b, rfl, hx, hy, hab, h⟩ := h
  rw [← lt_eq] at h
  exact ⟨⟨a, b, hx.1, hy.2, by omega⟩, ⟨b, a, hy.1, hx.2, by omega⟩, h⟩
theorem vc_law_less : VC 2 [false, false] S_law_less B_law_less := by
  intro ds q Ed hl h
  unfold S_law_less at h
  obtain ⟨x, y, a, b, rfl, hx, hy, hab, h⟩ := h
  have hd : (x.den : Int) * (y.den : Int) ≠ 0 := Int.ne_of_gt (Int.mul_pos (den_pos x) (den_pos y))
  refine ⟨⟨a, b, hx.1, hy.2, by omega⟩, ⟨b, a, hy.1, hx.2, by omega⟩, ⟨a, b, hx.2, hy.2, by omega⟩, lowest_i hd ((hx.2.mul hy.2).mono hab) ?_⟩
  show q (.v (sh _))
  have e : x - y = Rat.divInt (x.num * y.den - y.num * x.den) (x.den * y.den) := by
    rw [Rat.sub_def', ← Rat.divInt_ofNat]
    norm_cast
  rw [← e]
  exact h
/-! sizes -/
theorem rsz_sub {a b : Nat} {u v : Rat} (ha : RSz a u) (hb : RSz b v) : RSz (a + b + 1) (u - v) := by
  rw [Rat.sub_eq_add_neg]
  exact rsz_add ha hb.neg
theorem rsz_by {a b : Nat} {u v : Rat} (h0 : v ≠ 0) (ha : RSz a u) (hb : RSz b v) : RSz (a + b) (u / v) := by
  rw [← by_eq]
  have hn := num_ne h0
  rcases Int.lt_or_gt_of_ne hn with h | h
  · rw [← Rat.neg_divInt_neg]
    have hp : 0 < -((u.den : Int) * v.num) := by
      rw [← Int.mul_neg]
      exact Int.mul_pos (den_pos u) (by omega)
    exact rsz_div hp (ha.1.mul hb.2).neg (ha.2.mul hb.1).neg
  · exact rsz_div (Int.mul_pos (den_pos u) h) (ha.1.mul hb.2) (ha.2.mul hb.1)
theorem shI (i : Int) : D.tup [.int i, .int 1] = sh (i : Rat) := by
  unfold sh
  rw [Rat.num_intCast, Rat.den_intCast]
  rfl
theorem rszI {i : Int} {k : Nat} (h : Sz k i) (hk : 1 ≤ k) : RSz k (i : Rat) := by
  refine ⟨by rw [Rat.num_intCast]; exact h, ?_⟩
  rw [Rat.den_intCast]
  have : Sz 1 ((1 : Nat) : Int) := by unfold Sz; decide
  exact this.mono hk
end TT

set_option Elab.async false
set_option linter.all false
set_option maxRecDepth 100000
set_option autoImplicit false
set_option maxHeartbeats 1000000
namespace TT
open PySem PySem.Spec L2
/-! ### looks at colours and numbers, whatever comes -/
def three (u v w : Rat) : D := .tup [sh u, sh v, sh w]
def isC : D → Bool
  | .tup xs => decide (xs.length = 3) && xs.all isSh
  | _ => false
def okC : D → Prop
  | .tup xs => xs.length ≤ 1000 ∧ (xs.length = 3 → ∀ x ∈ xs, okSh x)
  | d => basic d = true
def isW (lo hi : Int) : D → Bool
  | .int x => decide (lo ≤ x ∧ x ≤ hi)
  | _ => false
@[irreducible] def S_is_whole : DS := fun ds q _ => ∃ d, ∃ lo hi : Int, ds = [d, .int lo, .int hi] ∧ basic d = true ∧ q (.v (.bl (isW lo hi d)))
@[irreducible] def S_look_three : DS := fun ds q Ed => ∃ d, ds = [d] ∧ okC d ∧ (isC d = false → Ed "BadColour") ∧ (isC d = true → q (.v .non))
def B_is_whole : List Sx := [
  .ret (.ands [.isi (.var 0) .int, .not (.isi (.var 0) .bool), .chain .le .le (.var 1) (.var 0) (.var 2)])]
def B_look_three : List Sx := [
  .ifs (.ors [.not (.isi (.var 0) .tuple), .cmp .ne (.blt .len [.var 0]) (.int 3), .not (.blt .all [.comp [("one", 1)] (.nm 1) (.seq (.var 0)) none (.call "is_share" [false] S_is_share [] [.var 1])])]) [.raise "BadColour"] []]
theorem whole_i {q : DV → Prop} {Ed : Str → Prop} {d : D} {lo hi : Int} (hb : basic d = true) (hq : q (.v (.bl (isW lo hi d)))) : S_is_whole [d, .int lo, .int hi] q Ed := by unfold S_is_whole; exact ⟨d, lo, hi, rfl, hb, hq⟩
theorem look_three_i {q : DV → Prop} {Ed : Str → Prop} {d : D} (ho : okC d) (h0 : isC d = false → Ed "BadColour") (h1 : isC d = true → q (.v .non)) : S_look_three [d] q Ed := by unfold S_look_three; exact ⟨d, rfl, ho, h0, h1⟩
/-- three turns -/
theorem comp3 {i : Nat} {we : Sl → (D → Prop) → Prop} {δ : Sl} {q : List D → Prop} {x y z gx gy gz : D} (h1 : ∀ k : D → Prop, k gx → we (δ.set i (some (.v x))) k) (h2 : ∀ k : D → Prop, k gy → we (δ.set i (some (.v y))) k) (h3 : ∀ k : D → Prop, k gz → we (δ.set i (some (.v z))) k) (h : q [gx, gy, gz]) :
    compD (.nm i) (fun _ q => q true) we δ q [x, y, z] [] :=
  h1 _ ⟨Nat.zero_le _, h2 _ ⟨(by show 1 ≤ 1000000; decide), h3 _ ⟨(by show 2 ≤ 1000000; decide), h⟩⟩⟩
theorem comp3r {i : Nat} {we : Sl → (D → Prop) → Prop} {δ : Sl} {q : List D → Prop} {gx gy gz : D} (h1 : ∀ k : D → Prop, k gx → we (δ.set i (some (.v (.int 0)))) k) (h2 : ∀ k : D → Prop, k gy → we (δ.set i (some (.v (.int 1)))) k) (h3 : ∀ k : D → Prop, k gz → we (δ.set i (some (.v (.int 2)))) k) (h : q [gx, gy, gz]) :
    compD (.nm i) (fun _ q => q true) we δ q (rngD 0 (Int.toNat 3)) [] := comp3 (x := .int 0) (y := .int 1) (z := .int 2) h1 h2 h3 h
theorem vc_is_whole : VC 3 [false, false, false] S_is_whole B_is_whole := by
  intro ds q Ed hl h
  unfold S_is_whole at h
  obtain ⟨d, lo, hi, rfl, hb, h⟩ := h
  cases d <;> try first | exact h | (simp [basic, tyD] at hb; done)
  rename_i x
  have e0 : isW lo hi (.int x) = decide (lo ≤ x ∧ x ≤ hi) := rfl
  rw [e0] at h
  refine bspd (fun h1 => ?_) (fun h1 => ?_)
  · have e : decide (lo ≤ x ∧ x ≤ hi) = decide (x ≤ hi) := by simp [h1]
    rw [e] at h
    exact h
  · have e : decide (lo ≤ x ∧ x ≤ hi) = false := by simp [h1]
    rw [e] at h
    exact h
theorem e33 : eqD (.int 3) (.int 3) = true := by simp [eqD_int]
theorem vc_look_three : VC 2 [false] S_look_three B_look_three := by
  intro ds q Ed hl h
  unfold S_look_three at h
  obtain ⟨d, rfl, ho, h0, h1⟩ := h
  cases d <;> try first | exact h0 rfl | (simp [okC, basic, tyD] at ho; done)
  rename_i xs
  obtain ⟨hl1, ho⟩ := ho
  have e : eqD (.int xs.length) (.int 3) = decide (xs.length = 3) := by
    rw [eqD_int, decide_eq_decide]
    omega
  have e1 : isC (.tup xs) = (decide (xs.length = 3) && xs.all isSh) := rfl
  rw [e1] at h0 h1
  refine ⟨rfl, rfl, ?_⟩
  dsimp only
  rw [e]
  by_cases hm : xs.length = 3
  · rw [decide_eq_true hm, Bool.true_and] at h0 h1
    rw [decide_eq_true hm]
    refine comp_map (fun d => .bl (isSh d)) (fun d hd k hk => is_share_i (ho hm d hd) hk) (by simp; omega) ⟨xs.map isSh, ?_, ?_⟩
    · simp
    · have e : (xs.map isSh).all id = xs.all isSh := by simp [List.all_map, Function.comp_def]
      rw [e]
      cases ha : xs.all isSh with
      | true => exact h1 ha
      | false => exact h0 ha
  · rw [decide_eq_false hm] at h0
    rw [decide_eq_false hm]
    exact h0 rfl
theorem isC_three {x y z : Rat} : isC (three x y z) = true := by
  have e : isC (three x y z) = (decide (3 = 3) && (isSh (sh x) && (isSh (sh y) && (isSh (sh z) && true)))) := rfl
  rw [e, isSh_sh, isSh_sh, isSh_sh]
  rfl
theorem okC_three {x y z : Rat} {n : Nat} (hx : RSz n x) (hy : RSz n y) (hz : RSz n z) (hn : n ≤ 8000) : okC (three x y z) := by
  refine ⟨by simp, fun _ d hd => ?_⟩
  simp only [List.mem_cons, List.not_mem_nil, or_false] at hd
  rcases hd with rfl | rfl | rfl
  · exact okSh_sh hx (by omega)
  · exact okSh_sh hy (by omega)
  · exact okSh_sh hz (by omega)
end TT

set_option Elab.async false
set_option linter.all false
set_option maxRecDepth 100000
set_option autoImplicit false
set_option maxHeartbeats 1000000
namespace TT
open PySem PySem.Spec L2
structure I3 where
  x : Int
  y : Int
  z : Int
def i3 (v : I3) : D := .tup [.int v.x, .int v.y, .int v.z]
def I3.at (v : I3) : Nat → Int
  | 0 => v.x
  | 1 => v.y
  | _ => v.z
structure EndOk (w b : I3) : Prop where
  lo : ∀ k, 0 ≤ b.at k
  lt : ∀ k, b.at k < w.at k
  hi : ∀ k, w.at k ≤ 1000
def endsD (w b : I3) : D := .obj "Ends" [("white", i3 w), ("black", i3 b)]
def threeI (v : I3) : D := three (v.x : Rat) (v.y : Rat) (v.z : Rat)
theorem EndOk.wsz {w b : I3} (h : EndOk w b) (k : Nat) : RSz 10 (w.at k : Rat) := rszI (sz_of (m := 1024) (by have := h.lo k; have := h.lt k; have := h.hi k; omega) (by decide)) (by decide)
theorem EndOk.bsz {w b : I3} (h : EndOk w b) (k : Nat) : RSz 10 (b.at k : Rat) := rszI (sz_of (m := 1024) (by have := h.lo k; have := h.lt k; have := h.hi k; omega) (by decide)) (by decide)
theorem EndOk.w0 {w b : I3} (h : EndOk w b) (k : Nat) : (w.at k : Rat) ≠ 0 := by
  have := h.lo k
  have := h.lt k
  have e : w.at k ≠ 0 := by omega
  exact_mod_cast e
theorem EndOk.d0 {w b : I3} (h : EndOk w b) (k : Nat) : (w.at k : Rat) - (b.at k : Rat) ≠ 0 := by
  have := h.lt k
  have e : w.at k - b.at k ≠ 0 := by omega
  rw [← Rat.intCast_sub]
  exact_mod_cast e
inductive Way where | same | white | squeezed | clipped
def Way.word : Way → Str
  | .same => "same" | .white => "white" | .squeezed => "squeezed" | .clipped => "clipped"
def led1 (s : Way) (x w b w' b' : Rat) : Rat := match s with
  | .same => x
  | .white => x * (w' / w)
  | .squeezed => b' + (x - b) / (w - b) * (w' - b')
  | .clipped => if x < b' then b' else if w' < x then w' else x
def intD : List D := [.str "same", .str "white", .str "squeezed", .str "clipped"]
def okEn : D → Prop
  | .tup xs => xs.length ≤ 1000 ∧ ∀ x ∈ xs, basic x = true
  | d => basic d = true
def is3 : D → Bool
  | .tup xs => decide (xs.length = 3) && xs.all (isW 0 1000)
  | _ => false
def ltB : D → D → Bool
  | .tup [.int a, .int b, .int c], .tup [.int x, .int y, .int z] => decide (a < x) && (decide (b < y) && decide (c < z))
  | _, _ => false
def fineE (d e : D) : Bool := is3 d && (is3 e && ltB e d)
def isEnd : D → Bool
  | .obj c _ => decide (c = "Ends")
  | _ => false
def okEnd : D → Prop
  | .obj c _ => c = "Ends"
  | d => (tyD d).isSome = true
def isWay : D → Bool
  | .str s => intD.any fun z => eqD z (.str s)
  | _ => false
def okIn (i : D) : Prop := basic i = true ∧ plain 60 i = true
@[irreducible] def S_Ends___init__ : DS := fun ds q Ed => ∃ d e, ds = [d, e] ∧ okEn d ∧ okEn e ∧ (fineE d e = false → Ed "BadIntent") ∧ ∀ w b, d = i3 w → e = i3 b → EndOk w b → q (.v (endsD w b))
@[irreducible] def S_Ends_whites : DS := fun ds q _ => ∃ w b, ds = [endsD w b] ∧ q (.v (threeI w))
@[irreducible] def S_Ends_blacks : DS := fun ds q _ => ∃ w b, ds = [endsD w b] ∧ q (.v (threeI b))
@[irreducible] def S_look_intent : DS := fun ds q Ed => ∃ c i es, ds = [c, i, .tup es] ∧ okC c ∧ okIn i ∧ es.length ≤ 2 ∧ (∀ e ∈ es, okEnd e) ∧ (isC c = false → Ed "BadColour") ∧ (isC c = true → (isWay i && es.all isEnd) = false → Ed "BadIntent") ∧ (isC c = true → isWay i = true → es.all isEnd = true → q (.v .non))
@[irreducible] def S_one_led : DS := fun ds q _ => ∃ (s : Way) (x w b w' b' : Rat) (n : Nat), ds = [sh x, .str s.word, .tup [sh w, sh b], .tup [sh w', sh b']] ∧ RSz n x ∧ n ≤ 4000 ∧ RSz 10 w ∧ RSz 10 b ∧ RSz 10 w' ∧ RSz 10 b' ∧ w ≠ 0 ∧ w - b ≠ 0 ∧ q (.v (sh (led1 s x w b w' b')))
@[irreducible] def S_led_worth : DS := fun ds q Ed => ∃ c i h t, ds = [c, i, h, t] ∧ okC c ∧ okIn i ∧ okEnd h ∧ okEnd t ∧ (isC c = false → Ed "BadColour") ∧ (isC c = true → (isWay i && (isEnd h && isEnd t)) = false → Ed "BadIntent") ∧
  (isC c = true → isWay i = true → isEnd h = true → isEnd t = true → ∃ (s : Way) (x y z : Rat) (w b w' b' : I3) (n : Nat), c = three x y z ∧ i = .str s.word ∧ h = endsD w b ∧ t = endsD w' b' ∧ RSz n x ∧ RSz n y ∧ RSz n z ∧ n ≤ 4000 ∧ EndOk w b ∧ EndOk w' b' ∧
    q (.v (three (led1 s x w.x b.x w'.x b'.x) (led1 s y w.y b.y w'.y b'.y) (led1 s z w.z b.z w'.z b'.z))))
@[irreducible] def S_is_between : DS := fun ds q Ed => ∃ c t, ds = [c, t] ∧ okC c ∧ okEnd t ∧ (isC c && isEnd t) = false ∧ (isC c = false → Ed "BadColour") ∧ (isC c = true → isEnd t = false → Ed "BadIntent")
@[irreducible] def S_law_ends : DS := fun ds q _ => ds = [.town] ∧ ∀ w b, EndOk w b → q (.v (.tup [i3 w, i3 b]))
section
variable {q : DV → Prop} {Ed : Str → Prop} {w b : I3}
theorem whites_i (hq : q (.v (threeI w))) : S_Ends_whites [endsD w b] q Ed := by unfold S_Ends_whites; exact ⟨w, b, rfl, hq⟩
theorem blacks_i (hq : q (.v (threeI b))) : S_Ends_blacks [endsD w b] q Ed := by unfold S_Ends_blacks; exact ⟨w, b, rfl, hq⟩
theorem law_ends_i (hq : ∀ w b, EndOk w b → q (.v (.tup [i3 w, i3 b]))) : S_law_ends [.town] q Ed := by unfold S_law_ends; exact ⟨rfl, hq⟩
end
def B_Ends___init__ : List Sx := [
  .forr (.nm 3) (.seq (.tup [.var 1, .var 2])) [.setv 4 (.ands [.isi (.var 3) .tuple, .cmp .eq (.blt .len [.var 3]) (.int 3)]), .ifs (.ors [.not (.var 4), .not (.blt .all [.comp [("one", 6)] (.nm 6) (.seq (.var 3)) none (.call "is_whole" [false, false, false] S_is_whole [] [.var 6, .int 0, .glb "MOST" (.int 1000)])])]) [.raise "BadIntent"] []],
  .ifs (.not (.blt .all [.comp [("k", 5)] (.nm 5) (.rng (.int 3)) none (.cmp .lt (.ix (.var 2) (.var 5)) (.ix (.var 1) (.var 5)))])) [.raise "BadIntent"] [],
  .fld 0 "Ends" "white" (.var 1),
  .fld 0 "Ends" "black" (.var 2)]
def B_Ends_whites : List Sx := [
  .ret (.blt .tuple [.comp [("one", 1)] (.nm 1) (.seq (.p1 (.att "Ends" "white") (.var 0))) none (.tup [.var 1, .int 1])])]
def B_Ends_blacks : List Sx := [
  .ret (.blt .tuple [.comp [("one", 1)] (.nm 1) (.seq (.p1 (.att "Ends" "black") (.var 0))) none (.tup [.var 1, .int 1])])]
def B_look_intent : List Sx := [
  .expr (.call "look_three" [false] S_look_three [] [.var 0]),
  .ifs (.ors [.not (.isi (.var 1) .str), .p2 (.isin true) (.var 1) (.glb "INTENTS" (.tup [.str "same", .str "white", .str "squeezed", .str "clipped"]))]) [.raise "BadIntent"] [],
  .ifs (.not (.blt .all [.comp [("one", 3)] (.nm 3) (.seq (.var 2)) none (.p1 (.isc "Ends") (.var 3))])) [.raise "BadIntent"] []]
def B_one_led : List Sx := [
  .tgt (.tp [.nm 4, .nm 5]) (.var 2),
  .tgt (.tp [.nm 6, .nm 7]) (.var 3),
  .ifs (.cmp .eq (.var 1) (.str "same")) [.ret (.var 0)] [],
  .ifs (.cmp .eq (.var 1) (.str "white")) [.ret (.call "times" [false, false] S_times [] [.var 0, .call "by" [false, false] S_by [] [.var 6, .var 4]])] [],
  .ifs (.cmp .eq (.var 1) (.str "squeezed")) [.setv 8 (.call "by" [false, false] S_by [] [.call "minus" [false, false] S_minus [] [.var 0, .var 5], .call "minus" [false, false] S_minus [] [.var 4, .var 5]]), .ret (.call "plus" [false, false] S_plus [] [.var 7, .call "times" [false, false] S_times [] [.var 8, .call "minus" [false, false] S_minus [] [.var 6, .var 7]]])] [],
  .ifs (.call "is_less" [false, false] S_is_less [] [.var 0, .var 7]) [.ret (.var 7)] [],
  .ret (.ite (.call "is_less" [false, false] S_is_less [] [.var 6, .var 0]) (.var 6) (.var 0))]
def B_led_worth : List Sx := [
  .expr (.call "look_intent" [false, false, false] S_look_intent [] [.var 0, .var 1, .tup [.var 2, .var 3]]),
  .set 4 (.lst []),
  .forr (.nm 5) (.rng (.int 3)) [.setv 6 (.tup [.ix (.meth "Ends" "whites" [] S_Ends_whites [] (.var 2) []) (.var 5), .ix (.meth "Ends" "blacks" [] S_Ends_blacks [] (.var 2) []) (.var 5)]), .app 4 (.call "one_led" [false, false, false, false] S_one_led [] [.ix (.var 0) (.var 5), .var 1, .var 6, .tup [.ix (.meth "Ends" "whites" [] S_Ends_whites [] (.var 3) []) (.var 5), .ix (.meth "Ends" "blacks" [] S_Ends_blacks [] (.var 3) []) (.var 5)]])],
  .ret (.blt .tuple [.var 4])]
def B_is_between : List Sx := [
  .expr (.call "look_intent" [false, false, false] S_look_intent [] [.var 0, .str "same", .tup [.var 1]]),
  .tgt (.tp [.nm 2, .nm 3]) (.tup [.meth "Ends" "whites" [] S_Ends_whites [] (.var 1) [], .meth "Ends" "blacks" [] S_Ends_blacks [] (.var 1) []]),
  .ret (.not (.blt .any [.comp [("k", 4)] (.nm 4) (.rng (.int 3)) none (.ors [.call "is_less" [false, false] S_is_less [] [.ix (.var 0) (.var 4), .ix (.var 3) (.var 4)], .call "is_less" [false, false] S_is_less [] [.ix (.var 2) (.var 4), .ix (.var 0) (.var 4)]])]))]
def B_law_ends : List Sx := [
  .setv 1 (.comp [("_law_k", 2)] (.nm 2) (.rng (.int 3)) none (.call "_law_pick" [false, false] S_law_pick [] [.var 0, .lst [.int 0, .int 0, .call "_law_draw" [false, false] S_draw [] [.var 0, .int 400]]])),
  .ret (.tup [.blt .tuple [.comp [("_law_one", 3)] (.nm 3) (.seq (.var 1)) none (.bin .add (.bin .add (.var 3) (.int 1)) (.call "_law_draw" [false, false] S_draw [] [.var 0, .bin .sub (.int 1000) (.var 3)]))], .blt .tuple [.var 1]])]
/-- an __init__ keeps its word -/
def VI (cn : Str) (m : Nat) (br : List Bool) (S : DS) (B : List Sx) : Prop := ∀ x ds q Ed, ds.length = br.length → S ds q Ed → wBk Ed B (initK x cn q) (some (.ins x cn []) :: start0 m br ds)
abbrev R_end : List Sx := [.setv 4 (.ands [.isi (.var 3) .tuple, .cmp .eq (.blt .len [.var 3]) (.int 3)]), .ifs (.ors [.not (.var 4), .not (.blt .all [.comp [("one", 6)] (.nm 6) (.seq (.var 3)) none (.call "is_whole" [false, false, false] S_is_whole [] [.var 6, .int 0, .glb "MOST" (.int 1000)])])]) [.raise "BadIntent"] []]
theorem fine_len {xs : List D} : eqD (.int xs.length) (.int 3) = decide (xs.length = 3) := by
  rw [eqD_int, decide_eq_decide]
  omega
theorem end_turn {Ed : Str → Prop} {K : Kn} {v : D} {s0 s1 s2 o4 o5 o6 : Option DV} (hv : okEn v) (hE : is3 v = false → Ed "BadIntent") (hK : is3 v = true → ∀ o4 o5 o6, K.nx [s0, s1, s2, some (.v v), o4, o5, o6]) : wBk Ed R_end K [s0, s1, s2, some (.v v), o4, o5, o6] := by
  cases v <;> try first | exact hE rfl | (simp [okEn, basic, tyD] at hv; done)
  rename_i xs
  obtain ⟨hl, hb⟩ := hv
  have e1 : is3 (.tup xs) = (decide (xs.length = 3) && xs.all (isW 0 1000)) := rfl
  rw [e1] at hE hK
  refine ⟨rfl, rfl, ?_⟩
  dsimp only [asB, coM]
  show wBk Ed (R_end.drop 1) K [s0, s1, s2, some (.v (.tup xs)), some (.v (.bl (eqD (.int xs.length) (.int 3)))), o5, o6]
  rw [fine_len]
  cases hm : decide (xs.length = 3) with
  | false =>
    rw [hm] at hE
    exact hE rfl
  | true =>
    rw [hm, Bool.true_and] at hE hK
    refine comp_map (fun d => .bl (isW 0 1000 d)) (fun d hd k hk => whole_i (hb d hd) hk) (by simp; omega) ⟨xs.map (isW 0 1000), ?_, ?_⟩
    · simp
    · have e : (xs.map (isW 0 1000)).all id = xs.all (isW 0 1000) := by simp [List.all_map, Function.comp_def]
      rw [e]
      cases ha : xs.all (isW 0 1000) with
      | true => exact hK ha _ _ _
      | false => exact hE ha
theorem is3_inv {d : D} (h : is3 d = true) : ∃ v : I3, d = i3 v ∧ ∀ k, 0 ≤ v.at k ∧ v.at k ≤ 1000 := by
  cases d <;> try (cases h; done)
  rename_i xs
  have e1 : is3 (.tup xs) = (decide (xs.length = 3) && xs.all (isW 0 1000)) := rfl
  rw [e1, Bool.and_eq_true, decide_eq_true_eq] at h
  obtain ⟨hl, h⟩ := h
  obtain ⟨a, b, c, rfl⟩ : ∃ a b c, xs = [a, b, c] := by
    match xs, hl with
    | [a, b, c], _ => exact ⟨a, b, c, rfl⟩
  simp only [List.all_cons, List.all_nil, Bool.and_true, Bool.and_eq_true] at h
  obtain ⟨ha, hb, hc⟩ := h
  have g : ∀ d, isW 0 1000 d = true → ∃ i : Int, d = .int i ∧ 0 ≤ i ∧ i ≤ 1000 := by
    intro d hd
    cases d <;> try (cases hd; done)
    rename_i i
    have hd : decide (0 ≤ i ∧ i ≤ 1000) = true := hd
    exact ⟨i, rfl, of_decide_eq_true hd⟩
  obtain ⟨i, rfl, hi⟩ := g a ha
  obtain ⟨j, rfl, hj⟩ := g b hb
  obtain ⟨l, rfl, hl⟩ := g c hc
  refine ⟨⟨i, j, l⟩, rfl, fun k => ?_⟩
  unfold I3.at
  split <;> assumption
theorem end_flds {Ed : Str → Prop} {a : Addr} {w b : I3} {q : DV → Prop} {o3 o4 o5 o6 : Option DV} (h : q (.v (endsD w b))) : wBk Ed (B_Ends___init__.drop 2) (initK a "Ends" q) [some (.ins a "Ends" []), some (.v (i3 w)), some (.v (i3 b)), o3, o4, o5, o6] := by
  refine ⟨rfl, by show 0 < 1000; decide, ?_⟩
  refine ⟨rfl, by show 1 < 1000; decide, ?_⟩
  exact ⟨rfl, rfl, h⟩
theorem end_rest {Ed : Str → Prop} {a : Addr} {w b : I3} {q : DV → Prop} {o3 o4 o5 o6 : Option DV} (hE : ltB (i3 b) (i3 w) = false → Ed "BadIntent") (h : ltB (i3 b) (i3 w) = true → q (.v (endsD w b))) : wBk Ed (B_Ends___init__.drop 1) (initK a "Ends" q) [some (.ins a "Ends" []), some (.v (i3 w)), some (.v (i3 b)), o3, o4, o5, o6] := by
  refine ⟨by decide, by decide, ?_⟩
  refine comp3r (gx := .bl (decide (b.x < w.x))) (gy := .bl (decide (b.y < w.y))) (gz := .bl (decide (b.z < w.z))) (fun k hk => hk) (fun k hk => hk) (fun k hk => hk) ⟨[_, _, _], rfl, ?_⟩
  have e : [decide (b.x < w.x), decide (b.y < w.y), decide (b.z < w.z)].all id = ltB (i3 b) (i3 w) := by
    show _ = (decide (b.x < w.x) && (decide (b.y < w.y) && decide (b.z < w.z)))
    simp [List.all]
  rw [e]
  cases hl : ltB (i3 b) (i3 w) with
  | false => exact hE hl
  | true => exact end_flds (h hl)
theorem forr_i {Ed : Str → Prop} {t : Tg} {it : Itx} {b rest : List Sx} {K : Kn} {δ : Sl} (h : wI false Ed it δ (fun ds => forD t (wBk Ed b) ⟨wBk Ed rest K, K.rt, K.bk, K.ct⟩ ds δ)) : wBk Ed (.forr t it b :: rest) K δ := h
theorem wVar_v {i : Nat} {δ : Sl} {d : D} {P : DV → Prop} (h : δ.getD i none = some (.v d)) (hP : P (.v d)) : wVar i δ P := by
  unfold wVar
  rw [h]
  exact hP
theorem seq_tup2 {Ed : Str → Prop} {i j : Nat} {d e : D} {δ : Sl} {q : List D → Prop} (hi : δ.getD i none = some (.v d)) (hj : δ.getD j none = some (.v e)) (h : q [d, e]) : wI false Ed (.seq (.tup [.var i, .var j])) δ q := by
  have a : ∀ (i : Nat) (x : D) (P : D → Prop), δ.getD i none = some (.v x) → P x → co false (wVar i) δ P := by
    intro i x P h hP
    exact wVar_v h hP
  exact a i d _ hi (a j e _ hj h)
theorem end_loop {Ed : Str → Prop} {K : Kn} {d e : D} {s0 : Option DV} (hd : okEn d) (he : okEn e) (hE : (is3 d && is3 e) = false → Ed "BadIntent") (h : is3 d = true → is3 e = true → ∀ o3 o4 o5 o6, wBk Ed (B_Ends___init__.drop 1) K [s0, some (.v d), some (.v e), o3, o4, o5, o6]) :
    wBk Ed B_Ends___init__ K [s0, some (.v d), some (.v e), none, none, none, none] := by
  refine forr_i (t := .nm 3) (it := .seq (.tup [.var 1, .var 2])) (b := R_end) (rest := B_Ends___init__.drop 1) ?_
  generalize wBk Ed (B_Ends___init__.drop 1) K = nx at h ⊢
  generalize hb : wBk Ed R_end = bd
  refine seq_tup2 (d := d) (e := e) rfl rfl ?_
  subst hb
  refine end_turn hd (fun z => hE (by rw [z]; rfl)) fun h1 o4 o5 o6 => ?_
  refine end_turn he (fun z => hE (by rw [z, Bool.and_false])) fun h2 o4 o5 o6 => ?_
  exact h h1 h2 _ _ _ _
theorem EndOk.of {w b : I3} (hw : ∀ k, 0 ≤ w.at k ∧ w.at k ≤ 1000) (hb : ∀ k, 0 ≤ b.at k ∧ b.at k ≤ 1000) (h : ltB (i3 b) (i3 w) = true) : EndOk w b := by
  have e : ltB (i3 b) (i3 w) = (decide (b.x < w.x) && (decide (b.y < w.y) && decide (b.z < w.z))) := rfl
  rw [e] at h
  simp only [Bool.and_eq_true, decide_eq_true_eq] at h
  refine ⟨fun k => (hb k).1, fun k => ?_, fun k => (hw k).2⟩
  unfold I3.at
  split
  · exact h.1
  · exact h.2.1
  · exact h.2.2
theorem vc_Ends_init : VI "Ends" 6 [false, false] S_Ends___init__ B_Ends___init__ := by
  intro a ds q Ed hl h
  unfold S_Ends___init__ at h
  obtain ⟨d, e, rfl, hd, he, h0, h1⟩ := h
  have go : ∀ δ, δ = [some (.ins a "Ends" []), some (.v d), some (.v e), none, none, none, none] → wBk Ed B_Ends___init__ (initK a "Ends" q) δ := by
    rintro δ rfl
    refine end_loop hd he (fun z => h0 ?_) fun i1 i2 o3 o4 o5 o6 => ?_
    · unfold fineE
      rw [← Bool.and_assoc, z]
      rfl
    · obtain ⟨w, rfl, hw⟩ := is3_inv i1
      obtain ⟨b, rfl, hb⟩ := is3_inv i2
      refine end_rest (fun z => h0 ?_) fun z => h1 w b rfl rfl (.of hw hb z)
      unfold fineE
      rw [i1, i2, z]
      rfl
  exact go _ rfl
theorem vc_Ends_whites : VC 2 [false] S_Ends_whites B_Ends_whites := by
  intro ds q Ed hl h
  unfold S_Ends_whites at h
  obtain ⟨w, b, rfl, h⟩ := h
  refine ⟨rfl, ?_⟩
  show compD (.nm 1) _ _ _ _ [.int w.x, .int w.y, .int w.z] []
  refine comp3 (gx := sh (w.x : Rat)) (gy := sh (w.y : Rat)) (gz := sh (w.z : Rat)) (fun k hk => ?_) (fun k hk => ?_) (fun k hk => ?_) h
  · show k (.tup [.int w.x, .int 1]); rw [shI]; exact hk
  · show k (.tup [.int w.y, .int 1]); rw [shI]; exact hk
  · show k (.tup [.int w.z, .int 1]); rw [shI]; exact hk
theorem vc_Ends_blacks : VC 2 [false] S_Ends_blacks B_Ends_blacks := by
  intro ds q Ed hl h
  unfold S_Ends_blacks at h
  obtain ⟨w, b, rfl, h⟩ := h
  refine ⟨rfl, ?_⟩
  show compD (.nm 1) _ _ _ _ [.int b.x, .int b.y, .int b.z] []
  refine comp3 (gx := sh (b.x : Rat)) (gy := sh (b.y : Rat)) (gz := sh (b.z : Rat)) (fun k hk => ?_) (fun k hk => ?_) (fun k hk => ?_) h
  · show k (.tup [.int b.x, .int 1]); rw [shI]; exact hk
  · show k (.tup [.int b.y, .int 1]); rw [shI]; exact hk
  · show k (.tup [.int b.z, .int 1]); rw [shI]; exact hk
end TT

set_option Elab.async false
set_option linter.all false
set_option maxRecDepth 100000
set_option autoImplicit false
set_option maxHeartbeats 1000000
namespace TT
open PySem PySem.Spec L2
theorem look_intent_i {q : DV → Prop} {Ed : Str → Prop} {c i : D} {es : List D} (ho : okC c) (hI : okIn i) (hl : es.length ≤ 2) (he : ∀ e ∈ es, okEnd e) (h0 : isC c = false → Ed "BadColour") (h1 : isC c = true → (isWay i && es.all isEnd) = false → Ed "BadIntent") (h2 : isC c = true → isWay i = true → es.all isEnd = true → q (.v .non)) : S_look_intent [c, i, .tup es] q Ed := by
  unfold S_look_intent; exact ⟨c, i, es, rfl, ho, hI, hl, he, h0, h1, h2⟩
theorem plain_int : plain 60 (.tup intD) = true := by decide +kernel
theorem isc_i {d : D} {k : D → Prop} (h : okEnd d) (hk : k (.bl (isEnd d))) : op1 (.isc "Ends") d (fun dv => coM false dv k) := by
  cases d <;> first
    | exact ⟨h, hk⟩
    | (cases h; done)
    | (rename_i c fs
       have h : c = "Ends" := h
       subst h
       exact ⟨rfl, hk⟩)
theorem vc_look_intent : VC 4 [false, false, false] S_look_intent B_look_intent := by
  intro ds q Ed hl h
  unfold S_look_intent at h
  obtain ⟨c, i, es, rfl, ho, hI, hl2, he, h0, h1, h2⟩ := h
  have rest : isC c = true → isWay i = true → wBk Ed (B_look_intent.drop 2) ⟨fun _ => q (.v .non), q, fun _ => False, fun _ => False⟩ [some (.v c), some (.v i), some (.v (.tup es)), none] := by
    intro hc hw
    refine comp_map (fun d => .bl (isEnd d)) (fun d hd k hk => ?_) (by simp; omega) ⟨es.map isEnd, ?_, ?_⟩
    · exact isc_i (he d hd) hk
    · simp
    · have e : (es.map isEnd).all id = es.all isEnd := by simp [List.all_map, Function.comp_def]
      rw [e]
      cases ha : es.all isEnd with
      | true => exact h2 hc hw ha
      | false => exact h1 hc (by rw [ha, Bool.and_false])
  refine look_three_i ho h0 fun hc => ?_
  have no : isWay i = false → Ed "BadIntent" := fun z => h1 hc (by rw [z]; rfl)
  have go : ∀ δ, δ = [some (.v c), some (.v i), some (.v (.tup es)), none] → wBk Ed (B_look_intent.drop 1) ⟨fun _ => q (.v .non), q, fun _ => False, fun _ => False⟩ δ := by
    rintro δ rfl
    obtain ⟨hb, hp⟩ := hI
    cases i <;> try first | exact no rfl | (simp [basic, tyD] at hb; done)
    rename_i s
    have r := rest hc
    have e : isWay (.str s) = intD.any fun z => eqD z (.str s) := rfl
    rw [e] at no r
    refine ⟨trivial, hp, plain_int, ?_⟩
    show asB (.v (.bl (true ^^ intD.any fun z => eqD z (.str s)))) _
    cases hw : (intD.any fun z => eqD z (.str s)) with
    | false => exact no hw
    | true => exact r hw
  exact go _ rfl
theorem vc_law_ends : VC 4 [false] S_law_ends B_law_ends := by
  intro ds q Ed hl h
  unfold S_law_ends at h
  obtain ⟨rfl, h⟩ := h
  have pk : ∀ (δ : Sl) (k : D → Prop) (i : Option DV), δ = [some (.v .town), none, i, none] → (∀ b : Int, 0 ≤ b → b < 400 → k (.int b)) → co false (wE (fun _ => False) (.call "_law_pick" [false, false] S_law_pick [] [.var 0, .lst [.int 0, .int 0, .call "_law_draw" [false, false] S_draw [] [.var 0, .int 400]]])) δ k := by
    rintro δ k i rfl hk
    refine draw_i (by decide) (by decide) fun d h0 h1 => pick_i (by simp) (by simp) fun x hx => ?_
    simp only [List.mem_cons, List.not_mem_nil, or_false] at hx
    rcases hx with rfl | rfl | rfl
    · exact hk 0 (by decide) (by decide)
    · exact hk 0 (by decide) (by decide)
    · exact hk d h0 h1
  have rest : ∀ x y z : Int, (0 ≤ x ∧ x < 400) → (0 ≤ y ∧ y < 400) → (0 ≤ z ∧ z < 400) → wBk Ed (B_law_ends.drop 1) ⟨fun _ => q (.v .non), q, fun _ => False, fun _ => False⟩ [some (.v .town), some (.v (.lst [.int x, .int y, .int z])), none, none] := by
    intro x y z hx hy hz
    refine draw_i (by omega) (by omega) fun a a0 a1 => ⟨by decide, ?_⟩
    refine draw_i (by omega) (by omega) fun b b0 b1 => ⟨(by show 1 ≤ 1000000; decide), ?_⟩
    refine draw_i (by omega) (by omega) fun c c0 c1 => ⟨(by show 2 ≤ 1000000; decide), ?_⟩
    refine h ⟨x + 1 + a, y + 1 + b, z + 1 + c⟩ ⟨x, y, z⟩ ⟨fun k => ?_, fun k => ?_, fun k => ?_⟩ <;> unfold I3.at <;> split <;> dsimp only <;> omega
  refine ⟨by decide, by decide, ?_⟩
  refine pk _ _ _ rfl fun x x0 x1 => ⟨by decide, ?_⟩
  refine pk _ _ _ rfl fun y y0 y1 => ⟨(by show 1 ≤ 1000000; decide), ?_⟩
  refine pk _ _ _ rfl fun z z0 z1 => ⟨(by show 2 ≤ 1000000; decide), ?_⟩
  exact rest x y z ⟨x0, x1⟩ ⟨y0, y1⟩ ⟨z0, z1⟩
theorem one_led_i {q : DV → Prop} {Ed : Str → Prop} {s : Way} {x w b w' b' : Rat} {n : Nat} (hx : RSz n x) (hn : n ≤ 4000) (hw : RSz 10 w) (hb : RSz 10 b) (hw' : RSz 10 w') (hb' : RSz 10 b') (h0 : w ≠ 0) (h1 : w - b ≠ 0) (hq : q (.v (sh (led1 s x w b w' b')))) :
    S_one_led [sh x, .str s.word, .tup [sh w, sh b], .tup [sh w', sh b']] q Ed := by unfold S_one_led; exact ⟨s, x, w, b, w', b', n, rfl, hx, hn, hw, hb, hw', hb', h0, h1, hq⟩
theorem vc_one_led : VC 9 [false, false, false, false] S_one_led B_one_led := by
  intro ds q Ed hl h
  unfold S_one_led at h
  obtain ⟨s, x, w, b, w', b', n, rfl, hx, hn, hw, hb, hw', hb', h0, h1, h⟩ := h
  have go : ∀ δ, δ = [some (.v (sh x)), some (.v (.str s.word)), some (.v (.tup [sh w, sh b])), some (.v (.tup [sh w', sh b'])), some (.v (sh w)), some (.v (sh b)), some (.v (sh w')), some (.v (sh b')), none] → wBk Ed (B_one_led.drop 2) ⟨fun _ => q (.v .non), q, fun _ => False, fun _ => False⟩ δ := by
    rintro δ rfl
    cases s with
    | same => exact ⟨by decide +kernel, by decide +kernel, h⟩
    | white =>
      refine ⟨by decide +kernel, by decide +kernel, ?_⟩
      refine ⟨by decide +kernel, by decide +kernel, ?_⟩
      refine by_i h0 hw' hw (by decide) ?_
      exact times_i hx (rsz_by h0 hw' hw) (by omega) h
    | squeezed =>
      refine ⟨by decide +kernel, by decide +kernel, ?_⟩
      refine ⟨by decide +kernel, by decide +kernel, ?_⟩
      refine ⟨by decide +kernel, by decide +kernel, ?_⟩
      refine minus_i hx hb (by omega) ?_
      refine minus_i hw hb (by omega) ?_
      have s1 := rsz_sub hx hb
      have s2 := rsz_sub hw hb
      refine by_i h1 s1 s2 (by omega) ?_
      have s3 := rsz_by h1 s1 s2
      refine minus_i hw' hb' (by omega) ?_
      have s4 := rsz_sub hw' hb'
      refine times_i s3 s4 (by omega) ?_
      exact plus_i hb' (rsz_mul s3 s4) (by omega) h
    | clipped =>
      refine ⟨by decide +kernel, by decide +kernel, ?_⟩
      refine ⟨by decide +kernel, by decide +kernel, ?_⟩
      refine ⟨by decide +kernel, by decide +kernel, ?_⟩
      refine is_less_i hx hb' (by omega) ?_
      by_cases c : x < b'
      · have e : led1 .clipped x w b w' b' = b' := by simp [led1, c]
        rw [e] at h
        exact bspd (fun _ => h) (fun z => absurd c z)
      · refine bspd (fun z => absurd z c) (fun _ => ?_)
        refine is_less_i hw' hx (by omega) ?_
        by_cases d : w' < x
        · have e : led1 .clipped x w b w' b' = w' := by simp [led1, c, d]
          rw [e] at h
          exact bspd (fun _ => h) (fun z => absurd d z)
        · have e : led1 .clipped x w b w' b' = x := by simp [led1, c, d]
          rw [e] at h
          exact bspd (fun z => absurd z d) (fun _ => h)
  exact go _ rfl
end TT

set_option Elab.async false
set_option linter.all false
set_option maxRecDepth 100000
set_option autoImplicit false
set_option maxHeartbeats 1000000
namespace TT
open PySem PySem.Spec L2
def pk3 (x y z : Rat) : Nat → Rat
  | 0 => x
  | 1 => y
  | _ => z
abbrev R_led : List Sx := [.setv 6 (.tup [.ix (.meth "Ends" "whites" [] S_Ends_whites [] (.var 2) []) (.var 5), .ix (.meth "Ends" "blacks" [] S_Ends_blacks [] (.var 2) []) (.var 5)]), .app 4 (.call "one_led" [false, false, false, false] S_one_led [] [.ix (.var 0) (.var 5), .var 1, .var 6, .tup [.ix (.meth "Ends" "whites" [] S_Ends_whites [] (.var 3) []) (.var 5), .ix (.meth "Ends" "blacks" [] S_Ends_blacks [] (.var 3) []) (.var 5)]])]
theorem pk3_sz {x y z : Rat} {n : Nat} (hx : RSz n x) (hy : RSz n y) (hz : RSz n z) (k : Nat) : RSz n (pk3 x y z k) := by
  unfold pk3; split <;> assumption
theorem led_turn {Ed : Str → Prop} {K : Kn} {s : Way} {x y z : Rat} {w b w' b' : I3} {n : Nat} {own : List D} {o6 : Option DV} (k : Nat) (hk : k < 3) (hx : RSz n x) (hy : RSz n y) (hz : RSz n z) (hn : n ≤ 4000) (h : EndOk w b) (h' : EndOk w' b') (ho : own.length ≤ 1000)
    (hK : ∀ o6, K.nx [some (.v (three x y z)), some (.v (.str s.word)), some (.v (endsD w b)), some (.v (endsD w' b')), some (.own (.lst (own ++ [sh (led1 s (pk3 x y z k) (w.at k) (b.at k) (w'.at k) (b'.at k))]))), some (.v (.int (k : Int))), o6]) :
    wBk Ed R_led K [some (.v (three x y z)), some (.v (.str s.word)), some (.v (endsD w b)), some (.v (endsD w' b')), some (.own (.lst own)), some (.v (.int (k : Int))), o6] := by
  have sx := pk3_sz hx hy hz k
  have l1 : own.length ≤ 1000000 := by omega
  obtain rfl | rfl | rfl : k = 0 ∨ k = 1 ∨ k = 2 := by omega
  all_goals
    refine ⟨⟨_, rfl, rfl⟩, whites_i ?_⟩
    refine ⟨⟨_, rfl, rfl⟩, blacks_i ?_⟩
    dsimp only [coM]
    refine ⟨⟨_, rfl, rfl⟩, whites_i ?_⟩
    refine ⟨⟨_, rfl, rfl⟩, blacks_i ?_⟩
  · exact one_led_i sx hn (h.wsz 0) (h.bsz 0) (h'.wsz 0) (h'.bsz 0) (h.w0 0) (h.d0 0) ⟨l1, hK _⟩
  · exact one_led_i sx hn (h.wsz 1) (h.bsz 1) (h'.wsz 1) (h'.bsz 1) (h.w0 1) (h.d0 1) ⟨l1, hK _⟩
  · exact one_led_i sx hn (h.wsz 2) (h.bsz 2) (h'.wsz 2) (h'.bsz 2) (h.w0 2) (h.d0 2) ⟨l1, hK _⟩
theorem vc_led_worth : VC 7 [false, false, false, false] S_led_worth B_led_worth := by
  intro ds q Ed hl h
  unfold S_led_worth at h
  obtain ⟨c, i, h, t, rfl, ho, hI, e1, e2, h0, h1, h2⟩ := h
  refine look_intent_i (es := [h, t]) ho hI (by simp) (by simp [e1, e2]) h0 (fun hc z => h1 hc ?_) fun hc hw ha => ?_
  · simpa [List.all] using z
  have ha : isEnd h = true ∧ isEnd t = true := by simpa [List.all] using ha
  obtain ⟨s, x, y, z, w, b, w', b', n, rfl, rfl, rfl, rfl, hx, hy, hz, hn, he, he', h⟩ := h2 hc hw ha.1 ha.2
  have go : ∀ δ, δ = [some (.v (three x y z)), some (.v (.str s.word)), some (.v (endsD w b)), some (.v (endsD w' b')), some (.own (.lst [])), none, none] → wBk Ed (B_led_worth.drop 2) ⟨fun _ => q (.v .non), q, fun _ => False, fun _ => False⟩ δ := by
    rintro δ rfl
    refine ⟨by decide, by decide, ?_⟩
    refine led_turn 0 (by decide) hx hy hz hn he he' (by decide) fun o6 => ?_
    refine led_turn 1 (by decide) hx hy hz hn he he' (by show 1 ≤ 1000; decide) fun o6 => ?_
    refine led_turn 2 (by decide) hx hy hz hn he he' (by show 2 ≤ 1000; decide) fun o6 => ?_
    exact h
  exact go _ rfl
theorem vc_is_between : VC 5 [false, false] S_is_between B_is_between := by
  intro ds q Ed hl h
  unfold S_is_between at h
  obtain ⟨c, t, rfl, ho, e1, hb, h0, h1⟩ := h
  refine look_intent_i (i := .str "same") (es := [t]) ho ⟨rfl, by decide +kernel⟩ (by simp) (by simp [e1]) h0 (fun hc z => h1 hc ?_) fun hc hw ha => ?_
  · have : isWay (.str "same") = true := by decide +kernel
    rw [this] at z
    simpa [List.all] using z
  · have ha : isEnd t = true := by simpa [List.all] using ha
    rw [hc, ha] at hb
    cases hb
end TT

set_option Elab.async false
set_option linter.all false
set_option maxRecDepth 100000
set_option autoImplicit false
set_option maxHeartbeats 4000000
namespace TT
open PySem PySem.Spec L2
/-! ### the name of a refusal; odd shares -/
def wordL : List (Str × Str) := [("BadNumber", "number"), ("BadShare", "share"), ("BadCurve", "curve"), ("BadSquare", "square"), ("NoBack", "back"), ("BadGrid", "grid"), ("BadColour", "colour"), ("BadIntent", "intent"), ("BadProfile", "profile"), ("BadInk", "ink"), ("BadText", "text")]
@[irreducible] def S_law_refusal : DS := fun ds q _ => ∃ c w, ds = [.err c] ∧ (c, w) ∈ wordL ∧ q (.v (.str w))
def B_law_refusal : List Sx := [
  .setv 1 (.lst [.p1 (.isx "BadNumber") (.var 0), .p1 (.isx "BadShare") (.var 0), .p1 (.isx "BadCurve") (.var 0)]),
  .setv 1 (.bin .add (.var 1) (.lst [.p1 (.isx "BadSquare") (.var 0), .p1 (.isx "NoBack") (.var 0), .p1 (.isx "BadGrid") (.var 0)])),
  .setv 1 (.bin .add (.var 1) (.lst [.p1 (.isx "BadColour") (.var 0), .p1 (.isx "BadIntent") (.var 0), .p1 (.isx "BadProfile") (.var 0)])),
  .setv 1 (.bin .add (.var 1) (.lst [.p1 (.isx "BadInk") (.var 0), .p1 (.isx "BadText") (.var 0)])),
  .ifs (.ors [.cmp .ne (.p2 .cnt (.var 1) (.bl true)) (.int 1), .not (.p1 (.isx "TintError") (.var 0)), .not (.p1 (.isx "ValueError") (.var 0))]) [.ret (.str "odd")] [],
  .setv 2 (.lst [.str "number", .str "share", .str "curve", .str "square", .str "back", .str "grid", .str "colour", .str "intent", .str "profile", .str "ink", .str "text"]),
  .ret (.ix (.var 2) (.p2 .idx (.var 1) (.bl true)))]
theorem err_mem {c w : Str} (h : (c, w) ∈ wordL) : c ∈ errNames := by
  simp only [wordL, List.mem_cons, List.not_mem_nil, or_false, Prod.mk.injEq] at h
  rcases h with ⟨rfl, _⟩ | ⟨rfl, _⟩ | ⟨rfl, _⟩ | ⟨rfl, _⟩ | ⟨rfl, _⟩ | ⟨rfl, _⟩ | ⟨rfl, _⟩ | ⟨rfl, _⟩ | ⟨rfl, _⟩ | ⟨rfl, _⟩ | ⟨rfl, _⟩ <;> decide
def errIx (c : Str) : List Bool := [isE c "BadNumber", isE c "BadShare", isE c "BadCurve", isE c "BadSquare", isE c "NoBack", isE c "BadGrid", isE c "BadColour", isE c "BadIntent", isE c "BadProfile", isE c "BadInk", isE c "BadText"]
def wordsD : List D := [.str "number", .str "share", .str "curve", .str "square", .str "back", .str "grid", .str "colour", .str "intent", .str "profile", .str "ink", .str "text"]
theorem ref_facts {c w : Str} (h : (c, w) ∈ wordL) : (errIx c).count true = 1 ∧ ∃ j : Nat, (errIx c)[j]? = some true ∧ (∀ m, m < j → (errIx c)[m]? = some false) ∧ wordsD[j]? = some (.str w) := by
  simp only [wordL, List.mem_cons, List.not_mem_nil, or_false, Prod.mk.injEq] at h
  rcases h with ⟨rfl, rfl⟩ | ⟨rfl, rfl⟩ | ⟨rfl, rfl⟩ | ⟨rfl, rfl⟩ | ⟨rfl, rfl⟩ | ⟨rfl, rfl⟩ | ⟨rfl, rfl⟩ | ⟨rfl, rfl⟩ | ⟨rfl, rfl⟩ | ⟨rfl, rfl⟩ | ⟨rfl, rfl⟩
  · exact ⟨by decide, 0, by decide, by decide, rfl⟩
  · exact ⟨by decide, 1, by decide, by decide, rfl⟩
  · exact ⟨by decide, 2, by decide, by decide, rfl⟩
  · exact ⟨by decide, 3, by decide, by decide, rfl⟩
  · exact ⟨by decide, 4, by decide, by decide, rfl⟩
  · exact ⟨by decide, 5, by decide, by decide, rfl⟩
  · exact ⟨by decide, 6, by decide, by decide, rfl⟩
  · exact ⟨by decide, 7, by decide, by decide, rfl⟩
  · exact ⟨by decide, 8, by decide, by decide, rfl⟩
  · exact ⟨by decide, 9, by decide, by decide, rfl⟩
  · exact ⟨by decide, 10, by decide, by decide, rfl⟩
theorem vc_law_refusal : VC 3 [false] S_law_refusal B_law_refusal := by
  intro ds q Ed hl h
  unfold S_law_refusal at h
  obtain ⟨c, w, rfl, hc, h⟩ := h
  have m := err_mem hc
  obtain ⟨h1, j, h2, h3, h4⟩ := ref_facts hc
  refine ⟨m, m, m, m, m, m, ⟨by simp, ?_⟩⟩
  refine ⟨m, m, m, ⟨by simp, ?_⟩⟩
  refine ⟨m, m, ⟨by simp, ?_⟩⟩
  show wBk Ed (B_law_refusal.drop 4) _ [some (.v (.err c)), some (.v (.lst ((errIx c).map D.bl))), none]
  refine ⟨trivial, errIx c, rfl, rfl, rfl, ?_⟩
  rw [h1]
  refine ⟨m, ?_⟩
  have e : isE c "TintError" = true := by simp [isE]
  have e2 : isE c "ValueError" = true := by simp [isE]
  rw [e]
  refine ⟨m, ?_⟩
  rw [e2]
  refine ⟨trivial, errIx c, j, rfl, h2, ?_, ?_⟩
  · exact h3
  · show opIx (.lst wordsD) (.int (j : Nat)) _
    have e3 : atI wordsD (j : Int) = some (.str w) := atI_nat h4
    dsimp only [opIx]
    rw [e3]
    exact h
theorem refusal_i {c w : Str} {q : DV → Prop} {Ed : Str → Prop} (h : (c, w) ∈ wordL) (hq : q (.v (.str w))) : S_law_refusal [.err c] q Ed := by unfold S_law_refusal; exact ⟨c, w, rfl, h, hq⟩
/-! odd shares -/
def oddSh : List D := [.non, .int 5, .bl true, .tup [.int 1], .tup [.int 2, .int 4], .tup [.int 1, .int 0], .tup [.int 1, .int (-1)], .lst [.int 1, .int 2], .tup [.bl true, .int 1], .tup [.int 0, .int 2], .str "1", .tup [.int 1, .int 2, .int 3]]
@[irreducible] def S_law_odd_shares : DS := fun ds q _ => ds = [.town] ∧ ∀ d ∈ oddSh, q (.v d)
def B_law_odd_shares : List Sx := [
  .ret (.call "_law_pick" [false, false] S_law_pick [] [.var 0, .lst [.non, .int 5, .bl true, .tup [.int 1], .tup [.int 2, .int 4], .tup [.int 1, .int 0], .tup [.int 1, .bin .sub (.int 0) (.int 1)], .lst [.int 1, .int 2], .tup [.bl true, .int 1], .tup [.int 0, .int 2], .str "1", .tup [.int 1, .int 2, .int 3]]])]
theorem vc_law_odd_shares : VC 1 [false] S_law_odd_shares B_law_odd_shares := by
  intro ds q Ed hl h
  unfold S_law_odd_shares at h
  obtain ⟨rfl, h⟩ := h
  exact pick_i (by decide) (by decide) h
theorem odd_i {q : DV → Prop} {Ed : Str → Prop} (hq : ∀ d ∈ oddSh, q (.v d)) : S_law_odd_shares [.town] q Ed := by unfold S_law_odd_shares; exact ⟨rfl, hq⟩
theorem odd_no {d : D} (h : d ∈ oddSh) : isSh d = false := by
  simp only [oddSh, List.mem_cons, List.not_mem_nil, or_false] at h
  rcases h with rfl | rfl | rfl | rfl | rfl | rfl | rfl | rfl | rfl | rfl | rfl | rfl <;> decide
theorem odd_ok {d : D} (h : d ∈ oddSh) : okSh d := by
  have z : ∀ i : Int, i.natAbs < 4096 → Sz 9000 i := fun i hi => sz12 hi (by decide)
  simp only [oddSh, List.mem_cons, List.not_mem_nil, or_false] at h
  rcases h with rfl | rfl | rfl | rfl | rfl | rfl | rfl | rfl | rfl | rfl | rfl | rfl
  · rfl
  · rfl
  · rfl
  · intro e; simp at e
  · refine fun _ => ⟨by simp [basic, tyD], fun t b e => ?_⟩
    cases e; exact z _ (by decide)
  · refine fun _ => ⟨by simp [basic, tyD], fun t b e => ?_⟩
    cases e; exact z _ (by decide)
  · refine fun _ => ⟨by simp [basic, tyD], fun t b e => ?_⟩
    cases e; exact z _ (by decide)
  · rfl
  · refine fun _ => ⟨by simp [basic, tyD], fun t b e => ?_⟩
    cases e
  · refine fun _ => ⟨by simp [basic, tyD], fun t b e => ?_⟩
    cases e; exact z _ (by decide)
  · rfl
  · intro e; simp at e
end TT

set_option Elab.async false
set_option linter.all false
set_option maxRecDepth 100000
set_option autoImplicit false
set_option maxHeartbeats 1000000
namespace TT
open PySem PySem.Spec L2
/-- a law keeps its word -/
def LC (k : Nat) (B : List Sx) : Prop := wBk (fun _ => False) B ⟨fun _ => False, fun dv => dv = .v (.bl true), fun _ => False, fun _ => False⟩ ((List.replicate k none).set 1 (some (.v .town)))
abbrev KL : Kn := ⟨fun _ => False, fun dv => dv = .v (.bl true), fun _ => False, fun _ => False⟩
abbrev F0 : Str → Prop := fun _ => False
theorem asB_eq {b : Bool} {q : Bool → Prop} (e : b = true) (h : q true) : asB (.v (.bl b)) q := by subst e; exact h
theorem asB_ne {b : Bool} {q : Bool → Prop} (e : b = true) (h : q false) : asB (.v (.bl (!b))) q := by subst e; exact h
@[irreducible] def S_law_share : DS := fun ds q _ => ∃ cap : Int, ds = [.town, .int cap] ∧ 1 ≤ cap ∧ cap ≤ 1000 ∧ ∀ u : Rat, 0 ≤ u → u ≤ cap → RSz 17 u → q (.v (sh u))
@[irreducible] def S_law_three : DS := fun ds q _ => ∃ cap : Int, ds = [.town, .int cap] ∧ 1 ≤ cap ∧ cap ≤ 1000 ∧ ∀ x y z : Rat, RSz 17 x → RSz 17 y → RSz 17 z → q (.v (three x y z))
@[irreducible] def S_law_made : DS := fun ds q _ => ∃ d e, ds = [d, e] ∧ okEn d ∧ okEn e ∧ (fineE d e = false → q (.v (.str "intent"))) ∧ (∀ w b, d = i3 w → e = i3 b → EndOk w b → q (.v (.str "told")))
@[irreducible] def S_law_told : DS := fun ds q _ => ∃ c i h t, ds = [c, i, h, t] ∧ okC c ∧ okIn i ∧ okEnd h ∧ okEnd t ∧ (isC c = false → q (.v (.str "colour"))) ∧
  (t = .non → (isC c && isEnd h) = false ∧ (isC c = true → isEnd h = false → q (.v (.str "intent")))) ∧
  (t ≠ .non → (isC c = true → (isWay i && (isEnd h && isEnd t)) = false → q (.v (.str "intent"))) ∧ (isC c = true → isWay i = true → isEnd h = true → isEnd t = true →
    (∃ (s : Way) (x y z : Rat) (w b w' b' : I3) (n : Nat), c = three x y z ∧ i = .str s.word ∧ h = endsD w b ∧ t = endsD w' b' ∧ RSz n x ∧ RSz n y ∧ RSz n z ∧ n ≤ 4000 ∧ EndOk w b ∧ EndOk w' b') ∧ q (.v (.str "told"))))
def B_law_share : List Sx := [
  .setv 2 (.call "_law_pick" [false, false] S_law_pick [] [.var 0, .lst [.int 1, .int 1, .int 2, .int 3, .int 7, .int 60]]),
  .ret (.call "_law_pick" [false, false] S_law_pick [] [.var 0, .bin .add (.bin .mul (.lst [.call "_law_low" [false, false] S_lowest [] [.call "_law_draw" [false, false] S_draw [] [.var 0, .bin .add (.bin .mul (.var 1) (.var 2)) (.int 1)], .var 2]]) (.int 4)) (.lst [.tup [.int 0, .int 1], .tup [.var 1, .int 1]])])]
def B_law_three : List Sx := [
  .ifs (.cmp .eq (.call "_law_draw" [false, false] S_draw [] [.var 0, .int 6]) (.int 0)) [.ret (.bin .mul (.tup [.call "_law_share" [false, false] S_law_share [] [.var 0, .var 1]]) (.int 3))] [],
  .ret (.tup [.call "_law_share" [false, false] S_law_share [] [.var 0, .var 1], .call "_law_share" [false, false] S_law_share [] [.var 0, .var 1], .call "_law_share" [false, false] S_law_share [] [.var 0, .var 1]])]
def B_law_made : List Sx := [
  .setv 2 (.non),
  .tryK [.expr (.mkK "Ends" [false, false] S_Ends___init__ ["white", "black"] [] [.var 0, .var 1])] "TintError" 3 2,
  .ret (.ite (.isN (.var 2)) (.str "told") (.call "_law_refusal" [false] S_law_refusal [] [.var 2]))]
def B_law_told : List Sx := [
  .setv 4 (.non),
  .tryK [.ifs (.isN (.var 3)) [.expr (.call "is_between" [false, false] S_is_between [] [.var 0, .var 2])] [.expr (.callK "led_worth" [false, false, false, false] S_led_worth ["here", "there"] [] [.var 0, .var 1] [.var 2, .var 3])]] "TintError" 5 4,
  .ret (.ite (.isN (.var 4)) (.str "told") (.call "_law_refusal" [false] S_law_refusal [] [.var 4]))]
def B_law : List Sx := [
  .tgt (.tp [.nm 2, .nm 3]) (.call "_law_ends" [false] S_law_ends [] [.var 1]),
  .forr (.nm 4) (.seq (.lst [.non, .int 5, .p2 .cutL (.var 2) (.int 2), .blt .list [.var 2], .tup [.int 1001, .int 1000, .int 1000], .tup [.bl true, .int 5, .int 5], .tup [.int 0, .int 5, .int 5], .tup [.int 5, .non, .int 5], .tup [.bin .sub (.int 0) (.int 1), .int 5, .int 5]])) [.ifs (.ors [.cmp .ne (.call "_law_made" [false, false] S_law_made [] [.var 4, .tup [.int 0, .int 0, .int 0]]) (.str "intent"), .ands [.cmp .ne (.var 4) (.tup [.int 0, .int 5, .int 5]), .cmp .ne (.call "_law_made" [false, false] S_law_made [] [.tup [.int 1000, .int 1000, .int 1000], .var 4]) (.str "intent")]]) [.ret (.bl false)] []],
  .ifs (.ors [.cmp .ne (.call "_law_made" [false, false] S_law_made [] [.var 3, .var 3]) (.str "intent"), .cmp .ne (.call "_law_made" [false, false] S_law_made [] [.var 2, .var 2]) (.str "intent"), .cmp .ne (.call "_law_made" [false, false] S_law_made [] [.var 2, .var 3]) (.str "told")]) [.ret (.bl false)] [],
  .setv 5 (.mkK "Ends" [false, false] S_Ends___init__ ["white"] [.tup [.int 0, .int 0, .int 0]] [.var 2]),
  .setv 6 (.call "_law_three" [false, false] S_law_three [] [.var 1, .int 1000]),
  .forr (.nm 7) (.rng (.int 6)) [.setv 8 (.call "_law_pick" [false, false] S_law_pick [] [.var 1, .lst [.non, .int 5, .p2 .cutL (.var 6) (.int 2), .blt .list [.var 6], .tup [.int 1, .int 2, .int 3], .tup [.ix (.var 6) (.int 0), .ix (.var 6) (.int 1), .call "_law_odd_shares" [false] S_law_odd_shares [] [.var 1]]]]), .setv 4 (.call "_law_pick" [false, false] S_law_pick [] [.var 1, .lst [.str "Same", .str "", .non, .int 5, .lst [.str "same"], .str "grey"]]), .setv 9 (.call "_law_pick" [false, false] S_law_pick [] [.var 1, .lst [.int 5, .str "ends", .var 2, .dic0]]), .setv 10 (.lst [.call "_law_told" [false, false, false, false] S_law_told [] [.var 8, .var 4, .var 9, .var 9], .call "_law_told" [false, false, false, false] S_law_told [] [.var 8, .str "", .var 9, .non], .call "_law_told" [false, false, false, false] S_law_told [] [.var 6, .var 4, .var 9, .var 5]]), .setv 10 (.bin .add (.var 10) (.lst [.call "_law_told" [false, false, false, false] S_law_told [] [.var 6, .str "same", .var 9, .var 5], .call "_law_told" [false, false, false, false] S_law_told [] [.var 6, .str "same", .var 5, .var 9]])), .ifs (.cmp .ne (.bin .add (.var 10) (.lst [.call "_law_told" [false, false, false, false] S_law_told [] [.var 6, .str "", .var 9, .non]])) (.bin .add (.lst [.str "colour", .str "colour"]) (.bin .mul (.lst [.str "intent"]) (.int 4)))) [.ret (.bl false)] []],
  .ret (.cmp .eq (.comp [("_law_word", 11)] (.nm 11) (.seq (.lst [.str "same", .str "white", .str "squeezed", .str "clipped"])) none (.call "_law_told" [false, false, false, false] S_law_told [] [.var 6, .var 11, .var 5, .var 5])) (.bin .mul (.lst [.str "told"]) (.int 4)))]
theorem law_share_i {cap : Int} {q : DV → Prop} {Ed : Str → Prop} (h1 : 1 ≤ cap) (h2 : cap ≤ 1000) (hq : ∀ u : Rat, 0 ≤ u → u ≤ cap → RSz 17 u → q (.v (sh u))) : S_law_share [.town, .int cap] q Ed := by unfold S_law_share; exact ⟨cap, rfl, h1, h2, hq⟩
theorem div_bounds {t b cap : Int} (hb : 0 < b) (h0 : 0 ≤ t) (h1 : t ≤ cap * b) : (0 : Rat) ≤ Rat.divInt t b ∧ Rat.divInt t b ≤ cap := by
  have hb' : (0 : Rat) < b := by exact_mod_cast hb
  rw [Rat.divInt_eq_div]
  refine ⟨?_, ?_⟩
  · rw [Rat.div_def]
    exact Rat.mul_nonneg (by exact_mod_cast h0) (Rat.le_of_lt (Rat.inv_pos.mpr hb'))
  · refine Rat.not_lt.mp (mt (Rat.lt_div_iff hb').mp (Rat.not_lt.mpr ?_))
    exact_mod_cast h1
theorem vc_law_share : VC 3 [false, false] S_law_share B_law_share := by
  intro ds q Ed hl h
  unfold S_law_share at h
  obtain ⟨cap, rfl, h1, h2, h⟩ := h
  refine pick_i (by decide) (by decide) fun d hd => ?_
  obtain ⟨b, rfl, b1, b2⟩ : ∃ b : Int, d = .int b ∧ 1 ≤ b ∧ b ≤ 60 := by
    simp only [List.mem_cons, List.not_mem_nil, or_false] at hd
    rcases hd with rfl | rfl | rfl | rfl | rfl | rfl <;> exact ⟨_, rfl, by decide, by decide⟩
  have zc : Sz 10 cap := sz_of (m := 1024) (by omega) (by decide)
  have zb : Sz 10 b := sz_of (m := 1024) (by omega) (by decide)
  have hcb : cap * b ≤ 1000 * 60 := Int.mul_le_mul h2 b2 (by omega) (by omega)
  have hcb0 : 0 < cap * b := Int.mul_pos (by omega) (by omega)
  refine ⟨⟨10, 10, zc, zb, by decide⟩, ?_⟩
  refine draw_i (by omega) (by omega) fun t t0 t1 => ?_
  refine lowest_i (by omega) (zb.mono (by decide)) ?_
  obtain ⟨l0, l1⟩ := div_bounds (cap := cap) (show 0 < b by omega) t0 (by omega)
  have hz : RSz 17 (Rat.divInt t b) := rsz_div (by omega) (sz_of (m := 131072) (by omega) (by decide)) (zb.mono (by decide))
  have hs : ∀ d ∈ [sh (Rat.divInt t b), sh (Rat.divInt t b), sh (Rat.divInt t b), sh (Rat.divInt t b), .tup [.int 0, .int 1], .tup [.int cap, .int 1]], q (.v d) := by
    have q1 := h _ l0 l1 hz
    have q2 := h 0 Rat.le_refl (by exact_mod_cast (show (0 : Int) ≤ cap by omega)) ⟨by unfold Sz; decide, by unfold Sz; decide⟩
    have q3 := h cap (by exact_mod_cast (show (0 : Int) ≤ cap by omega)) Rat.le_refl (rszI (zc.mono (by decide)) (by decide))
    intro d hd
    simp only [List.mem_cons, List.not_mem_nil, or_false] at hd
    rcases hd with rfl | rfl | rfl | rfl | rfl | rfl
    · exact q1
    · exact q1
    · exact q1
    · exact q1
    · exact q2
    · rw [shI]; exact q3
  refine ⟨by decide, by decide, by simp, ?_⟩
  refine ⟨by simp, ?_⟩
  exact pick_i (xs := [sh (Rat.divInt t b), sh (Rat.divInt t b), sh (Rat.divInt t b), sh (Rat.divInt t b), .tup [.int 0, .int 1], .tup [.int cap, .int 1]]) (by simp) (by simp) hs
theorem vc_law_three : VC 2 [false, false] S_law_three B_law_three := by
  intro ds q Ed hl h
  unfold S_law_three at h
  obtain ⟨cap, rfl, h1, h2, h⟩ := h
  refine draw_i (by decide) (by decide) fun d d0 d1 => ?_
  refine ⟨rfl, rfl, ?_⟩
  dsimp only [asB]
  refine bsp (fun e => ?_) (fun e => ?_)
  · refine law_share_i h1 h2 fun x x0 x1 sx => ?_
    refine ⟨by simp, by decide, by decide, by simp, ?_⟩
    exact h x x x sx sx sx
  · refine law_share_i h1 h2 fun x x0 x1 sx => ?_
    refine law_share_i h1 h2 fun y y0 y1 sy => ?_
    refine law_share_i h1 h2 fun z z0 z1 sz => ?_
    exact h x y z sx sy sz
theorem mem_col : ((("BadColour" : Str), ("colour" : Str)) : Str × Str) ∈ wordL := by decide
theorem mem_int : ((("BadIntent" : Str), ("intent" : Str)) : Str × Str) ∈ wordL := by decide
theorem init_i {q : DV → Prop} {Ed : Str → Prop} {d e : D} (hd : okEn d) (he : okEn e) (h0 : fineE d e = false → Ed "BadIntent") (h1 : ∀ w b, d = i3 w → e = i3 b → EndOk w b → q (.v (endsD w b))) : S_Ends___init__ [d, e] q Ed := by
  unfold S_Ends___init__; exact ⟨d, e, rfl, hd, he, h0, h1⟩
theorem vc_law_made : VC 4 [false, false] S_law_made B_law_made := by
  intro ds q Ed hl h
  unfold S_law_made at h
  obtain ⟨d, e, rfl, hd, he, h0, h1⟩ := h
  refine init_i hd he (fun hf => ⟨err_mem mem_int, ?_⟩) (fun w b e1 e2 hk => ?_)
  · exact refusal_i mem_int (h0 hf)
  · exact h1 w b e1 e2 hk
theorem vc_law_told : VC 6 [false, false, false, false] S_law_told B_law_told := by
  intro ds q Ed hl h
  unfold S_law_told at h
  obtain ⟨c, i, h, t, rfl, ho, hI, e1, e2, h0, hN, hS⟩ := h
  by_cases ht : t = .non
  · subst ht
    obtain ⟨n1, n2⟩ := hN rfl
    have go : ∀ (q' : DV → Prop) (Ed' : Str → Prop), (isC c = false → Ed' "BadColour") → (isC c = true → isEnd h = false → Ed' "BadIntent") → S_is_between [c, h] q' Ed' := by
      intro q' Ed' a b
      unfold S_is_between
      exact ⟨c, h, rfl, ho, e1, n1, a, b⟩
    refine go _ _ (fun z => ⟨err_mem mem_col, ?_⟩) (fun z z2 => ⟨err_mem mem_int, ?_⟩)
    · exact refusal_i mem_col (h0 z)
    · exact refusal_i mem_int (n2 z z2)
  · obtain ⟨s1, s2⟩ := hS ht
    have go : ∀ (q' : DV → Prop) (Ed' : Str → Prop), (isC c = false → Ed' "BadColour") → (isC c = true → (isWay i && (isEnd h && isEnd t)) = false → Ed' "BadIntent") → (∀ d, q (.v (.str "told")) → q' (.v d)) → S_led_worth [c, i, h, t] q' Ed' := by
      intro q' Ed' a b m
      unfold S_led_worth
      refine ⟨c, i, h, t, rfl, ho, hI, e1, e2, a, b, fun z1 z2 z3 z4 => ?_⟩
      obtain ⟨⟨s, x, y, z, w, b, w', b', n, r1, r2, r3, r4, hx, hy, hz, hn, k1, k2⟩, hq⟩ := s2 z1 z2 z3 z4
      exact ⟨s, x, y, z, w, b, w', b', n, r1, r2, r3, r4, hx, hy, hz, hn, k1, k2, m _ hq⟩
    clear hN hS s2
    cases t <;> first
      | exact absurd rfl ht
      | (refine go _ _ (fun z => ⟨err_mem mem_col, ?_⟩) (fun z z2 => ⟨err_mem mem_int, ?_⟩) (fun d hq => ?_)
         · exact refusal_i mem_col (h0 z)
         · exact refusal_i mem_int (s1 z z2)
         · exact hq)
theorem made_i {d e : D} {q : DV → Prop} {Ed : Str → Prop} (hd : okEn d) (he : okEn e) (hf : fineE d e = false) (hq : q (.v (.str "intent"))) : S_law_made [d, e] q Ed := by
  unfold S_law_made
  refine ⟨d, e, rfl, hd, he, fun _ => hq, fun w b e1 e2 hk => ?_⟩
  exfalso
  subst e1 e2
  have e0 : fineE (i3 w) (i3 b) = (((decide (3 = 3)) && (isW 0 1000 (.int w.x) && (isW 0 1000 (.int w.y) && (isW 0 1000 (.int w.z) && true)))) && (((decide (3 = 3)) && (isW 0 1000 (.int b.x) && (isW 0 1000 (.int b.y) && (isW 0 1000 (.int b.z) && true)))) && (decide (b.x < w.x) && (decide (b.y < w.y) && decide (b.z < w.z))))) := rfl
  have g : ∀ i : Int, 0 ≤ i → i ≤ 1000 → isW 0 1000 (.int i) = true := fun i h1 h2 => decide_eq_true ⟨h1, h2⟩
  have a0 := hk.lo 0; have a1 := hk.lo 1; have a2 := hk.lo 2
  have b0 := hk.lt 0; have b1 := hk.lt 1; have b2 := hk.lt 2
  have c0 := hk.hi 0; have c1 := hk.hi 1; have c2 := hk.hi 2
  have x0 : 0 ≤ b.x := a0
  have x1 : 0 ≤ b.y := a1
  have x2 : 0 ≤ b.z := a2
  have y0 : b.x < w.x := b0
  have y1 : b.y < w.y := b1
  have y2 : b.z < w.z := b2
  have z0 : w.x ≤ 1000 := c0
  have z1 : w.y ≤ 1000 := c1
  have z2 : w.z ≤ 1000 := c2
  rw [e0, g w.x (by omega) z0, g w.y (by omega) z1, g w.z (by omega) z2, g b.x x0 (by omega), g b.y x1 (by omega), g b.z x2 (by omega), decide_eq_true y0, decide_eq_true y1, decide_eq_true y2] at hf
  cases hf
theorem okEn_i3 {v : I3} : okEn (i3 v) := by
  refine ⟨by simp, fun d hd => ?_⟩
  simp only [List.mem_cons, List.not_mem_nil, or_false] at hd
  rcases hd with rfl | rfl | rfl <;> rfl
theorem made_t {w b : I3} {q : DV → Prop} {Ed : Str → Prop} (h : EndOk w b) (hq : q (.v (.str "told"))) : S_law_made [i3 w, i3 b] q Ed := by
  unfold S_law_made
  refine ⟨_, _, rfl, okEn_i3, okEn_i3, fun hf => ?_, fun _ _ _ _ _ => hq⟩
  exfalso
  have e0 : fineE (i3 w) (i3 b) = (((decide (3 = 3)) && (isW 0 1000 (.int w.x) && (isW 0 1000 (.int w.y) && (isW 0 1000 (.int w.z) && true)))) && (((decide (3 = 3)) && (isW 0 1000 (.int b.x) && (isW 0 1000 (.int b.y) && (isW 0 1000 (.int b.z) && true)))) && (decide (b.x < w.x) && (decide (b.y < w.y) && decide (b.z < w.z))))) := rfl
  have g : ∀ i : Int, 0 ≤ i → i ≤ 1000 → isW 0 1000 (.int i) = true := fun i h1 h2 => decide_eq_true ⟨h1, h2⟩
  have x0 : 0 ≤ b.x := h.lo 0
  have x1 : 0 ≤ b.y := h.lo 1
  have x2 : 0 ≤ b.z := h.lo 2
  have y0 : b.x < w.x := h.lt 0
  have y1 : b.y < w.y := h.lt 1
  have y2 : b.z < w.z := h.lt 2
  have z0 : w.x ≤ 1000 := h.hi 0
  have z1 : w.y ≤ 1000 := h.hi 1
  have z2 : w.z ≤ 1000 := h.hi 2
  rw [e0, g w.x (by omega) z0, g w.y (by omega) z1, g w.z (by omega) z2, g b.x x0 (by omega), g b.y x1 (by omega), g b.z x2 (by omega), decide_eq_true y0, decide_eq_true y1, decide_eq_true y2] at hf
  cases hf
def zeroI : I3 := ⟨0, 0, 0⟩
theorem zero_ok {w b : I3} (h : EndOk w b) : EndOk w zeroI := by
  refine ⟨fun k => ?_, fun k => ?_, h.hi⟩
  · unfold zeroI I3.at; split <;> decide
  · have e : zeroI.at k = 0 := by unfold zeroI I3.at; split <;> rfl
    rw [e]
    have := h.lo k
    have := h.lt k
    omega
/-- no whites, no blacks -/
def nine (w : I3) : List D := [.non, .int 5, .tup [.int w.x, .int w.y], .lst [.int w.x, .int w.y, .int w.z], .tup [.int 1001, .int 1000, .int 1000], .tup [.bl true, .int 5, .int 5], .tup [.int 0, .int 5, .int 5], .tup [.int 5, .non, .int 5], .tup [.int (0 - 1), .int 5, .int 5]]
theorem nine_no {w : I3} : ∀ d ∈ nine w, okEn d ∧ fineE d (i3 zeroI) = false ∧ plain 60 d = true ∧ (eqD d (.tup [.int 0, .int 5, .int 5]) = true ∨ fineE (i3 ⟨1000, 1000, 1000⟩) d = false) := by
  have f : ∀ d, is3 d = false → fineE d (i3 zeroI) = false ∧ fineE (i3 ⟨1000, 1000, 1000⟩) d = false := by
    intro d h
    unfold fineE
    rw [h]
    simp
  have bs : ∀ x y z : D, basic x = true → basic y = true → basic z = true → okEn (.tup [x, y, z]) := by
    intro x y z hx hy hz
    refine ⟨by simp, fun d hd => ?_⟩
    simp only [List.mem_cons, List.not_mem_nil, or_false] at hd
    rcases hd with rfl | rfl | rfl <;> assumption
  intro d hd
  simp only [nine, List.mem_cons, List.not_mem_nil, or_false] at hd
  rcases hd with rfl | rfl | rfl | rfl | rfl | rfl | rfl | rfl | rfl
  · exact ⟨rfl, (f _ rfl).1, rfl, .inr (f _ rfl).2⟩
  · exact ⟨rfl, (f _ rfl).1, rfl, .inr (f _ rfl).2⟩
  · refine ⟨⟨by simp, fun d hd => ?_⟩, (f _ rfl).1, rfl, .inr (f _ rfl).2⟩
    simp only [List.mem_cons, List.not_mem_nil, or_false] at hd
    rcases hd with rfl | rfl <;> rfl
  · exact ⟨rfl, (f _ rfl).1, rfl, .inr (f _ rfl).2⟩
  · exact ⟨bs _ _ _ rfl rfl rfl, (f _ (by decide)).1, rfl, .inr (f _ (by decide)).2⟩
  · exact ⟨bs _ _ _ rfl rfl rfl, (f _ (by decide)).1, rfl, .inr (f _ (by decide)).2⟩
  · exact ⟨bs _ _ _ rfl rfl rfl, by decide, rfl, .inl (by decide +kernel)⟩
  · exact ⟨bs _ _ _ rfl rfl rfl, (f _ (by decide)).1, rfl, .inr (f _ (by decide)).2⟩
  · exact ⟨bs _ _ _ rfl rfl rfl, (f _ (by decide)).1, rfl, .inr (f _ (by decide)).2⟩
theorem forr_x {Ed : Str → Prop} {t : Tg} {it : Itx} {b rest : List Sx} {K : Kn} {δ : Sl} (h : wI false Ed it δ (fun ds => forD t (wBk Ed b) ⟨wBk Ed rest K, K.rt, K.bk, K.ct⟩ ds δ)) : wBk Ed (.forr t it b :: rest) K δ := h
theorem seq_of {e : Ex} {Ed : Str → Prop} {δ : Sl} {l : List D} {q : List D → Prop} (h : ∀ P : DV → Prop, P (.own (.lst l)) → wE Ed e δ P) (hq : q l) : wI false Ed (.seq e) δ q := h _ hq
abbrev E18 : Ex := .lst [.non, .int 5, .p2 .cutL (.var 2) (.int 2), .blt .list [.var 2], .tup [.int 1001, .int 1000, .int 1000], .tup [.bl true, .int 5, .int 5], .tup [.int 0, .int 5, .int 5], .tup [.int 5, .non, .int 5], .tup [.bin .sub (.int 0) (.int 1), .int 5, .int 5]]
abbrev R4 : List Sx := [.ifs (.ors [.cmp .ne (.call "_law_made" [false, false] S_law_made [] [.var 4, .tup [.int 0, .int 0, .int 0]]) (.str "intent"), .ands [.cmp .ne (.var 4) (.tup [.int 0, .int 5, .int 5]), .cmp .ne (.call "_law_made" [false, false] S_law_made [] [.tup [.int 1000, .int 1000, .int 1000], .var 4]) (.str "intent")]]) [.ret (.bl false)] []]
abbrev R7 : List Sx := [.setv 8 (.call "_law_pick" [false, false] S_law_pick [] [.var 1, .lst [.non, .int 5, .p2 .cutL (.var 6) (.int 2), .blt .list [.var 6], .tup [.int 1, .int 2, .int 3], .tup [.ix (.var 6) (.int 0), .ix (.var 6) (.int 1), .call "_law_odd_shares" [false] S_law_odd_shares [] [.var 1]]]]), .setv 4 (.call "_law_pick" [false, false] S_law_pick [] [.var 1, .lst [.str "Same", .str "", .non, .int 5, .lst [.str "same"], .str "grey"]]), .setv 9 (.call "_law_pick" [false, false] S_law_pick [] [.var 1, .lst [.int 5, .str "ends", .var 2, .dic0]]), .setv 10 (.lst [.call "_law_told" [false, false, false, false] S_law_told [] [.var 8, .var 4, .var 9, .var 9], .call "_law_told" [false, false, false, false] S_law_told [] [.var 8, .str "", .var 9, .non], .call "_law_told" [false, false, false, false] S_law_told [] [.var 6, .var 4, .var 9, .var 5]]), .setv 10 (.bin .add (.var 10) (.lst [.call "_law_told" [false, false, false, false] S_law_told [] [.var 6, .str "same", .var 9, .var 5], .call "_law_told" [false, false, false, false] S_law_told [] [.var 6, .str "same", .var 5, .var 9]])), .ifs (.cmp .ne (.bin .add (.var 10) (.lst [.call "_law_told" [false, false, false, false] S_law_told [] [.var 6, .str "", .var 9, .non]])) (.bin .add (.lst [.str "colour", .str "colour"]) (.bin .mul (.lst [.str "intent"]) (.int 4)))) [.ret (.bl false)] []]
@[reducible] def row18 (w b : I3) (a0 o4 o5 o6 o7 o8 o9 o10 o11 : Option DV) : Sl := [a0, some (.v .town), some (.v (i3 w)), some (.v (i3 b)), o4, o5, o6, o7, o8, o9, o10, o11]
theorem fine_t {w b : I3} (h : EndOk w b) : fineE (i3 w) (i3 b) = true := by
  have e0 : fineE (i3 w) (i3 b) = (((decide (3 = 3)) && (isW 0 1000 (.int w.x) && (isW 0 1000 (.int w.y) && (isW 0 1000 (.int w.z) && true)))) && (((decide (3 = 3)) && (isW 0 1000 (.int b.x) && (isW 0 1000 (.int b.y) && (isW 0 1000 (.int b.z) && true)))) && (decide (b.x < w.x) && (decide (b.y < w.y) && decide (b.z < w.z))))) := rfl
  have g : ∀ i : Int, 0 ≤ i → i ≤ 1000 → isW 0 1000 (.int i) = true := fun i h1 h2 => decide_eq_true ⟨h1, h2⟩
  have x0 : 0 ≤ b.x := h.lo 0
  have x1 : 0 ≤ b.y := h.lo 1
  have x2 : 0 ≤ b.z := h.lo 2
  have y0 : b.x < w.x := h.lt 0
  have y1 : b.y < w.y := h.lt 1
  have y2 : b.z < w.z := h.lt 2
  have z0 : w.x ≤ 1000 := h.hi 0
  have z1 : w.y ≤ 1000 := h.hi 1
  have z2 : w.z ≤ 1000 := h.hi 2
  rw [e0, g w.x (by omega) z0, g w.y (by omega) z1, g w.z (by omega) z2, g b.x x0 (by omega), g b.y x1 (by omega), g b.z x2 (by omega), decide_eq_true y0, decide_eq_true y1, decide_eq_true y2]
  rfl
theorem i3_inj {v v' : I3} (h : i3 v = i3 v') : v = v' := by
  unfold i3 at h
  injection h with h
  injection h with h1 h
  injection h with h2 h
  injection h with h3 h
  injection h1 with h1
  injection h2 with h2
  injection h3 with h3
  cases v; cases v'
  simp only at h1 h2 h3
  rw [h1, h2, h3]
section
variable {w b : I3} (hk : EndOk w b)
theorem e18 {a0 o4 o5 o6 o7 o8 o9 o10 o11 : Option DV} : ∀ P : DV → Prop, P (.own (.lst (nine w))) → wE F0 E18 (row18 w b a0 o4 o5 o6 o7 o8 o9 o10 o11) P := by
  intro P hP
  refine ⟨trivial, by decide, by simp [i3], ?_⟩
  exact hP
theorem t4 {K : Kn} {d : D} (hd : d ∈ nine w) {a0 o5 o6 o7 o8 o9 o10 o11 : Option DV} (hK : K.nx (row18 w b a0 (some (.v d)) o5 o6 o7 o8 o9 o10 o11)) : wBk F0 R4 K (row18 w b a0 (some (.v d)) o5 o6 o7 o8 o9 o10 o11) := by
  obtain ⟨h1, h2, h3, h4⟩ := nine_no d hd
  refine made_i (e := i3 zeroI) h1 okEn_i3 h2 ?_
  refine ne_t (by decide +kernel) (by decide +kernel) (by decide +kernel) ?_
  refine ⟨h3, rfl, ?_⟩
  dsimp only [asB]
  cases he : eqD d (.tup [.int 0, .int 5, .int 5]) with
  | true => exact hK
  | false =>
    have h5 : fineE (i3 ⟨1000, 1000, 1000⟩) d = false := h4.resolve_left (by rw [he]; exact Bool.false_ne_true)
    refine made_i (d := i3 ⟨1000, 1000, 1000⟩) okEn_i3 h1 h5 ?_
    refine ne_t (by decide +kernel) (by decide +kernel) (by decide +kernel) ?_
    exact hK
theorem t1 {K : Kn} {a0 o4 o5 o6 o7 o8 o9 o10 o11 : Option DV} (hK : ∀ o4, wBk F0 (B_law.drop 2) K (row18 w b a0 o4 o5 o6 o7 o8 o9 o10 o11)) : wBk F0 (B_law.drop 1) K (row18 w b a0 o4 o5 o6 o7 o8 o9 o10 o11) := by
  refine forr_x (t := .nm 4) (it := .seq E18) (b := R4) (rest := B_law.drop 2) ?_
  generalize wBk F0 (B_law.drop 2) K = nx at hK ⊢
  generalize hbd : wBk F0 R4 = bd
  refine seq_of (e := E18) e18 ?_
  subst hbd
  refine for_inv (fun δ => ∃ o4, δ = row18 w b a0 o4 o5 o6 o7 o8 o9 o10 o11) ⟨_, rfl⟩ (fun d hd δ hI nx1 hn1 => ?_) (fun δ hI => ?_)
  · obtain ⟨o4, rfl⟩ := hI
    exact t4 hd (hn1 _ ⟨_, rfl⟩)
  · obtain ⟨o4, rfl⟩ := hI
    exact hK _
theorem lt_self {v : I3} : fineE (i3 v) (i3 v) = false := by
  have e : ltB (i3 v) (i3 v) = (decide (v.x < v.x) && (decide (v.y < v.y) && decide (v.z < v.z))) := rfl
  unfold fineE
  rw [e, decide_eq_false (Int.lt_irrefl _)]
  simp
include hk
theorem t3 {K : Kn} {a0 o4 o5 o6 o7 o8 o9 o10 o11 : Option DV} (hK : wBk F0 (B_law.drop 4) K (row18 w b a0 o4 (some (.v (endsD w zeroI))) o6 o7 o8 o9 o10 o11)) : wBk F0 (B_law.drop 3) K (row18 w b a0 o4 o5 o6 o7 o8 o9 o10 o11) := by
  generalize hnx : wBk F0 (B_law.drop 4) K = nx at hK
  refine init_i (d := i3 w) (e := i3 zeroI) okEn_i3 okEn_i3 (fun hf => ?_) (fun w' b' e1 e2 _ => ?_)
  · rw [fine_t (zero_ok hk)] at hf; cases hf
  · have e1 := i3_inj e1
    have e2 := i3_inj e2
    subst e1 e2
    subst hnx
    exact hK
theorem t2 {K : Kn} {a0 o4 o5 o6 o7 o8 o9 o10 o11 : Option DV} (hK : wBk F0 (B_law.drop 4) K (row18 w b a0 o4 (some (.v (endsD w zeroI))) o6 o7 o8 o9 o10 o11)) : wBk F0 (B_law.drop 2) K (row18 w b a0 o4 o5 o6 o7 o8 o9 o10 o11) := by
  have n := t3 hk (K := K) (a0 := a0) (o4 := o4) (o5 := o5) (o6 := o6) (o7 := o7) (o8 := o8) (o9 := o9) (o10 := o10) (o11 := o11) hK
  refine made_i okEn_i3 okEn_i3 lt_self ?_
  refine ne_t (by decide +kernel) (by decide +kernel) (by decide +kernel) ?_
  refine made_i okEn_i3 okEn_i3 lt_self ?_
  refine ne_t (by decide +kernel) (by decide +kernel) (by decide +kernel) ?_
  refine made_t hk ?_
  refine ne_t (by decide +kernel) (by decide +kernel) (by decide +kernel) ?_
  exact n
end
section
variable {q : DV → Prop} {Ed : Str → Prop} {c i h t : D}
theorem told_c (ho : okC c) (hc : isC c = false) (hI : okIn i) (e1 : okEnd h) (e2 : okEnd t) (hq : q (.v (.str "colour"))) : S_law_told [c, i, h, t] q Ed := by
  unfold S_law_told
  refine ⟨c, i, h, t, rfl, ho, hI, e1, e2, fun _ => hq, fun _ => ⟨by rw [hc]; rfl, fun z => ?_⟩, fun _ => ⟨fun z => ?_, fun z => ?_⟩⟩ <;> (rw [hc] at z; cases z)
theorem told_n (ho : okC c) (hc : isC c = true) (hI : okIn i) (e1 : okEnd h) (hh : isEnd h = false) (hq : q (.v (.str "intent"))) : S_law_told [c, i, h, .non] q Ed := by
  unfold S_law_told
  refine ⟨c, i, h, .non, rfl, ho, hI, e1, rfl, fun z => ?_, fun _ => ⟨by rw [hh, Bool.and_false], fun _ _ => hq⟩, fun z => absurd rfl z⟩
  rw [hc] at z; cases z
theorem told_e (ho : okC c) (hc : isC c = true) (hI : okIn i) (e1 : okEnd h) (e2 : okEnd t) (ht : t ≠ .non) (hh : (isEnd h && isEnd t) = false) (hq : q (.v (.str "intent"))) : S_law_told [c, i, h, t] q Ed := by
  unfold S_law_told
  refine ⟨c, i, h, t, rfl, ho, hI, e1, e2, fun z => ?_, fun z => absurd z ht, fun _ => ⟨fun _ _ => hq, fun _ _ z1 z2 => ?_⟩⟩
  · rw [hc] at z; cases z
  · rw [z1, z2] at hh; cases hh
theorem told_t (s : Way) {x y z : Rat} {w b : I3} (hx : RSz 17 x) (hy : RSz 17 y) (hz : RSz 17 z) (hk : EndOk w b) (hq : q (.v (.str "told"))) : S_law_told [three x y z, .str s.word, endsD w b, endsD w b] q Ed := by
  have hw : isWay (.str s.word) = true ∧ okIn (.str s.word) := by cases s <;> exact ⟨by decide +kernel, rfl, by decide +kernel⟩
  unfold S_law_told
  refine ⟨_, _, _, _, rfl, okC_three hx hy hz (by decide), hw.2, rfl, rfl, fun z => ?_, fun z => (by cases z), fun _ => ⟨fun _ z => ?_, fun _ _ _ _ => ⟨⟨s, x, y, z, w, b, w, b, 17, rfl, rfl, rfl, rfl, hx, hy, hz, by decide, hk, hk⟩, hq⟩⟩⟩
  · rw [isC_three] at z; cases z
  · rw [hw.1] at z; cases z
end
section
variable {x y z : Rat} {w b : I3} (hx : RSz 17 x) (hy : RSz 17 y) (hz : RSz 17 z) (hk : EndOk w b)
include hx hy hz in
theorem odd_col {o d : D} (ho : o ∈ oddSh) (hd : d ∈ [D.non, .int 5, .tup [sh x, sh y], .lst [sh x, sh y, sh z], .tup [.int 1, .int 2, .int 3], .tup [sh x, sh y, o]]) : okC d ∧ isC d = false := by
  simp only [List.mem_cons, List.not_mem_nil, or_false] at hd
  rcases hd with rfl | rfl | rfl | rfl | rfl | rfl
  · exact ⟨rfl, rfl⟩
  · exact ⟨rfl, rfl⟩
  · exact ⟨⟨by simp, fun h => by simp at h⟩, rfl⟩
  · exact ⟨rfl, rfl⟩
  · refine ⟨⟨by simp, fun _ d hd => ?_⟩, rfl⟩
    simp only [List.mem_cons, List.not_mem_nil, or_false] at hd
    rcases hd with rfl | rfl | rfl <;> rfl
  · refine ⟨⟨by simp, fun _ d hd => ?_⟩, ?_⟩
    · simp only [List.mem_cons, List.not_mem_nil, or_false] at hd
      rcases hd with rfl | rfl | rfl
      · exact okSh_sh hx (by decide)
      · exact okSh_sh hy (by decide)
      · exact odd_ok ho
    · have e : isC (.tup [sh x, sh y, o]) = (decide (3 = 3) && (isSh (sh x) && (isSh (sh y) && (isSh o && true)))) := rfl
      rw [e, odd_no ho]
      simp
theorem bads {d : D} (hd : d ∈ [D.str "Same", .str "", .non, .int 5, .lst [.str "same"], .str "grey"]) : okIn d := by
  simp only [List.mem_cons, List.not_mem_nil, or_false] at hd
  rcases hd with rfl | rfl | rfl | rfl | rfl | rfl <;> exact ⟨rfl, by decide +kernel⟩
theorem things {d : D} (hd : d ∈ [D.int 5, .str "ends", i3 w, .dic []]) : okEnd d ∧ isEnd d = false ∧ d ≠ .non := by
  simp only [List.mem_cons, List.not_mem_nil, or_false] at hd
  rcases hd with rfl | rfl | rfl | rfl <;> exact ⟨rfl, rfl, fun z => by cases z⟩
include hx hy hz
theorem l3 {K : Kn} {c i h : D} (ho : okC c) (hc : isC c = false) (hI : okIn i) (e1 : okEnd h) (hh : isEnd h = false) (hn : h ≠ .non) {a0 o7 o10 o11 : Option DV}
    (hK : ∀ o10, K.nx (row18 w b a0 (some (.v i)) (some (.v (endsD w zeroI))) (some (.v (three x y z))) o7 (some (.v c)) (some (.v h)) o10 o11)) : wBk F0 (R7.drop 3) K (row18 w b a0 (some (.v i)) (some (.v (endsD w zeroI))) (some (.v (three x y z))) o7 (some (.v c)) (some (.v h)) o10 o11) := by
  have w1 : okC (three x y z) := okC_three hx hy hz (by decide)
  have w2 : isC (three x y z) = true := isC_three
  have ie : okIn (.str "") := ⟨rfl, by decide +kernel⟩
  have is : okIn (.str "same") := ⟨rfl, by decide +kernel⟩
  have ee : okEnd (endsD w zeroI) := rfl
  refine told_c ho hc hI e1 e1 ?_
  refine told_c ho hc ie e1 rfl ?_
  refine told_e w1 w2 hI e1 ee (fun z => by cases z) (by rw [hh]; rfl) ?_
  refine told_e w1 w2 is e1 ee (fun z => by cases z) (by rw [hh]; rfl) ?_
  refine told_e w1 w2 is ee e1 hn (by rw [hh, Bool.and_false]) ?_
  refine ⟨by decide, ?_⟩
  refine told_n w1 w2 ie e1 hh ?_
  refine ⟨by decide, ?_⟩
  refine ⟨by decide, by decide, by decide, ?_⟩
  refine ⟨by decide, ?_⟩
  refine ne_t (by decide +kernel) (by decide +kernel) (by decide +kernel) ?_
  exact hK _
theorem l0 {K : Kn} {a0 o4 o7 o8 o9 o10 o11 : Option DV}
    (hK : ∀ o4 o8 o9 o10, K.nx (row18 w b a0 o4 (some (.v (endsD w zeroI))) (some (.v (three x y z))) o7 o8 o9 o10 o11)) : wBk F0 R7 K (row18 w b a0 o4 (some (.v (endsD w zeroI))) (some (.v (three x y z))) o7 o8 o9 o10 o11) := by
  have n := fun c i h ho hc hI e1 hh hn => l3 (K := K) (w := w) (b := b) hx hy hz (c := c) (i := i) (h := h) ho hc hI e1 hh hn (a0 := a0) (o7 := o7) (o10 := o10) (o11 := o11) (fun o10 => hK _ _ _ _)
  refine ⟨trivial, by decide, by simp, ?_⟩
  refine odd_i fun o ho => ?_
  refine pick_i (by simp) (by simp) fun c hc => ?_
  refine pick_i (by simp) (by simp) fun i hi => ?_
  refine pick_i (by simp) (by simp) fun h hh => ?_
  have h1 := odd_col hx hy hz ho hc
  have h2 := bads hi
  have h3 := things hh
  exact n c i h h1.1 h1.2 h2 h3.1 h3.2.1 h3.2.2
include hk
theorem f6 {a0 o4 o7 o8 o9 o10 o11 : Option DV} : wBk F0 (B_law.drop 6) KL (row18 w b a0 o4 (some (.v (endsD w zeroI))) (some (.v (three x y z))) o7 o8 o9 o10 o11) := by
  have kz := zero_ok hk
  refine comp_map (ds := [.str "same", .str "white", .str "squeezed", .str "clipped"]) (fun _ => .str "told") (fun d hd k hk' => ?_) (by decide) ?_
  · simp only [List.mem_cons, List.not_mem_nil, or_false] at hd
    rcases hd with rfl | rfl | rfl | rfl
    · exact told_t .same hx hy hz kz hk'
    · exact told_t .white hx hy hz kz hk'
    · exact told_t .squeezed hx hy hz kz hk'
    · exact told_t .clipped hx hy hz kz hk'
  refine ⟨by decide, by decide, by decide, ?_⟩
  refine eq_t (by decide +kernel) (by decide +kernel) (by decide +kernel) ?_
  rfl
theorem f5 {a0 o4 o7 o8 o9 o10 o11 : Option DV} : wBk F0 (B_law.drop 5) KL (row18 w b a0 o4 (some (.v (endsD w zeroI))) (some (.v (three x y z))) o7 o8 o9 o10 o11) := by
  have n := fun a0 o4 o7 o8 o9 o10 o11 => f6 hx hy hz hk (a0 := a0) (o4 := o4) (o7 := o7) (o8 := o8) (o9 := o9) (o10 := o10) (o11 := o11)
  refine forr_x (t := .nm 7) (it := .rng (.int 6)) (b := R7) (rest := B_law.drop 6) ?_
  generalize wBk F0 (B_law.drop 6) KL = nx at n ⊢
  refine ⟨by decide, by decide, ?_⟩
  refine for_inv (fun δ => ∃ o4 o7 o8 o9 o10, δ = row18 w b a0 o4 (some (.v (endsD w zeroI))) (some (.v (three x y z))) o7 o8 o9 o10 o11) ⟨_, _, _, _, _, rfl⟩ (fun d hd δ hI nx1 hn1 => ?_) (fun δ hI => ?_)
  · obtain ⟨o4, o7, o8, o9, o10, rfl⟩ := hI
    exact l0 hx hy hz fun o4 o8 o9 o10 => hn1 _ ⟨_, _, _, _, _, rfl⟩
  · obtain ⟨o4, o7, o8, o9, o10, rfl⟩ := hI
    exact n _ _ _ _ _ _ _
end
theorem vc_law : LC 12 B_law := by
  have go : ∀ (w b : I3), EndOk w b → ∀ δ, δ = row18 w b none none none none none none none none none → wBk F0 (B_law.drop 1) KL δ := by
    rintro w b hk δ rfl
    refine t1 fun o4 => t2 hk ?_
    have n := fun x y z hx hy hz => @f5 x y z w b hx hy hz hk none o4 none none none none none
    have th : ∀ P : DV → Prop, (∀ x y z : Rat, RSz 17 x → RSz 17 y → RSz 17 z → P (.v (three x y z))) → S_law_three [.town, .int 1000] P F0 := by
      intro P hP
      unfold S_law_three
      exact ⟨1000, rfl, by decide, by decide, hP⟩
    exact th _ n
  refine law_ends_i fun w b hk => ?_
  exact go w b hk _ rfl
end TT

set_option Elab.async false
set_option linter.all false
set_option maxRecDepth 100000
set_option autoImplicit false
/-! The town of the law: its cells are drawn from. -/
namespace TT
open PySem PySem.Spec L2
def topS (i : Nat) : Stmt := PySem.Challenge.pw_tintroads_k18_intents_refused.main.body.getD i (.Pass ⟨0, 0, 0, 0⟩)
abbrev sTown : Stmt := topS 35
abbrev sDraw : Stmt := topS 36
theorem scTown : FnScope ["_law_script"] ["_law_script"] (defScope sTown) := ⟨rfl, rfl, rfl, by decide +kernel, rfl, by decide +kernel, by decide +kernel⟩
theorem scDraw : FnScope ["_law_town_here", "_law_many", "_law_row", "_law_at", "_law_cell", "_law_mixed"] ["_law_town_here", "_law_many"] (defScope sDraw) := ⟨rfl, rfl, rfl, by decide +kernel, rfl, by decide +kernel, by decide +kernel⟩
theorem map_set_int {ns : List Int} {j : Nat} {n : Int} : (ns.map V.int).set j (.int n) = (ns.set j n).map V.int := by
  rw [List.map_set]
section
variable {P : Program} {w : World} {K : PySem.W.Frag} {mg : Str → Option Value} {base : Heap}
theorem okTown {lv : Nat} {f : Addr} {fd : FuncData} (F : Fun K "_law_town" "_law_town" sTown f fd) (m1 : mg "list" = none) : FnOk P w K mg base (L2.CX P w) (lv + 1) f fd ["_law_script"] (spTown K) := by
  refine F.okX scTown (fun vs H Q E h => by obtain ⟨_, _, rfl, _⟩ := h; rfl) (fun cdv A outer s H vs Q E hr h => ?_)
  obtain ⟨a, ns, rfl, hS, hl, hQ⟩ := h
  refine ⟨_, pss_one (ps_ret (pe_lst (pa_cons (pe_ifExp (pt_cmpR (op_neD hr.units) (pv 0) (pe_lst pa_nil) (nomark _))
    (pe_callTy call_list_of (by rfl) m1 PyProof.Rows.boot_list (pa_cons (pv 0) pa_nil)) (pe_lst (pa_cons pe_int pa_nil))) (pa_cons pe_int pa_nil)))), ?_⟩
  refine ⟨.ref a, rfl, Nat.zero_le _, fun e he => ?_⟩
  have s1 : Same H (upd H e (.lst [])) := fun b o q => by rw [upd_ne (ne_of_none q he)]; exact q
  refine ⟨_, _, .lst (s1.seq hS) (dp_ints ns), .lst (SqL.of upd_same) .nil, shaped_ints ns, shaped_ints [], _, rfl, ?_⟩
  rw [eqv_nil]
  have last : ∀ (H1 : Hp) (R : Addr) (ks : List Int), Same H H1 → H R = none → H1 R = some (.lst (ks.map V.int)) → 0 < ks.length → ks.length ≤ 64 →
      tCons (tC (V.int 0)) tNil (L2.start [Str.ofString "_law_script"] [V.ref a]) H1 fun xs H2 => (V.ref R :: xs).length ≤ sizeLine ∧ ∀ p, H2 p = none → Q (.ref p) (upd H2 p (.lst (V.ref R :: xs))) := by
    intro H1 R ks hs hR h1 hk hk'
    refine ⟨(by show 2 ≤ sizeLine; decide), fun T hT => ?_⟩
    have nR : R ≠ T := ne_of_none h1 hT
    refine hQ T R _ (hs.trans fun b o q => by rw [upd_ne (ne_of_none q hT)]; exact q) (hs.free hT) hR nR.symm ⟨ks, 0, upd_same, by rw [upd_ne nR]; exact h1, Int.le_refl _, hk, hk'⟩
  cases ns with
  | nil =>
    refine ⟨(by show 1 ≤ sizeLine; decide), fun R hR => ?_⟩
    exact last _ R [0] (s1.trans fun b o q => by rw [upd_ne (ne_of_none q hR)]; exact q) (s1.free hR) upd_same (by decide) (by decide)
  | cons n ns =>
    refine ⟨.ref a, rfl, a, _, rfl, .inl (s1.seq hS), fun R hR => ?_⟩
    exact last _ R (n :: ns) (s1.trans fun b o q => by rw [upd_ne (ne_of_none q hR)]; exact q) (s1.free hR) upd_same (Nat.succ_pos _) (Nat.le_trans hl (by decide))
theorem okDraw {lv : Nat} {f : Addr} {fd : FuncData} (F : Fun K "_law_draw" "_law_draw" sDraw f fd) (m1 : mg "len" = none) : FnOk P w K mg base (L2.CX P w) (lv + 1) f fd ["_law_town_here", "_law_many"] (spD K mg [false, false] S_draw) := by
  refine F.okX scDraw (fun vs H Q E h => h.1) (fun cdv A outer s H vs Q E hr h => ?_)
  obtain ⟨hl, W, ds, q, Ed, wk, ra, hS, hq, hE⟩ := h
  unfold S_draw at hS
  obtain ⟨m, rfl, hm, hz, hS⟩ := hS
  obtain ⟨v, rfl, r⟩ : ∃ v, vs = [v, .int m] ∧ Rep K mg W v .town := by
    cases ra with
    | cons h r =>
      cases r with
      | cons h' r' =>
        cases r'
        simp [RepM] at h h'
        cases h'
        exact ⟨_, rfl, h⟩
  obtain ⟨T, R, rfl, e⟩ := r.townInv
  obtain ⟨nTR, _, _, ns, n, hT, hR, hn, h0, h6⟩ := wk.town T R e
  refine ⟨_, pss_cons (ps_set (i := 2) scDraw.nd rfl (.inl rfl) (pe_ix ix_list (pv 0) pe_int (fun _ _ => rfl)))
    (pss_cons (ps_asg (pe_op op_add (pe_ix ix_list (pv 0) pe_int (fun _ _ => rfl)) pe_int) (pg_sub (pv 0) pe_int set_list))
    (pss_cons (ps_set (i := 3) scDraw.nd rfl (.inl rfl) (pe_op op_mod (pe_ix ix_list (pv 0) pe_int (fun _ _ => rfl)) (pe_callB call_len_seq (by rfl) m1 PyProof.Rows.bootS_len (pa_cons (pv 2) pa_nil))))
    (pss_cons (ps_set (i := 4) scDraw.nd rfl (.inl rfl) (pe_ix ix_list (pv 2) (pv 3) (fun _ _ => rfl)))
    (pss_cons (ps_if (pt_cmpR op_ge (pv 4) pe_int (nomark _)) (pss_cons (ps_asg (pe_op op_fdivW (pv 4) (pv 1)) (pg_sub (pv 2) (pv 3) set_list)) (pss_one (ps_ret (pe_op op_mod (pv 4) (pv 1))))) pss_nil)
    (pss_cons (ps_set (i := 5) scDraw.nd rfl (.inl rfl) (pe_op op_mod (pe_op op_add (pv 4) (pe_op op_mul pe_int (pe_ix ix_list (pv 0) pe_int (fun _ _ => rfl)))) pe_int))
    (pss_cons (ps_set (i := 5) scDraw.nd rfl (.inl rfl) (pe_op op_mod (pe_op op_pow (pv 5) pe_int) pe_int))
    (pss_one (ps_ret (pe_op op_mod (pe_op op_fdivW (pe_op op_mod (pe_op op_add (pe_op op_mul (pe_op op_fdivW (pv 5) pe_int) pe_int) (pv 5)) pe_int) pe_int) (pv 1)))))))))), ?_⟩
  refine ⟨_, rfl, T, _, _, _, rfl, rfl, SqL.of hT, rfl, ?_⟩
  refine ⟨_, rfl, T, _, _, _, rfl, rfl, SqL.of hT, rfl, _, _, rfl, rfl, _, rfl, T, _, _, _, rfl, rfl, hT, rfl, ?_⟩
  have hT1 : upd H T (HO.lst [V.ref R, V.int (n + 1)]) T = some (.lst [.ref R, .int (n + 1)]) := upd_same
  have hR1 : upd H T (HO.lst [V.ref R, V.int (n + 1)]) R = some (.lst (ns.map V.int)) := by rw [upd_ne nTR.symm]; exact hR
  have ho : ∀ a, a ≠ T → a ≠ R → upd H T (HO.lst [V.ref R, V.int (n + 1)]) a = H a := fun a h _ => upd_ne h
  show tSeq _ _ _ _ (upd H T (HO.lst [V.ref R, V.int (n + 1)]))
  generalize upd H T (HO.lst [V.ref R, V.int (n + 1)]) = H1 at hT1 hR1 ho ⊢
  have hlen : (0 : Int) < ((ns.map V.int).length : Int) := by rw [List.length_map]; omega
  refine ⟨_, rfl, T, _, _, _, rfl, rfl, SqL.of hT1, rfl, _, rfl, R, _, rfl, .inl (SqL.of hR1), _, _, rfl, rfl, hlen, ?_⟩
  have hj0 := Int.emod_nonneg (n + 1) (Int.ne_of_gt hlen)
  have hj1 := Int.emod_lt_of_pos (n + 1) hlen
  obtain ⟨j, ej⟩ : ∃ j : Nat, (n + 1) % ((ns.map V.int).length : Int) = (j : Int) := ⟨((n + 1) % ((ns.map V.int).length : Int)).toNat, by omega⟩
  rw [ej] at hj1
  have hj : j < ns.length := by rw [List.length_map] at hj1; omega
  have hix : ixN (ns.map V.int).length (j : Int) = some j := by
    unfold ixN
    rw [if_pos (Int.natCast_nonneg j), if_pos hj1]
    rfl
  obtain ⟨c, hc⟩ : ∃ c, ns[j]? = some c := ⟨ns[j], List.getElem?_eq_getElem hj⟩
  have hat : atI (ns.map V.int) (j : Int) = some (.int c) := by
    unfold atI
    rw [hix]
    show (ns.map V.int)[j]? = _
    rw [List.getElem?_map, hc]
    rfl
  refine ⟨_, rfl, .int j, (show some (some (V.int ((n + 1) % ((ns.map V.int).length : Int)))) = some (some (V.int (j : Int))) by rw [ej]), R, _, (j : Int), .int c, rfl, rfl, SqL.of hR1, hat, ?_⟩
  refine ⟨.int c, rfl, c, _, rfl, rfl, _, rfl, ?_⟩
  by_cases hb : (1000000000000000000 : Int) ≤ c
  · rw [decide_eq_true hb]
    refine ⟨.int c, rfl, .int m, rfl, c, m, rfl, rfl, ⟨hm, ?_⟩, .ref R, rfl, .int j, (show some (some (V.int ((n + 1) % ((ns.map V.int).length : Int)))) = some (some (V.int (j : Int))) by rw [ej]), R, _, j, j, rfl, rfl, hR1, hix, .int c, rfl, .int m, rfl, c, m, rfl, rfl, hm, ?_⟩
    · exact Nat.lt_of_lt_of_le (PySem.Flt.log2_lt_of (by decide) hz) (Nat.le_refl _)
    · refine hq W _ _ (.v (.int (c % m))) (Stp.town (n := n + 1) (ns := ns.set j (c / m)) wk e (by omega) (by rw [List.length_set]; exact h0) (by rw [List.length_set]; exact h6) ?_ ?_ fun a ha hb => ?_) (Rep.int _) (hS _ (Int.emod_nonneg _ (Int.ne_of_gt hm)) (Int.emod_lt_of_pos _ hm))
      · rw [upd_ne nTR]; exact hT1
      · rw [upd_same, map_set_int]
      · rw [upd_ne hb]; exact ho a ha hb
  · rw [decide_eq_false hb]
    have hm5 := Int.emod_nonneg (c + 104729 * (n + 1)) (show (4294967291 : Int) ≠ 0 by decide)
    have hm6 := Int.emod_lt_of_pos (c + 104729 * (n + 1)) (show (0 : Int) < 4294967291 by decide)
    refine ⟨.int c, rfl, .ref T, rfl, T, _, _, _, rfl, rfl, SqL.of hT1, rfl, _, _, rfl, rfl, .inl ⟨by decide, by decide⟩, _, _, rfl, rfl, _, _, rfl, rfl, (show (0 : Int) < 4294967291 by decide), ?_⟩
    show tSeq _ _ _ (List.set _ 5 (some (V.int ((c + 104729 * (n + 1)) % 4294967291)))) _
    generalize (c + 104729 * (n + 1)) % 4294967291 = x at hm5 hm6
    refine ⟨.int x, rfl, x, _, rfl, rfl, ⟨by decide, by decide, by omega⟩, _, _, rfl, rfl, (show (0 : Int) < 4294967279 by decide), ?_⟩
    show gName 5 (V.int (x ^ Int.toNat 5 % 4294967279)) _ _ _
    generalize x ^ Int.toNat 5 % 4294967279 = y
    refine ⟨.int y, rfl, y, _, rfl, rfl, ⟨by decide, by decide⟩, _, _, rfl, rfl, .inr ⟨by decide, by decide⟩, .int y, rfl, _, _, rfl, rfl, _, _, rfl, rfl, (show (0 : Int) < 4294967231 by decide), _, _, rfl, rfl, ⟨by decide, by decide⟩, .int m, rfl, _, _, rfl, rfl, hm, ?_⟩
    exact hq W _ _ (.v (.int _)) (Stp.town (n := n + 1) (ns := ns) wk e (by omega) h0 h6 hT1 hR1 ho) (Rep.int _) (hS _ (Int.emod_nonneg _ (Int.ne_of_gt hm)) (Int.emod_lt_of_pos _ hm))
end
end TT

set_option Elab.async false
set_option linter.all false
set_option maxRecDepth 100000
set_option autoImplicit false
set_option maxHeartbeats 4000000
namespace TT
open PySem PySem.Spec L2
abbrev s_is_whole : Stmt := topS 13
theorem cs_is_whole : FnScope ["thing", "low", "high"] ["thing", "low", "high"] (defScope s_is_whole) := ⟨rfl, rfl, rfl, by decide +kernel, rfl, by decide +kernel, by decide +kernel⟩
theorem ks_is_whole : chkB ["thing", "low", "high"] (defScope s_is_whole) B_is_whole (defBody s_is_whole) = true := by decide +kernel
abbrev s_is_int : Stmt := topS 15
theorem cs_is_int : FnScope ["thing"] ["thing"] (defScope s_is_int) := ⟨rfl, rfl, rfl, by decide +kernel, rfl, by decide +kernel, by decide +kernel⟩
theorem ks_is_int : chkB ["thing"] (defScope s_is_int) B_is_int (defBody s_is_int) = true := by decide +kernel
abbrev s_common_measure : Stmt := topS 16
theorem cs_common_measure : FnScope ["one", "other"] ["one", "other"] (defScope s_common_measure) := ⟨rfl, rfl, rfl, by decide +kernel, rfl, by decide +kernel, by decide +kernel⟩
theorem ks_common_measure : chkB ["one", "other"] (defScope s_common_measure) B_common_measure (defBody s_common_measure) = true := by decide +kernel
abbrev s_lowest : Stmt := topS 17
theorem cs_lowest : FnScope ["top", "below", "by"] ["top", "below"] (defScope s_lowest) := ⟨rfl, rfl, rfl, by decide +kernel, rfl, by decide +kernel, by decide +kernel⟩
theorem ks_lowest : chkB ["top", "below", "by"] (defScope s_lowest) B_lowest (defBody s_lowest) = true := by decide +kernel
abbrev s_is_share : Stmt := topS 18
theorem cs_is_share : FnScope ["thing", "one"] ["thing"] (defScope s_is_share) := ⟨rfl, rfl, rfl, by decide +kernel, rfl, by decide +kernel, by decide +kernel⟩
theorem ks_is_share : chkB ["thing", "one"] (defScope s_is_share) B_is_share (defBody s_is_share) = true := by decide +kernel
abbrev s_plus : Stmt := topS 19
theorem cs_plus : FnScope ["one", "other"] ["one", "other"] (defScope s_plus) := ⟨rfl, rfl, rfl, by decide +kernel, rfl, by decide +kernel, by decide +kernel⟩
theorem ks_plus : chkB ["one", "other"] (defScope s_plus) B_plus (defBody s_plus) = true := by decide +kernel
abbrev s_minus : Stmt := topS 20
theorem cs_minus : FnScope ["one", "other"] ["one", "other"] (defScope s_minus) := ⟨rfl, rfl, rfl, by decide +kernel, rfl, by decide +kernel, by decide +kernel⟩
theorem ks_minus : chkB ["one", "other"] (defScope s_minus) B_minus (defBody s_minus) = true := by decide +kernel
abbrev s_times : Stmt := topS 21
theorem cs_times : FnScope ["one", "other"] ["one", "other"] (defScope s_times) := ⟨rfl, rfl, rfl, by decide +kernel, rfl, by decide +kernel, by decide +kernel⟩
theorem ks_times : chkB ["one", "other"] (defScope s_times) B_times (defBody s_times) = true := by decide +kernel
abbrev s_by : Stmt := topS 22
theorem cs_by : FnScope ["one", "other"] ["one", "other"] (defScope s_by) := ⟨rfl, rfl, rfl, by decide +kernel, rfl, by decide +kernel, by decide +kernel⟩
theorem ks_by : chkB ["one", "other"] (defScope s_by) B_by (defBody s_by) = true := by decide +kernel
abbrev s_is_less : Stmt := topS 23
theorem cs_is_less : FnScope ["one", "other"] ["one", "other"] (defScope s_is_less) := ⟨rfl, rfl, rfl, by decide +kernel, rfl, by decide +kernel, by decide +kernel⟩
theorem ks_is_less : chkB ["one", "other"] (defScope s_is_less) B_is_less (defBody s_is_less) = true := by decide +kernel
abbrev s_look_three : Stmt := topS 25
theorem cs_look_three : FnScope ["colour", "one"] ["colour"] (defScope s_look_three) := ⟨rfl, rfl, rfl, by decide +kernel, rfl, by decide +kernel, by decide +kernel⟩
theorem ks_look_three : chkB ["colour", "one"] (defScope s_look_three) B_look_three (defBody s_look_three) = true := by decide +kernel
abbrev s_Ends___init__ : Stmt := inCls (topS 29) 0
theorem cs_Ends___init__ : FnScope ["self", "white", "black", "three", "fine", "k", "one"] ["self", "white", "black"] (defScope s_Ends___init__) := ⟨rfl, rfl, rfl, by decide +kernel, rfl, by decide +kernel, by decide +kernel⟩
theorem ks_Ends___init__ : chkB ["self", "white", "black", "three", "fine", "k", "one"] (defScope s_Ends___init__) B_Ends___init__ (defBody s_Ends___init__) = true := by decide +kernel
abbrev s_Ends_whites : Stmt := inCls (topS 29) 1
theorem cs_Ends_whites : FnScope ["self", "one"] ["self"] (defScope s_Ends_whites) := ⟨rfl, rfl, rfl, by decide +kernel, rfl, by decide +kernel, by decide +kernel⟩
theorem ks_Ends_whites : chkB ["self", "one"] (defScope s_Ends_whites) B_Ends_whites (defBody s_Ends_whites) = true := by decide +kernel
abbrev s_Ends_blacks : Stmt := inCls (topS 29) 2
theorem cs_Ends_blacks : FnScope ["self", "one"] ["self"] (defScope s_Ends_blacks) := ⟨rfl, rfl, rfl, by decide +kernel, rfl, by decide +kernel, by decide +kernel⟩
theorem ks_Ends_blacks : chkB ["self", "one"] (defScope s_Ends_blacks) B_Ends_blacks (defBody s_Ends_blacks) = true := by decide +kernel
abbrev s_look_intent : Stmt := topS 30
theorem cs_look_intent : FnScope ["worth", "intent", "ends", "one"] ["worth", "intent", "ends"] (defScope s_look_intent) := ⟨rfl, rfl, rfl, by decide +kernel, rfl, by decide +kernel, by decide +kernel⟩
theorem ks_look_intent : chkB ["worth", "intent", "ends", "one"] (defScope s_look_intent) B_look_intent (defBody s_look_intent) = true := by decide +kernel
abbrev s_one_led : Stmt := topS 31
theorem cs_one_led : FnScope ["number", "intent", "here", "there", "white", "black", "other_white", "other_black", "far"] ["number", "intent", "here", "there"] (defScope s_one_led) := ⟨rfl, rfl, rfl, by decide +kernel, rfl, by decide +kernel, by decide +kernel⟩
theorem ks_one_led : chkB ["number", "intent", "here", "there", "white", "black", "other_white", "other_black", "far"] (defScope s_one_led) B_one_led (defBody s_one_led) = true := by decide +kernel
abbrev s_led_worth : Stmt := topS 32
theorem cs_led_worth : FnScope ["worth", "intent", "here", "there", "found", "k", "own"] ["worth", "intent", "here", "there"] (defScope s_led_worth) := ⟨rfl, rfl, rfl, by decide +kernel, rfl, by decide +kernel, by decide +kernel⟩
theorem ks_led_worth : chkB ["worth", "intent", "here", "there", "found", "k", "own"] (defScope s_led_worth) B_led_worth (defBody s_led_worth) = true := by decide +kernel
abbrev s_is_between : Stmt := topS 33
theorem cs_is_between : FnScope ["worth", "ends", "white", "black", "k"] ["worth", "ends"] (defScope s_is_between) := ⟨rfl, rfl, rfl, by decide +kernel, rfl, by decide +kernel, by decide +kernel⟩
theorem ks_is_between : chkB ["worth", "ends", "white", "black", "k"] (defScope s_is_between) B_is_between (defBody s_is_between) = true := by decide +kernel
abbrev s_law_pick : Stmt := topS 37
theorem cs_law_pick : FnScope ["_law_town_here", "_law_some"] ["_law_town_here", "_law_some"] (defScope s_law_pick) := ⟨rfl, rfl, rfl, by decide +kernel, rfl, by decide +kernel, by decide +kernel⟩
theorem ks_law_pick : chkB ["_law_town_here", "_law_some"] (defScope s_law_pick) B_law_pick (defBody s_law_pick) = true := by decide +kernel
abbrev s_law_refusal : Stmt := topS 38
theorem cs_law_refusal : FnScope ["_law_caught", "_law_kinds", "_law_words"] ["_law_caught"] (defScope s_law_refusal) := ⟨rfl, rfl, rfl, by decide +kernel, rfl, by decide +kernel, by decide +kernel⟩
theorem ks_law_refusal : chkB ["_law_caught", "_law_kinds", "_law_words"] (defScope s_law_refusal) B_law_refusal (defBody s_law_refusal) = true := by decide +kernel
abbrev s_law_low : Stmt := topS 39
theorem cs_law_low : FnScope ["_law_one", "_law_two", "_law_a", "_law_b"] ["_law_one", "_law_two"] (defScope s_law_low) := ⟨rfl, rfl, rfl, by decide +kernel, rfl, by decide +kernel, by decide +kernel⟩
theorem ks_law_low : chkB ["_law_one", "_law_two", "_law_a", "_law_b"] (defScope s_law_low) B_law_low (defBody s_law_low) = true := by decide +kernel
abbrev s_law_share : Stmt := topS 40
theorem cs_law_share : FnScope ["_law_town_here", "_law_cap", "_law_below"] ["_law_town_here", "_law_cap"] (defScope s_law_share) := ⟨rfl, rfl, rfl, by decide +kernel, rfl, by decide +kernel, by decide +kernel⟩
theorem ks_law_share : chkB ["_law_town_here", "_law_cap", "_law_below"] (defScope s_law_share) B_law_share (defBody s_law_share) = true := by decide +kernel
abbrev s_law_three : Stmt := topS 41
theorem cs_law_three : FnScope ["_law_town_here", "_law_cap"] ["_law_town_here", "_law_cap"] (defScope s_law_three) := ⟨rfl, rfl, rfl, by decide +kernel, rfl, by decide +kernel, by decide +kernel⟩
theorem ks_law_three : chkB ["_law_town_here", "_law_cap"] (defScope s_law_three) B_law_three (defBody s_law_three) = true := by decide +kernel
abbrev s_law_odd_shares : Stmt := topS 42
theorem cs_law_odd_shares : FnScope ["_law_town_here"] ["_law_town_here"] (defScope s_law_odd_shares) := ⟨rfl, rfl, rfl, by decide +kernel, rfl, by decide +kernel, by decide +kernel⟩
theorem ks_law_odd_shares : chkB ["_law_town_here"] (defScope s_law_odd_shares) B_law_odd_shares (defBody s_law_odd_shares) = true := by decide +kernel
abbrev s_law_ends : Stmt := topS 43
theorem cs_law_ends : FnScope ["_law_town_here", "_law_dark", "_law_k", "_law_one"] ["_law_town_here"] (defScope s_law_ends) := ⟨rfl, rfl, rfl, by decide +kernel, rfl, by decide +kernel, by decide +kernel⟩
theorem ks_law_ends : chkB ["_law_town_here", "_law_dark", "_law_k", "_law_one"] (defScope s_law_ends) B_law_ends (defBody s_law_ends) = true := by decide +kernel
abbrev s_law_made : Stmt := topS 44
theorem cs_law_made : FnScope ["_law_bright", "_law_dark", "_law_caught", "e"] ["_law_bright", "_law_dark"] (defScope s_law_made) := ⟨rfl, rfl, rfl, by decide +kernel, rfl, by decide +kernel, by decide +kernel⟩
theorem ks_law_made : chkB ["_law_bright", "_law_dark", "_law_caught", "e"] (defScope s_law_made) B_law_made (defBody s_law_made) = true := by decide +kernel
abbrev s_law_told : Stmt := topS 45
theorem cs_law_told : FnScope ["_law_worth", "_law_intent", "_law_one", "_law_two", "_law_caught", "e"] ["_law_worth", "_law_intent", "_law_one", "_law_two"] (defScope s_law_told) := ⟨rfl, rfl, rfl, by decide +kernel, rfl, by decide +kernel, by decide +kernel⟩
theorem ks_law_told : chkB ["_law_worth", "_law_intent", "_law_one", "_law_two", "_law_caught", "e"] (defScope s_law_told) B_law_told (defBody s_law_told) = true := by decide +kernel
abbrev s_law : Stmt := topS 46
theorem cs_law : FnScope ["_law_script", "_law_town_here", "_law_bright", "_law_dark", "_law_bad", "_law_edges", "_law_worth", "_law_turn", "_law_odd", "_law_thing", "_law_found", "_law_word"] ["_law_script"] (defScope s_law) := ⟨rfl, rfl, rfl, by decide +kernel, rfl, by decide +kernel, by decide +kernel⟩
theorem ks_law : chkB ["_law_script", "_law_town_here", "_law_bright", "_law_dark", "_law_bad", "_law_edges", "_law_worth", "_law_turn", "_law_odd", "_law_thing", "_law_found", "_law_word"] (defScope s_law) B_law ((defBody s_law).drop 1) = true := by decide +kernel
def fnL : List He.DefD := [dfn "_law_town" sTown [], dfn "_law_draw" sDraw [], dfn "is_whole" s_is_whole [], dfn "is_int" s_is_int [], dfn "common_measure" s_common_measure [], dfn "lowest" s_lowest [], dfn "is_share" s_is_share [], dfn "plus" s_plus [], dfn "minus" s_minus [], dfn "times" s_times [], dfn "by" s_by [], dfn "is_less" s_is_less [], dfn "look_three" s_look_three [], mdk "Ends" "__init__" "Ends.__init__" s_Ends___init__ [("black", .adr (kwAt ("Ends", some "__init__") "black"))], mdf "Ends" "whites" "Ends.whites" s_Ends_whites, mdf "Ends" "blacks" "Ends.blacks" s_Ends_blacks, dfn "look_intent" s_look_intent [], dfn "one_led" s_one_led [], dfn "led_worth" s_led_worth [], dfn "is_between" s_is_between [], dfn "_law_pick" s_law_pick [], dfn "_law_refusal" s_law_refusal [], dfn "_law_low" s_law_low [], dfn "_law_share" s_law_share [], dfn "_law_three" s_law_three [], dfn "_law_odd_shares" s_law_odd_shares [], dfn "_law_ends" s_law_ends [], dfn "_law_made" s_law_made [], dfn "_law_told" s_law_told [], dfn "law" s_law []]
def exL (K : PySem.W.Frag) : Bool := flatB K "INTENTS" [.str "same", .str "white", .str "squeezed", .str "clipped"] && clsB K "Ends" && flatA K (kwAt ("Ends", some "__init__") "black" K) [.int 0, .int 0, .int 0] && errB K
def faL : List He.Fa := [.glo "_law_town", .glo "_law_draw", .glo "is_whole", .glo "is_int", .glo "common_measure", .glo "lowest", .glo "is_share", .glo "plus", .glo "minus", .glo "times", .glo "by", .glo "is_less", .glo "look_three", .glo "look_intent", .glo "one_led", .glo "led_worth", .glo "is_between", .glo "_law_pick", .glo "_law_refusal", .glo "_law_low", .glo "_law_share", .glo "_law_three", .glo "_law_odd_shares", .glo "_law_ends", .glo "_law_made", .glo "_law_told", .glo "law", .glo "BadColour", .glo "BadIntent", .glo "TintError", .glo "BadNumber", .glo "BadShare", .glo "BadCurve", .glo "BadSquare", .glo "NoBack", .glo "BadGrid", .glo "BadProfile", .glo "BadInk", .glo "BadText", .glo "Ends", .exc "BadColour", .exc "BadIntent", .free "ValueError", .free "abs", .free "all", .free "any", .free "bool", .free "int", .free "isinstance", .free "len", .free "list", .free "max", .free "range", .free "str", .free "tuple", .int "MOST" (1000), .cls "Ends", .mkr "Ends", .noat "Ends" "black", .noat "Ends" "white", .meth "Ends" "whites", .meth "Ends" "blacks"]
theorem chain {P : Program} {w : World} {K : PySem.W.Frag} {h : Heap} {mg : Str → Option Value} (X : K.In h) (G : h.Ns mainGlobals mg) (c : He.SaysD faL fnL K) (cx : exL K = true) (base : Heap) : ∀ fd, FunD K "law" "law" (defArgs s_law) (defBody s_law) (defScope s_law) [] [] (He.ga K "law") fd → FnOk P w K mg base (L2.CX P w) 8 (He.ga K "law") fd ["_law_script"] (spLaw K) := by
  have x_BadColour : ∀ lv, Top.exc ⟨P, w, K, mg, base, lv⟩ "BadColour" := fun lv => exc_of X G c 27 40 rfl rfl
  have x_BadIntent : ∀ lv, Top.exc ⟨P, w, K, mg, base, lv⟩ "BadIntent" := fun lv => exc_of X G c 28 41 rfl rfl
  have n_ValueError : mg "ValueError" = none := free_of X G c 42 rfl
  have n_abs : mg "abs" = none := free_of X G c 43 rfl
  have n_all : mg "all" = none := free_of X G c 44 rfl
  have n_any : mg "any" = none := free_of X G c 45 rfl
  have n_bool : mg "bool" = none := free_of X G c 46 rfl
  have n_int : mg "int" = none := free_of X G c 47 rfl
  have n_isinstance : mg "isinstance" = none := free_of X G c 48 rfl
  have n_len : mg "len" = none := free_of X G c 49 rfl
  have n_list : mg "list" = none := free_of X G c 50 rfl
  have n_max : mg "max" = none := free_of X G c 51 rfl
  have n_range : mg "range" = none := free_of X G c 52 rfl
  have n_str : mg "str" = none := free_of X G c 53 rfl
  have n_tuple : mg "tuple" = none := free_of X G c 54 rfl
  have g_MOST : ∀ lv, Top.glb ⟨P, w, K, mg, base, lv⟩ "MOST" (.int (1000)) := fun lv => glbI_of X G c 55 rfl
  have hC_Ends : mg "Ends" = some (.ref (He.ga K "Ends")) := He.glo_ok X G (c.fact 39 rfl)
  have hl_Ends : Cls K (He.ga K "Ends") := He.cls_ok (c.fact 56 rfl)
  have t_Ends_black : ∀ lv, Top.att ⟨P, w, K, mg, base, lv⟩ "Ends" "black" := fun lv => att_of hC_Ends hl_Ends (He.noat_ok (c.fact 58 rfl))
  have t_Ends_white : ∀ lv, Top.att ⟨P, w, K, mg, base, lv⟩ "Ends" "white" := fun lv => att_of hC_Ends hl_Ends (He.noat_ok (c.fact 59 rfl))
  unfold exL at cx
  simp only [Bool.and_eq_true] at cx
  have gE : ∀ x ∈ errNames, mg x = some (.ref (He.ga K x)) := by
    intro x hx
    simp only [errNames, List.mem_cons, List.not_mem_nil, or_false] at hx
    rcases hx with rfl | rfl | rfl | rfl | rfl | rfl | rfl | rfl | rfl | rfl | rfl | rfl
    · exact He.glo_ok X G (c.fact 29 rfl)
    · exact He.glo_ok X G (c.fact 30 rfl)
    · exact He.glo_ok X G (c.fact 31 rfl)
    · exact He.glo_ok X G (c.fact 32 rfl)
    · exact He.glo_ok X G (c.fact 33 rfl)
    · exact He.glo_ok X G (c.fact 34 rfl)
    · exact He.glo_ok X G (c.fact 35 rfl)
    · exact He.glo_ok X G (c.fact 27 rfl)
    · exact He.glo_ok X G (c.fact 28 rfl)
    · exact He.glo_ok X G (c.fact 36 rfl)
    · exact He.glo_ok X G (c.fact 37 rfl)
    · exact He.glo_ok X G (c.fact 38 rfl)
  have hE : ∀ lv, (∀ x ∈ ("ValueError" : Str) :: errNames, Top.isx ⟨P, w, K, mg, base, lv⟩ x) ∧ Top.try ⟨P, w, K, mg, base, lv⟩ "TintError" := fun lv => errs_of gE n_ValueError n_isinstance cx.2
  have g_INTENTS : ∀ lv, Top.glb ⟨P, w, K, mg, base, lv⟩ "INTENTS" (.tup [.str "same", .str "white", .str "squeezed", .str "clipped"]) := fun lv => glbT_of X G cx.1.1.1
  have i_Ends : ∀ lv, Top.isc ⟨P, w, K, mg, base, lv⟩ "Ends" := fun lv => isc_of hC_Ends hl_Ends n_isinstance cx.1.1.2
  obtain ⟨fdT, FT, kT, bT⟩ := (got_of X G c 0 0 rfl rfl).fun (x := "_law_town") (st := sTown) (ps := ["_law_script"]) (fun _ _ _ _ _ _ us hl => match us, hl with | [_], _ => rfl)
  obtain ⟨fdD, FD, kD, bD⟩ := (got_of X G c 1 1 rfl rfl).fun (x := "_law_draw") (st := sDraw) (ps := ["_law_town_here", "_law_many"]) (fun _ _ _ _ _ _ us hl => match us, hl with | [_, _], _ => rfl)
  have h_draw : FnG P w K mg base 1 "_law_draw" [false, false] S_draw [] := ⟨_, fdD, _, [], [], okDraw FD n_len, (got_of (x := "_law_draw") (st := sDraw) (dfl := []) X G c 1 1 rfl rfl).at_, kD, bD, .nil, fun W => .nil⟩
  have h_is_whole : FnG P w K mg base 1 "is_whole" [false, false, false] S_is_whole [] := g_of (got_of (dfl := []) X G c 2 2 rfl rfl) cs_is_whole rfl B_is_whole ks_is_whole (fun _ _ _ _ _ _ us hl => match us, hl with | [_, _, _], _ => rfl) (by simp only [B_is_whole, okB, okS, okE, okL, okI, okO, ok1, ok2, and_true, true_and] <;> and_intros <;> first | assumption | exact FnG.up (by assumption) (by decide) | exact FnK.up (by assumption) (by decide) | exact MeG.up (by assumption) (by decide) | exact MkK.up (by assumption) (by decide) | exact MkG.up (by assumption) (by decide) | exact (hE _).1 _ (by decide) | exact (hE _).2 | (intro t ht; cases t <;> first | assumption | (simp at ht; done)) | exact x_BadColour _ | exact x_BadIntent _ | exact g_MOST _ | exact g_INTENTS _ | exact t_Ends_black _ | exact t_Ends_white _ | exact i_Ends _ | exact (i_Ends _).2) vc_is_whole
  have h_is_int : FnG P w K mg base 1 "is_int" [false] S_is_int [] := g_of (got_of (dfl := []) X G c 3 3 rfl rfl) cs_is_int rfl B_is_int ks_is_int (fun _ _ _ _ _ _ us hl => match us, hl with | [_], _ => rfl) (by simp only [B_is_int, okB, okS, okE, okL, okI, okO, ok1, ok2, and_true, true_and] <;> and_intros <;> first | assumption | exact FnG.up (by assumption) (by decide) | exact FnK.up (by assumption) (by decide) | exact MeG.up (by assumption) (by decide) | exact MkK.up (by assumption) (by decide) | exact MkG.up (by assumption) (by decide) | exact (hE _).1 _ (by decide) | exact (hE _).2 | (intro t ht; cases t <;> first | assumption | (simp at ht; done)) | exact x_BadColour _ | exact x_BadIntent _ | exact g_MOST _ | exact g_INTENTS _ | exact t_Ends_black _ | exact t_Ends_white _ | exact i_Ends _ | exact (i_Ends _).2) vc_is_int
  have h_common_measure : FnG P w K mg base 1 "common_measure" [false, false] S_common_measure [] := g_of (got_of (dfl := []) X G c 4 4 rfl rfl) cs_common_measure rfl B_common_measure ks_common_measure (fun _ _ _ _ _ _ us hl => match us, hl with | [_, _], _ => rfl) (by simp only [B_common_measure, okB, okS, okE, okL, okI, okO, ok1, ok2, and_true, true_and] <;> and_intros <;> first | assumption | exact FnG.up (by assumption) (by decide) | exact FnK.up (by assumption) (by decide) | exact MeG.up (by assumption) (by decide) | exact MkK.up (by assumption) (by decide) | exact MkG.up (by assumption) (by decide) | exact (hE _).1 _ (by decide) | exact (hE _).2 | (intro t ht; cases t <;> first | assumption | (simp at ht; done)) | exact x_BadColour _ | exact x_BadIntent _ | exact g_MOST _ | exact g_INTENTS _ | exact t_Ends_black _ | exact t_Ends_white _ | exact i_Ends _ | exact (i_Ends _).2) vc_common_measure
  have h_is_less : FnG P w K mg base 1 "is_less" [false, false] S_is_less [] := g_of (got_of (dfl := []) X G c 11 11 rfl rfl) cs_is_less rfl B_is_less ks_is_less (fun _ _ _ _ _ _ us hl => match us, hl with | [_, _], _ => rfl) (by simp only [B_is_less, okB, okS, okE, okL, okI, okO, ok1, ok2, and_true, true_and] <;> and_intros <;> first | assumption | exact FnG.up (by assumption) (by decide) | exact FnK.up (by assumption) (by decide) | exact MeG.up (by assumption) (by decide) | exact MkK.up (by assumption) (by decide) | exact MkG.up (by assumption) (by decide) | exact (hE _).1 _ (by decide) | exact (hE _).2 | (intro t ht; cases t <;> first | assumption | (simp at ht; done)) | exact x_BadColour _ | exact x_BadIntent _ | exact g_MOST _ | exact g_INTENTS _ | exact t_Ends_black _ | exact t_Ends_white _ | exact i_Ends _ | exact (i_Ends _).2) vc_is_less
  obtain ⟨fd14, F14⟩ : ∃ fd, FunD K "whites" "Ends.whites" (defArgs s_Ends_whites) (defBody s_Ends_whites) (defScope s_Ends_whites) [] [] (He.ma K (He.ga K "Ends") "whites") fd := c.def_ 14 rfl
  have o14 : FnOk P w K mg base (L2.CX P w) 1 (He.ma K (He.ga K "Ends") "whites") fd14 ["self"] (spD K mg [false] S_Ends_whites) := f_ofM F14 cs_Ends_whites rfl B_Ends_whites ks_Ends_whites (by simp only [B_Ends_whites, okB, okS, okE, okL, okI, okO, ok1, ok2, and_true, true_and] <;> and_intros <;> first | assumption | exact FnG.up (by assumption) (by decide) | exact FnK.up (by assumption) (by decide) | exact MeG.up (by assumption) (by decide) | exact MkK.up (by assumption) (by decide) | exact MkG.up (by assumption) (by decide) | exact (hE _).1 _ (by decide) | exact (hE _).2 | (intro t ht; cases t <;> first | assumption | (simp at ht; done)) | exact x_BadColour _ | exact x_BadIntent _ | exact g_MOST _ | exact g_INTENTS _ | exact t_Ends_black _ | exact t_Ends_white _ | exact i_Ends _ | exact (i_Ends _).2) vc_Ends_whites
  have h_Ends_whites : MeG P w K mg base 1 "Ends" "whites" [] S_Ends_whites [] := ⟨_, _, fd14, ["self"], [], [], hC_Ends, hl_Ends, He.meth_ok (c.fact 60 rfl), o14, bi_all (ps := ["self"]) F14 (fun _ _ _ _ _ _ us hl => match us, hl with | [_], _ => rfl), .nil, fun W => .nil⟩
  obtain ⟨fd15, F15⟩ : ∃ fd, FunD K "blacks" "Ends.blacks" (defArgs s_Ends_blacks) (defBody s_Ends_blacks) (defScope s_Ends_blacks) [] [] (He.ma K (He.ga K "Ends") "blacks") fd := c.def_ 15 rfl
  have o15 : FnOk P w K mg base (L2.CX P w) 1 (He.ma K (He.ga K "Ends") "blacks") fd15 ["self"] (spD K mg [false] S_Ends_blacks) := f_ofM F15 cs_Ends_blacks rfl B_Ends_blacks ks_Ends_blacks (by simp only [B_Ends_blacks, okB, okS, okE, okL, okI, okO, ok1, ok2, and_true, true_and] <;> and_intros <;> first | assumption | exact FnG.up (by assumption) (by decide) | exact FnK.up (by assumption) (by decide) | exact MeG.up (by assumption) (by decide) | exact MkK.up (by assumption) (by decide) | exact MkG.up (by assumption) (by decide) | exact (hE _).1 _ (by decide) | exact (hE _).2 | (intro t ht; cases t <;> first | assumption | (simp at ht; done)) | exact x_BadColour _ | exact x_BadIntent _ | exact g_MOST _ | exact g_INTENTS _ | exact t_Ends_black _ | exact t_Ends_white _ | exact i_Ends _ | exact (i_Ends _).2) vc_Ends_blacks
  have h_Ends_blacks : MeG P w K mg base 1 "Ends" "blacks" [] S_Ends_blacks [] := ⟨_, _, fd15, ["self"], [], [], hC_Ends, hl_Ends, He.meth_ok (c.fact 61 rfl), o15, bi_all (ps := ["self"]) F15 (fun _ _ _ _ _ _ us hl => match us, hl with | [_], _ => rfl), .nil, fun W => .nil⟩
  have h_law_refusal : FnG P w K mg base 1 "_law_refusal" [false] S_law_refusal [] := g_of (got_of (dfl := []) X G c 21 18 rfl rfl) cs_law_refusal rfl B_law_refusal ks_law_refusal (fun _ _ _ _ _ _ us hl => match us, hl with | [_], _ => rfl) (by simp only [B_law_refusal, okB, okS, okE, okL, okI, okO, ok1, ok2, and_true, true_and] <;> and_intros <;> first | assumption | exact FnG.up (by assumption) (by decide) | exact FnK.up (by assumption) (by decide) | exact MeG.up (by assumption) (by decide) | exact MkK.up (by assumption) (by decide) | exact MkG.up (by assumption) (by decide) | exact (hE _).1 _ (by decide) | exact (hE _).2 | (intro t ht; cases t <;> first | assumption | (simp at ht; done)) | exact x_BadColour _ | exact x_BadIntent _ | exact g_MOST _ | exact g_INTENTS _ | exact t_Ends_black _ | exact t_Ends_white _ | exact i_Ends _ | exact (i_Ends _).2) vc_law_refusal
  have h_law_low : FnG P w K mg base 1 "_law_low" [false, false] S_lowest [] := g_of (got_of (dfl := []) X G c 22 19 rfl rfl) cs_law_low rfl B_law_low ks_law_low (fun _ _ _ _ _ _ us hl => match us, hl with | [_, _], _ => rfl) (by simp only [B_law_low, okB, okS, okE, okL, okI, okO, ok1, ok2, and_true, true_and] <;> and_intros <;> first | assumption | exact FnG.up (by assumption) (by decide) | exact FnK.up (by assumption) (by decide) | exact MeG.up (by assumption) (by decide) | exact MkK.up (by assumption) (by decide) | exact MkG.up (by assumption) (by decide) | exact (hE _).1 _ (by decide) | exact (hE _).2 | (intro t ht; cases t <;> first | assumption | (simp at ht; done)) | exact x_BadColour _ | exact x_BadIntent _ | exact g_MOST _ | exact g_INTENTS _ | exact t_Ends_black _ | exact t_Ends_white _ | exact i_Ends _ | exact (i_Ends _).2) vc_law_low
  have h_lowest : FnG P w K mg base 2 "lowest" [false, false] S_lowest [] := g_of (got_of (dfl := []) X G c 5 5 rfl rfl) cs_lowest rfl B_lowest ks_lowest (fun _ _ _ _ _ _ us hl => match us, hl with | [_, _], _ => rfl) (by simp only [B_lowest, okB, okS, okE, okL, okI, okO, ok1, ok2, and_true, true_and] <;> and_intros <;> first | assumption | exact FnG.up (by assumption) (by decide) | exact FnK.up (by assumption) (by decide) | exact MeG.up (by assumption) (by decide) | exact MkK.up (by assumption) (by decide) | exact MkG.up (by assumption) (by decide) | exact (hE _).1 _ (by decide) | exact (hE _).2 | (intro t ht; cases t <;> first | assumption | (simp at ht; done)) | exact x_BadColour _ | exact x_BadIntent _ | exact g_MOST _ | exact g_INTENTS _ | exact t_Ends_black _ | exact t_Ends_white _ | exact i_Ends _ | exact (i_Ends _).2) vc_lowest
  obtain ⟨fd13, F13⟩ : ∃ fd, FunD K "__init__" "Ends.__init__" (defArgs s_Ends___init__) (defBody s_Ends___init__) (defScope s_Ends___init__) [] [("black", .ref (kwAt ("Ends", some "__init__") "black" K))] (He.ma K (He.ga K "Ends") "__init__") fd := c.def_ 13 rfl
  have o13 : FnOk P w K mg base (L2.CX P w) 2 (He.ma K (He.ga K "Ends") "__init__") fd13 ["self", "white", "black"] (spI K mg "Ends" [false, false] S_Ends___init__) := f_ofI F13 cs_Ends___init__ rfl rfl B_Ends___init__ ks_Ends___init__ (by simp only [B_Ends___init__, okB, okS, okE, okL, okI, okO, ok1, ok2, and_true, true_and] <;> and_intros <;> first | assumption | exact FnG.up (by assumption) (by decide) | exact FnK.up (by assumption) (by decide) | exact MeG.up (by assumption) (by decide) | exact MkK.up (by assumption) (by decide) | exact MkG.up (by assumption) (by decide) | exact (hE _).1 _ (by decide) | exact (hE _).2 | (intro t ht; cases t <;> first | assumption | (simp at ht; done)) | exact x_BadColour _ | exact x_BadIntent _ | exact g_MOST _ | exact g_INTENTS _ | exact t_Ends_black _ | exact t_Ends_white _ | exact i_Ends _ | exact (i_Ends _).2) vc_Ends_init
  have h_Ends___init__ : MkK P w K mg base 2 "Ends" ["white", "black"] [false, false] S_Ends___init__ [] := ⟨_, _, fd13, ["self", "white", "black"], _, [], hC_Ends, He.mkr_ok (c.fact 57 rfl), o13, kb_all (ps := ["self", "white", "black"]) (ks := ["white", "black"]) (n := 1) F13 (fun _ _ _ _ _ _ us ws h1 h2 => match us, ws, h1, h2 with | [_], [_, _], _, _ => rfl), fun W => .nil⟩
  obtain ⟨mv13, kb13⟩ := kb_dfl (ps := ["self", "white", "black"]) (ks := ["white"]) (n := 1) F13 (fun _ _ _ _ _ _ us mv ws h1 h2 h3 => match us, mv, ws, h1, h2, h3 with | [_], [_], [_], _, _, _ => ⟨_, _, _, _, _, _, rfl, rfl, rfl⟩)
  have h_Ends___init__1 : MkK P w K mg base 2 "Ends" ["white"] [false, false] S_Ends___init__ [.tup [.int 0, .int 0, .int 0]] := ⟨_, _, fd13, ["self", "white", "black"], _, [.ref (kwAt ("Ends", some "__init__") "black" K)], hC_Ends, He.mkr_ok (c.fact 57 rfl), o13, kb13, flatA_ok cx.1.2⟩
  have h_law_pick : FnG P w K mg base 2 "_law_pick" [false, false] S_law_pick [] := g_of (got_of (dfl := []) X G c 20 17 rfl rfl) cs_law_pick rfl B_law_pick ks_law_pick (fun _ _ _ _ _ _ us hl => match us, hl with | [_, _], _ => rfl) (by simp only [B_law_pick, okB, okS, okE, okL, okI, okO, ok1, ok2, and_true, true_and] <;> and_intros <;> first | assumption | exact FnG.up (by assumption) (by decide) | exact FnK.up (by assumption) (by decide) | exact MeG.up (by assumption) (by decide) | exact MkK.up (by assumption) (by decide) | exact MkG.up (by assumption) (by decide) | exact (hE _).1 _ (by decide) | exact (hE _).2 | (intro t ht; cases t <;> first | assumption | (simp at ht; done)) | exact x_BadColour _ | exact x_BadIntent _ | exact g_MOST _ | exact g_INTENTS _ | exact t_Ends_black _ | exact t_Ends_white _ | exact i_Ends _ | exact (i_Ends _).2) vc_law_pick
  have h_is_share : FnG P w K mg base 3 "is_share" [false] S_is_share [] := g_of (got_of (dfl := []) X G c 6 6 rfl rfl) cs_is_share rfl B_is_share ks_is_share (fun _ _ _ _ _ _ us hl => match us, hl with | [_], _ => rfl) (by simp only [B_is_share, okB, okS, okE, okL, okI, okO, ok1, ok2, and_true, true_and] <;> and_intros <;> first | assumption | exact FnG.up (by assumption) (by decide) | exact FnK.up (by assumption) (by decide) | exact MeG.up (by assumption) (by decide) | exact MkK.up (by assumption) (by decide) | exact MkG.up (by assumption) (by decide) | exact (hE _).1 _ (by decide) | exact (hE _).2 | (intro t ht; cases t <;> first | assumption | (simp at ht; done)) | exact x_BadColour _ | exact x_BadIntent _ | exact g_MOST _ | exact g_INTENTS _ | exact t_Ends_black _ | exact t_Ends_white _ | exact i_Ends _ | exact (i_Ends _).2) vc_is_share
  have h_plus : FnG P w K mg base 3 "plus" [false, false] S_plus [] := g_of (got_of (dfl := []) X G c 7 7 rfl rfl) cs_plus rfl B_plus ks_plus (fun _ _ _ _ _ _ us hl => match us, hl with | [_, _], _ => rfl) (by simp only [B_plus, okB, okS, okE, okL, okI, okO, ok1, ok2, and_true, true_and] <;> and_intros <;> first | assumption | exact FnG.up (by assumption) (by decide) | exact FnK.up (by assumption) (by decide) | exact MeG.up (by assumption) (by decide) | exact MkK.up (by assumption) (by decide) | exact MkG.up (by assumption) (by decide) | exact (hE _).1 _ (by decide) | exact (hE _).2 | (intro t ht; cases t <;> first | assumption | (simp at ht; done)) | exact x_BadColour _ | exact x_BadIntent _ | exact g_MOST _ | exact g_INTENTS _ | exact t_Ends_black _ | exact t_Ends_white _ | exact i_Ends _ | exact (i_Ends _).2) vc_plus
  have h_times : FnG P w K mg base 3 "times" [false, false] S_times [] := g_of (got_of (dfl := []) X G c 9 9 rfl rfl) cs_times rfl B_times ks_times (fun _ _ _ _ _ _ us hl => match us, hl with | [_, _], _ => rfl) (by simp only [B_times, okB, okS, okE, okL, okI, okO, ok1, ok2, and_true, true_and] <;> and_intros <;> first | assumption | exact FnG.up (by assumption) (by decide) | exact FnK.up (by assumption) (by decide) | exact MeG.up (by assumption) (by decide) | exact MkK.up (by assumption) (by decide) | exact MkG.up (by assumption) (by decide) | exact (hE _).1 _ (by decide) | exact (hE _).2 | (intro t ht; cases t <;> first | assumption | (simp at ht; done)) | exact x_BadColour _ | exact x_BadIntent _ | exact g_MOST _ | exact g_INTENTS _ | exact t_Ends_black _ | exact t_Ends_white _ | exact i_Ends _ | exact (i_Ends _).2) vc_times
  have h_by : FnG P w K mg base 3 "by" [false, false] S_by [] := g_of (got_of (dfl := []) X G c 10 10 rfl rfl) cs_by rfl B_by ks_by (fun _ _ _ _ _ _ us hl => match us, hl with | [_, _], _ => rfl) (by simp only [B_by, okB, okS, okE, okL, okI, okO, ok1, ok2, and_true, true_and] <;> and_intros <;> first | assumption | exact FnG.up (by assumption) (by decide) | exact FnK.up (by assumption) (by decide) | exact MeG.up (by assumption) (by decide) | exact MkK.up (by assumption) (by decide) | exact MkG.up (by assumption) (by decide) | exact (hE _).1 _ (by decide) | exact (hE _).2 | (intro t ht; cases t <;> first | assumption | (simp at ht; done)) | exact x_BadColour _ | exact x_BadIntent _ | exact g_MOST _ | exact g_INTENTS _ | exact t_Ends_black _ | exact t_Ends_white _ | exact i_Ends _ | exact (i_Ends _).2) vc_by
  have h_law_share : FnG P w K mg base 3 "_law_share" [false, false] S_law_share [] := g_of (got_of (dfl := []) X G c 23 20 rfl rfl) cs_law_share rfl B_law_share ks_law_share (fun _ _ _ _ _ _ us hl => match us, hl with | [_, _], _ => rfl) (by simp only [B_law_share, okB, okS, okE, okL, okI, okO, ok1, ok2, and_true, true_and] <;> and_intros <;> first | assumption | exact FnG.up (by assumption) (by decide) | exact FnK.up (by assumption) (by decide) | exact MeG.up (by assumption) (by decide) | exact MkK.up (by assumption) (by decide) | exact MkG.up (by assumption) (by decide) | exact (hE _).1 _ (by decide) | exact (hE _).2 | (intro t ht; cases t <;> first | assumption | (simp at ht; done)) | exact x_BadColour _ | exact x_BadIntent _ | exact g_MOST _ | exact g_INTENTS _ | exact t_Ends_black _ | exact t_Ends_white _ | exact i_Ends _ | exact (i_Ends _).2) vc_law_share
  have h_law_odd_shares : FnG P w K mg base 3 "_law_odd_shares" [false] S_law_odd_shares [] := g_of (got_of (dfl := []) X G c 25 22 rfl rfl) cs_law_odd_shares rfl B_law_odd_shares ks_law_odd_shares (fun _ _ _ _ _ _ us hl => match us, hl with | [_], _ => rfl) (by simp only [B_law_odd_shares, okB, okS, okE, okL, okI, okO, ok1, ok2, and_true, true_and] <;> and_intros <;> first | assumption | exact FnG.up (by assumption) (by decide) | exact FnK.up (by assumption) (by decide) | exact MeG.up (by assumption) (by decide) | exact MkK.up (by assumption) (by decide) | exact MkG.up (by assumption) (by decide) | exact (hE _).1 _ (by decide) | exact (hE _).2 | (intro t ht; cases t <;> first | assumption | (simp at ht; done)) | exact x_BadColour _ | exact x_BadIntent _ | exact g_MOST _ | exact g_INTENTS _ | exact t_Ends_black _ | exact t_Ends_white _ | exact i_Ends _ | exact (i_Ends _).2) vc_law_odd_shares
  have h_law_ends : FnG P w K mg base 3 "_law_ends" [false] S_law_ends [] := g_of (got_of (dfl := []) X G c 26 23 rfl rfl) cs_law_ends rfl B_law_ends ks_law_ends (fun _ _ _ _ _ _ us hl => match us, hl with | [_], _ => rfl) (by simp only [B_law_ends, okB, okS, okE, okL, okI, okO, ok1, ok2, and_true, true_and] <;> and_intros <;> first | assumption | exact FnG.up (by assumption) (by decide) | exact FnK.up (by assumption) (by decide) | exact MeG.up (by assumption) (by decide) | exact MkK.up (by assumption) (by decide) | exact MkG.up (by assumption) (by decide) | exact (hE _).1 _ (by decide) | exact (hE _).2 | (intro t ht; cases t <;> first | assumption | (simp at ht; done)) | exact x_BadColour _ | exact x_BadIntent _ | exact g_MOST _ | exact g_INTENTS _ | exact t_Ends_black _ | exact t_Ends_white _ | exact i_Ends _ | exact (i_Ends _).2) vc_law_ends
  have h_minus : FnG P w K mg base 4 "minus" [false, false] S_minus [] := g_of (got_of (dfl := []) X G c 8 8 rfl rfl) cs_minus rfl B_minus ks_minus (fun _ _ _ _ _ _ us hl => match us, hl with | [_, _], _ => rfl) (by simp only [B_minus, okB, okS, okE, okL, okI, okO, ok1, ok2, and_true, true_and] <;> and_intros <;> first | assumption | exact FnG.up (by assumption) (by decide) | exact FnK.up (by assumption) (by decide) | exact MeG.up (by assumption) (by decide) | exact MkK.up (by assumption) (by decide) | exact MkG.up (by assumption) (by decide) | exact (hE _).1 _ (by decide) | exact (hE _).2 | (intro t ht; cases t <;> first | assumption | (simp at ht; done)) | exact x_BadColour _ | exact x_BadIntent _ | exact g_MOST _ | exact g_INTENTS _ | exact t_Ends_black _ | exact t_Ends_white _ | exact i_Ends _ | exact (i_Ends _).2) vc_minus
  have h_look_three : FnG P w K mg base 4 "look_three" [false] S_look_three [] := g_of (got_of (dfl := []) X G c 12 12 rfl rfl) cs_look_three rfl B_look_three ks_look_three (fun _ _ _ _ _ _ us hl => match us, hl with | [_], _ => rfl) (by simp only [B_look_three, okB, okS, okE, okL, okI, okO, ok1, ok2, and_true, true_and] <;> and_intros <;> first | assumption | exact FnG.up (by assumption) (by decide) | exact FnK.up (by assumption) (by decide) | exact MeG.up (by assumption) (by decide) | exact MkK.up (by assumption) (by decide) | exact MkG.up (by assumption) (by decide) | exact (hE _).1 _ (by decide) | exact (hE _).2 | (intro t ht; cases t <;> first | assumption | (simp at ht; done)) | exact x_BadColour _ | exact x_BadIntent _ | exact g_MOST _ | exact g_INTENTS _ | exact t_Ends_black _ | exact t_Ends_white _ | exact i_Ends _ | exact (i_Ends _).2) vc_look_three
  have h_law_three : FnG P w K mg base 4 "_law_three" [false, false] S_law_three [] := g_of (got_of (dfl := []) X G c 24 21 rfl rfl) cs_law_three rfl B_law_three ks_law_three (fun _ _ _ _ _ _ us hl => match us, hl with | [_, _], _ => rfl) (by simp only [B_law_three, okB, okS, okE, okL, okI, okO, ok1, ok2, and_true, true_and] <;> and_intros <;> first | assumption | exact FnG.up (by assumption) (by decide) | exact FnK.up (by assumption) (by decide) | exact MeG.up (by assumption) (by decide) | exact MkK.up (by assumption) (by decide) | exact MkG.up (by assumption) (by decide) | exact (hE _).1 _ (by decide) | exact (hE _).2 | (intro t ht; cases t <;> first | assumption | (simp at ht; done)) | exact x_BadColour _ | exact x_BadIntent _ | exact g_MOST _ | exact g_INTENTS _ | exact t_Ends_black _ | exact t_Ends_white _ | exact i_Ends _ | exact (i_Ends _).2) vc_law_three
  have h_law_made : FnG P w K mg base 4 "_law_made" [false, false] S_law_made [] := g_of (got_of (dfl := []) X G c 27 24 rfl rfl) cs_law_made rfl B_law_made ks_law_made (fun _ _ _ _ _ _ us hl => match us, hl with | [_, _], _ => rfl) (by simp only [B_law_made, okB, okS, okE, okL, okI, okO, ok1, ok2, and_true, true_and] <;> and_intros <;> first | assumption | exact FnG.up (by assumption) (by decide) | exact FnK.up (by assumption) (by decide) | exact MeG.up (by assumption) (by decide) | exact MkK.up (by assumption) (by decide) | exact MkG.up (by assumption) (by decide) | exact (hE _).1 _ (by decide) | exact (hE _).2 | (intro t ht; cases t <;> first | assumption | (simp at ht; done)) | exact x_BadColour _ | exact x_BadIntent _ | exact g_MOST _ | exact g_INTENTS _ | exact t_Ends_black _ | exact t_Ends_white _ | exact i_Ends _ | exact (i_Ends _).2) vc_law_made
  have h_look_intent : FnG P w K mg base 5 "look_intent" [false, false, false] S_look_intent [] := g_of (got_of (dfl := []) X G c 16 13 rfl rfl) cs_look_intent rfl B_look_intent ks_look_intent (fun _ _ _ _ _ _ us hl => match us, hl with | [_, _, _], _ => rfl) (by simp only [B_look_intent, okB, okS, okE, okL, okI, okO, ok1, ok2, and_true, true_and] <;> and_intros <;> first | assumption | exact FnG.up (by assumption) (by decide) | exact FnK.up (by assumption) (by decide) | exact MeG.up (by assumption) (by decide) | exact MkK.up (by assumption) (by decide) | exact MkG.up (by assumption) (by decide) | exact (hE _).1 _ (by decide) | exact (hE _).2 | (intro t ht; cases t <;> first | assumption | (simp at ht; done)) | exact x_BadColour _ | exact x_BadIntent _ | exact g_MOST _ | exact g_INTENTS _ | exact t_Ends_black _ | exact t_Ends_white _ | exact i_Ends _ | exact (i_Ends _).2) vc_look_intent
  have h_one_led : FnG P w K mg base 5 "one_led" [false, false, false, false] S_one_led [] := g_of (got_of (dfl := []) X G c 17 14 rfl rfl) cs_one_led rfl B_one_led ks_one_led (fun _ _ _ _ _ _ us hl => match us, hl with | [_, _, _, _], _ => rfl) (by simp only [B_one_led, okB, okS, okE, okL, okI, okO, ok1, ok2, and_true, true_and] <;> and_intros <;> first | assumption | exact FnG.up (by assumption) (by decide) | exact FnK.up (by assumption) (by decide) | exact MeG.up (by assumption) (by decide) | exact MkK.up (by assumption) (by decide) | exact MkG.up (by assumption) (by decide) | exact (hE _).1 _ (by decide) | exact (hE _).2 | (intro t ht; cases t <;> first | assumption | (simp at ht; done)) | exact x_BadColour _ | exact x_BadIntent _ | exact g_MOST _ | exact g_INTENTS _ | exact t_Ends_black _ | exact t_Ends_white _ | exact i_Ends _ | exact (i_Ends _).2) vc_one_led
  obtain ⟨fd18, F18⟩ : ∃ fd, FunD K "led_worth" "led_worth" (defArgs s_led_worth) (defBody s_led_worth) (defScope s_led_worth) [] [] (He.ga K "led_worth") fd := c.def_ 18 rfl
  have a18 : mg "led_worth" = some (.ref (He.ga K "led_worth")) := He.glo_ok X G (c.fact 15 rfl)
  have o18 : FnOk P w K mg base (L2.CX P w) 6 (He.ga K "led_worth") fd18 ["worth", "intent", "here", "there"] (spD K mg [false, false, false, false] S_led_worth) := f_ofM F18 cs_led_worth rfl B_led_worth ks_led_worth (by simp only [B_led_worth, okB, okS, okE, okL, okI, okO, ok1, ok2, and_true, true_and] <;> and_intros <;> first | assumption | exact FnG.up (by assumption) (by decide) | exact FnK.up (by assumption) (by decide) | exact MeG.up (by assumption) (by decide) | exact MkK.up (by assumption) (by decide) | exact MkG.up (by assumption) (by decide) | exact (hE _).1 _ (by decide) | exact (hE _).2 | (intro t ht; cases t <;> first | assumption | (simp at ht; done)) | exact x_BadColour _ | exact x_BadIntent _ | exact g_MOST _ | exact g_INTENTS _ | exact t_Ends_black _ | exact t_Ends_white _ | exact i_Ends _ | exact (i_Ends _).2) vc_led_worth
  have h_led_worth : FnK P w K mg base 6 "led_worth" 2 ["here", "there"] [false, false, false, false] S_led_worth [] := ⟨_, fd18, ["worth", "intent", "here", "there"], _, [], o18, a18, F18.kp, kb_all (ps := ["worth", "intent", "here", "there"]) (ks := ["here", "there"]) (n := 2) F18 (fun _ _ _ _ _ _ us ws h1 h2 => match us, ws, h1, h2 with | [_, _], [_, _], _, _ => rfl), fun W => .nil⟩
  have h_is_between : FnG P w K mg base 6 "is_between" [false, false] S_is_between [] := g_of (got_of (dfl := []) X G c 19 16 rfl rfl) cs_is_between rfl B_is_between ks_is_between (fun _ _ _ _ _ _ us hl => match us, hl with | [_, _], _ => rfl) (by simp only [B_is_between, okB, okS, okE, okL, okI, okO, ok1, ok2, and_true, true_and] <;> and_intros <;> first | assumption | exact FnG.up (by assumption) (by decide) | exact FnK.up (by assumption) (by decide) | exact MeG.up (by assumption) (by decide) | exact MkK.up (by assumption) (by decide) | exact MkG.up (by assumption) (by decide) | exact (hE _).1 _ (by decide) | exact (hE _).2 | (intro t ht; cases t <;> first | assumption | (simp at ht; done)) | exact x_BadColour _ | exact x_BadIntent _ | exact g_MOST _ | exact g_INTENTS _ | exact t_Ends_black _ | exact t_Ends_white _ | exact i_Ends _ | exact (i_Ends _).2) vc_is_between
  have h_law_told : FnG P w K mg base 7 "_law_told" [false, false, false, false] S_law_told [] := g_of (got_of (dfl := []) X G c 28 25 rfl rfl) cs_law_told rfl B_law_told ks_law_told (fun _ _ _ _ _ _ us hl => match us, hl with | [_, _, _, _], _ => rfl) (by simp only [B_law_told, okB, okS, okE, okL, okI, okO, ok1, ok2, and_true, true_and] <;> and_intros <;> first | assumption | exact FnG.up (by assumption) (by decide) | exact FnK.up (by assumption) (by decide) | exact MeG.up (by assumption) (by decide) | exact MkK.up (by assumption) (by decide) | exact MkG.up (by assumption) (by decide) | exact (hE _).1 _ (by decide) | exact (hE _).2 | (intro t ht; cases t <;> first | assumption | (simp at ht; done)) | exact x_BadColour _ | exact x_BadIntent _ | exact g_MOST _ | exact g_INTENTS _ | exact t_Ends_black _ | exact t_Ends_white _ | exact i_Ends _ | exact (i_Ends _).2) vc_law_told
  exact law_of (lv := 7) (got_of (dfl := []) X G c 29 26 rfl rfl) (fun _ _ _ _ _ _ us hl => match us, hl with | [_], _ => rfl) rfl rfl cs_law rfl rfl (by decide +kernel) (by decide +kernel) (by decide +kernel) (by decide +kernel) (by decide +kernel) (FnOk.mono (okTown (lv := 0) FT n_list) (by decide)) (got_of (x := "_law_town") (st := sTown) (dfl := []) X G c 0 0 rfl rfl).at_ kT bT B_law ks_law (by simp only [B_law, okB, okS, okE, okL, okI, okO, ok1, ok2, and_true, true_and] <;> and_intros <;> first | assumption | exact FnG.up (by assumption) (by decide) | exact FnK.up (by assumption) (by decide) | exact MeG.up (by assumption) (by decide) | exact MkK.up (by assumption) (by decide) | exact MkG.up (by assumption) (by decide) | exact (hE _).1 _ (by decide) | exact (hE _).2 | (intro t ht; cases t <;> first | assumption | (simp at ht; done)) | exact x_BadColour _ | exact x_BadIntent _ | exact g_MOST _ | exact g_INTENTS _ | exact t_Ends_black _ | exact t_Ends_white _ | exact i_Ends _ | exact (i_Ends _).2) vc_law
abbrev lawR : PySem.W.OpenRow := PySem.W.OpenLaw.row PySem.Challenge.rw_tintroads_k18_intents_refused
abbrev hkL : PySem.W.Hook := He.hookX 6 faL fnL [] [] exL
def obL (s : PySem.W.SharedT) : He.AlX := He.obsX 6 faL fnL [] [] exL (HandSHeadRun.getT s)
theorem obL_eq (s : PySem.W.SharedT) : obL s = hkL.obs s.abs := He.obsX_eq (HandSHeadRun.getT_eq s)
def namesL0 : List Str := ["__name__", "TintError", "BadNumber", "BadShare", "BadCurve", "BadSquare", "NoBack", "BadGrid", "BadColour", "BadIntent", "BadProfile", "BadInk", "BadText", "is_whole", "is_int", "common_measure", "lowest", "is_share", "plus", "minus", "times", "by", "is_less", "look_three", "MOST", "INTENTS", "Ends", "look_intent", "one_led", "led_worth"]
def namesL1 : List Str := ["is_between", "_law_town", "_law_draw", "_law_pick", "_law_refusal", "_law_low", "_law_share", "_law_three", "_law_odd_shares", "_law_ends", "_law_made", "_law_told"]
def namesL : List Str := namesL0 ++ namesL1
theorem runL (w : World) : HandSHeadRun.RunEq lawR (PySem.W.view lawR.prog [46]) hkL obL 12000 namesL w := by
  intro os
  kernel_rfl
theorem tailL {l : PySem.W.OpenLaw} (hl : l = PySem.Challenge.rw_tintroads_k18_intents_refused) {q : Program} {loose : List Str} {XP : (Str → Option Value) → Heap → Prop} {d : DefRec} (hdf : d.params.defaults = []) (hnm : d.name = ("law" : Str)) : PySem.W.WalkO q loose XP (hkL.says) l.row.toRowW d [] (fun f vs => PySem.call f vs) := by
  subst hl
  refine walkW (n := 63) (k := 8) (x := "_law_script") rfl (by decide) (by decide) hdf ⟨rfl, by decide, by decide⟩ ?_
  intro w mg fa h Y G hm
  obtain ⟨K, KX, cX⟩ := Y
  have c := He.SaysT.d cX.t
  rw [hnm] at hm
  have gl := got_of (x := "law") (st := s_law) (dfl := []) KX G c 29 26 rfl rfl
  cases hm.symm.trans gl.at_
  obtain ⟨fd, F⟩ := gl.fn
  have b := FunD.bindsA (ps := ["_law_script"]) F (fun _ _ _ _ _ _ us hl => match us, hl with | [_], _ => rfl)
  exact ⟨K, KX, fd, fun s v => b s [v] rfl, fun base _ _ => chain KX G c cX.more base fd F⟩
end TT
open PySem PySem.W PySem.Calls PyProof.Rows
theorem PySem.Challenge.cw_tintroads_k18_intents_refused_holds : PySem.Challenge.rw_tintroads_k18_intents_refused.Holds := by
  w_on; o_law
  refine HandSHeadRun.head_any (r := TT.lawR) (q := view TT.lawR.prog [46]) (H := TT.hkL) (ob := TT.obL) (M := 12000) (loose := TT.namesL) (d := HandSHeadRun.topDef TT.lawR.prog 46) (kwd := []) TT.obL_eq (by kernel_rfl) (fun s => by kernel_rfl) TT.runL (by kernel_rfl) (by kernel_rfl) (by kernel_rfl) (by rfl) (by first | assumption | decide +kernel) (by decide +kernel) ⟨rfl, rfl, rfl, rfl, rfl, by decide +kernel⟩ ?hw ?hc
  case hw => w_witness2
  case hc => exact TT.tailL rfl (by kernel_rfl) (by kernel_rfl)
