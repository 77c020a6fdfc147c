import PyProof.Rows.All
import Wide.All
import OpenK.AllK
import Wide.FinOn
import HandS.ForExc
import HandS.Comp
import HandS.Wide
import HandS.Flow
import HandS.Exc
import HandS.Iter
import HandS.TupMul
import HandS.TupLe
import HandS.Deep
import HandS.Defaults
import HandS.MakeKwOnly
import HandS.IsInst
import HandS.TupAny
import HandS.Zip
import KE.GoesZip
import KE.KUnpackStar
import HandS.SetFor
import HandS.SortInts
import HandS.Strs
import KE.KDictCopyH
import HandS.TupLen
import HandS.More
import HandS.DictTup
import KE.DataMinMax
import PyProof.Rows.TupReads
import HandS.Sort
import KE.SortData
import KE.KDictSum
import HandS.Dict
import HandS.ClsMeth
import HandS.Conv
import HandS.TupSets
import KE.KeyNested
import HandS.ExcIs
import HandS.ExcValue
import HandS.Style
import HandS.Small
import HandS.Words
import HandS.WordsExc
import HandS.Ends
import HandS.Head0
import HandS.Head1
import HandS.Head2
import HandS.HeadEnd
import HandS.HeadHook1
import HandS.HeadHook2
import HandS.HeadHook3
import HandS.HeadHook4
import HandS.List
import HandS.Call
import PyProof.Rows.StrBoot
import PySem.Challenge.RW_tintroads_k32_whole_finer
set_option Elab.async false
set_option linter.all false
set_option maxRecDepth 100000
namespace TT
open PySem PySem.Spec L2

inductive D where
  | non | bl (b : Bool) | int (i : Int) | str (s : Str) | ty (n : String)
  | tup (xs : List D) | lst (xs : List D) | dic (kvs : List (List Int × D)) | obj (C : Str) (fs : List (Str × D))
  | town | scr | err (c : Str) | key (k : List Int)
  /-- a dict of whole numbers as keys -/
  | idc (kvs : List (Int × D))
/-- v: a value whose every part stands still; own: a fresh list or dict that nobody else holds; bp: a list or dict that a caller lent; bl: one's own, lent for a moment; ins: an instance that is being made; insL: one whose last field is a list of its own, that grows; pin: an own list while it is walked -/
inductive DV where
  | v (d : D) | own (d : D) | bp (d : D) | bl (d : D) | ins (a : Addr) (c : Str) (fs : List (Str × D)) | insL (a : Addr) (c : Str) (fs : List (Str × D)) (f : Str) (ds : List D) | pin (a : Addr) (d : D)
structure Wd where
  F : Hp
  tw : Option (Addr × Addr)

/-- a caught error of the class cls at a -/
def ErrX (cls : Value) (d : Option Addr) (a : Addr) : HO := .ext fun h => ∃ (oe : Obj) (vs : Array Value), h.get? a = some oe ∧ Zc cls d oe ∧ oe.data = .fields vs
def keyOf (k : List Int) : List Key := k.map Sum.inl

section
variable (K : PySem.W.Frag) (mg : Str → Option Value)
mutual
inductive Rep (W : Wd) : V → D → Prop
  | non : Rep W .non .non
  | bl (b : Bool) : Rep W (.bl b) (.bl b)
  | int (i : Int) : Rep W (.int i) (.int i)
  | str (x : Str) : Rep W (.str x) (.str x)
  | ty (n : String) : Rep W (.ty n) (.ty n)
  | tup {a : Addr} {xs : List V} {ds : List D} : SqT K W.F a xs → RepL W xs ds → Rep W (.ref a) (.tup ds)
  | lst {a : Addr} {xs : List V} {ds : List D} : W.F a = some (.lst xs) → RepL W xs ds → Rep W (.ref a) (.lst ds)
  | dic {a : Addr} {od : Obj} {xs : List (List Key × V)} {ds : List (List Int × D)} : W.F a = some (.frz od (.dT xs)) → RepK W xs ds → Rep W (.ref a) (.dic ds)
  | obj {a C dx : Addr} {c : Str} {xs : List (Str × V)} {ds : List (Str × D)} : W.F a = some (.ins C dx xs) → mg c = some (.ref C) → RepF W xs ds → Rep W (.ref a) (.obj c ds)
  | town {a b : Addr} : W.tw = some (a, b) → Rep W (.ref a) .town
  | scr {a : Addr} {ns : List Int} : SqL K W.F a (ns.map V.int) → ns.length ≤ 63 → Rep W (.ref a) .scr
  | err {a C : Addr} {c : Str} : W.F a = some (ErrX (.ref C) none a) → mg c = some (.ref C) → Rep W (.ref a) (.err c)
  | key {a : Addr} {k : List Int} : W.F a = some (.tup (k.map V.int)) → Rep W (.ref a) (.key k)
  | idc {a : Addr} {xs : List (Key × V)} {ds : List (Int × D)} : W.F a = some (.dK xs) → RepI W xs ds → Rep W (.ref a) (.idc ds)
inductive RepL (W : Wd) : List V → List D → Prop
  | nil : RepL W [] []
  | cons {v : V} {vs : List V} {d : D} {ds : List D} : Rep W v d → RepL W vs ds → RepL W (v :: vs) (d :: ds)
inductive RepK (W : Wd) : List (List Key × V) → List (List Int × D) → Prop
  | nil : RepK W [] []
  | cons {k : List Int} {v : V} {vs : List (List Key × V)} {d : D} {ds : List (List Int × D)} : Rep W v d → RepK W vs ds → RepK W ((keyOf k, v) :: vs) ((k, d) :: ds)
inductive RepI (W : Wd) : List (Key × V) → List (Int × D) → Prop
  | nil : RepI W [] []
  | cons {k : Int} {v : V} {vs : List (Key × V)} {d : D} {ds : List (Int × D)} : Rep W v d → RepI W vs ds → RepI W ((Sum.inl k, v) :: vs) ((k, d) :: ds)
inductive RepF (W : Wd) : List (Str × V) → List (Str × D) → Prop
  | nil : RepF W [] []
  | cons {k : Str} {v : V} {vs : List (Str × V)} {d : D} {ds : List (Str × D)} : Rep W v d → RepF W vs ds → RepF W ((k, v) :: vs) ((k, d) :: ds)
end
end

structure Wd.le (W W' : Wd) : Prop where
  F : Same W.F W'.F
  tw : ∀ t, W.tw = some t → W'.tw = some t
theorem Wd.le.refl (W : Wd) : W.le W := ⟨Same.refl _, fun _ h => h⟩
theorem Wd.le.trans {A B C : Wd} (a : A.le B) (b : B.le C) : A.le C := ⟨a.F.trans b.F, fun t h => b.tw t (a.tw t h)⟩

theorem Same.seqT {K : PySem.W.Frag} {H H' : Hp} {a : Addr} {xs : List V} (e : Same H H') (h : SqT K H a xs) : SqT K H' a xs := by
  rcases h with (h | ⟨o, h⟩) | h
  · exact .inl (.inl (e _ _ h))
  · exact .inl (.inr ⟨o, e _ _ h⟩)
  · exact .inr h

section
variable {K : PySem.W.Frag} {mg : Str → Option Value} {W W' : Wd}
mutual
theorem Rep.mono (hF : Same W.F W'.F) (ht : ∀ t, W.tw = some t → W'.tw = some t) : ∀ {v : V} {d : D}, Rep K mg W v d → Rep K mg W' v d
  | _, _, .non => .non
  | _, _, .bl b => .bl b
  | _, _, .int i => .int i
  | _, _, .str x => .str x
  | _, _, .ty n => .ty n
  | _, _, .tup h r => .tup (Same.seqT hF h) (RepL.mono hF ht r)
  | _, _, .lst h r => .lst (hF _ _ h) (RepL.mono hF ht r)
  | _, _, .scr h r => .scr (hF.seq h) r
  | _, _, .err h m => .err (hF _ _ h) m
  | _, _, .key h => .key (hF _ _ h)
  | _, _, .idc h r => .idc (hF _ _ h) (RepI.mono hF ht r)
  | _, _, .dic h r => .dic (hF _ _ h) (RepK.mono hF ht r)
  | _, _, .obj h m r => .obj (hF _ _ h) m (RepF.mono hF ht r)
  | _, _, .town h => .town (ht _ h)
theorem RepL.mono (hF : Same W.F W'.F) (ht : ∀ t, W.tw = some t → W'.tw = some t) : ∀ {v : List V} {d : List D}, RepL K mg W v d → RepL K mg W' v d
  | _, _, .nil => .nil
  | _, _, .cons h r => .cons (Rep.mono hF ht h) (RepL.mono hF ht r)
theorem RepK.mono (hF : Same W.F W'.F) (ht : ∀ t, W.tw = some t → W'.tw = some t) : ∀ {v : List (List Key × V)} {d : List (List Int × D)}, RepK K mg W v d → RepK K mg W' v d
  | _, _, .nil => .nil
  | _, _, .cons h r => .cons (Rep.mono hF ht h) (RepK.mono hF ht r)
theorem RepI.mono (hF : Same W.F W'.F) (ht : ∀ t, W.tw = some t → W'.tw = some t) : ∀ {v : List (Key × V)} {d : List (Int × D)}, RepI K mg W v d → RepI K mg W' v d
  | _, _, .nil => .nil
  | _, _, .cons h r => .cons (Rep.mono hF ht h) (RepI.mono hF ht r)
theorem RepF.mono (hF : Same W.F W'.F) (ht : ∀ t, W.tw = some t → W'.tw = some t) : ∀ {v : List (Str × V)} {d : List (Str × D)}, RepF K mg W v d → RepF K mg W' v d
  | _, _, .nil => .nil
  | _, _, .cons h r => .cons (Rep.mono hF ht h) (RepF.mono hF ht r)
end
theorem Rep.le (l : W.le W') {v : V} {d : D} (r : Rep K mg W v d) : Rep K mg W' v d := r.mono l.F l.tw
theorem RepL.le (l : W.le W') {v : List V} {d : List D} (r : RepL K mg W v d) : RepL K mg W' v d := r.mono l.F l.tw
theorem RepK.le (l : W.le W') {v : List (List Key × V)} {d : List (List Int × D)} (r : RepK K mg W v d) : RepK K mg W' v d := r.mono l.F l.tw
theorem RepF.le (l : W.le W') {v : List (Str × V)} {d : List (Str × D)} (r : RepF K mg W v d) : RepF K mg W' v d := r.mono l.F l.tw
theorem RepL.length : ∀ {v : List V} {d : List D}, RepL K mg W v d → v.length = d.length
  | _, _, .nil => rfl
  | _, _, .cons _ r => congrArg (· + 1) (RepL.length r)
theorem RepL.take : ∀ {v : List V} {d : List D} (n : Nat), RepL K mg W v d → RepL K mg W (v.take n) (d.take n)
  | _, _, 0, _ => .nil
  | _, _, _ + 1, .nil => .nil
  | _, _, n + 1, .cons h r => .cons h (RepL.take n r)
theorem RepF.lookup : ∀ {v : List (Str × V)} {d : List (Str × D)} {f : Str} {x : D}, RepF K mg W v d → d.lookup f = some x → ∃ u, v.lookup f = some u ∧ Rep K mg W u x
  | _, _, _, _, .nil, e => by simp at e
  | _, _, f, x, .cons (k := k) h r, e => by
    by_cases q : f = k
    · subst q
      simp at e ⊢
      subst e
      exact h
    · have hb : (f == k) = false := beq_eq_false_iff_ne.mpr q
      simp only [List.lookup, hb] at e ⊢
      exact RepF.lookup r e
theorem RepF.none : ∀ {v : List (Str × V)} {d : List (Str × D)} {f : Str}, RepF K mg W v d → d.lookup f = Option.none → v.lookup f = Option.none
  | _, _, _, .nil, e => rfl
  | _, _, f, .cons (k := k) h r, e => by
    by_cases q : f = k
    · subst q
      simp at e
    · have hb : (f == k) = false := beq_eq_false_iff_ne.mpr q
      simp only [List.lookup, hb] at e ⊢
      exact RepF.none r e
theorem RepF.length : ∀ {v : List (Str × V)} {d : List (Str × D)}, RepF K mg W v d → v.length = d.length
  | _, _, .nil => rfl
  | _, _, .cons _ r => congrArg (· + 1) (RepF.length r)
end

theorem RepK.len {K : PySem.W.Frag} {mg : Str → Option Value} {W : Wd} : ∀ {xs : List (List Key × V)} {ds : List (List Int × D)}, RepK K mg W xs ds → xs.length = ds.length
  | _, _, .nil => rfl
  | _, _, .cons _ r => congrArg (· + 1) (RepK.len r)
def TownAt (H : Hp) (T R : Addr) : Prop := ∃ (ns : List Int) (n : Int), H T = some (.lst [.ref R, .int n]) ∧ H R = some (.lst (ns.map V.int)) ∧ 0 ≤ n ∧ 0 < ns.length ∧ ns.length ≤ 64

/-- the world w over the heap H -/
structure WOk (W : Wd) (H : Hp) : Prop where
  sub : Same W.F H
  town : ∀ T R, W.tw = some (T, R) → T ≠ R ∧ W.F T = none ∧ W.F R = none ∧ TownAt H T R

def Wd.ofTown (W : Wd) (a : Addr) : Prop := ∃ T R, W.tw = some (T, R) ∧ (a = T ∨ a = R)
theorem WOk.townSome {W : Wd} {H : Hp} (k : WOk W H) {a : Addr} (h : W.ofTown a) : ∃ o, H a = some o := by
  obtain ⟨T, R, e, h⟩ := h
  obtain ⟨_, _, _, ns, n, h1, h2, _⟩ := k.town T R e
  rcases h with rfl | rfl
  · exact ⟨_, h1⟩
  · exact ⟨_, h2⟩
theorem WOk.townLst {W : Wd} {H : Hp} (k : WOk W H) {a : Addr} (h : W.ofTown a) : ∃ ls, H a = some (.lst ls) := by
  obtain ⟨T, R, e, h⟩ := h
  obtain ⟨_, _, _, ns, n, h1, h2, _⟩ := k.town T R e
  rcases h with rfl | rfl
  · exact ⟨_, h1⟩
  · exact ⟨_, h2⟩
/-- from (W, H) on to (W', H'): nothing of H is changed but the town; what stands still is of before or new -/
structure Stp (W : Wd) (H : Hp) (W' : Wd) (H' : Hp) : Prop where
  le : W.le W'
  eff : ∀ a o, H a = some o → ¬ W.ofTown a → H' a = some o
  new : ∀ a, W'.F a ≠ none → W.F a ≠ none ∨ H a = none ∨ ∃ xs, H a = some (.tup xs)
  tnew : ∀ a, W'.ofTown a → W.ofTown a ∨ H a = none
  ok : WOk W' H'
theorem Stp.refl {W : Wd} {H : Hp} (k : WOk W H) : Stp W H W H := ⟨.refl _, fun _ _ h _ => h, fun _ h => .inl h, fun _ h => .inl h, k⟩
theorem Wd.le.ofTown {W W' : Wd} (l : W.le W') {a : Addr} (h : W.ofTown a) : W'.ofTown a := by
  obtain ⟨T, R, e, h⟩ := h
  exact ⟨T, R, l.tw _ e, h⟩
/-- what is new to the later heap was new to the earlier -/
theorem Stp.fresh {W W' : Wd} {H H' : Hp} (s : Stp W H W' H') {a : Addr} (h : H' a = none) : H a = none := by
  cases q : H a with
  | none => rfl
  | some o =>
    by_cases t : W.ofTown a
    · obtain ⟨o', e⟩ := s.ok.townSome (s.le.ofTown t)
      rw [h] at e; cases e
    · rw [s.eff a o q t] at h; cases h
theorem Stp.trans {W W1 W2 : Wd} {H H1 H2 : Hp} (a : Stp W H W1 H1) (b : Stp W1 H1 W2 H2) : Stp W H W2 H2 where
  le := a.le.trans b.le
  eff := fun c o h t => by
    refine b.eff c o (a.eff c o h t) fun t1 => ?_
    rcases a.tnew c t1 with q | q
    · exact t q
    · rw [h] at q; cases q
  new := fun c h => by
    rcases b.new c h with q | q | ⟨xs, q⟩
    · exact a.new c q
    · exact .inr (.inl (a.fresh q))
    · cases e : H c with
      | none => exact .inr (.inl rfl)
      | some o =>
        by_cases t : W.ofTown c
        · obtain ⟨ls, z⟩ := a.ok.townLst (a.le.ofTown t)
          rw [q] at z; cases z
        · have := a.eff c o e t
          rw [q] at this
          cases this
          exact .inr (.inr ⟨xs, rfl⟩)
  tnew := fun c h => by
    rcases b.tnew c h with q | q
    · exact a.tnew c q
    · exact .inr (a.fresh q)
  ok := b.ok

/-- a new object, that stands still from now on -/
theorem Stp.laid {W : Wd} {H : Hp} (k : WOk W H) {p : Addr} (hp : H p = none) (o : HO) : Stp W H { W with F := upd W.F p o } (upd H p o) := by
  have hF : W.F p = none := k.sub.free hp
  have nt : ¬ W.ofTown p := fun t => by
    obtain ⟨o', e⟩ := k.townSome t
    rw [hp] at e; cases e
  refine ⟨⟨fun b u e => by show upd W.F p o b = _; rw [upd_ne (ne_of_none e hF)]; exact e, fun _ h => h⟩, fun a u e _ => by rw [upd_ne (ne_of_none e hp)]; exact e, fun a h => ?_, fun a h => .inl h, ⟨fun b u e => ?_, fun T R e => ?_⟩⟩
  · by_cases q : a = p
    · subst q; exact .inr (.inl hp)
    · have h : upd W.F p o a ≠ none := h
      rw [upd_ne q] at h
      exact .inl h
  · have e : upd W.F p o b = some u := e
    by_cases q : b = p
    · subst q
      rw [upd_same] at e ⊢
      exact e
    · rw [upd_ne q] at e ⊢
      exact k.sub b u e
  · obtain ⟨h0, h1, h2, ns, n, h5, h6, h7⟩ := k.town T R e
    have nT : T ≠ p := fun z => nt ⟨T, R, e, .inl z.symm⟩
    have nR : R ≠ p := fun z => nt ⟨T, R, e, .inr z.symm⟩
    exact ⟨h0, by show upd W.F p o T = _; rw [upd_ne nT]; exact h1, by show upd W.F p o R = _; rw [upd_ne nR]; exact h2, ns, n, by rw [upd_ne nT]; exact h5, by rw [upd_ne nR]; exact h6, h7⟩
/-- an object that nobody speaks of is laid or changed -/
theorem WOk.upd {W : Wd} {H : Hp} (k : WOk W H) {p : Addr} (hF : W.F p = none) (nt : ¬ W.ofTown p) (o : HO) : WOk W (upd H p o) := by
  refine ⟨fun b u e => ?_, fun T R e => ?_⟩
  · rw [upd_ne (ne_of_none e hF)]; exact k.sub b u e
  · obtain ⟨h0, h1, h2, ns, n, h5, h6, h7⟩ := k.town T R e
    have nT : T ≠ p := fun z => nt ⟨T, R, e, .inl z.symm⟩
    have nR : R ≠ p := fun z => nt ⟨T, R, e, .inr z.symm⟩
    exact ⟨h0, h1, h2, ns, n, by rw [upd_ne nT]; exact h5, by rw [upd_ne nR]; exact h6, h7⟩
theorem WOk.notTown {W : Wd} {H : Hp} (k : WOk W H) {p : Addr} (hp : H p = none) : ¬ W.ofTown p := fun t => by
  obtain ⟨o', e⟩ := k.townSome t
  rw [hp] at e; cases e
/-- an object that is new since H0 is changed -/
theorem Stp.write {W0 W : Wd} {H0 H : Hp} (s : Stp W0 H0 W H) {p : Addr} (h0 : H0 p = none) (hF : W.F p = none) (nt : ¬ W.ofTown p) (o : HO) : Stp W0 H0 W (upd H p o) :=
  ⟨s.le, fun a u e t => by rw [upd_ne (ne_of_none e h0)]; exact s.eff a u e t, s.new, s.tnew, s.ok.upd hF nt o⟩
/-- what stood for itself stands still from now on -/
theorem Stp.freeze {W0 W : Wd} {H0 H : Hp} (s : Stp W0 H0 W H) {p : Addr} {o : HO} (h0 : H0 p = none) (hp : H p = some o) (hF : W.F p = none) (nt : ¬ W.ofTown p) : Stp W0 H0 { W with F := upd W.F p o } H ∧ W.le { W with F := upd W.F p o } := by
  have l : W.le { W with F := upd W.F p o } := ⟨fun b u e => by show upd W.F p o b = _; rw [upd_ne (ne_of_none e hF)]; exact e, fun _ h => h⟩
  refine ⟨⟨s.le.trans l, s.eff, fun a h => ?_, s.tnew, ⟨fun b u e => ?_, fun T R e => ?_⟩⟩, l⟩
  · by_cases q : a = p
    · subst q; exact .inr (.inl h0)
    · have h : upd W.F p o a ≠ none := h
      rw [upd_ne q] at h
      exact s.new a h
  · have e : upd W.F p o b = some u := e
    by_cases q : b = p
    · subst q
      rw [upd_same] at e
      rw [hp]; exact e
    · rw [upd_ne q] at e
      exact s.ok.sub b u e
  · obtain ⟨h0', h1, h2, h5⟩ := s.ok.town T R e
    have nT : T ≠ p := fun z => nt ⟨T, R, e, .inl z.symm⟩
    have nR : R ≠ p := fun z => nt ⟨T, R, e, .inr z.symm⟩
    exact ⟨h0', by show upd W.F p o T = _; rw [upd_ne nT]; exact h1, by show upd W.F p o R = _; rw [upd_ne nR]; exact h2, h5⟩
/-- what stood for itself is locked, and stands still from now on -/
theorem Stp.lockz {W0 W : Wd} {H0 H : Hp} (s : Stp W0 H0 W H) {p : Addr} {o : HO} (h0 : H0 p = none) (hF : W.F p = none) (nt : ¬ W.ofTown p) : Stp W0 H0 { W with F := upd W.F p o } (upd H p o) ∧ W.le { W with F := upd W.F p o } :=
  Stp.freeze (s.write h0 hF nt o) h0 upd_same hF nt
end TT

set_option Elab.async false
set_option linter.all false
set_option maxRecDepth 100000
set_option autoImplicit false
namespace TT
open PySem PySem.Spec L2

abbrev Sl := List (Option DV)
/-- the entry of a body: its world and heap -/
abbrev N0 := Wd × Hp
/-- a def's promise over data: the arguments, what is wanted of the answer, of a refusal -/
abbrev DS := List D → (DV → Prop) → (Str → Prop) → Prop

/-- an object that is no tuple stands there -/
def NTup (o : Option HO) : Prop := ∃ u, o = some u ∧ ∀ xs, u ≠ .tup xs
theorem NTup.ne {o : Option HO} (h : NTup o) : o ≠ none := by obtain ⟨u, rfl, _⟩ := h; simp
theorem NTup.ex {o : Option HO} (h : NTup o) : ∃ u, o = some u := by obtain ⟨u, rfl, _⟩ := h; exact ⟨u, rfl⟩
section
variable (K : PySem.W.Frag) (mg : Str → Option Value)
def Cell (W : Wd) (H : Hp) (a : Addr) : D → Prop
  | .lst ds => ∃ xs, H a = some (.lst xs) ∧ RepL K mg W xs ds
  | .dic ds => ∃ xs, H a = some (.dT xs) ∧ RepK K mg W xs ds
  | _ => False
/-- readable: it stands still, or its top is told by the heap as it is -/
def RepT (W : Wd) (H : Hp) (v : V) (d : D) : Prop := Rep K mg W v d ∨ ∃ a, v = .ref a ∧ Cell K mg W H a d ∧ ¬ W.ofTown a
def Loose (W : Wd) (a : Addr) : Prop := W.F a = none ∧ ¬ W.ofTown a
/-- an expression's value; H1: the heap ahead of it -/
def VRep (n : N0) (H1 : Hp) (W : Wd) (H : Hp) (v : V) : DV → Prop
  | .v d => Rep K mg W v d
  | .own d => ∃ a, v = .ref a ∧ Cell K mg W H a d ∧ H1 a = none ∧ Loose W a
  | .bp d => Rep K mg W v d ∨ ∃ a, v = .ref a ∧ Cell K mg W n.2 a d ∧ ¬ n.1.ofTown a
  | .bl d => RepT K mg W H v d
  | .ins _ _ _ => False
  | .insL _ _ _ _ _ => False
  | .pin _ _ => False
/-- a slot's value; o: the address of what it owns -/
def SRep (n : N0) (W : Wd) (H : Hp) (v : V) (o : Option Addr) : DV → Prop
  | .v d => Rep K mg W v d
  | .own d => ∃ a, o = some a ∧ v = .ref a ∧ Cell K mg W H a d
  | .bp d => Rep K mg W v d ∨ ∃ a, v = .ref a ∧ Cell K mg W n.2 a d ∧ ¬ n.1.ofTown a
  | .bl _ => False
  | .ins a c fs => ∃ C dx xs, o = some a ∧ v = .ref a ∧ H a = some (.ins C dx xs) ∧ mg c = some (.ref C) ∧ RepF K mg W xs fs
  | .insL a c fs f ds => ∃ C dx xs p vs, o = some p ∧ v = .ref a ∧ H a = some (.ins C dx (xs ++ [(f, .ref p)])) ∧ mg c = some (.ref C) ∧ RepF K mg W xs fs ∧ fs.lookup f = none ∧ H p = some (.lst vs) ∧ RepL K mg W vs ds ∧ n.2 a = none ∧ Loose W a
  | .pin a d => o = some a ∧ v = .ref a ∧ Cell K mg W H a d
structure Sto (n : N0) (W : Wd) (H : Hp) (σ : St) (δ : Sl) : Prop where
  len : σ.length = δ.length
  own : ∃ ow : Nat → Option Addr, (∀ i dv, δ[i]? = some (some dv) → ∃ v, σ[i]? = some (some v) ∧ SRep K mg n W H v (ow i) dv) ∧
    (∀ i j a, ow i = some a → ow j = some a → i = j) ∧ ∀ i a, ow i = some a → n.2 a = none ∧ NTup (H a) ∧ Loose W a
end

section
variable {K : PySem.W.Frag} {mg : Str → Option Value} {n : N0} {W W' : Wd} {H H' H1 : Hp} {σ : St} {δ : Sl} {v : V} {d : D} {dv : DV} {a : Addr}
theorem Cell.le (l : W.le W') (h : H' a = H a) : ∀ {d : D}, Cell K mg W H a d → Cell K mg W' H' a d
  | .lst ds, ⟨xs, e, r⟩ => ⟨xs, by rw [h]; exact e, r.le l⟩
  | .dic ds, ⟨xs, e, r⟩ => ⟨xs, by rw [h]; exact e, r.le l⟩
theorem Cell.some : ∀ {d : D}, Cell K mg W H a d → ∃ o, H a = Option.some o
  | .lst ds, ⟨xs, e, r⟩ => ⟨_, e⟩
  | .dic ds, ⟨xs, e, r⟩ => ⟨_, e⟩
theorem Stp.at (s : Stp W H W' H') (h : ∃ o, H a = some o) (t : ¬ W.ofTown a) : H' a = H a := by
  obtain ⟨o, e⟩ := h
  rw [e]; exact s.eff a o e t
theorem Stp.notTown (s : Stp W H W' H') (h : ∃ o, H a = some o) (t : ¬ W.ofTown a) : ¬ W'.ofTown a := fun q => by
  rcases s.tnew a q with z | z
  · exact t z
  · obtain ⟨o, e⟩ := h
    rw [e] at z; cases z
theorem Stp.loose (s : Stp W H W' H') (h : NTup (H a)) (l : Loose W a) : Loose W' a := by
  refine ⟨?_, s.notTown h.ex l.2⟩
  cases q : W'.F a with
  | none => rfl
  | some o =>
    rcases s.new a (by rw [q]; simp) with z | z | ⟨xs, z⟩
    · exact absurd l.1 z
    · obtain ⟨o, e, _⟩ := h
      rw [e] at z; cases z
    · obtain ⟨o, e, ne⟩ := h
      rw [e] at z; cases z
      exact absurd rfl (ne xs)
theorem RepT.step (s : Stp W H W' H') (r : RepT K mg W H v d) : RepT K mg W' H' v d := by
  rcases r with r | ⟨a, e, c, t⟩
  · exact .inl (r.le s.le)
  · exact .inr ⟨a, e, c.le s.le (s.at c.some t), s.notTown c.some t⟩
theorem SRep.step (s : Stp W H W' H') {o : Option Addr} (ho : ∀ a, o = some a → Loose W a) : ∀ {dv : DV}, SRep K mg n W H v o dv → SRep K mg n W' H' v o dv
  | .v d, r => Rep.le s.le r
  | .own d, ⟨a, e, ev, c⟩ => ⟨a, e, ev, c.le s.le (s.at c.some (ho a e).2)⟩
  | .bp d, r => by
    rcases r with r | ⟨a, e, c, t⟩
    · exact .inl (Rep.le s.le r)
    · exact .inr ⟨a, e, c.le s.le rfl, t⟩
  | .ins a c fs, ⟨C, dx, xs, e, ev, h, m, r⟩ => ⟨C, dx, xs, e, ev, by rw [s.at ⟨_, h⟩ (ho a e).2]; exact h, m, r.le s.le⟩
  | .insL a c fs f ds, ⟨C, dx, xs, p, vs, e, ev, h, m, r, lk, hp, rl, h0, lo⟩ =>
    ⟨C, dx, xs, p, vs, e, ev, by rw [s.at ⟨_, h⟩ lo.2]; exact h, m, r.le s.le, lk, by rw [s.at ⟨_, hp⟩ (ho p e).2]; exact hp, rl.le s.le, h0, s.loose ⟨_, h, fun _ z => by cases z⟩ lo⟩
  | .pin a d, ⟨e, ev, c⟩ => ⟨e, ev, c.le s.le (s.at c.some (ho a e).2)⟩
theorem Sto.step (t : Sto K mg n W H σ δ) (s : Stp W H W' H') : Sto K mg n W' H' σ δ := by
  obtain ⟨l, ow, h1, h2, h3⟩ := t
  have th : ∀ i a, ow i = some a → ∃ o, H a = some o := fun i a e => (h3 i a e).2.1.ex
  refine ⟨l, ow, fun i dv e => ?_, h2, fun i a e => ?_⟩
  · obtain ⟨v, e1, r⟩ := h1 i dv e
    exact ⟨v, e1, r.step s fun a e => (h3 i a e).2.2⟩
  · obtain ⟨a1, a2, a3⟩ := h3 i a e
    exact ⟨a1, by rw [s.at (th i a e) a3.2]; exact a2, s.loose a2 a3⟩
/-- a value is readable -/
theorem VRep.read {n : N0} {W0 : Wd} (s0 : Stp n.1 n.2 W H) : ∀ {dv : DV}, VRep K mg n H1 W H v dv → (∀ a c fs, dv ≠ .ins a c fs) → ∃ d, (dv = .v d ∨ dv = .own d ∨ dv = .bp d ∨ dv = .bl d) ∧ RepT K mg W H v d
  | .v d, r, _ => ⟨d, .inl rfl, .inl r⟩
  | .own d, ⟨a, e, c, _, l⟩, _ => ⟨d, .inr (.inl rfl), .inr ⟨a, e, c, l.2⟩⟩
  | .bp d, r, _ => by
    refine ⟨d, .inr (.inr (.inl rfl)), ?_⟩
    rcases r with r | ⟨a, e, c, t⟩
    · exact .inl r
    · exact .inr ⟨a, e, c.le (.refl _) (s0.at c.some t), s0.notTown c.some t⟩
  | .bl d, r, _ => ⟨d, .inr (.inr (.inr rfl)), r⟩
  | .insL _ _ _ _ _, r, _ => r.elim
  | .pin _ _, r, _ => r.elim
/-- a fresh thing is given up: it stands still -/
theorem VRep.freeze {ds : List D} (s : Stp W H1 W' H') (h : VRep K mg n H1 W' H' v (.own (.lst ds))) : ∃ W'', Stp W H1 W'' H' ∧ W'.le W'' ∧ Rep K mg W'' v (.lst ds) := by
  obtain ⟨a, rfl, c, h1, l⟩ := h
  obtain ⟨o, e⟩ := c.some
  obtain ⟨s2, l2⟩ := s.freeze h1 e l.1 l.2
  refine ⟨_, s2, l2, ?_⟩
  obtain ⟨xs, e1, r⟩ := c
  rw [e] at e1; cases e1
  exact .lst (by show upd W'.F a _ a = _; rw [upd_same]) (r.le l2)
/-- a dict that is given up is locked for good -/
theorem VRep.lock {ds : List (List Int × D)} (s : Stp W H1 W' H') (h : VRep K mg n H1 W' H' v (.own (.dic ds))) : ∃ a u, v = .ref a ∧ H' a = some u ∧ Mut (some u) ∧ ∀ od, ∃ W'', Stp W H1 W'' (upd H' a (.frz od u)) ∧ W'.le W'' ∧ Rep K mg W'' v (.dic ds) := by
  obtain ⟨a, rfl, ⟨xs, e1, r⟩, h1, l⟩ := h
  refine ⟨a, _, rfl, e1, ?_, fun od => ?_⟩
  · exact trivial
  · obtain ⟨s2, l2⟩ := s.lockz (o := .frz od (.dT xs)) h1 l.1 l.2
    exact ⟨_, s2, l2, .dic (by show upd W'.F a _ a = _; rw [upd_same]) (r.le l2)⟩
end

/-- a value as an argument: m = true, it may be lent -/
def RepM (K : PySem.W.Frag) (mg : Str → Option Value) (m : Bool) (W : Wd) (H : Hp) (v : V) (d : D) : Prop := if m = true then RepT K mg W H v d else Rep K mg W v d
inductive ArgsR (K : PySem.W.Frag) (mg : Str → Option Value) (W : Wd) (H : Hp) : List Bool → List V → List D → Prop
  | nil : ArgsR K mg W H [] [] []
  | cons {m : Bool} {ms : List Bool} {v : V} {vs : List V} {d : D} {ds : List D} : RepM K mg m W H v d → ArgsR K mg W H ms vs ds → ArgsR K mg W H (m :: ms) (v :: vs) (d :: ds)

@[reducible] def coM (m : Bool) (dv : DV) (q : D → Prop) : Prop := match dv with
  | .v d => q d
  | .own d => q d
  | .bp d => if m = true then q d else False
  | .bl d => if m = true then q d else False
  | .ins _ _ _ => False
  | .insL _ _ _ _ _ => False
  | .pin _ _ => False

section
variable (K : PySem.W.Frag) (mg : Str → Option Value) (n : N0)
def cE (w : Sl → (DV → Prop) → Prop) : TE := fun σ H Q => ∃ W δ q, Sto K mg n W H σ δ ∧ Stp n.1 n.2 W H ∧ w δ q ∧ ∀ W' H' v dv, Stp W H W' H' → VRep K mg n H W' H' v dv → q dv → Q v H'
def cV (m : Bool) (w : Sl → (D → Prop) → Prop) : TE := fun σ H Q => ∃ W δ q, Sto K mg n W H σ δ ∧ Stp n.1 n.2 W H ∧ w δ q ∧ ∀ W' H' v d, Stp W H W' H' → RepM K mg m W' H' v d → q d → Q v H'
def cT (w : Sl → (Bool → Prop) → Prop) : TT := fun σ H Q => ∃ W δ q, Sto K mg n W H σ δ ∧ Stp n.1 n.2 W H ∧ w δ q ∧ ∀ W' H' b, Stp W H W' H' → q b → Q b H'
end

section
variable {K : PySem.W.Frag} {mg : Str → Option Value} {W W' : Wd} {H H' : Hp} {v : V} {d : D}
theorem RepM.of {m : Bool} (r : Rep K mg W v d) : RepM K mg m W H v d := by
  unfold RepM
  split
  · exact .inl r
  · exact r
theorem RepM.read {m : Bool} (r : RepM K mg m W H v d) : RepT K mg W H v d := by
  unfold RepM at r
  split at r
  · exact r
  · exact .inl r
theorem RepM.step {m : Bool} (s : Stp W H W' H') (r : RepM K mg m W H v d) : RepM K mg m W' H' v d := by
  unfold RepM at r ⊢
  split
  · rename_i h; rw [if_pos h] at r; exact r.step s
  · rename_i h; rw [if_neg h] at r; exact r.le s.le
theorem ArgsR.step (s : Stp W H W' H') : ∀ {ms : List Bool} {vs : List V} {ds : List D}, ArgsR K mg W H ms vs ds → ArgsR K mg W' H' ms vs ds
  | _, _, _, .nil => .nil
  | _, _, _, .cons h r => .cons (h.step s) (ArgsR.step s r)
theorem ArgsR.len : ∀ {ms : List Bool} {vs : List V} {ds : List D}, ArgsR K mg W H ms vs ds → vs.length = ms.length ∧ ds.length = ms.length
  | _, _, _, .nil => ⟨rfl, rfl⟩
  | _, _, _, .cons h r => ⟨congrArg (· + 1) (ArgsR.len r).1, congrArg (· + 1) (ArgsR.len r).2⟩
end

section
variable {X : Cx} {n : N0} {e : Expr} {es : List Expr} {pos : Pos}
@[reducible] def co (m : Bool) (w : Sl → (DV → Prop) → Prop) : Sl → (D → Prop) → Prop := fun δ q => w δ fun dv => coM m dv q
/-- a value that may be locked behind the expression -/
def gq (Q : VK) : VK := fun v H => Q v H ∨ ∃ a u, v = .ref a ∧ H a = some u ∧ Mut (some u) ∧ ∀ od, Q v (upd H a (.frz od u))
theorem cV.of {w : Sl → (DV → Prop) → Prop} {m : Bool} {σ : L2.St} {H : Hp} {Q : VK} (h : cV X.K X.mg n m (co m w) σ H Q) : cE X.K X.mg n w σ H (gq Q) := by
  obtain ⟨W, δ, q, st, sp, hw, k⟩ := h
  refine ⟨W, δ, _, st, sp, hw, fun W' H' v dv s r hq => ?_⟩
  cases dv with
  | v d => exact .inl (k W' H' v d s (RepM.of r) hq)
  | own d =>
    cases d with
    | lst ds =>
      obtain ⟨W'', s2, l2, r2⟩ := VRep.freeze s r
      exact .inl (k W'' H' v _ s2 (RepM.of r2) hq)
    | dic ds =>
      cases m with
      | true =>
        obtain ⟨a, rfl, c, h1, l⟩ := r
        exact .inl (k W' H' _ _ s (by unfold RepM; rw [if_pos rfl]; exact .inr ⟨a, rfl, c, l.2⟩) hq)
      | false =>
        obtain ⟨a, u, rfl, e, mu, z⟩ := VRep.lock s r
        refine .inr ⟨a, u, rfl, e, mu, fun od => ?_⟩
        obtain ⟨W'', s2, l2, r2⟩ := z od
        exact k W'' _ _ _ s2 (RepM.of r2) hq
    | _ => obtain ⟨a, _, c, _⟩ := r; exact c.elim
  | bp d =>
    unfold coM at hq
    cases m with
    | false => simp at hq
    | true =>
      simp at hq
      obtain ⟨d', e, r'⟩ := VRep.read (n := n) (W0 := W) (sp.trans s) r (fun _ _ _ z => by cases z)
      have : d' = d := by rcases e with e | e | e | e <;> cases e; rfl
      subst this
      exact .inl (k W' H' v _ s (by unfold RepM; rw [if_pos rfl]; exact r') hq)
  | bl d =>
    unfold coM at hq
    cases m with
    | false => simp at hq
    | true =>
      simp at hq
      exact .inl (k W' H' v d s (by unfold RepM; rw [if_pos rfl]; exact r) hq)
  | ins _ c fs => exact r.elim
  | insL _ c fs _ _ => exact r.elim
  | pin _ _ => exact r.elim
end

section
variable {X : Cx} {n : N0} {e a b : Expr} {es rest : List Expr} {pos : Pos}
@[reducible] def wAnd (wa wb : Sl → (Bool → Prop) → Prop) : Sl → (Bool → Prop) → Prop := fun δ q => wa δ fun c => if c = true then wb δ q else q false
@[reducible] def wOr (wa wb : Sl → (Bool → Prop) → Prop) : Sl → (Bool → Prop) → Prop := fun δ q => wa δ fun c => if c = true then q true else wb δ q
theorem cT.and {wa wb : Sl → (Bool → Prop) → Prop} {σ : St} {H : Hp} {Q : Bool → Hp → Prop} (h : cT X.K X.mg n (wAnd wa wb) σ H Q) : tAnd (cT X.K X.mg n wa) (cT X.K X.mg n wb) σ H Q := by
  obtain ⟨W, δ, q, st, sp, hw, k⟩ := h
  refine ⟨W, δ, _, st, sp, hw, fun W1 H1 c s1 q1 => ?_⟩
  cases c with
  | true =>
    rw [if_pos rfl] at q1 ⊢
    exact ⟨W1, δ, _, st.step s1, sp.trans s1, q1, fun W2 H2 c s2 q2 => k W2 H2 c (s1.trans s2) q2⟩
  | false =>
    rw [if_neg Bool.false_ne_true] at q1 ⊢
    exact k W1 H1 false s1 q1
theorem cT.or {wa wb : Sl → (Bool → Prop) → Prop} {σ : St} {H : Hp} {Q : Bool → Hp → Prop} (h : cT X.K X.mg n (wOr wa wb) σ H Q) : tOr (cT X.K X.mg n wa) (cT X.K X.mg n wb) σ H Q := by
  obtain ⟨W, δ, q, st, sp, hw, k⟩ := h
  refine ⟨W, δ, _, st, sp, hw, fun W1 H1 c s1 q1 => ?_⟩
  cases c with
  | false =>
    rw [if_neg Bool.false_ne_true] at q1 ⊢
    exact ⟨W1, δ, _, st.step s1, sp.trans s1, q1, fun W2 H2 c s2 q2 => k W2 H2 c (s1.trans s2) q2⟩
  | true =>
    rw [if_pos rfl] at q1 ⊢
    exact k W1 H1 true s1 q1
end
end TT

set_option Elab.async false
set_option linter.all false
set_option maxRecDepth 100000
set_option autoImplicit false
namespace TT
open PySem PySem.Spec L2

section
variable {K : PySem.W.Frag} {mg : Str → Option Value} {W : Wd} {H : Hp}
theorem RepT.int {v : V} {i : Int} (r : RepT K mg W H v (.int i)) : v = .int i := by
  rcases r with r | ⟨a, rfl, c, _⟩
  · cases r; rfl
  · exact c.elim
theorem RepT.str {v : V} {i : Str} (r : RepT K mg W H v (.str i)) : v = .str i := by
  rcases r with r | ⟨a, rfl, c, _⟩
  · cases r; rfl
  · exact c.elim
end

section
variable {X : Cx} {n : N0}
inductive Blt where | len | abs | max2 | min2 | all | any | list | tuple | sum
def Blt.name : Blt → String
  | .len => "len" | .abs => "abs" | .max2 => "max" | .min2 => "min" | .all => "all" | .any => "any" | .list => "list" | .tuple => "tuple" | .sum => "sum"
theorem ArgsR.one {K : PySem.W.Frag} {mg : Str → Option Value} {W : Wd} {H : Hp} {m : Bool} {vs : List V} {d : D} (h : ArgsR K mg W H [m] vs [d]) : ∃ v, vs = [v] ∧ RepT K mg W H v d := by
  cases h with
  | cons h r => cases r; exact ⟨_, rfl, h.read⟩
end
end TT

set_option Elab.async false
set_option linter.all false
set_option maxRecDepth 100000
set_option autoImplicit false
namespace TT
open PySem PySem.Spec L2

/-- what a def hands back: a thing that stands still, or a fresh one -/
def RRep (K : PySem.W.Frag) (mg : Str → Option Value) (H1 : Hp) (W : Wd) (H : Hp) (v : V) : DV → Prop
  | .v d => Rep K mg W v d
  | .own d => ∃ a, v = .ref a ∧ Cell K mg W H a d ∧ H1 a = none ∧ Loose W a
  | _ => False
def spD (K : PySem.W.Frag) (mg : Str → Option Value) (br : List Bool) (S : DS) : Sp := fun vs H Q E => vs.length = br.length ∧ ∃ W ds q Ed, WOk W H ∧ ArgsR K mg W H br vs ds ∧ S ds q Ed ∧
  (∀ W' H' v dv, Stp W H W' H' → RRep K mg H W' H' v dv → q dv → Q v H') ∧ ∀ c C W' H', Ed c → mg c = some (.ref C) → Stp W H W' H' → E (.ref C) none H'

/-- f keeps S where it stands; dv: the defaults that fill up -/
def FnG (P : Program) (w : World) (K : PySem.W.Frag) (mg : Str → Option Value) (base : Heap) (lv : Nat) (f : Str) (br : List Bool) (S : DS) (dv : List D) : Prop :=
  ∃ (a : Addr) (fd : FuncData) (ps : List Str) (ds : List Value) (dvs : List V), FnOk P w K mg base (L2.CX P w) lv a fd ps (spD K mg br S) ∧ mg f = some (.ref a) ∧ PySem.W.keepIn K (.ref a) = true ∧ Binds K fd ps ds ∧ Vals dvs ds ∧ ∀ W, RepL K mg W dvs dv

section
variable {K : PySem.W.Frag} {mg : Str → Option Value} {W W' : Wd} {H H' H1 : Hp}
theorem RRep.v {n : N0} {v : V} : ∀ {dv : DV}, RRep K mg H1 W H v dv → VRep K mg n H1 W H v dv
  | .v d, r => r
  | .own d, r => r
end

section
end

section
end
section
end

section
end
end TT

set_option Elab.async false
set_option linter.all false
set_option maxRecDepth 100000
set_option autoImplicit false
namespace TT
open PySem PySem.Spec L2

section
end

section
end

section
end
section
end

section
end

section
end
section
end
end TT

set_option Elab.async false
set_option linter.all false
set_option maxRecDepth 100000
set_option maxHeartbeats 1000000
set_option autoImplicit false
namespace TT
open PySem PySem.Spec L2
def IsX (b : Bool) (h : Heap) (l : Addr) (its : Array Value) : Prop := if b = true then h.IsList l its else h.IsTuple l its
def ItX (b : Bool) (h : Heap) (it l : Addr) (i : Nat) : Prop := if b = true then h.IsListIter it l i else h.IsTupleIter it l i
theorem ItX.at {b : Bool} {h h' : Heap} {it l : Addr} {i : Nat} (q : ItX b h it l i) (k : ∀ o, h.get? it = some o → h'.get? it = some o) : ItX b h' it l i := by
  cases b
  · exact Heap.IsTupleIter.at (show h.IsTupleIter it l i from q) k
  · exact Heap.IsListIter.at (show h.IsListIter it l i from q) k
theorem IsX.at {b : Bool} {h h' : Heap} {l : Addr} {its : Array Value} (q : IsX b h l its) (k : ∀ o, h.get? l = some o → h'.get? l = some o) : IsX b h' l its := by
  cases b
  · exact Heap.IsTuple.at (show h.IsTuple l its from q) k
  · exact Heap.IsList.at (show h.IsList l its from q) k
end TT

set_option Elab.async false
set_option linter.all false
set_option maxRecDepth 100000
set_option autoImplicit false
namespace TT
open PySem PySem.Spec L2
section
end
section
end
end TT

set_option Elab.async false
set_option linter.all false
set_option maxRecDepth 100000
set_option autoImplicit false
namespace TT
open PySem PySem.Spec L2

section
open PySem.Calls PySem.W PyProof.Rows
end
section
end
end TT

set_option Elab.async false
set_option linter.all false
set_option maxRecDepth 100000
set_option autoImplicit false
namespace L2
open PySem PySem.Spec PyProof.Rows
section
end
end L2

set_option Elab.async false
set_option linter.all false
set_option maxRecDepth 100000
set_option autoImplicit false
namespace TT
open PySem PySem.Spec L2
end TT

set_option Elab.async false
set_option linter.all false
set_option maxRecDepth 100000
set_option autoImplicit false
namespace L2
open PySem PySem.Spec PyProof.Rows PySem.W
section
end
section
end
end L2

set_option Elab.async false
set_option linter.all false
set_option maxRecDepth 100000
set_option autoImplicit false
namespace TT
open PySem PySem.Spec L2 PyProof.Rows
section
end
end TT

set_option Elab.async false
set_option linter.all false
set_option maxRecDepth 100000
set_option autoImplicit false
namespace L2
open PySem PySem.Spec PyProof.Rows
section
end

section
end
section
end
section
end
end L2

set_option Elab.async false
set_option linter.all false
set_option maxRecDepth 100000
set_option autoImplicit false
namespace L2
open PySem PySem.Spec PyProof.Rows
section
end
end L2

set_option Elab.async false
set_option linter.all false
set_option maxRecDepth 100000
set_option autoImplicit false
namespace TT
open PySem PySem.Spec L2
section
end
section
end
end TT

set_option Elab.async false
set_option linter.all false
set_option maxRecDepth 100000
set_option autoImplicit false
namespace TT
open PySem PySem.Spec L2
section
end
end TT

set_option Elab.async false
set_option linter.all false
set_option maxRecDepth 100000
set_option autoImplicit false
namespace TT
open PySem PySem.Spec L2
section
end
end TT

set_option Elab.async false
set_option linter.all false
set_option maxRecDepth 100000
set_option autoImplicit false
namespace TT
open PySem PySem.Spec L2
section
end
end TT

set_option Elab.async false
set_option linter.all false
set_option maxRecDepth 100000
set_option autoImplicit false
namespace TT
open PySem PySem.Spec L2
section
end
end TT

set_option Elab.async false
set_option linter.all false
set_option maxRecDepth 100000
set_option autoImplicit false
namespace TT
open PySem PySem.Spec L2
section
end
section
end
section
end
end TT

set_option Elab.async false
set_option linter.all false
set_option maxRecDepth 100000
set_option autoImplicit false
namespace TT
open PySem PySem.Spec L2
section
end
section
end
end TT

set_option Elab.async false
set_option linter.all false
set_option maxRecDepth 100000
set_option autoImplicit false
namespace TT
open PySem PySem.Spec L2
section
variable {K : PySem.W.Frag} {mg : Str → Option Value} {W : Wd} {H : Hp}
theorem RepK.length : ∀ {xs : List (List Key × V)} {ds : List (List Int × D)}, RepK K mg W xs ds → xs.length = ds.length
  | _, _, .nil => rfl
  | _, _, .cons _ r => congrArg (· + 1) (RepK.length r)
end
end TT

set_option Elab.async false
set_option linter.all false
set_option maxRecDepth 100000
set_option autoImplicit false
namespace TT
open PySem PySem.Spec L2 PyProof.Rows
def Asks (P : Program) (w : World) (f : Value → Sem Bool) (b : Bool) (s : Shared) (v : Value) : Prop := ∀ (A : Around) (E : Value → Shared → Prop) (Q : Bool → Shared → Prop), Q b s → wpAny (model P w) A (f v) Q E s
section
variable {P : Program} {w : World}
theorem Asks.pure {f : Value → Sem Bool} {b : Bool} {s : Shared} {v : Value} (e : f v = pure b) : Asks P w f b s v := fun A E Q h => by rw [e]; exact wpAny_pure h
abbrev Keyed := List (Addr × NestedKey)
section
variable {A : Around} {E : Value → Shared → Prop} {s : Shared} {ks : Keyed} {i : Nat} {a : Addr} {es : Array (Int × Value)} {ep : Nat} {t : SetTable}
abbrev start (m : Nat) (h : Int) : SetTable.Probe := runAt m (SetTable.bits h % (m + 1)) (SetTable.bits h)
end
end
end TT

set_option Elab.async false
set_option linter.all false
set_option maxRecDepth 100000
set_option autoImplicit false
namespace TT
open PySem PySem.Spec L2 PyProof.Rows
section
variable {P : Program} {w : World} {A : Around} {E : Value → Shared → Prop} {s : Shared} {ks : Keyed}
theorem apart {k : NestedKey} {x : Addr} {i : Nat} (nd : (ks.map (·.2)).Nodup) (h : ks[i]? = some (x, k)) : ∀ p ∈ ks.take i, p.2 ≠ k := fun p hp e => by
  obtain ⟨j, hj, e2⟩ := List.getElem_of_mem hp
  have hji : j < i := by rw [List.length_take] at hj; omega
  rw [List.getElem_take] at e2
  obtain ⟨hi, e3⟩ := List.getElem?_eq_some_iff.mp h
  have hjl : j < ks.length := Nat.lt_trans hji hi
  have := List.pairwise_iff_getElem.mp nd j i (by rw [List.length_map]; exact hjl) (by rw [List.length_map]; exact hi) hji
  rw [List.getElem_map, List.getElem_map, e2, e3] at this
  exact this e
end

section
end
section
end
end TT

set_option Elab.async false
set_option linter.all false
set_option maxRecDepth 100000
set_option autoImplicit false
namespace TT
open PySem PySem.Spec L2

section
end
inductive Ty where | int | bool | str | tuple | list | dict
  deriving DecidableEq
def Ty.name : Ty → String
  | .int => "int" | .bool => "bool" | .str => "str" | .tuple => "tuple" | .list => "list" | .dict => "dict"
end TT

set_option Elab.async false
set_option linter.all false
set_option maxRecDepth 100000
set_option autoImplicit false
namespace TT
open PySem PySem.Spec PyProof.Rows L2

section
end

section
end

end TT

set_option Elab.async false
set_option linter.all false
set_option maxRecDepth 100000
set_option autoImplicit false
namespace TT
open PySem PySem.Spec L2

/-- what the top has written, as far as a body leans on it -/
structure Top where
  P : Program
  w : World
  K : PySem.W.Frag
  mg : Str → Option Value
  base : Heap
  lv : Nat
def Top.fn (G : Top) : Str → List Bool → DS → List D → Prop := FnG G.P G.w G.K G.mg G.base G.lv
section
end
end TT

set_option Elab.async false
set_option linter.all false
set_option maxRecDepth 100000
set_option autoImplicit false
namespace TT
open PySem PySem.Spec L2

section
end

section
end
end TT

set_option Elab.async false
set_option linter.all false
set_option maxRecDepth 100000
set_option autoImplicit false
namespace TT
open PySem PySem.Spec L2

section
end
section
end
end TT

set_option Elab.async false
set_option linter.all false
set_option maxRecDepth 100000
set_option autoImplicit false
namespace TT
open PySem PySem.Spec L2 PyProof.Rows
section
end
end TT

set_option Elab.async false
set_option linter.all false
set_option maxRecDepth 100000
set_option autoImplicit false
set_option maxHeartbeats 1000000
namespace TT
open PySem PySem.Spec L2

end TT

set_option Elab.async false
set_option linter.all false
set_option maxRecDepth 100000
set_option autoImplicit false
namespace TT
open PySem PySem.Spec L2
section
end
end TT

set_option Elab.async false
set_option linter.all false
set_option maxRecDepth 100000
set_option autoImplicit false
namespace TT
open PySem PySem.Spec L2
section
end
end TT

set_option Elab.async false
set_option linter.all false
set_option maxRecDepth 100000
set_option autoImplicit false
namespace TT
open PySem PySem.Spec L2

def Top.exc (G : Top) (c : Str) : Prop := ∃ C, G.mg c = some (.ref C) ∧ PySem.W.excIn G.K C [.type "ValueError", .type "Exception", .type "BaseException", .type "object"] "ValueError.__new__" = true ∧ PySem.W.keepIn G.K (.ref C) = true ∧
  PySem.W.subIn G.K (.ref C) (.type "BaseException") = some true ∧ PySem.W.typeIn G.K (.ref C) = some (.type "type")
section
end
end TT

set_option Elab.async false
set_option linter.all false
set_option maxRecDepth 100000
set_option autoImplicit false
namespace TT
open PySem PySem.Spec L2

@[reducible] def argV (b : Bool) (d : D) : DV := if b = true then .bp d else .v d
@[reducible] def start0 (m : Nat) (br : List Bool) (ds : List D) : Sl := (List.zipWith (fun b d => some (argV b d)) br ds) ++ List.replicate (m - ds.length) none
section
variable {K : PySem.W.Frag} {mg : Str → Option Value} {W : Wd} {H : Hp}
theorem ArgsR.at : ∀ {br : List Bool} {vs : List V} {ds : List D} {i : Nat} {dv : DV}, ArgsR K mg W H br vs ds → (List.zipWith (fun b d => some (argV b d)) br ds)[i]? = some (some dv) → ∃ v, vs[i]? = some v ∧ SRep K mg (W, H) W H v none dv
  | _, _, _, _, _, .nil, e => by simp at e
  | _, _, _, 0, dv, .cons (m := m) (v := v0) (d := d0) h r, e => by
    simp at e
    subst e
    refine ⟨_, rfl, ?_⟩
    unfold argV
    cases m with
    | true => exact h.read
    | false =>
      have h : Rep K mg W v0 d0 := by simpa [RepM] using h
      exact h
  | _, _, _, i + 1, dv, .cons h r, e => by
    obtain ⟨v, e1, e2⟩ := ArgsR.at (i := i) (dv := dv) r (by simpa using e)
    exact ⟨v, by simpa using e1, e2⟩
theorem zip_len : ∀ {br : List Bool} {ds : List D}, ds.length = br.length → (List.zipWith (fun b d => some (argV b d)) br ds).length = ds.length
  | _, _, h => by rw [List.length_zipWith, h, Nat.min_self]
theorem Sto.first {N : List Str} {br : List Bool} {vs : List V} {ds : List D} (r : ArgsR K mg W H br vs ds) (w : WOk W H) (hN : br.length ≤ N.length) : Sto K mg (W, H) W H (L2.start N vs) (start0 N.length br ds) := by
  have l1 := r.len.1
  have l2 := r.len.2
  have lz := zip_len l2
  refine ⟨?_, fun _ => none, fun i dv e => ?_, fun i j a e _ => by (cases e), fun i a e => by cases e⟩
  · unfold L2.start start0
    rw [List.length_append, List.length_append, List.length_map, List.length_replicate, List.length_replicate, lz, l1, l2]
  · unfold start0 at e
    by_cases hi : i < ds.length
    · rw [List.getElem?_append_left (by rw [lz]; exact hi)] at e
      obtain ⟨v, e1, e2⟩ := r.at e
      refine ⟨v, ?_, e2⟩
      unfold L2.start
      rw [List.getElem?_append_left (by rw [List.length_map, l1, ← l2]; exact hi), List.getElem?_map, e1]
      rfl
    · rw [List.getElem?_append_right (by rw [lz]; omega), List.getElem?_replicate] at e
      split at e <;> cases e
end
section
end
section
end
end TT

set_option Elab.async false
set_option linter.all false
set_option maxRecDepth 100000
set_option autoImplicit false
namespace TT
open PySem PySem.Spec L2

section
end
end TT

set_option Elab.async false
set_option linter.all false
set_option maxRecDepth 100000
set_option autoImplicit false
namespace TT
open PySem PySem.Spec L2
def dfn (x : Str) (st : Stmt) (dfl : List He.Dv) : He.DefD := ⟨(x, none), x, x, defArgs st, defBody st, defScope st, dfl, []⟩
/-- a def behind the top -/
structure Got (K : PySem.W.Frag) (mg : Str → Option Value) (x : Str) (st : Stmt) (dvs : List V) (f : Addr) : Prop where
  fn : ∃ fd, FunD K x x (defArgs st) (defBody st) (defScope st) dvs [] f fd
  at_ : mg x = some (.ref f)
section
end
def relOne : D → Value → Bool
  | .int i, .int j _ => decide (i = j)
  | .str x, .str y _ => decide (x = y)
  | _, _ => false
def relAll : List D → List Value → Bool
  | [], [] => true
  | d :: ds, v :: vs => relOne d v && relAll ds vs
  | _, _ => false
/-- x stands for a tuple of numbers and texts -/
def flatB (K : PySem.W.Frag) (x : Str) (ds : List D) : Bool := match PySem.W.nsIn K mainGlobals x with
  | some (some (.ref a)) => (match K.lookup a with
    | some o => decide (o.cls = .type "tuple") && (match o.data with
      | .seq its _ => decide (its.size ≤ 1000) && relAll ds its.toList
      | _ => false)
    | none => false)
  | _ => false
section
variable {P : Program} {w : World} {K : PySem.W.Frag} {mg : Str → Option Value} {base : Heap}
/-- every parameter is written -/
def NoDfl (x : Str) (st : Stmt) (ps : List Str) : Prop := ∀ (kV doc pm : Value) (an : Option Addr) (cdv ct : Value) (us : List Value), us.length = ps.length → bindArgs (PySem.W.fnOf x x (defArgs st) (defBody st) (defScope st) .none kV doc pm an cdv ct) ⟨us, []⟩ = pure (ps.zip us)
end
section
variable {P : Program} {w : World} {K : PySem.W.Frag} {mg : Str → Option Value} {base : Heap}
theorem Got.fun {x : Str} {st : Stmt} {f : Addr} (g : Got K mg x st [] f) {ps : List Str} (bi : NoDfl x st ps) : ∃ fd, Fun K x x st f fd ∧ PySem.W.keepIn K (.ref f) = true ∧ Binds K fd ps [] := by
  obtain ⟨fd, F⟩ := g.fn
  have b := F.bindsN bi
  have kp := F.kp
  obtain ⟨oc, od, dV, kV, doc, pm, an, cdv, ct, osl, rfl, lk, hcd, hD, _⟩ := F.ex
  rcases hD with ⟨_, rfl⟩ | ⟨e, _⟩
  · exact ⟨_, ⟨⟨oc, od, kV, doc, pm, an, cdv, ct, osl, rfl, lk, hcd⟩, kp⟩, kp, b⟩
  · exact absurd rfl e
end
end TT

set_option Elab.async false
set_option linter.all false
set_option maxRecDepth 100000
set_option autoImplicit false
namespace TT
open PySem PySem.Spec L2
end TT

set_option Elab.async false
set_option linter.all false
set_option maxRecDepth 100000
set_option autoImplicit false
namespace TT
open PySem PySem.Spec L2
def inCls (st : Stmt) (j : Nat) : Stmt := match st with
  | .ClassDef _ _ _ body _ _ _ _ _ _ _ => body.getD j st
  | _ => st
def mdf (c m q : Str) (st : Stmt) : He.DefD := ⟨(c, some m), m, q, defArgs st, defBody st, defScope st, [], []⟩
/-- a def with keyword-only defaults -/
def kdf (x : Str) (st : Stmt) (kwd : List (Str × He.Dv)) : He.DefD := ⟨(x, none), x, x, defArgs st, defBody st, defScope st, [], kwd⟩
section
end
def clsB (K : PySem.W.Frag) (x : Str) : Bool := decide (PySem.W.findIn K (.ref (He.ga K x)) "__class__" = some (some (.builtin "object.__class__"))) && (decide (PySem.W.specialIn K (.builtin "object.__class__") "__get__" = some (some (.builtin "getset_descriptor.__get__"))) &&
  (decide (PySem.W.takesIn K (.builtin "object.__class__") = some true) && (decide (PySem.W.mroIn K (He.ga K x) (.type "object") = some true) && ["NoneType", "bool", "int", "str", "tuple", "list", "dict"].all fun a => decide (PySem.W.kitOne K (.type a) (.ref (He.ga K x)) = some false))))
section
end
end TT

set_option Elab.async false
set_option linter.all false
set_option maxRecDepth 100000
set_option autoImplicit false
set_option maxHeartbeats 4000000
namespace TT
open PySem PySem.Spec L2
section
end
end TT

set_option Elab.async false
set_option linter.all false
set_option maxRecDepth 100000
set_option autoImplicit false
set_option maxHeartbeats 4000000
namespace TT
open PySem PySem.Spec L2
end TT

set_option Elab.async false
set_option linter.all false
set_option maxRecDepth 100000
set_option autoImplicit false
namespace TT
open PySem PySem.Spec L2
def mdk (c m q : Str) (st : Stmt) (kwd : List (Str × He.Dv)) : He.DefD := ⟨(c, some m), m, q, defArgs st, defBody st, defScope st, [], kwd⟩
def kwAt (f : Str × Option Str) (x : Str) (K : PySem.W.Frag) : Addr := match K.lookup (He.fAd K f) with
  | some ⟨_, _, .func fd, _⟩ => (match fd.kwdefaults with
    | .ref D => (match PySem.W.nsIn K D x with
      | some (some (.ref b)) => b
      | _ => 0)
    | _ => 0)
  | _ => 0
def flatA (K : PySem.W.Frag) (a : Addr) (ds : List D) : Bool := match K.lookup a with
  | some o => decide (o.cls = .type "tuple") && (match o.data with
    | .seq its _ => decide (its.size ≤ 1000) && relAll ds its.toList
    | _ => false)
  | none => false
section
end
end TT

set_option Elab.async false
set_option linter.all false
set_option maxRecDepth 100000
set_option autoImplicit false
namespace TT
open PySem PySem.Spec L2
section
end
end TT

set_option Elab.async false
set_option linter.all false
set_option maxRecDepth 100000
set_option autoImplicit false
namespace TT
open PySem PySem.Spec L2
end TT

set_option Elab.async false
set_option linter.all false
set_option maxRecDepth 100000
set_option autoImplicit false
namespace TT
open PySem PySem.Spec L2
end TT

set_option Elab.async false
set_option linter.all false
set_option maxRecDepth 100000
set_option autoImplicit false
namespace TT
open PySem PySem.Spec L2
def topS (i : Nat) : Stmt := PySem.Challenge.pw_tintroads_k32_whole_finer.main.body.getD i (.Pass ⟨0, 0, 0, 0⟩)
abbrev sTown : Stmt := topS 42
abbrev sDraw : Stmt := topS 43
section
end
end TT

set_option Elab.async false
set_option linter.all false
set_option maxRecDepth 100000
set_option autoImplicit false
set_option maxHeartbeats 4000000
namespace TT
open PySem PySem.Spec L2
abbrev s_is_whole : Stmt := topS 6
abbrev s_look_number : Stmt := topS 7
abbrev s_is_int : Stmt := topS 11
abbrev s_common_measure : Stmt := topS 12
abbrev s_lowest : Stmt := topS 13
abbrev s_is_share : Stmt := topS 14
abbrev s_plus : Stmt := topS 15
abbrev s_minus : Stmt := topS 16
abbrev s_times : Stmt := topS 17
abbrev s_is_less : Stmt := topS 18
abbrev s_is_within : Stmt := topS 19
abbrev s_total : Stmt := topS 20
abbrev s_Grid___init__ : Stmt := inCls (topS 25) 0
abbrev s_Grid_worth : Stmt := inCls (topS 25) 3
abbrev s_Grid_cell : Stmt := inCls (topS 25) 4
abbrev s_Grid_mixed : Stmt := inCls (topS 25) 5
abbrev s_all_places : Stmt := topS 26
abbrev s_look_device : Stmt := topS 28
abbrev s_eight_parts : Stmt := topS 29
abbrev s_falling : Stmt := topS 30
abbrev s_four_parts : Stmt := topS 31
abbrev s_look_three : Stmt := topS 33
abbrev s_look_weights : Stmt := topS 36
abbrev s_apart : Stmt := topS 37
abbrev s_levels_of : Stmt := topS 38
abbrev s_nearest : Stmt := topS 39
abbrev s_shown_worth : Stmt := topS 40
abbrev s_law_pick : Stmt := topS 44
abbrev s_law_low : Stmt := topS 45
abbrev s_law_times : Stmt := topS 46
abbrev s_law_below : Stmt := topS 47
abbrev s_law_any_share : Stmt := topS 48
abbrev s_law_grid : Stmt := topS 49
abbrev s_law : Stmt := topS 50
def fnL : List He.DefD := [dfn "_law_town" sTown [], dfn "_law_draw" sDraw [], dfn "is_whole" s_is_whole [], dfn "look_number" s_look_number [], dfn "is_int" s_is_int [], dfn "common_measure" s_common_measure [], dfn "lowest" s_lowest [], dfn "is_share" s_is_share [], dfn "plus" s_plus [], dfn "minus" s_minus [], dfn "times" s_times [], dfn "is_less" s_is_less [], dfn "is_within" s_is_within [], dfn "total" s_total [], mdf "Grid" "__init__" "Grid.__init__" s_Grid___init__, mdk "Grid" "worth" "Grid.worth" s_Grid_worth [("way", .str "four")], mdf "Grid" "cell" "Grid.cell" s_Grid_cell, mdf "Grid" "mixed" "Grid.mixed" s_Grid_mixed, dfn "all_places" s_all_places [], dfn "look_device" s_look_device [], dfn "eight_parts" s_eight_parts [], dfn "falling" s_falling [], dfn "four_parts" s_four_parts [], dfn "look_three" s_look_three [], dfn "look_weights" s_look_weights [], dfn "apart" s_apart [], dfn "levels_of" s_levels_of [], kdf "nearest" s_nearest [("levels", .int 3), ("weights", .adr (kwAt ("nearest", none) "weights"))], kdf "shown_worth" s_shown_worth [("levels", .int 3), ("weights", .adr (kwAt ("shown_worth", none) "weights"))], dfn "_law_pick" s_law_pick [], dfn "_law_low" s_law_low [], dfn "_law_times" s_law_times [], dfn "_law_below" s_law_below [], dfn "_law_any_share" s_law_any_share [], dfn "_law_grid" s_law_grid [], dfn "law" s_law []]
def exL (K : PySem.W.Frag) : Bool := flatB K "NOUGHT" [.int 0, .int 1] && flatB K "WAYS" [.str "eight", .str "four"] && flatB K "ONE" [.int 1, .int 1] && clsB K "Grid" && flatA K ((kwAt ("nearest", none) "weights") K) [.int 1, .int 1, .int 1] && flatA K ((kwAt ("shown_worth", none) "weights") K) [.int 1, .int 1, .int 1]
def faL : List He.Fa := [.glo "_law_town", .glo "_law_draw", .glo "is_whole", .glo "look_number", .glo "is_int", .glo "common_measure", .glo "lowest", .glo "is_share", .glo "plus", .glo "minus", .glo "times", .glo "is_less", .glo "is_within", .glo "total", .glo "all_places", .glo "look_device", .glo "eight_parts", .glo "falling", .glo "four_parts", .glo "look_three", .glo "look_weights", .glo "apart", .glo "levels_of", .glo "nearest", .glo "shown_worth", .glo "_law_pick", .glo "_law_low", .glo "_law_times", .glo "_law_below", .glo "_law_any_share", .glo "_law_grid", .glo "law", .glo "BadNumber", .glo "BadGrid", .glo "BadColour", .glo "Grid", .exc "BadNumber", .exc "BadGrid", .exc "BadColour", .free "abs", .free "all", .free "bool", .free "dict", .free "int", .free "isinstance", .free "len", .free "list", .free "max", .free "min", .free "range", .free "str", .free "tuple", .int "LEVELS" (60), .int "MOST_WORTH" (1000), .int "MOST_WEIGHT" (100), .cls "Grid", .mkr "Grid", .noat "Grid" "knots", .noat "Grid" "step", .noat "Grid" "table", .meth "Grid" "worth", .meth "Grid" "cell", .meth "Grid" "mixed"]
abbrev lawR : PySem.W.OpenRow := PySem.W.OpenLaw.row PySem.Challenge.rw_tintroads_k32_whole_finer
abbrev hkL : PySem.W.Hook := He.hookX 6 faL fnL [] [] exL
def obL (s : PySem.W.SharedT) : He.AlX := He.obsX 6 faL fnL [] [] exL (HandSHeadRun.getT s)
theorem obL_eq (s : PySem.W.SharedT) : obL s = hkL.obs s.abs := He.obsX_eq (HandSHeadRun.getT_eq s)
def namesL0 : List Str := ["_wall", "__name__", "TintError", "BadNumber", "BadGrid", "BadColour", "is_whole", "look_number", "NOUGHT", "ONE", "is_int", "common_measure", "lowest", "is_share", "plus", "minus", "times", "is_less", "is_within", "total", "LEVELS", "MOST_WORTH", "WAYS", "Grid", "all_places", "is_place", "look_device", "eight_parts", "falling", "four_parts"]
def namesL1 : List Str := ["look_three", "MOST_WEIGHT", "look_weights", "apart", "levels_of", "nearest", "shown_worth", "_law_town", "_law_draw", "_law_pick", "_law_low", "_law_times", "_law_below", "_law_any_share", "_law_grid"]
def namesL : List Str := namesL0 ++ namesL1
theorem runL (w : World) : HandSHeadRun.RunEq lawR (PySem.W.view lawR.prog [50]) hkL obL 12000 namesL w := by
  intro os
  kernel_rfl
end TT
open PySem PySem.W PySem.Calls PyProof.Rows in
theorem TT.earlyL (tl : ∀ {l : PySem.W.OpenLaw} (hl : l = PySem.Challenge.rw_tintroads_k32_whole_finer) {q : Program} {loose : List Str} {XP : (Str → Option Value) → Heap → Prop} {d : DefRec} (hdf : d.params.defaults = []) (hnm : d.name = ("law" : Str)), PySem.W.WalkO q loose XP (TT.hkL.says) l.row.toRowW d [] (fun f vs => PySem.call f vs)) : PySem.Challenge.rw_tintroads_k32_whole_finer.Holds := by
  w_on; o_law
  refine HandSHeadRun.head_any (r := TT.lawR) (q := view TT.lawR.prog [50]) (H := TT.hkL) (ob := TT.obL) (M := 12000) (loose := TT.namesL) (d := HandSHeadRun.topDef TT.lawR.prog 50) (kwd := []) TT.obL_eq (by kernel_rfl) (fun s => by kernel_rfl) TT.runL (by kernel_rfl) (by kernel_rfl) (by kernel_rfl) (by rfl) (by first | assumption | decide +kernel) (by decide +kernel) ⟨rfl, rfl, rfl, rfl, rfl, by decide +kernel⟩ ?hw ?hc
  case hw => w_witness2
  case hc => exact tl rfl (by kernel_rfl) (by kernel_rfl)


set_option Elab.async false
set_option linter.all false
set_option maxRecDepth 100000
namespace TT
open PySem PySem.Spec L2

/-! ### data -/
instance : Inhabited D := ⟨.non⟩

instance : Inhabited DV := ⟨.v .non⟩

section
variable (K : PySem.W.Frag) (mg : Str → Option Value)
end

section
variable {K : PySem.W.Frag} {mg : Str → Option Value} {W W' : Wd}
theorem RepL.append : ∀ {v v' : List V} {d d' : List D}, RepL K mg W v d → RepL K mg W v' d' → RepL K mg W (v ++ v') (d ++ d')
  | _, _, _, _, .nil, s => s
  | _, _, _, _, .cons h r, s => .cons h (RepL.append r s)
theorem RepL.get : ∀ {v : List V} {d : List D} {i : Nat} {x : D}, RepL K mg W v d → d[i]? = some x → ∃ u, v[i]? = some u ∧ Rep K mg W u x
  | _, _, _, _, .nil, e => by simp at e
  | _, _, 0, _, .cons h _, e => by simp at e; subst e; exact ⟨_, rfl, h⟩
  | _, _, i + 1, x, .cons _ r, e => by
    obtain ⟨u, h1, h2⟩ := RepL.get (i := i) (x := x) r (by simpa using e)
    exact ⟨u, by simpa using h1, h2⟩
theorem RepL.set {x : V} {y : D} (h : Rep K mg W x y) : ∀ {v : List V} {d : List D} (i : Nat), RepL K mg W v d → RepL K mg W (v.set i x) (d.set i y)
  | _, _, _, .nil => .nil
  | _, _, 0, .cons _ r => .cons h r
  | _, _, i + 1, .cons q r => .cons q (RepL.set h i r)
theorem RepL.drop : ∀ {v : List V} {d : List D} (n : Nat), RepL K mg W v d → RepL K mg W (v.drop n) (d.drop n)
  | _, _, 0, r => r
  | _, _, _ + 1, .nil => .nil
  | _, _, n + 1, .cons _ r => RepL.drop n r
end

theorem RepK.keyAt {K : PySem.W.Frag} {mg : Str → Option Value} {W : Wd} : ∀ {xs : List (List Key × V)} {ds : List (List Int × D)} {i : Nat} {k : List Key} {v : V}, RepK K mg W xs ds → xs[i]? = some (k, v) → ∃ kk, k = keyOf kk ∧ (∃ d, ds[i]? = some (kk, d))
  | _, _, _, _, _, .nil, e => by simp at e
  | _, _, 0, _, _, .cons h _, e => by simp at e; obtain ⟨rfl, rfl⟩ := e; exact ⟨_, rfl, _, rfl⟩
  | _, _, i + 1, k, v, .cons _ r, e => by
    obtain ⟨kk, h1, d, h2⟩ := RepK.keyAt (i := i) r (by simpa using e)
    exact ⟨kk, h1, d, by simpa using h2⟩
/-! ### the town: a list of the row of cells and a count -/
/-- a new object, that does not stand still -/
theorem Stp.laidOwn {W : Wd} {H : Hp} (k : WOk W H) {p : Addr} (hp : H p = none) (o : HO) : Stp W H W (upd H p o) :=
  ⟨.refl _, fun a u e _ => by rw [upd_ne (ne_of_none e hp)]; exact e, fun a h => .inl h, fun a h => .inl h, k.upd (k.sub.free hp) (k.notTown hp) o⟩
/-- a tuple that stands there anyway is told from now on -/
theorem told_ok {W : Wd} {H : Hp} (k : WOk W H) {p : Addr} {xs : List V} (hp : H p = some (.tup xs)) : ∃ W', Stp W H W' H ∧ W'.F p = some (.tup xs) := by
  cases hF : W.F p with
  | some o =>
    have := k.sub p o hF
    rw [hp] at this
    cases this
    exact ⟨W, .refl k, hF⟩
  | none =>
    have l : W.le { W with F := upd W.F p (.tup xs) } := ⟨fun b u e => by show upd W.F p _ b = _; rw [upd_ne (ne_of_none e hF)]; exact e, fun _ h => h⟩
    refine ⟨{ W with F := upd W.F p (.tup xs) }, ⟨l, fun a o e _ => e, fun a h => ?_, fun a h => .inl h, ⟨fun b u e => ?_, fun T R e => ?_⟩⟩, by show upd W.F p _ p = _; rw [upd_same]⟩
    · by_cases q : a = p
      · subst q; exact .inr (.inr ⟨xs, hp⟩)
      · have h : upd W.F p (.tup xs) a ≠ none := h
        rw [upd_ne q] at h
        exact .inl h
    · have e : upd W.F p (.tup xs) b = some u := e
      by_cases q : b = p
      · subst q
        rw [upd_same] at e
        rw [hp]; exact e
      · rw [upd_ne q] at e
        exact k.sub b u e
    · obtain ⟨h0, h1, h2, ns, n, h5, h6, h7⟩ := k.town T R e
      have nT : T ≠ p := fun z => by rw [z, hp] at h5; cases h5
      have nR : R ≠ p := fun z => by rw [z, hp] at h6; cases h6
      exact ⟨h0, by show upd W.F p _ T = _; rw [upd_ne nT]; exact h1, by show upd W.F p _ R = _; rw [upd_ne nR]; exact h2, ns, n, h5, h6, h7⟩
end TT

set_option Elab.async false
set_option linter.all false
set_option maxRecDepth 100000
set_option autoImplicit false
namespace TT
open PySem PySem.Spec L2

section
variable (K : PySem.W.Frag) (mg : Str → Option Value)
end

section
variable {K : PySem.W.Frag} {mg : Str → Option Value} {n : N0} {W W' : Wd} {H H' H1 : Hp} {σ : St} {δ : Sl} {v : V} {d : D} {dv : DV} {a : Addr}
theorem Cell.nt : ∀ {d : D}, Cell K mg W H a d → NTup (H a)
  | .lst ds, ⟨xs, e, r⟩ => ⟨_, e, fun _ z => by cases z⟩
  | .dic ds, ⟨xs, e, r⟩ => ⟨_, e, fun _ z => by cases z⟩
end

/-! ### readings over data -/
section
variable (K : PySem.W.Frag) (mg : Str → Option Value) (n : N0)
def cA (ms : List Bool) (w : Sl → (List D → Prop) → Prop) : TA := fun σ H Q => ∃ W δ q, Sto K mg n W H σ δ ∧ Stp n.1 n.2 W H ∧ w δ q ∧ ∀ W' H' vs ds, Stp W H W' H' → ArgsR K mg W' H' ms vs ds → q ds → Q vs H'
end

theorem PE.imp {X : Cx} {e : Expr} {t t' : TE} (h : PE X e t) (i : ∀ σ H Q, t' σ H Q → t σ H Q) : PE X e t' := ⟨fun pins s σ H Q I q => h.run pins s σ H Q I (i _ _ _ q)⟩
theorem PT.imp {X : Cx} {e : Expr} {t t' : TT} (h : PT X e t) (i : ∀ σ H Q, t' σ H Q → t σ H Q) : PT X e t' := ⟨fun pins s σ H Q I q => h.run pins s σ H Q I (i _ _ _ q)⟩
theorem PW.imp {X : Cx} {e : Expr} {t t' : TT} (h : PW X e t) (i : ∀ σ H Q, t' σ H Q → t σ H Q) : PW X e t' := ⟨fun wh pins s σ H Q I q => h.run wh pins s σ H Q I (i _ _ _ q)⟩
theorem PA.imp {X : Cx} {es : List Expr} {t t' : TA} (h : PA X es t) (i : ∀ σ H Q, t' σ H Q → t σ H Q) : PA X es t' := ⟨fun pos pins s σ H Q I q => h.run pos pins s σ H Q I (i _ _ _ q)⟩
theorem PS.imp {X : Cx} {e : Stmt} {t t' : TS} (h : PS X e t) (i : ∀ D σ H, t' D σ H → t D σ H) : PS X e t' := ⟨fun pins s σ H D I q => h.run pins s σ H D I (i _ _ _ q)⟩
theorem PSs.imp {X : Cx} {e : List Stmt} {t t' : TS} (h : PSs X e t) (i : ∀ D σ H, t' D σ H → t D σ H) : PSs X e t' := ⟨fun pins s σ H D I q => h.run pins s σ H D I (i _ _ _ q)⟩

section
variable {K : PySem.W.Frag} {mg : Str → Option Value} {W W' : Wd} {H H' : Hp} {v : V} {d : D}
theorem ArgsR.strict {k : Nat} : ∀ {vs : List V} {ds : List D}, ArgsR K mg W H (List.replicate k false) vs ds → RepL K mg W vs ds := by
  induction k with
  | zero => intro vs ds h; cases h; exact .nil
  | succ k ih => intro vs ds h; cases h with | cons h r => exact .cons h (ih r)
end

/-! ### expressions -/
section
variable {X : Cx} {n : N0} {e : Expr} {es : List Expr} {pos : Pos}
/-- the reading of a slot -/
@[reducible] def wVar (i : Nat) : Sl → (DV → Prop) → Prop := fun δ q => match δ.getD i none with
  | some (.v d) => q (.v d)
  | some (.own d) => q (.bl d)
  | some (.bp d) => q (.bp d)
  | some (.pin _ d) => q (.bl d)
  | _ => False
theorem de_var {i : Nat} {x : Str} (hN : X.N[i]? = some x) (hv : Vis X.env.scope x) (hd : (x == ("__debug__" : Str)) = false) (hcd : (x == ("__classdict__" : Str)) = false) : PE X (.Name x pos) (cE X.K X.mg n (wVar i)) := by
  refine PE.imp (pe_var hN hv hd hcd) fun σ H Q ⟨W, δ, q, st, sp, hw, k⟩ => ?_
  obtain ⟨l, ow, h1, h2, h3⟩ := st
  unfold wVar at hw
  cases hi : δ[i]? with
  | none => rw [List.getD_eq_getElem?_getD, hi] at hw; exact hw.elim
  | some o =>
    rw [List.getD_eq_getElem?_getD, hi] at hw
    cases o with
    | none => exact hw.elim
    | some dv =>
      obtain ⟨v, e1, r⟩ := h1 i dv hi
      refine ⟨v, e1, ?_⟩
      cases dv with
      | v d => exact k W H v (.v d) (.refl sp.ok) r hw
      | own d =>
        obtain ⟨a, ea, ev, c⟩ := r
        exact k W H v (.bl d) (.refl sp.ok) (.inr ⟨a, ev, c, (h3 i a ea).2.2.2⟩) hw
      | bp d => exact k W H v (.bp d) (.refl sp.ok) r hw
      | bl d => exact hw.elim
      | ins _ c fs => exact hw.elim
      | insL _ c fs _ _ => exact hw.elim
      | pin a d =>
        obtain ⟨ea, ev, c⟩ := r
        exact k W H v (.bl d) (.refl sp.ok) (.inr ⟨a, ev, c, (h3 i a ea).2.2.2⟩) hw
@[reducible] def wK (d : D) : Sl → (DV → Prop) → Prop := fun _ q => q (.v d)
/-- a constant -/
theorem de_const {v : V} {d : D} (h : PE X e (tC v)) (r : ∀ W, Rep X.K X.mg W v d) : PE X e (cE X.K X.mg n (wK d)) :=
  PE.imp h fun σ H Q ⟨W, δ, q, st, sp, hw, k⟩ => k W H v (.v d) (.refl sp.ok) (r W) hw
theorem pe_ghost {t : TE} (h : PE X e t) : PE X e (fun σ H Q => t σ H (gq Q)) := by
  refine ⟨fun pins s σ H Q I hw => ?_⟩
  refine thn (h.run pins s σ H _ I hw) fun v s1 ⟨x, H1, I1, r, q⟩ => ?_
  rcases q with q | ⟨a, u, ex, hd, mu, q⟩
  · exact ⟨x, H1, I1, r, q⟩
  · obtain ⟨od, I2⟩ := I1.lock hd mu
    exact ⟨x, _, I2, r, q od⟩
theorem cV.ofL {w' : Sl → (List D → Prop) → Prop} {m : Bool} {σ : L2.St} {H : Hp} {Q : VK} (h : cV X.K X.mg n m (co m fun δ q => w' δ fun acc => q (.own (.lst acc))) σ H Q) : cE X.K X.mg n (fun δ q => w' δ fun acc => q (.own (.lst acc))) σ H Q := by
  obtain ⟨W, δ, q, st, sp, hw, k⟩ := h
  refine ⟨W, δ, fun dv => ∃ acc, dv = .own (.lst acc) ∧ q (.lst acc), st, sp, ?_, fun W' H' v dv s r hq => ?_⟩
  · have e : (fun acc => coM m (.own (.lst acc)) q) = fun acc => ∃ acc', DV.own (.lst acc) = .own (.lst acc') ∧ q (.lst acc') := funext fun acc => propext ⟨fun z => ⟨acc, rfl, z⟩, fun ⟨_, e, z⟩ => by cases e; exact z⟩
    have hw : w' δ fun acc => coM m (.own (.lst acc)) q := hw
    rw [e] at hw
    exact hw
  · obtain ⟨acc, rfl, hq⟩ := hq
    obtain ⟨W'', s2, l2, r2⟩ := VRep.freeze s r
    exact k W'' H' v _ s2 (RepM.of r2) hq
theorem dv_of {w : Sl → (DV → Prop) → Prop} (m : Bool) (h : PE X e (cE X.K X.mg n w)) : PE X e (cV X.K X.mg n m (co m w)) := PE.imp (pe_ghost h) fun σ H Q z => cV.of z
/-- arguments -/
@[reducible] def waNil : Sl → (List D → Prop) → Prop := fun _ q => q []
@[reducible] def waCons (w : Sl → (D → Prop) → Prop) (wr : Sl → (List D → Prop) → Prop) : Sl → (List D → Prop) → Prop := fun δ q => w δ fun d => wr δ fun ds => q (d :: ds)
theorem da_nil : PA X [] (cA X.K X.mg n [] waNil) := PA.imp pa_nil fun σ H Q ⟨W, δ, q, st, sp, hw, k⟩ => k W H [] [] (.refl sp.ok) .nil hw
theorem da_cons {m : Bool} {ms : List Bool} {w : Sl → (D → Prop) → Prop} {wr : Sl → (List D → Prop) → Prop} (h : PE X e (cV X.K X.mg n m w)) (hr : PA X es (cA X.K X.mg n ms wr))
    (hs : starEach (e :: es) X.env = (false, eval e X.env) :: starEach es X.env) : PA X (e :: es) (cA X.K X.mg n (m :: ms) (waCons w wr)) := by
  refine PA.imp (pa_cons h hr hs) fun σ H Q ⟨W, δ, q, st, sp, hw, k⟩ => ⟨W, δ, _, st, sp, hw, fun W1 H1 v d s r hq => ⟨W1, δ, _, st.step s, sp.trans s, hq, fun W2 H2 vs ds s2 rs hq2 => ?_⟩⟩
  exact k W2 H2 (v :: vs) (d :: ds) (s.trans s2) (.cons (r.step s2) rs) hq2
/-- displays -/
@[reducible] def wTup (wa : Sl → (List D → Prop) → Prop) : Sl → (DV → Prop) → Prop := fun δ q => wa δ fun ds => q (.v (.tup ds))
@[reducible] def wLst (wa : Sl → (List D → Prop) → Prop) : Sl → (DV → Prop) → Prop := fun δ q => wa δ fun ds => q (.own (.lst ds))
theorem de_tup {k : Nat} {x1} {wa : Sl → (List D → Prop) → Prop} (h : PA X es (cA X.K X.mg n (List.replicate k false) wa)) (hk : k ≤ 1000) : PE X (.Tuple es x1 pos) (cE X.K X.mg n (wTup wa)) := by
  refine PE.imp (pe_tup h) fun σ H Q ⟨W, δ, q, st, sp, hw, kk⟩ => ⟨W, δ, _, st, sp, hw, fun W1 H1 vs ds s r hq => ⟨?_, fun p hp => ?_⟩⟩
  · have := r.len.1
    rw [List.length_replicate] at this
    exact Nat.le_of_lt (small1000 (by omega))
  · have s2 := Stp.laid s.ok hp (.tup vs)
    refine kk _ _ (.ref p) (.v (.tup ds)) (s.trans s2) ?_ hq
    exact .tup (SqT.of (by show upd W1.F p _ p = _; rw [upd_same])) (r.strict.le s2.le)
theorem de_lst {k : Nat} {wa : Sl → (List D → Prop) → Prop} (h : PA X es (cA X.K X.mg n (List.replicate k false) wa)) (hk : k ≤ 1000) : PE X (.List es pos) (cE X.K X.mg n (wLst wa)) := by
  refine PE.imp (pe_lst h) fun σ H Q ⟨W, δ, q, st, sp, hw, kk⟩ => ⟨W, δ, _, st, sp, hw, fun W1 H1 vs ds s r hq => ⟨?_, fun p hp => ?_⟩⟩
  · have := r.len.1
    rw [List.length_replicate] at this
    exact Nat.le_of_lt (small1000 (by omega))
  · have s2 := Stp.laidOwn s.ok hp (.lst vs)
    refine kk _ _ (.ref p) (.own (.lst ds)) (s.trans s2) ?_ hq
    exact ⟨p, rfl, ⟨vs, upd_same, r.strict⟩, s.fresh hp, s.ok.sub.free hp, s.ok.notTown hp⟩
/-- two operands -/
@[reducible] def w2 (wa wb : Sl → (D → Prop) → Prop) (op : D → D → (DV → Prop) → Prop) : Sl → (DV → Prop) → Prop := fun δ q => wa δ fun x => wb δ fun y => op x y q
/-- a rule by values serves an operation over data -/
def OpS (K : PySem.W.Frag) (mg : Str → Option Value) (n : N0) (ma mb : Bool) (r : R2) (op : D → D → (DV → Prop) → Prop) : Prop :=
  ∀ W H v1 v2 d1 d2 (q : DV → Prop) (Q : VK), WOk W H → RepM K mg ma W H v1 d1 → RepM K mg mb W H v2 d2 → op d1 d2 q → (∀ W' H' v dv, Stp W H W' H' → VRep K mg n H W' H' v dv → q dv → Q v H') → r v1 v2 H Q
theorem VRep.pre {K : PySem.W.Frag} {mg : Str → Option Value} {n : N0} {W W' : Wd} {H0 H H' : Hp} {v : V} (s : ∀ a, H a = none → H0 a = none) : ∀ {dv : DV}, VRep K mg n H W' H' v dv → VRep K mg n H0 W' H' v dv
  | .v d, r => r
  | .own d, ⟨a, e, c, h, l⟩ => ⟨a, e, c, s a h, l⟩
  | .bp d, r => r
  | .bl d, r => r
theorem c2 {r : R2} {ma mb : Bool} {wa wb : Sl → (D → Prop) → Prop} {op : D → D → (DV → Prop) → Prop} (ho : OpS X.K X.mg n ma mb r op) {σ : St} {H : Hp} {Q : VK} (hh : cE X.K X.mg n (w2 wa wb op) σ H Q) : tOp r (cV X.K X.mg n ma wa) (cV X.K X.mg n mb wb) σ H Q := by
  obtain ⟨W, δ, q, st, sp, hw, k⟩ := hh
  refine ⟨W, δ, _, st, sp, hw, fun W1 H1 v1 d1 s1 r1 q1 => ⟨W1, δ, _, st.step s1, sp.trans s1, q1, fun W2 H2 v2 d2 s2 r2 q2 => ?_⟩⟩
  refine ho W2 H2 v1 v2 d1 d2 q Q s2.ok (r1.step s2) r2 q2 fun W3 H3 v dv s3 r3 q3 => ?_
  exact k W3 H3 v dv ((s1.trans s2).trans s3) (VRep.pre (W := W) (fun a h => (s1.trans s2).fresh h) r3) q3
/-- one operand -/
@[reducible] def w1 (wa : Sl → (D → Prop) → Prop) (op : D → (DV → Prop) → Prop) : Sl → (DV → Prop) → Prop := fun δ q => wa δ fun x => op x q
theorem de_1 {e1 : Expr} {r : V → Hp → VK → Prop} {ma : Bool} {wa : Sl → (D → Prop) → Prop} {op : D → (DV → Prop) → Prop} (ha : PE X e1 (cV X.K X.mg n ma wa) → PE X e (tUn r (cV X.K X.mg n ma wa)))
    (h1 : PE X e1 (cV X.K X.mg n ma wa)) (ho : ∀ W H v1 d1 (q : DV → Prop) (Q : VK), WOk W H → RepM X.K X.mg ma W H v1 d1 → op d1 q → (∀ W' H' v dv, Stp W H W' H' → VRep X.K X.mg n H W' H' v dv → q dv → Q v H') → r v1 H Q) : PE X e (cE X.K X.mg n (w1 wa op)) := by
  refine PE.imp (ha h1) fun σ H Q ⟨W, δ, q, st, sp, hw, k⟩ => ⟨W, δ, _, st, sp, hw, fun W1 H1 v1 d1 s1 r1 q1 => ?_⟩
  refine ho W1 H1 v1 d1 q Q s1.ok r1 q1 fun W3 H3 v dv s3 r3 q3 => ?_
  exact k W3 H3 v dv (s1.trans s3) (VRep.pre (W := W) (fun a h => s1.fresh h) r3) q3
/-- a call of a built-in with values -/
@[reducible] def wB (wa : Sl → (List D → Prop) → Prop) (op : List D → (DV → Prop) → Prop) : Sl → (DV → Prop) → Prop := fun δ q => wa δ fun ds => op ds q
def BltS (K : PySem.W.Frag) (mg : Str → Option Value) (n : N0) (ms : List Bool) (r : List V → Hp → VK → Prop) (op : List D → (DV → Prop) → Prop) : Prop :=
  ∀ W H vs ds (q : DV → Prop) (Q : VK), WOk W H → ArgsR K mg W H ms vs ds → op ds q → (∀ W' H' v dv, Stp W H W' H' → VRep K mg n H W' H' v dv → q dv → Q v H') → r vs H Q
theorem de_B {r : List V → Hp → VK → Prop} {ms : List Bool} {wa : Sl → (List D → Prop) → Prop} {op : List D → (DV → Prop) → Prop} (h : PE X e (tCB r (cA X.K X.mg n ms wa))) (ho : BltS X.K X.mg n ms r op) : PE X e (cE X.K X.mg n (wB wa op)) := by
  refine PE.imp h fun σ H Q ⟨W, δ, q, st, sp, hw, k⟩ => ⟨W, δ, _, st, sp, hw, fun W1 H1 vs ds s1 r1 q1 => ?_⟩
  refine ho W1 H1 vs ds q Q s1.ok r1 q1 fun W3 H3 v dv s3 r3 q3 => ?_
  exact k W3 H3 v dv (s1.trans s3) (VRep.pre (W := W) (fun a h => s1.fresh h) r3) q3
end

/-! ### tests -/
section
variable {X : Cx} {n : N0} {e a b : Expr} {es rest : List Expr} {pos : Pos}
/-- a value that is a truth value -/
@[reducible] def asB (dv : DV) (q : Bool → Prop) : Prop := match dv with
  | .v (.bl b) => q b
  | _ => False
@[reducible] def wT (w : Sl → (DV → Prop) → Prop) : Sl → (Bool → Prop) → Prop := fun δ q => w δ fun dv => asB dv q
/-- a test's wish as a value's -/
theorem cT.val {w : Sl → (DV → Prop) → Prop} {σ : St} {H : Hp} {Q : Bool → Hp → Prop} (h : cT X.K X.mg n (wT w) σ H Q) : cE X.K X.mg n w σ H fun v H' => ∃ c, v = .bl c ∧ Q c H' := by
  obtain ⟨W, δ, q, st, sp, hw, k⟩ := h
  refine ⟨W, δ, _, st, sp, hw, fun W1 H1 v dv s1 r1 q1 => ?_⟩
  unfold asB at q1
  split at q1
  · cases r1
    exact ⟨_, rfl, k W1 H1 _ s1 q1⟩
  · exact q1.elim
theorem dt_val {w : Sl → (DV → Prop) → Prop} (h : PE X e (cE X.K X.mg n w)) (he : ∀ whole, isTrue e X.env whole = (do let v ← whole; standAt e.pos; holding [v] (truthy v))) : PT X e (cT X.K X.mg n (wT w)) :=
  PT.imp (pt_val h he) fun σ H Q h => cT.val h
@[reducible] def wNot (wa : Sl → (Bool → Prop) → Prop) : Sl → (Bool → Prop) → Prop := fun δ q => wa δ fun c => q (!c)
theorem cT.not {wa : Sl → (Bool → Prop) → Prop} {σ : St} {H : Hp} {Q : Bool → Hp → Prop} (h : cT X.K X.mg n (wNot wa) σ H Q) : tNot (cT X.K X.mg n wa) σ H Q := by
  obtain ⟨W, δ, q, st, sp, hw, k⟩ := h
  exact ⟨W, δ, _, st, sp, hw, fun W1 H1 c s1 q1 => k W1 H1 _ s1 q1⟩
/-- .. as values -/
@[reducible] def vB (w : Sl → (Bool → Prop) → Prop) : Sl → (DV → Prop) → Prop := fun δ q => w δ fun c => q (.v (.bl c))
theorem cE.andV {w1 : Sl → (DV → Prop) → Prop} {w2 : Sl → (Bool → Prop) → Prop} {σ : St} {H : Hp} {Q : VK} (h : cE X.K X.mg n (vB (wAnd (wT w1) w2)) σ H Q) : tAndV (cE X.K X.mg n w1) (cE X.K X.mg n (vB w2)) σ H Q := by
  obtain ⟨W, δ, q, st, sp, hw, k⟩ := h
  refine ⟨W, δ, _, st, sp, hw, fun W1 H1 v dv s1 r1 q1 => ?_⟩
  unfold asB at q1
  split at q1
  · rename_i b
    cases r1
    refine ⟨b, rfl, ?_⟩
    cases b with
    | true =>
      rw [if_pos rfl] at q1 ⊢
      exact ⟨W1, δ, _, st.step s1, sp.trans s1, q1, fun W2 H2 v2 d2 s2 r2 q2 => k W2 H2 v2 d2 (s1.trans s2) (VRep.pre (W := W) (fun a h => s1.fresh h) r2) q2⟩
    | false =>
      rw [if_neg Bool.false_ne_true] at q1 ⊢
      exact k W1 H1 _ (.v (.bl false)) s1 (Rep.bl false) q1
  · exact q1.elim
theorem cE.orV {w1 : Sl → (DV → Prop) → Prop} {w2 : Sl → (Bool → Prop) → Prop} {σ : St} {H : Hp} {Q : VK} (h : cE X.K X.mg n (vB (wOr (wT w1) w2)) σ H Q) : tOrV (cE X.K X.mg n w1) (cE X.K X.mg n (vB w2)) σ H Q := by
  obtain ⟨W, δ, q, st, sp, hw, k⟩ := h
  refine ⟨W, δ, _, st, sp, hw, fun W1 H1 v dv s1 r1 q1 => ?_⟩
  unfold asB at q1
  split at q1
  · rename_i b
    cases r1
    refine ⟨b, rfl, ?_⟩
    cases b with
    | false =>
      rw [if_neg Bool.false_ne_true] at q1 ⊢
      exact ⟨W1, δ, _, st.step s1, sp.trans s1, q1, fun W2 H2 v2 d2 s2 r2 q2 => k W2 H2 v2 d2 (s1.trans s2) (VRep.pre (W := W) (fun a h => s1.fresh h) r2) q2⟩
    | true =>
      rw [if_pos rfl] at q1 ⊢
      exact k W1 H1 _ (.v (.bl true)) s1 (Rep.bl true) q1
  · exact q1.elim
theorem cE.notV {w1 : Sl → (DV → Prop) → Prop} {σ : St} {H : Hp} {Q : VK} (h : cE X.K X.mg n (vB (wNot (wT w1))) σ H Q) : tNotV (cE X.K X.mg n w1) σ H Q := by
  obtain ⟨W, δ, q, st, sp, hw, k⟩ := h
  refine ⟨W, δ, _, st, sp, hw, fun W1 H1 v dv s1 r1 q1 => ?_⟩
  unfold asB at q1
  split at q1
  · rename_i b
    cases r1
    exact ⟨b, rfl, k W1 H1 _ (.v (.bl _)) s1 (Rep.bl _) q1⟩
  · exact q1.elim
theorem cE.asV {w1 : Sl → (DV → Prop) → Prop} {σ : St} {H : Hp} {Q : VK} (h : cE X.K X.mg n (vB (wT w1)) σ H Q) : cE X.K X.mg n w1 σ H Q := by
  obtain ⟨W, δ, q, st, sp, hw, k⟩ := h
  refine ⟨W, δ, _, st, sp, hw, fun W1 H1 v dv s1 r1 q1 => ?_⟩
  unfold asB at q1
  split at q1
  · cases r1
    exact k W1 H1 _ (.v (.bl _)) s1 (Rep.bl _) q1
  · exact q1.elim
theorem cE.vT {w : Sl → (Bool → Prop) → Prop} {σ : St} {H : Hp} {Q : Bool → Hp → Prop} (h : cT X.K X.mg n (wT (vB w)) σ H Q) : cT X.K X.mg n w σ H Q := h
/-- a if t else b -/
@[reducible] def wIf (wc : Sl → (Bool → Prop) → Prop) (wa wb : Sl → (DV → Prop) → Prop) : Sl → (DV → Prop) → Prop := fun δ q => wc δ fun c => if c = true then wa δ q else wb δ q
theorem de_if {c : Expr} {wc : Sl → (Bool → Prop) → Prop} {wa wb : Sl → (DV → Prop) → Prop} (hc : PT X c (cT X.K X.mg n wc)) (ha : PE X a (cE X.K X.mg n wa)) (hb : PE X b (cE X.K X.mg n wb)) : PE X (.IfExp c a b pos) (cE X.K X.mg n (wIf wc wa wb)) := by
  refine PE.imp (pe_ifExp hc ha hb) fun σ H Q ⟨W, δ, q, st, sp, hw, k⟩ => ⟨W, δ, _, st, sp, hw, fun W1 H1 c s1 q1 => ?_⟩
  cases c with
  | true =>
    rw [if_pos rfl] at q1 ⊢
    exact ⟨W1, δ, _, st.step s1, sp.trans s1, q1, fun W2 H2 v2 d2 s2 r2 q2 => k W2 H2 v2 d2 (s1.trans s2) (VRep.pre (W := W) (fun a h => s1.fresh h) r2) q2⟩
  | false =>
    rw [if_neg Bool.false_ne_true] at q1 ⊢
    exact ⟨W1, δ, _, st.step s1, sp.trans s1, q1, fun W2 H2 v2 d2 s2 r2 q2 => k W2 H2 v2 d2 (s1.trans s2) (VRep.pre (W := W) (fun a h => s1.fresh h) r2) q2⟩
end
end TT

set_option Elab.async false
set_option linter.all false
set_option maxRecDepth 100000
set_option autoImplicit false
namespace TT
open PySem PySem.Spec L2

/-! ### sizes -/
/-- below two to the n -/
def Sz (n : Nat) (i : Int) : Prop := i.natAbs < 2 ^ n
theorem Sz.mono {a b : Nat} {i : Int} (h : Sz a i) (k : a ≤ b) : Sz b i := Nat.lt_of_lt_of_le h (Nat.pow_le_pow_right (by decide) k)
theorem Sz.mul {a b : Nat} {i j : Int} (h : Sz a i) (k : Sz b j) : Sz (a + b) (i * j) := wide_lt h k
theorem Sz.add {a b : Nat} {i j : Int} (h : Sz a i) (k : Sz b j) : Sz (max a b + 1) (i + j) := by
  have h1 := h.mono (Nat.le_max_left a b)
  have h2 := k.mono (Nat.le_max_right a b)
  unfold Sz at *
  rw [Nat.pow_succ]
  have := Int.natAbs_add_le i j
  omega
theorem Sz.neg {a : Nat} {i : Int} (h : Sz a i) : Sz a (-i) := by unfold Sz; rw [Int.natAbs_neg]; exact h
theorem Sz.sub {a b : Nat} {i j : Int} (h : Sz a i) (k : Sz b j) : Sz (max a b + 1) (i - j) := by rw [Int.sub_eq_add_neg]; exact h.add k.neg
def MulOk (i j : Int) : Prop := ∃ a b, Sz a i ∧ Sz b j ∧ a + b ≤ 999998
theorem MulOk.ok {i j : Int} (h : MulOk i j) : CMulW i j := by
  obtain ⟨a, b, h1, h2, h3⟩ := h
  exact wide_mul (h1.mono (Nat.le_succ a)) (h2.mono (Nat.le_succ b)) (by omega) (by omega) (by omega)
def DivOk (j : Int) : Prop := 0 < j ∧ Sz 9000 j
theorem DivOk.ok {i j : Int} (h : DivOk j) : CDivW i j := wide_div h.1 h.2 (by decide) (by decide)

/-! ### data as PyData -/
mutual
def py : D → PyData
  | .non => .none
  | .bl b => .bool b
  | .int i => .int i
  | .str s => .str s
  | .tup xs => .tuple (pyL xs)
  | .lst xs => .list (pyL xs)
  | _ => .none
def pyL : List D → List PyData
  | [] => []
  | x :: xs => py x :: pyL xs
end
/-- data that can be compared, to a depth -/
def plain : Nat → D → Bool
  | _, .non => true
  | _, .bl _ => true
  | _, .int _ => true
  | _, .str s => PyData.strOk s
  | k + 1, .tup xs => xs.all (plain k)
  | k + 1, .lst xs => xs.all (plain k)
  | _, _ => false
def eqD (a b : D) : Bool := PyData.eqv (py a) (py b)
def eqL (a b : List D) : Bool := PyData.eqvAll (pyL a) (pyL b)
theorem plain_list {k : Nat} (ih : ∀ d : D, plain k d = true → (py d).canLay0 = true ∧ (py d).depth ≤ k) : ∀ xs : List D, xs.all (plain k) = true → PyData.canLayAll0 (pyL xs) = true ∧ PyData.depthAll (pyL xs) ≤ k
  | [], _ => by simp [pyL, PyData.canLayAll0, PyData.depthAll]
  | x :: xs, h => by
    rw [List.all_cons, Bool.and_eq_true] at h
    obtain ⟨h1, h2⟩ := ih x h.1
    obtain ⟨h3, h4⟩ := plain_list ih xs h.2
    simp only [pyL, PyData.canLayAll0, PyData.depthAll, h1, h3, Bool.and_self, true_and]
    exact Nat.max_le.mpr ⟨h2, h4⟩
theorem plain_ok : ∀ (k : Nat) (d : D), plain k d = true → (py d).canLay0 = true ∧ (py d).depth ≤ k
  | k, .non, _ => by simp [py, PyData.canLay0, PyData.depth]
  | k, .bl _, _ => by simp [py, PyData.canLay0, PyData.depth]
  | k, .int _, _ => by simp [py, PyData.canLay0, PyData.depth]
  | k, .str s, h => by
    cases k <;> (simp [plain] at h; simp [py, PyData.canLay0, PyData.depth, h])
  | k + 1, .tup xs, h => by
    obtain ⟨h1, h2⟩ := plain_list (plain_ok k) xs (by simpa [plain] using h)
    simp only [py, PyData.canLay0, PyData.depth, h1, true_and]
    omega
  | k + 1, .lst xs, h => by
    obtain ⟨h1, h2⟩ := plain_list (plain_ok k) xs (by simpa [plain] using h)
    simp only [py, PyData.canLay0, PyData.depth, h1, true_and]
    omega
  | 0, .tup xs, h => by simp [plain] at h
  | 0, .lst xs, h => by simp [plain] at h
  | k, .ty _, h => by cases k <;> simp [plain] at h
  | k, .dic _, h => by cases k <;> simp [plain] at h
  | k, .obj _ _, h => by cases k <;> simp [plain] at h
  | k, .town, h => by cases k <;> simp [plain] at h
  | k, .scr, h => by cases k <;> simp [plain] at h
  | k, .err _, h => by cases k <;> simp [plain] at h
  | k, .key _, h => by cases k <;> simp [plain] at h
  | k, .idc _, h => by cases k <;> simp [plain] at h
theorem plain_shaped {d : D} (h : plain 60 d = true) : SeqAt.shaped (py d) = true := by
  obtain ⟨h1, h2⟩ := plain_ok 60 d h
  unfold SeqAt.shaped
  rw [h1, Bool.true_and, decide_eq_true_eq]
  omega
section
variable {K : PySem.W.Frag} {mg : Str → Option Value} {W : Wd} {H : Hp}
mutual
theorem Rep.dp (s : Same W.F H) : ∀ {v : V} {d : D} {k : Nat}, Rep K mg W v d → plain k d = true → Dp K H v (py d)
  | _, _, _, .non, _ => by simp only [py]; exact .non
  | _, _, _, .bl b, _ => by simp only [py]; exact .bl b
  | _, _, _, .int i, _ => by simp only [py]; exact .int i
  | _, _, _, .str x, _ => by simp only [py]; exact .str x
  | _, _, k, .tup h r, p => by
    cases k with
    | zero => simp [plain] at p
    | succ k => simp only [py]; exact .tup (Same.seqT s h) (RepL.dp s r (by simpa [plain] using p))
  | _, _, k, .lst h r, p => by
    cases k with
    | zero => simp [plain] at p
    | succ k => simp only [py]; exact .lst (SqL.of (s _ _ h)) (RepL.dp s r (by simpa [plain] using p))
  | _, _, k, .ty _, p => by cases k <;> simp [plain] at p
  | _, _, k, .dic _ _, p => by cases k <;> simp [plain] at p
  | _, _, k, .obj _ _ _, p => by cases k <;> simp [plain] at p
  | _, _, k, .town _, p => by cases k <;> simp [plain] at p
  | _, _, k, .scr _ _, p => by cases k <;> simp [plain] at p
  | _, _, k, .err _ _, p => by cases k <;> simp [plain] at p
  | _, _, k, .key _, p => by cases k <;> simp [plain] at p
  | _, _, k, .idc _ _, p => by cases k <;> simp [plain] at p
theorem RepL.dp (s : Same W.F H) : ∀ {v : List V} {d : List D} {k : Nat}, RepL K mg W v d → d.all (plain k) = true → DpAll K H v (pyL d)
  | _, _, _, .nil, _ => by simp only [pyL]; exact .nil
  | _, _, _, .cons h r, p => by
    rw [List.all_cons, Bool.and_eq_true] at p
    simp only [pyL]
    exact .cons (Rep.dp s h p.1) (RepL.dp s r p.2)
end
theorem RepT.dp (w : WOk W H) {v : V} {d : D} {k : Nat} (r : RepT K mg W H v d) (p : plain k d = true) : Dp K H v (py d) := by
  rcases r with r | ⟨a, rfl, c, _⟩
  · exact r.dp w.sub p
  · cases d with
    | lst ds =>
      obtain ⟨xs, e, r⟩ := c
      cases k with
      | zero => simp [plain] at p
      | succ k => simp only [py]; exact .lst (SqL.of e) (RepL.dp w.sub r (by simpa [plain] using p))
    | dic ds => cases k <;> simp [plain] at p
    | _ => exact c.elim
/-- what a readable list, tuple is made of -/
theorem RepT.lst (w : WOk W H) {v : V} {ds : List D} (r : RepT K mg W H v (.lst ds)) : ∃ a xs, v = .ref a ∧ H a = some (.lst xs) ∧ RepL K mg W xs ds := by
  rcases r with r | ⟨a, rfl, ⟨xs, e, r⟩, _⟩
  · cases r with
    | lst h r => exact ⟨_, _, rfl, w.sub _ _ h, r⟩
  · exact ⟨a, xs, rfl, e, r⟩
theorem RepT.tupR {v : V} {ds : List D} (r : RepT K mg W H v (.tup ds)) : Rep K mg W v (.tup ds) := by
  rcases r with r | ⟨a, rfl, c, _⟩
  · exact r
  · exact c.elim
theorem RepT.tup (w : WOk W H) {v : V} {ds : List D} (r : RepT K mg W H v (.tup ds)) : ∃ a xs, v = .ref a ∧ SqT K H a xs ∧ RepL K mg W xs ds := by
  rcases r with r | ⟨a, rfl, c, _⟩
  · cases r with
    | tup h r => exact ⟨_, _, rfl, Same.seqT w.sub h, r⟩
  · exact c.elim
theorem RepT.dic (w : WOk W H) {v : V} {ds : List (List Int × D)} (r : RepT K mg W H v (.dic ds)) : ∃ a xs, v = .ref a ∧ Rd H a (.dT xs) ∧ RepK K mg W xs ds := by
  rcases r with r | ⟨a, e, ⟨xs, e1, r⟩, _⟩
  · cases r with
    | dic h r => exact ⟨_, _, rfl, .inr ⟨_, w.sub _ _ h⟩, r⟩
  · exact ⟨a, xs, e, .inl e1, r⟩
theorem RepT.obj (w : WOk W H) {v : V} {c : Str} {ds : List (Str × D)} (r : RepT K mg W H v (.obj c ds)) : ∃ a C dx xs, v = .ref a ∧ H a = some (.ins C dx xs) ∧ mg c = some (.ref C) ∧ RepF K mg W xs ds := by
  rcases r with r | ⟨a, rfl, c, _⟩
  · cases r with
    | obj h m r => exact ⟨_, _, _, _, rfl, w.sub _ _ h, m, r⟩
  · exact c.elim
theorem RepT.err (w : WOk W H) {v : V} {c : Str} (r : RepT K mg W H v (.err c)) : ∃ a C, v = .ref a ∧ H a = some (ErrX (.ref C) none a) ∧ mg c = some (.ref C) := by
  rcases r with r | ⟨a, rfl, c, _⟩
  · cases r with
    | err h m => exact ⟨_, _, rfl, w.sub _ _ h, m⟩
  · exact c.elim
theorem RepT.bl {v : V} {i : Bool} (r : RepT K mg W H v (.bl i)) : v = .bl i := by
  rcases r with r | ⟨a, rfl, c, _⟩
  · cases r; rfl
  · exact c.elim
end

/-! ### operators -/
inductive Bop where | add | sub | mul | fdiv | mod | pow
def opB : Bop → D → D → (DV → Prop) → Prop
  | .add, .int i, .int j, q => q (.v (.int (i + j)))
  | .add, .lst x, .lst y, q => x.length + y.length ≤ 1000000 ∧ q (.own (.lst (x ++ y)))
  | .add, .tup x, .tup y, q => x.length + y.length ≤ 1000000 ∧ q (.v (.tup (x ++ y)))
  | .sub, .int i, .int j, q => q (.v (.int (i - j)))
  | .mul, .int i, .int j, q => MulOk i j ∧ q (.v (.int (i * j)))
  | .mul, .lst x, .int j, q => 0 ≤ j ∧ j ≤ 1000 ∧ x.length ≤ 1000 ∧ q (.own (.lst (List.replicate j.toNat x).flatten))
  | .mul, .tup x, .int j, q => x ≠ [] ∧ 2 ≤ j ∧ j ≤ 1000 ∧ x.length ≤ 1000 ∧ q (.v (.tup (List.replicate j.toNat x).flatten))
  | .pow, .int i, .int j, q => (0 ≤ j ∧ j ≤ 1000000 ∧ i.natAbs < 2 ^ 64) ∧ q (.v (.int (i ^ j.toNat)))
  | .fdiv, .int i, .int j, q => DivOk j ∧ q (.v (.int (i / j)))
  | .mod, .int i, .int j, q => 0 < j ∧ q (.v (.int (i % j)))
  | _, _, _, _ => False
inductive Cop where | lt | le | gt | ge | eq | ne
def opC : Cop → D → D → (DV → Prop) → Prop
  | .lt, .int i, .int j, q => q (.v (.bl (decide (i < j))))
  | .le, .int i, .int j, q => q (.v (.bl (decide (i ≤ j))))
  | .gt, .int i, .int j, q => q (.v (.bl (decide (j < i))))
  | .ge, .int i, .int j, q => q (.v (.bl (decide (j ≤ i))))
  | .eq, x, y, q => plain 60 x = true ∧ plain 60 y = true ∧ q (.v (.bl (eqD x y)))
  | .ne, x, y, q => plain 60 x = true ∧ plain 60 y = true ∧ q (.v (.bl (!eqD x y)))
  | _, _, _, _ => False
def Bop.op : Bop → Operator
  | .add => .Add | .sub => .Sub | .mul => .Mult | .fdiv => .FloorDiv | .mod => .Mod | .pow => .Pow
def Cop.op : Cop → CmpOp
  | .lt => .Lt | .le => .LtE | .gt => .Gt | .ge => .GtE | .eq => .Eq | .ne => .NotEq

theorem RepL.rep {K : PySem.W.Frag} {mg : Str → Option Value} {W : Wd} {vs : List V} {ds : List D} (r : RepL K mg W vs ds) : ∀ k : Nat, RepL K mg W (List.replicate k vs).flatten (List.replicate k ds).flatten
  | 0 => .nil
  | k + 1 => by
    rw [List.replicate_succ, List.replicate_succ, List.flatten_cons, List.flatten_cons]
    exact r.append (RepL.rep r k)
section
variable {X : Cx} {n : N0}
/-- the value-level rule of each operator -/
theorem bop_rule (o : Bop) : ∃ r : R2, OpR X (binaryOp o.op) r ∧ OpS X.K X.mg n true true r (opB o) := by
  cases o with
  | add =>
    refine ⟨_, OpR.or op_catA (OpR.or op_add op_cat), fun W H v1 v2 d1 d2 q Q w r1 r2 h k => ?_⟩
    cases d1 <;> cases d2 <;> try exact h.elim
    · cases r1.read.int; cases r2.read.int
      exact .inr (.inl ⟨_, _, rfl, rfl, k W H _ (.v (.int _)) (.refl w) (Rep.int _) h⟩)
    · have rp1 := r1.read.tupR
      have rp2 := r2.read.tupR
      obtain ⟨a, xs, rfl, e1, l1⟩ := r1.read.tup w
      obtain ⟨b, ys, rfl, e2, l2⟩ := r2.read.tup w
      obtain ⟨hl, hq⟩ := h
      have hs : sizeLine = 16777216 := sizeLine_eq
      refine .inl ⟨a, b, xs, ys, rfl, rfl, e1, e2, by rw [l1.length, l2.length]; omega, fun z => ?_, fun _ z => ?_, fun _ _ p hp => ?_⟩
      · subst z
        cases l1
        exact k W H _ (.v (.tup _)) (.refl w) rp2 hq
      · subst z
        cases l2
        rw [List.append_nil] at hq
        exact k W H _ (.v (.tup _)) (.refl w) rp1 hq
      have s2 := Stp.laid w hp (.tup (xs ++ ys))
      exact k _ _ _ (.v (.tup _)) s2 (.tup (SqT.of (by show upd W.F p _ p = _; rw [upd_same])) ((l1.append l2).le s2.le)) hq
    · obtain ⟨a, xs, rfl, e1, l1⟩ := r1.read.lst w
      obtain ⟨b, ys, rfl, e2, l2⟩ := r2.read.lst w
      have hs : sizeLine = 16777216 := sizeLine_eq
      refine .inr (.inr ⟨a, b, xs, ys, rfl, rfl, e1, e2, by rw [l1.length, l2.length]; have := h.1; omega, fun p hp => ?_⟩)
      exact k W _ _ (.own (.lst _)) (Stp.laidOwn w hp _) ⟨p, rfl, ⟨_, upd_same, l1.append l2⟩, hp, w.sub.free hp, w.notTown hp⟩ h.2
  | sub =>
    refine ⟨_, op_sub, fun W H v1 v2 d1 d2 q Q w r1 r2 h k => ?_⟩
    cases d1 <;> cases d2 <;> try exact h.elim
    cases r1.read.int; cases r2.read.int
    exact ⟨_, _, rfl, rfl, k W H _ (.v (.int _)) (.refl w) (Rep.int _) h⟩
  | mul =>
    refine ⟨_, OpR.or op_mulW (OpR.or op_rep op_repT), fun W H v1 v2 d1 d2 q Q w r1 r2 h k => ?_⟩
    cases d1 <;> cases d2 <;> try exact h.elim
    · cases r1.read.int; cases r2.read.int
      exact .inl ⟨_, _, rfl, rfl, h.1.ok, k W H _ (.v (.int _)) (.refl w) (Rep.int _) h.2⟩
    · rename_i x j
      obtain ⟨a, xs, rfl, e1, l1⟩ := r1.read.tup w
      cases r2.read.int
      obtain ⟨hne, h0, h1, h2, hq⟩ := h
      have nx : xs ≠ [] := fun z => hne (List.eq_nil_of_length_eq_zero (by rw [← l1.length, z]; rfl))
      refine .inr (.inr ⟨a, _, xs, rfl, rfl, e1, nx, h0, h1, by rw [l1.length]; exact h2, fun p hp => ?_⟩)
      have s2 := Stp.laid w hp (.tup (List.replicate j.toNat xs).flatten)
      exact k _ _ _ (.v (.tup _)) s2 (.tup (SqT.of (by show upd W.F p _ p = _; rw [upd_same])) ((RepL.rep l1 _).le s2.le)) hq
    · rename_i x j
      obtain ⟨a, xs, rfl, e1, l1⟩ := r1.read.lst w
      cases r2.read.int
      obtain ⟨h0, h1, h2, hq⟩ := h
      have hs : sizeLine = 16777216 := sizeLine_eq
      have e3 : j.toNat ≤ 1000 := by omega
      have e4 : xs.length * j.toNat ≤ 1000 * 1000 := Nat.mul_le_mul (by rw [l1.length]; exact h2) e3
      refine .inr (.inl ⟨a, _, xs, rfl, rfl, e1, by omega, by omega, by omega, fun p hp => ?_⟩)
      exact k W _ _ (.own (.lst _)) (Stp.laidOwn w hp _) ⟨p, rfl, ⟨_, upd_same, RepL.rep l1 _⟩, hp, w.sub.free hp, w.notTown hp⟩ hq
  | pow =>
    refine ⟨_, op_pow, fun W H v1 v2 d1 d2 q Q w r1 r2 h k => ?_⟩
    cases d1 <;> cases d2 <;> try exact h.elim
    cases r1.read.int; cases r2.read.int
    exact ⟨_, _, rfl, rfl, h.1, k W H _ (.v (.int _)) (.refl w) (Rep.int _) h.2⟩
  | fdiv =>
    refine ⟨_, op_fdivW, fun W H v1 v2 d1 d2 q Q w r1 r2 h k => ?_⟩
    cases d1 <;> cases d2 <;> try exact h.elim
    cases r1.read.int; cases r2.read.int
    exact ⟨_, _, rfl, rfl, h.1.ok, k W H _ (.v (.int _)) (.refl w) (Rep.int _) h.2⟩
  | mod =>
    refine ⟨_, op_mod, fun W H v1 v2 d1 d2 q Q w r1 r2 h k => ?_⟩
    cases d1 <;> cases d2 <;> try exact h.elim
    cases r1.read.int; cases r2.read.int
    exact ⟨_, _, rfl, rfl, h.1, k W H _ (.v (.int _)) (.refl w) (Rep.int _) h.2⟩
theorem cop_rule (hu : X.A.units + 64 < cLine) (o : Cop) : ∃ r : R2, OpR X (compareOp o.op) r ∧ OpS X.K X.mg n true true r (opC o) := by
  cases o with
  | lt =>
    refine ⟨_, op_lt, fun W H v1 v2 d1 d2 q Q w r1 r2 h k => ?_⟩
    cases d1 <;> cases d2 <;> try exact h.elim
    cases r1.read.int; cases r2.read.int
    exact ⟨_, _, rfl, rfl, k W H _ (.v (.bl _)) (.refl w) (Rep.bl _) h⟩
  | le =>
    refine ⟨_, op_le, fun W H v1 v2 d1 d2 q Q w r1 r2 h k => ?_⟩
    cases d1 <;> cases d2 <;> try exact h.elim
    cases r1.read.int; cases r2.read.int
    exact ⟨_, _, rfl, rfl, k W H _ (.v (.bl _)) (.refl w) (Rep.bl _) h⟩
  | gt =>
    refine ⟨_, op_gt, fun W H v1 v2 d1 d2 q Q w r1 r2 h k => ?_⟩
    cases d1 <;> cases d2 <;> try exact h.elim
    cases r1.read.int; cases r2.read.int
    exact ⟨_, _, rfl, rfl, k W H _ (.v (.bl _)) (.refl w) (Rep.bl _) h⟩
  | ge =>
    refine ⟨_, op_ge, fun W H v1 v2 d1 d2 q Q w r1 r2 h k => ?_⟩
    cases d1 <;> cases d2 <;> try exact h.elim
    cases r1.read.int; cases r2.read.int
    exact ⟨_, _, rfl, rfl, k W H _ (.v (.bl _)) (.refl w) (Rep.bl _) h⟩
  | eq =>
    refine ⟨_, op_eqD hu, fun W H v1 v2 d1 d2 q Q w r1 r2 h k => ?_⟩
    have h : plain 60 d1 = true ∧ plain 60 d2 = true ∧ q (.v (.bl (eqD d1 d2))) := by simpa only [opC] using h
    obtain ⟨p1, p2, h⟩ := h
    exact ⟨py d1, py d2, r1.read.dp w p1, r2.read.dp w p2, plain_shaped p1, plain_shaped p2, k W H _ (.v (.bl _)) (.refl w) (Rep.bl _) h⟩
  | ne =>
    refine ⟨_, op_neD hu, fun W H v1 v2 d1 d2 q Q w r1 r2 h k => ?_⟩
    have h : plain 60 d1 = true ∧ plain 60 d2 = true ∧ q (.v (.bl (!eqD d1 d2))) := by simpa only [opC] using h
    obtain ⟨p1, p2, h⟩ := h
    exact ⟨py d1, py d2, r1.read.dp w p1, r2.read.dp w p2, plain_shaped p1, plain_shaped p2, k W H _ (.v (.bl _)) (.refl w) (Rep.bl _) h⟩
/-- an item -/
def opIx (x y : D) (q : DV → Prop) : Prop := match x, y with
  | .tup xs, .int i => match atI xs i with
    | some d => q (.v d)
    | none => False
  | .lst xs, .int i => match atI xs i with
    | some d => q (.v d)
    | none => False
  | _, _ => False
theorem RepL.atI {K : PySem.W.Frag} {mg : Str → Option Value} {W : Wd} {xs : List V} {ds : List D} {i : Int} {d : D} (r : RepL K mg W xs ds) (h : L2.atI ds i = some d) : ∃ v, L2.atI xs i = some v ∧ Rep K mg W v d := by
  unfold L2.atI at h ⊢
  rw [← r.length] at h
  cases e : ixN xs.length i with
  | none => rw [e] at h; cases h
  | some j =>
    rw [e] at h
    exact r.get h
theorem ix_rule : IxR X (fun x y H Q => rIxT X.K x y H Q ∨ rIxL X.K x y H Q) ∧ OpS X.K X.mg n true true (fun x y H Q => rIxT X.K x y H Q ∨ rIxL X.K x y H Q) opIx := by
  refine ⟨ix_tup.or ix_list, fun W H v1 v2 d1 d2 q Q w r1 r2 h k => ?_⟩
  unfold opIx at h
  split at h
  · rename_i xs i
    split at h
    · rename_i d e
      obtain ⟨a, vs, rfl, e1, l1⟩ := r1.read.tup w
      cases r2.read.int
      obtain ⟨v, ev, rv⟩ := RepL.atI l1 e
      exact .inl ⟨a, vs, i, v, rfl, rfl, e1, ev, k W H v (.v d) (.refl w) rv h⟩
    · exact h.elim
  · rename_i xs i
    split at h
    · rename_i d e
      obtain ⟨a, vs, rfl, e1, l1⟩ := r1.read.lst w
      cases r2.read.int
      obtain ⟨v, ev, rv⟩ := RepL.atI l1 e
      exact .inr ⟨a, vs, i, v, rfl, rfl, SqL.of e1, ev, k W H v (.v d) (.refl w) rv h⟩
    · exact h.elim
  · exact h.elim
/-- -x -/
def opNeg (x : D) (q : DV → Prop) : Prop := match x with
  | .int i => q (.v (.int (-i)))
  | _ => False

/-! ### built-ins -/
def opBlt : Blt → List D → (DV → Prop) → Prop
  | .len, [.lst xs], q => q (.v (.int xs.length))
  | .len, [.tup xs], q => q (.v (.int xs.length))
  | .abs, [.int i], q => q (.v (.int (if i < 0 then -i else i)))
  | .max2, [.int i, .int j], q => q (.v (.int (if j > i then j else i)))
  | .min2, [.int i, .int j], q => q (.v (.int (if j < i then j else i)))
  | .all, [.lst xs], q => ∃ bs : List Bool, xs = bs.map D.bl ∧ q (.v (.bl (bs.all id)))
  | .any, [.lst xs], q => ∃ bs : List Bool, xs = bs.map D.bl ∧ q (.v (.bl (bs.any id)))
  | .sum, [.lst xs], q => ∃ ns : List Int, xs = ns.map D.int ∧ q (.v (.int ns.sum))
  | .list, [.lst xs], q => q (.own (.lst xs))
  | .list, [.tup xs], q => q (.own (.lst xs))
  | .tuple, [.lst xs], q => q (.v (.tup xs))
  | .tuple, [.tup xs], q => q (.v (.tup xs))
  | _, _, _ => False
def Blt.value : Blt → Value
  | .list => .type "list" | .tuple => .type "tuple" | b => .builtin b.name
def Blt.ty : Blt → Bool
  | .list => true | .tuple => true | _ => false
def Blt.ar : Blt → Nat
  | .max2 => 2 | .min2 => 2 | _ => 1
theorem RepL.bls {K : PySem.W.Frag} {mg : Str → Option Value} {W : Wd} : ∀ {vs : List V} {bs : List Bool}, RepL K mg W vs (bs.map D.bl) → vs = bs.map V.bl
  | _, [], .nil => rfl
  | _, b :: bs, .cons h r => by cases h; rw [RepL.bls r]; rfl
theorem RepL.ints {K : PySem.W.Frag} {mg : Str → Option Value} {W : Wd} : ∀ {vs : List V} {bs : List Int}, RepL K mg W vs (bs.map D.int) → vs = bs.map V.int
  | _, [], .nil => rfl
  | _, b :: bs, .cons h r => by cases h; rw [RepL.ints r]; rfl
theorem ArgsR.two {K : PySem.W.Frag} {mg : Str → Option Value} {W : Wd} {H : Hp} {m m' : Bool} {vs : List V} {d d' : D} (h : ArgsR K mg W H [m, m'] vs [d, d']) : ∃ v v', vs = [v, v'] ∧ RepT K mg W H v d ∧ RepT K mg W H v' d' := by
  cases h with
  | cons h r => cases r with
    | cons h2 r => cases r; exact ⟨_, _, rfl, h.read, h2.read⟩
theorem ArgsR.oneD {K : PySem.W.Frag} {mg : Str → Option Value} {W : Wd} {H : Hp} {m : Bool} {vs : List V} {ds : List D} (h : ArgsR K mg W H [m] vs ds) : ∃ d, ds = [d] := by
  cases h with
  | cons h r => cases r; exact ⟨_, rfl⟩
theorem ArgsR.twoD {K : PySem.W.Frag} {mg : Str → Option Value} {W : Wd} {H : Hp} {m m' : Bool} {vs : List V} {ds : List D} (h : ArgsR K mg W H [m, m'] vs ds) : ∃ d d', ds = [d, d'] := by
  cases h with
  | cons h r => cases r with
    | cons h2 r => cases r; exact ⟨_, _, rfl⟩
theorem blt_rule (hc : X.calm = true) (b : Blt) : ∃ r, CallR X b.value r ∧ BltS X.K X.mg n (List.replicate b.ar true) r (opBlt b) := by
  cases b with
  | len =>
    refine ⟨_, call_len, fun W H vs ds q Q w r h k => ?_⟩
    obtain ⟨d, rfl⟩ := r.oneD
    obtain ⟨v, rfl, r0⟩ := r.one
    cases d <;> try exact h.elim
    · obtain ⟨a, xs, rfl, e1, l1⟩ := r0.tup w
      exact ⟨_, xs.length, rfl, .inr ⟨xs, e1, rfl⟩, by rw [l1.length]; exact k W H _ (.v (.int _)) (.refl w) (Rep.int _) h⟩
    · obtain ⟨a, xs, rfl, e1, l1⟩ := r0.lst w
      exact ⟨_, xs.length, rfl, .inl ⟨xs, SqL.of e1, rfl⟩, by rw [l1.length]; exact k W H _ (.v (.int _)) (.refl w) (Rep.int _) h⟩
  | abs =>
    refine ⟨_, call_abs, fun W H vs ds q Q w r h k => ?_⟩
    obtain ⟨d, rfl⟩ := r.oneD
    obtain ⟨v, rfl, r0⟩ := r.one
    cases d <;> try exact h.elim
    cases r0.int
    exact ⟨_, rfl, k W H _ (.v (.int _)) (.refl w) (Rep.int _) h⟩
  | max2 =>
    refine ⟨_, call_max2 hc, fun W H vs ds q Q w r h k => ?_⟩
    obtain ⟨d, d', rfl⟩ := ArgsR.twoD (m := true) (m' := true) r
    obtain ⟨v, v', rfl, r1, r2⟩ := ArgsR.two (m := true) (m' := true) r
    cases d <;> cases d' <;> try exact h.elim
    cases r1.int; cases r2.int
    exact ⟨_, _, rfl, k W H _ (.v (.int _)) (.refl w) (Rep.int _) h⟩
  | min2 =>
    refine ⟨_, call_min2 hc, fun W H vs ds q Q w r h k => ?_⟩
    obtain ⟨d, d', rfl⟩ := ArgsR.twoD (m := true) (m' := true) r
    obtain ⟨v, v', rfl, r1, r2⟩ := ArgsR.two (m := true) (m' := true) r
    cases d <;> cases d' <;> try exact h.elim
    cases r1.int; cases r2.int
    exact ⟨_, _, rfl, k W H _ (.v (.int _)) (.refl w) (Rep.int _) h⟩
  | all =>
    refine ⟨_, cr_all hc, fun W H vs ds q Q w r h k => ?_⟩
    obtain ⟨d, rfl⟩ := r.oneD
    obtain ⟨v, rfl, r0⟩ := r.one
    cases d <;> try exact h.elim
    obtain ⟨bs, rfl, h⟩ := h
    obtain ⟨a, xs, rfl, e1, l1⟩ := r0.lst w
    cases RepL.bls l1
    exact ⟨a, bs, rfl, SqL.of e1, k W H _ (.v (.bl _)) (.refl w) (Rep.bl _) h⟩
  | any =>
    refine ⟨_, cr_any hc, fun W H vs ds q Q w r h k => ?_⟩
    obtain ⟨d, rfl⟩ := r.oneD
    obtain ⟨v, rfl, r0⟩ := r.one
    cases d <;> try exact h.elim
    obtain ⟨bs, rfl, h⟩ := h
    obtain ⟨a, xs, rfl, e1, l1⟩ := r0.lst w
    cases RepL.bls l1
    exact ⟨a, bs, rfl, SqL.of e1, k W H _ (.v (.bl _)) (.refl w) (Rep.bl _) h⟩
  | sum =>
    refine ⟨_, cr_sum hc, fun W H vs ds q Q w r h k => ?_⟩
    obtain ⟨d, rfl⟩ := r.oneD
    obtain ⟨v, rfl, r0⟩ := r.one
    cases d <;> try exact h.elim
    obtain ⟨bs, rfl, h⟩ := h
    obtain ⟨a, xs, rfl, e1, l1⟩ := r0.lst w
    cases RepL.ints l1
    exact ⟨a, bs, rfl, SqL.of e1, k W H _ (.v (.int _)) (.refl w) (Rep.int _) h⟩
  | list =>
    refine ⟨_, call_list_of, fun W H vs ds q Q w r h k => ?_⟩
    obtain ⟨d, rfl⟩ := r.oneD
    obtain ⟨v, rfl, r0⟩ := r.one
    cases d <;> try exact h.elim
    · obtain ⟨a, xs, rfl, e1, l1⟩ := r0.tup w
      exact ⟨_, xs, rfl, .inr e1, fun p hp => k W _ _ (.own (.lst _)) (Stp.laidOwn w hp _) ⟨p, rfl, ⟨_, upd_same, l1⟩, hp, w.sub.free hp, w.notTown hp⟩ h⟩
    · obtain ⟨a, xs, rfl, e1, l1⟩ := r0.lst w
      exact ⟨_, xs, rfl, .inl (SqL.of e1), fun p hp => k W _ _ (.own (.lst _)) (Stp.laidOwn w hp _) ⟨p, rfl, ⟨_, upd_same, l1⟩, hp, w.sub.free hp, w.notTown hp⟩ h⟩
  | tuple =>
    refine ⟨_, call_tuple_of, fun W H vs ds q Q w r h k => ?_⟩
    obtain ⟨d, rfl⟩ := r.oneD
    obtain ⟨v, rfl, r0⟩ := r.one
    cases d <;> try exact h.elim
    · have r' := r0
      obtain ⟨a, xs, rfl, e1, l1⟩ := r0.tup w
      refine ⟨_, xs, rfl, .inr ⟨e1, k W H _ (.v (.tup _)) (.refl w) ?_ h⟩⟩
      rcases r' with r' | ⟨_, _, c, _⟩
      · exact r'
      · exact c.elim
    · obtain ⟨a, xs, rfl, e1, l1⟩ := r0.lst w
      refine ⟨_, xs, rfl, .inl ⟨SqL.of e1, fun p hp => ?_⟩⟩
      have s2 := Stp.laid w hp (.tup xs)
      exact k _ _ _ (.v (.tup _)) s2 (.tup (SqT.of (by show upd W.F p _ p = _; rw [upd_same])) (l1.le s2.le)) h
end
end TT

set_option Elab.async false
set_option linter.all false
set_option maxRecDepth 100000
set_option autoImplicit false
namespace TT
open PySem PySem.Spec L2

/-! ### a def's promise over data -/
/-- where a body's walk stands -/
structure Ctx (X : Cx) (E : XK) (n : N0) (Ed : Str → Prop) (lv : Nat) : Prop where
  nd : X.N.Nodup
  calm : X.calm = true
  kind : X.env.scope.kind = .function
  room : Room lv X.A
  pass : Passes (L2.CX X.prog X.w) X E
  exc : ∀ c C W' H', Ed c → X.mg c = some (.ref C) → Stp n.1 n.2 W' H' → E (.ref C) none H'
theorem Ctx.units {X : Cx} {E : XK} {n : N0} {Ed : Str → Prop} {lv : Nat} (c : Ctx X E n Ed lv) : X.A.units + 64 < cLine := c.room.units

section
variable {K : PySem.W.Frag} {mg : Str → Option Value} {W W' : Wd} {H H' H1 : Hp}
theorem ArgsR.app : ∀ {ms ms' : List Bool} {vs vs' : List V} {ds ds' : List D}, ArgsR K mg W H ms vs ds → ArgsR K mg W H ms' vs' ds' → ArgsR K mg W H (ms ++ ms') (vs ++ vs') (ds ++ ds')
  | _, _, _, _, _, _, .nil, s => s
  | _, _, _, _, _, _, .cons h r, s => .cons h (ArgsR.app r s)
theorem RepL.args : ∀ {vs : List V} {ds : List D}, RepL K mg W vs ds → ArgsR K mg W H (List.replicate ds.length false) vs ds
  | _, _, .nil => .nil
  | _, _, .cons h r => .cons (by unfold RepM; simpa using h) (RepL.args r)
end

section
variable {X : Cx} {E : XK} {n : N0} {Ed : Str → Prop} {lv : Nat}
@[reducible] def wCall (wa : Sl → (List D → Prop) → Prop) (S : DS) (dv : List D) (Ed : Str → Prop) : Sl → (DV → Prop) → Prop := fun δ q => wa δ fun ds => S (ds ++ dv) q Ed
theorem de_call {f : Str} {br ms : List Bool} {S : DS} {dv : List D} {x : Str} {p pos : Pos} {e : Expr} {es : List Expr} {wa : Sl → (List D → Prop) → Prop} (c : Ctx X E n Ed lv) (G : FnG X.prog X.w X.K X.mg X.base lv x br S dv) (hbr : br = ms ++ List.replicate dv.length false)
    (hg : Gl X x) (ha : PA X (e :: es) (cA X.K X.mg n ms wa)) (hdb : (x == ("__debug__" : Str)) = false) (he : starEach (e :: es) X.env = (false, eval e X.env) :: starEach es X.env)
    (hpl : (backTo pos (starEach es X.env)).any (·.1) = false) : PE X (.Call (.Name x p) (e :: es) [] pos) (cE X.K X.mg n (wCall wa S dv Ed)) := by
  obtain ⟨a, fd, ps, ds, dvs, F, hm, hk, hb, hd, hr⟩ := G
  refine PE.imp (pe_call (E := E) F c.room hg hm hk hb hd c.pass ha hdb he hpl) fun σ H Q ⟨W, δ, q, st, sp, hw, k⟩ => ⟨W, δ, _, st, sp, hw, fun W1 H1 vs d1 s1 r1 q1 => ?_⟩
  have hl := (hr W1).length
  refine ⟨?_, W1, d1 ++ dv, q, Ed, s1.ok, ?_, q1, fun W' H' v dv s r hq => k W' H' v dv (s1.trans s) (VRep.pre (W := W) (fun a h => s1.fresh h) r.v) hq, fun c' C W' H' he hc s => c.exc c' C W' H' he hc ((sp.trans s1).trans s)⟩
  · rw [List.length_append, r1.len.1, hbr, List.length_append, List.length_replicate, hl]
  · rw [hbr]
    exact r1.app (hr W1).args
theorem de_call0 {f : Str} {br : List Bool} {S : DS} {dv : List D} {x : Str} {p pos : Pos} (c : Ctx X E n Ed lv) (G : FnG X.prog X.w X.K X.mg X.base lv x br S dv) (hbr : br = List.replicate dv.length false)
    (hg : Gl X x) (hdb : (x == ("__debug__" : Str)) = false) : PE X (.Call (.Name x p) [] [] pos) (cE X.K X.mg n (wCall waNil S dv Ed)) := by
  obtain ⟨a, fd, ps, ds, dvs, F, hm, hk, hb, hd, hr⟩ := G
  refine PE.imp (pe_call0 (E := E) F c.room hg hm hk hb hd c.pass hdb) fun σ H Q ⟨W, δ, q, st, sp, hw, k⟩ => ?_
  have hl := (hr W).length
  refine ⟨?_, W, dv, q, Ed, sp.ok, ?_, hw, fun W' H' v dv s r hq => k W' H' v dv s r.v hq, fun c' C W' H' he hc s => c.exc c' C W' H' he hc (sp.trans s)⟩
  · show ([] ++ dvs).length = _
    rw [List.nil_append, hbr, List.length_replicate, hl]
  · rw [hbr]
    exact (hr W).args
end

/-! ### statements -/
structure Kn where
  nx : Sl → Prop
  rt : DV → Prop
  bk : Sl → Prop
  ct : Sl → Prop
section
variable (K : PySem.W.Frag) (mg : Str → Option Value) (n : N0)
def GoS (W : Wd) (p : Sl → Prop) (P : St → Hp → Prop) : Prop := ∀ W' H' σ' δ', W.le W' → Stp n.1 n.2 W' H' → Sto K mg n W' H' σ' δ' → p δ' → P σ' H'
structure Go (W : Wd) (k : Kn) (D : Ends) : Prop where
  nx : GoS K mg n W k.nx D.nx
  bk : GoS K mg n W k.bk D.bk
  ct : GoS K mg n W k.ct D.ct
  rt : ∀ W' H' v dv, Stp n.1 n.2 W' H' → RRep K mg n.2 W' H' v dv → k.rt dv → D.rt v H'
def cS (w : Kn → Sl → Prop) : TS := fun D σ H => ∃ W δ k, Sto K mg n W H σ δ ∧ Stp n.1 n.2 W H ∧ w k δ ∧ Go K mg n W k D
end
section
variable {K : PySem.W.Frag} {mg : Str → Option Value} {n : N0} {W W' : Wd} {H : Hp}
theorem GoS.le {p : Sl → Prop} {P : St → Hp → Prop} (g : GoS K mg n W p P) (l : W.le W') : GoS K mg n W' p P := fun W2 H2 σ2 δ2 l2 s2 t2 h => g W2 H2 σ2 δ2 (l.trans l2) s2 t2 h
theorem Go.le {k : Kn} {D : Ends} (g : Go K mg n W k D) (l : W.le W') : Go K mg n W' k D := ⟨g.nx.le l, g.bk.le l, g.ct.le l, g.rt⟩
/-- a slot is set -/
theorem Sto.set {W1 : Wd} {H1 : Hp} {σ : St} {δ : Sl} {i : Nat} {v : V} {dv : DV} (st : Sto K mg n W1 H1 σ δ) (sp : Stp n.1 n.2 W1 H1) (s : Stp W1 H1 W H) (r : VRep K mg n H1 W H v dv) (hv : ∀ d, dv ≠ .bl d) : Sto K mg n W H (σ.set i (some v)) (δ.set i (some dv)) := by
  have st0 := st
  obtain ⟨l, ow, h1, h2, h3⟩ := st.step s
  obtain ⟨_, ow0, g1, g2, g3⟩ := st0
  -- the new owner map
  have key : ∃ o : Option Addr, SRep K mg n W H v o dv ∧ ∀ a, o = some a → n.2 a = none ∧ NTup (H a) ∧ Loose W a ∧ H1 a = none := by
    cases dv with
    | v d => exact ⟨none, r, fun _ z => by cases z⟩
    | own d =>
      obtain ⟨a, e, c, h, lo⟩ := r
      refine ⟨some a, ⟨a, rfl, e, c⟩, fun b z => ?_⟩
      cases z
      exact ⟨sp.fresh h, c.nt, lo, h⟩
    | bp d => exact ⟨none, r, fun _ z => by cases z⟩
    | bl d => exact absurd rfl (hv d)
    | ins _ c fs => exact r.elim
    | insL _ c fs _ _ => exact r.elim
    | pin _ _ => exact r.elim
  obtain ⟨o, ro, ho⟩ := key
  -- the old owners are apart from the new one: they stood in H1; ow may differ from ow0, so the owners are taken from ow0
  have h1' : ∀ j dw, δ[j]? = some (some dw) → ∃ v, σ[j]? = some (some v) ∧ SRep K mg n W H v (ow0 j) dw := fun j dw e => by
    obtain ⟨u, e1, r1⟩ := g1 j dw e
    exact ⟨u, e1, r1.step s fun a q => (g3 j a q).2.2⟩
  have h3' : ∀ j a, ow0 j = some a → n.2 a = none ∧ NTup (H a) ∧ Loose W a ∧ H1 a ≠ none := fun j a e => by
    obtain ⟨a1, a2, a3⟩ := g3 j a e
    exact ⟨a1, by rw [s.at a2.ex a3.2]; exact a2, s.loose a2 a3, a2.ne⟩
  refine ⟨by rw [List.length_set, List.length_set, l], fun j => if j = i then o else ow0 j, fun j dw e => ?_, fun j k a e1 e2 => ?_, fun j a e => ?_⟩
  · by_cases hj : j = i
    · subst hj
      have hlt : j < δ.length := by
        have := (List.getElem?_eq_some_iff.mp e).1
        rwa [List.length_set] at this
      rw [List.getElem?_set_self hlt] at e
      cases e
      refine ⟨v, List.getElem?_set_self (by rw [l]; exact hlt), ?_⟩
      show SRep K mg n W H v (if j = j then o else ow0 j) dv
      rw [if_pos rfl]
      exact ro
    · rw [List.getElem?_set_ne (Ne.symm hj)] at e
      show ∃ v_1, (σ.set i (some v))[j]? = some (some v_1) ∧ SRep K mg n W H v_1 (if j = i then o else ow0 j) dw
      rw [if_neg hj, List.getElem?_set_ne (Ne.symm hj)]
      exact h1' j dw e
  · have e1 : (if j = i then o else ow0 j) = some a := e1
    have e2 : (if k = i then o else ow0 k) = some a := e2
    by_cases hj : j = i
    · by_cases hk : k = i
      · rw [hj, hk]
      · rw [if_pos hj] at e1
        rw [if_neg hk] at e2
        exact absurd (ho a e1).2.2.2 (h3' k a e2).2.2.2
    · by_cases hk : k = i
      · rw [if_neg hj] at e1
        rw [if_pos hk] at e2
        exact absurd (ho a e2).2.2.2 (h3' j a e1).2.2.2
      · rw [if_neg hj] at e1
        rw [if_neg hk] at e2
        exact g2 j k a e1 e2
  · have e : (if j = i then o else ow0 j) = some a := e
    by_cases hj : j = i
    · rw [if_pos hj] at e
      obtain ⟨a1, a2, a3, _⟩ := ho a e
      exact ⟨a1, a2, a3⟩
    · rw [if_neg hj] at e
      obtain ⟨a1, a2, a3, _⟩ := h3' j a e
      exact ⟨a1, a2, a3⟩
end

section
variable {X : Cx} {E : XK} {n : N0} {Ed : Str → Prop} {lv : Nat} {e : Expr} {st : Stmt} {rest : List Stmt} {pos : Pos}
@[reducible] def swNext : Kn → Sl → Prop := fun k δ => k.nx δ
@[reducible] def swSeq (a b : Kn → Sl → Prop) : Kn → Sl → Prop := fun k δ => a { k with nx := b k } δ
theorem ds_nil : PSs X [] (cS X.K X.mg n swNext) := PSs.imp pss_nil fun D σ H ⟨W, δ, k, st, sp, hw, g⟩ => g.nx W H σ δ (.refl _) sp st hw
theorem ds_cons {a b : Kn → Sl → Prop} (h1 : PS X st (cS X.K X.mg n a)) (h2 : PSs X rest (cS X.K X.mg n b)) : PSs X (st :: rest) (cS X.K X.mg n (swSeq a b)) :=
  PSs.imp (pss_cons h1 h2) fun D σ H ⟨W, δ, k, st, sp, hw, g⟩ => ⟨W, δ, _, st, sp, hw, ⟨fun W' H' σ' δ' l s t hq => ⟨W', δ', k, t, s, hq, g.le l⟩, g.bk, g.ct, g.rt⟩⟩
theorem ds_pass : PS X (.Pass pos) (cS X.K X.mg n swNext) := PS.imp ps_pass fun D σ H ⟨W, δ, k, st, sp, hw, g⟩ => g.nx W H σ δ (.refl _) sp st hw
/-- name = e -/
@[reducible] def stV (dv : DV) (p : Prop) : Prop := match dv with
  | .v _ => p
  | .own _ => p
  | .bp _ => p
  | _ => False
@[reducible] def swSet (i : Nat) (w : Sl → (DV → Prop) → Prop) : Kn → Sl → Prop := fun k δ => w δ fun dv => stV dv (k.nx (δ.set i (some dv)))
theorem cS.set {i : Nat} {w : Sl → (DV → Prop) → Prop} {D : Ends} {σ : St} {H : Hp} (h : cS X.K X.mg n (swSet i w) D σ H) : tAsg (cE X.K X.mg n w) (gName i) D σ H := by
  obtain ⟨W, δ, k, st, sp, hw, g⟩ := h
  refine ⟨W, δ, _, st, sp, hw, fun W1 H1 v dv s r hq => ?_⟩
  have hv : (∀ d, dv ≠ .bl d) ∧ k.nx (δ.set i (some dv)) := by
    cases dv with
    | v d => exact ⟨(fun _ z => by cases z), hq⟩
    | own d => exact ⟨(fun _ z => by cases z), hq⟩
    | bp d => exact ⟨(fun _ z => by cases z), hq⟩
    | bl d => exact hq.elim
    | ins _ c fs => exact hq.elim
    | insL _ c fs _ _ => exact hq.elim
    | pin _ _ => exact hq.elim
  exact g.nx W1 H1 _ _ s.le (sp.trans s) (Sto.set st sp s r hv.1) hv.2
/-- name = e, what comes stands still -/
@[reducible] def swSetv (i : Nat) (w : Sl → (D → Prop) → Prop) : Kn → Sl → Prop := fun k δ => w δ fun d => k.nx (δ.set i (some (.v d)))
theorem cS.setv {i : Nat} {w : Sl → (D → Prop) → Prop} {De : Ends} {σ : L2.St} {H : Hp} (h : cS X.K X.mg n (swSetv i w) De σ H) : tAsg (cV X.K X.mg n false w) (gName i) De σ H := by
  obtain ⟨W, δ, k, st, sp, hw, g⟩ := h
  refine ⟨W, δ, _, st, sp, hw, fun W1 H1 v d s r hq => ?_⟩
  have r : Rep X.K X.mg W1 v d := by simpa [RepM] using r
  exact g.nx W1 H1 _ _ s.le (sp.trans s) (Sto.set (dv := .v d) st sp s r (fun _ z => by cases z)) hq
/-- an expression for its effect -/
@[reducible] def swExpr (w : Sl → (DV → Prop) → Prop) : Kn → Sl → Prop := fun k δ => w δ fun _ => k.nx δ
theorem ds_expr {w : Sl → (DV → Prop) → Prop} (h : PE X e (cE X.K X.mg n w)) (hs : swapsWith e none pos.line X.env = pure false) : PS X (.Expr e pos) (cS X.K X.mg n (swExpr w)) :=
  PS.imp (ps_expr h hs) fun D σ H ⟨W, δ, k, st, sp, hw, g⟩ => ⟨W, δ, _, st, sp, hw, fun W1 H1 v dv s r hq => g.nx W1 H1 σ δ s.le (sp.trans s) (st.step s) hq⟩
/-- return e -/
@[reducible] def rtV (dv : DV) (p : DV → Prop) : Prop := match dv with
  | .v d => p (.v d)
  | .own d => p (.own d)
  | _ => False
@[reducible] def swRet (w : Sl → (DV → Prop) → Prop) : Kn → Sl → Prop := fun k δ => w δ fun dv => rtV dv k.rt
theorem ds_ret {w : Sl → (DV → Prop) → Prop} (h : PE X e (cE X.K X.mg n w)) : PS X (.Return (some e) pos) (cS X.K X.mg n (swRet w)) :=
  PS.imp (ps_ret h) fun D σ H ⟨W, δ, k, st, sp, hw, g⟩ => ⟨W, δ, _, st, sp, hw, fun W1 H1 v dv s r hq => by
    cases dv with
    | v d => exact g.rt W1 H1 v (.v d) (sp.trans s) r hq
    | own d =>
      obtain ⟨a, ea, c, h, lo⟩ := r
      exact g.rt W1 H1 v (.own d) (sp.trans s) ⟨a, ea, c, sp.fresh h, lo⟩ hq
    | bp d => exact hq.elim
    | bl d => exact hq.elim
    | ins _ c fs => exact hq.elim
    | insL _ c fs _ _ => exact hq.elim
    | pin _ _ => exact hq.elim⟩
@[reducible] def swRetN : Kn → Sl → Prop := fun k _ => k.rt (.v .non)
theorem ds_retN : PS X (.Return none pos) (cS X.K X.mg n swRetN) := PS.imp ps_retN fun D σ H ⟨W, δ, k, st, sp, hw, g⟩ => g.rt W H .non (.v .non) sp Rep.non hw
/-- return x of an own list: it is handed over -/
@[reducible] def swRetO (i : Nat) : Kn → Sl → Prop := fun k δ => match δ.getD i none with
  | some (.own d) => k.rt (.own d)
  | some (.v d) => k.rt (.v d)
  | _ => False
theorem ds_retO {i : Nat} {x : Str} {p : Pos} (hN : X.N[i]? = some x) (hv : Vis X.env.scope x) (hd : (x == ("__debug__" : Str)) = false) (hcd : (x == ("__classdict__" : Str)) = false) : PS X (.Return (some (.Name x p)) pos) (cS X.K X.mg n (swRetO i)) := by
  refine PS.imp (ps_ret (pe_var hN hv hd hcd)) fun D σ H ⟨W, δ, k, st, sp, hw, g⟩ => ?_
  obtain ⟨l, ow, h1, h2, h3⟩ := st
  unfold swRetO at hw
  rw [List.getD_eq_getElem?_getD] at hw
  cases hi : δ[i]? with
  | none => rw [hi] at hw; exact hw.elim
  | some o =>
    rw [hi] at hw
    cases o with
    | none => exact hw.elim
    | some dv =>
      obtain ⟨v, e1, r⟩ := h1 i dv hi
      refine ⟨v, e1, ?_⟩
      cases dv with
      | v d => exact g.rt W H v (.v d) sp r hw
      | own d =>
        obtain ⟨a, ea, ev, c⟩ := r
        exact g.rt W H v (.own d) sp ⟨a, ev, c, (h3 i a ea).1, (h3 i a ea).2.2⟩ hw
      | bp d => exact hw.elim
      | bl d => exact hw.elim
      | ins _ c fs => exact hw.elim
      | insL _ c fs _ _ => exact hw.elim
      | pin _ _ => exact hw.elim
@[reducible] def swIf (wc : Sl → (Bool → Prop) → Prop) (a b : Kn → Sl → Prop) : Kn → Sl → Prop := fun k δ => wc δ fun c => if c = true then a k δ else b k δ
theorem ds_if {c : Expr} {sa sb : List Stmt} {wc : Sl → (Bool → Prop) → Prop} {a b : Kn → Sl → Prop} (hc : PT X c (cT X.K X.mg n wc)) (ha : PSs X sa (cS X.K X.mg n a)) (hb : PSs X sb (cS X.K X.mg n b)) : PS X (.If c sa sb pos) (cS X.K X.mg n (swIf wc a b)) :=
  PS.imp (ps_if hc ha hb) fun D σ H ⟨W, δ, k, st, sp, hw, g⟩ => ⟨W, δ, _, st, sp, hw, fun W1 H1 c s hq => by
    cases c with
    | true =>
      rw [if_pos rfl] at hq ⊢
      exact ⟨W1, δ, k, st.step s, sp.trans s, hq, g.le s.le⟩
    | false =>
      rw [if_neg Bool.false_ne_true] at hq ⊢
      exact ⟨W1, δ, k, st.step s, sp.trans s, hq, g.le s.le⟩⟩
/-- what was one's own stands still from here on (no statement of the text) -/
@[reducible] def swFrz (i : Nat) (a : Kn → Sl → Prop) : Kn → Sl → Prop := fun k δ => match δ.getD i none with
  | some (.own d) => a k (δ.set i (some (.v d)))
  | some (.v _) => a k δ
  | _ => False
/-- what a slot owns is given up -/
theorem Sto.give {K : PySem.W.Frag} {mg : Str → Option Value} {W : Wd} {H H' : Hp} {σ : St} {δ : Sl} {i : Nat} {d : D} {ow : Nat → Option Addr} {a : Addr} {o : HO} {v : V} (l : σ.length = δ.length) (h1 : ∀ i dv, δ[i]? = some (some dv) → ∃ v, σ[i]? = some (some v) ∧ SRep K mg n W H v (ow i) dv) (h2 : ∀ i j a, ow i = some a → ow j = some a → i = j) (h3 : ∀ i a, ow i = some a → n.2 a = none ∧ NTup (H a) ∧ Loose W a) (hi : δ[i]? = some (some (.own d))) (e1 : σ[i]? = some (some v)) (ea : ow i = some a)
    (hA : ∀ C dx xs, H a ≠ some (.ins C dx xs)) (l2 : W.le { W with F := upd W.F a o }) (hH : ∀ b, b ≠ a → H' b = H b) (r : Rep K mg { W with F := upd W.F a o } v d) : Sto K mg n { W with F := upd W.F a o } H' σ (δ.set i (some (.v d))) := by
  have hlt : i < δ.length := (List.getElem?_eq_some_iff.mp hi).1
  refine ⟨by rw [List.length_set, l], fun j => if j = i then none else ow j, fun j dw e => ?_, fun j k b e1 e2 => ?_, fun j b e => ?_⟩
  · by_cases hj : j = i
    · subst hj
      rw [List.getElem?_set_self hlt] at e
      cases e
      refine ⟨v, e1, ?_⟩
      show SRep K mg n _ H' v (if j = j then none else ow j) (.v d)
      exact r
    · rw [List.getElem?_set_ne (Ne.symm hj)] at e
      obtain ⟨u, eu, ru⟩ := h1 j dw e
      refine ⟨u, eu, ?_⟩
      have ne : ∀ b, ow j = some b → b ≠ a := fun b e z => hj (h2 j i a (by rw [← z]; exact e) ea)
      show SRep K mg n _ H' u (if j = i then none else ow j) dw
      rw [if_neg hj]
      cases dw with
      | v d => exact Rep.le l2 ru
      | own d =>
        obtain ⟨b, eb, ev', c'⟩ := ru
        exact ⟨b, eb, ev', c'.le l2 (hH b (ne b eb))⟩
      | bp d =>
        rcases ru with ru | ⟨b, eb, c', t⟩
        · exact .inl (Rep.le l2 ru)
        · exact .inr ⟨b, eb, c'.le l2 rfl, t⟩
      | bl d => exact ru.elim
      | ins ac cc fs =>
        obtain ⟨C, dx, xs, eb, ev', hb, m, rf⟩ := ru
        exact ⟨C, dx, xs, eb, ev', by rw [hH ac (ne ac eb)]; exact hb, m, rf.le l2⟩
      | insL ac cc fs f ds =>
        obtain ⟨C, dx, xs, p, vs, eb, ev', hb, m, rf, lk, hp, rl, h0, lo⟩ := ru
        have na : ac ≠ a := fun z => hA _ _ _ (by rw [← z]; exact hb)
        refine ⟨C, dx, xs, p, vs, eb, ev', by rw [hH ac na]; exact hb, m, rf.le l2, lk, by rw [hH p (ne p eb)]; exact hp, rl.le l2, h0, ?_, lo.2⟩
        show upd W.F a o ac = none
        rw [upd_ne na]
        exact lo.1
      | pin b d =>
        obtain ⟨eb, ev', c'⟩ := ru
        exact ⟨eb, ev', c'.le l2 (hH b (ne b eb))⟩
  · have e1 : (if j = i then none else ow j) = some b := e1
    have e2 : (if k = i then none else ow k) = some b := e2
    by_cases hj : j = i
    · rw [if_pos hj] at e1; cases e1
    · by_cases hk : k = i
      · rw [if_pos hk] at e2; cases e2
      · rw [if_neg hj] at e1
        rw [if_neg hk] at e2
        exact h2 j k b e1 e2
  · have e : (if j = i then none else ow j) = some b := e
    by_cases hj : j = i
    · rw [if_pos hj] at e; cases e
    · rw [if_neg hj] at e
      have nb : b ≠ a := fun z => hj (h2 j i a (by rw [← z]; exact e) ea)
      obtain ⟨b1, b2, b3⟩ := h3 j b e
      refine ⟨b1, by rw [hH b nb]; exact b2, ?_, b3.2⟩
      show upd W.F a o b = none
      rw [upd_ne nb]
      exact b3.1
theorem Sto.frz {K : PySem.W.Frag} {mg : Str → Option Value} {W : Wd} {H : Hp} {σ : St} {δ : Sl} {i : Nat} {ds : List D} (st : Sto K mg n W H σ δ) (sp : Stp n.1 n.2 W H) (hi : δ[i]? = some (some (.own (.lst ds)))) :
    ∃ W', W.le W' ∧ Stp n.1 n.2 W' H ∧ Sto K mg n W' H σ (δ.set i (some (.v (.lst ds)))) := by
  obtain ⟨l, ow, h1, h2, h3⟩ := st
  obtain ⟨v, e1, a, ea, rfl, xs, e2, r⟩ := h1 i _ hi
  obtain ⟨a1, a2, a3⟩ := h3 i a ea
  obtain ⟨s2, l2⟩ := sp.freeze a1 e2 a3.1 a3.2
  exact ⟨_, l2, s2, Sto.give l h1 h2 h3 hi e1 ea (fun _ _ _ z => by rw [e2] at z; cases z) l2 (fun _ _ => rfl) (.lst (by show upd W.F a _ a = _; rw [upd_same]) (r.le l2))⟩
theorem Sto.lock {K : PySem.W.Frag} {mg : Str → Option Value} {W : Wd} {H : Hp} {σ : St} {δ : Sl} {i : Nat} {ds : List (List Int × D)} (st : Sto K mg n W H σ δ) (sp : Stp n.1 n.2 W H) (hi : δ[i]? = some (some (.own (.dic ds)))) :
    ∃ a u, H a = some u ∧ Mut (some u) ∧ ∀ od, ∃ W', W.le W' ∧ Stp n.1 n.2 W' (upd H a (.frz od u)) ∧ Sto K mg n W' (upd H a (.frz od u)) σ (δ.set i (some (.v (.dic ds)))) := by
  obtain ⟨l, ow, h1, h2, h3⟩ := st
  obtain ⟨v, e1, a, ea, rfl, xs, e2, r⟩ := h1 i _ hi
  obtain ⟨a1, a2, a3⟩ := h3 i a ea
  refine ⟨a, _, e2, trivial, fun od => ?_⟩
  obtain ⟨s2, l2⟩ := sp.lockz (o := .frz od (.dT xs)) a1 a3.1 a3.2
  exact ⟨_, l2, s2, Sto.give l h1 h2 h3 hi e1 ea (fun _ _ _ z => by rw [e2] at z; cases z) l2 (fun b hb => upd_ne hb) (.dic (by show upd W.F a _ a = _; rw [upd_same]) (r.le l2))⟩
theorem pss_ghost {ss : List Stmt} {t : TS} (h : PSs X ss t) : PSs X ss (fun D σ H => t D σ H ∨ ∃ a u, H a = some u ∧ Mut (some u) ∧ ∀ od, t D σ (upd H a (.frz od u))) := by
  refine ⟨fun pins s σ H D I hw => ?_⟩
  rcases hw with hw | ⟨a, u, hd, mu, hw⟩
  · exact h.run pins s σ H D I hw
  · obtain ⟨od, I1⟩ := I.lock hd mu
    exact h.run pins s σ _ D I1 (hw od)
theorem ds_frz {i : Nat} {a : Kn → Sl → Prop} (h : PSs X rest (cS X.K X.mg n a)) : PSs X rest (cS X.K X.mg n (swFrz i a)) :=
  PSs.imp (pss_ghost h) fun D σ H ⟨W, δ, k, st, sp, hw, g⟩ => by
    unfold swFrz at hw
    rw [List.getD_eq_getElem?_getD] at hw
    cases hi : δ[i]? with
    | none => rw [hi] at hw; exact hw.elim
    | some o =>
      rw [hi] at hw
      cases o with
      | none => exact hw.elim
      | some dv =>
        cases dv with
        | v d => exact .inl ⟨W, δ, k, st, sp, hw, g⟩
        | own d =>
          have st0 := st
          obtain ⟨l, ow, h1, h2, h3⟩ := st0
          obtain ⟨v, e1, b, eb, ev, cc⟩ := h1 i _ hi
          cases d with
          | lst ds =>
            obtain ⟨W', l, s, t⟩ := st.frz sp hi
            exact .inl ⟨W', _, k, t, s, hw, g.le l⟩
          | dic ds =>
            obtain ⟨a, u, e, mu, z⟩ := st.lock sp hi
            refine .inr ⟨a, u, e, mu, fun od => ?_⟩
            obtain ⟨W', l, s, t⟩ := z od
            exact ⟨W', _, k, t, s, hw, g.le l⟩
          | _ => exact cc.elim
        | bp d => exact hw.elim
        | bl d => exact hw.elim
        | ins _ c fs => exact hw.elim
        | insL _ c fs _ _ => exact hw.elim
        | pin _ _ => exact hw.elim
/-- raise C(..) -/
@[reducible] def swRaise (c : Str) (Ed : Str → Prop) : Kn → Sl → Prop := fun _ _ => Ed c
theorem ds_raise {c : Str} {C : Addr} (cx : Ctx X E n Ed lv) (tk : Takes X fun cls d _ H => E cls d H) (gC : X.mg c = some (.ref C)) (hp : PMk X e fun _ H Q => Q (.ref C) none H) : PS X (.Raise (some e) none pos) (cS X.K X.mg n (swRaise c Ed)) :=
  PS.imp (ps_raise cx.calm tk hp) fun D σ H ⟨W, δ, k, st, sp, hw, g⟩ => cx.exc c C W H hw gC sp
/-- x.append(e) of an own list -/
@[reducible] def swApp (i : Nat) (w : Sl → (D → Prop) → Prop) : Kn → Sl → Prop := fun k δ => match δ.getD i none with
  | some (.own (.lst ds)) => w δ fun d => ds.length ≤ 1000000 ∧ k.nx (δ.set i (some (.own (.lst (ds ++ [d])))))
  | _ => False
/-- the own object of slot i is another one from now on -/
theorem Sto.write {K : PySem.W.Frag} {mg : Str → Option Value} {W : Wd} {H : Hp} {σ : St} {δ : Sl} {i : Nat} {a : Addr} {dv : DV} {o : HO} (l : σ.length = δ.length) (ow : Nat → Option Addr) (h1 : ∀ i dv, δ[i]? = some (some dv) → ∃ v, σ[i]? = some (some v) ∧ SRep K mg n W H v (ow i) dv)
    (h2 : ∀ i j a, ow i = some a → ow j = some a → i = j) (h3 : ∀ i a, ow i = some a → n.2 a = none ∧ NTup (H a) ∧ Loose W a) (sp : Stp n.1 n.2 W H) (hA : (∀ C dx xs, H a ≠ some (.ins C dx xs)) ∨ ∀ (j : Nat) A c fs f ds, δ[j]? ≠ some (some (.insL A c fs f ds))) (ha : ow i = some a) (hv : ∃ v, σ[i]? = some (some v) ∧ SRep K mg n W (upd H a o) v (some a) dv) (ho : ∀ xs, o ≠ .tup xs := by intro _ z; cases z) :
    Stp n.1 n.2 W (upd H a o) ∧ Sto K mg n W (upd H a o) σ (δ.set i (some dv)) := by
  obtain ⟨a1, a2, a3⟩ := h3 i a ha
  refine ⟨sp.write a1 a3.1 a3.2 o, by rw [List.length_set, l], ow, fun j dw e => ?_, h2, fun j b e => ?_⟩
  · by_cases hj : j = i
    · subst hj
      have hlt : j < δ.length := by
        have := (List.getElem?_eq_some_iff.mp e).1
        rwa [List.length_set] at this
      rw [List.getElem?_set_self hlt] at e
      cases e
      obtain ⟨v, e1, r⟩ := hv
      exact ⟨v, e1, by rw [ha]; exact r⟩
    · rw [List.getElem?_set_ne (Ne.symm hj)] at e
      obtain ⟨u, eu, ru⟩ := h1 j dw e
      refine ⟨u, eu, ?_⟩
      have ne : ∀ b, ow j = some b → b ≠ a := fun b e z => hj (h2 j i a (by rw [← z]; exact e) ha)
      cases dw with
      | v d => exact ru
      | own d =>
        obtain ⟨b, eb, ev', c'⟩ := ru
        exact ⟨b, eb, ev', c'.le (.refl _) (upd_ne (ne b eb))⟩
      | bp d => exact ru
      | bl d => exact ru.elim
      | ins ac cc fs =>
        obtain ⟨C, dx, xs, eb, ev', hb, m, rf⟩ := ru
        exact ⟨C, dx, xs, eb, ev', by rw [upd_ne (ne ac eb)]; exact hb, m, rf⟩
      | insL ac cc fs f ds =>
        obtain ⟨C, dx, xs, p, vs, eb, ev', hb, m, rf, lk, hp, rl, h0, lo⟩ := ru
        have na : ac ≠ a := by
          rcases hA with hA | hA
          · exact fun z => hA _ _ _ (by rw [← z]; exact hb)
          · exact absurd e (hA _ _ _ _ _ _)
        exact ⟨C, dx, xs, p, vs, eb, ev', by rw [upd_ne na]; exact hb, m, rf, lk, by rw [upd_ne (ne p eb)]; exact hp, rl, h0, lo⟩
      | pin b d =>
        obtain ⟨eb, ev', c'⟩ := ru
        exact ⟨eb, ev', c'.le (.refl _) (upd_ne (ne b eb))⟩
  · obtain ⟨b1, b2, b3⟩ := h3 j b e
    refine ⟨b1, ?_, b3⟩
    by_cases hb : b = a
    · rw [hb, upd_same]; exact ⟨_, rfl, ho⟩
    · rw [upd_ne hb]; exact b2
theorem ds_app {i : Nat} {x : Str} {p pa pc : Pos} {w : Sl → (D → Prop) → Prop} (hN : X.N[i]? = some x) (hv : Vis X.env.scope x) (hd : (x == ("__debug__" : Str)) = false) (hcd : (x == ("__classdict__" : Str)) = false)
    (h : PE X e (cV X.K X.mg n false w)) (hs : starEach (e :: []) X.env = (false, eval e X.env) :: starEach [] X.env) (hl : (pa.endLine == pc.line) = true) : PS X (.Expr (.Call (.Attribute (.Name x p) "append" pa) [e] [] pc) pos) (cS X.K X.mg n (swApp i w)) := by
  have pe := pe_bm (X := X) (cpos := pc) (apos := pa) PySem.F.plainAttrs_list PySem.F.slot_list_append PySem.F.type_list_append mt_append (pe_var (pos := p) hN hv hd hcd) (pa_cons h pa_nil hs) (by rfl) (by rw [hs]; rfl) hl hs
  refine PS.imp (ps_expr pe) fun D σ H ⟨W, δ, k, st, sp, hw, g⟩ => ?_
  have st0 := st
  obtain ⟨l, ow, h1, h2, h3⟩ := st
  unfold swApp at hw
  rw [List.getD_eq_getElem?_getD] at hw
  cases hi : δ[i]? with
  | none => rw [hi] at hw; exact hw.elim
  | some o =>
    rw [hi] at hw
    cases o with
    | none => exact hw.elim
    | some dv =>
      cases dv with
      | own d =>
        cases d with
        | lst ds =>
          obtain ⟨v, e1, a, ea, ev, xs, ex, rx⟩ := h1 i _ hi
          subst ev
          refine ⟨.ref a, e1, .inl ⟨rfl, _, SqL.of ex⟩, W, δ, _, st0, sp, hw, fun W1 H1 v d s r hq => ?_⟩
          have l2 : W.le W1 := s.le
          have th : ∀ j b, ow j = some b → ∃ o, H b = some o := fun j b e => (h3 j b e).2.1.ex
          have ex1 : H1 a = some (.lst xs) := s.eff a _ ex (h3 i a ea).2.2.2
          have hlen : xs.length < sizeLine := by
            have := hq.1
            have hs : sizeLine = 16777216 := sizeLine_eq
            rw [rx.length]; omega
          have rv : Rep X.K X.mg W1 v d := by simpa [RepM] using r
          have h1' : ∀ j dw, δ[j]? = some (some dw) → ∃ v, σ[j]? = some (some v) ∧ SRep X.K X.mg n W1 H1 v (ow j) dw := fun j dw e => by
            obtain ⟨u, eu, ru⟩ := h1 j dw e
            exact ⟨u, eu, ru.step s fun b q => (h3 j b q).2.2⟩
          have h3' : ∀ j b, ow j = some b → n.2 b = none ∧ NTup (H1 b) ∧ Loose W1 b := fun j b e => by
            obtain ⟨b1, b2, b3⟩ := h3 j b e
            exact ⟨b1, by rw [s.at (th j b e) b3.2]; exact b2, s.loose b2 b3⟩
          obtain ⟨s3, t3⟩ := Sto.write (dv := .own (.lst (ds ++ [d]))) (o := .lst (xs ++ [v])) l ow h1' h2 h3' (sp.trans s) (.inl fun _ _ _ z => by rw [ex1] at z; cases z) ea ⟨_, e1, a, rfl, rfl, xs ++ [v], upd_same, (rx.le l2).append (.cons rv .nil)⟩
          exact ⟨a, xs, v, rfl, rfl, ex1, hlen, g.nx W1 _ σ _ l2 s3 t3 hq.2⟩
        | _ => exact hw.elim
      | _ => exact hw.elim
/-- while -/
@[reducible] def swWhile (wc : Sl → (Bool → Prop) → Prop) (b : Kn → Sl → Prop) : Kn → Sl → Prop := fun k δ => ∃ I : Nat → Sl → Prop, (∃ m, I m δ) ∧ ∀ m δ, I m δ → wc δ fun c => if c = true then b { nx := fun δ' => ∃ m', m' < m ∧ I m' δ', ct := fun δ' => ∃ m', m' < m ∧ I m' δ', bk := k.nx, rt := k.rt } δ else k.nx δ
theorem ds_while {c : Expr} {body : List Stmt} {wc : Sl → (Bool → Prop) → Prop} {b : Kn → Sl → Prop} (hp : PassesOwn (model X.prog X.w) X.A X.env X.xe) (hc : PT X c (cT X.K X.mg n wc)) (hb : PSs X body (cS X.K X.mg n b)) : PS X (.While c body [] pos) (cS X.K X.mg n (swWhile wc b)) := by
  refine PS.imp (ps_while hp hc hb) fun D σ H ⟨W, δ, k, st, sp, ⟨I, ⟨m0, i0⟩, turn⟩, g⟩ => ?_
  refine ⟨fun m σ H => ∃ W' δ, W.le W' ∧ Stp n.1 n.2 W' H ∧ Sto X.K X.mg n W' H σ δ ∧ I m δ, ⟨m0, W, δ, .refl _, sp, st, i0⟩, ?_⟩
  rintro m σ H ⟨W1, δ1, l1, sp1, st1, i1⟩
  refine ⟨W1, δ1, _, st1, sp1, turn m δ1 i1, fun W2 H2 c s hq => ?_⟩
  cases c with
  | true =>
    rw [if_pos rfl] at hq ⊢
    refine ⟨fun σ' H' => ∃ m', m' < m ∧ ∃ W' δ, W.le W' ∧ Stp n.1 n.2 W' H' ∧ Sto X.K X.mg n W' H' σ' δ ∧ I m' δ, fun σ' H' ⟨m', hm, h⟩ => ⟨m', hm, h⟩, W2, δ1, _, st1.step s, sp1.trans s, hq, ?_, ?_, ?_, ?_⟩
    · exact fun W' H' σ' δ' l s' t ⟨m', hm, i'⟩ => ⟨m', hm, W', δ', (l1.trans s.le).trans l, s', t, i'⟩
    · exact fun W' H' σ' δ' l s' t h => g.nx W' H' σ' δ' ((l1.trans s.le).trans l) s' t h
    · exact fun W' H' σ' δ' l s' t ⟨m', hm, i'⟩ => ⟨m', hm, W', δ', (l1.trans s.le).trans l, s', t, i'⟩
    · exact g.rt
  | false =>
    rw [if_neg Bool.false_ne_true] at hq ⊢
    exact g.nx W2 H2 σ δ1 (l1.trans s.le) (sp1.trans s) (st1.step s) hq
end
end TT

set_option Elab.async false
set_option linter.all false
set_option maxRecDepth 100000
set_option autoImplicit false
namespace TT
open PySem PySem.Spec L2

/-! ### what is walked -/
/-- the iterator J tells the data ds, one behind the other, wherever G holds -/
structure Wk (K : PySem.W.Frag) (mg : Str → Option Value) (G : Wd → Hp → Prop) (J : It) (ds : List D) : Prop where
  go : ∀ W H i, G W H → i < ds.length → J.go i H
  stop : ∀ W H i, G W H → i = ds.length → J.stop i H
  yld : ∀ W H i x H' d, G W H → WOk W H → ds[i]? = some d → J.yld i H x H' → ∃ W', Stp W H W' H' ∧ Rep K mg W' x d
def GC (W1 : Wd) (H1 : Hp) : Wd → Hp → Prop := fun W H => Stp W1 H1 W H
def GS (n : N0) (W1 : Wd) : Wd → Hp → Prop := fun W H => W1.le W ∧ Stp n.1 n.2 W H
/-- an iterable's reading: c, within a comprehension (what is lent may be walked too) -/
def cI (K : PySem.W.Frag) (mg : Str → Option Value) (n : N0) (c : Bool) (w : Sl → (List D → Prop) → Prop) : TI := fun σ H R => ∃ W δ q, Sto K mg n W H σ δ ∧ Stp n.1 n.2 W H ∧ w δ q ∧
  ∀ W' H' J ds, Stp W H W' H' → Wk K mg (if c = true then GC W' H' else GS n W') J ds → q ds → R J H'
section
variable {K : PySem.W.Frag} {mg : Str → Option Value} {n : N0} {W1 : Wd} {H1 : Hp}
theorem Wk.imp {G G' : Wd → Hp → Prop} {J : It} {ds : List D} (k : Wk K mg G J ds) (i : ∀ W H, G' W H → G W H) : Wk K mg G' J ds :=
  ⟨fun W H j g => k.go W H j (i _ _ g), fun W H j g => k.stop W H j (i _ _ g), fun W H j x H' d g => k.yld W H j x H' d (i _ _ g)⟩
theorem Wk.any {J : It} {ds : List D} {c : Bool} (s : Stp n.1 n.2 W1 H1) (k : Wk K mg (GS n W1) J ds) : Wk K mg (if c = true then GC W1 H1 else GS n W1) J ds := by
  cases c with
  | true => rw [if_pos rfl]; exact k.imp fun W H g => ⟨g.le, s.trans g⟩
  | false => rw [if_neg Bool.false_ne_true]; exact k
def rngD (lo : Int) (k : Nat) : List D := (List.range k).map fun i => .int (lo + (i : Nat))
theorem rngD_len (lo : Int) (k : Nat) : (rngD lo k).length = k := by unfold rngD; rw [List.length_map, List.length_range]
theorem wk_rng {G : Wd → Hp → Prop} (lo : Int) (k : Nat) : Wk K mg G (Itr lo k) (rngD lo k) where
  go := fun W H i _ h => by rw [rngD_len] at h; exact h
  stop := fun W H i _ h => by rw [rngD_len] at h; exact Nat.le_of_eq h.symm
  yld := fun W H i x H' d _ w h y => by
    obtain ⟨rfl, rfl⟩ := y
    unfold rngD at h
    rw [List.getElem?_map] at h
    cases e : (List.range k)[i]? with
    | none => rw [e] at h; cases h
    | some j =>
      rw [e] at h
      have : j = i := by
        obtain ⟨h1, h2⟩ := List.getElem?_eq_some_iff.mp e
        rw [List.getElem_range] at h2
        exact h2.symm
      subst this
      cases h
      exact ⟨W, .refl w, Rep.int _⟩
theorem wk_lst {G : Wd → Hp → Prop} {a : Addr} {xs : List V} {ds : List D} (h : ∀ W H, G W H → H a = some (.lst xs) ∧ RepL K mg W xs ds) : Wk K mg G (Itl K a) ds where
  go := fun W H i g hi => by
    obtain ⟨e, r⟩ := h W H g
    have : i < xs.length := by rw [r.length]; exact hi
    exact ⟨xs, xs[i], SqL.of e, List.getElem?_eq_getElem this⟩
  stop := fun W H i g hi => by
    have hi := Nat.le_of_eq hi.symm
    obtain ⟨e, r⟩ := h W H g
    exact ⟨xs, SqL.of e, by rw [r.length]; exact hi⟩
  yld := fun W H i x H' d g w hd y => by
    obtain ⟨rfl, y⟩ := y
    obtain ⟨e, r⟩ := h W _ g
    obtain ⟨u, eu, ru⟩ := r.get hd
    have := y xs (SqL.of e)
    rw [eu] at this; cases this
    exact ⟨W, .refl w, ru⟩
theorem wk_tup {G : Wd → Hp → Prop} {a : Addr} {xs : List V} {ds : List D} (h : ∀ W H, G W H → SqT K H a xs ∧ RepL K mg W xs ds) : Wk K mg G (Itt K a) ds where
  go := fun W H i g hi => by
    obtain ⟨e, r⟩ := h W H g
    have : i < xs.length := by rw [r.length]; exact hi
    exact ⟨xs, xs[i], e, List.getElem?_eq_getElem this⟩
  stop := fun W H i g hi => by
    have hi := Nat.le_of_eq hi.symm
    obtain ⟨e, r⟩ := h W H g
    exact ⟨xs, e, by rw [r.length]; exact hi⟩
  yld := fun W H i x H' d g w hd y => by
    obtain ⟨rfl, y⟩ := y
    obtain ⟨e, r⟩ := h W _ g
    obtain ⟨u, eu, ru⟩ := r.get hd
    have := y xs e
    rw [eu] at this; cases this
    exact ⟨W, .refl w, ru⟩
end

section
variable {X : Cx} {n : N0} {tg e a b : Expr} {pos p : Pos}
@[reducible] def wRng1 (wa : Sl → (List D → Prop) → Prop) : Sl → (List D → Prop) → Prop := fun δ q => wa δ fun ds => match ds with
  | [.int j] => -4611686018427387904 ≤ j ∧ j < 4611686018427387904 ∧ q (rngD 0 j.toNat)
  | _ => False
@[reducible] def wRng2 (wa : Sl → (List D → Prop) → Prop) : Sl → (List D → Prop) → Prop := fun δ q => wa δ fun ds => match ds with
  | [.int i, .int j] => (-4611686018427387904 ≤ i ∧ i < 4611686018427387904 ∧ -4611686018427387904 ≤ j ∧ j < 4611686018427387904) ∧ q (rngD i (j - i).toNat)
  | _ => False
theorem PI.imp {iter : Expr} {t t' : TI} (h : PI X tg iter t) (i : ∀ σ H R, t' σ H R → t σ H R) : PI X tg iter t' := ⟨fun pins s σ H R I q => h.run pins s σ H R I (i _ _ _ q)⟩
theorem di_rng1 {c : Bool} {wa : Sl → (List D → Prop) → Prop} (hg : Gl X "range") (hm : X.mg "range" = none) (ha : PA X [a] (cA X.K X.mg n [true] wa)) (hs : starEach [a] X.env = [(false, eval a X.env)]) :
    PI X tg (.Call (.Name "range" p) [a] [] pos) (cI X.K X.mg n c (wRng1 wa)) :=
  PI.imp (pi_range1 hg hm ha hs) fun σ H R ⟨W, δ, q, st, sp, hw, k⟩ => ⟨W, δ, _, st, sp, hw, fun W1 H1 vs ds s r hq => by
    obtain ⟨d, rfl⟩ := r.oneD
    obtain ⟨v, rfl, r0⟩ := r.one
    cases d <;> try exact hq.elim
    cases r0.int
    exact ⟨_, rfl, hq.1, hq.2.1, k W1 H1 _ _ s (Wk.any (sp.trans s) (wk_rng _ _)) hq.2.2⟩⟩
theorem di_rng2 {c : Bool} {wa : Sl → (List D → Prop) → Prop} (hg : Gl X "range") (hm : X.mg "range" = none) (ha : PA X [a, b] (cA X.K X.mg n [true, true] wa)) (hs : starEach [a, b] X.env = [(false, eval a X.env), (false, eval b X.env)]) (hs2 : starEach [b] X.env = [(false, eval b X.env)]) :
    PI X tg (.Call (.Name "range" p) [a, b] [] pos) (cI X.K X.mg n c (wRng2 wa)) :=
  PI.imp (pi_range2 hg hm ha hs hs2) fun σ H R ⟨W, δ, q, st, sp, hw, k⟩ => ⟨W, δ, _, st, sp, hw, fun W1 H1 vs ds s r hq => by
    obtain ⟨d, d', rfl⟩ := r.twoD
    obtain ⟨v, v', rfl, r1, r2⟩ := r.two
    cases d <;> cases d' <;> try exact hq.elim
    cases r1.int; cases r2.int
    exact ⟨_, _, rfl, hq.1, k W1 H1 _ _ s (Wk.any (sp.trans s) (wk_rng _ _)) hq.2⟩⟩
/-- a list or a tuple or a locked dict, whichever comes -/
theorem pi_seq {l : Expr} {tl : TE} (hl : PE X l tl) : PI X tg l (fun σ H R => tl σ H fun x H1 => ∃ a, x = .ref a ∧ ((∃ xs, SqL X.K H1 a xs) ∧ R (Itl X.K a) H1 ∨ (∃ xs, SqT X.K H1 a xs) ∧ R (Itt X.K a) H1 ∨ ∃ o kvs, H1 a = some (.frz o (.dT kvs)) ∧ R (Itkt a o kvs) H1)) := by
  constructor
  intro pins s σ H R I h
  have hrun := hl.run pins s σ H _ I h
  refine thn hrun ?_
  rintro v s1 ⟨x, H1, I1, r1, a, e, q⟩
  subst e
  obtain rfl : v = Value.ref a := r1
  rcases q with ⟨⟨xs, hq⟩, q⟩ | ⟨⟨xs, hq⟩, q⟩ | ⟨o, kvs, hd, q⟩
  · have one := pi_list (X := X) (tg := tg) (l := l) (tl := fun σ' H' Q' => σ' = σ ∧ H' = H1 ∧ Q' (.ref a) H1)
    obtain ⟨its, rv, pl, hz⟩ := I1.list hq
    refine PySem.wpAny_pyIter_list pl.isList ?_
    refine ⟨_, [s1.heap.objs.size], _, _, H1, rfl, Inv.kept (t' := s1.toks) I1 (fun b o e => Heap.get?_push_of_some _ e), turn_list a _, ⟨_, Heap.get?_push_size _ rfl, rfl, rfl⟩, ?_, q⟩
    intro b hb
    rw [List.mem_singleton] at hb
    rw [hb]
    exact I1.fpOk (Nat.le_refl _) (HOk.fresh I1.hok (Nat.le_refl _))
  · obtain ⟨its, rv, pl, hz⟩ := I1.tuple hq
    refine PySem.wpAny_pyIter_tuple (show s1.heap.IsTuple a its.toArray from pl) ?_
    refine ⟨_, [s1.heap.objs.size], _, _, H1, rfl, Inv.kept (t' := s1.toks) I1 (fun b o e => Heap.get?_push_of_some _ e), turn_tuple a _, ⟨_, Heap.get?_push_size _ rfl, rfl, rfl⟩, ?_, q⟩
    intro b hb
    rw [List.mem_singleton] at hb
    rw [hb]
    exact I1.fpOk (Nat.le_refl _) (HOk.fresh I1.hok (Nat.le_refl _))
  · obtain ⟨hs, hgd, hx, es, ep, hdt, hsz, ent⟩ := I1.frzT hd
    refine iter_keys hs hgd hx hdt (pi_one (tk := s1.toks) I1 _ (turn_keysT _ hdt) ⟨_, Heap.get?_push_size _ rfl, rfl, ?_⟩ q)
    rw [hsz] <;> rfl
/-- the keys of a locked dict -/
theorem wk_keys {K : PySem.W.Frag} {mg : Str → Option Value} {G : Wd → Hp → Prop} {a : Addr} {od : Obj} {xs : List (List Key × V)} {kvs : List (List Int × D)} (h : ∀ W H, G W H → H a = some (.frz od (.dT xs)) ∧ RepK K mg W xs kvs) : Wk K mg G (Itkt a od xs) (kvs.map fun kv => .key kv.1) where
  go := fun W H i g hi => by
    obtain ⟨e, r⟩ := h W H g
    rw [List.length_map] at hi
    exact ⟨e, by rw [r.len]; exact hi⟩
  stop := fun W H i g hi => by
    have hi := Nat.le_of_eq hi.symm
    obtain ⟨e, r⟩ := h W H g
    rw [List.length_map] at hi
    exact ⟨e, by rw [r.len]; exact hi⟩
  yld := fun W H i x H' d g w hd y => by
    obtain ⟨rfl, k, v, q, e1, rfl, e2⟩ := y
    obtain ⟨e, r⟩ := h W _ g
    obtain ⟨kk, ek, d0, e3⟩ := r.keyAt e1
    rw [List.getElem?_map, e3] at hd
    cases hd
    subst ek
    have e2 : H' q = some (.tup (kk.map V.int)) := by
      rw [e2]
      congr 2
      unfold keyOf
      rw [List.map_map]
      rfl
    obtain ⟨W', s, e4⟩ := told_ok w e2
    exact ⟨W', s, .key e4⟩
/-- walked as it comes; within a comprehension what is lent too -/
@[reducible] def seqD (c : Bool) (dv : DV) (q : List D → Prop) : Prop := match dv with
  | .v (.lst xs) => q xs
  | .v (.tup xs) => q xs
  | .v (.dic kvs) => q (kvs.map fun kv => .key kv.1)
  | .own (.lst xs) => q xs
  | .bp (.lst xs) => q xs
  | .bp (.tup xs) => q xs
  | .bl (.lst xs) => if c = true then q xs else False
  | _ => False
@[reducible] def wSeq (c : Bool) (w : Sl → (DV → Prop) → Prop) : Sl → (List D → Prop) → Prop := fun δ q => w δ fun dv => seqD c dv q
theorem GS.sub {W1 W : Wd} {H : Hp} (g : GS n W1 W H) : Same W1.F W.F := g.1.F
theorem di_seq {c : Bool} {w : Sl → (DV → Prop) → Prop} (h : PE X e (cE X.K X.mg n w)) : PI X tg e (cI X.K X.mg n c (wSeq c w)) := by
  refine PI.imp (pi_seq h) fun σ H R ⟨W, δ, q, st, sp, hw, k⟩ => ⟨W, δ, _, st, sp, hw, fun W1 H1 v dv s r hq => ?_⟩
  have spn := sp.trans s
  -- what stands still, is a list
  have stL : ∀ {a : Addr} {xs : List V} {ds : List D} {W2 : Wd}, W2.F a = some (.lst xs) → RepL X.K X.mg W2 xs ds → Wk X.K X.mg (GS n W2) (Itl X.K a) ds := fun {a xs ds W2} e r' =>
    wk_lst fun W' H' g => ⟨g.2.ok.sub _ _ (g.1.F _ _ e), r'.le g.1⟩
  have stT : ∀ {a : Addr} {xs : List V} {ds : List D} {W2 : Wd}, SqT X.K W2.F a xs → RepL X.K X.mg W2 xs ds → Wk X.K X.mg (GS n W2) (Itt X.K a) ds := fun {a xs ds W2} e r' =>
    wk_tup fun W' H' g => ⟨Same.seqT (g.1.F.trans g.2.ok.sub) e, r'.le g.1⟩
  have fixed : ∀ {W2 : Wd} {d : D}, Stp W H W2 H1 → Rep X.K X.mg W2 v d → (∀ xs, d = .lst xs → q xs) → (∀ xs, d = .tup xs → q xs) → (∃ xs, d = .lst xs ∨ d = .tup xs) →
      ∃ a, v = .ref a ∧ ((∃ xs, SqL X.K H1 a xs) ∧ R (Itl X.K a) H1 ∨ (∃ xs, SqT X.K H1 a xs) ∧ R (Itt X.K a) H1 ∨ ∃ o kvs, H1 a = some (.frz o (.dT kvs)) ∧ R (Itkt a o kvs) H1) := fun {W2 d} s2 r' q1 q2 hd => by
    obtain ⟨ds, hd | hd⟩ := hd
    · subst hd
      cases r' with
      | lst e r' => exact ⟨_, rfl, .inl ⟨⟨_, SqL.of (s2.ok.sub _ _ e)⟩, k W2 H1 _ ds s2 (Wk.any (sp.trans s2) (stL e r')) (q1 ds rfl)⟩⟩
    · subst hd
      cases r' with
      | tup e r' => exact ⟨_, rfl, .inr <| .inl ⟨⟨_, Same.seqT s2.ok.sub e⟩, k W2 H1 _ ds s2 (Wk.any (sp.trans s2) (stT e r')) (q2 ds rfl)⟩⟩
  cases dv with
  | v d =>
    cases d <;> try exact hq.elim
    · exact fixed s r (fun xs e => by cases e) (fun xs e => by cases e; exact hq) ⟨_, .inr rfl⟩
    · exact fixed s r (fun xs e => by cases e; exact hq) (fun xs e => by cases e) ⟨_, .inl rfl⟩
    · cases r with
      | dic e r' => exact ⟨_, rfl, .inr <| .inr ⟨_, _, s.ok.sub _ _ e, k W1 H1 _ _ s (Wk.any (sp.trans s) (wk_keys fun W' H' g => ⟨g.2.ok.sub _ _ (g.1.F _ _ e), r'.le g.1⟩)) hq⟩⟩
  | own d =>
    cases d <;> try exact hq.elim
    obtain ⟨W2, s2, l2, r2⟩ := VRep.freeze s r
    exact fixed s2 r2 (fun xs e => by cases e; exact hq) (fun xs e => by cases e) ⟨_, .inl rfl⟩
  | bp d =>
    have r := r
    rcases r with r | ⟨a, rfl, cc, t⟩
    · cases d <;> try exact hq.elim
      · exact fixed s r (fun xs e => by cases e) (fun xs e => by cases e; exact hq) ⟨_, .inr rfl⟩
      · exact fixed s r (fun xs e => by cases e; exact hq) (fun xs e => by cases e) ⟨_, .inl rfl⟩
    · cases d <;> try exact cc.elim
      · rename_i ds
        obtain ⟨xs, e, r'⟩ := cc
        refine ⟨a, rfl, .inl ⟨⟨xs, SqL.of (spn.eff a _ e t)⟩, k W1 H1 _ ds s (Wk.any spn (wk_lst fun W' H' g => ⟨g.2.eff a _ e t, r'.le g.1⟩)) hq⟩⟩
      · exact hq.elim
  | bl d =>
    cases d <;> try exact hq.elim
    rename_i ds
    cases c with
    | false => exact absurd (show False from by simpa [seqD] using hq) id
    | true =>
      have hq : q ds := by simpa [seqD] using hq
      have r := r
      rcases r with r | ⟨a, rfl, ⟨xs, e, r'⟩, t⟩
      · exact fixed s r (fun xs e => by cases e; exact hq) (fun xs e => by cases e) ⟨_, .inl rfl⟩
      · refine ⟨a, rfl, .inl ⟨⟨xs, SqL.of e⟩, k W1 H1 _ ds s ?_ hq⟩⟩
        rw [if_pos rfl]
        exact wk_lst fun W' H' g => ⟨g.eff a _ e t, r'.le g.le⟩
  | ins _ cc fs => exact hq.elim
  | insL _ cc fs _ _ => exact hq.elim
  | pin _ _ => exact hq.elim
end

/-! ### targets -/
inductive Tg where
  | nm (i : Nat)
  | tp (ts : List Tg)
mutual
def tgD : Tg → D → Sl → (Sl → Prop) → Prop
  | .nm i, d, δ, p => p (δ.set i (some (.v d)))
  | .tp ts, .tup xs, δ, p => tgsD ts xs δ p
  | .tp ts, .lst xs, δ, p => tgsD ts xs δ p
  | .tp _, _, _, _ => False
def tgsD : List Tg → List D → Sl → (Sl → Prop) → Prop
  | [], [], δ, p => p δ
  | t :: ts, d :: ds, δ, p => tgD t d δ fun δ' => tgsD ts ds δ' p
  | _, _, _, _ => False
end
mutual
def Tg.slots : Tg → List Nat
  | .nm i => [i]
  | .tp ts => Tg.slotsL ts
def Tg.slotsL : List Tg → List Nat
  | [] => []
  | t :: ts => t.slots ++ Tg.slotsL ts
end
def Apart (ss : List Nat) (σ σ' : L2.St) : Prop := ∀ vs : List Nat, (∀ i ∈ ss, i ∈ vs) → wipe σ' vs = wipe σ vs
section
variable (K : PySem.W.Frag) (mg : Str → Option Value) (n : N0)
/-- wherever the slots were told so, they are told so now -/
def Mv (W : Wd) (σ : L2.St) (δ : Sl) (σ' : L2.St) (δ' : Sl) : Prop := ∀ W' H', W.le W' → Stp n.1 n.2 W' H' → Sto K mg n W' H' σ δ → Sto K mg n W' H' σ' δ'
def cG (ss : List Nat) (w : D → Sl → (Sl → Prop) → Prop) : TG := fun v σ H Q => ∃ W δ d p, Sto K mg n W H σ δ ∧ Stp n.1 n.2 W H ∧ Rep K mg W v d ∧ w d δ p ∧ ∀ σ' δ', Mv K mg n W σ δ σ' δ' → Apart ss σ σ' → p δ' → Q σ' H
def cGs (ss : List Nat) (w : List D → Sl → (Sl → Prop) → Prop) : TGs := fun vs σ H Q => ∃ W δ ds p, Sto K mg n W H σ δ ∧ Stp n.1 n.2 W H ∧ RepL K mg W vs ds ∧ w ds δ p ∧ ∀ σ' δ', Mv K mg n W σ δ σ' δ' → Apart ss σ σ' → p δ' → Q σ' H
end
theorem wipe_set {σ : L2.St} {i : Nat} {o : Option V} : ∀ {vs : List Nat}, i ∈ vs → wipe (σ.set i o) vs = wipe σ vs
  | [], h => by cases h
  | v :: vs, h => by
    show (wipe (σ.set i o) vs).set v none = (wipe σ vs).set v none
    by_cases hm : i ∈ vs
    · rw [wipe_set hm]
    · have hv : i = v := by
        rcases List.mem_cons.mp h with e | e
        · exact e
        · exact absurd e hm
      subst hv
      have aux : ∀ (us : List Nat), i ∉ us → wipe (σ.set i o) us = (wipe σ us).set i o := by
        intro us
        induction us with
        | nil => intro _; rfl
        | cons u us ih =>
          intro hu
          show (wipe (σ.set i o) us).set u none = ((wipe σ us).set u none).set i o
          rw [ih (fun z => hu (List.mem_cons_of_mem _ z)), List.set_comm _ _ (fun z : i = u => hu (by rw [z]; exact List.mem_cons_self))]
      rw [aux vs hm, List.set_set]
section
variable {X : Cx} {n : N0} {e : Expr} {es : List Expr} {pos : Pos}
theorem PG.imp {t t' : TG} (h : PG X e t) (i : ∀ v σ H Q, t' v σ H Q → t v σ H Q) : PG X e t' := ⟨fun pins s σ H v u Q I r q => h.run pins s σ H v u Q I r (i _ _ _ _ q)⟩
theorem PGs.imp {t t' : TGs} (h : PGs X es t) (i : ∀ v σ H Q, t' v σ H Q → t v σ H Q) : PGs X es t' := ⟨fun pins s σ H v u Q I r q => h.run pins s σ H v u Q I r (i _ _ _ _ q)⟩
theorem dg_nm {i : Nat} {x : Str} (hN : X.N.Nodup) (hi : X.N[i]? = some x) (hx : Loc X.env.scope x) (hf : X.fn x = true ∨ X.env.scope.names.lookup x = some .local) : PG X (.Name x pos) (cG X.K X.mg n [i] (tgD (.nm i))) :=
  PG.imp (pg_name hN hi hx hf) fun v σ H Q ⟨W, δ, d, p, st, sp, r, hw, k⟩ => by
    have hw : p (δ.set i (some (.v d))) := by simpa only [tgD] using hw
    exact k _ _ (fun W' H' l sp' st' => Sto.set st' sp' (.refl sp'.ok) (dv := .v d) (r.le l) (fun _ z => by cases z)) (fun vs h => wipe_set (h i (List.mem_singleton.mpr rfl))) hw
theorem dgs_nil : PGs X [] (cGs X.K X.mg n [] (tgsD [])) := PGs.imp pgs_nil fun vs σ H Q ⟨W, δ, ds, p, st, sp, r, hw, k⟩ => by
  cases r with
  | nil =>
    have hw : p δ := by simpa only [tgsD] using hw
    exact ⟨rfl, k σ δ (fun _ _ _ _ st => st) (fun _ _ => rfl) hw⟩
  | cons _ _ => exact (show False from by simpa only [tgsD] using hw).elim
theorem dgs_cons {t : Tg} {ts : List Tg} (h : PG X e (cG X.K X.mg n t.slots (tgD t))) (hs : PGs X es (cGs X.K X.mg n (Tg.slotsL ts) (tgsD ts))) (hq : (assignEach (e :: es) X.env).map (·.2) = assign e X.env :: (assignEach es X.env).map (·.2)) :
    PGs X (e :: es) (cGs X.K X.mg n (Tg.slotsL (t :: ts)) (tgsD (t :: ts))) :=
  PGs.imp (pgs_cons h hs hq) fun vs σ H Q ⟨W, δ, ds, p, st, sp, r, hw, k⟩ => by
    cases r with
    | nil => exact (show False from by simpa only [tgsD] using hw).elim
    | cons r1 r2 =>
      have hw := (show tgD t _ δ fun δ' => tgsD ts _ δ' p from by simpa only [tgsD] using hw)
      refine ⟨_, _, rfl, W, δ, _, _, st, sp, r1, hw, fun σ1 δ1 m1 a1 h1 => ⟨W, δ1, _, p, m1 W H (.refl W) sp st, sp, r2, h1, fun σ2 δ2 m2 a2 h2 => k σ2 δ2 (fun W' H' l sp' st' => m2 W' H' l sp' (m1 W' H' l sp' st')) (fun vs hv => ?_) h2⟩⟩
      have e1 : ∀ i ∈ t.slots, i ∈ vs := fun i hi => hv i (by simp only [Tg.slotsL]; exact List.mem_append_left _ hi)
      have e2 : ∀ i ∈ Tg.slotsL ts, i ∈ vs := fun i hi => hv i (by simp only [Tg.slotsL]; exact List.mem_append_right _ hi)
      rw [a2 vs e2, a1 vs e1]
theorem PG.or {g g' : TG} (h : PG X e g) (h' : PG X e g') : PG X e (fun v σ H Q => g v σ H Q ∨ g' v σ H Q) := ⟨fun pins s σ H v u Q I r q => q.elim (h.run pins s σ H v u Q I r) (h'.run pins s σ H v u Q I r)⟩
theorem dg_tp {ts : List Tg} {k : Nat} (hc : X.calm = true) (h : PGs X es (cGs X.K X.mg n (Tg.slotsL ts) (tgsD ts))) (hn : (assignEach es X.env).length = ts.length) (hst : (assignEach es X.env).findIdx? (·.1) = none) :
    PG X (.Tuple es k pos) (cG X.K X.mg n (Tg.slots (.tp ts)) (tgD (.tp ts))) := by
  refine PG.imp (PG.or (pg_tup hc h hn hst) (pg_lst hc h hn hst)) fun v σ H Q ⟨W, δ, d, p, st, sp, r, hw, k⟩ => ?_
  have len : ∀ (ts : List Tg) (ds : List D) (δ : Sl) (p : Sl → Prop), tgsD ts ds δ p → (∀ t d δ p, tgD t d δ p → ∃ δ', p δ') → ds.length = ts.length := by
    intro ts
    induction ts with
    | nil => intro ds δ p h _; cases ds with
      | nil => rfl
      | cons _ _ => exact (show False from by simpa only [tgsD] using h).elim
    | cons t ts ih => intro ds δ p h g; cases ds with
      | nil => exact (show False from by simpa only [tgsD] using h).elim
      | cons d ds =>
        have h := (show tgD t d δ fun δ' => tgsD ts ds δ' p from by simpa only [tgsD] using h)
        obtain ⟨δ', h⟩ := g _ _ _ _ h
        exact congrArg (· + 1) (ih ds δ' p h g)
  have some_ : ∀ (t : Tg) (d : D) (δ : Sl) (p : Sl → Prop), tgD t d δ p → ∃ δ', p δ' := by
    intro t
    refine Tg.rec (motive_1 := fun t => ∀ (d : D) (δ : Sl) (p : Sl → Prop), tgD t d δ p → ∃ δ', p δ') (motive_2 := fun ts => ∀ (ds : List D) (δ : Sl) (p : Sl → Prop), tgsD ts ds δ p → ∃ δ', p δ') ?_ ?_ ?_ ?_ t
    · intro i d δ p h
      exact ⟨_, by simpa only [tgD] using h⟩
    · intro ts ih d δ p h
      cases d <;> simp only [tgD] at h
      · exact ih _ _ _ h
      · exact ih _ _ _ h
    · intro ds δ p h
      cases ds <;> simp only [tgsD] at h
      exact ⟨_, h⟩
    · intro t ts i1 i2 ds δ p h
      cases ds <;> simp only [tgsD] at h
      obtain ⟨δ', h⟩ := i1 _ _ _ h
      exact i2 _ _ _ h
  cases d <;> try exact (show False from by simpa only [tgD] using hw).elim
  · rename_i ds
    have hw : tgsD ts ds δ p := by simpa only [tgD] using hw
    cases r with
    | tup e r => exact .inl ⟨_, _, rfl, Same.seqT sp.ok.sub e, by rw [r.length]; exact len ts ds δ p hw some_, W, δ, ds, p, st, sp, r, hw, k⟩
  · rename_i ds
    have hw : tgsD ts ds δ p := by simpa only [tgD] using hw
    cases r with
    | lst e r => exact .inr ⟨_, _, rfl, SqL.of (sp.ok.sub _ _ e), by rw [r.length]; exact len ts ds δ p hw some_, W, δ, ds, p, st, sp, r, hw, k⟩
end

/-! ### for -/
def forD (t : Tg) (b : Kn → Sl → Prop) (k : Kn) : List D → Sl → Prop
  | [], δ => k.nx δ
  | d :: ds, δ => tgD t d δ fun δ' => b { nx := forD t b k ds, ct := forD t b k ds, bk := k.nx, rt := k.rt } δ'
@[reducible] def swFor (wi : Sl → (List D → Prop) → Prop) (t : Tg) (b : Kn → Sl → Prop) : Kn → Sl → Prop := fun k δ => wi δ fun ds => forD t b k ds δ
section
variable {X : Cx} {n : N0} {tg iter : Expr} {body : List Stmt} {pos : Pos}
theorem ds_for {wi : Sl → (List D → Prop) → Prop} {t : Tg} {b : Kn → Sl → Prop} (hp : PassesOwn (model X.prog X.w) X.A X.env X.xe) (hc : X.calm = true) (hi : PI X tg iter (cI X.K X.mg n false wi)) (hg : PG X tg (cG X.K X.mg n t.slots (tgD t))) (hb : PSs X body (cS X.K X.mg n b))
    (hs : ∀ x, foldedSetIterable iter X.env x = pure x) : PS X (.For tg iter body [] pos) (cS X.K X.mg n (swFor wi t b)) := by
  refine PS.imp (ps_for hp hc hi hg hb hs) fun D σ H ⟨W, δ, k, st, sp, hw, g⟩ => ⟨W, δ, _, st, sp, hw, fun W1 H1 J ds s wk hq => ?_⟩
  rw [if_neg Bool.false_ne_true] at wk
  refine ⟨fun i m σ H => m = ds.length - i ∧ i ≤ ds.length ∧ ∃ W' δ, W1.le W' ∧ Stp n.1 n.2 W' H ∧ Sto X.K X.mg n W' H σ δ ∧ forD t b k (ds.drop i) δ, ⟨ds.length, rfl, Nat.zero_le _, W1, δ, .refl _, sp.trans s, st.step s, hq⟩, ?_⟩
  rintro i m σ2 H2 ⟨rfl, hi, W2, δ2, l2, sp2, st2, h2⟩
  by_cases hlt : i < ds.length
  · rw [List.drop_eq_getElem_cons hlt] at h2
    refine .inr ⟨wk.go W2 H2 i ⟨l2, sp2⟩ hlt, fun σ' H' => ∃ W' δ, W1.le W' ∧ Stp n.1 n.2 W' H' ∧ Sto X.K X.mg n W' H' σ' δ ∧ forD t b k (ds.drop (i + 1)) δ, fun σ' H' h => ⟨_, Nat.sub_lt_sub_left hlt (Nat.lt_succ_self i), rfl, hlt, h⟩, fun x H3 y => ?_⟩
    obtain ⟨W3, s3, r3⟩ := wk.yld W2 H2 i x H3 ds[i] ⟨l2, sp2⟩ sp2.ok (List.getElem?_eq_getElem hlt) y
    refine ⟨W3, δ2, ds[i], _, st2.step s3, sp2.trans s3, r3, h2, fun σ' δ' mv _ h' => ⟨W3, δ', _, mv W3 _ (.refl W3) (sp2.trans s3) (st2.step s3), sp2.trans s3, h', ?_, ?_, ?_, g.rt⟩⟩
    · exact fun W' H' σ' δ' l s' t' h => ⟨W', δ', (l2.trans s3.le).trans l, s', t', h⟩
    · exact fun W' H' σ' δ' l s' t' h => g.nx W' H' σ' δ' (((s.le.trans l2).trans s3.le).trans l) s' t' h
    · exact fun W' H' σ' δ' l s' t' h => ⟨W', δ', (l2.trans s3.le).trans l, s', t', h⟩
  · have e : i = ds.length := by omega
    subst e
    rw [List.drop_length] at h2
    exact .inl ⟨wk.stop W2 H2 _ ⟨l2, sp2⟩ rfl, g.nx W2 H2 σ2 δ2 (s.le.trans l2) sp2 st2 h2⟩
end

/-! ### [e for x in xs if t] -/
def compD (t : Tg) (wt : Sl → (Bool → Prop) → Prop) (we : Sl → (D → Prop) → Prop) (δ : Sl) (q : List D → Prop) : List D → List D → Prop
  | [], acc => q acc
  | d :: ds, acc => tgD t d δ fun δ2 => wt δ2 fun b => if b = true then we δ2 fun y => acc.length ≤ 1000000 ∧ compD t wt we δ q ds (acc ++ [y]) else compD t wt we δ q ds acc
@[reducible] def wipeD (δ : Sl) : List Nat → Sl
  | [] => δ
  | v :: vs => (wipeD δ vs).set v none
@[reducible] def wComp (wi : Sl → (List D → Prop) → Prop) (t : Tg) (wt : Sl → (Bool → Prop) → Prop) (we : Sl → (D → Prop) → Prop) (vs : List Nat) : Sl → (DV → Prop) → Prop := fun δ q => wi δ fun ds => compD t wt we (wipeD δ vs) (fun acc => q (.own (.lst acc))) ds []
section
variable {K : PySem.W.Frag} {mg : Str → Option Value} {n : N0}
theorem Sto.drop {W : Wd} {H : Hp} {σ : L2.St} {δ : Sl} (st : Sto K mg n W H σ δ) (i : Nat) : Sto K mg n W H (σ.set i none) (δ.set i none) := by
  obtain ⟨l, ow, h1, h2, h3⟩ := st
  refine ⟨by rw [List.length_set, List.length_set, l], ow, fun j dw e => ?_, h2, h3⟩
  by_cases hj : j = i
  · subst hj
    have hlt : j < δ.length := by
      have := (List.getElem?_eq_some_iff.mp e).1
      rwa [List.length_set] at this
    rw [List.getElem?_set_self hlt] at e
    cases e
  · rw [List.getElem?_set_ne (Ne.symm hj)] at e ⊢
    exact h1 j dw e
theorem Sto.wipe {W : Wd} {H : Hp} {σ : L2.St} {δ : Sl} (st : Sto K mg n W H σ δ) : ∀ vs : List Nat, Sto K mg n W H (L2.wipe σ vs) (wipeD δ vs)
  | [] => st
  | v :: vs => (Sto.wipe st vs).drop v
end
section
variable {X : Cx} {n : N0} {tg iter elt : Expr} {ifs : List Expr} {scope : Scope} {pos : Pos}
theorem cE.comp {wi : Sl → (List D → Prop) → Prop} {t : Tg} {wt : Sl → (Bool → Prop) → Prop} {we : Sl → (D → Prop) → Prop} {vs : List Nat} (hv : ∀ i ∈ t.slots, i ∈ vs) {σ : L2.St} {H : Hp} {Q : VK} (h : cE X.K X.mg n (wComp wi t wt we vs) σ H Q) :
    tLc (cI X.K X.mg n true wi) (cG X.K X.mg n t.slots (tgD t)) (cT X.K X.mg n wt) (cV X.K X.mg n false we) vs σ H Q := by
  obtain ⟨W, δ, q, st, sp, hw, k⟩ := h
  refine ⟨W, δ, _, st, sp, hw, fun W1 H1 J ds s wk hq L hL => ?_⟩
  rw [if_pos rfl] at wk
  have sp1 := sp.trans s
  have st1 := (st.step s).wipe vs
  have nF : W1.F L = none := s.ok.sub.free hL
  have nT : ¬ W1.ofTown L := s.ok.notTown hL
  -- what holds at the head of turn i
  refine ⟨fun i m H => m = ds.length - i ∧ i ≤ ds.length ∧ ∃ W' acc vacc, Stp W1 H1 W' H ∧ H L = some (.lst vacc) ∧ RepL X.K X.mg W' vacc acc ∧ Loose W' L ∧ compD t wt we (wipeD δ vs) (fun acc => q (.own (.lst acc))) (ds.drop i) acc,
    ⟨ds.length, rfl, Nat.zero_le _, W1, [], [], Stp.laidOwn s.ok hL _, upd_same, .nil, ⟨nF, nT⟩, hq⟩, ?_⟩
  rintro i m H2 ⟨rfl, hi, W2, acc, vacc, s2, eL, rL, lo, h2⟩
  by_cases hlt : i < ds.length
  · rw [List.drop_eq_getElem_cons hlt] at h2
    refine .inr ⟨wk.go W2 H2 i s2 hlt, fun H' => ∃ W' acc vacc, Stp W1 H1 W' H' ∧ H' L = some (.lst vacc) ∧ RepL X.K X.mg W' vacc acc ∧ Loose W' L ∧ compD t wt we (wipeD δ vs) (fun acc => q (.own (.lst acc))) (ds.drop (i + 1)) acc,
      fun H' h => ⟨_, Nat.sub_lt_sub_left hlt (Nat.lt_succ_self i), rfl, hlt, h⟩, fun x H3 y => ?_⟩
    obtain ⟨W3, s3, r3⟩ := wk.yld W2 H2 i x H3 ds[i] s2 s2.ok (List.getElem?_eq_getElem hlt) y
    have s13 := s2.trans s3
    have eL3 : H3 L = some (.lst vacc) := s3.eff L _ eL lo.2
    have lo3 := s3.loose ⟨_, eL, fun _ z => by cases z⟩ lo
    refine ⟨W3, wipeD δ vs, ds[i], _, st1.step s13, sp1.trans s13, r3, h2, fun σ4 δ4 mv ap h4 => ⟨?_, ?_⟩⟩
    · have := ap vs hv
      -- wiping twice changes nothing
      have twice : ∀ (us : List Nat), (∀ u ∈ us, u ∈ vs) → L2.wipe (L2.wipe σ vs) us = L2.wipe σ vs := by
        intro us
        induction us with
        | nil => intro _; rfl
        | cons u us ih =>
          intro hu
          show (L2.wipe (L2.wipe σ vs) us).set u none = L2.wipe σ vs
          rw [ih fun z hz => hu z (List.mem_cons_of_mem _ hz)]
          have hm := hu u List.mem_cons_self
          have gone : ∀ ws : List Nat, u ∈ ws → (L2.wipe σ ws).set u none = L2.wipe σ ws := by
            intro ws
            induction ws with
            | nil => intro h; cases h
            | cons w ws ih2 =>
              intro h
              show ((L2.wipe σ ws).set w none).set u none = (L2.wipe σ ws).set w none
              by_cases hw : u = w
              · subst hw
                rw [List.set_set]
              · rcases List.mem_cons.mp h with e | e
                · exact absurd e hw
                · rw [List.set_comm _ _ (Ne.symm hw), ih2 e]
          exact gone vs hm
      exact this.trans (twice vs fun _ h => h)
    · have st4 := mv W3 _ (.refl W3) (sp1.trans s13) (st1.step s13)
      refine ⟨W3, δ4, _, st4, sp1.trans s13, h4, fun W5 H5 c s5 h5 => ?_⟩
      have eL5 : H5 L = some (.lst vacc) := s5.eff L _ eL3 lo3.2
      have lo5 := s5.loose ⟨_, eL3, fun _ z => by cases z⟩ lo3
      cases c with
      | false =>
        simp only [Bool.false_eq_true, if_false] at h5 ⊢
        exact ⟨W5, acc, vacc, s13.trans s5, eL5, (rL.le s3.le).le s5.le, lo5, h5⟩
      | true =>
        simp only [if_true] at h5 ⊢
        refine ⟨W5, δ4, _, st4.step s5, (sp1.trans s13).trans s5, h5, fun W6 H6 v d s6 r6 h6 => ?_⟩
        have eL6 : H6 L = some (.lst vacc) := s6.eff L _ eL5 lo5.2
        have lo6 := s6.loose ⟨_, eL5, fun _ z => by cases z⟩ lo5
        have rL6 := ((rL.le s3.le).le s5.le).le s6.le
        have rv : Rep X.K X.mg W6 v d := by simpa [RepM] using r6
        refine ⟨vacc, eL6, ?_, W6, acc ++ [d], vacc ++ [v], ((s13.trans s5).trans s6).write hL lo6.1 lo6.2 _, upd_same, rL6.append (.cons rv .nil), lo6, h6.2⟩
        have := h6.1
        have hs : sizeLine = 16777216 := sizeLine_eq
        rw [rL6.length]; omega
  · have e : i = ds.length := by omega
    subst e
    rw [List.drop_length] at h2
    refine .inl ⟨wk.stop W2 H2 _ s2 rfl, ?_⟩
    exact k W2 H2 (.ref L) (.own (.lst acc)) (s.trans s2) ⟨L, rfl, ⟨vacc, eL, rL⟩, s.fresh hL, lo⟩ h2
theorem wipe_in {σ : L2.St} {u : Nat} : ∀ ws : List Nat, u ∈ ws → (L2.wipe σ ws).set u none = L2.wipe σ ws
  | [], h => by cases h
  | w :: ws, h => by
    show ((L2.wipe σ ws).set w none).set u none = (L2.wipe σ ws).set w none
    by_cases hw : u = w
    · subst hw
      rw [List.set_set]
    · rcases List.mem_cons.mp h with e | e
      · exact absurd e hw
      · rw [List.set_comm _ _ (Ne.symm hw), wipe_in ws e]
theorem wipe_twice {σ : L2.St} {vs : List Nat} : ∀ us : List Nat, (∀ u ∈ us, u ∈ vs) → L2.wipe (L2.wipe σ vs) us = L2.wipe σ vs
  | [], _ => rfl
  | u :: us, hu => by
    show (L2.wipe (L2.wipe σ vs) us).set u none = L2.wipe σ vs
    rw [wipe_twice us fun z hz => hu z (List.mem_cons_of_mem _ hz)]
    exact wipe_in vs (hu u List.mem_cons_self)
/-- two sources -/
def comp2D (t : Tg) (wt : Sl → (Bool → Prop) → Prop) (wi1 : Sl → (List D → Prop) → Prop) (t1 : Tg) (wt1 : Sl → (Bool → Prop) → Prop) (we : Sl → (D → Prop) → Prop) (vs1 : List Nat) (δ : Sl) (q : List D → Prop) : List D → List D → Prop
  | [], acc => q acc
  | d :: ds, acc => tgD t d δ fun δ2 => wt δ2 fun b => if b = true then wi1 δ2 fun es => compD t1 wt1 we (wipeD δ2 vs1) (comp2D t wt wi1 t1 wt1 we vs1 δ q ds) es acc else comp2D t wt wi1 t1 wt1 we vs1 δ q ds acc
@[reducible] def wComp2 (wi : Sl → (List D → Prop) → Prop) (t : Tg) (wt : Sl → (Bool → Prop) → Prop) (wi1 : Sl → (List D → Prop) → Prop) (t1 : Tg) (wt1 : Sl → (Bool → Prop) → Prop) (we : Sl → (D → Prop) → Prop) (vs vs1 : List Nat) : Sl → (DV → Prop) → Prop :=
  fun δ q => wi δ fun ds => comp2D t wt wi1 t1 wt1 we vs1 (wipeD δ vs) (fun acc => q (.own (.lst acc))) ds []
theorem cE.comp2 {wi wi1 : Sl → (List D → Prop) → Prop} {t t1 : Tg} {wt wt1 : Sl → (Bool → Prop) → Prop} {we : Sl → (D → Prop) → Prop} {vs vs1 : List Nat} (hv : ∀ i ∈ t.slots, i ∈ vs) (hv1 : ∀ i ∈ t1.slots, i ∈ vs1) {σ : L2.St} {H : Hp} {Q : VK} (h : cE X.K X.mg n (wComp2 wi t wt wi1 t1 wt1 we vs vs1) σ H Q) :
    tLc2 (cI X.K X.mg n true wi) (cG X.K X.mg n t.slots (tgD t)) (cT X.K X.mg n wt) (cI X.K X.mg n false wi1) (cG X.K X.mg n t1.slots (tgD t1)) (cT X.K X.mg n wt1) (cV X.K X.mg n false we) vs vs1 σ H Q := by
  obtain ⟨W, δ, q, st, sp, hw, k⟩ := h
  refine ⟨W, δ, _, st, sp, hw, fun W1 H1 J ds s wk hq L hL => ?_⟩
  rw [if_pos rfl] at wk
  have sp1 := sp.trans s
  have st1 := (st.step s).wipe vs
  have nF : W1.F L = none := s.ok.sub.free hL
  have nT : ¬ W1.ofTown L := s.ok.notTown hL
  refine ⟨fun i m H => m = ds.length - i ∧ i ≤ ds.length ∧ ∃ W' acc vacc, Stp W1 H1 W' H ∧ H L = some (.lst vacc) ∧ RepL X.K X.mg W' vacc acc ∧ Loose W' L ∧ comp2D t wt wi1 t1 wt1 we vs1 (wipeD δ vs) (fun acc => q (.own (.lst acc))) (ds.drop i) acc,
    ⟨ds.length, rfl, Nat.zero_le _, W1, [], [], Stp.laidOwn s.ok hL _, upd_same, .nil, ⟨nF, nT⟩, hq⟩, ?_⟩
  rintro i m H2 ⟨rfl, hi, W2, acc, vacc, s2, eL, rL, lo, h2⟩
  by_cases hlt : i < ds.length
  · rw [List.drop_eq_getElem_cons hlt] at h2
    refine .inr ⟨wk.go W2 H2 i s2 hlt, fun H' => ∃ W' acc vacc, Stp W1 H1 W' H' ∧ H' L = some (.lst vacc) ∧ RepL X.K X.mg W' vacc acc ∧ Loose W' L ∧ comp2D t wt wi1 t1 wt1 we vs1 (wipeD δ vs) (fun acc => q (.own (.lst acc))) (ds.drop (i + 1)) acc,
      fun H' h => ⟨_, Nat.sub_lt_sub_left hlt (Nat.lt_succ_self i), rfl, hlt, h⟩, fun x H3 y => ?_⟩
    obtain ⟨W3, s3, r3⟩ := wk.yld W2 H2 i x H3 ds[i] s2 s2.ok (List.getElem?_eq_getElem hlt) y
    have s13 := s2.trans s3
    have eL3 : H3 L = some (.lst vacc) := s3.eff L _ eL lo.2
    have lo3 := s3.loose ⟨_, eL, fun _ z => by cases z⟩ lo
    refine ⟨W3, wipeD δ vs, ds[i], _, st1.step s13, sp1.trans s13, r3, h2, fun σ4 δ4 mv ap h4 => ⟨(ap vs hv).trans (wipe_twice vs fun _ h => h), ?_⟩⟩
    have st4 := mv W3 _ (.refl W3) (sp1.trans s13) (st1.step s13)
    refine ⟨W3, δ4, _, st4, sp1.trans s13, h4, fun W5 H5 c s5 h5 => ?_⟩
    have eL5 : H5 L = some (.lst vacc) := s5.eff L _ eL3 lo3.2
    have lo5 := s5.loose ⟨_, eL3, fun _ z => by cases z⟩ lo3
    have rL5 := (rL.le s3.le).le s5.le
    have s15 := s13.trans s5
    cases c with
    | false =>
      simp only [Bool.false_eq_true, if_false] at h5 ⊢
      exact ⟨W5, acc, vacc, s15, eL5, rL5, lo5, h5⟩
    | true =>
      simp only [if_true] at h5 ⊢
      -- the second source
      refine ⟨W5, δ4, _, st4.step s5, sp1.trans s15, h5, fun W6 H6 J1 es s6 wk1 hq1 => ?_⟩
      rw [if_neg Bool.false_ne_true] at wk1
      have eL6 : H6 L = some (.lst vacc) := s6.eff L _ eL5 lo5.2
      have lo6 := s6.loose ⟨_, eL5, fun _ z => by cases z⟩ lo5
      have rL6 := rL5.le s6.le
      have s16 := s15.trans s6
      have l36 := s5.le.trans s6.le
      refine ⟨fun j k H => k = es.length - j ∧ j ≤ es.length ∧ ∃ W' acc vacc, Stp W1 H1 W' H ∧ W6.le W' ∧ H L = some (.lst vacc) ∧ RepL X.K X.mg W' vacc acc ∧ Loose W' L ∧ compD t1 wt1 we (wipeD δ4 vs1) (comp2D t wt wi1 t1 wt1 we vs1 (wipeD δ vs) (fun acc => q (.own (.lst acc))) (ds.drop (i + 1))) (es.drop j) acc,
        ⟨es.length, rfl, Nat.zero_le _, W6, acc, vacc, s16, .refl _, eL6, rL6, lo6, hq1⟩, ?_⟩
      rintro j m1 H7 ⟨rfl, hj, W7, acc7, vacc7, s7, l7, eL7, rL7, lo7, h7⟩
      by_cases hlj : j < es.length
      · rw [List.drop_eq_getElem_cons hlj] at h7
        refine .inr ⟨wk1.go W7 H7 j ⟨l7, sp1.trans s7⟩ hlj, fun H' => ∃ W' acc vacc, Stp W1 H1 W' H' ∧ W6.le W' ∧ H' L = some (.lst vacc) ∧ RepL X.K X.mg W' vacc acc ∧ Loose W' L ∧ compD t1 wt1 we (wipeD δ4 vs1) (comp2D t wt wi1 t1 wt1 we vs1 (wipeD δ vs) (fun acc => q (.own (.lst acc))) (ds.drop (i + 1))) (es.drop (j + 1)) acc,
          fun H' h => ⟨_, Nat.sub_lt_sub_left hlj (Nat.lt_succ_self j), rfl, hlj, h⟩, fun x8 H8 y8 => ?_⟩
        obtain ⟨W8, s8, r8⟩ := wk1.yld W7 H7 j x8 H8 es[j] ⟨l7, sp1.trans s7⟩ s7.ok (List.getElem?_eq_getElem hlj) y8
        have s78 := s7.trans s8
        have eL8 : H8 L = some (.lst vacc7) := s8.eff L _ eL7 lo7.2
        have lo8 := s8.loose ⟨_, eL7, fun _ z => by cases z⟩ lo7
        have sp8 := sp1.trans s78
        have st8 : Sto X.K X.mg n W8 H8 (L2.wipe σ4 vs1) (wipeD δ4 vs1) := (mv W8 H8 ((l36.trans l7).trans s8.le) sp8 (st1.step s78)).wipe vs1
        refine ⟨W8, wipeD δ4 vs1, es[j], _, st8, sp8, r8, h7, fun σ9 δ9 mv9 ap9 h9 => ⟨(ap9 vs1 hv1).trans (wipe_twice vs1 fun _ h => h), ?_⟩⟩
        have st9 := mv9 W8 H8 (.refl W8) sp8 st8
        refine ⟨W8, δ9, _, st9, sp8, h9, fun Wa Ha c sa ha => ?_⟩
        have eLa : Ha L = some (.lst vacc7) := sa.eff L _ eL8 lo8.2
        have loa := sa.loose ⟨_, eL8, fun _ z => by cases z⟩ lo8
        have rLa := (rL7.le s8.le).le sa.le
        have l6a := (l7.trans s8.le).trans sa.le
        cases c with
        | false =>
          simp only [Bool.false_eq_true, if_false] at ha ⊢
          exact ⟨Wa, acc7, vacc7, s78.trans sa, l6a, eLa, rLa, loa, ha⟩
        | true =>
          simp only [if_true] at ha ⊢
          refine ⟨Wa, δ9, _, st9.step sa, sp8.trans sa, ha, fun Wb Hb v d sb rb hb => ?_⟩
          have eLb : Hb L = some (.lst vacc7) := sb.eff L _ eLa loa.2
          have lob := sb.loose ⟨_, eLa, fun _ z => by cases z⟩ loa
          have rLb := rLa.le sb.le
          have rv : Rep X.K X.mg Wb v d := by simpa [RepM] using rb
          refine ⟨vacc7, eLb, ?_, Wb, acc7 ++ [d], vacc7 ++ [v], ((s78.trans sa).trans sb).write hL lob.1 lob.2 _, l6a.trans sb.le, upd_same, rLb.append (.cons rv .nil), lob, hb.2⟩
          have := hb.1
          have hs : sizeLine = 16777216 := sizeLine_eq
          rw [rLb.length]; omega
      · have e : j = es.length := by omega
        subst e
        rw [List.drop_length] at h7
        exact .inl ⟨wk1.stop W7 H7 _ ⟨l7, sp1.trans s7⟩ rfl, W7, acc7, vacc7, s7, eL7, rL7, lo7, h7⟩
  · have e : i = ds.length := by omega
    subst e
    rw [List.drop_length] at h2
    refine .inl ⟨wk.stop W2 H2 _ s2 rfl, ?_⟩
    exact k W2 H2 (.ref L) (.own (.lst acc)) (s.trans s2) ⟨L, rfl, ⟨vacc, eL, rL⟩, s.fresh hL, lo⟩ h2
end
end TT

set_option Elab.async false
set_option linter.all false
set_option maxRecDepth 100000
set_option maxHeartbeats 1000000
set_option autoImplicit false
/-! zip of two things, each a list or a tuple. -/
namespace TT
open PySem PySem.Spec L2
def SqX (K : PySem.W.Frag) (b : Bool) (H : Hp) (a : Addr) (xs : List V) : Prop := if b = true then SqL K H a xs else SqT K H a xs
theorem ItX.obj {b : Bool} {h : Heap} {it l : Addr} {i : Nat} (q : ItX b h it l i) : ∃ o, h.get? it = some o ∧ ∀ v, o.data ≠ .cell v := by
  cases b
  · obtain ⟨o, e, _, d⟩ := (show h.IsTupleIter it l i from q)
    exact ⟨o, e, fun v z => by rw [d] at z; cases z⟩
  · obtain ⟨o, e, _, d⟩ := (show h.IsListIter it l i from q)
    exact ⟨o, e, fun v z => by rw [d] at z; cases z⟩
theorem draws_tup {prog : Program} {w : World} {A : Around} (hh : A.handled = none) (it l : Addr) (hne : l ≠ it) (items : Array Value) :
    Draws prog w A it [it, l] items.size (fun i v => items[i]? = some v) (fun i h => h.IsTupleIter it l i ∧ h.IsTuple l items) where
  live := fun _ _ st => let ⟨o, ho, _⟩ := st.1; ⟨o, ho⟩
  frame := fun _ _ _ st hk => ⟨st.1.at fun o e => hk it (by simp) o e, st.2.at fun o e => hk l (by simp) o e⟩
  item := fun i s Q E hi st hQ => by
    refine RZ.nextOf_tuple_item st.1 st.2 (x := items[i]) (by simp [hi]) fun h' hit' hs' => ?_
    exact hQ _ h' s.toks (by simp [hi]) ⟨hit', st.2.extBut hs'.extBut hne⟩ hs'
  done := fun s Q E st hE => RZ.nextOf_tuple_end hh st.1 st.2 (by simp) hE
theorem drawsX {prog : Program} {w : World} {A : Around} (hh : A.handled = none) (b : Bool) (it l : Addr) (hne : l ≠ it) (items : Array Value) :
    Draws prog w A it [it, l] items.size (fun i v => items[i]? = some v) (fun i h => ItX b h it l i ∧ IsX b h l items) := by
  cases b
  · exact draws_tup hh it l hne items
  · exact Draws.list hh it l hne items
def zN (b : Bool) : String := if b = true then "list_iterator" else "tuple_iterator"
abbrev zX1 (b : Bool) (h : Heap) (l1 : Addr) : Heap := h.push { cls := .type (zN b), data := .fields #[.ref l1, .int 0 0] }
abbrev zX2 (b c : Bool) (h : Heap) (l1 l2 : Addr) : Heap := (zX1 b h l1).push { cls := .type (zN c), data := .fields #[.ref l2, .int 0 0] }
abbrev zX3 (b c : Bool) (h : Heap) (l1 l2 : Addr) : Heap := (zX2 b c h l1 l2).push { cls := .type "tuple", data := .seq #[.ref h.objs.size, .ref (zX1 b h l1).objs.size] }
abbrev zX4 (b c : Bool) (h : Heap) (l1 l2 : Addr) : Heap := (zX3 b c h l1 l2).push { cls := .type "tuple", data := .seq #[.none, .none] }
abbrev zX5 (b c : Bool) (h : Heap) (l1 l2 : Addr) : Heap := (zX4 b c h l1 l2).push { cls := .type "zip", data := .fields #[.none, .bool false, .bool false, .ref (zX2 b c h l1 l2).objs.size, .ref (zX3 b c h l1 l2).objs.size] }
theorem meets_zipTL (l1 l2 : Addr) (xs ys : Array Value) :
    Meets (Builtin.«zip.__new__» ⟨[.type "zip", .ref l1, .ref l2], []⟩) (fun _ R s => IsX false s.heap l1 xs ∧ IsX true s.heap l2 ys ∧
      R (.ok (.ret (.ref (zX4 false true s.heap l1 l2).objs.size))) { s with heap := zX5 false true s.heap l1 l2 }) :=
  .of_wp fun prog w A R s h => by
    obtain ⟨hp, g, d, tk, os⟩ := s; obtain ⟨hl1, hl2, h⟩ := h
    have hsub := sub_zip
    have hL1 : Heap.IsTuple (Shared.heap ⟨hp, g, d, tk, os⟩) l1 xs := hl1
    have hL2 : Heap.IsList (Shared.heap ⟨hp.push { cls := .type "tuple_iterator", data := .fields #[.ref l1, .int 0 0] }, g, d, tk, os⟩) l2 ys := Heap.IsList.push hl2 _
    wp_walk using wpAny_pyIter_tuple hL1, wpAny_pyIter_list hL2
    exact ⟨_, rfl, h⟩
theorem meets_zipLT (l1 l2 : Addr) (xs ys : Array Value) :
    Meets (Builtin.«zip.__new__» ⟨[.type "zip", .ref l1, .ref l2], []⟩) (fun _ R s => IsX true s.heap l1 xs ∧ IsX false s.heap l2 ys ∧
      R (.ok (.ret (.ref (zX4 true false s.heap l1 l2).objs.size))) { s with heap := zX5 true false s.heap l1 l2 }) :=
  .of_wp fun prog w A R s h => by
    obtain ⟨hp, g, d, tk, os⟩ := s; obtain ⟨hl1, hl2, h⟩ := h
    have hsub := sub_zip
    have hL1 : Heap.IsList (Shared.heap ⟨hp, g, d, tk, os⟩) l1 xs := hl1
    have hL2 : Heap.IsTuple (Shared.heap ⟨hp.push { cls := .type "list_iterator", data := .fields #[.ref l1, .int 0 0] }, g, d, tk, os⟩) l2 ys := Heap.IsTuple.push hl2 _
    wp_walk using wpAny_pyIter_list hL1, wpAny_pyIter_tuple hL2
    exact ⟨_, rfl, h⟩
theorem meets_zipX (b c : Bool) (l1 l2 : Addr) (xs ys : Array Value) :
    Meets (Builtin.«zip.__new__» ⟨[.type "zip", .ref l1, .ref l2], []⟩) (fun _ R s => IsX b s.heap l1 xs ∧ IsX c s.heap l2 ys ∧
      R (.ok (.ret (.ref (zX4 b c s.heap l1 l2).objs.size))) { s with heap := zX5 b c s.heap l1 l2 }) := by
  cases b <;> cases c
  · exact RZ.meets_zipT_new l1 l2 xs ys
  · exact meets_zipTL l1 l2 xs ys
  · exact meets_zipLT l1 l2 xs ys
  · exact meets_zip_new l1 l2 xs ys
theorem itX_new {b : Bool} {h : Heap} {it l : Addr} (g : h.get? it = some { cls := .type (zN b), data := .fields #[.ref l, .int 0 0] }) : ItX b h it l 0 := by
  cases b
  · exact ⟨_, g, rfl, rfl⟩
  · exact ⟨_, g, rfl, rfl⟩
theorem call_zipX {prog : Program} {w : World} {A : Around} {E : Value → Shared → Prop} {s : Shared} {b c : Bool} {l1 l2 : Addr} {xs ys : Array Value} {Q : Value → Shared → Prop} (hl1 : IsX b s.heap l1 xs) (hl2 : IsX c s.heap l2 ys)
    (h : ∀ h', IsZip h' (s.heap.objs.size + 4) (s.heap.objs.size + 2) (s.heap.objs.size + 3) .none → IsPair h' (s.heap.objs.size + 2) (.ref s.heap.objs.size) (.ref (s.heap.objs.size + 1)) →
      IsPair h' (s.heap.objs.size + 3) .none .none → ItX b h' s.heap.objs.size l1 0 → ItX c h' (s.heap.objs.size + 1) l2 0 →
      (∀ c o, s.heap.get? c = some o → h'.get? c = some o) → Q (.ref (s.heap.objs.size + 4)) { s with heap := h' }) :
    wpAny (model prog w) A (call (.type "zip") [.ref l1, .ref l2]) Q E s := by
  refine callType_new F.called_zip (by decide) (F.typeCall_zip_2 _ _) (F.newCall_zip_2 _ _) (fun obj => F.args_object_init_3 obj _ _) F.entry_zip_new
    (meets_zipX b c l1 l2 xs ys) ⟨hl1, hl2, ?_⟩
  have z1 : (zX1 b s.heap l1).objs.size = s.heap.objs.size + 1 := Heap.size_push ..
  have z2 : (zX2 b c s.heap l1 l2).objs.size = s.heap.objs.size + 2 := by rw [Heap.size_push, z1]
  have z3 : (zX3 b c s.heap l1 l2).objs.size = s.heap.objs.size + 3 := by rw [Heap.size_push, z2]
  have z4 : (zX4 b c s.heap l1 l2).objs.size = s.heap.objs.size + 4 := by rw [Heap.size_push, z3]
  have p5 : ∀ {a o}, (zX4 b c s.heap l1 l2).get? a = some o → (zX5 b c s.heap l1 l2).get? a = some o := fun e => Heap.get?_push_of_some _ e
  have p4 : ∀ {a o}, (zX3 b c s.heap l1 l2).get? a = some o → (zX4 b c s.heap l1 l2).get? a = some o := fun e => Heap.get?_push_of_some _ e
  have p3 : ∀ {a o}, (zX2 b c s.heap l1 l2).get? a = some o → (zX3 b c s.heap l1 l2).get? a = some o := fun e => Heap.get?_push_of_some _ e
  have p2 : ∀ {a o}, (zX1 b s.heap l1).get? a = some o → (zX2 b c s.heap l1 l2).get? a = some o := fun e => Heap.get?_push_of_some _ e
  have p1 : ∀ {a o}, s.heap.get? a = some o → (zX1 b s.heap l1).get? a = some o := fun e => Heap.get?_push_of_some _ e
  have g5 : (zX5 b c s.heap l1 l2).get? (zX4 b c s.heap l1 l2).objs.size = some _ := Heap.get?_push_size _ rfl
  have g4 : (zX5 b c s.heap l1 l2).get? (zX3 b c s.heap l1 l2).objs.size = some _ := p5 (Heap.get?_push_size _ rfl)
  have g3 : (zX5 b c s.heap l1 l2).get? (zX2 b c s.heap l1 l2).objs.size = some _ := p5 (p4 (Heap.get?_push_size _ rfl))
  have g2 : (zX5 b c s.heap l1 l2).get? (zX1 b s.heap l1).objs.size = some _ := p5 (p4 (p3 (Heap.get?_push_size _ rfl)))
  have g1 : (zX5 b c s.heap l1 l2).get? s.heap.objs.size = some _ := p5 (p4 (p3 (p2 (Heap.get?_push_size _ rfl))))
  show _ ∧ _
  rw [z2, z3, z4] at g5
  rw [z1, z2] at g3
  rw [z3] at g4
  rw [z1] at g2
  rw [z4]
  exact ⟨⟨_, g5, rfl⟩, h _ g5 g3 g4 (itX_new g1) (itX_new g2) fun c o x => p5 (p4 (p3 (p2 (p1 x))))⟩
/-- what stands at a, at b, in new pairs -/
def ItzX (K : PySem.W.Frag) (ka kb : Bool) (a b : Addr) : It :=
  ⟨fun i H => ∃ (xs ys : List V) (x y : V), SqX K ka H a xs ∧ SqX K kb H b ys ∧ xs[i]? = some x ∧ ys[i]? = some y,
    fun i H v H' => ∃ T x y, v = .ref T ∧ H T = none ∧ H' = upd H T (.tup [x, y]) ∧ (∀ xs, SqX K ka H a xs → xs[i]? = some x) ∧ ∀ ys, SqX K kb H b ys → ys[i]? = some y,
    fun i H => ∃ xs ys : List V, SqX K ka H a xs ∧ SqX K kb H b ys ∧ (xs.length = i ∨ ys.length = i) ∧ i ≤ xs.length ∧ i ≤ ys.length⟩
theorem seqX {X : Cx} {pins : List (Addr × Obj)} {σ : L2.St} {H : Hp} {s : Shared} {k : Bool} {a : Addr} {xs : List V} (I : Inv X pins σ H s) (h : SqX X.K k H a xs) : ∃ its, Vals xs its ∧ IsX k s.heap a its.toArray ∧ a < s.heap.objs.size := by
  cases k
  · obtain ⟨its, r, p, _⟩ := I.tuple (show SqT X.K H a xs from h)
    obtain ⟨o, e, _⟩ := id p
    exact ⟨its, r, p, Heap.lt_size e⟩
  · obtain ⟨its, r, p, _⟩ := I.list (show SqL X.K H a xs from h)
    exact ⟨its, r, p.isList, p.lt⟩
theorem seqX_inj {X : Cx} {pins : List (Addr × Obj)} {σ : L2.St} {H : Hp} {s : Shared} {k : Bool} {a : Addr} {xs ys : List V} (I : Inv X pins σ H s) (h : SqX X.K k H a xs) (h' : SqX X.K k H a ys) : xs = ys := by
  cases k
  · exact I.tuple_inj h h'
  · exact I.list_inj h h'
theorem sepX {z TI TO i1 i2 a b : Addr} (D : ZipApart z TI TO i1 i2 a b) : ZipSep2 z TI TO i1 i2 [i1, a] [i2, b] where
  TIz := D.TIz
  TOz := D.TOz
  TITO := D.TITO
  TIi1 := D.TIi1
  mem1 := by simp
  zf1 := by simp [D.i1z.symm, D.l1z.symm]
  Tf1 := by simp [D.TOi1, D.l1TO.symm]
  TIi2 := D.TIi2
  mem2 := by simp
  zf2 := by simp [D.i2z.symm, D.l2z.symm]
  Tf2 := by simp [D.TOi2, D.l2TO.symm]
  sep1_2 := by simp [D.i12, D.l2i1.symm]
  sep2_1 := by simp [D.i12.symm, D.l1i2.symm]
theorem turn_zipX {P : Program} {w : World} {K : PySem.W.Frag} {elts : List Expr} {kk : Nat} {tpos : Pos} {ka kb : Bool} {a b z TI TO i1 i2 : Addr} (D : ZipApart z TI TO i1 i2 a b) :
    Turn P w K (.Tuple elts kk tpos) (ItzX K ka kb a b) [z, TI, TO, i1, i2] z (fun i h => IsZip h z TI TO .none ∧ IsPair h TI (.ref i1) (.ref i2) ∧ (∃ x y, IsPair h TO x y) ∧ ItX ka h i1 a i ∧ ItX kb h i2 b i) where
  mem := by simp
  obj := fun i h st c hc => by
    obtain ⟨hz, hTI, ⟨x, y, hTO⟩, h1, h2⟩ := st
    have e' : c = z ∨ c = TI ∨ c = TO ∨ c = i1 ∨ c = i2 := by simpa using hc
    rcases e' with q | q | q | q | q <;> rw [q]
    · exact ⟨_, hz, fun v q => nomatch q⟩
    · exact ⟨_, hTI, fun v q => nomatch q⟩
    · exact ⟨_, hTO, fun v q => nomatch q⟩
    · exact h1.obj
    · exact h2.obj
  keep := fun i h h' st k => by
    obtain ⟨hz, hTI, ⟨x, y, hTO⟩, h1, h2⟩ := st
    exact ⟨k z (by simp) _ hz, k TI (by simp) _ hTI, ⟨x, y, k TO (by simp) _ hTO⟩, h1.at fun o q => k i1 (by simp) o q, h2.at fun o q => k i2 (by simp) o q⟩
  item := by
    intro X hP hw hK hc i pins s σ H E I hf st hg
    subst hP hw hK
    obtain ⟨hz, hTI, ⟨x0, y0, hTO⟩, h1, h2⟩ := st
    obtain ⟨xs, ys, x, y, hqx, hqy, hx, hy⟩ := hg
    obtain ⟨its, rv, p, _⟩ := seqX I hqx
    obtain ⟨its2, rv2, p2, _⟩ := seqX I hqy
    obtain ⟨u, hu, ru⟩ := rv.get hx
    obtain ⟨u2, hu2, ru2⟩ := rv2.get hy
    have hzl : z < s.heap.objs.size := Heap.lt_size hz
    have hh : X.A.in1.handled = none := I.ok.hd hc
    have n1 : i < its.toArray.size := by
      have := (List.getElem?_eq_some_iff.mp hu).1
      simpa using this
    have n2 : i < its2.toArray.size := by
      have := (List.getElem?_eq_some_iff.mp hu2).1
      simpa using this
    refine wpAny_pyNext_zipD2_item (sepX D) (drawsX hh ka i1 a D.l1i1 its.toArray) (drawsX hh kb i2 b D.l2i2 its2.toArray) hz hTI hTO ⟨h1, p⟩ ⟨h2, p2⟩ n1 n2 fun v1 v2 h' tk e1 e2 z' TO' h1' h2' hT hsz hk => ?_
    have e1 : its.toArray[i]? = some v1 := e1
    have e2 : its2.toArray[i]? = some v2 := e2
    rw [List.getElem?_toArray, hu] at e1
    rw [List.getElem?_toArray, hu2] at e2
    cases e1
    cases e2
    refine ⟨_, rfl, wpAny_letOwnedTupleGo_zip (s := { s with heap := h', toks := tk }) z' fun h'' z'' sb => ?_⟩
    have hT2 : h''.get? s.heap.objs.size = some { cls := .type "tuple", data := .seq #[u, u2] } := (sb.2 _ (Nat.ne_of_gt hzl)).trans hT
    have new : ObjOk X.prog X.w (upd H s.heap.objs.size (.tup [x, y])) h'' s.heap.objs.size (.tup [x, y]) :=
      ⟨by show 2 ≤ sizeLine; decide, [u, u2], .cons ru (.cons ru2 .nil), ⟨_, hT2, rfl, _, rfl⟩⟩
    have I1 : Inv X pins σ (upd H s.heap.objs.size (.tup [x, y])) { s with heap := h'', toks := tk } :=
      I.turnedNew (t' := tk) (ch := [z, TI, TO, i1, i2]) (fun c o hb q => (sb.2 c (fun q' => hb (by simp [q']))).trans (hk c o (fun q' => hb (by simp [q'])) (fun q' => hb (by simp [q'])) (fun q' => hb (by simp [q'])) (fun q' => hb (by simp [q'])) q)) hf (Nat.le_refl _) new
    refine ⟨.ref s.heap.objs.size, _, I1, rfl, ⟨_, x, y, rfl, I.hok.fresh (Nat.le_refl _), rfl, fun l hl => by rw [seqX_inj I hl hqx]; exact hx, fun l hl => by rw [seqX_inj I hl hqy]; exact hy⟩, ⟨z'', ?_, ⟨u, u2, ?_⟩, ?_, ?_⟩, fun c hcm => ?_⟩
    · exact (sb.2 _ D.TIz).trans (hk _ _ D.TIz D.TITO D.TIi1 D.TIi2 hTI)
    · exact (sb.2 _ D.TOz).trans TO'
    · exact h1'.1.at fun o q => (sb.2 _ D.i1z).trans q
    · exact h2'.1.at fun o q => (sb.2 _ D.i2z).trans q
    · have hlt : c < s.heap.objs.size := by
        have e' : c = z ∨ c = TI ∨ c = TO ∨ c = i1 ∨ c = i2 := by simpa using hcm
        rcases e' with q | q | q | q | q <;> rw [q]
        · exact hzl
        · exact Heap.lt_size hTI
        · exact Heap.lt_size hTO
        · obtain ⟨_, e1, _⟩ := h1.obj; exact Heap.lt_size e1
        · obtain ⟨_, e2, _⟩ := h2.obj; exact Heap.lt_size e2
      rw [upd_ne (Nat.ne_of_lt hlt)]
      exact (hf c hcm).1
  done := by
    intro X hP hw hK hc i pins s σ H E I hf st hg
    subst hP hw hK
    obtain ⟨hz, hTI, ⟨x0, y0, hTO⟩, h1, h2⟩ := st
    obtain ⟨xs, ys, hqx, hqy, hend, l1, l2⟩ := hg
    obtain ⟨its, rv, p, _⟩ := seqX I hqx
    obtain ⟨its2, rv2, p2, _⟩ := seqX I hqy
    have e1 : its.toArray.size = xs.length := by rw [rv.length]; simp
    have e2 : its2.toArray.size = ys.length := by rw [rv2.length]; simp
    have hh : X.A.in1.handled = none := I.ok.hd hc
    exact wpAny_pyNext_zipD2_end (sepX D) (drawsX hh ka i1 a D.l1i1 its.toArray) (drawsX hh kb i2 b D.l2i2 its2.toArray) hz hTI hTO ⟨h1, p⟩ ⟨h2, p2⟩ (by omega) (by omega) (by omega) fun h' tk hk => ⟨rfl, I.turnedL (t' := tk) (ch := [z, TI, TO, i1, i2]) (fun c o hb q =>
      hk c o (fun q' => hb (by simp [q'])) (fun q' => hb (by simp [q'])) (fun q' => hb (by simp [q'])) (fun q' => hb (by simp [q'])) q) hf⟩
  self := fun A i s Q E st h => wpAny_pyIter_zip st.1 h
def iZipX (K : PySem.W.Frag) (ta : TA) : TI := fun σ H R => ta σ H fun vs H1 => ∃ ka kb a b xs ys, vs = [.ref a, .ref b] ∧ SqX K ka H1 a xs ∧ SqX K kb H1 b ys ∧ R (ItzX K ka kb a b) H1
theorem pi_zipX {X : Cx} {e e2 : Expr} {ta : TA} {p pos tpos : Pos} {elts : List Expr} {kk : Nat} (hg : Gl X "zip") (hm : X.mg "zip" = none) (ha : PA X [e, e2] ta)
    (hs : starEach [e, e2] X.env = (false, eval e X.env) :: starEach [e2] X.env) (hpl : (backTo pos (starEach [e2] X.env)).any (·.1) = false) :
    PI X (.Tuple elts kk tpos) (.Call (.Name "zip" p) [e, e2] [] pos) (iZipX X.K ta) := by
  refine ⟨fun pins s σ H R I h => ?_⟩
  refine PyProof.Rows.Call_ (ld_blt I hg hm PyProof.Rows.boot_zip (PyProof.Rows.callWith_type1 (thn (ha.run pos pins s σ H _ I h) fun us s1 ⟨vs, H1, I1, r1, q1⟩ => ?_) hs hpl))
  obtain ⟨ka, kb, a, b, xs, ys, rfl, hqx, hqy, q⟩ := q1
  cases r1 with
  | cons r rr =>
    cases rr with
    | cons r' rr =>
      cases rr
      cases r
      cases r'
      obtain ⟨its, rv, p1, la⟩ := seqX I1 hqx
      obtain ⟨its2, rv2, p2, lb⟩ := seqX I1 hqy
      refine call_zipX p1 p2 fun h' hz hTI hTO h1 h2 hk => wpAny_pyIter_zip hz ?_
      have I2 : Inv X pins σ H1 { s1 with heap := h' } := I1.kept (t' := s1.toks) hk
      refine ⟨s1.heap.objs.size + 4, [s1.heap.objs.size + 4, s1.heap.objs.size + 2, s1.heap.objs.size + 3, s1.heap.objs.size, s1.heap.objs.size + 1], _, _, H1, rfl, I2, turn_zipX (PySem.W.ktu_apart s1.heap.objs.size a b la lb), ⟨hz, hTI, ⟨_, _, hTO⟩, h1, h2⟩, fun c hcm => ?_, q⟩
      have hle : s1.heap.objs.size ≤ c := by
        have e' : c = s1.heap.objs.size + 4 ∨ c = s1.heap.objs.size + 2 ∨ c = s1.heap.objs.size + 3 ∨ c = s1.heap.objs.size ∨ c = s1.heap.objs.size + 1 := by simpa using hcm
        rcases e' with z | z | z | z | z <;> rw [z]
        · exact Nat.le_add_right _ _
        · exact Nat.le_add_right _ _
        · exact Nat.le_add_right _ _
        · exact Nat.le_refl _
        · exact Nat.le_add_right _ _
      exact I1.fpOk hle (I1.hok.fresh hle)
/-! ### over data -/
def zipD : List D → List D → List D
  | x :: xs, y :: ys => .tup [x, y] :: zipD xs ys
  | _, _ => []
theorem zipD_len : ∀ {xs ys : List D}, (zipD xs ys).length = min xs.length ys.length
  | [], _ => by simp [zipD]
  | _ :: _, [] => by simp [zipD]
  | x :: xs, y :: ys => by
    have := zipD_len (xs := xs) (ys := ys)
    simp only [zipD, List.length_cons, this]
    omega
theorem zipD_get : ∀ {xs ys : List D} {i : Nat} {d : D}, (zipD xs ys)[i]? = some d → ∃ x y, d = .tup [x, y] ∧ xs[i]? = some x ∧ ys[i]? = some y
  | [], _, _, _, e => by simp [zipD] at e
  | _ :: _, [], _, _, e => by simp [zipD] at e
  | x :: xs, y :: ys, 0, d, e => by
    simp [zipD] at e
    exact ⟨x, y, e.symm, rfl, rfl⟩
  | x :: xs, y :: ys, i + 1, d, e => by
    obtain ⟨a, b, h⟩ := zipD_get (i := i) (d := d) (by simpa [zipD] using e)
    exact ⟨a, b, by simpa using h⟩
theorem wk_zip {K : PySem.W.Frag} {mg : Str → Option Value} {G : Wd → Hp → Prop} {ka kb : Bool} {a b : Addr} {xs ys : List V} {ds es : List D} (h : ∀ W H, G W H → (SqX K ka H a xs ∧ RepL K mg W xs ds) ∧ SqX K kb H b ys ∧ RepL K mg W ys es) : Wk K mg G (ItzX K ka kb a b) (zipD ds es) where
  go := fun W H i g hi => by
    obtain ⟨⟨e, r⟩, e', r'⟩ := h W H g
    rw [zipD_len] at hi
    have l1 : i < xs.length := by rw [r.length]; omega
    have l2 : i < ys.length := by rw [r'.length]; omega
    exact ⟨xs, ys, xs[i], ys[i], e, e', List.getElem?_eq_getElem l1, List.getElem?_eq_getElem l2⟩
  stop := fun W H i g hi => by
    obtain ⟨⟨e, r⟩, e', r'⟩ := h W H g
    rw [zipD_len] at hi
    have l1 := r.length
    have l2 := r'.length
    exact ⟨xs, ys, e, e', by omega, by omega, by omega⟩
  yld := fun W H i x H' d g w hd y => by
    obtain ⟨T, u, v, rfl, hT, rfl, f1, f2⟩ := y
    obtain ⟨⟨e, r⟩, e', r'⟩ := h W H g
    obtain ⟨d1, d2, rfl, h1, h2⟩ := zipD_get hd
    obtain ⟨u1, k1, r1⟩ := r.get h1
    obtain ⟨u2, k2, r2⟩ := r'.get h2
    have := f1 xs e
    rw [k1] at this; cases this
    have := f2 ys e'
    rw [k2] at this; cases this
    have s2 := Stp.laid w hT (.tup [u, v])
    exact ⟨_, s2, .tup (.inl (.inl (by show upd W.F T _ T = _; rw [upd_same]))) (.cons (r1.le s2.le) (.cons (r2.le s2.le) .nil))⟩
def seqOf : D → Option (List D)
  | .lst xs => some xs
  | .tup xs => some xs
  | _ => none
@[reducible] def wZip (wa : Sl → (List D → Prop) → Prop) : Sl → (List D → Prop) → Prop := fun δ q => wa δ fun ds => match ds with
  | [a, b] => ∃ xs ys, seqOf a = some xs ∧ seqOf b = some ys ∧ q (zipD xs ys)
  | _ => False
theorem rep_seq {K : PySem.W.Frag} {mg : Str → Option Value} {W : Wd} {v : V} {d : D} {ds : List D} (r : Rep K mg W v d) (h : seqOf d = some ds) : ∃ k a xs, v = .ref a ∧ SqX K k W.F a xs ∧ RepL K mg W xs ds := by
  cases r <;> simp [seqOf] at h
  · subst h
    rename_i a xs ds e r
    exact ⟨false, _, _, rfl, e, r⟩
  · subst h
    rename_i a xs ds e r
    exact ⟨true, _, _, rfl, SqL.of e, r⟩
theorem SqX.same {K : PySem.W.Frag} {k : Bool} {H H' : Hp} {a : Addr} {xs : List V} (e : Same H H') (h : SqX K k H a xs) : SqX K k H' a xs := by
  cases k
  · exact Same.seqT e (show SqT K H a xs from h)
  · exact e.seq (show SqL K H a xs from h)
theorem repM_f {K : PySem.W.Frag} {mg : Str → Option Value} {W : Wd} {H : Hp} {v : V} {d : D} (r : RepM K mg false W H v d) : Rep K mg W v d := by simpa [RepM] using r
theorem di_zip {X : Cx} {n : N0} {e e2 : Expr} {p pos tpos : Pos} {elts : List Expr} {kk : Nat} {wa : Sl → (List D → Prop) → Prop} (hg : Gl X "zip") (hm : X.mg "zip" = none) (ha : PA X [e, e2] (cA X.K X.mg n [false, false] wa))
    (hs : starEach [e, e2] X.env = (false, eval e X.env) :: starEach [e2] X.env) (hpl : (backTo pos (starEach [e2] X.env)).any (·.1) = false) :
    PI X (.Tuple elts kk tpos) (.Call (.Name "zip" p) [e, e2] [] pos) (cI X.K X.mg n true (wZip wa)) := by
  refine PI.imp (pi_zipX hg hm ha hs hpl) fun σ H R ⟨W, δ, q, st, sp, hw, k⟩ => ⟨W, δ, _, st, sp, hw, fun W1 H1 vs ds s r hq => ?_⟩
  cases r with
  | cons r1 r =>
    cases r with
    | cons r2 r =>
      cases r
      obtain ⟨xs, ys, h1, h2, hq⟩ := hq
      have r1 := repM_f r1
      have r2 := repM_f r2
      obtain ⟨ka, a, us, rfl, e1, l1⟩ := rep_seq r1 h1
      obtain ⟨kb, b, ws, rfl, e2, l2⟩ := rep_seq r2 h2
      refine ⟨ka, kb, a, b, us, ws, rfl, e1.same s.ok.sub, e2.same s.ok.sub, k W1 H1 _ _ s ?_ hq⟩
      rw [if_pos rfl]
      exact wk_zip fun W' H' g => ⟨⟨e1.same (g.le.F.trans g.ok.sub), l1.le g.le⟩, e2.same (g.le.F.trans g.ok.sub), l2.le g.le⟩
end TT

set_option Elab.async false
set_option linter.all false
set_option maxRecDepth 100000
set_option autoImplicit false
/-! for .. in x, x an own list that stands as it is through the loop. -/
namespace TT
open PySem PySem.Spec L2
def forP (i : Nat) (a : Addr) (l : List D) (t : Tg) (b : Kn → Sl → Prop) (k : Kn) : List D → Sl → Prop
  | [], δ => δ.getD i none = some (.pin a (.lst l)) ∧ k.nx (δ.set i (some (.own (.lst l))))
  | d :: ds, δ => δ.getD i none = some (.pin a (.lst l)) ∧ tgD t d δ fun δ' => b { nx := forP i a l t b k ds, ct := forP i a l t b k ds, bk := fun _ => False, rt := k.rt } δ'
@[reducible] def swForP (i : Nat) (t : Tg) (b : Kn → Sl → Prop) : Kn → Sl → Prop := fun k δ => match δ.getD i none with
  | some (.own (.lst l)) => ∀ a : Addr, forP i a l t b k l (δ.set i (some (.pin a (.lst l))))
  | _ => False
section
variable {K : PySem.W.Frag} {mg : Str → Option Value} {n : N0} {W : Wd} {H : Hp} {σ : L2.St} {δ : Sl} {i : Nat} {l : List D}
theorem getD_some {dv : DV} (h : δ.getD i none = some dv) : δ[i]? = some (some dv) := by
  rw [List.getD_eq_getElem?_getD] at h
  cases e : δ[i]? with
  | none => rw [e] at h; cases h
  | some o => rw [e] at h; cases h; rfl
/-- one slot told otherwise, its owner as it was -/
theorem Sto.retell {dw : DV} {ow : Nat → Option Addr} (hl : σ.length = δ.length) (h1 : ∀ i dv, δ[i]? = some (some dv) → ∃ v, σ[i]? = some (some v) ∧ SRep K mg n W H v (ow i) dv) (h2 : ∀ i j a, ow i = some a → ow j = some a → i = j) (h3 : ∀ i a, ow i = some a → n.2 a = none ∧ NTup (H a) ∧ Loose W a)
    (hw : ∃ v, σ[i]? = some (some v) ∧ SRep K mg n W H v (ow i) dw) : Sto K mg n W H σ (δ.set i (some dw)) := by
  refine ⟨by rw [List.length_set, hl], ow, fun j dv e => ?_, h2, h3⟩
  by_cases hj : j = i
  · subst hj
    have hlt : j < δ.length := by
      have := (List.getElem?_eq_some_iff.mp e).1
      rwa [List.length_set] at this
    rw [List.getElem?_set_self hlt] at e
    cases e
    exact hw
  · rw [List.getElem?_set_ne (Ne.symm hj)] at e
    exact h1 j dv e
theorem Sto.pin (st : Sto K mg n W H σ δ) (hi : δ[i]? = some (some (.own (.lst l)))) : ∃ a xs, σ[i]? = some (some (.ref a)) ∧ H a = some (.lst xs) ∧ RepL K mg W xs l ∧ Sto K mg n W H σ (δ.set i (some (.pin a (.lst l)))) := by
  obtain ⟨hl, ow, h1, h2, h3⟩ := st
  obtain ⟨v, e1, a, ea, rfl, xs, e2, r⟩ := h1 i _ hi
  exact ⟨a, xs, e1, e2, r, Sto.retell hl h1 h2 h3 ⟨_, e1, ea, rfl, xs, e2, r⟩⟩
theorem Sto.pinned {a : Addr} (st : Sto K mg n W H σ δ) (hi : δ[i]? = some (some (.pin a (.lst l)))) : ∃ xs, H a = some (.lst xs) ∧ RepL K mg W xs l ∧ Sto K mg n W H σ (δ.set i (some (.own (.lst l)))) := by
  obtain ⟨hl, ow, h1, h2, h3⟩ := st
  obtain ⟨v, e1, ea, rfl, xs, e2, r⟩ := h1 i _ hi
  exact ⟨xs, e2, r, Sto.retell hl h1 h2 h3 ⟨_, e1, a, ea, rfl, xs, e2, r⟩⟩
end
section
variable {X : Cx} {n : N0} {tg : Expr} {body : List Stmt} {pos p : Pos}
theorem ds_forP {i : Nat} {x : Str} {t : Tg} {b : Kn → Sl → Prop} (hp : PassesOwn (model X.prog X.w) X.A X.env X.xe) (hc : X.calm = true) (hN : X.N[i]? = some x) (hv : Vis X.env.scope x) (hd : (x == ("__debug__" : Str)) = false) (hcd : (x == ("__classdict__" : Str)) = false) (hg : PG X tg (cG X.K X.mg n t.slots (tgD t))) (hb : PSs X body (cS X.K X.mg n b)) :
    PS X (.For tg (.Name x p) body [] pos) (cS X.K X.mg n (swForP i t b)) := by
  refine PS.imp (ps_for hp hc (pi_seq (pe_var (pos := p) hN hv hd hcd)) hg hb (fun _ => rfl)) fun D σ H ⟨W, δ, k, st, sp, hw, g⟩ => ?_
  unfold swForP at hw
  cases hi : δ.getD i none with
  | none => rw [hi] at hw; exact hw.elim
  | some dv =>
    rw [hi] at hw
    cases dv with
    | own d =>
      cases d with
      | lst l =>
        obtain ⟨a, xs, e1, e2, r, st1⟩ := st.pin (getD_some hi)
        have hw := hw a
        refine ⟨_, e1, a, rfl, .inl ⟨⟨xs, SqL.of e2⟩, fun j m σ H => m = l.length - j ∧ j ≤ l.length ∧ ∃ W' δ, W.le W' ∧ Stp n.1 n.2 W' H ∧ Sto X.K X.mg n W' H σ δ ∧ forP i a l t b k (l.drop j) δ, ⟨l.length, rfl, Nat.zero_le _, W, _, .refl _, sp, st1, hw⟩, ?_⟩⟩
        rintro j m σ2 H2 ⟨rfl, hj, W2, δ2, l2, sp2, st2, h2⟩
        have pinAt : δ2.getD i none = some (.pin a (.lst l)) := by
          cases e : l.drop j with
          | nil => rw [e] at h2; exact h2.1
          | cons d ds => rw [e] at h2; exact h2.1
        obtain ⟨ys, q1, q2, st3⟩ := st2.pinned (getD_some pinAt)
        have wk : Wk X.K X.mg (fun W H => W = W2 ∧ H = H2) (Itl X.K a) l := wk_lst fun W' H' ⟨e3, e4⟩ => by subst e3 e4; exact ⟨q1, q2⟩
        by_cases hlt : j < l.length
        · rw [List.drop_eq_getElem_cons hlt] at h2
          refine .inr ⟨wk.go W2 H2 j ⟨rfl, rfl⟩ hlt, fun σ' H' => ∃ W' δ, W.le W' ∧ Stp n.1 n.2 W' H' ∧ Sto X.K X.mg n W' H' σ' δ ∧ forP i a l t b k (l.drop (j + 1)) δ, fun σ' H' h => ⟨_, Nat.sub_lt_sub_left hlt (Nat.lt_succ_self j), rfl, hlt, h⟩, fun x H3 y => ?_⟩
          obtain ⟨W3, s3, r3⟩ := wk.yld W2 H2 j x H3 l[j] ⟨rfl, rfl⟩ sp2.ok (List.getElem?_eq_getElem hlt) y
          refine ⟨W3, δ2, l[j], _, st2.step s3, sp2.trans s3, r3, h2.2, fun σ' δ' mv _ h' => ⟨W3, δ', _, mv W3 _ (.refl W3) (sp2.trans s3) (st2.step s3), sp2.trans s3, h', ?_, ?_, ?_, g.rt⟩⟩
          · exact fun W' H' σ' δ' l' s' t' h => ⟨W', δ', (l2.trans s3.le).trans l', s', t', h⟩
          · exact fun W' H' σ' δ' l' s' t' h => h.elim
          · exact fun W' H' σ' δ' l' s' t' h => ⟨W', δ', (l2.trans s3.le).trans l', s', t', h⟩
        · have e : j = l.length := by omega
          subst e
          rw [List.drop_length] at h2
          exact .inl ⟨wk.stop W2 H2 _ ⟨rfl, rfl⟩ rfl, g.nx W2 H2 σ2 _ l2 sp2 st3 h2.2⟩
      | _ => exact hw.elim
    | _ => exact hw.elim
end
end TT

set_option Elab.async false
set_option linter.all false
set_option maxRecDepth 100000
set_option autoImplicit false
namespace TT
open PySem PySem.Spec L2

/-! ### *a, b = a tuple -/
section
open PySem.Calls PySem.W PyProof.Rows
theorem star_two {prog : Program} {w : World} {A : Around} {E : Value → Shared → Prop} {s : Shared} {l : Addr} {items : Array Value} {Q : List Value → Shared → Prop} (hl : IsTup s.heap l items) (hh : A.handled = none) (hn : 1 ≤ items.size) (hz : items.size ≤ sizeLine)
    (h : ∀ (h' : Heap) (tk : Nat), (∀ b o, s.heap.get? b = some o → h'.get? b = some o) → Q ([.ref h'.objs.size] ++ items.toList.drop (items.size - 1)) { s with heap := h'.push { cls := .type "list", data := .seq (items.toList.take (items.size - 1)).toArray }, toks := tk }) :
    wpAny (model prog w) A (unpackItems (.ref l) 2 (some 0)) Q E s := by
  have hlt : l ≠ s.heap.objs.size := by obtain ⟨o, ho, _⟩ := hl; exact Nat.ne_of_lt (Heap.lt_size ho)
  have hll : l < s.heap.objs.size := by obtain ⟨o, ho, _⟩ := hl; exact Heap.lt_size ho
  have hd : items.toList.length = items.size := Array.length_toList
  unfold unpackItems notIterableAtAll
  refine wpAny_bind (wpAny_bind (wpAny_specialOf hl.typeIs slot_tuple_iter.lookup (wpAny_pure ?_)))
  simp only [Bool.false_eq_true, if_false]
  refine wpAny_bind (wpAny_holding (iter_tuple hl ?_))
  refine wpAny_bind (wpAny_holding (wpAny_pure ?_))
  rw [if_neg (show ¬ (([] : List Value).length < 0) by simp)]
  refine wpAny_bind (wpAny_holding (kun_collect (T := "tuple_iterator") (.inr (.inr (.inr rfl))) (Walks.tuple (A := A.in1) hh s.heap.objs.size l hlt items) (fun j u st => st.1.typeIs) (k := 0) (Nat.zero_le _) ⟨⟨_, Heap.get?_push_size _ rfl, rfl, rfl⟩, hl.push _⟩ ?_ ?_ (fun h₂ tk hk => ?_) hz))
  · show s.heap.objs.size < _
    exact Heap.lt_size (Heap.get?_push_size _ rfl)
  · obtain ⟨o, ho, _⟩ := hl.push { cls := .type "tuple_iterator", data := .fields #[.ref l, .int 0 0] }
    exact Heap.lt_size ho
  rw [List.drop_zero]
  rw [if_neg (show ¬ (items.toList.length < 2 - 1 - 0) by rw [hd]; omega)]
  rw [hd]
  refine wpAny_bind (wpAny_newList (wpAny_pure ?_) (Nat.le_trans (List.length_take_le _ _) (Nat.le_trans (Nat.sub_le _ _) hz)))
  exact h h₂ tk fun b o e => hk b o (Nat.ne_of_lt (Heap.lt_size e)) (Heap.get?_push_of_some _ e)
end
/-- first slot: a new list of all but the last; second slot: the last -/
def gStar (K : PySem.W.Frag) (i j : Nat) : TG := fun v σ H Q => ∃ a xs z, v = .ref a ∧ SqT K H a (xs ++ [z]) ∧ ∀ p, H p = none → Q ((σ.set i (some (.ref p))).set j (some z)) (upd H p (.lst xs))
section
variable {X : Cx} {n : N0} {p p1 p2 p3 : Pos}
theorem pg_star {i j : Nat} {x y : Str} {k : Nat} (hc : X.calm = true) (hN : X.N.Nodup) (hi : X.N[i]? = some x) (hx : Loc X.env.scope x) (hfx : X.fn x = true) (hj : X.N[j]? = some y) (hy : Loc X.env.scope y) (hfy : X.fn y = true) :
    PG X (.Tuple [.Starred (.Name x p) p1, .Name y p2] k p3) (gStar X.K i j) := by
  refine ⟨fun pins s σ H v u Q I r hw => ?_⟩
  obtain ⟨a, xs, z, rfl, hq, hw⟩ := hw
  cases r
  obtain ⟨its, rv, ht, hz⟩ := I.tuple hq
  have hl := rv.length
  rw [List.length_append, List.length_singleton] at hl
  have hs : its.toArray.size = its.length := by simp
  rw [PyProof.Rows.assign_Tuple]
  refine wpAny_bind (wpAny_standAt ?_)
  unfold unpack
  refine wpAny_bind (wpAny_holding (star_two ht (I.ok.hd hc) (by omega) (by rw [hs, ← hl]; simpa using hz) fun h' tk hk => ?_))
  have I1 : Inv X pins σ H { s with heap := h', toks := tk } := I.kept hk
  have hf : H h'.objs.size = none := I1.hok.fresh (Nat.le_refl _)
  have e1 : its.toArray.toList = its := by simp
  rw [e1, hs]
  have hk1 : its.length - 1 = xs.length := by omega
  rw [hk1]
  have r1 : Vals xs (its.take xs.length) := by have := rv.take xs.length; rwa [List.take_left'] at this; rfl
  have r2 : Vals [z] (its.drop xs.length) := by have := rv.drop xs.length; rwa [List.drop_left'] at this; rfl
  have z1 : xs.length ≤ sizeLine := by have := hz; rw [List.length_append] at this; omega
  have I2 : Inv X pins σ (upd H h'.objs.size (.lst xs)) { s with heap := h'.push { cls := .type "list", data := .seq (its.take xs.length).toArray }, toks := tk } :=
    I1.laid (t' := tk) (fun b u e => Heap.get?_push_of_some _ e) (Nat.le_refl _) ⟨z1, _, 0, r1, Heap.get?_push_size _ rfl⟩
  have gg := pgs_cons (pg_name (pos := p) hN hi hx (.inl hfx)) (pgs_cons (pg_name (pos := p2) hN hj hy (.inl hfy)) pgs_nil)
  exact gg.run pins _ σ _ (.ref h'.objs.size :: [z]) _ Q I2 (.cons rfl r2) ⟨_, _, rfl, ⟨_, _, rfl, ⟨rfl, hw _ hf⟩⟩⟩
end
end TT

set_option Elab.async false
set_option linter.all false
set_option maxRecDepth 100000
set_option autoImplicit false
/-! set(xs) of a list of numbers; sorted -/
namespace L2
open PySem PySem.Spec PyProof.Rows
section
variable {P : Program} {w : World} {A : Around} {E : Value → Shared → Prop} {s : Shared}
set_option maxRecDepth 100000 in
set_option maxHeartbeats 3200000 in
theorem call_set_lstI {l : Addr} {items : Array Value} (ns : List Int) {Q : Value → Shared → Prop} (hh : A.handled = none) (hl : s.heap.IsList l items) (hit : IntsAre items.toList ns) (hb : ns.length + 1 < scanBound)
    (h : ∀ (h' : Heap) (tk c : Nat), SetR w h' s.heap.objs.size (fun j => decide (j ∈ ns)) c → c ≤ ns.length → (∀ b o, s.heap.get? b = some o → h'.get? b = some o) → Q (.ref s.heap.objs.size) { s with heap := h', toks := tk }) :
    wpAny (model P w) A (call (.type "set") [.ref l]) Q E s := by
  have hisz : items.size = ns.length := by
    have q := IntsAre.length hit
    rw [Array.length_toList] at q
    exact q
  obtain ⟨c, tl, hmro⟩ := F.called_set.mro
  have hmade := F.called_set.made
  have hsub := F.called_set.sub
  refine wpAny_call (codeAny_of_tree ?_)
  show wpAny _ _ (callAny (.type "set") _) _ _ _
  refine wpAny_pure ⟨Code.quiet_builtin _ (by decide +kernel), codeAny_builtin F.entry_type_call ?_⟩
  rw [Around.under_plain (weight_type_call_type "set" [.ref l] []) rfl]
  have h1 := F.called_set.notType
  have h2 := F.called_set.canCreate
  have hct := F.typeCall_set_1 (.ref l)
  repeat (any_goals (first | assumption | wp_step))

  refine codeAny_mono (code_set_led1 (.ref l) (E := E) (Q₁ := fun obj s₁ => obj = .ref s.heap.objs.size ∧ s₁ = { s with heap := s.heap.push { cls := .type "set", dict := none, data := .set #[] 0 (.fresh 0 0 (!w.params.followText "set-order")) } }) ⟨rfl, rfl⟩) fun r s₁ hr => ?_
  cases r with
  | error e => exact hr
  | ok fl =>
    cases fl with
    | ret obj =>
      obtain ⟨rfl, rfl⟩ := hr
      have hS : (s.heap.push { cls := .type "set", dict := none, data := .set #[] 0 (.fresh 0 0 (!w.params.followText "set-order")) }).get? s.heap.objs.size = some { cls := .type "set", dict := none, data := .set #[] 0 (.fresh 0 0 (!w.params.followText "set-order")) } := Heap.get?_push_size _ rfl
      have hT : Shared.TypeIs { s with heap := s.heap.push { cls := .type "set", dict := none, data := .set #[] 0 (.fresh 0 0 (!w.params.followText "set-order")) } } (.ref s.heap.objs.size) "set" := ⟨_, hS, rfl⟩
      have hli := F.called_set.init.lookup
      have hbi := F.called_set.init.bind (.ref s.heap.objs.size)
      repeat (any_goals (first | assumption | wp_step))

      refine codeAny_mono (codeAny_call_builtin (R := wants (fun r s₂ => r = .none ∧ ∃ h' tk c, s₂ = { s with heap := h', toks := tk } ∧ SetR w h' s.heap.objs.size (fun j => decide (j ∈ ns)) c ∧ c ≤ ns.length ∧
          (∀ b o, s.heap.get? b = some o → h'.get? b = some o)) E) F.called_set.init.plain F.entry_set_init (check_set_init_1 hT ?_)) fun r₂ s₂ hr₂ => ?_
      · obtain ⟨ol, hol, hcl, nl, hdl⟩ := hl
        obtain ⟨ocls, odict, odata, oslots⟩ := ol
        simp only at hcl hdl
        subst hcl; subst hdl
        have hol' : (s.heap.push { cls := .type "set", dict := none, data := .set #[] 0 (.fresh 0 0 (!w.params.followText "set-order")) }).get? l = some { cls := .type "list", dict := odict, data := .seq items nl, slots := oslots } := Heap.get?_push_of_some _ hol
        have hsls := F.sub_list_set
        have hslf := F.sub_list_frozenset
        have hne : (Value.type "list" == Value.type "dict") = false := by decide
        have hl1 : (s.heap.push { cls := .type "set", dict := none, data := .set #[] 0 (.fresh 0 0 (!w.params.followText "set-order")) }).IsList l items := ⟨_, hol', rfl, nl, rfl⟩
        unfold Builtin.«set.__init__» noKeywords Builtin.Frozenset.updateFrom
        generalize hPI : pyIter = PI
        wp_walk
        subst hPI

        refine wpAny_pyIter_list hl1 ?_
        refine wpAny_bind (wpAny_runValue ?_)
        have hlS : l < s.heap.objs.size := Heap.lt_size hol
        have hh3 : A.in1.in1.in1.handled = none := by simp [hh]
        have hz1 : (s.heap.push { cls := .type "set", dict := none, data := .set #[] 0 (.fresh 0 0 (!w.params.followText "set-order")) }).objs.size = s.heap.objs.size + 1 := Heap.size_push ..
        have hneI : l ≠ (s.heap.push { cls := .type "set", dict := none, data := .set #[] 0 (.fresh 0 0 (!w.params.followText "set-order")) }).objs.size := by
          rw [Heap.size_push]; exact Nat.ne_of_lt (Nat.lt_succ_of_lt hlS)
        have hSf : s.heap.objs.size ∉ [(s.heap.push { cls := .type "set", dict := none, data := .set #[] 0 (.fresh 0 0 (!w.params.followText "set-order")) }).objs.size, l] := by
          rw [Heap.size_push]; simp only [List.mem_cons, List.mem_singleton, List.not_mem_nil, or_false, not_or]
          exact ⟨Nat.ne_of_lt (Nat.lt_succ_self _), Nat.ne_of_gt hlS⟩
        have hval : ∀ (i : Nat) (v : Value), items[i]? = some v → ∃ k t, ns[i]? = some k ∧ v = .int k t := fun i v hv => by
          have hi : i < ns.length := by rw [← hisz]; exact (Array.getElem?_eq_some_iff.mp hv).1
          obtain ⟨t, e⟩ := PyProof.Rows.IntsAre.int_at hit i v (by rw [Array.getElem?_toList]; exact hv)
          refine ⟨ns[i], t, List.getElem?_eq_getElem hi, ?_⟩
          rw [e, List.getD_eq_getElem?_getD, List.getElem?_eq_getElem hi] <;> rfl
        refine set_update_ints ((Walks.list hh3 _ l hneI items).toS) s.heap.objs.size
          hSf ns hisz hb hval (items.size - 0) 0 _ (by omega) (Nat.zero_le _)
          ⟨⟨_, Heap.get?_push_size _ rfl, rfl, rfl⟩, (hl1.push _)⟩ ?hS0 ?hR
        case hS0 =>
          have hget : ((s.heap.push { cls := .type "set", dict := none, data := .set #[] 0 (.fresh 0 0 (!w.params.followText "set-order")) }).push { cls := .type "list_iterator", data := .fields #[.ref l, .int 0 0] }).get? s.heap.objs.size
              = some { cls := .type "set", dict := none, data := .set #[] 0 (.fresh 0 0 (!w.params.followText "set-order")) } := Heap.get?_push_of_some _ hS
          exact ⟨0, Nat.le_refl 0, setR_new_at hget⟩
        case hR =>
          intro s' c' hm hc' hS'
          obtain ⟨h', g2, d', tk', os'⟩ := s'
          have eg : g2 = s.gens := hm.gens
          have ed : d' = s.drawn := hm.drawn
          have eo : os' = s.os := hm.os
          subst eg; subst ed; subst eo
          show wpAny _ _ _ _ _ _
          refine wpAny_pure ?_
          show wpAny _ _ (ret Value.none) _ _ _
          rw [hisz] at hc'
          refine wpAny_pure ⟨rfl, h', tk', c', rfl, hS', hc', fun b o e => ?_⟩
          have hb0 : b < s.heap.objs.size := Heap.lt_size e
          have hb1 : b ≠ s.heap.objs.size := Nat.ne_of_lt hb0
          have hb2 : b ≠ (s.heap.push { cls := .type "set", dict := none, data := .set #[] 0 (.fresh 0 0 (!w.params.followText "set-order")) }).objs.size := by
            rw [Heap.size_push]; exact Nat.ne_of_lt (Nat.lt_succ_of_lt hb0)
          exact hm.heap b o (by simp only [List.mem_cons, List.mem_singleton, List.not_mem_nil, or_false, not_or]; exact ⟨hb1, hb2⟩) (Heap.get?_push_of_some _ (Heap.get?_push_of_some _ e))

      · cases r₂ with
        | error e => exact hr₂
        | ok fl₂ =>
          cases fl₂ with
          | ret r =>
            obtain ⟨rfl, h', tk, c', rfl, hS', hc', hk'⟩ := hr₂
            repeat (any_goals (first | assumption | wp_step))
            exact h _ _ _ hS' hc' hk'
          | _ => exact hr₂.elim
    | _ => exact hr.elim

end
end L2

set_option Elab.async false
set_option linter.all false
set_option maxRecDepth 100000
set_option autoImplicit false
namespace TT
open PySem PySem.Spec L2
/-- set(xs), fewer than 64 numbers -/
def rSetI (K : PySem.W.Frag) (w : World) : List V → Hp → VK → Prop := fun xs H Q => ∃ (l : Addr) (ns : List Int), xs = [V.ref l] ∧ SqL K H l (ns.map V.int) ∧ ns.length < 64 ∧ ∀ a c, H a = none → c ≤ ns.length → Q (.ref a) (upd H a (SetO w a (fun j => decide (j ∈ ns)) c))
theorem cr_setI {X : Cx} (hc : X.calm = true) : CallR X (.type "set") (rSetI X.K X.w) := by
  intro pins s σ H xs us Q I r h
  obtain ⟨l, ns, rfl, hl, hf, q⟩ := h
  rw [Vals.ref1 r]
  obtain ⟨its, rv, pl, hz⟩ := I.list hl
  have hn : H s.heap.objs.size = none := I.hok.fresh (Nat.le_refl _)
  have hi := rv.ints
  refine call_set_lstI (P := X.prog) (w := X.w) ns (I.ok.hd hc) pl.isList (by simpa using hi) (by show ns.length + 1 < scanBound; unfold scanBound; omega) fun h' tk c R hcn k => ?_
  exact ⟨.ref s.heap.objs.size, upd H s.heap.objs.size (SetO X.w s.heap.objs.size (fun j => decide (j ∈ ns)) c), I.laid (t' := tk) k (Nat.le_refl _) (setO_new R), rfl, q _ c hn hcn⟩
end TT

set_option Elab.async false
set_option linter.all false
set_option maxRecDepth 100000
set_option autoImplicit false
/-! dicts whose keys are tuples: what this walk needs beyond the library -/
namespace L2
open PySem PySem.Spec PyProof.Rows PySem.W
section
variable {X : Cx} {pins : List (Addr × Obj)} {σ : L2.St} {H : Hp} {s : Shared} {a b : Addr} {ks : List L2.Key}
/-- a tuple of keys, however it came to stand there -/
theorem key_any (I : Inv X pins σ H s) (h : SqT X.K H b (ks.map kV)) : (tupleKind (mixKind X.prog X.w)).is s.heap ks b := by
  obtain ⟨its, rv, ⟨o, ho, hc, n, hd⟩, _⟩ := I.tuple h
  exact ⟨o, its.toArray, n, ho, hc, hd, by simpa using items_are rv⟩
end
/-- d[k] -/
def rIxDT (K : PySem.W.Frag) : R2 := fun x y H Q => ∃ (a b : Addr) (kvs : List (List L2.Key × V)) (ks : List L2.Key) (v : V), x = .ref a ∧ y = .ref b ∧ Rd H a (.dT kvs) ∧ SqT K H b (ks.map kV) ∧ valV kvs ks = some v ∧ Q v H
theorem ix_dictT {X : Cx} (hu : X.A.units + 1 < cLine) : IxR X (rIxDT X.K) := by
  intro value slice pins s σ H x y v u Q I rx ry ⟨a, b, kvs, ks, r, ex, ey, hd, hb, hv, q⟩ hs
  subst ex ey
  cases rx; cases ry
  obtain ⟨_, _, xs, rel, dd⟩ := dt_rd I.hok hd
  have rr := rel.val ks
  rw [hv] at rr
  obtain ⟨w', hw, rw'⟩ := RelO.some_of rr
  obtain ⟨p, hp, rfl⟩ := Option.map_eq_some_iff.mp hw
  exact tail_any dd.typeIs PySem.F.slot_dict_getitem.lookup (wpAny_getItem_heap (tupleKind_room_in1 hu) (key_any I hb) dd hp ⟨r, H, I.tok _, rw', q⟩) hs
/-- k in d, k not in d -/
def rInDT (K : PySem.W.Frag) (neg : Bool) : R2 := fun y x H Q => ∃ (a b : Addr) (kvs : List (List L2.Key × V)) (ks : List L2.Key), x = .ref a ∧ y = .ref b ∧ Rd H a (.dT kvs) ∧ SqT K H b (ks.map kV) ∧ Q (.bl (neg ^^ (valV kvs ks).isSome)) H
theorem op_inDT {X : Cx} (hu : X.A.units + 1 < cLine) (neg : Bool) : OpR X (compareOp (if neg = true then .NotIn else .In)) (rInDT X.K neg) := by
  intro pins s σ H y x u v Q I ry rx ⟨a, b, kvs, ks, ex, ey, hd, hb, q⟩
  subst ex ey
  cases rx; cases ry
  obtain ⟨_, lo, xs, rel, dd⟩ := dt_rd I.hok hd
  have rr := (rel.val ks).isSome_eq
  rw [Option.isSome_map] at rr
  rw [rr] at q
  cases neg with
  | false =>
    rw [if_neg Bool.false_ne_true]
    exact wpAny_in_heap (tupleKind_room_in1 hu) (key_any I hb) lo dd ⟨.bl _, H, I.tok _, rfl, by simpa using q⟩
  | true =>
    rw [if_pos rfl]
    exact wpAny_notIn_heap (tupleKind_room_in1 hu) (key_any I hb) lo dd ⟨.bl _, H, I.tok _, rfl, by simpa using q⟩
/-- d.get(k) -/
def rGetT (K : PySem.W.Frag) : V → List V → Hp → VK → Prop := fun x xs H Q => ∃ (a b : Addr) (kvs : List (List L2.Key × V)) (ks : List L2.Key), x = .ref a ∧ xs = [.ref b] ∧ Rd H a (.dT kvs) ∧ SqT K H b (ks.map kV) ∧ Q ((valV kvs ks).getD .non) H
theorem mt_getT {X : Cx} (hu : X.A.units + 1 < cLine) : MtR X "dict.get" (rGetT X.K) := by
  intro pins s σ H x xs v us Q I rx rxs ⟨a, b, kvs, ks, ex, ey, hd, hb, q⟩
  subst ex ey
  cases rx
  obtain ⟨u1, rfl, r1⟩ := vals1 rxs
  cases r1
  obtain ⟨_, lo, ys, rel, dd⟩ := dt_rd I.hok hd
  exact call_meetsIn PySem.F.slot_dict_get dd.typeIs PySem.F.entry_dict_get (PySem.F.args_dict_get_2 _ _) (meetsH_dict_get (tupleKind (mixKind X.prog X.w)) a b lo)
    ⟨tupleKind_room_in1 hu, ks, ys, key_any I hb, dd, _, H, I.tok _, (rel.val ks).getD (show RelV .non .none from rfl), q⟩
/-- dict(d): keys that hash apart -/
theorem call_dict_of {P : Program} {w : World} {A : Around} {E : Value → Shared → Prop} {s : Shared} {K : Type} [DecidableEq K] {knd : HeapKind P w K} {o : Addr} {more : List (K × Addr × Value)} {Q : Value → Shared → Prop}
    (hu : knd.room A.in1.in1) (hoS : (o == sysModules) = false) (ho : s.heap.DictOfH knd o more) (hsz : more.length ≤ sizeLine) (ht : ∀ x ∈ more, s.TypeIs (.ref x.2.1) "tuple") (hap : (more.map fun x => knd.hash x.1).Nodup) (hk : ∀ x ∈ more, ∀ h' : Heap, (∀ b o, s.heap.get? b = some o → h'.get? b = some o) → knd.is h' x.1 x.2.1)
    (h : ∀ h', h'.DictOfH knd s.heap.objs.size more → (∀ b q, s.heap.get? b = some q → h'.get? b = some q) → Q (.ref s.heap.objs.size) { s with heap := h' }) : wpAny (model P w) A (call (.type "dict") [.ref o]) Q E s := by
  have new := Heap.DictOfH.new (knd := knd) s.heap
  have ho2 : (s.heap.push { cls := .type "dict", data := .dict #[] }).DictOfH knd o more := by
    obtain ⟨ob, es, ep, e1, e2, e3, e4, _, e6⟩ := ho
    exact ⟨ob, es, ep, Heap.get?_push_of_some _ e1, e2, e3, e4, fun x hx => hk x hx _ fun b q e => Heap.get?_push_of_some _ e, e6⟩
  have ne : s.heap.objs.size ≠ o := by
    obtain ⟨_, _, _, e1, _⟩ := ho
    exact (Nat.ne_of_lt (Heap.lt_size e1)).symm
  have nd := ho.nodup
  refine callType_codes (Q₁ := fun obj s₁ => obj = .ref s.heap.objs.size ∧ s₁ = { s with heap := s.heap.push { cls := .type "dict", data := .dict #[] } }) F.kt_called_dict (F.kt_typeCall_dict_1 _) F.entry_dict_init (kt_code_dict_new _ ⟨rfl, rfl⟩) fun obj s₁ z => ?_
  obtain ⟨rfl, rfl⟩ := z
  refine ⟨new.typeIs, F.args_dict_init_2 _ _, ?_⟩
  unfold Builtin.«dict.__init__»
  refine wpAny_bind (show wpAny _ _ (Builtin.Dict.selfAndRest _ _) _ _ _ from ?_)
  unfold Builtin.Dict.selfAndRest
  refine wpAny_bind (wpAny_notOrdered_dict new.typeIs (show wpAny _ _ (pure (s.heap.objs.size, [Value.ref o])) _ _ _ from wpAny_pure ?_))
  refine updateFrom_dictH .none hu ne hoS new ho2 (.inr ⟨fun x hx => ?_, hap⟩) (by simpa using hsz) fun h' d1 _ sb => ?_
  · obtain ⟨ob, e1, e2⟩ := ht x hx
    exact ⟨ob, Heap.get?_push_of_some _ e1, e2⟩
  · rw [storedAllH_nil_of_nodup more nd] at d1
    exact ⟨rfl, h h' d1 fun b q e => (sb.2 b (Nat.ne_of_lt (Heap.lt_size e))).trans (Heap.get?_push_of_some _ e)⟩
/-- the hash of a tuple of whole numbers -/
def tHash (k : List Int) : Int := reduceHash (Builtin.Tuple.tupleHashOf (k.map hashInt))
theorem tHash_eq {P : Program} {w : World} (k : List Int) : (tupleKind (mixKind P w)).hash (k.map Sum.inl) = tHash k := by
  show reduceHash (Builtin.Tuple.tupleHashOf ((k.map Sum.inl).map (mixKind P w).hash)) = _
  rw [List.map_map]
  rfl
/-- dict(d) by values -/
def rDictT (P : Program) (w : World) : List V → Hp → VK → Prop := fun xs H Q => ∃ (a : Addr) (kvs : List (List L2.Key × V)), xs = [.ref a] ∧ Rd H a (.dT kvs) ∧ (kvs.map fun x => (tupleKind (mixKind P w)).hash x.1).Nodup ∧ ∀ p, H p = none → Q (.ref p) (upd H p (.dT kvs))
theorem cr_dictT {X : Cx} (hu : X.A.units + 2 < cLine) : CallR X (.type "dict") (rDictT X.prog X.w) := by
  intro pins s σ H xs us Q I r ⟨a, kvs, ex, hd, hn, q⟩
  subst ex
  obtain ⟨u, rfl, rx⟩ := vals1 r
  cases rx
  obtain ⟨z, lo, ys, rel, dd⟩ := dt_rd I.hok hd
  have em : ys.map (fun x => (tupleKind (mixKind X.prog X.w)).hash x.1) = kvs.map fun x => (tupleKind (mixKind X.prog X.w)).hash x.1 := by
    have go : ∀ {l : List (List L2.Key × V)} {m : List (List L2.Key × Addr × Value)}, KT H l m → m.map (fun x => (tupleKind (mixKind X.prog X.w)).hash x.1) = l.map fun x => (tupleKind (mixKind X.prog X.w)).hash x.1 := by
      intro l m k
      induction k with
      | nil => rfl
      | cons h _ ih => rw [List.map_cons, List.map_cons, ih, h.1]
    exact go rel
  have mem : ∀ x ∈ ys, H x.2.1 = some (.tup (x.1.map kV)) := by
    have go : ∀ {l : List (List L2.Key × V)} {m : List (List L2.Key × Addr × Value)}, KT H l m → ∀ x ∈ m, H x.2.1 = some (.tup (x.1.map kV)) := by
      intro l m k
      induction k with
      | nil => intro x hx; cases hx
      | cons h _ ih =>
        intro x hx
        rcases List.mem_cons.mp hx with rfl | hx
        · rw [← h.1]; exact h.2.1
        · exact ih x hx
    exact go rel
  have at_ : ∀ x ∈ ys, IsTupleKey (mixKind X.prog X.w) s.heap x.1 x.2.1 := fun x hx => key_of I.hok (mem x hx)
  refine call_dict_of (knd := tupleKind (mixKind X.prog X.w)) hu lo dd (by rw [← Paired.length rel]; exact z) (fun x hx => ?_) (by rw [em]; exact hn) (fun x hx h' hh => ?_) fun h' d1 hh => ?_
  · obtain ⟨o, its, n, h1, h2, _⟩ := at_ x hx
    exact ⟨o, h1, h2⟩
  · obtain ⟨o, its, n, h1, h2, h3, h4⟩ := at_ x hx
    exact ⟨o, its, n, hh _ _ h1, h2, h3, h4⟩
  · have fr : H s.heap.objs.size = none := I.hok.fresh (Nat.le_refl _)
    have hm : (s.heap.objs.size == sysModules) = false := beq_eq_false_iff_ne.mpr (Nat.ne_of_gt I.big)
    obtain ⟨o, es, ep, h1, h2, h3, h4, _, h6⟩ := d1
    have kt : KT (upd H s.heap.objs.size (.dT kvs)) kvs ys := rel.keeps fun b zs e => by rw [upd_ne (ne_of_none e fr)]; exact e
    exact ⟨.ref s.heap.objs.size, _, I.laid (o := .dT kvs) (t' := s.toks) hh (Nat.le_refl _) ⟨z, hm, ys, kt, o, es, ep, h1, h2, h3, h4, h6⟩, rfl, q _ fr⟩

/-! what is asked of locked dicts -/
section
variable {K : PySem.W.Frag} {X : Cx} {pins : List (Addr × Obj)} {σ : L2.St} {H : Hp} {s : Shared}
/-- a value's type: a locked dict of tuple keys too -/
inductive TyY (K : PySem.W.Frag) (H : Hp) : V → Value → Prop where
  | x {v : V} {t : Value} (h : TyX K H v t) : TyY K H v t
  | fD {a : Addr} {o : Obj} {kvs : List (List L2.Key × V)} (e : H a = some (.frz o (.dT kvs))) : TyY K H (.ref a) (.type "dict")
theorem kit_ofY {v : V} {u t : Value} (I : Inv X pins σ H s) (rx : RelV v u) (ty : TyY X.K H v t) : ∃ P : Heap → Prop, PySem.W.KitX X.K u t P ∧ P s.heap ∧ u ≠ .builtin "__main__.__loader__#opaque" := by
  cases ty with
  | x h => exact kit_of I rx h
  | @fD a o kvs e =>
    cases (show u = Value.ref a from rx)
    obtain ⟨hs, hgd, hx, _⟩ := I.frzT e
    exact ⟨_, PySem.W.kitx_dict, ⟨o, hgd, hx.1⟩, fun z => nomatch z⟩
def rIsiY (K : PySem.W.Frag) : List V → Hp → VK → Prop := fun xs H Q => ∃ (x c : V) (t u : Value) (b : Bool), xs = [x, c] ∧ ClsV c u ∧ TyY K H x t ∧ PySem.W.kitOne K t u = some b ∧ Q (.bl b) H
def rIsiTY (K : PySem.W.Frag) : List V → Hp → VK → Prop := fun xs H Q => ∃ (x : V) (tp : Addr) (cs : List V) (t : Value) (us : List Value) (b : Bool), xs = [x, .ref tp] ∧ H tp = some (.tup cs) ∧ Paired ClsV cs us ∧ TyY K H x t ∧ PySem.W.kitAny K t us = some b ∧ Q (.bl b) H
theorem call_isiY : CallR X (.builtin "isinstance") (rIsiY X.K) := by
  intro pins s σ H xs us Q I r h
  obtain ⟨x, c, t, u, b, rfl, k, ty, e, q⟩ := h
  obtain ⟨u1, u2, rfl, r1, r2⟩ := vals2 r
  have e2 := k.eq r2
  subst e2
  obtain ⟨P, Z, p, hx⟩ := kit_ofY I r1 ty
  exact PySem.W.kia_one Z I.kIn p e hx fun tk => ⟨.bl b, H, I.tok tk, rfl, q⟩
theorem call_isiTY : CallR X (.builtin "isinstance") (rIsiTY X.K) := by
  intro pins s σ H xs us Q I r h
  obtain ⟨x, tp, cs, t, ws, b, rfl, hT, k, ty, e, q⟩ := h
  obtain ⟨u1, u2, rfl, r1, r2⟩ := vals2 r
  cases (show u2 = Value.ref tp from r2)
  obtain ⟨P, Z, p, hx⟩ := kit_ofY I r1 ty
  obtain ⟨_, its, rv, o, h1, h2, n, h3⟩ := (show ObjOk X.prog X.w H s.heap tp (.tup cs) from I.hok tp _ hT)
  have e3 := ClsV.all k rv
  subst e3
  obtain ⟨oc, od, dt, sl⟩ := o
  simp only at h2 h3
  subst h2 h3
  exact PySem.W.kia_tup Z I.kIn p h1 e hx fun tk => ⟨.bl b, H, I.tok tk, rfl, q⟩
/-- a dict, as what a method is asked of -/
def tyDD (K : PySem.W.Frag) (x : V) (H : Hp) : Prop := tyV K "dict" x H ∨ ∃ p o kvs, x = .ref p ∧ H p = some (.frz o (.dT kvs))
theorem tyDD_is {x : V} {v : Value} (I : Inv X pins σ H s) (r : RelV x v) (ty : tyDD X.K x H) : s.TypeIs v "dict" ∧ ∀ a, v = .ref a → ∃ ob, s.heap.get? a = some ob ∧ ob.dict = none := by
  rcases ty with ty | ⟨p, o, kvs, rfl, e⟩
  · exact tyV_is I r ty
  · cases (show v = Value.ref p from r)
    obtain ⟨hs, hgd, hx, _⟩ := I.frzT e
    refine ⟨⟨o, hgd, hx.1⟩, fun a e2 => ?_⟩
    cases e2
    exact ⟨o, hgd, hx.2.1⟩
def tBMD (K : PySem.W.Frag) (r : V → List V → Hp → VK → Prop) (to : TE) (t : TA) : TE := fun σ H Q => to σ H fun x H1 => tyDD K x H1 ∧ t σ H1 fun xs H2 => r x xs H2 Q
theorem pe_bmD {o e : Expr} {es : List Expr} {to : TE} {t : TA} {name : Str} {apos cpos : Pos} {id : String} {r : V → List V → Hp → VK → Prop} (pa : PlainAttrs "dict") (slot : Slot "dict" name id) (hty : typeOf (.builtin id) = pure (.type "method_descriptor")) (hm : MtR X id r) (ho : PE X o to) (ha : PA X (e :: es) t)
    (hbase : attributeBase o name X.env (eval o X.env) = eval o X.env := by rfl)
    (hfew : ((backTo cpos (starEach (e :: es) X.env)).all (fun x => !x.1) && (backToKw cpos (keywordEach [] X.env)).all (fun x => x.1.isSome)
      && decide ((e :: es).length + ([] : List Keyword).length + (if ([] : List Keyword).isEmpty then 0 else 1) < 30)) = true := by rfl)
    (hline : (apos.endLine == cpos.line) = true := by rfl) (hs : starEach (e :: es) X.env = (false, eval e X.env) :: starEach es X.env := by rfl) (hplain : (backTo cpos (starEach es X.env)).any (·.1) = false := by rfl) :
    PE X (.Call (.Attribute o name apos) (e :: es) [] cpos) (tBMD X.K r to t) := by
  refine ⟨fun pins s σ H Q I h => ?_⟩
  refine wpAny_Call_method_late hbase hfew hline rfl (thn (ho.run pins s σ H _ I h) fun v s1 ⟨x, H1, I1, r1, ty, q1⟩ => ?_)
  obtain ⟨h1, h2⟩ := tyDD_is I1 r1 ty
  refine ⟨"dict", id, pa, slot, hty, h1, h2, ?_⟩
  have hA := ha.run cpos pins s1 σ H1 _ I1 q1
  rw [hs] at hA ⊢
  refine Calls.callWith_builtin (by show (false || (backTo cpos (starEach es X.env)).any (·.1)) = false; rw [hplain] <;> rfl) (Calls.evalArgs_plain ?_)
  exact thn hA fun us s2 ⟨vs, H2, I2, r2, q2⟩ => hm pins s2 σ H2 x vs v us Q I2 r1 r2 q2
end
/-- len(d), locked or not -/
def rLenY : List V → Hp → VK → Prop := fun xs H Q => ∃ (p : Addr) (kvs : List (List L2.Key × V)), xs = [.ref p] ∧ Rd H p (.dT kvs) ∧ Q (.int ((kvs.length : Nat) : Int)) H
theorem call_len_dY {X : Cx} : CallR X (.builtin "len") rLenY := by
  intro pins s σ H xs us Q I r h
  obtain ⟨p, kvs, rfl, hp, q⟩ := h
  obtain ⟨u, rfl, rx⟩ := vals1 r
  obtain rfl : u = .ref p := rx
  obtain ⟨z, hd, ys, rel, dd⟩ := dt_rd I.hok hp
  have hl : kvs.length = ys.length := Paired.length rel
  refine call_len_dictH hd dd (by rw [← hl]; rw [sizeLine_eq] at z; omega) ?_
  rw [← hl]
  exact ⟨.int ((kvs.length : Nat) : Int), H, I.tok _, ⟨_, rfl⟩, q⟩
/-- max(t) of a tuple of whole numbers -/
def rMaxT (K : PySem.W.Frag) : List V → Hp → VK → Prop := fun vs H Q => ∃ (a : Addr) (ns : List Int), vs = [V.ref a] ∧ SqT K H a (ns.map V.int) ∧ 0 < ns.length ∧ ∀ m, m ∈ ns → (∀ y, y ∈ ns → y ≤ m) → Q (.int m) H
theorem foldl_max : ∀ (l : List Int) (n : Int), (l.foldl max n = n ∨ l.foldl max n ∈ l) ∧ n ≤ l.foldl max n ∧ ∀ y ∈ l, y ≤ l.foldl max n
  | [], n => ⟨.inl rfl, Int.le_refl _, by simp⟩
  | a :: l, n => by
    obtain ⟨h1, h2, h3⟩ := foldl_max l (max n a)
    rw [List.foldl_cons]
    refine ⟨?_, by omega, fun y hy => ?_⟩
    · rcases h1 with h1 | h1
      · by_cases h : n ≤ a
        · right; rw [h1, Int.max_eq_right h]; exact List.mem_cons_self
        · left; rw [h1, Int.max_eq_left (by omega)]
      · exact .inr (List.mem_cons_of_mem _ h1)
    · rcases List.mem_cons.mp hy with rfl | hy
      · omega
      · exact h3 y hy
theorem depth_ints : ∀ ns : List Int, PyData.depthAll (ns.map PyData.int) = 0
  | [] => by simp [PyData.depthAll]
  | n :: ns => by rw [List.map_cons, PyData.depthAll, depth_ints ns]; simp [PyData.depth]
theorem alike_intL (ns : List Int) : AlikeAll (ns.map PyData.int) := by
  refine ⟨fun x hx y hy => ?_, fun x hx => ?_⟩
  · obtain ⟨i, _, rfl⟩ := List.mem_map.mp hx
    obtain ⟨j, _, rfl⟩ := List.mem_map.mp hy
    rfl
  · obtain ⟨i, _, rfl⟩ := List.mem_map.mp hx
    exact fun z => by cases z
theorem cr_maxT {X : Cx} (hc : X.calm = true) (hu : X.A.units + 1 < cLine) : CallR X (.builtin "max") (rMaxT X.K) := by
  intro pins s σ H vs us Q I r h
  obtain ⟨a, ns, rfl, hs, hne, q⟩ := h
  obtain ⟨its, rv, ht, _⟩ := I.tuple hs
  rw [Vals.ref1 r]
  cases ns with
  | nil => exact absurd hne (by simp)
  | cons n ns =>
    refine max_tuple_data (x := .int n) (xs := ns.map PyData.int) (as := []) (I.ok.hd hc) (show s.heap.IsTuple a its.toArray from ht) (by simpa using IntsAre.reads s.heap rv.ints) (alike_intL (n :: ns)) (by rw [show (PyData.int n :: ns.map PyData.int) = (n :: ns).map PyData.int from rfl, depth_ints]; exact hu) fun i v h' tk bs hv hr hk => ?_
    rw [maxD_ints] at hr
    obtain ⟨h1, h2, h3⟩ := foldl_max ns n
    cases hr with
    | int m t =>
      refine ⟨.int _, H, I.kept hk, ⟨t, rfl⟩, q _ ?_ fun y hy => ?_⟩
      · rcases h1 with h1 | h1
        · rw [h1]; exact List.mem_cons_self
        · exact List.mem_cons_of_mem _ h1
      · rcases List.mem_cons.mp hy with rfl | hy
        · exact h2
        · exact h3 y hy
end L2

set_option Elab.async false
set_option linter.all false
set_option maxRecDepth 100000
set_option autoImplicit false
/-! sorted(xs) of tuples of whole numbers, any length. -/
namespace TT
open PySem PySem.Spec L2 PyProof.Rows
def kEnc (p : Addr × List Int) : PyData := .tuple (p.2.map PyData.int)
theorem kEnc_le : PySem.W.dataLe false kEnc = fun p q => decide (p.2 ≤ q.2) := by
  funext p q
  show (!PySem.W.dataLt (.tuple (q.2.map .int)) (.tuple (p.2.map .int))) = _
  rw [PySem.W.dataLt_tuple]
  show (!PySem.W.rowLt (q.2.map .int) (p.2.map .int)) = _
  rw [PySem.W.dataLt_ints]
  by_cases h : q.2 < p.2
  · have h' : ¬ p.2 ≤ q.2 := fun r => List.not_lt.mpr r h
    simp [h, h']
  · have h' : p.2 ≤ q.2 := List.not_lt.mp h
    simp [h, h']
theorem alike_ints : ∀ xs ys : List Int, PySem.W.alikeAll (xs.map PyData.int) (ys.map PyData.int) = true
  | [], _ => by simp [PySem.W.alikeAll]
  | _ :: _, [] => by simp [PySem.W.alikeAll]
  | x :: xs, y :: ys => by
    simp only [List.map_cons, PySem.W.alikeAll, PySem.W.alike, Bool.true_and]
    exact alike_ints xs ys
theorem refs_vals : ∀ {ks : List (Addr × List Int)} {us : List Value}, Vals (ks.map fun p => V.ref p.1) us → us = ks.map fun p => Value.ref p.1
  | [], _, .nil => rfl
  | k :: ks, _, .cons r t => by
    cases r
    rw [refs_vals t]
    rfl
theorem ints_reads {h : Heap} : ∀ {ns : List Int} {us : List Value}, Vals (ns.map V.int) us → ReadsAll h us (ns.map PyData.int) []
  | [], _, .nil => .nil
  | n :: ns, _, .cons r t => by
    obtain ⟨k, rfl⟩ := r
    exact .cons (.int n k) (ints_reads t)
theorem vals_refs : ∀ {ks : List (Addr × List Int)}, Vals (ks.map fun p => V.ref p.1) (ks.map fun p => Value.ref p.1)
  | [] => .nil
  | k :: ks => .cons (show RelV (.ref k.1) (.ref k.1) from rfl) vals_refs
theorem each_out : ∀ {out : List Value} {ms : List (Addr × List Int)}, PySem.W.EachIs (fun (v : Value) (p : Addr × List Int) => v = Value.ref p.1) out ms → out = ms.map fun p => Value.ref p.1
  | _, _, .nil => rfl
  | _, _, .cons h t => by rw [h, each_out t]; rfl
section
variable {X : Cx}
def rSortedK (K : PySem.W.Frag) : List V → Hp → VK → Prop := fun vs H Q => ∃ (a : Addr) (ks : List (Addr × List Int)), vs = [V.ref a] ∧ SqL K H a (ks.map fun p => V.ref p.1) ∧ (∀ p ∈ ks, SqT K H p.1 (p.2.map V.int) ∧ p.2 ≠ []) ∧
  ∀ q, H q = none → Q (.ref q) (upd H q (.lst ((ks.mergeSort fun x y => decide (x.2 ≤ y.2)).map fun p => V.ref p.1)))
theorem cr_sortedK (hu : X.A.units + 64 < cLine) : CallR X (.builtin "sorted") (rSortedK X.K) := by
  intro pins s σ H vs us Q I r h
  obtain ⟨a, ks, rfl, hs, hx, q⟩ := h
  obtain ⟨its, rv, hl, hz⟩ := I.list hs
  obtain ⟨u, rfl, ru⟩ := vals1 r
  obtain rfl : u = Value.ref a := ru
  cases refs_vals rv
  rw [List.length_map] at hz
  have hR : ∀ {ks : List (Addr × List Int)}, PySem.W.EachIs (fun (v : Value) (p : Addr × List Int) => v = Value.ref p.1) (ks.map fun p : Addr × List Int => Value.ref p.1) ks := by
    intro ks
    induction ks with
    | nil => exact .nil
    | cons k ks ih => exact .cons rfl ih
  have hE : ∀ {ks : List (Addr × List Int)}, (∀ p ∈ ks, SqT X.K H p.1 (p.2.map V.int) ∧ p.2 ≠ []) → PySem.W.EachIs (fun (v : Value) (p : Addr × List Int) => ∃ as, Reads s.heap v (kEnc p) as) (ks.map fun p : Addr × List Int => Value.ref p.1) ks := by
    intro ks
    induction ks with
    | nil => intro _; exact .nil
    | cons k ks ih =>
      intro hx
      refine .cons ?_ (ih fun p hp => hx p (List.mem_cons_of_mem _ hp))
      obtain ⟨h1, _⟩ := hx k List.mem_cons_self
      obtain ⟨its, r2, ⟨o, ho, hc, n, hd⟩, _⟩ := I.tuple h1
      exact ⟨[], .tuple ho hc hd (by simpa using ints_reads r2)⟩
  refine PySem.W.sorted_data (bs := ks) (enc := kEnc) (R := fun (v : Value) (p : Addr × List Int) => v = Value.ref p.1) hl.isList hR (hE hx) ?_ ?_ hz ?_ ?_
  · intro d hd d' hd'
    obtain ⟨p, _, rfl⟩ := List.mem_map.mp hd
    obtain ⟨p', _, rfl⟩ := List.mem_map.mp hd'
    unfold kEnc
    simp only [PySem.W.alike]
    exact alike_ints _ _
  · refine .inl fun d hd => ?_
    obtain ⟨p, hp, rfl⟩ := List.mem_map.mp hd
    have := (hx p hp).2
    cases e : p.2 with
    | nil => exact absurd e this
    | cons x r => exact ⟨.int x, r.map .int, by unfold kEnc; rw [e]; rfl⟩
  · intro b _
    unfold kEnc
    simp only [PyData.depth, depth_ints]
    omega
  · intro out ho hr
    rw [kEnc_le] at hr
    have e := each_out hr
    subst e
    obtain ⟨n, hn⟩ := sortedAll_at s.heap (ks.map fun p => Value.ref p.1) (List.toArray ((ks.mergeSort fun x y => decide (x.2 ≤ y.2)).map fun p => Value.ref p.1))
    refine ⟨.ref (s.heap.objs.size + 1), upd H (s.heap.objs.size + 1) (.lst ((ks.mergeSort fun x y => decide (x.2 ≤ y.2)).map fun p => V.ref p.1)), I.laid (t' := s.toks) (fun b o e => sortedAll_old e) (Nat.le_succ _) ⟨?_, (ks.mergeSort fun x y => decide (x.2 ≤ y.2)).map fun p => Value.ref p.1, n, vals_refs, hn⟩, rfl, q _ (I.hok.fresh (Nat.le_succ _))⟩
    rw [List.length_map, List.length_mergeSort]
    exact hz
/-- the tuples of a dict's keys -/
theorem kt_ps {H : Hp} : ∀ {kvs : List (List L2.Key × V)} {ys : List (List L2.Key × Addr × Value)} {ns : List (List Int)}, KT H kvs ys → kvs.map (·.1) = ns.map keyOf → ∃ ps : List (Addr × List Int), ps.map (·.2) = ns ∧ ps.map (·.1) = ys.map (·.2.1) ∧ ∀ x ∈ ps, H x.1 = some (.tup (x.2.map V.int))
  | _, _, [], .nil, _ => ⟨[], rfl, rfl, by simp⟩
  | _, _, n :: ns, .cons (a := a) (b := b) h t, e => by
    rw [List.map_cons, List.map_cons] at e
    injection e with e1 e2
    obtain ⟨ps, h1, h2, h3⟩ := kt_ps t e2
    refine ⟨(b.2.1, n) :: ps, by rw [List.map_cons, h1], by rw [List.map_cons, h2, List.map_cons], fun x hx => ?_⟩
    rcases List.mem_cons.mp hx with rfl | hx
    · have := h.2.1
      rw [e1] at this
      rw [this]
      unfold keyOf
      rw [List.map_map]
      rfl
    · exact h3 x hx
  | _, _, _ :: _, .nil, e => by cases e
  | _, _, [], .cons _ _, e => by cases e
theorem each_at : ∀ {vs : List Value} {ps : List (Addr × List Int)}, vs.length = ps.length → (∀ (i : Nat) (v : Value), vs[i]? = some v → ∃ p : Addr × List Int, ps[i]? = some p ∧ v = Value.ref p.1) → vs = ps.map fun p : Addr × List Int => Value.ref p.1
  | [], [], _, _ => rfl
  | v :: vs, p :: ps, hl, h => by
    obtain ⟨q, e1, e2⟩ := h 0 v rfl
    cases e1
    have ih := each_at (vs := vs) (ps := ps) (by simpa using hl) fun i v e => h (i + 1) v (by simpa using e)
    rw [e2, List.map_cons, ← ih]
  | [], _ :: _, hl, _ => by cases hl
  | _ :: _, [], hl, _ => by cases hl
def rSortedD : List V → Hp → VK → Prop := fun vs H Q => ∃ (a : Addr) (kvs : List (List L2.Key × V)) (ns : List (List Int)), vs = [V.ref a] ∧ Rd H a (.dT kvs) ∧ kvs.map (·.1) = ns.map keyOf ∧ (∀ k ∈ ns, k ≠ []) ∧
  ∀ (ps : List (Addr × List Int)) q, ps.map (·.2) = ns → (∀ x ∈ ps, H x.1 = some (.tup (x.2.map V.int))) → H q = none → Q (.ref q) (upd H q (.lst ((ps.mergeSort fun x y => decide (x.2 ≤ y.2)).map fun p => V.ref p.1)))
theorem cr_sortedD (hc : X.calm = true) (hu : X.A.units + 64 < cLine) : CallR X (.builtin "sorted") rSortedD := by
  intro pins s σ H vs us Q I r h
  obtain ⟨a, kvs, ns, rfl, hd, hns, hne, q⟩ := h
  obtain ⟨u, rfl, ru⟩ := vals1 r
  obtain rfl : u = Value.ref a := ru
  obtain ⟨hz, lo, ys, rel, dd⟩ := dt_rd I.hok hd
  obtain ⟨ps, hp1, hp2, hp3⟩ := kt_ps rel hns
  have hH : ∀ x ∈ ps, SqT X.K H x.1 (x.2.map V.int) := fun x hx => SqT.of (hp3 x hx)
  have hne' : ∀ x ∈ ps, x.2 ≠ [] := fun x hx => hne _ (by rw [← hp1]; exact List.mem_map_of_mem hx)
  have hlen : ps.length = ys.length := by
    have := congrArg List.length hp2
    simpa using this
  have hzy : ys.length ≤ sizeLine := by rw [← Paired.length rel]; exact hz
  obtain ⟨es, ep, hraw, hsz, hes⟩ := dd.raw
  refine Calls.call_function_entry kind_sorted plain_sorted entry_sorted (args_sorted1 _) ?_
  unfold Builtin.«sorted»
  refine wpAny_bind (m := checkCount "sorted" 1 1 _) (wpAny_pure ?_)
  refine wpAny_bind (PySem.W.kdu_collect (A := X.A.in1) (PySem.KdlSrc.rawDict (es := es) (ep := ep) lo) (I.ok.hd hc) hraw (by rw [hsz]; exact hzy) fun h' tk acc hk hacc => ?_)
  have ev : acc.toList = ps.map fun p => Value.ref p.1 := by
    refine each_at (by rw [Array.length_toList, hacc.1, hsz, hlen]) fun i v e => ?_
    obtain ⟨hi, e2⟩ := hacc.2 i v (by rw [← Array.getElem?_toList]; exact e)
    obtain ⟨y, hy, e3, _⟩ := hes i hi
    have e4 : (ps.map (·.1))[i]? = some y.2.1 := by rw [hp2, List.getElem?_map, hy]; rfl
    rw [List.getElem?_map] at e4
    obtain ⟨p, e5, e6⟩ := Option.map_eq_some_iff.mp e4
    exact ⟨p, e5, by rw [e2, e3, e6]⟩
  rw [ev]
  have hzp : ps.length ≤ sizeLine := by rw [hlen]; exact hzy
  refine wpAny_bind (wpAny_newList ?_ (by rw [List.length_map]; exact hzp))
  have I2 : Inv X pins σ H { s with heap := h', toks := tk } := I.kept fun b o e => hk b o e
  have hR : ∀ {ks : List (Addr × List Int)}, PySem.W.EachIs (fun (v : Value) (p : Addr × List Int) => v = Value.ref p.1) (ks.map fun p : Addr × List Int => Value.ref p.1) ks := by
    intro ks
    induction ks with
    | nil => exact .nil
    | cons k ks ih => exact .cons rfl ih
  have hE : ∀ {ks : List (Addr × List Int)}, (∀ p ∈ ks, SqT X.K H p.1 (p.2.map V.int) ∧ p.2 ≠ []) → PySem.W.EachIs (fun (v : Value) (p : Addr × List Int) => ∃ as, Reads (h'.push (seqObj "list" (ps.map fun p => Value.ref p.1).toArray 0)) v (kEnc p) as ∧ h'.objs.size ∉ as) (ks.map fun p : Addr × List Int => Value.ref p.1) ks := by
    intro ks
    induction ks with
    | nil => intro _; exact .nil
    | cons k ks ih =>
      intro hx
      refine .cons ?_ (ih fun p hp => hx p (List.mem_cons_of_mem _ hp))
      obtain ⟨h1, _⟩ := hx k List.mem_cons_self
      obtain ⟨its, r2, ⟨o, ho, hc, n, hd⟩, _⟩ := I2.tuple h1
      exact ⟨[], .tuple (Heap.get?_push_of_some _ ho) hc hd (by simpa using ints_reads r2), by simp⟩
  have ho : (h'.push (seqObj "list" (ps.map fun p => Value.ref p.1).toArray 0)).get? h'.objs.size = some (seqObj "list" (ps.map fun p => Value.ref p.1).toArray 0) := Heap.get?_push_size _ rfl
  have key := PySem.W.list_sort_data (prog := X.prog) (w := X.w) (A := X.A.in1) (E := X.xe) (s := { s with heap := h'.push (seqObj "list" (ps.map fun p => Value.ref p.1).toArray 0), toks := tk }) (a := h'.objs.size) (n := 0) (bs := ps) (enc := kEnc) (R := fun (v : Value) (p : Addr × List Int) => v = Value.ref p.1) (Q := fun v s' => ∃ out, out = (ps.mergeSort fun x y => decide (x.2 ≤ y.2)).map (fun p => Value.ref p.1) ∧ s' = { s with heap := sortedHeap (h'.push (seqObj "list" (ps.map fun p => Value.ref p.1).toArray 0)) h'.objs.size (ps.map fun p => Value.ref p.1) out.toArray, toks := tk }) ho hR (hE fun p hp => ⟨hH p hp, hne' p hp⟩) ?_ ?_ hzp ?_ ?_
  · refine wpAny_bind (wpAny_holding (wpAny_mono key (fun _ s' x => ?_) fun _ _ e => e))
    obtain ⟨out, ho2, rfl⟩ := x
    refine wpAny_pure ⟨_, rfl, ?_⟩
    subst ho2
    obtain ⟨n, hn⟩ := sortedHeap_at (vs := ps.map fun p => Value.ref p.1) (out := (List.toArray ((ps.mergeSort fun x y => decide (x.2 ≤ y.2)).map fun p => Value.ref p.1))) ho
    refine ⟨.ref h'.objs.size, upd H h'.objs.size (.lst ((ps.mergeSort fun x y => decide (x.2 ≤ y.2)).map fun p => V.ref p.1)), I2.laid (t' := tk) (fun b o e => ?_) (Nat.le_refl _) ⟨?_, (ps.mergeSort fun x y => decide (x.2 ≤ y.2)).map fun p => Value.ref p.1, n, vals_refs, hn⟩, rfl, q ps _ hp1 hp3 (I2.hok.fresh (Nat.le_refl _))⟩
    · have hlt := Heap.lt_size e
      exact sortedHeap_old (Nat.ne_of_lt hlt) (by
        show b < (h'.push _).objs.size
        rw [size_push']; exact Nat.lt_succ_of_lt hlt) |>.trans (Heap.get?_push_of_some _ e)
    · rw [List.length_map, List.length_mergeSort]
      exact hzp
  · intro d hd d' hd'
    obtain ⟨p, _, rfl⟩ := List.mem_map.mp hd
    obtain ⟨p', _, rfl⟩ := List.mem_map.mp hd'
    unfold kEnc
    simp only [PySem.W.alike]
    exact alike_ints _ _
  · refine .inl fun d hd => ?_
    obtain ⟨p, hp, rfl⟩ := List.mem_map.mp hd
    have := hne' p hp
    cases e : p.2 with
    | nil => exact absurd e this
    | cons x r => exact ⟨.int x, r.map .int, by unfold kEnc; rw [e]; rfl⟩
  · intro b _
    have := (rfl : X.A.in1.units = X.A.units + 1)
    unfold kEnc
    simp only [PyData.depth, depth_ints]
    omega
  · intro out _ hr
    rw [kEnc_le] at hr
    exact ⟨_, each_out hr, by rw [each_out hr]⟩
end
end TT

set_option Elab.async false
set_option linter.all false
set_option maxRecDepth 100000
set_option autoImplicit false
/-! comprehensions of three sources -/
namespace L2
open PySem PySem.Spec PyProof.Rows
/-- one turn of a clause: what is done behind its tests, then on -/
def turnOf {α : Type} (t : Expr) (i : Expr) (ifs : List Expr) (it : Value) (env : Env) (stop : Sem α) (act : Sem α → Sem α) (on : Sem α) : Sem α := do
  standAt i.pos
  match ← pyNext it with
  | none => stop
  | some v =>
    letOwnedTupleGo t it v
    assign t env v
    let mut ok := true
    for c in ifs do
      if ok then ok ← isTrue c env (eval c env)
    if ok then act on else on
/-- the next clause is walked -/
def deeper {α : Type} (L : Expr) (k : Nat) (i : Expr) (acc : Value) (env : Env) (on : Sem α) : Sem α := do
  let x ← eval i env
  standAt i.pos
  let x ← foldedSetIterable i env x
  let _ ← runOwn (.compStart L k (← holding [x] (pyIter x)) acc env) env
  on
def lastly {α : Type} (elt : Expr) (acc : Value) (env : Env) (on : Sem α) : Sem α := do
  (do let _ ← call (.builtin "list.append") [acc, ← eval elt env])
  on
section
variable (elt t0 i0 t1 i1 t2 i2 : Expr) (ifs0 ifs1 ifs2 : List Expr) (scope : Scope) (pos : Pos) (it acc : Value) (env : Env)
abbrev L3 : Expr := .ListComp elt [⟨t0, i0, ifs0, 0⟩, ⟨t1, i1, ifs1, 0⟩, ⟨t2, i2, ifs2, 0⟩] scope pos
theorem turn3_0 : compTurn (L3 elt t0 i0 t1 i1 t2 i2 ifs0 ifs1 ifs2 scope pos) 0 it acc env = turnOf t0 i0 ifs0 it env (pure (.done .next)) (deeper (L3 elt t0 i0 t1 i1 t2 i2 ifs0 ifs1 ifs2 scope pos) 1 i1 acc env) (again (.compLoop (L3 elt t0 i0 t1 i1 t2 i2 ifs0 ifs1 ifs2 scope pos) 0 it acc env)) := by rfl
theorem turn3_1 : compTurn (L3 elt t0 i0 t1 i1 t2 i2 ifs0 ifs1 ifs2 scope pos) 1 it acc env = turnOf t1 i1 ifs1 it env (pure (.done .next)) (deeper (L3 elt t0 i0 t1 i1 t2 i2 ifs0 ifs1 ifs2 scope pos) 2 i2 acc env) (again (.compLoop (L3 elt t0 i0 t1 i1 t2 i2 ifs0 ifs1 ifs2 scope pos) 1 it acc env)) := by rfl
theorem turn3_2 : compTurn (L3 elt t0 i0 t1 i1 t2 i2 ifs0 ifs1 ifs2 scope pos) 2 it acc env = turnOf t2 i2 ifs2 it env (pure (.done .next)) (lastly elt acc env) (again (.compLoop (L3 elt t0 i0 t1 i1 t2 i2 ifs0 ifs1 ifs2 scope pos) 2 it acc env)) := by rfl
end

/-- what a clause's action is asked, and how it runs: behind it the slots us are forgotten -/
abbrev TB := L2.St → Hp → (Hp → Prop) → Prop
def RunB (Y : Cx) (us : List Nat) (act : Sem Fin → Sem Fin) (body : TB) : Prop := ∀ (pins : List (Addr × Obj)) (s : Shared) (σ : L2.St) (H : Hp) (N : Hp → Prop), Inv Y pins σ H s → body σ H N →
  ∀ (on : Sem Fin) (Q : Fin → Shared → Prop) (E : Value → Shared → Prop), (∀ s' H', Inv Y pins (wipe σ us) H' s' → N H' → wpAny (model Y.prog Y.w) Y.A on Q E s') → wpAny (model Y.prog Y.w) Y.A (act on) Q E s
/-- the walk of one clause -/
def tTurns (J : It) (g : TG) (tt : TT) (vs : List Nat) (body : TB) : TB := fun σ H1 N => ∃ W : Nat → Nat → Hp → Prop, (∃ m, W 0 m H1) ∧ ∀ i m H, W i m H → (J.stop i H ∧ N H) ∨ (J.go i H ∧ ∃ Nx : Hp → Prop, (∀ H', Nx H' → ∃ m', m' < m ∧ W (i + 1) m' H') ∧
  ∀ x H', J.yld i H x H' → g x (wipe σ vs) H' fun σ2 H2 => wipe σ2 vs = wipe σ vs ∧ tt σ2 H2 fun b H3 => if b = true then body σ2 H3 Nx else Nx H3)
section
variable {Y : Cx} {elt : Expr} {gs : List Comprehension} {scope : Scope} {pos : Pos} {k : Nat} {t i : Expr} {ifs : List Expr} {acc : Value} {act : Sem Fin → Sem Fin} {us vs : List Nat} {g : TG} {tt : TT} {body : TB}
theorem clause_loop (hc : Y.calm = true) (hx : Y.xe = fun _ _ => False) (ht : ∀ it, compTurn (.ListComp elt gs scope pos) k it acc Y.env = turnOf t i ifs it Y.env (pure (.done .next)) act (again (.compLoop (.ListComp elt gs scope pos) k it acc Y.env))) (hg : PG Y t g) (htt : PTs Y ifs tt) (hb : RunB Y us act body) (hu : ∀ j ∈ us, j ∈ vs)
    {it : Addr} {fp : List Addr} {tn : Nat → Heap → Prop} {J : It} (T : Turn Y.prog Y.w Y.K t J fp it tn) {pins : List (Addr × Obj)} {s : Shared} {σ σ0 : L2.St} {H : Hp} {N : Hp → Prop} (I : Inv Y pins σ0 H s) (e0 : σ0 = wipe σ vs) (st : tn 0 s.heap) (hf : ∀ H' b, b ∈ fp → H' b = none → FpOk Y pins H' b) (hn : ∀ b ∈ fp, H b = none)
    (h : tTurns J g tt vs body σ H N) : codeAny (model Y.prog Y.w) Y.A (.compLoop (.ListComp elt gs scope pos) k (.ref it) acc Y.env) (fun r s' => r = .ok .next ∧ ∃ H', Inv Y pins (wipe σ vs) H' s' ∧ N H' ∧ ∀ b ∈ fp, H' b = none) s := by
  subst e0
  obtain ⟨W, ⟨m0, w0⟩, turn⟩ := h
  refine codeAny_loop rfl (fun m s' => ∃ j H', Inv Y pins (wipe σ vs) H' s' ∧ tn j s'.heap ∧ (∀ b ∈ fp, H' b = none) ∧ W j m H') (fun m s1 hI => ?_) m0 ⟨0, H, I, st, hn, w0⟩
  obtain ⟨j, H1, I1, st1, n1, w1⟩ := hI
  show wpAny _ Y.A ((compTurn (.ListComp elt gs scope pos) k (.ref it) acc Y.env).onRaise _) _ _ s1
  refine wpAny_noted ?_
  rw [ht]
  unfold turnOf
  have fo := fun b hb => hf H1 b hb (n1 b hb)
  refine wpAny_bind (wpAny_standAt (wpAny_bind ?_))
  rcases turn j m H1 w1 with ⟨stop, q⟩ | ⟨go, Nx, hNx, step⟩
  · refine thnF (T.done Y rfl rfl rfl hc j pins s1 _ H1 (fun _ _ => False) I1 fo st1 stop) fun r s2 ⟨hr, I2⟩ => ?_
    subst hr
    exact wpAny_pure ⟨rfl, H1, I2, q, n1⟩
  · refine thnF (T.item Y rfl rfl rfl hc j pins s1 _ H1 (fun _ _ => False) I1 fo st1 go) fun r s2 ⟨u, hr, h2⟩ => ?_
    subst hr
    refine wpAny_bind (thnF h2 fun _ s3 ⟨x, H3, I3, r3, y3, st3, n3⟩ => wpAny_bind ?_)
    have P3 := I3.pinned (fun b hb => hf H3 b hb (n3 b hb)) (T.obj _ _ st3)
    have ag := hg.run _ s3 _ H3 x u _ P3 r3 (step x H3 y3)
    rw [hx] at ag
    refine thnF ag fun _ s4 ⟨σ4, H4, I4, e4, q4⟩ => wpAny_bind ?_
    have at_ := htt.run _ s4 σ4 H4 _ I4 q4
    rw [hx] at at_
    refine thnF at_ fun b s5 ⟨H5, I5, q5⟩ => ?_
    -- on to the next turn, from slots that know no less
    have fin : ∀ {σ9 : L2.St} {s' : Shared} {H' : Hp}, Inv Y (pins ++ pinsAt fp s3.heap) σ9 H' s' → (wipe σ vs).length = σ9.length → (∀ (a : Nat) v, (wipe σ vs)[a]? = some (some v) → σ9[a]? = some (some v)) → Nx H' →
        ∃ m', m' < m ∧ ∃ j H', Inv Y pins (wipe σ vs) H' s' ∧ tn j s'.heap ∧ (∀ b ∈ fp, H' b = none) ∧ W j m' H' := fun {σ9 s' H'} I' hl hk nx => by
      obtain ⟨m', hm, w'⟩ := hNx H' nx
      have pin' : ∀ b ∈ fp, ∀ o, s3.heap.get? b = some o → s'.heap.get? b = some o ∧ H' b = none := fun b hb o e =>
        have z := I'.pin (b, o) (List.mem_append_right _ (List.mem_append_right _ (mem_pinsAt hb e)))
        ⟨z.1, z.2.1⟩
      have keep : ∀ b ∈ fp, H' b = none := fun b hb => by
        obtain ⟨o, e, _⟩ := T.obj _ _ st3 b hb
        exact (pin' b hb o e).2
      exact ⟨m', hm, j + 1, H', I'.unpinned.weak hl hk, T.keep _ _ _ st3 (fun b hb o e => (pin' b hb o e).1), keep, w'⟩
    cases b with
    | false =>
      rw [if_neg Bool.false_ne_true] at q5
      refine wpAny_pure ⟨rfl, fin I5 ?_ ?_ q5⟩
      · rw [← e4, wipe_length]
      · intro a v e
        rw [← e4] at e
        exact (wipe_some e).1
    | true =>
      rw [if_pos rfl] at q5
      refine hb _ s5 σ4 H5 Nx I5 q5 _ _ _ fun s6 H6 I6 nx => wpAny_pure ⟨rfl, fin I6 ?_ ?_ nx⟩
      · rw [wipe_length σ4 us, ← e4, wipe_length]
      · intro a v e
        rw [← e4] at e
        obtain ⟨e1, e2⟩ := wipe_some e
        rw [wipe_out fun z => e2 (hu a z)]
        exact e1
end
section
variable {P : Program} {w : World} {A : Around} {R : Result → Shared → Prop} {s : Shared} {elt : Expr} {c0 : Comprehension} {t1 i1 t2 i2 : Expr} {ifs1 ifs2 : List Expr} {scope : Scope} {pos : Pos} {it acc : Value} {env : Env}
/-- the start of the second clause, of the third -/
theorem start3_1 (h0 : codeAny (model P w) A (.compLoop (.ListComp elt [c0, ⟨t1, i1, ifs1, 0⟩, ⟨t2, i2, ifs2, 0⟩] scope pos) 1 it acc env) R s)
    (h : wpAny (model P w) A (pyIter it) (fun j s' => codeAny (model P w) A (.compLoop (.ListComp elt [c0, ⟨t1, i1, ifs1, 0⟩, ⟨t2, i2, ifs2, 0⟩] scope pos) 1 j acc env) R s') (fun _ _ => False) s) : codeAny (model P w) A (.compStart (.ListComp elt [c0, ⟨t1, i1, ifs1, 0⟩, ⟨t2, i2, ifs2, 0⟩] scope pos) 1 it acc env) R s := by
  refine codeAny_of_tree ?_
  show wpAny _ A ((compStart (.ListComp elt [c0, ⟨t1, i1, ifs1, 0⟩, ⟨t2, i2, ifs2, 0⟩] scope pos) 1 it acc env).onRaise (fun x => do noteFrame x env; standAt theWindowsPlace)) _ _ _
  refine wpAny_notedAt ?_
  unfold compStart
  show wpAny _ A (ask >>= _) _ _ _
  refine wpAny_bind (wpAny_askSetting (wpAny_ite ?_))
  split
  · first
      | exact wpAny_pure ⟨rfl, h0⟩
      | exact wpAny_bind (wpAny_pure (wpAny_pure ⟨rfl, h0⟩))
  · have z := thnF (E := notedBy (model P w) A env fun x s' => R (.error x) s') h fun _ _ q => q
    first
      | exact wpAny_bind (wpAny_rule (wpAny_bind (wpAny_standAt (wpAny_bind (thn z fun j s' h' => wpAny_pure ⟨rfl, h'⟩)))))
      | (refine wpAny_bind (wpAny_rule (wpAny_bind (wpAny_standAt (wpAny_bind ?_)))); exact thn z fun j s' h' => wpAny_pure ⟨rfl, h'⟩)
theorem start3_2 (h0 : codeAny (model P w) A (.compLoop (.ListComp elt [c0, ⟨t1, i1, ifs1, 0⟩, ⟨t2, i2, ifs2, 0⟩] scope pos) 2 it acc env) R s)
    (h : wpAny (model P w) A (pyIter it) (fun j s' => codeAny (model P w) A (.compLoop (.ListComp elt [c0, ⟨t1, i1, ifs1, 0⟩, ⟨t2, i2, ifs2, 0⟩] scope pos) 2 j acc env) R s') (fun _ _ => False) s) : codeAny (model P w) A (.compStart (.ListComp elt [c0, ⟨t1, i1, ifs1, 0⟩, ⟨t2, i2, ifs2, 0⟩] scope pos) 2 it acc env) R s := by
  refine codeAny_of_tree ?_
  show wpAny _ A ((compStart (.ListComp elt [c0, ⟨t1, i1, ifs1, 0⟩, ⟨t2, i2, ifs2, 0⟩] scope pos) 2 it acc env).onRaise (fun x => do noteFrame x env; standAt theWindowsPlace)) _ _ _
  refine wpAny_notedAt ?_
  unfold compStart
  show wpAny _ A (ask >>= _) _ _ _
  refine wpAny_bind (wpAny_askSetting (wpAny_ite ?_))
  split
  · first
      | exact wpAny_pure ⟨rfl, h0⟩
      | exact wpAny_bind (wpAny_pure (wpAny_pure ⟨rfl, h0⟩))
  · have z := thnF (E := notedBy (model P w) A env fun x s' => R (.error x) s') h fun _ _ q => q
    first
      | exact wpAny_bind (wpAny_rule (wpAny_bind (wpAny_standAt (wpAny_bind (thn z fun j s' h' => wpAny_pure ⟨rfl, h'⟩)))))
      | (refine wpAny_bind (wpAny_rule (wpAny_bind (wpAny_standAt (wpAny_bind ?_)))); exact thn z fun j s' h' => wpAny_pure ⟨rfl, h'⟩)
end
section
variable {Y : Cx} {elt : Expr} {c0 : Comprehension} {t1 i1 t2 i2 : Expr} {ifs1 ifs2 : List Expr} {scope : Scope} {pos : Pos} {k : Nat} {t i : Expr} {ifs : List Expr} {D : Addr} {act : Sem Fin → Sem Fin} {us vs : List Nat} {g : TG} {tt : TT} {te : TE} {wi : TI} {body : TB}
/-- the element is put to the new list -/
def tLast (D : Addr) (te : TE) : TB := fun σ H N => te σ H fun y H4 => ∃ xs, H4 D = some (.lst xs) ∧ xs.length < sizeLine ∧ N (upd H4 D (.lst (xs ++ [y])))
theorem run_last (hx : Y.xe = fun _ _ => False) (he : PE Y elt te) : RunB Y [] (lastly elt (.ref D) Y.env) (tLast D te) := by
  intro pins s σ H N I h on Q E ho
  have a := he.run pins s σ H _ I h
  rw [hx] at a
  unfold lastly
  refine wpAny_bind (wpAny_bind (thnF a fun u s1 ⟨y, H1, I1, r1, xs, hD, hz, nx⟩ => wpAny_bind (app_ok I1 hD hz r1 fun s2 I2 => wpAny_pure (ho s2 _ I2 nx))))
theorem run_deep (hc : Y.calm = true) (hx : Y.xe = fun _ _ => False) (hk : k = 1 ∨ k = 2) (hi : PI Y t i wi) (hs : ∀ x, foldedSetIterable i Y.env x = pure x)
    (ht : ∀ it, compTurn (.ListComp elt [c0, ⟨t1, i1, ifs1, 0⟩, ⟨t2, i2, ifs2, 0⟩] scope pos) k it (.ref D) Y.env = turnOf t i ifs it Y.env (pure (.done .next)) act (again (.compLoop (.ListComp elt [c0, ⟨t1, i1, ifs1, 0⟩, ⟨t2, i2, ifs2, 0⟩] scope pos) k it (.ref D) Y.env))) (hg : PG Y t g) (htt : PTs Y ifs tt) (hb : RunB Y us act body) (hu : ∀ j ∈ us, j ∈ vs) :
    RunB Y vs (deeper (.ListComp elt [c0, ⟨t1, i1, ifs1, 0⟩, ⟨t2, i2, ifs2, 0⟩] scope pos) k i (.ref D) Y.env) (fun σ H N => wi σ H fun J H1 => tTurns J g tt vs body σ H1 N) := by
  intro pins s σ H N I h on Q E ho
  have a := hi.run pins s σ H _ I h
  rw [hx] at a
  unfold deeper
  refine wpAny_bind (thnF a fun x s1 h1 => wpAny_bind (wpAny_standAt (wpAny_bind (wpAny_of_eq (hs x) (wpAny_bind (wpAny_holding (thnF h1 fun itv s2 h2 => ?_)))))))
  obtain ⟨it, fp, tn, J, H2, rfl, I2, T, st2, f2, q2⟩ := h2
  refine wpAny_bind (wpAny_runOwn ?_)
  rw [Around.mark_none]
  have loop := clause_loop hc hx ht hg htt hb hu T (I2.weak (wipe_length _ _) fun j v e => (wipe_some e).1) rfl st2 (fun H' b hb hn => ⟨hn, (f2 b hb).2⟩) (fun b hb => (f2 b hb).1) q2
  have start : codeAny (model Y.prog Y.w) Y.A (.compStart (.ListComp elt [c0, ⟨t1, i1, ifs1, 0⟩, ⟨t2, i2, ifs2, 0⟩] scope pos) k (.ref it) (.ref D) Y.env) (fun r s' => r = .ok .next ∧ ∃ H', Inv Y pins (wipe σ vs) H' s' ∧ N H' ∧ ∀ b ∈ fp, H' b = none) s2 := by
    rcases hk with rfl | rfl
    · exact start3_1 loop (T.self Y.A 0 _ _ _ st2 loop)
    · exact start3_2 loop (T.self Y.A 0 _ _ _ st2 loop)
  refine codeAny_mono start fun r s3 z => ?_
  obtain ⟨rfl, H3, I3, n3, _⟩ := z
  exact ho s3 H3 I3 n3
end
end L2

set_option Elab.async false
set_option linter.all false
set_option maxRecDepth 100000
set_option autoImplicit false
/-! [e for a in .. for b in .. for c in ..], as a value -/
namespace L2
open PySem PySem.Spec PyProof.Rows
def tLc3 (wi : TI) (g : TG) (tt : TT) (wi1 : TI) (g1 : TG) (tt1 : TT) (wi2 : TI) (g2 : TG) (tt2 : TT) (te : TE) (vs vs1 vs2 : List Nat) : TE := fun σ H Q => wi σ H fun J H1 => ∀ D, H1 D = none →
  tTurns J g tt vs (fun σ H N => wi1 σ H fun J1 H1 => tTurns J1 g1 tt1 vs1 (fun σ H N => wi2 σ H fun J2 H2 => tTurns J2 g2 tt2 vs2 (tLast D te) σ H2 N) σ H1 N) σ (upd H1 D (.lst [])) (fun H' => Q (.ref D) H')
section
variable {X : Cx}
theorem pe_lc3 {elt tg iter tg1 iter1 tg2 iter2 : Expr} {ifs ifs1 ifs2 : List Expr} {scope : Scope} {own : List (Str × Nat)} {vs1 vs2 : List Nat} {pos : Pos} {wi wi1 wi2 : TI} {g g1 g2 : TG} {tt tt1 tt2 : TT} {te : TE} (hc : X.calm = true) (hN : X.N.Nodup) (hi : PI X tg iter wi) (ok : BlkOk X.N X.env.scope scope own)
    (hv1 : ∀ i ∈ vs1, i ∈ own.map (·.2)) (hv2 : ∀ i ∈ vs2, i ∈ vs1)
    (blk : ∀ (s : Shared) (H : Hp) (C : Addr) (cl : List (Str × Addr)) (fp : List Addr), (PG (X.blk s H scope (compEnvC scope cl C X.env) fp) tg g ∧ PTs (X.blk s H scope (compEnvC scope cl C X.env) fp) ifs tt) ∧ (PI (X.blk s H scope (compEnvC scope cl C X.env) fp) tg1 iter1 wi1 ∧ PG (X.blk s H scope (compEnvC scope cl C X.env) fp) tg1 g1 ∧ PTs (X.blk s H scope (compEnvC scope cl C X.env) fp) ifs1 tt1) ∧
      (PI (X.blk s H scope (compEnvC scope cl C X.env) fp) tg2 iter2 wi2 ∧ PG (X.blk s H scope (compEnvC scope cl C X.env) fp) tg2 g2 ∧ PTs (X.blk s H scope (compEnvC scope cl C X.env) fp) ifs2 tt2) ∧ PE (X.blk s H scope (compEnvC scope cl C X.env) fp) elt te)
    (hs : ∀ x, foldedSetIterable iter X.env x = pure x) (hs1 : ∀ env x, foldedSetIterable iter1 env x = pure x) (hs2 : ∀ env x, foldedSetIterable iter2 env x = pure x) :
    PE X (.ListComp elt [⟨tg, iter, ifs, 0⟩, ⟨tg1, iter1, ifs1, 0⟩, ⟨tg2, iter2, ifs2, 0⟩] scope pos) (tLc3 wi g tt wi1 g1 tt1 wi2 g2 tt2 te (own.map (·.2)) vs1 vs2) := by
  refine ⟨fun pins s σ H Q I h => ?_⟩
  rw [eval_ListComp]
  have cells : ∀ y ∈ scope.names, y.2 = .free → ∃ c, X.env.cells.lookup y.1 = some c := fun y hy e => (ok.free y hy e).elim (fun k => I.ok.has _ (.inl k)) fun k => I.ok.has _ (.inr k)
  refine wpAny_comprehension_free (use := none) rfl hs (closure_ok cells) ok.kind (fun y hy e => by rw [ok.uniq y hy, e]) (thn (hi.run pins s σ H _ I h) fun xv s1 z1 => thn z1 fun itv s2 z2 => ?_)
  obtain ⟨it, fp, tn, J, H2, rfl, I2, T, st2, f2, q⟩ := z2
  refine wpAny_newObj_type (newEnv_comp ?_) (Nat.zero_le _)
  have nD : H2 s2.heap.objs.size = none := I2.hok.fresh (Nat.le_refl _)
  replace q := q _ nD
  -- the new list lies there
  have big : ∀ b o, s2.heap.get? b = some o → (s2.heap.push { cls := .type "list", data := .seq ([] : List Value).toArray }).get? b = some o := fun b o e => Heap.get?_push_of_some _ e
  have I3 : Inv X pins σ (upd H2 s2.heap.objs.size (.lst [])) { s2 with heap := s2.heap.push { cls := .type "list", data := .seq ([] : List Value).toArray } } :=
    I2.laid (t' := s2.toks) big (Nat.le_refl _) ⟨Nat.zero_le _, [], 0, .nil, Heap.get?_push_size _ rfl⟩
  generalize hG : (s2.heap.push { cls := .type "list", data := .seq ([] : List Value).toArray }) = G at big I3 ⊢
  have szG : G.objs.size = s2.heap.objs.size + 1 := by rw [← hG, Heap.size_push]
  have old : ∀ b ∈ fp, b < s2.heap.objs.size := fun b hb => by
    obtain ⟨o, e, _⟩ := T.obj _ _ st2 b hb
    exact Heap.lt_size e
  have f3 : ∀ b ∈ fp, FpOk X pins (upd H2 s2.heap.objs.size (.lst [])) b ∧ b < G.objs.size := fun b hb =>
    ⟨⟨by rw [upd_ne (Nat.ne_of_lt (old b hb))]; exact (f2 b hb).1, (f2 b hb).2⟩, by rw [szG]; exact Nat.lt_succ_of_lt (old b hb)⟩
  have st3 : tn 0 G := T.keep _ _ _ st2 fun b _ o e => big b o e
  have I4 := block_start (s := { s2 with heap := G }) I3 ok hN f3
  obtain ⟨⟨pg, pt⟩, ⟨pi1, pg1, pt1⟩, ⟨pi2, pg2, pt2⟩, pe⟩ := blk { s2 with heap := G } (upd H2 s2.heap.objs.size (.lst [])) G.objs.size (cellsFrom (G.objs.size + 1) scope.names (cloFrom X.env.cells scope.names [])) fp
  have st4 : tn 0 (pushCells (G.push { cls := .type "dict", data := .dict #[] }) scope.names) := T.keep _ _ _ st3 fun b _ o e => pushCells_keeps _ _ _ _ (Heap.get?_push_of_some _ e)
  have fo : ∀ {σ' : St} {H' : Hp} {s' : Shared}, Inv (X.blk { s2 with heap := G } (upd H2 s2.heap.objs.size (.lst [])) scope (compEnvC scope (cellsFrom (G.objs.size + 1) scope.names (cloFrom X.env.cells scope.names [])) G.objs.size X.env) fp) [] σ' H' s' →
      ∀ H'' b, b ∈ fp → H'' b = none → FpOk (X.blk { s2 with heap := G } (upd H2 s2.heap.objs.size (.lst [])) scope (compEnvC scope (cellsFrom (G.objs.size + 1) scope.names (cloFrom X.env.cells scope.names [])) G.objs.size X.env) fp) [] H'' b := fun {σ' H' s'} I' H'' b hb hn =>
    ⟨hn, (I'.ok.exf b hb).1, I'.ok.exfs b hb, .inl hb, fun x c e => (I'.ok.exf b hb).2 x c e, fun p hp => by cases hp⟩
  have loop := clause_loop (Y := X.blk { s2 with heap := G } (upd H2 s2.heap.objs.size (.lst [])) scope (compEnvC scope (cellsFrom (G.objs.size + 1) scope.names (cloFrom X.env.cells scope.names [])) G.objs.size X.env) fp) (acc := .ref s2.heap.objs.size) hc rfl (fun it => turn3_0 elt tg iter tg1 iter1 tg2 iter2 ifs ifs1 ifs2 scope pos it _ _) pg pt
    (run_deep (Y := X.blk { s2 with heap := G } (upd H2 s2.heap.objs.size (.lst [])) scope (compEnvC scope (cellsFrom (G.objs.size + 1) scope.names (cloFrom X.env.cells scope.names [])) G.objs.size X.env) fp) hc rfl (.inl rfl) pi1 (hs1 _) (fun it => turn3_1 elt tg iter tg1 iter1 tg2 iter2 ifs ifs1 ifs2 scope pos it _ _) pg1 pt1
      (run_deep (Y := X.blk { s2 with heap := G } (upd H2 s2.heap.objs.size (.lst [])) scope (compEnvC scope (cellsFrom (G.objs.size + 1) scope.names (cloFrom X.env.cells scope.names [])) G.objs.size X.env) fp) hc rfl (.inr rfl) pi2 (hs2 _) (fun it => turn3_2 elt tg iter tg1 iter1 tg2 iter2 ifs ifs1 ifs2 scope pos it _ _) pg2 pt2 (run_last (Y := X.blk { s2 with heap := G } (upd H2 s2.heap.objs.size (.lst [])) scope (compEnvC scope (cellsFrom (G.objs.size + 1) scope.names (cloFrom X.env.cells scope.names [])) G.objs.size X.env) fp) rfl pe) (fun _ z => by cases z)) hv2) hv1
    T I4 rfl st4 (fo I4) (fun b hb => (f3 b hb).1.1) q
  have whole := codeAny_compStart_list loop (T.self X.A 0 _ _ _ st4 loop)
  refine codeAny_mono whole fun r s5 z => ?_
  obtain ⟨rfl, H5, I5, q5, _⟩ := z
  have I6 : Inv X pins σ H5 s5 := I3.call' (ch := fp) I5.os I5.base I5.hok I5.bare fun b hb => ⟨(f3 b hb).1.2.2.2.1, (f3 b hb).1.2.1, (f3 b hb).1.2.2.2.2.1, (f3 b hb).1.2.2.2.2.2⟩
  have nC : H5 G.objs.size = none := I5.free
  obtain ⟨m, hn, _⟩ := I5.loc
  have fC : FpOk X pins H5 G.objs.size := I3.fpOk (Nat.le_refl _) nC
  obtain ⟨a0, a1, a2, a3, a4, a5⟩ := fC
  exact ⟨m, hn, fun h9 sb => ⟨.ref s2.heap.objs.size, H5, I6.turned (t' := s5.toks) (fun b o hb e => (sb.2 b hb).trans e) a0 a1 a3 a4 a5, rfl, q5⟩⟩
end
end L2

set_option Elab.async false
set_option linter.all false
set_option maxRecDepth 100000
set_option autoImplicit false
/-! comprehensions of three sources, over data -/
namespace TT
open PySem PySem.Spec L2
def turnsD (t : Tg) (wt : Sl → (Bool → Prop) → Prop) (bd : Sl → List D → (List D → Prop) → Prop) (δ : Sl) (q : List D → Prop) : List D → List D → Prop
  | [], acc => q acc
  | d :: ds, acc => tgD t d δ fun δ2 => wt δ2 fun b => if b = true then bd δ2 acc (turnsD t wt bd δ q ds) else turnsD t wt bd δ q ds acc
@[reducible] def lastD (we : Sl → (D → Prop) → Prop) : Sl → List D → (List D → Prop) → Prop := fun δ acc k => we δ fun y => acc.length ≤ 1000000 ∧ k (acc ++ [y])
@[reducible] def nextD (wi : Sl → (List D → Prop) → Prop) (t : Tg) (wt : Sl → (Bool → Prop) → Prop) (bd : Sl → List D → (List D → Prop) → Prop) (vs : List Nat) : Sl → List D → (List D → Prop) → Prop := fun δ acc k => wi δ fun es => turnsD t wt bd (wipeD δ vs) k es acc
@[reducible] def wComp3 (wi : Sl → (List D → Prop) → Prop) (t : Tg) (wt : Sl → (Bool → Prop) → Prop) (wi1 : Sl → (List D → Prop) → Prop) (t1 : Tg) (wt1 : Sl → (Bool → Prop) → Prop) (wi2 : Sl → (List D → Prop) → Prop) (t2 : Tg) (wt2 : Sl → (Bool → Prop) → Prop) (we : Sl → (D → Prop) → Prop) (vs vs1 vs2 : List Nat) : Sl → (DV → Prop) → Prop :=
  fun δ q => nextD wi t wt (nextD wi1 t1 wt1 (nextD wi2 t2 wt2 (lastD we) vs2) vs1) vs δ [] (fun acc => q (.own (.lst acc)))
section
variable {K : PySem.W.Frag} {mg : Str → Option Value} {n : N0} {L : Addr} {Wb : Wd} {Hb : Hp}
/-- a clause's action over data: the new list lies at L since the base -/
def BodyOk (K : PySem.W.Frag) (mg : Str → Option Value) (n : N0) (L : Addr) (Wb : Wd) (Hb : Hp) (body : TB) (bd : Sl → List D → (List D → Prop) → Prop) : Prop :=
  ∀ W H σ δ acc vacc k (N : Hp → Prop), Stp Wb Hb W H → (∀ W' H', W.le W' → Stp Wb Hb W' H' → Stp n.1 n.2 W' H' → Sto K mg n W' H' σ δ) → Stp n.1 n.2 W H → H L = some (.lst vacc) → RepL K mg W vacc acc → Loose W L → bd δ acc k →
    (∀ W' H' acc' vacc', Stp Wb Hb W' H' → W.le W' → Stp n.1 n.2 W' H' → H' L = some (.lst vacc') → RepL K mg W' vacc' acc' → Loose W' L → k acc' → N H') → body σ H N
theorem last_ok (hL : Hb L = none) (sb : Stp n.1 n.2 Wb Hb) {we : Sl → (D → Prop) → Prop} : BodyOk K mg n L Wb Hb (tLast L (cV K mg n false we)) (lastD we) := by
  intro W H σ δ acc vacc k N s mvs sp eL rL lo h ho
  refine ⟨W, δ, _, mvs W H (.refl _) s sp, sp, h, fun W1 H1 v d s1 r1 h1 => ?_⟩
  have eL1 := s1.eff L _ eL lo.2
  have lo1 := s1.loose ⟨_, eL, fun _ z => by cases z⟩ lo
  have rL1 := rL.le s1.le
  have rv : Rep K mg W1 v d := by simpa [RepM] using r1
  have s2 := (s.trans s1).write hL lo1.1 lo1.2 (.lst (vacc ++ [v]))
  refine ⟨vacc, eL1, ?_, ho W1 _ (acc ++ [d]) (vacc ++ [v]) s2 s1.le (sb.trans s2) upd_same (rL1.append (.cons rv .nil)) lo1 h1.2⟩
  have := h1.1
  have hs : sizeLine = 16777216 := sizeLine_eq
  rw [rL1.length]; omega
theorem turns_ok {J : It} {ds : List D} {G : Wd → Hp → Prop} {W6 : Wd} {H6 : Hp} (wk : Wk K mg G J ds) (hG : ∀ W H, Stp Wb Hb W H → W6.le W → Stp n.1 n.2 W H → G W H) {t : Tg} {wt : Sl → (Bool → Prop) → Prop} {vs : List Nat} (hv : ∀ i ∈ t.slots, i ∈ vs) {body : TB} {bd : Sl → List D → (List D → Prop) → Prop} (hb : BodyOk K mg n L Wb Hb body bd)
    {σ : L2.St} {δ : Sl} {acc : List D} {vacc : List V} {k : List D → Prop} {N : Hp → Prop} (s : Stp Wb Hb W6 H6) (sp : Stp n.1 n.2 W6 H6) (mvs : ∀ W' H', W6.le W' → Stp Wb Hb W' H' → Stp n.1 n.2 W' H' → Sto K mg n W' H' σ δ) (eL : H6 L = some (.lst vacc)) (rL : RepL K mg W6 vacc acc) (lo : Loose W6 L)
    (h : turnsD t wt bd (wipeD δ vs) k ds acc) (ho : ∀ W' H' acc' vacc', Stp Wb Hb W' H' → W6.le W' → Stp n.1 n.2 W' H' → H' L = some (.lst vacc') → RepL K mg W' vacc' acc' → Loose W' L → k acc' → N H') :
    tTurns J (cG K mg n t.slots (tgD t)) (cT K mg n wt) vs body σ H6 N := by
  refine ⟨fun i m H => m = ds.length - i ∧ i ≤ ds.length ∧ ∃ W' acc vacc, Stp Wb Hb W' H ∧ W6.le W' ∧ Stp n.1 n.2 W' H ∧ H L = some (.lst vacc) ∧ RepL K mg W' vacc acc ∧ Loose W' L ∧ turnsD t wt bd (wipeD δ vs) k (ds.drop i) acc,
    ⟨ds.length, rfl, Nat.zero_le _, W6, acc, vacc, s, .refl _, sp, eL, rL, lo, h⟩, ?_⟩
  rintro i m H2 ⟨rfl, hi, W2, acc2, vacc2, s2, l2, sp2, eL2, rL2, lo2, h2⟩
  have g2 := hG W2 H2 s2 l2 sp2
  by_cases hlt : i < ds.length
  · rw [List.drop_eq_getElem_cons hlt] at h2
    refine .inr ⟨wk.go W2 H2 i g2 hlt, fun H' => ∃ W' acc vacc, Stp Wb Hb W' H' ∧ W6.le W' ∧ Stp n.1 n.2 W' H' ∧ H' L = some (.lst vacc) ∧ RepL K mg W' vacc acc ∧ Loose W' L ∧ turnsD t wt bd (wipeD δ vs) k (ds.drop (i + 1)) acc,
      fun H' h => ⟨_, Nat.sub_lt_sub_left hlt (Nat.lt_succ_self i), rfl, hlt, h⟩, fun x H3 y => ?_⟩
    obtain ⟨W3, s3, r3⟩ := wk.yld W2 H2 i x H3 ds[i] g2 sp2.ok (List.getElem?_eq_getElem hlt) y
    have s13 := s2.trans s3
    have sp3 := sp2.trans s3
    have l3 := l2.trans s3.le
    have eL3 := s3.eff L _ eL2 lo2.2
    have lo3 := s3.loose ⟨_, eL2, fun _ z => by cases z⟩ lo2
    have st3 := (mvs W3 H3 l3 s13 sp3).wipe vs
    refine ⟨W3, wipeD δ vs, ds[i], _, st3, sp3, r3, h2, fun σ4 δ4 mv ap h4 => ⟨(ap vs hv).trans (wipe_twice vs fun _ h => h), ?_⟩⟩
    have st4 := mv W3 _ (.refl W3) sp3 st3
    refine ⟨W3, δ4, _, st4, sp3, h4, fun W5 H5 c s5 h5 => ?_⟩
    have s15 := s13.trans s5
    have sp5 := sp3.trans s5
    have l5 := l3.trans s5.le
    have eL5 := s5.eff L _ eL3 lo3.2
    have lo5 := s5.loose ⟨_, eL3, fun _ z => by cases z⟩ lo3
    have rL5 := (rL2.le s3.le).le s5.le
    cases c with
    | false =>
      simp only [Bool.false_eq_true, if_false] at h5 ⊢
      exact ⟨W5, acc2, vacc2, s15, l5, sp5, eL5, rL5, lo5, h5⟩
    | true =>
      simp only [if_true] at h5 ⊢
      exact hb W5 H5 σ4 δ4 acc2 vacc2 _ _ s15 (fun W' H' l' s' sp' => mv W' H' (s5.le.trans l') sp' ((mvs W' H' (l5.trans l') s' sp').wipe vs)) sp5 eL5 rL5 lo5 h5 fun W' H' acc' vacc' s' l' sp' e' r' lo' k' => ⟨W', acc', vacc', s', l5.trans l', sp', e', r', lo', k'⟩
  · have e : i = ds.length := by omega
    subst e
    rw [List.drop_length] at h2
    exact .inl ⟨wk.stop W2 H2 _ g2 rfl, ho W2 H2 acc2 vacc2 s2 l2 sp2 eL2 rL2 lo2 h2⟩
theorem next_ok {wi : Sl → (List D → Prop) → Prop} {t : Tg} {wt : Sl → (Bool → Prop) → Prop} {vs : List Nat} (hv : ∀ i ∈ t.slots, i ∈ vs) {body : TB} {bd : Sl → List D → (List D → Prop) → Prop} (hb : BodyOk K mg n L Wb Hb body bd) :
    BodyOk K mg n L Wb Hb (fun σ H N => cI K mg n false wi σ H fun J H1 => tTurns J (cG K mg n t.slots (tgD t)) (cT K mg n wt) vs body σ H1 N) (nextD wi t wt bd vs) := by
  intro W H σ δ acc vacc k N s mvs sp eL rL lo h ho
  refine ⟨W, δ, _, mvs W H (.refl _) s sp, sp, h, fun W1 H1 J ds s1 wk h1 => ?_⟩
  rw [if_neg Bool.false_ne_true] at wk
  exact turns_ok wk (fun W' H' _ l' s' => ⟨l', s'⟩) hv hb (s.trans s1) (sp.trans s1) (fun W' H' l' s' sp' => mvs W' H' (s1.le.trans l') s' sp') (s1.eff L _ eL lo.2) (rL.le s1.le) (s1.loose ⟨_, eL, fun _ z => by cases z⟩ lo) h1 fun W' H' acc' vacc' s' l' sp' e' r' lo' k' => ho W' H' acc' vacc' s' (s1.le.trans l') sp' e' r' lo' k'
end
section
variable {X : Cx} {n : N0}
theorem cE.comp3 {wi wi1 wi2 : Sl → (List D → Prop) → Prop} {t t1 t2 : Tg} {wt wt1 wt2 : Sl → (Bool → Prop) → Prop} {we : Sl → (D → Prop) → Prop} {vs vs1 vs2 : List Nat} (hv : ∀ i ∈ t.slots, i ∈ vs) (hv1 : ∀ i ∈ t1.slots, i ∈ vs1) (hv2 : ∀ i ∈ t2.slots, i ∈ vs2) {σ : L2.St} {H : Hp} {Q : VK} (h : cE X.K X.mg n (wComp3 wi t wt wi1 t1 wt1 wi2 t2 wt2 we vs vs1 vs2) σ H Q) :
    tLc3 (cI X.K X.mg n true wi) (cG X.K X.mg n t.slots (tgD t)) (cT X.K X.mg n wt) (cI X.K X.mg n false wi1) (cG X.K X.mg n t1.slots (tgD t1)) (cT X.K X.mg n wt1) (cI X.K X.mg n false wi2) (cG X.K X.mg n t2.slots (tgD t2)) (cT X.K X.mg n wt2) (cV X.K X.mg n false we) vs vs1 vs2 σ H Q := by
  obtain ⟨W, δ, q, st, sp, hw, k⟩ := h
  refine ⟨W, δ, _, st, sp, hw, fun W1 H1 J ds s wk hq L hL => ?_⟩
  rw [if_pos rfl] at wk
  have sp1 := sp.trans s
  have nF : W1.F L = none := s.ok.sub.free hL
  have nT : ¬ W1.ofTown L := s.ok.notTown hL
  have sL := Stp.laidOwn s.ok hL (.lst [])
  have inner := next_ok hv1 (next_ok hv2 (last_ok (K := X.K) (mg := X.mg) (n := n) (we := we) hL sp1) (wi := wi2) (wt := wt2)) (wi := wi1) (wt := wt1)
  refine turns_ok wk (fun W' H' s' _ _ => s') hv inner sL (sp1.trans sL) (fun W' H' l' s' _ => (st.step s).step s') upd_same .nil ⟨nF, nT⟩ hq fun W' H' acc' vacc' s' l' sp' e' r' lo' k' => ?_
  exact k W' H' (.ref L) (.own (.lst acc')) (s.trans s') ⟨L, rfl, ⟨vacc', e', r'⟩, s.fresh hL, lo'⟩ k'
end
end TT

set_option Elab.async false
set_option linter.all false
set_option maxRecDepth 100000
set_option autoImplicit false
/-! Attributes of instances that stand still. -/
namespace TT
open PySem PySem.Spec L2
/-- an expression that may stand ahead of a point: super() is none -/
def recvB : Expr → Bool
  | .Name _ _ => true
  | .Attribute _ _ _ => true
  | .Subscript _ _ _ => true
  | .Call _ (_ :: _) _ _ => true
  | _ => false
/-- the field f of an instance of the class named c -/
def opAtt (c f : Str) (x : D) (q : DV → Prop) : Prop := match x with
  | .obj c' fs => c' = c ∧ match fs.lookup f with
    | some d => q (.v d)
    | none => False
  | _ => False
section
variable {X : Cx} {n : N0}
theorem recvB_ok {e : Expr} {m : Str} {env : Env} (h : recvB e = true) : attributeBase e m env (eval e env) = eval e env := by
  cases e <;> first | rfl | (simp [recvB] at h; done) | skip
  rename_i f es ks p
  cases es with
  | cons _ _ => cases f <;> rfl
  | nil => simp [recvB] at h
def opAttM (l : List Str) (f : Str) (x : D) (q : DV → Prop) : Prop := match x with
  | .obj c' fs => c' ∈ l ∧ match fs.lookup f with
    | some d => q (.v d)
    | none => False
  | _ => False
theorem de_attM {e : Expr} {l : List Str} {f : Str} {pos : Pos} {w : Sl → (D → Prop) → Prop} (hk : ∀ c ∈ l, ∀ C, X.mg c = some (.ref C) → Cls X.K C ∧ NoAttr X.K C f) (h : PE X e (cV X.K X.mg n true w)) (hb : attributeBase e f X.env (eval e X.env) = eval e X.env) :
    PE X (.Attribute e f pos) (cE X.K X.mg n (w1 w (opAttM l f))) := by
  refine PE.imp (pe_fld h hb) fun σ H Q ⟨W, δ, q, st, sp, hw, k⟩ => ⟨W, δ, _, st, sp, hw, fun W1 H1 v d s r hq => ?_⟩
  cases d <;> try exact hq.elim
  rename_i c' fs
  obtain ⟨hc, hq⟩ := hq
  split at hq
  · rename_i d e1
    obtain ⟨a, C, dx, xs, rfl, ha, hm, rf⟩ := r.read.obj s.ok
    obtain ⟨u, hu, ru⟩ := rf.lookup e1
    obtain ⟨h1, h2⟩ := hk c' hc C hm
    exact ⟨a, C, dx, xs, u, rfl, ha, h1, h2, hu, k W1 H1 u (.v d) s ru hq⟩
  · exact hq.elim
theorem de_att {e : Expr} {c f : Str} {pos : Pos} {w : Sl → (D → Prop) → Prop} (hk : ∀ C, X.mg c = some (.ref C) → Cls X.K C ∧ NoAttr X.K C f) (h : PE X e (cV X.K X.mg n true w)) (hb : attributeBase e f X.env (eval e X.env) = eval e X.env) :
    PE X (.Attribute e f pos) (cE X.K X.mg n (w1 w (opAtt c f))) := by
  refine PE.imp (pe_fld h hb) fun σ H Q ⟨W, δ, q, st, sp, hw, k⟩ => ⟨W, δ, _, st, sp, hw, fun W1 H1 v d s r hq => ?_⟩
  cases d <;> try exact hq.elim
  rename_i c' fs
  obtain ⟨rfl, hq⟩ := hq
  split at hq
  · rename_i d e1
    obtain ⟨a, C, dx, xs, rfl, ha, hm, rf⟩ := r.read.obj s.ok
    obtain ⟨u, hu, ru⟩ := rf.lookup e1
    obtain ⟨h1, h2⟩ := hk C hm
    exact ⟨a, C, dx, xs, u, rfl, ha, h1, h2, hu, k W1 H1 u (.v d) s ru hq⟩
  · exact hq.elim
end
end TT

set_option Elab.async false
set_option linter.all false
set_option maxRecDepth 100000
set_option autoImplicit false
/-! Methods of instances that stand still. -/
namespace TT
open PySem PySem.Spec L2
/-- the method m of the class named c keeps S -/
def MeG (P : Program) (w : World) (K : PySem.W.Frag) (mg : Str → Option Value) (base : Heap) (lv : Nat) (c m : Str) (br : List Bool) (S : DS) (dv : List D) : Prop :=
  ∃ (C a : Addr) (fd : FuncData) (ps : List Str) (ds : List Value) (dvs : List V), mg c = some (.ref C) ∧ Cls K C ∧ Meth K C m a ∧ FnOk P w K mg base (L2.CX P w) lv a fd ps (spD K mg (false :: br) S) ∧ Binds K fd ps ds ∧ Vals dvs ds ∧ ∀ W, RepL K mg W dvs dv
@[reducible] def wMeth (c m : Str) (wo : Sl → (D → Prop) → Prop) (wa : Sl → (List D → Prop) → Prop) (S : DS) (dv : List D) (Ed : Str → Prop) : Sl → (DV → Prop) → Prop := fun δ q => wo δ fun d => (∃ fs, d = .obj c fs ∧ fs.lookup m = none) ∧ wa δ fun ds => S (d :: (ds ++ dv)) q Ed
/-- o.m(..) of a name o -/
theorem meth_eval {env : Env} {m : Str} {apos pos : Pos} {o : Expr} {es : List Expr} (hb : attributeBase o m env (eval o env) = eval o env) (hf : methodCallForm (es.length + 0) (backTo pos (starEach es env)) (backToKw pos (keywordEach [] env)) = true) (hl : (apos.endLine == pos.line) = true) :
    eval (.Call (.Attribute o m apos) es [] pos) env = (do
      let ov ← eval o env
      standAt apos.atName
      let (f, first) ← holding [ov] (getMethod ov m (do return (← importBound o env).getD true))
      callWith pos f first (backTo pos (starEach es env)) (backToKw pos (keywordEach [] env))) := by
  rw [arm_eval_Call, hb]
  unfold methodCall calleeOf methodCallPos
  simp only [List.length_nil, hf, hl, if_true, Bool.not_true, Bool.false_or]
  rfl
section
variable {X : Cx} {E : XK} {n : N0} {Ed : Str → Prop} {lv : Nat}
theorem RepT.objR {K : PySem.W.Frag} {mg : Str → Option Value} {W : Wd} {H : Hp} {v : V} {c : Str} {ds : List (Str × D)} (r : RepT K mg W H v (.obj c ds)) : Rep K mg W v (.obj c ds) := by
  rcases r with r | ⟨_, _, z, _⟩
  · exact r
  · exact z.elim
theorem de_meth {pl : Sem Bool} {cn m : Str} {br ms : List Bool} {S : DS} {dv : List D} {apos pos : Pos} {o e : Expr} {es : List Expr} {wo : Sl → (D → Prop) → Prop} {wa : Sl → (List D → Prop) → Prop} (c : Ctx X E n Ed lv) (G : MeG X.prog X.w X.K X.mg X.base lv cn m br S dv) (hbr : br = ms ++ List.replicate dv.length false)
    (he : PE X o (cV X.K X.mg n true wo)) (ha : PA X (e :: es) (cA X.K X.mg n ms wa)) (hst : starEach (e :: es) X.env = (false, eval e X.env) :: starEach es X.env) (hpl : (backTo pos (starEach es X.env)).any (·.1) = false)
    (ht : eval (.Call (.Attribute o m apos) (e :: es) [] pos) X.env = (do
      let ov ← eval o X.env
      standAt apos.atName
      let (f, first) ← holding [ov] (getMethod ov m pl)
      callWith pos f first (backTo pos (starEach (e :: es) X.env)) (backToKw pos (keywordEach [] X.env)))) :
    PE X (.Call (.Attribute o m apos) (e :: es) [] pos) (cE X.K X.mg n (wMeth cn m wo wa S dv Ed)) := by
  obtain ⟨C, a, fd, ps, ds, dvs, hC, cl, me, F, hb, hd, hr⟩ := G
  refine PE.imp (pe_meth (E := E) he cl me F c.room hb hd c.pass ha hst hpl ht) fun σ H Q ⟨W, δ, q, st, sp, hw, k⟩ => ⟨W, δ, _, st, sp, hw, fun W1 H1 v d s r hq => ?_⟩
  obtain ⟨⟨fs, rfl, hl⟩, hq⟩ := hq
  have rr := r.read.objR
  have r0 := rr
  cases r0 with
  | obj e0 hm rf =>
    have eC := hm.symm.trans hC
    cases eC
    refine ⟨_, _, _, rfl, s.ok.sub _ _ e0, rf.none hl, W1, δ, _, st.step s, sp.trans s, hq, fun W2 H2 vs d1 s2 r2 q2 => ?_⟩
    have hl2 := (hr W2).length
    refine ⟨?_, W2, .obj cn fs :: (d1 ++ dv), q, Ed, s2.ok, ?_, q2, fun W' H' v dv s' r hq => k W' H' v dv ((s.trans s2).trans s') (VRep.pre (W := W) (fun a h => (s.trans s2).fresh h) r.v) hq, fun c' C W' H' he hc s' => c.exc c' C W' H' he hc (((sp.trans s).trans s2).trans s')⟩
    · rw [List.length_cons, List.length_append, r2.len.1, hbr, List.length_cons, List.length_append, List.length_replicate, hl2]
    · rw [hbr]
      exact .cons (by simpa [RepM] using rr.le s2.le) (r2.app (hr W2).args)
theorem de_meth0 {pl : Sem Bool} {cn m : Str} {br : List Bool} {S : DS} {dv : List D} {apos pos : Pos} {o : Expr} {wo : Sl → (D → Prop) → Prop} (c : Ctx X E n Ed lv) (G : MeG X.prog X.w X.K X.mg X.base lv cn m br S dv) (hbr : br = List.replicate dv.length false)
    (he : PE X o (cV X.K X.mg n true wo))
    (ht : eval (.Call (.Attribute o m apos) [] [] pos) X.env = (do
      let ov ← eval o X.env
      standAt apos.atName
      let (f, first) ← holding [ov] (getMethod ov m pl)
      callWith pos f first (backTo pos (starEach [] X.env)) (backToKw pos (keywordEach [] X.env)))) :
    PE X (.Call (.Attribute o m apos) [] [] pos) (cE X.K X.mg n (wMeth cn m wo waNil S dv Ed)) := by
  obtain ⟨C, a, fd, ps, ds, dvs, hC, cl, me, F, hb, hd, hr⟩ := G
  refine PE.imp (pe_meth0 (E := E) he cl me F c.room hb hd c.pass ht) fun σ H Q ⟨W, δ, q, st, sp, hw, k⟩ => ⟨W, δ, _, st, sp, hw, fun W1 H1 v d s r hq => ?_⟩
  obtain ⟨⟨fs, rfl, hl⟩, hq⟩ := hq
  have rr := r.read.objR
  have r0 := rr
  cases r0 with
  | obj e0 hm rf =>
    have eC := hm.symm.trans hC
    cases eC
    have hl2 := (hr W1).length
    refine ⟨_, _, _, rfl, s.ok.sub _ _ e0, rf.none hl, ?_, W1, .obj cn fs :: dv, q, Ed, s.ok, ?_, hq, fun W' H' v dv s' r hq => k W' H' v dv (s.trans s') (VRep.pre (W := W) (fun a h => s.fresh h) r.v) hq, fun c' C W' H' he hc s' => c.exc c' C W' H' he hc ((sp.trans s).trans s')⟩
    · show (_ :: ([] ++ dvs)).length = _
      rw [List.nil_append, List.length_cons, List.length_cons, hl2, hbr, List.length_replicate]
    · rw [hbr]
      exact .cons (by simpa [RepM] using rr) (hr W1).args
end
end TT

set_option Elab.async false
set_option linter.all false
set_option maxRecDepth 100000
set_option autoImplicit false
/-! self.f = e, self an instance that is being made. -/
namespace TT
open PySem PySem.Spec L2
def putD (f : Str) (v : D) : List (Str × D) → List (Str × D)
  | [] => [(f, v)]
  | (g, x) :: r => if g = f then (g, v) :: r else (g, x) :: putD f v r
theorem RepF.put {K : PySem.W.Frag} {mg : Str → Option Value} {W : Wd} {f : Str} {v : V} {d : D} (h : Rep K mg W v d) : ∀ {xs : List (Str × V)} {ds : List (Str × D)}, RepF K mg W xs ds → RepF K mg W (putF f v xs) (putD f d ds)
  | _, _, .nil => .cons h .nil
  | _, _, .cons (k := g) r rs => by
    unfold putF putD
    by_cases e : g = f
    · rw [if_pos e, if_pos e]
      exact .cons h rs
    · rw [if_neg e, if_neg e]
      exact .cons r (RepF.put h rs)
/-- no instance with a list of its own among the slots -/
def isL : Option DV → Bool
  | some (.insL _ _ _ _ _) => true
  | _ => false
def noL (δ : Sl) : Bool := δ.all fun o => !isL o
theorem noL_no {δ : Sl} (h : noL δ = true) (j : Nat) (A : Addr) (c : Str) (fs : List (Str × D)) (f : Str) (ds : List D) : δ[j]? ≠ some (some (.insL A c fs f ds)) := fun e => by
  have := List.all_eq_true.mp h _ (List.mem_of_getElem? e)
  cases this
@[reducible] def swFld (i : Nat) (cn f : Str) (w : Sl → (D → Prop) → Prop) : Kn → Sl → Prop := fun k δ => match δ.getD i none with
  | some (.ins a c fs) => c = cn ∧ noL δ = true ∧ w δ fun d => fs.length < 1000 ∧ k.nx (δ.set i (some (.ins a c (putD f d fs))))
  | _ => False
section
variable {X : Cx} {n : N0} {e : Expr} {pos : Pos}
theorem ds_fld {i : Nat} {x cn f : Str} {p pa : Pos} {w : Sl → (D → Prop) → Prop} (hk : ∀ C, X.mg cn = some (.ref C) → Cls X.K C ∧ NoAttr X.K C f) (hN : X.N[i]? = some x) (hv : Vis X.env.scope x) (hd : (x == ("__debug__" : Str)) = false) (hcd : (x == ("__classdict__" : Str)) = false)
    (h : PE X e (cV X.K X.mg n false w)) (hs : swapsWith e (some (.Attribute (.Name x p) f pa)) pos.line X.env = pure false) : PS X (.Assign [.Attribute (.Name x p) f pa] e pos) (cS X.K X.mg n (swFld i cn f w)) := by
  refine PS.imp (ps_fld (pe_var hN hv hd hcd) h hs) fun D σ H ⟨W, δ, k, st, sp, hw, g⟩ => ?_
  have st0 := st
  obtain ⟨l, ow, h1, h2, h3⟩ := st
  unfold swFld at hw
  rw [List.getD_eq_getElem?_getD] at hw
  cases hi : δ[i]? with
  | none => rw [hi] at hw; exact hw.elim
  | some o =>
    rw [hi] at hw
    cases o with
    | none => exact hw.elim
    | some dv =>
      cases dv with
      | ins a c fs =>
        obtain ⟨rfl, hL, hw⟩ := hw
        obtain ⟨v, e1, C, dx, xs, ea, ev, ex, hm, rx⟩ := h1 i _ hi
        subst ev
        refine ⟨W, δ, _, st0, sp, hw, fun W1 H1 v d s r hq => ?_⟩
        have th : ∀ j b, ow j = some b → ∃ o, H b = some o := fun j b e => (h3 j b e).2.1.ex
        have ex1 : H1 a = some (.ins C dx xs) := s.eff a _ ex (h3 i a ea).2.2.2
        have rv : Rep X.K X.mg W1 v d := by simpa [RepM] using r
        have h1' : ∀ j dw, δ[j]? = some (some dw) → ∃ v, σ[j]? = some (some v) ∧ SRep X.K X.mg n W1 H1 v (ow j) dw := fun j dw e => by
          obtain ⟨u, eu, ru⟩ := h1 j dw e
          exact ⟨u, eu, ru.step s fun b q => (h3 j b q).2.2⟩
        have h3' : ∀ j b, ow j = some b → n.2 b = none ∧ NTup (H1 b) ∧ Loose W1 b := fun j b e => by
          obtain ⟨b1, b2, b3⟩ := h3 j b e
          exact ⟨b1, by rw [s.at (th j b e) b3.2]; exact b2, s.loose b2 b3⟩
        obtain ⟨k1, k2⟩ := hk C hm
        obtain ⟨s3, t3⟩ := Sto.write (dv := .ins a c (putD f d fs)) (o := .ins C dx (putF f v xs)) l ow h1' h2 h3' (sp.trans s) (.inr (noL_no hL)) ea ⟨_, e1, C, dx, _, rfl, rfl, upd_same, hm, RepF.put rv (rx.le s.le)⟩
        exact ⟨.ref a, e1, a, C, dx, xs, rfl, ex1, k1, k2, by rw [rx.length]; exact hq.1, g.nx W1 _ σ _ s.le s3 t3 hq.2⟩
      | _ => exact hw.elim
end
end TT

set_option Elab.async false
set_option linter.all false
set_option maxRecDepth 100000
set_option autoImplicit false
/-! self.f = [], self.f.append(e): an instance that is being made, with a list of its own. -/
namespace TT
open PySem PySem.Spec L2
theorem look_app {f : Str} {v : V} : ∀ {xs : List (Str × V)}, xs.lookup f = none → (xs ++ [(f, v)]).lookup f = some v
  | [], _ => by simp
  | (g, x) :: xs, h => by
    by_cases e : f = g
    · subst e; simp at h
    · have hb : (f == g) = false := beq_eq_false_iff_ne.mpr e
      simp only [List.cons_append, List.lookup, hb] at h ⊢
      exact look_app h
theorem putF_new {f : Str} {v : V} : ∀ {xs : List (Str × V)}, xs.lookup f = none → putF f v xs = xs ++ [(f, v)]
  | [], _ => rfl
  | (g, x) :: xs, h => by
    by_cases e : g = f
    · subst e; simp at h
    · have hb : (f == g) = false := beq_eq_false_iff_ne.mpr (Ne.symm e)
      simp only [List.lookup, hb] at h
      unfold putF
      rw [if_neg e, putF_new h]
      rfl
theorem RepF.app {K : PySem.W.Frag} {mg : Str → Option Value} {W : Wd} {f : Str} {v : V} {d : D} (h : Rep K mg W v d) : ∀ {xs : List (Str × V)} {ds : List (Str × D)}, RepF K mg W xs ds → RepF K mg W (xs ++ [(f, v)]) (ds ++ [(f, d)])
  | _, _, .nil => .cons h .nil
  | _, _, .cons r rs => .cons r (RepF.app h rs)
@[reducible] def wSelfL (i : Nat) (cn f : Str) : Sl → (DV → Prop) → Prop := fun δ q => match δ.getD i none with
  | some (.insL _ c _ g ds) => c = cn ∧ g = f ∧ q (.bl (.lst ds))
  | _ => False
@[reducible] def swFldL (i : Nat) (cn f : Str) (w : Sl → (DV → Prop) → Prop) : Kn → Sl → Prop := fun k δ => match δ.getD i none with
  | some (.ins a c fs) => c = cn ∧ noL δ = true ∧ fs.lookup f = none ∧ w δ fun dv => ∃ ds, dv = .own (.lst ds) ∧ fs.length < 1000 ∧ k.nx (δ.set i (some (.insL a c fs f ds)))
  | _ => False
@[reducible] def swAppL (i : Nat) (cn f : Str) (w : Sl → (D → Prop) → Prop) : Kn → Sl → Prop := fun k δ => match δ.getD i none with
  | some (.insL a c fs g ds) => c = cn ∧ g = f ∧ w δ fun d => ds.length ≤ 1000000 ∧ k.nx (δ.set i (some (.insL a c fs g (ds ++ [d]))))
  | _ => False
section
variable {X : Cx} {n : N0} {e : Expr} {pos : Pos} {i : Nat} {x cn f : Str} {p pa : Pos}
theorem de_selfL (hk : ∀ C, X.mg cn = some (.ref C) → Cls X.K C ∧ NoAttr X.K C f) (hN : X.N[i]? = some x) (hv : Vis X.env.scope x) (hd : (x == ("__debug__" : Str)) = false) (hcd : (x == ("__classdict__" : Str)) = false) : PE X (.Attribute (.Name x p) f pa) (cE X.K X.mg n (wSelfL i cn f)) := by
  refine PE.imp (pe_fld (pe_var hN hv hd hcd) rfl) fun σ H Q ⟨W, δ, q, st, sp, hw, k⟩ => ?_
  obtain ⟨l, ow, h1, h2, h3⟩ := st
  unfold wSelfL at hw
  rw [List.getD_eq_getElem?_getD] at hw
  cases hi : δ[i]? with
  | none => rw [hi] at hw; exact hw.elim
  | some o =>
    rw [hi] at hw
    cases o with
    | none => exact hw.elim
    | some dv =>
      cases dv with
      | insL a c fs g ds =>
        obtain ⟨rfl, rfl, hw⟩ := hw
        obtain ⟨v, e1, C, dx, xs, b, vs, ea, ev, ex, hm, rx, lk, hb, rl, h0, lo⟩ := h1 i _ hi
        subst ev
        obtain ⟨k1, k2⟩ := hk C hm
        exact ⟨.ref a, e1, a, C, dx, _, .ref b, rfl, ex, k1, k2, look_app (rx.none lk), k W H (.ref b) (.bl (.lst ds)) (.refl sp.ok) (.inr ⟨b, rfl, ⟨vs, hb, rl⟩, (h3 i b ea).2.2.2⟩) hw⟩
      | _ => exact hw.elim
theorem ds_fldL {w : Sl → (DV → Prop) → Prop} (hk : ∀ C, X.mg cn = some (.ref C) → Cls X.K C ∧ NoAttr X.K C f) (hN : X.N[i]? = some x) (hv : Vis X.env.scope x) (hd : (x == ("__debug__" : Str)) = false) (hcd : (x == ("__classdict__" : Str)) = false)
    (h : PE X e (cE X.K X.mg n w)) (hs : swapsWith e (some (.Attribute (.Name x p) f pa)) pos.line X.env = pure false) : PS X (.Assign [.Attribute (.Name x p) f pa] e pos) (cS X.K X.mg n (swFldL i cn f w)) := by
  refine PS.imp (ps_fld (pe_var hN hv hd hcd) h hs) fun D σ H ⟨W, δ, k, st, sp, hw, g⟩ => ?_
  have st0 := st
  obtain ⟨l, ow, h1, h2, h3⟩ := st
  unfold swFldL at hw
  rw [List.getD_eq_getElem?_getD] at hw
  cases hi : δ[i]? with
  | none => rw [hi] at hw; exact hw.elim
  | some o =>
    rw [hi] at hw
    cases o with
    | none => exact hw.elim
    | some dv =>
      cases dv with
      | ins a c fs =>
        obtain ⟨rfl, hL, lk, hw⟩ := hw
        obtain ⟨v, e1, C, dx, xs, ea, ev, ex, hm, rx⟩ := h1 i _ hi
        subst ev
        refine ⟨W, δ, _, st0, sp, hw, fun W1 H1 v dv s r hq => ?_⟩
        obtain ⟨ds, rfl, hlen, hq⟩ := hq
        ·
            obtain ⟨b, rfl, ⟨vs, eb, rl⟩, hb, lb⟩ := r
            have th : ∀ j b, ow j = some b → ∃ o, H b = some o := fun j b e => (h3 j b e).2.1.ex
            obtain ⟨a1, a2, a3⟩ := h3 i a ea
            have ex1 : H1 a = some (.ins C dx xs) := s.eff a _ ex a3.2
            have l1 := s.loose a2 a3
            have nb : b ≠ a := fun z => by rw [z, ex] at hb; cases hb
            obtain ⟨k1, k2⟩ := hk C hm
            have ePut : putF f (.ref b) xs = xs ++ [(f, .ref b)] := putF_new (rx.none lk)
            have spn := sp.trans s
            have s3 : Stp n.1 n.2 W1 (upd H1 a (.ins C dx (putF f (.ref b) xs))) := spn.write a1 l1.1 l1.2 _
            have hlt : i < δ.length := (List.getElem?_eq_some_iff.mp hi).1
            refine ⟨.ref a, e1, a, C, dx, xs, rfl, ex1, k1, k2, by rw [rx.length]; exact hlen, g.nx W1 _ σ _ s.le s3 ?_ hq⟩
            refine ⟨by rw [List.length_set, l], fun j => if j = i then some b else ow j, fun j dw e => ?_, fun j m u e2 e3 => ?_, fun j u e2 => ?_⟩
            · by_cases hj : j = i
              · subst hj
                rw [List.getElem?_set_self hlt] at e
                cases e
                refine ⟨.ref a, e1, ?_⟩
                show SRep X.K X.mg n W1 _ (.ref a) (if j = j then some b else ow j) _
                rw [if_pos rfl]
                exact ⟨C, dx, xs, b, vs, rfl, rfl, by rw [upd_same, ePut], hm, rx.le s.le, lk, by rw [upd_ne nb]; exact eb, rl, a1, l1⟩
              · rw [List.getElem?_set_ne (Ne.symm hj)] at e
                obtain ⟨u, eu, ru⟩ := h1 j dw e
                refine ⟨u, eu, ?_⟩
                show SRep X.K X.mg n W1 _ u (if j = i then some b else ow j) dw
                rw [if_neg hj]
                have ne : ∀ u, ow j = some u → u ≠ a := fun u e2 z => hj (h2 j i a (by rw [← z]; exact e2) ea)
                have ru := ru.step s fun u e2 => (h3 j u e2).2.2
                cases dw with
                | v d => exact ru
                | own d =>
                  obtain ⟨u, eb, ev', c'⟩ := ru
                  exact ⟨u, eb, ev', c'.le (.refl _) (upd_ne (ne u eb))⟩
                | bp d => exact ru
                | bl d => exact ru.elim
                | ins ac cc fs =>
                  obtain ⟨C, dx, xs, eb, ev', hb, m, rf⟩ := ru
                  exact ⟨C, dx, xs, eb, ev', by rw [upd_ne (ne ac eb)]; exact hb, m, rf⟩
                | insL ac cc fs f ds => exact absurd e (noL_no hL _ _ _ _ _ _)
                | pin u d =>
                  obtain ⟨eb, ev', c'⟩ := ru
                  exact ⟨eb, ev', c'.le (.refl _) (upd_ne (ne u eb))⟩
            · have e2 : (if j = i then some b else ow j) = some u := e2
              have e3 : (if m = i then some b else ow m) = some u := e3
              have apart : ∀ j, ow j = some b → False := fun j z => by
                obtain ⟨o, q⟩ := th j b z
                rw [hb] at q; cases q
              by_cases hj : j = i
              · by_cases hm : m = i
                · rw [hj, hm]
                · rw [if_pos hj] at e2
                  rw [if_neg hm] at e3
                  cases e2
                  exact (apart m e3).elim
              · rw [if_neg hj] at e2
                by_cases hm : m = i
                · rw [if_pos hm] at e3
                  cases e3
                  exact (apart j e2).elim
                · rw [if_neg hm] at e3
                  exact h2 j m u e2 e3
            · have e2 : (if j = i then some b else ow j) = some u := e2
              by_cases hj : j = i
              · rw [if_pos hj] at e2
                cases e2
                exact ⟨sp.fresh hb, by rw [upd_ne nb]; exact ⟨_, eb, fun _ z => by cases z⟩, lb⟩
              · rw [if_neg hj] at e2
                have ne : u ≠ a := fun z => hj (h2 j i a (by rw [← z]; exact e2) ea)
                obtain ⟨b1, b2, b3⟩ := h3 j u e2
                exact ⟨b1, by rw [upd_ne ne, s.at b2.ex b3.2]; exact b2, s.loose b2 b3⟩
      | _ => exact hw.elim
theorem ds_appL {pb pc : Pos} {w : Sl → (D → Prop) → Prop} (hk : ∀ C, X.mg cn = some (.ref C) → Cls X.K C ∧ NoAttr X.K C f) (hN : X.N[i]? = some x) (hv : Vis X.env.scope x) (hd : (x == ("__debug__" : Str)) = false) (hcd : (x == ("__classdict__" : Str)) = false)
    (h : PE X e (cV X.K X.mg n false w)) (hs : starEach (e :: []) X.env = (false, eval e X.env) :: starEach [] X.env) (hl : (pb.endLine == pc.line) = true) : PS X (.Expr (.Call (.Attribute (.Attribute (.Name x p) f pa) "append" pb) [e] [] pc) pos) (cS X.K X.mg n (swAppL i cn f w)) := by
  have pe := pe_bm (X := X) (cpos := pc) (apos := pb) PySem.F.plainAttrs_list PySem.F.slot_list_append PySem.F.type_list_append mt_append (pe_fld (f := f) (pos := pa) (pe_var (pos := p) hN hv hd hcd) rfl) (pa_cons h pa_nil hs) (by rfl) (by rw [hs]; rfl) hl hs
  refine PS.imp (ps_expr pe) fun D σ H ⟨W, δ, k, st, sp, hw, g⟩ => ?_
  have st0 := st
  obtain ⟨l, ow, h1, h2, h3⟩ := st
  unfold swAppL at hw
  rw [List.getD_eq_getElem?_getD] at hw
  cases hi : δ[i]? with
  | none => rw [hi] at hw; exact hw.elim
  | some o =>
    rw [hi] at hw
    cases o with
    | none => exact hw.elim
    | some dv =>
      cases dv with
      | insL a c fs g' ds =>
        obtain ⟨rfl, rfl, hw⟩ := hw
        obtain ⟨v, e1, C, dx, xs, b, vs, ea, ev, ex, hm, rx, lk, hb, rl, h0, lo⟩ := h1 i _ hi
        subst ev
        obtain ⟨k1, k2⟩ := hk C hm
        refine ⟨.ref a, e1, a, C, dx, _, .ref b, rfl, ex, k1, k2, look_app (rx.none lk), .inl ⟨rfl, _, SqL.of hb⟩, W, δ, _, st0, sp, hw, fun W1 H1 v d s r hq => ?_⟩
        have th : ∀ j b, ow j = some b → ∃ o, H b = some o := fun j b e => (h3 j b e).2.1.ex
        have ex1 : H1 b = some (.lst vs) := s.eff b _ hb (h3 i b ea).2.2.2
        have ea1 : H1 a = some (.ins C dx (xs ++ [(g', .ref b)])) := s.eff a _ ex lo.2
        have nb : a ≠ b := fun z => by rw [z, ex1] at ea1; cases ea1
        have hlen : vs.length < sizeLine := by
          have := hq.1
          have hs : sizeLine = 16777216 := sizeLine_eq
          rw [rl.length]; omega
        have rv : Rep X.K X.mg W1 v d := by simpa [RepM] using r
        have h1' : ∀ j dw, δ[j]? = some (some dw) → ∃ v, σ[j]? = some (some v) ∧ SRep X.K X.mg n W1 H1 v (ow j) dw := fun j dw e => by
          obtain ⟨u, eu, ru⟩ := h1 j dw e
          exact ⟨u, eu, ru.step s fun b q => (h3 j b q).2.2⟩
        have h3' : ∀ j b, ow j = some b → n.2 b = none ∧ NTup (H1 b) ∧ Loose W1 b := fun j b e => by
          obtain ⟨b1, b2, b3⟩ := h3 j b e
          exact ⟨b1, by rw [s.at (th j b e) b3.2]; exact b2, s.loose b2 b3⟩
        obtain ⟨s3, t3⟩ := Sto.write (dv := .insL a c fs g' (ds ++ [d])) (o := .lst (vs ++ [v])) l ow h1' h2 h3' (sp.trans s) (.inl fun _ _ _ z => by rw [ex1] at z; cases z) ea
          ⟨_, e1, C, dx, xs, b, vs ++ [v], rfl, rfl, by rw [upd_ne nb]; exact ea1, hm, rx.le s.le, lk, upd_same, (rl.le s.le).append (.cons rv .nil), h0, s.loose ⟨_, ex, fun _ z => by cases z⟩ lo⟩
        exact ⟨b, vs, v, rfl, rfl, ex1, hlen, g.nx W1 _ σ _ s.le s3 t3 hq.2⟩
      | _ => exact hw.elim
end
end TT

set_option Elab.async false
set_option linter.all false
set_option maxRecDepth 100000
set_option autoImplicit false
/-! Calls with keywords; instances that are made. -/
namespace TT
open PySem PySem.Spec L2
section
variable (P : Program) (w : World) (K : PySem.W.Frag) (mg : Str → Option Value) (base : Heap) (lv : Nat)
/-- f(.., ks = ..): n positional ones; dv: the defaults that fill up -/
def FnK (f : Str) (n : Nat) (ks : List Str) (br : List Bool) (S : DS) (dv : List D) : Prop :=
  ∃ (a : Addr) (fd : FuncData) (ps : List Str) (g : List Value → List Value → List Value) (dvs : List V), FnOk P w K mg base (L2.CX P w) lv a fd ps (spD K mg br S) ∧ mg f = some (.ref a) ∧ PySem.W.keepIn K (.ref a) = true ∧
    KBn K fd ps n ks g (fun vs zs => vs ++ (zs ++ dvs)) ∧ ∀ W, RepL K mg W dvs dv
end
/-- what __init__ of the class named cn promises: vs begins with the instance that is being made -/
def spI (K : PySem.W.Frag) (mg : Str → Option Value) (cn : Str) (br : List Bool) (S : DS) : Sp := fun vs H Q E => ∃ (x : Addr) (vs' : List V), vs = .ref x :: vs' ∧ vs'.length = br.length ∧
  ∃ W H0 dx C ds q Ed, WOk W H0 ∧ H0 x = none ∧ H0 dx = none ∧ dx ≠ x ∧ mg cn = some (.ref C) ∧ H = upd (upd H0 dx (.own x)) x (.ins C dx []) ∧ ArgsR K mg W H0 br vs' ds ∧ S ds q Ed ∧
    (∀ W' H' fs, Stp W H0 W' H' → Rep K mg W' (.ref x) (.obj cn fs) → q (.v (.obj cn fs)) → Q .non H') ∧ ∀ c C' W' H', Ed c → mg c = some (.ref C') → Stp W H0 W' H' → E (.ref C') none H'
section
variable (P : Program) (w : World) (K : PySem.W.Frag) (mg : Str → Option Value) (base : Heap) (lv : Nat)
/-- the class named cn is made, positionally / by keywords -/
def MkG (cn : Str) (br : List Bool) (S : DS) (dv : List D) : Prop :=
  ∃ (C f : Addr) (fd : FuncData) (ps : List Str) (ds : List Value) (dvs : List V), mg cn = some (.ref C) ∧ Mk K C f ∧ FnOk P w K mg base (L2.CX P w) lv f fd ps (spI K mg cn br S) ∧ Binds K fd ps ds ∧ Vals dvs ds ∧ ∀ W, RepL K mg W dvs dv
def MkK (cn : Str) (ks : List Str) (br : List Bool) (S : DS) (dv : List D) : Prop :=
  ∃ (C f : Addr) (fd : FuncData) (ps : List Str) (g : List Value → List Value → List Value) (dvs : List V), mg cn = some (.ref C) ∧ Mk K C f ∧ FnOk P w K mg base (L2.CX P w) lv f fd ps (spI K mg cn br S) ∧
    KBn K fd ps 1 ks g (fun vs zs => vs ++ (zs ++ dvs)) ∧ ∀ W, RepL K mg W dvs dv
end
/-- the class named c is made, by position and by keywords -/
def MkP (P : Program) (w : World) (K : PySem.W.Frag) (mg : Str → Option Value) (base : Heap) (lv : Nat) (cn : Str) (n : Nat) (ks : List Str) (br : List Bool) (S : DS) (dv : List D) : Prop :=
  ∃ (C f : Addr) (fd : FuncData) (ps : List Str) (g : List Value → List Value → List Value) (dvs : List V), mg cn = some (.ref C) ∧ Mk K C f ∧ FnOk P w K mg base (L2.CX P w) lv f fd ps (spI K mg cn br S) ∧
    KBn K fd ps (n + 1) ks g (fun vs zs => vs ++ (zs ++ dvs)) ∧ ∀ W, RepL K mg W dvs dv
section
variable {X : Cx} {E : XK} {n : N0} {Ed : Str → Prop} {lv : Nat}
theorem dk_nil : PK X [] (cA X.K X.mg n [] waNil) := ⟨fun pos pins s σ H Q I ⟨W, δ, q, st, sp, hw, k⟩ => pk_nil.run pos pins s σ H Q I (k W H [] [] (.refl sp.ok) .nil hw)⟩
theorem dk_cons {m : Bool} {ms : List Bool} {e : Expr} {kws : List Keyword} {nm : Option Str} {kp : Pos} {w : Sl → (D → Prop) → Prop} {wr : Sl → (List D → Prop) → Prop} (h : PE X e (cV X.K X.mg n m w)) (hr : PK X kws (cA X.K X.mg n ms wr)) : PK X (⟨nm, e, kp⟩ :: kws) (cA X.K X.mg n (m :: ms) (waCons w wr)) := by
  refine ⟨fun pos pins s σ H Q I ⟨W, δ, q, st, sp, hw, k⟩ => (pk_cons h hr).run pos pins s σ H Q I ⟨W, δ, _, st, sp, hw, fun W1 H1 v d s r hq => ⟨W1, δ, _, st.step s, sp.trans s, hq, fun W2 H2 vs ds s2 rs hq2 => ?_⟩⟩⟩
  exact k W2 H2 (v :: vs) (d :: ds) (s.trans s2) (.cons (r.step s2) rs) hq2
@[reducible] def wCallK (wa wk : Sl → (List D → Prop) → Prop) (S : DS) (dv : List D) (Ed : Str → Prop) : Sl → (DV → Prop) → Prop := fun δ q => wa δ fun ds => wk δ fun zs => S (ds ++ (zs ++ dv)) q Ed
theorem de_callK {f : Str} {br ms mk : List Bool} {S : DS} {dv : List D} {ks : List Str} {x : Str} {p pos : Pos} {e : Expr} {es : List Expr} {kws : List Keyword} {wa wk : Sl → (List D → Prop) → Prop} (c : Ctx X E n Ed lv)
    (G : FnK X.prog X.w X.K X.mg X.base lv x ms.length ks br S dv) (hbr : br = ms ++ (mk ++ List.replicate dv.length false)) (hmk : mk.length = ks.length) (hg : Gl X x) (ha : PA X (e :: es) (cA X.K X.mg n ms wa)) (hkw : PK X kws (cA X.K X.mg n mk wk))
    (hdb : (x == ("__debug__" : Str)) = false) (he : starEach (e :: es) X.env = (false, eval e X.env) :: starEach es X.env)
    (hall : (backToKw pos (keywordEach kws X.env)).all (·.1.isSome) = true) (hks : (backToKw pos (keywordEach kws X.env)).filterMap (·.1) = ks)
    (hpl : ((backTo pos (starEach (e :: es) X.env)).any (·.1) || (backToKw pos (keywordEach kws X.env)).any (·.1.isNone)) = false) : PE X (.Call (.Name x p) (e :: es) kws pos) (cE X.K X.mg n (wCallK wa wk S dv Ed)) := by
  obtain ⟨a, fd, ps, g, dvs, F, hm, hk, hb, hr⟩ := G
  refine PE.imp (pe_callN (E := E) F c.room hg hm hk hb c.pass ha hkw hall hks hdb he hpl) fun σ H Q ⟨W, δ, q, st, sp, hw, k⟩ => ⟨W, δ, _, st, sp, hw, fun W1 H1 vs d1 s1 r1 q1 => ⟨W1, δ, _, st.step s1, sp.trans s1, q1, fun W2 H2 zs d2 s2 r2 q2 => ?_⟩⟩
  have hl := (hr W2).length
  refine ⟨r1.len.1, r2.len.1.trans hmk, ?_, W2, d1 ++ (d2 ++ dv), q, Ed, s2.ok, ?_, q2, fun W' H' v dv s r hq => k W' H' v dv ((s1.trans s2).trans s) (VRep.pre (W := W) (fun a h => (s1.trans s2).fresh h) r.v) hq, fun c' C W' H' he hc s => c.exc c' C W' H' he hc (((sp.trans s1).trans s2).trans s)⟩
  · rw [List.length_append, List.length_append, r1.len.1, r2.len.1, hbr, List.length_append, List.length_append, List.length_replicate, hl]
  · rw [hbr]
    exact (r1.step s2).app (r2.app (hr W2).args)
@[reducible] def wMk (wa : Sl → (List D → Prop) → Prop) (S : DS) (dv : List D) (Ed : Str → Prop) : Sl → (DV → Prop) → Prop := fun δ q => wa δ fun ds => S (ds ++ dv) q Ed
theorem de_mk {cn : Str} {br ms : List Bool} {S : DS} {dv : List D} {p pos : Pos} {e : Expr} {es : List Expr} {wa : Sl → (List D → Prop) → Prop} (c : Ctx X E n Ed lv) {j : Nat} (hj : lv = j + 1) (G : MkG X.prog X.w X.K X.mg X.base j cn br S dv) (hbr : br = ms ++ List.replicate dv.length false)
    (hg : Gl X cn) (ha : PA X (e :: es) (cA X.K X.mg n ms wa)) (hdb : (cn == ("__debug__" : Str)) = false) (he : starEach (e :: es) X.env = (false, eval e X.env) :: starEach es X.env)
    (hpl : (backTo pos (starEach es X.env)).any (·.1) = false) : PE X (.Call (.Name cn p) (e :: es) [] pos) (cE X.K X.mg n (wMk wa S dv Ed)) := by
  obtain ⟨C, f, fd, ps, ds, dvs, hC, M, F, hb, hd, hr⟩ := G
  subst hj
  refine PE.imp (pe_make (E := E) M F c.room hg hC hb hd c.pass ha hdb he hpl) fun σ H Q ⟨W, δ, q, st, sp, hw, k⟩ => ⟨W, δ, _, st, sp, hw, fun W1 H1 vs d1 s1 r1 q1 x dx hx hdx hne => ?_⟩
  have hl := (hr W1).length
  refine ⟨x, vs ++ dvs, rfl, ?_, W1, H1, dx, C, d1 ++ dv, q, Ed, s1.ok, hx, hdx, hne, hC, rfl, ?_, q1, fun W' H' fs s r hq => ⟨rfl, k W' H' _ (.v (.obj cn fs)) (s1.trans s) r hq⟩, fun c' C W' H' he hc s => c.exc c' C W' H' he hc ((sp.trans s1).trans s)⟩
  · rw [List.length_append, r1.len.1, hbr, List.length_append, List.length_replicate, hl]
  · rw [hbr]
    exact r1.app (hr W1).args
theorem de_mkK {cn : Str} {br mk : List Bool} {S : DS} {dv : List D} {ks : List Str} {p pos : Pos} {kws : List Keyword} {wk : Sl → (List D → Prop) → Prop} (c : Ctx X E n Ed lv) {j : Nat} (hj : lv = j + 1) (G : MkK X.prog X.w X.K X.mg X.base j cn ks br S dv) (hbr : br = mk ++ List.replicate dv.length false)
    (hmk : mk.length = ks.length) (hg : Gl X cn) (hkw : PK X kws (cA X.K X.mg n mk wk)) (hdb : (cn == ("__debug__" : Str)) = false)
    (hall : (backToKw pos (keywordEach kws X.env)).all (·.1.isSome) = true) (hks : (backToKw pos (keywordEach kws X.env)).filterMap (·.1) = ks)
    (hpl : ((backTo pos (starEach [] X.env)).any (·.1) || (backToKw pos (keywordEach kws X.env)).any (·.1.isNone)) = false) : PE X (.Call (.Name cn p) [] kws pos) (cE X.K X.mg n (wMk wk S dv Ed)) := by
  obtain ⟨C, f, fd, ps, g, dvs, hC, M, F, hb, hr⟩ := G
  subst hj
  refine PE.imp (pe_makeK0 (E := E) M F c.room hg hC hb c.pass hkw hall hks hdb hpl) fun σ H Q ⟨W, δ, q, st, sp, hw, k⟩ => ⟨W, δ, _, st, sp, hw, fun W1 H1 zs d1 s1 r1 q1 => ⟨rfl, r1.len.1.trans hmk, fun x dx hx hdx hne => ?_⟩⟩
  have hl := (hr W1).length
  refine ⟨x, zs ++ dvs, rfl, ?_, W1, H1, dx, C, d1 ++ dv, q, Ed, s1.ok, hx, hdx, hne, hC, rfl, ?_, q1, fun W' H' fs s r hq => ⟨rfl, k W' H' _ (.v (.obj cn fs)) (s1.trans s) r hq⟩, fun c' C W' H' he hc s => c.exc c' C W' H' he hc ((sp.trans s1).trans s)⟩
  · rw [List.length_append, r1.len.1, hbr, List.length_append, List.length_replicate, hl]
  · rw [hbr]
    exact r1.app (hr W1).args
theorem de_mkP {cn : Str} {br ms mk : List Bool} {S : DS} {dv : List D} {ks : List Str} {p pos : Pos} {e : Expr} {es : List Expr} {kws : List Keyword} {wa wk : Sl → (List D → Prop) → Prop} (c : Ctx X E n Ed lv) {j : Nat} (hj : lv = j + 1) (G : MkP X.prog X.w X.K X.mg X.base j cn ms.length ks br S dv) (hbr : br = ms ++ (mk ++ List.replicate dv.length false))
    (hmk : mk.length = ks.length) (hg : Gl X cn) (ha : PA X (e :: es) (cA X.K X.mg n ms wa)) (hkw : PK X kws (cA X.K X.mg n mk wk)) (hdb : (cn == ("__debug__" : Str)) = false) (he : starEach (e :: es) X.env = (false, eval e X.env) :: starEach es X.env)
    (hall : (backToKw pos (keywordEach kws X.env)).all (·.1.isSome) = true) (hks : (backToKw pos (keywordEach kws X.env)).filterMap (·.1) = ks)
    (hpl : ((backTo pos (starEach (e :: es) X.env)).any (·.1) || (backToKw pos (keywordEach kws X.env)).any (·.1.isNone)) = false) : PE X (.Call (.Name cn p) (e :: es) kws pos) (cE X.K X.mg n (wCallK wa wk S dv Ed)) := by
  obtain ⟨C, f, fd, ps, g, dvs, hC, M, F, hb, hr⟩ := G
  subst hj
  refine PE.imp (pe_makeK (E := E) M F c.room hg hC hb c.pass ha hkw hall hks hdb he hpl) fun σ H Q ⟨W, δ, q, st, sp, hw, k⟩ => ⟨W, δ, _, st, sp, hw, fun W1 H1 vs d1 s1 r1 q1 => ⟨W1, δ, _, st.step s1, sp.trans s1, q1, fun W2 H2 zs d2 s2 r2 q2 => ⟨r1.len.1, r2.len.1.trans hmk, fun x dx hx hdx hne => ?_⟩⟩⟩
  have hl := (hr W2).length
  refine ⟨x, vs ++ (zs ++ dvs), rfl, ?_, W2, H2, dx, C, d1 ++ (d2 ++ dv), q, Ed, s2.ok, hx, hdx, hne, hC, rfl, ?_, q2, fun W' H' fs s r hq => ⟨rfl, k W' H' _ (.v (.obj cn fs)) ((s1.trans s2).trans s) r hq⟩, fun c' C W' H' he hc s => c.exc c' C W' H' he hc (((sp.trans s1).trans s2).trans s)⟩
  · rw [List.length_append, List.length_append, r1.len.1, r2.len.1, hbr, List.length_append, List.length_append, List.length_replicate, hl]
  · rw [hbr]
    exact (r1.step s2).app (r2.app (hr W2).args)
/-- {} -/
theorem de_dic0 {pos : Pos} : PE X (.Dict [] [] pos) (cE X.K X.mg n fun _ q => q (.own (.dic []))) := by
  refine PE.imp pe_dnewT fun σ H Q ⟨W, δ, q, st, sp, hw, k⟩ p hp => ?_
  exact k W _ (.ref p) (.own (.dic [])) (Stp.laidOwn sp.ok hp _) ⟨p, rfl, ⟨[], upd_same, .nil⟩, hp, sp.ok.sub.free hp, sp.ok.notTown hp⟩ hw
end
end TT

set_option Elab.async false
set_option linter.all false
set_option maxRecDepth 100000
set_option autoImplicit false
/-! Base.__init__(self, ..): an instance that is being made goes through the base's own def. -/
namespace TT
open PySem PySem.Spec L2
/-- C.m, read off the class, is the def at f -/
structure ClsFn (K : PySem.W.Frag) (C : Addr) (m : Str) (f : Addr) : Prop where
  rd : PySem.W.readsIn K C (.type "type") = true
  ga : PySem.W.specialIn K (.ref C) "__getattribute__" = some (some (.builtin "type.__getattribute__"))
  at_ : PySem.W.findCls K (.ref C) (.type "type") m = some (.val (.ref f))
  kp : PySem.W.keepIn K (.ref f) = true
def tSup (C : Addr) (sp : Sp) (E : XK) (ta : TE) (t : TA) : TE := fun σ H Q => ta σ H fun x H1 => x = .ref C ∧ t σ H1 fun vs H2 => sp vs H2 Q E
theorem pe_sup {X : Cx} {CX : CXT} {k : Nat} {C f : Addr} {fd : FuncData} {ps : List Str} {sp : Sp} {E : XK} {o e : Expr} {es : List Expr} {m : Str} {pos apos : Pos} {ta : TE} {t : TA} {pl : Sem Bool} (he : PE X o ta) (c : ClsFn X.K C m f) (F : FnOk X.prog X.w X.K X.mg X.base CX k f fd ps sp) (hr : Room k X.A) (hb : Binds X.K fd ps []) (hx : Passes CX X E) (ha : PA X (e :: es) t)
    (hst : starEach (e :: es) X.env = (false, eval e X.env) :: starEach es X.env) (hpl : (backTo pos (starEach es X.env)).any (·.1) = false)
    (ht : eval (.Call (.Attribute o m apos) (e :: es) [] pos) X.env = (do
      let ov ← eval o X.env
      standAt apos.atName
      let (f, first) ← holding [ov] (getMethod ov m pl)
      callWith pos f first (backTo pos (starEach (e :: es) X.env)) (backToKw pos (keywordEach [] X.env)))) :
    PE X (.Call (.Attribute o m apos) (e :: es) [] pos) (tSup C sp E ta t) := by
  refine ⟨fun pins s σ H Q I h => ?_⟩
  refine PySem.W.methodCall_KW (pl := pl) (thn (he.run pins s σ H _ I h) fun u s1 ⟨x, H1, I1, rx, ex, q⟩ => ?_) ht
  subst ex
  obtain rfl : u = Value.ref C := rx
  refine PySem.W.method_cls I1.kIn c.ga (PySem.W.cls_value I1.kIn c.rd c.at_ (handed_of (v := .ref f) rfl) ?_)
  have I2 := I1.tok (s1.toks + 1)
  refine PySem.W.callWith_K (h₀ := X.base) I2.ok.mod.kin c.kp (thn (ha.run pos pins _ σ H1 _ I2 q) fun us s3 ⟨vs, H2, I3, rv, q2⟩ => ⟨I3.kIn, ?_⟩) hst hpl
  exact run_fn (dvs := []) F hr hb .nil hx I3 rv (by rw [List.append_nil]; exact q2)
/-- what a base's __init__ promises: x is being made as one of the class named cn, and has no field yet -/
def spJ (K : PySem.W.Frag) (mg : Str → Option Value) (cn : Str) (br : List Bool) (S : DS) : Sp := fun vs H Q E => ∃ (x : Addr) (vs' : List V), vs = .ref x :: vs' ∧ vs'.length = br.length ∧
  ∃ W H0 dx C ds q Ed, WOk W H0 ∧ H0 x = none ∧ mg cn = some (.ref C) ∧ H = upd H0 x (.ins C dx []) ∧ ArgsR K mg W H0 br vs' ds ∧ S ds q Ed ∧
    (∀ W' H' dx' xs fs, Stp W H0 W' H' → H' x = some (.ins C dx' xs) → RepF K mg W' xs fs → Loose W' x → q (.v (.obj cn fs)) → Q .non H') ∧ ∀ c C' W' H', Ed c → mg c = some (.ref C') → Stp W H0 W' H' → E (.ref C') none H'
def SupG (P : Program) (w : World) (K : PySem.W.Frag) (mg : Str → Option Value) (base : Heap) (lv : Nat) (pn cn : Str) (br : List Bool) (S : DS) : Prop :=
  ∃ (C f : Addr) (fd : FuncData) (ps : List Str), mg pn = some (.ref C) ∧ ClsFn K C "__init__" f ∧ FnOk P w K mg base (L2.CX P w) lv f fd ps (spJ K mg cn br S) ∧ Binds K fd ps []
@[reducible] def swSup (i : Nat) (cn : Str) (wa : Sl → (List D → Prop) → Prop) (S : DS) (Ed : Str → Prop) : Kn → Sl → Prop := fun k δ => match δ.getD i none with
  | some (.ins a c []) => c = cn ∧ noL δ = true ∧ wa δ fun ds => S ds (fun dv => ∃ fs, dv = .v (.obj cn fs) ∧ k.nx (δ.set i (some (.ins a cn fs)))) Ed
  | _ => False
def but (a : Addr) (H : Hp) : Hp := fun b => if b = a then none else H b
theorem but_ne {a b : Addr} {H : Hp} (h : b ≠ a) : but a H b = H b := if_neg h
theorem but_same {a : Addr} {H : Hp} : but a H a = none := if_pos rfl
theorem but_upd {a : Addr} {H : Hp} {o : HO} (h : H a = some o) : H = upd (but a H) a o := by
  funext b
  by_cases e : b = a
  · subst e; rw [upd_same, h]
  · rw [upd_ne e, but_ne e]
section
variable {K : PySem.W.Frag} {mg : Str → Option Value} {W W' : Wd} {H H' : Hp} {a : Addr} {n : N0}
theorem WOk.but (k : WOk W H) (l : Loose W a) : WOk W (TT.but a H) where
  sub := fun b o e => by
    have : b ≠ a := fun z => by subst z; rw [l.1] at e; cases e
    rw [but_ne this]
    exact k.sub b o e
  town := fun T R e => by
    obtain ⟨h1, h2, h3, ns, m, h4, h5, h6⟩ := k.town T R e
    have t1 : T ≠ a := fun z => l.2 ⟨T, R, e, .inl z.symm⟩
    have t2 : R ≠ a := fun z => l.2 ⟨T, R, e, .inr z.symm⟩
    exact ⟨h1, h2, h3, ns, m, by rw [but_ne t1]; exact h4, by rw [but_ne t2]; exact h5, h6⟩
theorem Stp.but {W0 : Wd} {H0 : Hp} (s : Stp W0 H0 W H) (h0 : H0 a = none) (l : Loose W a) : Stp W0 H0 W (TT.but a H) :=
  ⟨s.le, fun b o e t => by
    have : b ≠ a := fun z => by subst z; rw [h0] at e; cases e
    rw [but_ne this]
    exact s.eff b o e t, s.new, s.tnew, s.ok.but l⟩
theorem RepM.but {m : Bool} {v : V} {d : D} {C dx : Addr} {xs : List (Str × V)} (ha : H a = some (.ins C dx xs)) (r : RepM K mg m W H v d) : RepM K mg m W (TT.but a H) v d := by
  cases m with
  | false => exact repM_f r
  | true =>
    have r : RepT K mg W H v d := by simpa [RepM] using r
    have : RepT K mg W (TT.but a H) v d := by
      rcases r with r | ⟨b, rfl, c, t⟩
      · exact .inl r
      · refine .inr ⟨b, rfl, c.le (.refl _) (but_ne fun z => ?_), t⟩
        subst z
        cases d <;> try exact c.elim
        · obtain ⟨_, e, _⟩ := c; rw [ha] at e; cases e
        · obtain ⟨_, e, _⟩ := c; rw [ha] at e; cases e
    simpa [RepM] using this
theorem ArgsR.but {C dx : Addr} {xs : List (Str × V)} (ha : H a = some (.ins C dx xs)) : ∀ {br : List Bool} {vs : List V} {ds : List D}, ArgsR K mg W H br vs ds → ArgsR K mg W (TT.but a H) br vs ds
  | _, _, _, .nil => .nil
  | _, _, _, .cons r rs => .cons (r.but ha) (ArgsR.but ha rs)
theorem SRep.but {v : V} {o : Option Addr} {dv : DV} (hl : ∀ A c fs f ds, dv ≠ .insL A c fs f ds) (ho : ∀ b, o = some b → b ≠ a) (r : SRep K mg n W H v o dv) : SRep K mg n W (TT.but a H) v o dv := by
  cases dv with
  | v d => exact r
  | own d =>
    obtain ⟨b, eb, ev, c⟩ := r
    exact ⟨b, eb, ev, c.le (.refl _) (but_ne (ho b eb))⟩
  | bp d => exact r
  | bl d => exact r.elim
  | ins ac cc fs =>
    obtain ⟨C, dx, xs, eb, ev, hb, m, rf⟩ := r
    exact ⟨C, dx, xs, eb, ev, by rw [but_ne (ho ac eb)]; exact hb, m, rf⟩
  | insL ac cc fs f ds => exact absurd rfl (hl _ _ _ _ _)
  | pin b d =>
    obtain ⟨eb, ev, c⟩ := r
    exact ⟨eb, ev, c.le (.refl _) (but_ne (ho b eb))⟩
/-- the rest stands while x is away -/
theorem Sto.away {σ : L2.St} {δ : Sl} {i : Nat} {c : Str} {fs : List (Str × D)} (st : Sto K mg n W H σ δ) (hL : noL δ = true) (hi : δ[i]? = some (some (.ins a c fs))) :
    ∃ C dx xs, σ[i]? = some (some (.ref a)) ∧ H a = some (.ins C dx xs) ∧ mg c = some (.ref C) ∧ RepF K mg W xs fs ∧ n.2 a = none ∧ Loose W a ∧
      ∀ W' H' dx' xs' fs', Stp W (TT.but a H) W' H' → H' a = some (.ins C dx' xs') → RepF K mg W' xs' fs' → Loose W' a → Sto K mg n W' H' σ (δ.set i (some (.ins a c fs'))) := by
  obtain ⟨l, ow, h1, h2, h3⟩ := st
  obtain ⟨v, e1, C, dx, xs, ea, ev, ex, hm, rx⟩ := h1 i _ hi
  subst ev
  obtain ⟨a1, a2, a3⟩ := h3 i a ea
  refine ⟨C, dx, xs, e1, ex, hm, rx, a1, a3, fun W' H' dx' xs' fs' s hx rx' lo => ?_⟩
  have hlt : i < δ.length := (List.getElem?_eq_some_iff.mp hi).1
  have ne : ∀ j b, j ≠ i → ow j = some b → b ≠ a := fun j b hj e z => hj (h2 j i a (by rw [← z]; exact e) ea)
  refine ⟨by rw [List.length_set, l], ow, fun j dw e => ?_, h2, fun j b e => ?_⟩
  · by_cases hj : j = i
    · subst hj
      rw [List.getElem?_set_self hlt] at e
      cases e
      exact ⟨_, e1, C, dx', xs', ea, rfl, hx, hm, rx'⟩
    · rw [List.getElem?_set_ne (Ne.symm hj)] at e
      obtain ⟨u, eu, ru⟩ := h1 j dw e
      refine ⟨u, eu, SRep.step s (fun b eb => (h3 j b eb).2.2) (ru.but (fun A c fs f ds z => ?_) fun b eb => ne j b hj eb)⟩
      subst z
      exact noL_no hL _ _ _ _ _ _ e
  · by_cases hj : j = i
    · subst hj
      cases ea.symm.trans e
      exact ⟨a1, ⟨_, hx, fun _ z => by cases z⟩, lo⟩
    · obtain ⟨b1, b2, b3⟩ := h3 j b e
      have nb := ne j b hj e
      have e2 : TT.but a H b = H b := but_ne nb
      have b2' : NTup (TT.but a H b) := by rw [e2]; exact b2
      exact ⟨b1, by rw [s.at b2'.ex b3.2]; exact b2', s.loose b2' b3⟩
end
section
variable {X : Cx} {E : XK} {n : N0} {Ed : Str → Prop} {lv : Nat}
theorem ds_sup {i : Nat} {x pn cn : Str} {br : List Bool} {S : DS} {p p2 apos cpos pos : Pos} {es : List Expr} {wa : Sl → (List D → Prop) → Prop} {pl : Sem Bool} (c : Ctx X E n Ed lv) (G : SupG X.prog X.w X.K X.mg X.base lv pn cn br S)
    (hN : X.N[i]? = some x) (hv : Vis X.env.scope x) (hd : (x == ("__debug__" : Str)) = false) (hcd : (x == ("__classdict__" : Str)) = false) (hg : Gl X pn) (hdb : (pn == ("__debug__" : Str)) = false)
    (ha : PA X es (cA X.K X.mg n br wa)) (hst : starEach (.Name x p2 :: es) X.env = (false, eval (.Name x p2) X.env) :: starEach es X.env) (hpl : (backTo cpos (starEach es X.env)).any (·.1) = false)
    (ht : eval (.Call (.Attribute (.Name pn p) "__init__" apos) (.Name x p2 :: es) [] cpos) X.env = (do
      let ov ← eval (.Name pn p) X.env
      standAt apos.atName
      let (f, first) ← holding [ov] (getMethod ov "__init__" pl)
      callWith cpos f first (backTo cpos (starEach (.Name x p2 :: es) X.env)) (backToKw cpos (keywordEach [] X.env)))) :
    PS X (.Expr (.Call (.Attribute (.Name pn p) "__init__" apos) (.Name x p2 :: es) [] cpos) pos) (cS X.K X.mg n (swSup i cn wa S Ed)) := by
  obtain ⟨C0, f, fd, ps, hC, cf, F, hb⟩ := G
  have pe := pe_sup (E := E) (pe_glob (v := .ref C0) hg hC rfl hdb) cf F c.room hb c.pass (pa_cons (pe_var (pos := p2) hN hv hd hcd) ha hst) hst hpl ht
  refine PS.imp (ps_expr pe) fun D σ H ⟨W, δ, k, st, sp, hw, g⟩ => ?_
  unfold swSup at hw
  rw [List.getD_eq_getElem?_getD] at hw
  cases hi : δ[i]? with
  | none => rw [hi] at hw; exact hw.elim
  | some o =>
    rw [hi] at hw
    cases o with
    | none => exact hw.elim
    | some dv =>
      cases dv with
      | ins a c' fs =>
        cases fs with
        | cons _ _ => exact hw.elim
        | nil =>
          obtain ⟨rfl, hL, hw⟩ := hw
          have e1 : σ[i]? = some (some (.ref a)) := (st.away hL hi).choose_spec.choose_spec.choose_spec.1
          refine ⟨rfl, .ref a, e1, W, δ, _, st, sp, hw, fun W1 H1 vs ds s r hq => ?_⟩
          obtain ⟨C, dx, xs, _, ex, hm, rx, n0, lo, back⟩ := (st.step s).away hL hi
          have spn := sp.trans s
          cases rx
          have s0 := spn.but n0 lo
          refine ⟨a, vs, rfl, r.len.1, W1, but a H1, dx, C, ds, _, Ed, s0.ok, but_same, hm, but_upd ex, r.but ex, hq, fun W' H' dx' xs fs s' hx rf lo' hk => ?_, fun c'' C' W' H' he hc s' => c.exc c'' C' W' H' he hc (s0.trans s')⟩
          obtain ⟨fs', e, hk⟩ := hk
          cases e
          exact g.nx W' _ σ _ (s.le.trans s'.le) (s0.trans s') (back W' H' dx' xs fs s' hx rf lo') hk
      | _ => exact hw.elim
end
end TT

set_option Elab.async false
set_option linter.all false
set_option maxRecDepth 100000
set_option autoImplicit false
/-! dicts of tuple keys, as data -/
namespace TT
open PySem PySem.Spec L2
def intsOf : List D → Option (List Int)
  | [] => some []
  | .int i :: ds => (intsOf ds).map (i :: ·)
  | _ :: _ => none
/-- a tuple of whole numbers, as a key -/
def keyD : D → Option (List Int)
  | .key k => some k
  | .tup ds => intsOf ds
  | _ => none
def lookD (kvs : List (List Int × D)) (k : List Int) : Option D := (kvs.find? fun kv => decide (kv.1 = k)).map (·.2)
def putK' (kvs : List (List Int × D)) (k : List Int) (d : D) : List (List Int × D) := if (kvs.any fun kv => decide (kv.1 = k)) = true then kvs.map fun kv => if kv.1 = k then (kv.1, d) else kv else kvs ++ [(k, d)]
theorem intsOf_eq : ∀ {ds : List D} {k : List Int}, intsOf ds = some k → ds = k.map .int
  | [], k, h => by simp only [intsOf] at h; cases h; rfl
  | .int i :: ds, k, h => by
    simp only [intsOf, Option.map_eq_some_iff] at h
    obtain ⟨r, hr, rfl⟩ := h
    rw [intsOf_eq hr]; rfl
  | .non :: _, _, h => by simp [intsOf] at h
  | .bl _ :: _, _, h => by simp [intsOf] at h
  | .str _ :: _, _, h => by simp [intsOf] at h
  | .ty _ :: _, _, h => by simp [intsOf] at h
  | .tup _ :: _, _, h => by simp [intsOf] at h
  | .lst _ :: _, _, h => by simp [intsOf] at h
  | .dic _ :: _, _, h => by simp [intsOf] at h
  | .obj _ _ :: _, _, h => by simp [intsOf] at h
  | .town :: _, _, h => by simp [intsOf] at h
  | .scr :: _, _, h => by simp [intsOf] at h
  | .err _ :: _, _, h => by simp [intsOf] at h
  | .key _ :: _, _, h => by simp [intsOf] at h
theorem keyOf_inj {a b : List Int} (h : keyOf a = keyOf b) : a = b := by
  unfold keyOf at h
  exact List.map_inj_right (fun _ _ h => Sum.inl.inj h) |>.mp h
theorem keyOf_kV (k : List Int) : (keyOf k).map kV = k.map V.int := by
  unfold keyOf
  rw [List.map_map]
  rfl
section
variable {K : PySem.W.Frag} {mg : Str → Option Value} {W : Wd} {H : Hp}
/-- a key, wherever it stands -/
theorem RepT.key (w : WOk W H) {v : V} {d : D} {k : List Int} (r : RepT K mg W H v d) (h : keyD d = some k) : ∃ b, v = .ref b ∧ SqT K H b ((keyOf k).map kV) := by
  rw [keyOf_kV]
  cases d <;> simp only [keyD] at h <;> try (cases h; done)
  · rename_i ds
    obtain ⟨a, xs, rfl, e, l⟩ := r.tup w
    have := intsOf_eq h
    subst this
    cases RepL.ints l
    exact ⟨a, rfl, e⟩
  · cases h
    rcases r with r | ⟨a, rfl, c, _⟩
    · cases r with
      | key e => exact ⟨_, rfl, SqT.of (w.sub _ _ e)⟩
    · exact c.elim
theorem RepK.look : ∀ {xs : List (List Key × V)} {ds : List (List Int × D)} {k : List Int}, RepK K mg W xs ds → (lookD ds k = none → valV xs (keyOf k) = none) ∧ ∀ d, lookD ds k = some d → ∃ v, valV xs (keyOf k) = some v ∧ Rep K mg W v d
  | _, _, _, .nil => ⟨fun _ => rfl, fun d h => by simp [lookD] at h⟩
  | _, _, k, .cons (k := j) (v := v) (vs := vs) (d := d0) (ds := ds) h r => by
    obtain ⟨i1, i2⟩ := RepK.look (k := k) r
    by_cases e : j = k
    · subst e
      refine ⟨fun z => ?_, fun d z => ?_⟩
      · simp [lookD, List.find?_cons] at z
      · have z : d0 = d := by simpa [lookD, List.find?_cons] using z
        subst z
        exact ⟨v, valV_pos rfl, h⟩
    · have ek : ¬ keyOf j = keyOf k := fun z => e (keyOf_inj z)
      have el : lookD ((j, d0) :: ds) k = lookD ds k := by simp [lookD, List.find?_cons, e]
      rw [el]
      have ev := valV_neg (p := (keyOf j, v)) (r := vs) ek
      exact ⟨fun z => by rw [ev]; exact i1 z, fun d z => by rw [ev]; exact i2 d z⟩
theorem RepK.any : ∀ {xs : List (List Key × V)} {ds : List (List Int × D)} {k : List Int}, RepK K mg W xs ds → (xs.any fun kv => decide (kv.1 = keyOf k)) = ds.any fun kv => decide (kv.1 = k)
  | _, _, _, .nil => rfl
  | _, _, k, .cons (k := j) h r => by
    rw [List.any_cons, List.any_cons, RepK.any r]
    have : decide (keyOf j = keyOf k) = decide (j = k) := by
      rw [decide_eq_decide]
      exact ⟨fun z => keyOf_inj z, fun z => by rw [z]⟩
    rw [this]
theorem RepK.append : ∀ {v v' : List (List Key × V)} {d d' : List (List Int × D)}, RepK K mg W v d → RepK K mg W v' d' → RepK K mg W (v ++ v') (d ++ d')
  | _, _, _, _, .nil, s => s
  | _, _, _, _, .cons h r, s => .cons h (RepK.append r s)
theorem RepK.put {k : List Int} {v : V} {d : D} (h : Rep K mg W v d) {xs : List (List Key × V)} {ds : List (List Int × D)} (r : RepK K mg W xs ds) : RepK K mg W (putK xs (keyOf k) v) (putK' ds k d) := by
  unfold putK putK'
  rw [r.any]
  split
  · have go : ∀ {xs : List (List Key × V)} {ds : List (List Int × D)}, RepK K mg W xs ds → RepK K mg W (xs.map fun kv => if kv.1 = keyOf k then (kv.1, v) else kv) (ds.map fun kv => if kv.1 = k then (kv.1, d) else kv) := by
      intro xs ds r
      induction ds generalizing xs with
      | nil => cases r; exact .nil
      | cons p ds ih =>
        cases r with
        | cons h1 r1 =>
          rename_i j _ _ _
          rw [List.map_cons, List.map_cons]
          by_cases e : j = k
          · subst e
            rw [if_pos rfl, if_pos rfl]
            exact .cons h (ih r1)
          · rw [if_neg (fun z => e (keyOf_inj z)), if_neg e]
            exact .cons h1 (ih r1)
    exact go r
  · exact r.append (.cons h .nil)
theorem RepK.hash {P : Program} {w : World} : ∀ {xs : List (List Key × V)} {ds : List (List Int × D)}, RepK K mg W xs ds → xs.map (fun x => (tupleKind (mixKind P w)).hash x.1) = ds.map fun x => tHash x.1
  | _, _, .nil => rfl
  | _, _, .cons (k := j) h r => by
    rw [List.map_cons, List.map_cons, RepK.hash r]
    exact congrArg (· :: _) (tHash_eq j)
end
end TT

set_option Elab.async false
set_option linter.all false
set_option maxRecDepth 100000
set_option autoImplicit false
/-! len(set(xs)), xs a list of unlike tuples, nested, of whole numbers. -/
namespace TT
open PySem PySem.Spec L2 PyProof.Rows
/-! ### what a set asks of such a tuple -/
mutual
def numK : NestedKey → Bool
  | .none => true
  | .num _ => true
  | .text _ => false
  | .tup ks => numA ks
def numA : List NestedKey → Bool
  | [] => true
  | k :: ks => numK k && numA ks
end
section
variable {P : Program} {w : World}
/-- of a tuple: each part is asked one level down -/
theorem asks_class {n : Nat} {s : Shared} {a : Addr} {o : Obj} {vs : Array Value} {m : Nat} (ho : s.heap.get? a = some o) (hc : o.cls = .type "tuple") (hd : o.data = .seq vs m)
    (hq : ∀ v ∈ vs.toList, Asks P w (ofAClassStatement n) false s v) : Asks P w (ofAClassStatement (n + 1)) false s (.ref a) := fun A E Q h => by
  unfold ofAClassStatement
  refine wpAny_bind (wpAny_typeOf ⟨o, ho, hc⟩ ?_)
  have e : (("tuple" : String) == "tuple") = true := by decide
  dsimp only
  simp only [e, if_true, Bool.not_true, Bool.false_eq_true, if_false]
  try refine wpAny_bind (wpAny_pure ?_)
  try simp only [Bool.not_true, Bool.false_eq_true, if_false]
  refine wpAny_bind (wpAny_seqItems ho hd ?_)
  dsimp only
  refine wpAny_bind ?_
  show wpAny _ _ (forIn vs _ _) _ _ s
  rw [← Array.forIn_toList]
  refine wpAny_forIn_list _ (fun l r s' => r.1 = none ∧ s' = s ∧ ∀ v ∈ l, Asks P w (ofAClassStatement n) false s v) _ ?_ ?_ _ _ ⟨rfl, rfl, hq⟩
  · rintro v l r _ ⟨hr, rfl, al⟩
    refine wpAny_bind (al v List.mem_cons_self _ _ _ ?_)
    rw [if_neg Bool.false_ne_true]
    exact wpAny_pure ⟨rfl, rfl, fun u hu => al u (List.mem_cons_of_mem _ hu)⟩
  · rintro ⟨r1, r2⟩ _ ⟨hr, rfl, _⟩
    cases hr
    exact wpAny_pure h
theorem asks_value {n : Nat} {s : Shared} {a : Addr} {o : Obj} {vs : Array Value} {m : Nat} (ho : s.heap.get? a = some o) (hc : o.cls = .type "tuple") (hd : o.data = .seq vs m)
    (hq : ∀ v ∈ vs.toList, Asks P w (hashByValue n) true s v) : Asks P w (hashByValue (n + 1)) true s (.ref a) := fun A E Q h => by
  unfold hashByValue
  refine wpAny_bind (wpAny_specialOf ⟨o, ho, hc⟩ F.slot_tuple_hash.lookup ?_)
  refine wpAny_bind (wpAny_seqItems ho hd ?_)
  refine wpAny_bind ?_
  show wpAny _ _ (forIn vs _ _) _ _ s
  rw [← Array.forIn_toList]
  refine wpAny_forIn_list _ (fun l r s' => r.1 = none ∧ s' = s ∧ ∀ v ∈ l, Asks P w (hashByValue n) true s v) _ ?_ ?_ _ _ ⟨rfl, rfl, hq⟩
  · rintro v l r _ ⟨hr, rfl, al⟩
    refine wpAny_bind (al v List.mem_cons_self _ _ _ ?_)
    simp only [Bool.not_true, Bool.false_eq_true, if_false]
    exact wpAny_pure ⟨rfl, rfl, fun u hu => al u (List.mem_cons_of_mem _ hu)⟩
  · rintro ⟨r1, r2⟩ _ ⟨hr, rfl, _⟩
    cases hr
    exact wpAny_pure h
mutual
theorem class_key : ∀ (k : NestedKey) (v : Value) (n : Nat) (s : Shared), NestedIs s.heap k v → k.depth ≤ n → Asks P w (ofAClassStatement n) false s v
  | .none, _, n, s, x, _ => by cases x; exact .pure (by cases n <;> rfl)
  | .num i, _, n, s, x, _ => by cases x <;> exact .pure (by cases n <;> rfl)
  | .text y, _, n, s, x, _ => by cases x; exact .pure (by cases n <;> rfl)
  | .tup ks, _, n, s, x, hn => by
    cases x with
    | tup hg hc hd hk =>
      simp only [NestedKey.depth] at hn
      cases n with
      | zero => omega
      | succ n => exact asks_class hg hc hd (class_keys ks _ n s hk (by omega))
theorem class_keys : ∀ (ks : List NestedKey) (vs : List Value) (n : Nat) (s : Shared), NestedAll s.heap ks vs → NestedKey.depthAll ks ≤ n → ∀ v ∈ vs, Asks P w (ofAClassStatement n) false s v
  | [], _, n, s, x, _, v, hv => by cases x; cases hv
  | k :: ks, _, n, s, x, hn, v, hv => by
    cases x with
    | cons x1 x2 =>
      simp only [NestedKey.depthAll] at hn
      rcases List.mem_cons.mp hv with e | hv
      · rw [e]; exact class_key k _ n s x1 (by omega)
      · exact class_keys ks _ n s x2 (by omega) v hv
end
mutual
theorem value_key : ∀ (k : NestedKey) (v : Value) (n : Nat) (s : Shared), NestedIs s.heap k v → numK k = true → k.depth ≤ n → Asks P w (hashByValue n) true s v
  | .none, _, n, s, x, _, _ => by cases x; exact .pure (by cases n <;> rfl)
  | .num i, _, n, s, x, _, _ => by cases x <;> exact .pure (by cases n <;> rfl)
  | .text y, _, n, s, x, z, _ => by cases z
  | .tup ks, _, n, s, x, z, hn => by
    cases x with
    | tup hg hc hd hk =>
      simp only [NestedKey.depth] at hn
      cases n with
      | zero => omega
      | succ n => exact asks_value hg hc hd (value_keys ks _ n s hk z (by omega))
theorem value_keys : ∀ (ks : List NestedKey) (vs : List Value) (n : Nat) (s : Shared), NestedAll s.heap ks vs → numA ks = true → NestedKey.depthAll ks ≤ n → ∀ v ∈ vs, Asks P w (hashByValue n) true s v
  | [], _, n, s, x, _, _, v, hv => by cases x; cases hv
  | k :: ks, _, n, s, x, z, hn, v, hv => by
    cases x with
    | cons x1 x2 =>
      simp only [NestedKey.depthAll] at hn
      simp only [numA, Bool.and_eq_true] at z
      rcases List.mem_cons.mp hv with e | hv
      · rw [e]; exact value_key k _ n s x1 z.1 (by omega)
      · exact value_keys ks _ n s x2 z.2 (by omega) v hv
end
/-- a key of a set: numbers in tuples, not deeper than eight -/
structure KeyN (h : Heap) (k : NestedKey) (a : Addr) : Prop where
  is : NestedIs h k (.ref a)
  num : numK k = true
  dep : k.depth ≤ 8
theorem KeyN.kept {h h' : Heap} {k : NestedKey} {a b : Addr} {o : Obj} {es : Array (Int × Value)} {ep : Nat} {t : SetTable} (x : KeyN h k a) (ho : h.get? b = some o) (hd : o.data = .set es ep t) (hs : Heap.SameBut b h h') : KeyN h' k a :=
  ⟨NestedIs.at (fun c u vs n hc hu => (hs.2 c fun e => by
    subst e
    rw [ho] at hc
    cases hc
    rw [hd] at hu
    cases hu).trans hc) k _ x.is, x.num, x.dep⟩
theorem KeyN.keep {h h' : Heap} {k : NestedKey} {a : Addr} (x : KeyN h k a) (hk : ∀ c o, h.get? c = some o → h'.get? c = some o) : KeyN h' k a :=
  ⟨NestedIs.at (fun c u _ _ hc _ => hk c u hc) k _ x.is, x.num, x.dep⟩
/-- a search among such keys shows nothing -/
theorem unseen {A : Around} {E : Value → Shared → Prop} {s : Shared} {k : NestedKey} {b : Addr} {Q : Bool → Shared → Prop} (hk : KeyN s.heap k b) {ys : List Value} (hy : ∀ y ∈ ys, ∃ k' c, y = Value.ref c ∧ KeyN s.heap k' c) (h : Q false s) :
    wpAny (model P w) A (searchCouldBeSeen (.ref b) ys) Q E s := by
  unfold searchCouldBeSeen
  refine wpAny_bind ?_
  refine wpAny_forIn_list _ (fun l r s' => r.1 = none ∧ s' = s ∧ ∀ y ∈ l, ∃ k' c, y = Value.ref c ∧ KeyN s.heap k' c) _ ?_ ?_ _ _ ⟨rfl, rfl, hy⟩
  · rintro v l r _ ⟨hr, rfl, al⟩
    obtain ⟨k', c, rfl, hc⟩ := al v List.mem_cons_self
    have al' := fun u hu' => al u (List.mem_cons_of_mem _ hu')
    dsimp only
    split
    · exact wpAny_pure ⟨rfl, rfl, al'⟩
    · refine wpAny_bind ((nestedKind P w).quiet ⟨hk.is, hk.dep⟩ ?_)
      simp only [Bool.not_true, Bool.false_eq_true, if_false]
      refine wpAny_bind ((nestedKind P w).quiet ⟨hc.is, hc.dep⟩ ?_)
      simp only [Bool.not_true, Bool.false_eq_true, if_false]
      refine wpAny_bind (class_key k _ 8 _ hk.is hk.dep _ _ _ ?_)
      simp only [Bool.false_eq_true, if_false]
      refine wpAny_bind (class_key k' _ 8 _ hc.is hc.dep _ _ _ ?_)
      simp only [Bool.false_eq_true, if_false]
      exact wpAny_pure ⟨rfl, rfl, al'⟩
  · rintro ⟨r1, r2⟩ _ ⟨hr, rfl, _⟩
    cases hr
    exact wpAny_pure h

/-! ### the set behind its first i keys -/
structure NSt (w : World) (ks : Keyed) (i : Nat) (h : Heap) (a : Addr) (es : Array (Int × Value)) (ep : Nat) (t : SetTable) : Prop where
  ob : ∃ o, h.get? a = some o ∧ o.ExactSet ∧ o.data = .set es ep t
  tab : TabOk t (es.toList.map (·.1))
  num : es.size = i
  ent : ∀ e ∈ es.toList, ∃ p ∈ ks.take i, e = (p.2.hash w, Value.ref p.1)
  plain : t.plain = true
  led : w.params.followText "set-order" = true ∨ t.led = true
  room : i * 5 < t.mask * 3
section
variable {A : Around} {E : Value → Shared → Prop} {s : Shared} {ks : Keyed} {i : Nat} {a : Addr} {es : Array (Int × Value)} {ep : Nat} {t : SetTable}
theorem fits_of {hs : List Int} {n : Nat} (T : TabOk t hs) (h : hs.length = n) (h2 : n ≤ t.mask) : t.fits n = true := by
  have h1 := T.sz
  unfold SetTable.fits SetTable.fill
  rw [T.dm, Bool.and_eq_true, beq_iff_eq, decide_eq_true_eq]
  refine ⟨h1.trans h, ?_⟩
  show t.place.size + 0 ≤ t.mask
  omega
theorem NSt.fits (R : NSt w ks i s.heap a es ep t) : t.fits es.size = true := fits_of R.tab (by rw [List.length_map]; rfl) (by rw [R.num]; have := R.room; omega)
theorem nth_dm {m : Nat} : ∀ (n : Nat) (p : SetTable.Probe), p.dummy = none → (nth m p n).dummy = none
  | 0, _, h => h
  | n + 1, p, h => nth_dm n _ (by unfold adv; split <;> exact h)
/-- the search of a key that is not there ends at the first free slot of its way -/
theorem search_new (R : NSt w ks i s.heap a es ep t) {x : Addr} {k : NestedKey} (hx : KeyN s.heap k x) (hks : ∀ p ∈ ks.take i, KeyN s.heap p.2 p.1 ∧ p.2 ≠ k) (hu : A.units + 8 < cLine) {K : Nat} (hKf : K < 10 * SetTable.turns t.mask)
    (hK : way t.mask (k.hash w) K ∉ t.place.toList) (hKb : ∀ c, c < K → way t.mask (k.hash w) c ∈ t.place.toList) {Q : SetFound → Shared → Prop} (hout : Q (.free (way t.mask (k.hash w) K) false) s) :
    ∀ (f c : Nat) (st : Option SetTable.Probe), st.getD (t.probeStart (k.hash w)) = nth t.mask (start t.mask (k.hash w)) c → c ≤ K → K - c < f → wpAny (model P w) A (setSearchFrom a (.ref x) (k.hash w) true f st) Q E s
  | 0, _, _, _, _, hf => absurd hf (Nat.not_lt_zero _)
  | f + 1, c, st, hst, hc, hf => by
    obtain ⟨o, ho, hex, hd⟩ := R.ob
    have gw : ¬ t.gaveWay = true := by
      unfold SetTable.gaveWay
      rw [mask_odd R.tab.mok]
      decide
    rw [setSearchFrom_succ]
    refine wpAny_bind (wpAny_setState_of ho hd R.fits ?_)
    dsimp only
    refine wp_if_neg gw ?_
    try refine wpAny_bind (wpAny_pure ?_)
    generalize hH : k.hash w = H at *
    have sh : ∀ q, nth t.mask (nth t.mask (start t.mask H) c) q = nth t.mask (start t.mask H) (c + q) := fun q => (nth_add t.mask c _ q).symm
    have shj : ∀ q, (nth t.mask (nth t.mask (start t.mask H) c) q).j = way t.mask H (c + q) := fun q => congrArg SetTable.Probe.j (sh q)
    have kc : c + (K - c) = K := by omega
    rcases go_spec t R.tab.ris R.tab.dm (fun i => (es[i]?.map (·.1)).getD 0) H (10 * SetTable.turns t.mask) (K - c) (nth t.mask (start t.mask H) c) (nth_dm c _ rfl) (by omega)
      (fun q hq => by rw [shj]; exact hKb _ (by omega)) (by rw [shj, kc]; exact hK) with ⟨q, j, hq, hj, hh, _, pr⟩ | ⟨_, pr⟩
    · have pr' : t.probe (fun i => (es[i]?.map (·.1)).getD 0) H (st.getD (t.probeStart H)) = some (.candidate (way t.mask H (c + q)) j (nth t.mask (start t.mask H) (c + (q + 1)))) := by
        rw [hst, ← shj, ← sh]; exact pr
      rw [pr']
      dsimp only
      rw [shj] at hj
      have hl : j < es.size := by
        have h1 : j < t.place.toList.length := (List.getElem?_eq_some_iff.mp hj).1
        have h2 := R.tab.sz
        rw [List.length_map, Array.length_toList] at h2
        rw [Array.length_toList] at h1
        omega
      have hee : es[j]? = some es[j] := Array.getElem?_eq_getElem hl
      obtain ⟨p, hp, ep'⟩ := R.ent es[j] (Array.getElem_mem_toList hl)
      rw [ep'] at hee
      obtain ⟨hkp, hne⟩ := hks p hp
      have tail : wpAny (model P w) A (searchRest a (.ref x) H true f es t (way t.mask H (c + q)) j (nth t.mask (start t.mask H) (c + (q + 1)))) Q E s := by
        unfold searchRest
        rw [hee]
        dsimp only
        have no : decide (p.2 = k) = false := decide_eq_false hne
        refine wpAny_bind (wpAny_holding ((nestedKind P w).eqBool hu ⟨hkp.is, hkp.dep⟩ ⟨hx.is, hx.dep⟩ ?_))
        rw [no]
        refine wpAny_bind (wpAny_setState_of ho hd R.fits ?_)
        dsimp only
        refine wp_if_neg (by simp) ?_
        try refine wpAny_bind (wpAny_pure ?_)
        rw [sameMem]
        dsimp only
        simp only [if_true, slot_live R.tab.ris hj, hee]
        refine wpAny_bind (wpAny_isSame_ref_self (wpAny_bind (wpAny_pure ?_)))
        simp only [if_true]
        refine wp_if_neg Bool.false_ne_true ?_
        subst hH
        exact search_new R hx hks hu hKf hK hKb hout f (c + (q + 1)) _ rfl (by omega) (by omega)
      by_cases hl : t.led = true
      · refine wp_if_neg (by simp [hl]) ?_
        try refine wpAny_bind (wpAny_pure ?_)
        exact tail
      · refine wp_if_pos (by simp [hl]) ?_
        refine wpAny_bind (unseen hx (fun y hy => ?_) ?_)
        · obtain ⟨e, he, rfl⟩ := List.mem_map.mp hy
          have he : e ∈ es.toList := by
            have : e ∈ es ∧ e.1 = H := by simpa using he
            simpa using this.1
          obtain ⟨p2, hp2, rfl⟩ := R.ent e he
          exact ⟨p2.2, p2.1, rfl, (hks p2 hp2).1⟩
        · refine wp_if_neg Bool.false_ne_true ?_
          try refine wpAny_bind (wpAny_pure ?_)
          exact tail
    · have pr' : t.probe (fun i => (es[i]?.map (·.1)).getD 0) H (st.getD (t.probeStart H)) = some (.empty (way t.mask H K) none) := by
        rw [hst, ← kc, ← shj]
        exact pr
      rw [pr']
      dsimp only
      exact wpAny_pure hout

theorem order_map {es : Array (Int × Value)} : ∀ l : List Nat, (∀ i ∈ l, i < es.size) → ∃ m : List (Int × Value), l.filterMap (fun i => es[i]?) = m ∧ m.length = l.length ∧ (∀ e ∈ m, e ∈ es.toList) ∧ m.map (·.1) = l.map fun i => (es.map (·.1)).getD i 0
  | [], _ => ⟨[], rfl, rfl, fun e h => (by cases h), rfl⟩
  | i :: l, h => by
    obtain ⟨m, e1, e2, e3, e4⟩ := order_map l fun j hj => h j (List.mem_cons_of_mem _ hj)
    have hi := h i List.mem_cons_self
    have hee : es[i]? = some es[i] := Array.getElem?_eq_getElem hi
    refine ⟨es[i] :: m, by rw [List.filterMap_cons_some hee, e1], by rw [List.length_cons, e2]; rfl, fun e he => ?_, ?_⟩
    · rcases List.mem_cons.mp he with rfl | he
      · exact Array.getElem_mem_toList hi
      · exact e3 e he
    · rw [List.map_cons, List.map_cons, e4]
      simp [Array.getD_eq_getD_getElem?, hee]
/-- the table laid anew -/
theorem relay_new {o : Obj} (ho : s.heap.get? a = some o) (hex : o.ExactSet) (hd : o.data = .set es ep t) (T : TabOk t (es.toList.map (·.1))) (hm : es.size ≤ t.mask) (num : es.size = i) (ent : ∀ e ∈ es.toList, ∃ p ∈ ks.take i, e = (p.2.hash w, Value.ref p.1))
    (pl : t.plain = true) (ld : w.params.followText "set-order" = true ∨ t.led = true) {wanted M : Nat} (hw : SetTable.sizeAbove wanted - 1 = M) (hM : MaskOk M) (hw2 : SetTable.sizeAbove wanted ≤ 128) (hn : i * 5 < M * 3) {Q : Unit → Shared → Prop}
    (hQ : ∀ h' es' ep' t', Heap.SameBut a s.heap h' → NSt w ks i h' a es' ep' t' → Q () { s with heap := h' }) : wpAny (model P w) A (setRelay a wanted) Q E s := by
  obtain ⟨t', order, e, hp, T', em, el, ep', ed⟩ := relaid_ok t (hs := es.map (·.1)) (wanted := wanted) hw hM (by rw [Array.size_map, num]; omega)
  rw [Array.size_map] at hp
  obtain ⟨m, m1, m2, m3, m4⟩ := order_map (es := es) order.toList fun j hj => List.mem_range.mp (hp.mem_iff.mp hj)
  have hml : m.length = es.size := by rw [m2, hp.length_eq, List.length_range]
  have hfm : (order.filterMap (es[·]?)).toList = m := by first | (rw [Array.toList_filterMap]; exact m1) | (rw [← m1]; simp)
  have hsz : (order.filterMap (es[·]?)).size = es.size := by rw [← Array.length_toList, hfm, hml]
  rw [← m4] at T'
  rw [setRelay_eq]
  refine wpAny_bind (wpAny_setState_of ho hd (fits_of T (by rw [List.length_map]; rfl) hm) ?_)
  dsimp only
  refine wp_if_neg (by rw [sizeLine_eq]; omega) ?_
  try refine wpAny_bind (wpAny_pure ?_)
  rw [e]
  dsimp only
  refine wpAny_bind ?_
  refine wp_if_neg (by rw [hsz]; simp) ?_
  try refine wpAny_bind (wpAny_pure ?_)
  try refine wpAny_bind (wpAny_pure ?_)
  refine wpAny_pure ?_
  dsimp only
  have big : i ≤ 127 := by rcases hM with rfl | rfl | rfl <;> omega
  refine wpAny_storeSet_of ho hd ?_ (by rw [hsz, num, sizeLine_eq]; omega)
  refine hQ _ (order.filterMap (es[·]?)) (ep + 1) t' (Heap.SameBut.update ..) ⟨⟨_, store_at ho hd, ⟨hex.1, hex.2.1, hex.2.2⟩, rfl⟩, by rw [hfm]; exact T', by rw [hsz, num], fun e he => ?_, by rw [ep']; exact pl, by rw [el]; exact ld, by rw [em]; exact hn⟩
  rw [hfm] at he
  exact ent e (m3 e he)
theorem take_step {α : Type} {l : List α} {i : Nat} {x : α} (h : l[i]? = some x) : l.take (i + 1) = l.take i ++ [x] := by rw [List.take_succ, h]; rfl
/-- one more -/
theorem add_new (R : NSt w ks i s.heap a es ep t) {x : Addr} {k : NestedKey} (hi : ks[i]? = some (x, k)) (hx : KeyN s.heap k x) (hks : ∀ p ∈ ks.take i, KeyN s.heap p.2 p.1 ∧ p.2 ≠ k) (hu : A.units + 8 < cLine) (few : i + 1 < 64) {Q : Bool → Shared → Prop}
    (hQ : ∀ b h' es' ep' t', Heap.SameBut a s.heap h' → NSt w ks (i + 1) h' a es' ep' t' → Q b { s with heap := h' }) : wpAny (model P w) A (setAddHashed a (.ref x) (k.hash w)) Q E s := by
  obtain ⟨o, ho, hex, hd⟩ := R.ob
  have hroom := R.room
  have hnum := R.num
  have hlen : (es.toList.map (·.1)).length = i := by rw [List.length_map]; exact hnum
  unfold setAddHashed
  refine wpAny_holding ?_
  rw [show (100000 : Nat) = 99999 + 1 from rfl, setAddHashedIn_succ]
  refine wpAny_bind (wpAny_setState_of ho hd R.fits ?_)
  dsimp only
  refine wp_if_neg (by simp [byScan, Value.scannable]) ?_
  try refine wpAny_bind (wpAny_pure ?_)
  obtain ⟨K, hKf, hK, hKb⟩ := R.tab.first (by rw [hlen]; omega) (k.hash w)
  have hbig : K < 100000 := by
    have : 10 * SetTable.turns t.mask ≤ 1420 := by
      unfold SetTable.turns
      rcases R.tab.mok with e | e | e <;> omega
    omega
  refine wpAny_bind ?_
  unfold setSearch
  refine search_new R hx hks hu hKf hK hKb ?_ 100000 0 none rfl (Nat.zero_le _) (by omega)
  dsimp only
  refine wpAny_bind (wpAny_setState_of ho hd R.fits ?_)
  dsimp only
  obtain ⟨q1, q2, q3, q4, q5, q6, q7, q8, q9⟩ := R.tab.put hK hKb
  have hp1 : (t.put (way t.mask (k.hash w) K)).1.plain = true := q6.trans R.plain
  have ld1 : w.params.followText "set-order" = true ∨ (t.put (way t.mask (k.hash w) K)).1.led = true := by rw [q5]; exact R.led
  generalize t.put (way t.mask (k.hash w) K) = pt at *
  obtain ⟨t1, p⟩ := pt
  dsimp only at *
  subst q1
  first
    | (refine wpAny_bind ?_; refine wp_if_pos hp1 ?_; refine value_key k _ 8 _ hx.is hx.num hx.dep _ _ _ ?_)
    | refine wp_if_pos hp1 (wpAny_bind (value_key k _ 8 _ hx.is hx.num hx.dep _ _ _ ?_))
  simp only [if_true]
  generalize SetTable.below t.place (way t.mask (k.hash w) K) = p at *
  have hin : (SetTable.insertAt es p (k.hash w, Value.ref x)).toList = es.toList.take p ++ (k.hash w, Value.ref x) :: es.toList.drop p := SetTable.toList_insertAt _ _ _
  have pm := put_perm es.toList p (k.hash w, Value.ref x)
  have T1 : TabOk t1 ((SetTable.insertAt es p (k.hash w, Value.ref x)).toList.map (·.1)) := by
    rw [hin, List.map_append, List.map_cons, List.map_take, List.map_drop]
    exact q3
  have hes : (SetTable.insertAt es p (k.hash w, Value.ref x)).size = i + 1 := by
    rw [← Array.length_toList, hin, pm.length_eq, List.length_cons]
    exact congrArg (· + 1) hnum
  have ent : ∀ e ∈ (SetTable.insertAt es p (k.hash w, Value.ref x)).toList, ∃ p ∈ ks.take (i + 1), e = (p.2.hash w, Value.ref p.1) := fun e he => by
    rw [hin] at he
    rw [take_step hi]
    rcases List.mem_cons.mp (pm.mem_iff.mp he) with rfl | he
    · exact ⟨(x, k), List.mem_append_right _ (List.mem_singleton.mpr rfl), rfl⟩
    · obtain ⟨p, hp, e2⟩ := R.ent e he
      exact ⟨p, List.mem_append_left _ hp, e2⟩
  generalize SetTable.insertAt es p (k.hash w, Value.ref x) = es1 at *
  refine wpAny_bind (wpAny_storeSet_of ho hd ?_ (by rw [hes, sizeLine_eq]; omega))
  have sb : Heap.SameBut a s.heap (s.heap.update a (Obj.putSet es1 t1)) := Heap.SameBut.update ..
  have ho1 := store_at (es' := es1) (t' := t1) ho hd
  generalize s.heap.update a (Obj.putSet es1 t1) = h1 at *
  rw [hlen] at q9
  by_cases hf : t1.tooFull = true
  · first
      | (refine wpAny_bind ?_; refine wp_if_pos (by simp [hf]) ?_)
      | (refine wp_if_pos (by simp [hf]) ?_; refine wpAny_bind ?_)
    have full : (i + 1) * 5 ≥ t1.mask * 3 := by
      have h := hf
      unfold SetTable.tooFull at h
      rw [decide_eq_true_eq, q9] at h
      exact h
    rw [hnum]
    have go : ∀ M, SetTable.sizeAbove (SetTable.grown (i + 1)) - 1 = M → MaskOk M → SetTable.sizeAbove (SetTable.grown (i + 1)) ≤ 128 → (i + 1) * 5 < M * 3 → es1.size ≤ t1.mask →
        wpAny (model P w) A (setRelay a (SetTable.grown (i + 1))) (fun _ s' => wpAny (model P w) A (pure true) Q E s') E { s with heap := h1 } := fun M z1 z2 z3 z4 z5 =>
      relay_new (s := { s with heap := h1 }) ho1 ⟨hex.1, hex.2.1, hex.2.2⟩ rfl T1 z5 hes ent hp1 ld1 z1 z2 z3 z4 fun h2 es2 ep2 t2 sb2 R2 => wpAny_pure (hQ true h2 es2 ep2 t2 (sb.trans sb2) R2)
    have two : (t.mask = 7 ∧ i = 4) ∨ (t.mask = 31 ∧ i = 18) := by
      rcases R.tab.mok with e | e | e
      · left; rw [q4, e] at full; rw [e] at hroom; exact ⟨e, by omega⟩
      · right; rw [q4, e] at full; rw [e] at hroom; exact ⟨e, by omega⟩
      · exfalso; rw [q4, e] at full; omega
    rcases two with ⟨em, e2⟩ | ⟨em, e2⟩
    · exact go 31 (by rw [e2, size_20]) (.inr (.inl rfl)) (by rw [e2, size_20]; decide) (by omega) (by rw [hes, q4, em]; omega)
    · exact go 127 (by rw [e2, size_76]) (.inr (.inr rfl)) (by rw [e2, size_76]; decide) (by omega) (by rw [hes, q4, em]; omega)
  · first
      | refine wp_if_neg (by simp [hf]) ?_
      | (refine wpAny_bind ?_; refine wp_if_neg (by simp [hf]) ?_; refine wpAny_pure ?_)
    refine wpAny_pure (hQ true h1 es1 (ep + 1) t1 sb ⟨⟨_, ho1, ⟨hex.1, hex.2.1, hex.2.2⟩, rfl⟩, T1, hes, ent, hp1, ld1, ?_⟩)
    have h := hf
    unfold SetTable.tooFull at h
    rw [decide_eq_true_eq, q9] at h
    omega
end
end
end TT

set_option Elab.async false
set_option linter.all false
set_option maxRecDepth 100000
set_option autoImplicit false
namespace TT
open PySem PySem.Spec L2 PyProof.Rows
section
variable {P : Program} {w : World} {A : Around} {E : Value → Shared → Prop} {s : Shared} {ks : Keyed}
theorem NSt.moved {h h' : Heap} {i : Nat} {a : Addr} {es : Array (Int × Value)} {ep : Nat} {t : SetTable} (R : NSt w ks i h a es ep t) (k : ∀ o, h.get? a = some o → h'.get? a = some o) : NSt w ks i h' a es ep t := by
  obtain ⟨o, ho, r⟩ := R.ob
  exact ⟨⟨o, k o ho, r⟩, R.tab, R.num, R.ent, R.plain, R.led, R.room⟩
abbrev fset (w : World) : Obj := { cls := .type "set", dict := none, data := .set #[] 0 (.fresh 0 0 (!w.params.followText "set-order")) }
theorem nst_none {h : Heap} {a : Addr} (ho : h.get? a = some (fset w)) : NSt w ks 0 h a #[] 0 (.fresh 0 0 (!w.params.followText "set-order")) := by
  refine ⟨⟨_, ho, ⟨rfl, rfl, rfl⟩, rfl⟩, ⟨List.Pairwise.nil, rfl, rfl, .inl rfl, fun x hx => (by cases hx), fun i h j hi => (by simp at hi)⟩, rfl, fun e he => (by cases he), rfl, ?_, (by show 0 * 5 < 7 * 3; decide)⟩
  show _ ∨ (!w.params.followText "set-order") = true
  cases w.params.followText "set-order"
  · exact .inr rfl
  · exact .inl rfl

/-- set.update: each of the list is new to the set -/
theorem update_new {I : Addr} {fp wr : List Addr} {G : Array GenState → Array GenState → Prop} {n : Nat} {Pv : Nat → Value → Prop} {St : Nat → Shared → Prop} {R : Result → Shared → Prop}
    (W : WalksS P w A.in1 I fp wr G n Pv St) (S : Addr) (nS : S ∉ fp) (hn : n = ks.length) (few : ks.length < 64) (nd : (ks.map (·.2)).Nodup) (hval : ∀ i v, Pv i v → ∃ p, ks[i]? = some p ∧ v = .ref p.1)
    (h0 : Heap) (hk : ∀ p ∈ ks, KeyN h0 p.2 p.1) (hS : h0.get? S = none) (hw : ∀ b ∈ wr, h0.get? b = none) (hu : A.in1.units + 8 < cLine) :
    ∀ (m i : Nat) (s : Shared), n - i = m → i ≤ n → St i s → (∀ b o, h0.get? b = some o → s.heap.get? b = some o) → (∃ es ep t, NSt w ks i s.heap S es ep t) →
      (∀ s' es ep t, Moved (S :: wr) G s s' → NSt w ks n s'.heap S es ep t → (∀ b o, h0.get? b = some o → s'.heap.get? b = some o) → R (.ok (.ret .none)) s') →
      codeAny (model P w) A (.builtin "set.update.loop" ⟨[.ref S, .ref I], []⟩) R s := by
  have nSw : S ∉ wr := fun h => nS (W.sub _ h)
  have more : ∀ b ∈ wr, b ∈ S :: wr := fun b hb => List.mem_cons_of_mem _ hb
  have old : ∀ {u v : Shared}, Moved wr G u v → (∀ b o, h0.get? b = some o → u.heap.get? b = some o) → ∀ b o, h0.get? b = some o → v.heap.get? b = some o := fun hm z b o e =>
    hm.heap b o (fun hb => by rw [hw b hb] at e; cases e) (z b o e)
  intro m
  induction m with
  | zero =>
    rintro i s hm hi st z ⟨es, ep, t, R0⟩ hR
    obtain rfl : i = n := by omega
    refine codeAny_builtin F.entry_set_update_loop ?_
    rw [Around.under_plainId F.plain_set_update_loop _]
    show wpAny _ A.in1 (pyNext (.ref I) >>= _) _ _ s
    refine wpAny_bind (W.done s _ _ st fun v hv => ?_)
    exact wpAny_pure (hR v es ep t (hv.mono more) (R0.moved fun o e => hv.heap S o nSw e) (old hv z))
  | succ m ih =>
    rintro i s hm hi st z ⟨es, ep, t, R0⟩ hR
    have lt : i < n := by omega
    refine codeAny_builtin F.entry_set_update_loop ?_
    rw [Around.under_plainId F.plain_set_update_loop _]
    show wpAny _ A.in1 (pyNext (.ref I) >>= _) _ _ s
    refine wpAny_bind (W.item i s _ _ lt st fun v s1 hP st1 hv => ?_)
    obtain ⟨⟨x, k⟩, hp, rfl⟩ := hval i v hP
    have z1 := old hv z
    have R1 : NSt w ks i s1.heap S es ep t := R0.moved fun o e => hv.heap S o nSw e
    have hx : KeyN s1.heap k x := (hk _ (List.mem_of_getElem? hp)).keep z1
    show wpAny _ A.in1 (holding [Value.ref x] (setAdd S (.ref x)) >>= _) _ _ s1
    refine wpAny_bind (wpAny_holding ?_)
    unfold setAdd
    refine wpAny_holding (wpAny_bind ((nestedKind P w).pyHash hu ⟨hx.is, hx.dep⟩ ?_))
    refine add_new (s := { s1 with toks := s1.toks + (nestedKind P w).draws k }) R1 hp hx (fun p hpm => ⟨(hk p (List.mem_of_mem_take hpm)).keep z1, apart nd hp p hpm⟩) hu (by omega) fun b h2 es2 ep2 t2 sb R2 => ?_
    have z2 : ∀ b o, h0.get? b = some o → h2.get? b = some o := fun b o e => (sb.2 b (fun q => by rw [q, hS] at e; cases e)).trans (z1 b o e)
    refine wpAny_pure ⟨plainId_quiet F.plain_set_update_loop _, ih (i + 1) _ (by omega) lt (W.frame _ s1 _ _ st1 (Nat.le_add_right _ _) fun b hb o e => ?_) z2 ⟨es2, ep2, t2, R2⟩ fun s3 es3 ep3 t3 hv3 R3 z3 => ?_⟩
    · rw [sb.2 b (fun q : b = S => nS (q ▸ hb))]; exact e
    · refine hR s3 es3 ep3 t3 (Moved.trans W.gtrans ((hv.mono more).then_heap (Nat.le_add_right _ _) fun b o hb e => ?_) hv3) R3 z3
      rw [sb.2 b (fun q : b = S => hb (q ▸ List.mem_cons_self))]; exact e

set_option maxHeartbeats 3200000 in
theorem call_set_new {l : Addr} {items : Array Value} {Q : Value → Shared → Prop} (hh : A.handled = none) (hl : s.heap.IsList l items) (hit : items.toList = ks.map fun p => Value.ref p.1) (hk : ∀ p ∈ ks, KeyN s.heap p.2 p.1)
    (nd : (ks.map (·.2)).Nodup) (few : ks.length < 64) (hu : A.units + 12 < cLine)
    (h : ∀ (h' : Heap) (tk : Nat) es ep t, NSt w ks ks.length h' s.heap.objs.size es ep t → (∀ b o, s.heap.get? b = some o → h'.get? b = some o) → Q (.ref s.heap.objs.size) { s with heap := h', toks := tk }) :
    wpAny (model P w) A (call (.type "set") [.ref l]) Q E s := by
  have hsz : items.size = ks.length := by rw [← Array.length_toList, hit, List.length_map]
  obtain ⟨c, tl, hmro⟩ := F.called_set.mro
  have hmade := F.called_set.made
  have hsub := F.called_set.sub
  refine wpAny_call (codeAny_of_tree ?_)
  show wpAny _ _ (callAny (.type "set") _) _ _ _
  refine wpAny_pure ⟨Code.quiet_builtin _ (by decide +kernel), codeAny_builtin F.entry_type_call ?_⟩
  rw [Around.under_plain (weight_type_call_type "set" [.ref l] []) rfl]
  have h1 := F.called_set.notType
  have h2 := F.called_set.canCreate
  have h3 := F.typeCall_set_1 (.ref l)
  repeat (any_goals (first | assumption | wp_step))
  have new : (s.heap.push (fset w)).get? s.heap.objs.size = some (fset w) := Heap.get?_push_size _ rfl
  refine codeAny_mono (code_set_led1 (.ref l) (E := E) (Q₁ := fun obj u => obj = .ref s.heap.objs.size ∧ u = { s with heap := s.heap.push (fset w) }) ⟨rfl, rfl⟩) fun r u hr => ?_
  cases r with
  | error e => exact hr
  | ok fl =>
    cases fl with
    | ret obj =>
      obtain ⟨rfl, rfl⟩ := hr
      have hT : Shared.TypeIs { s with heap := s.heap.push (fset w) } (.ref s.heap.objs.size) "set" := ⟨_, new, rfl⟩
      have hli := F.called_set.init.lookup
      have hbi := F.called_set.init.bind (.ref s.heap.objs.size)
      repeat (any_goals (first | assumption | wp_step))
      refine codeAny_mono (codeAny_call_builtin (R := wants (fun r u => r = .none ∧ ∃ h' tk es ep t, u = { s with heap := h', toks := tk } ∧ NSt w ks ks.length h' s.heap.objs.size es ep t ∧ (∀ b o, s.heap.get? b = some o → h'.get? b = some o)) E)
        F.called_set.init.plain F.entry_set_init (check_set_init_1 hT ?_)) fun r u hr => ?_
      · obtain ⟨ol, hol, hcl, nl, hdl⟩ := hl
        obtain ⟨ocls, odict, odata, oslots⟩ := ol
        dsimp only at hcl hdl
        subst hcl hdl
        have hol1 := Heap.get?_push_of_some (fset w) hol
        have k1 := F.sub_list_set
        have k2 := F.sub_list_frozenset
        have k3 : (Value.type "list" == Value.type "dict") = false := by decide
        have hl1 : (s.heap.push (fset w)).IsList l items := ⟨_, hol1, rfl, nl, rfl⟩
        unfold Builtin.«set.__init__» noKeywords Builtin.Frozenset.updateFrom
        generalize hPI : pyIter = PI
        wp_walk
        subst hPI
        refine wpAny_pyIter_list hl1 ?_
        refine wpAny_bind (wpAny_runValue ?_)
        have ll : l < s.heap.objs.size := Heap.lt_size hol
        have hz : (s.heap.push (fset w)).objs.size = s.heap.objs.size + 1 := Heap.size_push ..
        have nI : l ≠ (s.heap.push (fset w)).objs.size := by rw [hz]; exact Nat.ne_of_lt (Nat.lt_succ_of_lt ll)
        have free : ∀ b, s.heap.objs.size ≤ b → s.heap.get? b = none := fun b hb => by
          cases q : s.heap.get? b with
          | none => rfl
          | some o => exact absurd (Nat.lt_of_lt_of_le (Heap.lt_size q) hb) (Nat.lt_irrefl _)
        refine update_new ((Walks.list (by simp [hh] : A.in1.in1.in1.handled = none) _ l nI items).toS) s.heap.objs.size ?_ hsz few nd (fun i v hv => ?_) s.heap hk (free _ (Nat.le_refl _)) (fun b hb => free b ?_) ?_ (items.size - 0) 0 _ (by omega) (Nat.zero_le _)
          ⟨⟨_, Heap.get?_push_size _ rfl, rfl, rfl⟩, hl1.push _⟩ (fun b o e => Heap.get?_push_of_some _ (Heap.get?_push_of_some _ e)) ⟨_, _, _, nst_none (Heap.get?_push_of_some _ new)⟩ fun u es ep t hm R z => ?_
        · rw [hz]
          simp only [List.mem_cons, List.mem_singleton, List.not_mem_nil, or_false, not_or]
          exact ⟨Nat.ne_of_lt (Nat.lt_succ_self _), Nat.ne_of_gt ll⟩
        · have q : items.toList[i]? = some v := by rw [Array.getElem?_toList]; exact hv
          rw [hit, List.getElem?_map] at q
          obtain ⟨p, e1, e2⟩ := Option.map_eq_some_iff.mp q
          exact ⟨p, e1, e2.symm⟩
        · rw [List.mem_singleton.mp hb, hz]
          exact Nat.le_succ _
        · show A.units + 1 + 1 + 1 + 8 < cLine
          omega
        · obtain ⟨h', g2, d', tk', os'⟩ := u
          cases hm.gens
          cases hm.drawn
          cases hm.os
          show wpAny _ _ _ _ _ _
          refine wpAny_pure ?_
          show wpAny _ _ (ret Value.none) _ _ _
          rw [hsz] at R
          exact wpAny_pure ⟨rfl, h', tk', es, ep, t, rfl, R, z⟩
      · cases r with
        | error e => exact hr
        | ok fl =>
          cases fl with
          | ret v =>
            obtain ⟨rfl, h', tk, es, ep, t, rfl, R, z⟩ := hr
            repeat (any_goals (first | assumption | wp_step))
            exact h _ _ _ _ _ R z
          | _ => exact hr.elim
    | _ => exact hr.elim
end

/-! ### data as keys -/
mutual
def nkD : D → NestedKey
  | .int i => .num i
  | .tup xs => .tup (nkA xs)
  | _ => .none
def nkA : List D → List NestedKey
  | [] => []
  | x :: xs => nkD x :: nkA xs
end
mutual
/-- whole numbers in tuples, not deeper than n -/
def isNk : Nat → D → Bool
  | _, .int _ => true
  | n + 1, .tup xs => isNkA n xs
  | _, _ => false
def isNkA : Nat → List D → Bool
  | _, [] => true
  | n, x :: xs => isNk n x && isNkA n xs
end
section
variable {X : Cx} {mg : Str → Option Value} {W : Wd} {H : Hp} {pins : List (Addr × Obj)} {σ : L2.St} {s : Shared}
mutual
theorem rep_nk (I : Inv X pins σ H s) (k : WOk W H) : ∀ (n : Nat) (d : D) (v : V) (u : Value), isNk n d = true → Rep X.K mg W v d → RelV v u → NestedIs s.heap (nkD d) u ∧ numK (nkD d) = true ∧ (nkD d).depth ≤ n
  | n, .int i, v, u, _, r, ru => by
    cases r
    obtain ⟨t, rfl⟩ := ru
    exact ⟨.int _ _, rfl, Nat.zero_le _⟩
  | 0, .tup xs, v, u, h, r, ru => by simp [isNk] at h
  | n + 1, .tup xs, v, u, h, r, ru => by
    cases r with
    | @tup a vs _ hs l =>
      cases ru
      obtain ⟨its, rv, ⟨o, ho, hc, m, hd⟩, _⟩ := I.tuple (Same.seqT k.sub hs)
      obtain ⟨h1, h2, h3⟩ := rep_nkA I k n xs vs its (by simpa [isNk] using h) l rv
      exact ⟨.tup ho hc hd (by simpa using h1), by simpa [nkD, numK] using h2, by simp only [nkD, NestedKey.depth]; omega⟩
  | n, .non, _, _, h, _, _ => by simp [isNk] at h
  | n, .bl _, _, _, h, _, _ => by simp [isNk] at h
  | n, .str _, _, _, h, _, _ => by simp [isNk] at h
  | n, .ty _, _, _, h, _, _ => by simp [isNk] at h
  | n, .lst _, _, _, h, _, _ => by simp [isNk] at h
  | n, .dic _, _, _, h, _, _ => by simp [isNk] at h
  | n, .obj _ _, _, _, h, _, _ => by simp [isNk] at h
  | n, .town, _, _, h, _, _ => by simp [isNk] at h
  | n, .scr, _, _, h, _, _ => by simp [isNk] at h
  | n, .err _, _, _, h, _, _ => by simp [isNk] at h
  | n, .key _, _, _, h, _, _ => by simp [isNk] at h
  | n, .idc _, _, _, h, _, _ => by simp [isNk] at h
theorem rep_nkA (I : Inv X pins σ H s) (k : WOk W H) : ∀ (n : Nat) (ds : List D) (vs : List V) (us : List Value), isNkA n ds = true → RepL X.K mg W vs ds → Vals vs us → NestedAll s.heap (nkA ds) us ∧ numA (nkA ds) = true ∧ NestedKey.depthAll (nkA ds) ≤ n
  | n, [], vs, us, _, r, ru => by
    cases r
    cases ru
    exact ⟨.nil, rfl, Nat.zero_le _⟩
  | n, d :: ds, vs, us, h, r, ru => by
    cases r with
    | cons r1 r2 =>
      cases ru with
      | cons u1 u2 =>
        simp only [isNkA, Bool.and_eq_true] at h
        obtain ⟨a1, a2, a3⟩ := rep_nk I k n d _ _ h.1 r1 u1
        obtain ⟨b1, b2, b3⟩ := rep_nkA I k n ds _ _ h.2 r2 u2
        exact ⟨.cons a1 b1, by simp only [nkA, numA, a2, b2]; rfl, by simp only [nkA, NestedKey.depthAll]; omega⟩
end
theorem keyed_of {W : Wd} (I : Inv X pins σ H s) (k : WOk W H) : ∀ (xs : List (List D)) (vs : List V) (us : List Value), (∀ x ∈ xs, isNkA 7 x = true) → RepL X.K mg W vs (xs.map .tup) → Vals vs us →
    ∃ ks : Keyed, us = ks.map (fun p => Value.ref p.1) ∧ ks.map (·.2) = xs.map (fun x => nkD (.tup x)) ∧ ∀ p ∈ ks, KeyN s.heap p.2 p.1
  | [], vs, us, _, r, ru => by
    cases r
    cases ru
    exact ⟨[], rfl, rfl, fun p h => (by cases h)⟩
  | x :: xs, vs, us, h, r, ru => by
    cases r with
    | cons r1 r2 =>
      cases ru with
      | @cons v u _ us u1 u2 =>
        obtain ⟨a1, a2, a3⟩ := rep_nk I k 8 (.tup x) _ _ (by simpa [isNk] using h x List.mem_cons_self) r1 u1
        obtain ⟨ks, e1, e2, e3⟩ := keyed_of I k xs _ _ (fun y hy => h y (List.mem_cons_of_mem _ hy)) r2 u2
        cases r1 with
        | @tup a ws _ hs l =>
          cases u1
          refine ⟨(a, nkD (.tup x)) :: ks, by rw [e1]; rfl, by rw [List.map_cons, e2]; rfl, fun p hp => ?_⟩
          rcases List.mem_cons.mp hp with rfl | hp
          · exact ⟨a1, a2, a3⟩
          · exact e3 p hp
end
section
variable {X : Cx} {mg : Str → Option Value}
/-- the list's things are keys, unlike one another -/
def tLenN (mg : Str → Option Value) (ta : TE) (K : PySem.W.Frag) : TE := fun σ H Q => ta σ H fun x H1 => ∃ (l : Addr) (vs : List V) (W : Wd) (ys : List (List D)), x = V.ref l ∧ SqL K H1 l vs ∧ WOk W H1 ∧ RepL K mg W vs (ys.map .tup) ∧ (∀ y ∈ ys, isNkA 7 y = true) ∧ (ys.map nkA).Nodup ∧ ys.length < 64 ∧ Q (.int ys.length) H1
theorem pe_lenN {a : Expr} {ta : TE} {p p2 q pos : Pos} (hc : X.calm = true) (hu : X.A.units + 64 < cLine) (hg : Gl X "len") (hm : X.mg "len" = none) (hg2 : Gl X "set") (hm2 : X.mg "set" = none) (ha : PE X a ta)
    (na : starEach [a] X.env = (false, eval a X.env) :: starEach [] X.env) : PE X (.Call (.Name "len" p) [.Call (.Name "set" p2) [a] [] q] [] pos) (tLenN mg ta X.K) := by
  refine ⟨fun pins s σ H Q I h => ?_⟩
  refine Call_ (ld_blt I hg hm PySem.boot_len ?_)
  refine callWith_builtin1 (args_cons ?_ rfl) rfl rfl
  refine Call_ (ld_blt I hg2 hm2 boot_set ?_)
  refine callWith_type1 (args_cons (thn (ha.run pins s σ H _ I h) fun v s1 ⟨x, H1, I1, r1, q1⟩ => args_nil ?_) na) na rfl
  obtain ⟨l, vs, W, ys, rfl, hq, k, rl, hy, nd, few, q1⟩ := q1
  cases r1
  obtain ⟨its, r, pl, hz⟩ := I1.list hq
  obtain ⟨ks, e1, e2, e3⟩ := keyed_of I1 k ys vs its hy rl r
  have hl : ks.length = ys.length := by
    have := congrArg List.length e2
    simpa using this
  have nd2 : (ks.map (·.2)).Nodup := by
    rw [e2]
    have e4 : (ys.map fun x => nkD (.tup x)) = (ys.map nkA).map NestedKey.tup := by rw [List.map_map]; rfl
    rw [e4]
    refine List.pairwise_map.mpr (List.Pairwise.imp (fun h e => h ?_) nd)
    injection e
  refine call_set_new (ks := ks) (I1.ok.hd hc) pl.isList (by simpa using e1) e3 nd2 (by rw [hl]; exact few) (by omega) fun h' tk es ep t R z => ?_
  refine args_nil ?_
  have I2 : Inv X pins σ H1 { s1 with heap := h', toks := tk } := I1.kept z
  obtain ⟨o, ho, hex, hd⟩ := R.ob
  refine call_len_set ho hex hd (NSt.fits (s := { s1 with heap := h', toks := tk }) R) (by rw [R.num, hl]; omega) ⟨.int ys.length, H1, I2.tok _, ⟨_, by rw [R.num, hl]⟩, q1⟩
end
end TT

set_option Elab.async false
set_option linter.all false
set_option maxRecDepth 100000
set_option autoImplicit false
namespace TT
open PySem PySem.Spec L2

/-! ### taking an expression apart -/
def dName : Expr → Option Str | .Name x _ => some x | _ => none
def dConst : Expr → Option Const | .Constant c _ _ => some c | _ => none
def dTup : Expr → Option (List Expr) | .Tuple es _ _ => some es | _ => none
def dLst : Expr → Option (List Expr) | .List es _ => some es | _ => none
def dBin : Expr → Option (Expr × Operator × Expr) | .BinOp a o b _ => some (a, o, b) | _ => none
def dUn : Expr → Option (UnaryOp × Expr) | .UnaryOp o a _ => some (o, a) | _ => none
def dCmp : Expr → Option (Expr × List CmpOp × List Expr) | .Compare a os bs _ => some (a, os, bs) | _ => none
def dBool : Expr → Option (BoolOp × List Expr) | .BoolOp o es _ => some (o, es) | _ => none
def dIte : Expr → Option (Expr × Expr × Expr) | .IfExp c a b _ => some (c, a, b) | _ => none
def dSub : Expr → Option (Expr × Expr) | .Subscript a i _ => some (a, i) | _ => none
def dCall : Expr → Option (Expr × List Expr × List Keyword) | .Call f es ks _ => some (f, es, ks) | _ => none
def dComp : Expr → Option (Expr × List Comprehension × Scope) | .ListComp e gs sc _ => some (e, gs, sc) | _ => none
section
variable {e : Expr}
theorem dName_eq {x : Str} (h : dName e = some x) : ∃ p, e = .Name x p := by
  cases e <;> simp [dName] at h
  subst h; exact ⟨_, rfl⟩
theorem dConst_eq {x : Const} (h : dConst e = some x) : ∃ k p, e = .Constant x k p := by
  cases e <;> simp [dConst] at h
  subst h; exact ⟨_, _, rfl⟩
theorem dTup_eq {x : List Expr} (h : dTup e = some x) : ∃ k p, e = .Tuple x k p := by
  cases e <;> simp [dTup] at h
  subst h; exact ⟨_, _, rfl⟩
theorem dLst_eq {x : List Expr} (h : dLst e = some x) : ∃ p, e = .List x p := by
  cases e <;> simp [dLst] at h
  subst h; exact ⟨_, rfl⟩
theorem dBin_eq {a b : Expr} {o : Operator} (h : dBin e = some (a, o, b)) : ∃ p, e = .BinOp a o b p := by
  cases e <;> simp [dBin] at h
  obtain ⟨rfl, rfl, rfl⟩ := h; exact ⟨_, rfl⟩
theorem dUn_eq {a : Expr} {o : UnaryOp} (h : dUn e = some (o, a)) : ∃ p, e = .UnaryOp o a p := by
  cases e <;> simp [dUn] at h
  obtain ⟨rfl, rfl⟩ := h; exact ⟨_, rfl⟩
theorem dCmp_eq {a : Expr} {os : List CmpOp} {bs : List Expr} (h : dCmp e = some (a, os, bs)) : ∃ p, e = .Compare a os bs p := by
  cases e <;> simp [dCmp] at h
  obtain ⟨rfl, rfl, rfl⟩ := h; exact ⟨_, rfl⟩
theorem dBool_eq {o : BoolOp} {es : List Expr} (h : dBool e = some (o, es)) : ∃ p, e = .BoolOp o es p := by
  cases e <;> simp [dBool] at h
  obtain ⟨rfl, rfl⟩ := h; exact ⟨_, rfl⟩
theorem dIte_eq {a b c : Expr} (h : dIte e = some (c, a, b)) : ∃ p, e = .IfExp c a b p := by
  cases e <;> simp [dIte] at h
  obtain ⟨rfl, rfl, rfl⟩ := h; exact ⟨_, rfl⟩
theorem dSub_eq {a i : Expr} (h : dSub e = some (a, i)) : ∃ p, e = .Subscript a i p := by
  cases e <;> simp [dSub] at h
  obtain ⟨rfl, rfl⟩ := h; exact ⟨_, rfl⟩
theorem dCall_eq {f : Expr} {es : List Expr} {ks : List Keyword} (h : dCall e = some (f, es, ks)) : ∃ p, e = .Call f es ks p := by
  cases e <;> simp [dCall] at h
  obtain ⟨rfl, rfl, rfl⟩ := h; exact ⟨_, rfl⟩
theorem dComp_eq {f : Expr} {gs : List Comprehension} {sc : Scope} (h : dComp e = some (f, gs, sc)) : ∃ p, e = .ListComp f gs sc p := by
  cases e <;> simp [dComp] at h
  obtain ⟨rfl, rfl, rfl⟩ := h; exact ⟨_, rfl⟩
end
def isStar : Expr → Bool | .Starred _ _ => true | _ => false
def isSet : Expr → Bool | .Set _ _ _ => true | _ => false
def isSlice : Expr → Bool | .Slice _ _ _ _ => true | _ => false
theorem star_cons {e : Expr} {es : List Expr} {env : Env} (h : isStar e = false) : starEach (e :: es) env = (false, eval e env) :: starEach es env := by
  cases e <;> first | rfl | (simp [isStar] at h)
theorem set_no {e : Expr} {env : Env} (h : isSet e = false) (x : Value) : foldedSetIterable e env x = pure x := by
  cases e <;> first | rfl | (simp [isSet] at h)
theorem mark_no {e : Expr} (op : CmpOp) (h : isSet e = false) : behindInMarks op e = false := by
  cases e <;> first | rfl | (simp [isSet] at h)
theorem plainIx {e : Expr} (h : isSlice e = false) : PlainIx e := by
  cases e <;> first | (intro _ _; rfl) | (simp [isSlice] at h)
def vis (sc : Scope) (x : Str) : Bool := match sc.names.lookup x with
  | some .local => true
  | some .cell => true
  | some .free => true
  | _ => false
theorem vis_ok {sc : Scope} {x : Str} (h : vis sc x = true) : Vis sc x := by
  unfold vis at h
  split at h
  · exact .inl (by assumption)
  · exact .inr (.inl (by assumption))
  · exact .inr (.inr (by assumption))
  · cases h
def okN (x : Str) : Bool := !(x == ("__debug__" : Str)) && !(x == ("__classdict__" : Str)) && !(x == ("__name__" : Str))
theorem okN_1 {x : Str} (h : okN x = true) : (x == ("__debug__" : Str)) = false := by
  unfold okN at h; simp only [Bool.and_eq_true, Bool.not_eq_true'] at h; exact h.1.1
theorem okN_2 {x : Str} (h : okN x = true) : (x == ("__classdict__" : Str)) = false := by
  unfold okN at h; simp only [Bool.and_eq_true, Bool.not_eq_true'] at h; exact h.1.2
def isGl (sc : Scope) (x : Str) : Bool := decide (sc.names.lookup x = some .globalImplicit)
theorem isGl_ok {X : Cx} {x : Str} (h : isGl X.env.scope x = true) : Gl X x := by
  unfold isGl at h
  have := of_decide_eq_true h
  exact this
/-- a target's name in the scope that it is written in -/
def isOwn (sc : Scope) (x : Str) : Bool := match sc.names.lookup x with
  | some .local => true
  | some .cell => true
  | _ => false

/-! ### types of values -/
def tyD : D → Option String
  | .non => some "NoneType" | .bl _ => some "bool" | .int _ => some "int" | .str _ => some "str" | .tup _ => some "tuple" | .lst _ => some "list" | .dic _ => some "dict" | _ => none
def isT (t : Ty) : D → Option Bool
  | .non => some false
  | .bl _ => match t with
    | .int => some true
    | .bool => some true
    | _ => some false
  | .int _ => match t with
    | .int => some true
    | _ => some false
  | .str _ => match t with
    | .str => some true
    | _ => some false
  | .tup _ => match t with
    | .tuple => some true
    | _ => some false
  | .lst _ => match t with
    | .list => some true
    | _ => some false
  | .dic _ => match t with
    | .dict => some true
    | _ => some false
  | _ => none
def isTs : List Ty → D → Option Bool
  | [], _ => some false
  | t :: ts, d => match isT t d with
    | some true => some true
    | some false => isTs ts d
    | none => none
def opIsi (t : Ty) (x : D) (q : DV → Prop) : Prop := match isT t x with
  | some b => q (.v (.bl b))
  | none => False
def opIsis (ts : List Ty) (x : D) (q : DV → Prop) : Prop := match isTs ts x with
  | some b => q (.v (.bl b))
  | none => False
def opNon (b : Bool) (x : D) (q : DV → Prop) : Prop := match x with
  | .non => q (.v (.bl b))
  | _ => q (.v (.bl (!b)))
theorem isT_kit {K : PySem.W.Frag} {t : Ty} {d : D} {b : Bool} (h : isT t d = some b) : ∃ a, tyD d = some a ∧ PySem.W.kitOne K (.type a) (.type t.name) = some b := by
  cases d <;> cases t <;> simp [isT] at h <;> subst h <;> exact ⟨_, rfl, kit_ty (by decide +kernel)⟩
theorem RepT.ty {K : PySem.W.Frag} {mg : Str → Option Value} {W : Wd} {H : Hp} {v : V} {d : D} {a : String} (w : WOk W H) (r : RepT K mg W H v d) (h : tyD d = some a) : TyY K H v (.type a) := by
  have bad : ∀ x : D, tyD x = none → d = x → False := fun x e z => by rw [z, e] at h; cases h
  cases d with
  | non => rcases r with r | ⟨_, _, c, _⟩; (cases r; cases h; exact .x (.base .non)); exact c.elim
  | bl b => cases r.bl; cases h; exact .x (.base (.bl b))
  | int i => cases r.int; cases h; exact .x (.base (.int i))
  | str s => cases r.str; cases h; exact .x (.base (.str s))
  | tup ds =>
    obtain ⟨p, xs, rfl, e, l⟩ := r.tup w
    cases h
    rcases e with (e | ⟨o, e⟩) | ⟨o, its, k, e, c, _⟩
    · exact .x (.base (.tup e))
    · exact .x (.fTuple e)
    · exact .x (.kTuple e c)
  | lst ds =>
    obtain ⟨p, xs, rfl, e, l⟩ := r.lst w
    cases h
    exact .x (.base (.lst e))
  | dic ds =>
    obtain ⟨p, xs, rfl, e, l⟩ := r.dic w
    cases h
    rcases e with e | ⟨o, e⟩
    · exact .x (.base (.dT e))
    · exact .fD e
  | _ => exact absurd h (by simp [tyD])
theorem isTs_kit {K : PySem.W.Frag} {d : D} {a : String} (ha : tyD d = some a) : ∀ {ts : List Ty} {b : Bool}, isTs ts d = some b → PySem.W.kitAny K (.type a) (ts.map fun t => .type t.name) = some b
  | [], b, h => by
    cases h
    exact kitAny_nil
  | t :: ts, b, h => by
    unfold isTs at h
    cases e : isT t d with
    | none => rw [e] at h; cases h
    | some c =>
      rw [e] at h
      obtain ⟨a', ea, k⟩ := isT_kit (K := K) e
      rw [ha] at ea; cases ea
      cases c with
      | true =>
        cases h
        exact kitAny_cons k (fun z => by cases z) (fun _ => rfl)
      | false => exact kitAny_cons k (fun _ => isTs_kit ha h) (fun z => by cases z)
theorem boot_ty (t : Ty) : bootBuiltins (Str.ofString t.name) = some (.type t.name) := by cases t <;> decide +kernel
def chkTy (sc : Scope) : List Ty → Option (List Expr) → Bool
  | [], some [] => true
  | t :: ts, some (e :: es) => decide (dName e = some (Str.ofString t.name)) && (isGl sc (Str.ofString t.name) && chkTy sc ts (some es))
  | _, _ => false

/-! ### operations of one and of two operands, by the shape of their writing -/
def errNames : List Str := ["TintError", "BadNumber", "BadShare", "BadCurve", "BadSquare", "NoBack", "BadGrid", "BadColour", "BadIntent", "BadProfile", "BadInk", "BadText"]
def isE (c x : Str) : Bool := decide (x = "ValueError") || decide (x = "TintError") || decide (c = x)
inductive P1 where
  /-- isinstance(e, an error's class) -/
  | isx (x : Str)
  /-- o.f; isinstance(o, an own class); .. is True -/
  | att (c f : Str) | isc (c : Str) | isTr
  /-- sorted(xs), sorted(set(xs)) of numbers -/
  | srt | srs
  /-- a key as a tuple; tuple(xs) as a key; dict(d), len(d); list(range(n)); max(xs), min(xs) of numbers -/
  | unk | tupk | dcopy | lenD | lrng | max1 | min1
  /-- xs[::-1] of a list -/
  | rev
  /-- dict(xs) of pairs of a whole number and a thing; sorted(xs) of tuples of whole numbers, of a dict of such keys -/
  | dofp | srtK | srtD
  /-- .. is not True, .. is False -/
  | isnT | isF
  /-- len(set(xs)) of unlike tuples -/
  | lset
  /-- isinstance(o, an own class), o of one of these classes -/
  | isd (c : Str) (l : List (Str × Bool))
  /-- o.f, o of one of several classes -/
  | attM (l : List Str) (f : Str)
inductive P2 where
  /-- xs.count(b), xs.index(b) of truth values -/
  | cnt | idx
  /-- x in xs; xs[:j], xs[j:] -/
  | isin (neg : Bool) | cutL | cutR
  /-- d[k], d.get(k), k in d: a dict of tuple keys -/
  | dix | dget | din (neg : Bool)
  /-- d[i]: a dict of whole numbers -/
  | dii
def shIsi (sc : Scope) (x : Str) : Expr → Option Expr
  | .Call (.Name g _) [a, .Name y _] [] _ => if (decide (g = ("isinstance" : Str)) && (decide (y = x) && (isGl sc g && (isGl sc y && (okN y && !isStar a))))) = true then some a else none
  | _ => none
def shAtt (f : Str) : Expr → Option Expr
  | .Attribute y g _ => if (decide (f = g) && recvB y) = true then some y else none
  | _ => none
def shTr : Expr → Option Expr
  | .Compare a [.Is] [.Constant (.bool true) _ _] _ => some a
  | _ => none
def shNTr : Expr → Option Expr
  | .Compare a [.IsNot] [.Constant (.bool true) _ _] _ => some a
  | _ => none
def shFa : Expr → Option Expr
  | .Compare a [.Is] [.Constant (.bool false) _ _] _ => some a
  | _ => none
def shSrt (sc : Scope) : Expr → Option Expr
  | .Call (.Name g _) [a] [] _ => if (decide (g = ("sorted" : Str)) && (isGl sc g && !isStar a)) = true then some a else none
  | _ => none
def shSrs (sc : Scope) : Expr → Option Expr
  | .Call (.Name g _) [.Call (.Name h _) [a] [] _] [] _ => if (decide (g = ("sorted" : Str)) && (isGl sc g && (decide (h = ("set" : Str)) && (isGl sc h && !isStar a)))) = true then some a else none
  | _ => none
def shLs (sc : Scope) : Expr → Option Expr
  | .Call (.Name g _) [.Call (.Name h _) [a] [] _] [] _ => if (decide (g = ("len" : Str)) && (isGl sc g && (decide (h = ("set" : Str)) && (isGl sc h && !isStar a)))) = true then some a else none
  | _ => none
def shOne (sc : Scope) (f : Str) : Expr → Option Expr
  | .Call (.Name g _) [a] [] _ => if (decide (g = f) && (isGl sc g && !isStar a)) = true then some a else none
  | _ => none
def shName : Expr → Option Expr
  | .Name y p => some (.Name y p)
  | _ => none
def shRng (sc : Scope) : Expr → Option Expr
  | .Call (.Name g _) [.Call (.Name h _) [a] [] _] [] _ => if (decide (g = ("list" : Str)) && (isGl sc g && (decide (h = ("range" : Str)) && (isGl sc h && !isStar a)))) = true then some a else none
  | _ => none
def shRev : Expr → Option Expr
  | .Subscript a (.Slice none none (some (.UnaryOp .USub (.Constant (.int 1) _ _) _)) _) _ => some a
  | _ => none
def sh1 (sc : Scope) (p : P1) (e : Expr) : Option Expr := match p with
  | .unk => shName e
  | .tupk => shOne sc "tuple" e
  | .dcopy => shOne sc "dict" e
  | .lenD => shOne sc "len" e
  | .lrng => shRng sc e
  | .max1 => shOne sc "max" e
  | .min1 => shOne sc "min" e
  | .isx x => shIsi sc x e
  | .isc x => shIsi sc x e
  | .isd x _ => shIsi sc x e
  | .att _ f => shAtt f e
  | .attM _ f => shAtt f e
  | .isTr => shTr e
  | .isnT => shNTr e
  | .isF => shFa e
  | .srt => shSrt sc e
  | .srs => shSrs sc e
  | .lset => shLs sc e
  | .rev => shRev e
  | .dofp => shOne sc "dict" e
  | .srtK => shOne sc "sorted" e
  | .srtD => shOne sc "sorted" e
def shM (m : Str) : Expr → Option (Expr × Expr)
  | .Call (.Attribute a f p) [b] [] q => if (decide (f = m) && ((p.endLine == q.line) && (!isStar b && decide ((dName a).isSome)))) = true then some (a, b) else none
  | _ => none
def opIn (neg : Bool) : CmpOp := if neg = true then .NotIn else .In
def shIn (neg : Bool) : Expr → Option (Expr × Expr)
  | .Compare a [o] [b] _ => if (decide (o = opIn neg) && !isSet b) = true then some (a, b) else none
  | _ => none
def shL : Expr → Option (Expr × Expr)
  | .Subscript a (.Slice none (some b) none _) _ => some (a, b)
  | _ => none
def shR : Expr → Option (Expr × Expr)
  | .Subscript a (.Slice (some b) none none _) _ => some (a, b)
  | _ => none
def shIx : Expr → Option (Expr × Expr)
  | .Subscript a b _ => if isSlice b = true then none else some (a, b)
  | _ => none
def sh2 (sc : Scope) (p : P2) (e : Expr) : Option (Expr × Expr) := match p with
  | .dix => shIx e
  | .dii => shIx e
  | .dget => shM "get" e
  | .din neg => shIn neg e
  | .cnt => shM "count" e
  | .idx => shM "index" e
  | .isin neg => shIn neg e
  | .cutL => shL e
  | .cutR => shR e
def op1 : P1 → D → (DV → Prop) → Prop
  | .isx x, .err c, q => c ∈ errNames ∧ q (.v (.bl (isE c x)))
  | .att c f, d, q => opAtt c f d q
  | .attM l f, d, q => opAttM l f d q
  | .isc c, .obj c' _, q => c' = c ∧ q (.v (.bl true))
  | .isc _, d, q => (tyD d).isSome = true ∧ q (.v (.bl false))
  | .isd _ l, .obj c' _, q => ∃ b, l.lookup c' = some b ∧ q (.v (.bl b))
  | .isd _ _, d, q => (tyD d).isSome = true ∧ q (.v (.bl false))
  | .isTr, .bl b, q => q (.v (.bl b))
  | .isnT, .bl b, q => q (.v (.bl (!b)))
  | .isF, .bl b, q => q (.v (.bl (!b)))
  | .srt, .lst xs, q => ∃ ns : List Int, xs = ns.map D.int ∧ ∀ ns' : List Int, ns'.Perm ns → ns'.Pairwise (· ≤ ·) → q (.own (.lst (ns'.map D.int)))
  | .srs, .lst xs, q => ∃ ns : List Int, xs = ns.map D.int ∧ ns.length < 64 ∧ ∀ ns' : List Int, ns'.Pairwise (· < ·) → (∀ k, k ∈ ns' ↔ k ∈ ns) → q (.own (.lst (ns'.map D.int)))
  | .lset, .lst xs, q => ∃ ys : List (List D), xs = ys.map D.tup ∧ (∀ y ∈ ys, isNkA 7 y = true) ∧ (ys.map nkA).Nodup ∧ ys.length < 64 ∧ q (.v (.int ys.length))
  | .rev, .lst xs, q => q (.own (.lst xs.reverse))
  | .dofp, .lst xs, q => ∃ kvs : List (Int × D), xs = kvs.map (fun p => .tup [.int p.1, p.2]) ∧ (kvs.map (·.1)).Nodup ∧ q (.v (.idc kvs))
  | .srtK, .lst xs, q => ∃ ks : List (List Int), xs = ks.map (fun k => .tup (k.map .int)) ∧ (∀ k ∈ ks, k ≠ []) ∧ q (.own (.lst ((ks.mergeSort fun x y => decide (x ≤ y)).map fun k => .tup (k.map .int))))
  | .srtD, .dic kvs, q => (∀ kv ∈ kvs, kv.1 ≠ []) ∧ q (.own (.lst (((kvs.map (·.1)).mergeSort fun x y => decide (x ≤ y)).map .key)))
  | .unk, .key k, q => q (.v (.tup (k.map .int)))
  | .unk, .tup ds, q => q (.v (.tup ds))
  | .tupk, .lst xs, q => ∃ k : List Int, xs = k.map .int ∧ q (.v (.key k))
  | .dcopy, .dic kvs, q => (kvs.map fun x => tHash x.1).Nodup ∧ q (.own (.dic kvs))
  | .lenD, .dic kvs, q => q (.v (.int kvs.length))
  | .lrng, .int j, q => (0 ≤ j ∧ j ≤ 1000) ∧ q (.own (.lst (rngD 0 j.toNat)))
  | .max1, .lst xs, q => ∃ ns : List Int, xs = ns.map .int ∧ 0 < ns.length ∧ ∀ m, m ∈ ns → (∀ y, y ∈ ns → y ≤ m) → q (.v (.int m))
  | .max1, .tup xs, q => ∃ ns : List Int, xs = ns.map .int ∧ 0 < ns.length ∧ ∀ m, m ∈ ns → (∀ y, y ∈ ns → y ≤ m) → q (.v (.int m))
  | .min1, .lst xs, q => ∃ ns : List Int, xs = ns.map .int ∧ 0 < ns.length ∧ ∀ m, m ∈ ns → (∀ y, y ∈ ns → m ≤ y) → q (.v (.int m))
  | _, _, _ => False
def op2 : P2 → D → D → (DV → Prop) → Prop
  | .cnt, .lst xs, .bl b, q => ∃ bs : List Bool, xs = bs.map D.bl ∧ q (.v (.int (bs.count b : Nat)))
  | .idx, .lst xs, .bl b, q => ∃ (bs : List Bool) (j : Nat), xs = bs.map D.bl ∧ bs[j]? = some b ∧ (∀ m, m < j → bs[m]? = some (!b)) ∧ q (.v (.int (j : Nat)))
  | .isin neg, x, .lst ys, q => plain 60 x = true ∧ plain 60 (.lst ys) = true ∧ q (.v (.bl (neg ^^ ys.any fun z => eqD z x)))
  | .isin neg, x, .tup ys, q => plain 60 x = true ∧ plain 60 (.tup ys) = true ∧ q (.v (.bl (neg ^^ ys.any fun z => eqD z x)))
  | .cutL, .tup xs, .int j, q => 0 ≤ j ∧ j < xs.length ∧ q (.v (.tup (xs.take j.toNat)))
  | .cutL, .lst xs, .int j, q => 0 ≤ j ∧ q (.own (.lst (xs.take j.toNat)))
  | .cutR, .tup xs, .int j, q => 0 < j ∧ xs ≠ [] ∧ q (.v (.tup (xs.drop j.toNat)))
  | .cutR, .lst xs, .int j, q => 0 ≤ j ∧ q (.own (.lst (xs.drop j.toNat)))
  | .dix, .dic kvs, y, q => ∃ k d, keyD y = some k ∧ lookD kvs k = some d ∧ q (.v d)
  | .dii, .idc kvs, .int i, q => ∃ d, kvs.lookup i = some d ∧ q (.v d)
  | .dget, .dic kvs, y, q => ∃ k, keyD y = some k ∧ q (.v ((lookD kvs k).getD .non))
  | .din neg, x, .dic kvs, q => ∃ k, keyD x = some k ∧ q (.v (.bl (neg ^^ (lookD kvs k).isSome)))
  | _, _, _, _ => False

/-- what is asked of the first operand before the second is looked at -/
def pre2 : P2 → D → Prop
  | .cnt, .lst _ => True
  | .cnt, _ => False
  | .idx, .lst _ => True
  | .idx, _ => False
  | .dget, .dic _ => True
  | .dget, _ => False
  | _, _ => True
@[reducible] def w2p (p : P2) (wa wb : Sl → (D → Prop) → Prop) : Sl → (DV → Prop) → Prop := fun δ q => wa δ fun x => pre2 p x ∧ wb δ fun y => op2 p x y q

/-! ### the walk's own syntax -/
mutual
inductive Ex where
  | var (i : Nat) | int (i : Int) | str (s : Str) | bl (b : Bool) | non
  | glb (x : Str) (d : D)
  | tup (es : List Ex) | lst (es : List Ex)
  | bin (o : Bop) (a b : Ex) | neg (a : Ex)
  | cmp (o : Cop) (a b : Ex) | chain (o o' : Cop) (a b c : Ex) | isN (a : Ex) | notN (a : Ex)
  | ands (es : List Ex) | ors (es : List Ex) | not (a : Ex) | ite (c a b : Ex)
  | ix (a i : Ex)
  | call (f : Str) (br : List Bool) (S : DS) (dv : List D) (es : List Ex)
  | blt (b : Blt) (es : List Ex)
  | isi (a : Ex) (t : Ty) | isis (a : Ex) (ts : List Ty)
  | comp (own : List (Str × Nat)) (t : Tg) (it : Itx) (c : Option Ex) (e : Ex)
  | comp2 (own : List (Str × Nat)) (t : Tg) (it : Itx) (c : Option Ex) (t1 : Tg) (it1 : Itx) (c1 : Option Ex) (e : Ex)
  | p1 (p : P1) (a : Ex) | p2 (p : P2) (a b : Ex)
  | dic0
  /-- a tuple that is a key; three sources -/
  | keyt (es : List Ex)
  | comp3 (own : List (Str × Nat)) (t : Tg) (it : Itx) (c : Option Ex) (t1 : Tg) (it1 : Itx) (c1 : Option Ex) (t2 : Tg) (it2 : Itx) (c2 : Option Ex) (e : Ex)
  | methK (c m : Str) (br : List Bool) (S : DS) (ks : List Str) (dv : List D) (o : Ex) (es kes : List Ex)
  | callK (f : Str) (br : List Bool) (S : DS) (ks : List Str) (dv : List D) (es kes : List Ex)
  | mk (c : Str) (br : List Bool) (S : DS) (dv : List D) (es : List Ex)
  | mkK (c : Str) (br : List Bool) (S : DS) (ks : List Str) (dv : List D) (kes : List Ex)
  | meth (c m : Str) (br : List Bool) (S : DS) (dv : List D) (o : Ex) (es : List Ex)
  /-- x.m(..), x of one of several classes -/
  | methA (m : Str) (br : List Bool) (l : List (Str × DS)) (i : Nat) (es : List Ex)
  /-- self.f, the list that an instance being made has for itself -/
  | selfL (i : Nat) (c f : Str)
  /-- [e for .. in zip(a, b)] -/
  | compZ (own : List (Str × Nat)) (t : Tg) (a b : Ex) (e : Ex)
  /-- C(.., ks = ..) -/
  | mkP (c : Str) (br : List Bool) (S : DS) (ks : List Str) (dv : List D) (es kes : List Ex)
  /-- x[k].m(..), x[k] of one of several classes -/
  | methP (m : Str) (br : List Bool) (l : List (Str × DS)) (i k : Nat) (es : List Ex)
inductive Itx where
  | rng (a : Ex) | rng2 (a b : Ex) | seq (a : Ex)
end

mutual
def chkT (N : List Str) (raw : Scope) : Tg → Expr → Bool
  | .nm i, e => match dName e with
    | some x => decide (N[i]? = some x) && isOwn raw x
    | none => false
  | .tp ts, e => match dTup e with
    | some es => chkTs N raw ts es
    | none => false
def chkTs (N : List Str) (raw : Scope) : List Tg → List Expr → Bool
  | [], [] => true
  | t :: ts, e :: es => chkT N raw t e && chkTs N raw ts es
  | _, _ => false
end

def chkIx (N : List Str) (i k : Nat) (sc : Scope) : Expr → Bool
  | .Subscript (.Name x _) (.Constant (.int j) _ _) _ => (decide (N[i]? = some x) && (vis sc x && okN x)) && decide ((k : Int) = j)
  | _ => false
mutual
def chkE (N : List Str) : Ex → Scope → Expr → Bool
  | .var i, sc, e => match dName e with
    | some x => decide (N[i]? = some x) && (vis sc x && okN x)
    | none => false
  | .int i, sc, e => match dConst e with
    | some (.int j) => decide (i = j)
    | _ => false
  | .str s, sc, e => match dConst e with
    | some (.str j) => decide (s = j)
    | _ => false
  | .bl s, sc, e => match dConst e with
    | some (.bool j) => decide (s = j)
    | _ => false
  | .non, sc, e => match dConst e with
    | some .none => true
    | _ => false
  | .selfL i _ f, sc, e => match shAtt f e with
    | some a => match dName a with
      | some x => decide (N[i]? = some x) && (vis sc x && okN x)
      | none => false
    | none => false
  | .glb x d, sc, e => match dName e with
    | some y => decide (x = y) && (isGl sc x && okN x)
    | none => false
  | .tup es, sc, e => match dTup e with
    | some fs => decide (es.length ≤ 1000) && chkL N es sc fs
    | none => false
  | .lst es, sc, e => match dLst e with
    | some fs => decide (es.length ≤ 1000) && chkL N es sc fs
    | none => false
  | .bin o a b, sc, e => match dBin e with
    | some (x, op, y) => decide (op = o.op) && (chkE N a sc x && chkE N b sc y)
    | none => false
  | .neg a, sc, e => match dUn e with
    | some (.USub, x) => chkE N a sc x
    | _ => false
  | .cmp o a b, sc, e => match dCmp e with
    | some (x, [op], [y]) => decide (op = o.op) && (!isSet y && (chkE N a sc x && chkE N b sc y))
    | _ => false
  | .chain o o' a b c, sc, e => match dCmp e with
    | some (x, [op, op'], [y, z]) => (decide (op = o.op) && decide (op' = o'.op)) && (!isSet z && (chkE N a sc x && (chkE N b sc y && chkE N c sc z)))
    | _ => false
  | .isN a, sc, e => match dCmp e with
    | some (x, [.Is], [y]) => decide (dConst y = some .none) && chkE N a sc x
    | _ => false
  | .notN a, sc, e => match dCmp e with
    | some (x, [.IsNot], [y]) => decide (dConst y = some .none) && chkE N a sc x
    | _ => false
  | .ands es, sc, e => match dBool e with
    | some (.And, fs) => decide (es ≠ []) && chkL N es sc fs
    | _ => false
  | .ors es, sc, e => match dBool e with
    | some (.Or, fs) => decide (es ≠ []) && chkL N es sc fs
    | _ => false
  | .not a, sc, e => match dUn e with
    | some (.Not, x) => chkE N a sc x
    | _ => false
  | .ite c a b, sc, e => match dIte e with
    | some (x, y, z) => chkE N c sc x && (chkE N a sc y && chkE N b sc z)
    | none => false
  | .ix a i, sc, e => match dSub e with
    | some (x, y) => !isSlice y && (chkE N a sc x && chkE N i sc y)
    | none => false
  | .call f br S dv es, sc, e => match dCall e with
    | some (g, fs, []) => decide (dName g = some f) && (isGl sc f && (okN f && (decide (es.length ≤ br.length ∧ br = br.take es.length ++ List.replicate dv.length false) && chkL N es sc fs)))
    | _ => false
  | .blt b es, sc, e => match dCall e with
    | some (g, fs, []) => decide (dName g = some (Str.ofString b.name)) && (isGl sc (Str.ofString b.name) && (decide (es.length = b.ar) && chkL N es sc fs))
    | _ => false
  | .isi a t, sc, e => match dCall e with
    | some (g, [x, y], []) => (decide (dName g = some ("isinstance" : Str)) && (isGl sc ("isinstance" : Str) && decide (dName y = some (Str.ofString t.name)))) && (isGl sc (Str.ofString t.name) && (!isStar x && chkE N a sc x))
    | _ => false
  | .isis a ts, sc, e => match dCall e with
    | some (g, [x, y], []) => (decide (dName g = some ("isinstance" : Str)) && (isGl sc ("isinstance" : Str) && (decide (ts ≠ [] ∧ ts.length ≤ 1000) && chkTy sc ts (dTup y)))) && (!isStar x && chkE N a sc x)
    | _ => false
  | .comp own t it c el, sc, e => match dComp e with
    | some (f, [⟨tg, iter, ifs, 0⟩], scope) => (blkC N sc scope own && (decide (∀ i ∈ t.slots, i ∈ own.map (·.2)) && chkT N scope t tg)) && ((!isSet iter && chkI N it sc iter) && (chkO N c (relS scope sc) ifs && chkE N el (relS scope sc) f))
    | _ => false
  | .comp2 own t it c t1 it1 c1 el, sc, e => match dComp e with
    | some (f, [⟨tg, iter, ifs, 0⟩, ⟨tg1, iter1, ifs1, 0⟩], scope) => (blkC N sc scope own && (decide ((∀ i ∈ t.slots, i ∈ own.map (·.2)) ∧ ∀ i ∈ t1.slots, i ∈ own.map (·.2)) && (chkT N scope t tg && chkT N scope t1 tg1))) && ((!isSet iter && (!isSet iter1 && (chkI N it sc iter && chkI N it1 (relS scope sc) iter1))) && ((chkO N c (relS scope sc) ifs && chkO N c1 (relS scope sc) ifs1) && chkE N el (relS scope sc) f))
    | _ => false
  | .keyt es, sc, e => match dTup e with
    | some fs => decide (es.length ≤ 1000) && chkL N es sc fs
    | none => false
  | .comp3 own t it c t1 it1 c1 t2 it2 c2 el, sc, e => match dComp e with
    | some (f, [⟨tg, iter, ifs, 0⟩, ⟨tg1, iter1, ifs1, 0⟩, ⟨tg2, iter2, ifs2, 0⟩], scope) => (blkC N sc scope own && (decide ((∀ i ∈ t.slots, i ∈ own.map (·.2)) ∧ ∀ i ∈ t1.slots ++ t2.slots, i ∈ own.map (·.2)) && (chkT N scope t tg && (chkT N scope t1 tg1 && chkT N scope t2 tg2)))) &&
        (((!isSet iter && (!isSet iter1 && !isSet iter2)) && (chkI N it sc iter && (chkI N it1 (relS scope sc) iter1 && chkI N it2 (relS scope sc) iter2))) && ((chkO N c (relS scope sc) ifs && (chkO N c1 (relS scope sc) ifs1 && chkO N c2 (relS scope sc) ifs2)) && chkE N el (relS scope sc) f))
    | _ => false
  | .methK cn m br S ks dv o es kes, sc, e => match e with
    | .Call (.Attribute (.Name y p) g apos) fs kws pos => (decide (g = m) && ((apos.endLine == pos.line) && decide (es.length < 26))) && ((decide (es ≠ [] ∧ es.length + kes.length ≤ br.length ∧ br = br.take es.length ++ ((br.drop es.length).take kes.length ++ List.replicate dv.length false)) && decide (kws.map (·.arg) = ks.map some ∧ kes.length = ks.length ∧ ks.length < 3)) &&
        (chkE N o sc (.Name y p) && (chkL N es sc fs && chkL N kes sc (kws.map (·.value)))))
    | _ => false
  | .p1 p a, sc, e => match sh1 sc p e with
    | some x => chkE N a sc x
    | none => false
  | .p2 p a b, sc, e => match sh2 sc p e with
    | some (x, y) => chkE N a sc x && chkE N b sc y
    | none => false
  | .dic0, sc, e => match e with
    | .Dict [] [] _ => true
    | _ => false
  | .callK f br S ks dv es kes, sc, e => match dCall e with
    | some (g, fs, kws) => decide (dName g = some f) && (isGl sc f && (okN f && (decide (es ≠ [] ∧ es.length + kes.length ≤ br.length ∧ br = br.take es.length ++ ((br.drop es.length).take kes.length ++ List.replicate dv.length false)) && (decide (kws.map (·.arg) = ks.map some ∧ kes.length = ks.length) && (chkL N es sc fs && chkL N kes sc (kws.map (·.value)))))))
    | _ => false
  | .mk f br S dv es, sc, e => match dCall e with
    | some (g, fs, []) => decide (dName g = some f) && (isGl sc f && (okN f && (decide (es ≠ [] ∧ es.length ≤ br.length ∧ br = br.take es.length ++ List.replicate dv.length false) && chkL N es sc fs)))
    | _ => false
  | .mkK f br S ks dv kes, sc, e => match dCall e with
    | some (g, [], kws) => decide (dName g = some f) && (isGl sc f && (okN f && (decide (kes.length ≤ br.length ∧ br = br.take kes.length ++ List.replicate dv.length false) && (decide (kws.map (·.arg) = ks.map some ∧ kes.length = ks.length) && chkL N kes sc (kws.map (·.value))))))
    | _ => false
  | .meth cn m br S dv o es, sc, e => match e with
    | .Call (.Attribute y g apos) fs [] pos => recvB y && ((decide (g = m) && ((apos.endLine == pos.line) && decide (es.length < 30))) && (decide (es.length ≤ br.length ∧ br = br.take es.length ++ List.replicate dv.length false) && (chkE N o sc y && chkL N es sc fs)))
    | _ => false
  | .compZ own t a b el, sc, e => match e with
    | .ListComp f [⟨.Tuple tes tk tp, .Call (.Name g _) [x, y] [] _, [], 0⟩] scope _ => (blkC N sc scope own && (decide (∀ i ∈ t.slots, i ∈ own.map (·.2)) && chkT N scope t (.Tuple tes tk tp))) && ((decide (g = ("zip" : Str)) && (isGl sc ("zip" : Str) && (!isStar x && !isStar y))) && ((chkE N a sc x && chkE N b sc y) && chkE N el (relS scope sc) f))
    | _ => false
  | .mkP f br S ks dv es kes, sc, e => match dCall e with
    | some (g, fs, kws) => decide (dName g = some f) && (isGl sc f && (okN f && (decide (es ≠ [] ∧ es.length + kes.length ≤ br.length ∧ br = br.take es.length ++ ((br.drop es.length).take kes.length ++ List.replicate dv.length false)) && (decide (kws.map (·.arg) = ks.map some ∧ kes.length = ks.length) && (chkL N es sc fs && chkL N kes sc (kws.map (·.value)))))))
    | _ => false
  | .methP m br l i k es, sc, e => match e with
    | .Call (.Attribute y g apos) fs [] pos => recvB y && ((decide (g = m) && ((apos.endLine == pos.line) && decide (es.length < 30))) && (decide (es.length ≤ br.length ∧ br = br.take es.length ++ List.replicate ([] : List D).length false) && (chkIx N i k sc y && chkL N es sc fs)))
    | _ => false
  | .methA m br l i es, sc, e => match e with
    | .Call (.Attribute (.Name y p) g apos) fs [] pos => (decide (g = m) && ((apos.endLine == pos.line) && decide (es.length < 30))) && (decide (es.length ≤ br.length ∧ br = br.take es.length ++ List.replicate ([] : List D).length false) && ((decide (N[i]? = some y) && (vis sc y && okN y)) && chkL N es sc fs))
    | _ => false
def chkL (N : List Str) : List Ex → Scope → List Expr → Bool
  | [], _, [] => true
  | a :: as, sc, e :: es => !isStar e && (chkE N a sc e && chkL N as sc es)
  | _, _, _ => false
def chkI (N : List Str) : Itx → Scope → Expr → Bool
  | .rng a, sc, e => match dCall e with
    | some (g, [x], []) => decide (dName g = some ("range" : Str)) && (isGl sc ("range" : Str) && (!isStar x && chkE N a sc x))
    | _ => false
  | .rng2 a b, sc, e => match dCall e with
    | some (g, [x, y], []) => decide (dName g = some ("range" : Str)) && (isGl sc ("range" : Str) && ((!isStar x && !isStar y) && (chkE N a sc x && chkE N b sc y)))
    | _ => false
  | .seq a, sc, e => chkE N a sc e
def chkO (N : List Str) : Option Ex → Scope → List Expr → Bool
  | none, _, [] => true
  | some a, sc, [e] => chkE N a sc e
  | _, _, _ => false
end

/-! ### what it comes to -/
@[reducible] def wMethA (i : Nat) (m : Str) (l : List (Str × DS)) (wa : Sl → (List D → Prop) → Prop) (Ed : Str → Prop) : Sl → (DV → Prop) → Prop := fun δ q => match δ.getD i none with
  | some (.v (.obj c _)) => ∃ S, l.lookup c = some S ∧ wMeth c m (co true (wVar i)) wa S [] Ed δ q
  | _ => False
@[reducible] def wMethP (i k : Nat) (m : Str) (l : List (Str × DS)) (wr : Sl → (D → Prop) → Prop) (wa : Sl → (List D → Prop) → Prop) (Ed : Str → Prop) : Sl → (DV → Prop) → Prop := fun δ q => match δ.getD i none with
  | some (.v (.tup ds)) => match ds[k]? with
    | some (.obj c _) => ∃ S, l.lookup c = some S ∧ wMeth c m wr wa S [] Ed δ q
    | _ => False
  | _ => False
mutual
@[reducible] def wE (Ed : Str → Prop) : Ex → Sl → (DV → Prop) → Prop
  | .var i => wVar i
  | .int i => wK (.int i)
  | .str s => wK (.str s)
  | .bl b => wK (.bl b)
  | .non => wK .non
  | .glb _ d => wK d
  | .selfL i c f => wSelfL i c f
  | .methA m br l i es => wMethA i m l (wA Ed es (br.take es.length)) Ed
  | .methP m br l i k es => wMethP i k m l (co true (w2 (co true (wVar i)) (co true (wK (.int k))) opIx)) (wA Ed es (br.take es.length)) Ed
  | .compZ own t a b e => wComp (wZip (waCons (co false (wE (fun _ => False) a)) (waCons (co false (wE (fun _ => False) b)) waNil))) t (fun _ q => q true) (co false (wE (fun _ => False) e)) (own.map (·.2))
  | .mkP f br S ks dv es kes => wCallK (wA Ed es (br.take es.length)) (wA Ed kes ((br.drop es.length).take kes.length)) S dv Ed
  | .tup es => wTup (wA Ed es (List.replicate es.length false))
  | .lst es => wLst (wA Ed es (List.replicate es.length false))
  | .bin o a b => w2 (co true (wE Ed a)) (co true (wE Ed b)) (opB o)
  | .neg a => w1 (co true (wE Ed a)) opNeg
  | .cmp o a b => w2 (co true (wE Ed a)) (co true (wE Ed b)) (opC o)
  | .chain o o' a b c => fun δ q => co true (wE Ed a) δ fun x => co true (wE Ed b) δ fun y => opC o x y fun t => asB t fun t => if t = true then co true (wE Ed c) δ fun z => opC o' y z q else q (.v (.bl false))
  | .isN a => w1 (co true (wE Ed a)) (opNon true)
  | .notN a => w1 (co true (wE Ed a)) (opNon false)
  | .ands es => vB (wAnds Ed es)
  | .ors es => vB (wOrs Ed es)
  | .not a => vB (wNot (wT (wE Ed a)))
  | .ite c a b => wIf (wT (wE Ed c)) (wE Ed a) (wE Ed b)
  | .ix a i => w2 (co true (wE Ed a)) (co true (wE Ed i)) opIx
  | .call f br S dv es => wCall (wA Ed es (br.take es.length)) S dv Ed
  | .blt b es => wB (wA Ed es (List.replicate b.ar true)) (opBlt b)
  | .isi a t => w1 (co true (wE Ed a)) (opIsi t)
  | .isis a ts => w1 (co true (wE Ed a)) (opIsis ts)
  | .comp own t it c e => wComp (wI true (fun _ => False) it) t (wO (fun _ => False) c) (co false (wE (fun _ => False) e)) (own.map (·.2))
  | .comp2 own t it c t1 it1 c1 e => wComp2 (wI true (fun _ => False) it) t (wO (fun _ => False) c) (wI false (fun _ => False) it1) t1 (wO (fun _ => False) c1) (co false (wE (fun _ => False) e)) (own.map (·.2)) t1.slots
  | .p1 p a => w1 (co true (wE Ed a)) (op1 p)
  | .p2 p a b => w2p p (co true (wE Ed a)) (co true (wE Ed b))
  | .dic0 => fun _ q => q (.own (.dic []))
  | .keyt es => fun δ q => wA Ed es (List.replicate es.length false) δ fun ds => ∃ k : List Int, ds = k.map .int ∧ q (.v (.key k))
  | .comp3 own t it c t1 it1 c1 t2 it2 c2 e => wComp3 (wI true (fun _ => False) it) t (wO (fun _ => False) c) (wI false (fun _ => False) it1) t1 (wO (fun _ => False) c1) (wI false (fun _ => False) it2) t2 (wO (fun _ => False) c2) (co false (wE (fun _ => False) e)) (own.map (·.2)) (t1.slots ++ t2.slots) t2.slots
  | .methK cn m br S ks dv o es kes => fun δ q => co true (wE Ed o) δ fun d => (∃ fs, d = .obj cn fs ∧ fs.lookup m = none) ∧ wA Ed es (br.take es.length) δ fun ds => wA Ed kes ((br.drop es.length).take kes.length) δ fun zs => S (d :: (ds ++ (zs ++ dv))) q Ed
  | .callK f br S ks dv es kes => wCallK (wA Ed es (br.take es.length)) (wA Ed kes ((br.drop es.length).take kes.length)) S dv Ed
  | .mk f br S dv es => wMk (wA Ed es (br.take es.length)) S dv Ed
  | .mkK f br S ks dv kes => wMk (wA Ed kes (br.take kes.length)) S dv Ed
  | .meth cn m br S dv o es => wMeth cn m (co true (wE Ed o)) (wA Ed es (br.take es.length)) S dv Ed
@[reducible] def wA (Ed : Str → Prop) : List Ex → List Bool → Sl → (List D → Prop) → Prop
  | a :: as, m :: ms => waCons (co m (wE Ed a)) (wA Ed as ms)
  | _, _ => waNil
@[reducible] def wAnds (Ed : Str → Prop) : List Ex → Sl → (Bool → Prop) → Prop
  | [] => fun _ _ => False
  | [a] => wT (wE Ed a)
  | a :: as => wAnd (wT (wE Ed a)) (wAnds Ed as)
@[reducible] def wOrs (Ed : Str → Prop) : List Ex → Sl → (Bool → Prop) → Prop
  | [] => fun _ _ => False
  | [a] => wT (wE Ed a)
  | a :: as => wOr (wT (wE Ed a)) (wOrs Ed as)
@[reducible] def wI (c : Bool) (Ed : Str → Prop) : Itx → Sl → (List D → Prop) → Prop
  | .rng a => wRng1 (waCons (co true (wE Ed a)) waNil)
  | .rng2 a b => wRng2 (waCons (co true (wE Ed a)) (waCons (co true (wE Ed b)) waNil))
  | .seq a => wSeq c (wE Ed a)
@[reducible] def wO (Ed : Str → Prop) : Option Ex → Sl → (Bool → Prop) → Prop
  | none => fun _ q => q true
  | some a => wT (wE Ed a)
end
end TT

set_option Elab.async false
set_option linter.all false
set_option maxRecDepth 100000
set_option autoImplicit false
/-! A caught error that is kept behind its suite. -/
namespace TT
open PySem PySem.Spec PyProof.Rows L2

section
variable {X : Cx} {pins : List (Addr × Obj)} {σ : L2.St} {H : Hp} {sI s' : Shared} {B : Heap} {a : Addr} {cls : Value} {d : Option Addr}
/-- the ground with the error on it, tracked -/
theorem landT {oe : Obj} {vs : Array Value} (I : Inv X pins σ H sI) (nb : ∀ b o, sI.heap.get? b = some o → b ∉ frs X.stack → B.get? b = some o) (st : B.StaysIn s'.heap) (up : sI.heap.UpToSlots s'.heap) (os : s'.os = sI.os) (ag : AllBare s'.gens)
    (na : H a = none) (ng : sI.heap.get? a = none) (he : s'.heap.get? a = some oe) (hz : Zc cls d oe) (hv : oe.data = .fields vs) : Inv X pins σ (upd H a (ErrX cls d a)) s' := by
  have ne : ∀ b o, H b = some o → b ≠ a := fun b o e z => by rw [z, na] at e; cases e
  have ne2 : ∀ b o, sI.heap.get? b = some o → b ≠ a := fun b o e z => by rw [z, ng] at e; cases e
  have sl : ∀ b ∈ frs X.stack, ∀ o, sI.heap.get? b = some o → ∃ t, s'.heap.get? b = some { o with slots := t } := fun b hb o e => by
    obtain ⟨_, o1, e1, q⟩ := I.stack.mem hb
    rw [e] at e1
    cases e1
    exact up b o e q
  refine I.call' (ch := []) os ⟨?_, ?_, ?_, ?_, ?_, ?_, ?_⟩ ?_ ag (fun _ z => nomatch z)
  · intro b o e _ hb _
    exact st b o (nb b o e hb)
  · intro b o e _ hb _
    exact sl b hb o e
  · intro b o e n _
    rw [upd_ne (ne2 b o e)]
    exact n
  · intro b o e _
    by_cases hb : b ∈ frs X.stack
    · obtain ⟨t, q⟩ := sl b hb o e
      exact ⟨_, q⟩
    · exact ⟨o, st b o (nb b o e hb)⟩
  · intro b xs e
    rw [upd_ne (ne b _ e)]
    exact e
  · intro b o xs e
    rw [upd_ne (ne b _ e)]
    exact e
  · intro b ps e
    refine ⟨#[], ?_⟩
    rw [upd_ne (ne b _ e), e]
    simp
  · refine (I.inGround nb).laidN st na ⟨⟨oe, vs, he, hz, hv⟩, ⟨oe, he⟩, ?_⟩
    rintro h1 h2 ⟨o, v, q, r⟩ k
    exact ⟨o, v, k o q, r⟩
/-- no frame's own record -/
theorem notFrame {l : List Env} {h : Heap} {o : Obj} {vs : Array Value} (f : h.FunFrames B l) (e : h.get? a = some o) (q : o.data = .fields vs) : a ∉ frs l := fun m => by
  obtain ⟨_, o1, e1, nf⟩ := f.mem m
  rw [e] at e1
  cases e1
  exact nf _ q
/-- into the suite, nothing pinned -/
theorem inSuite {s : Shared} (I : Inv X pins σ H s) (u : Addr) : Inv (X.suite u (X.pn ++ pins)) [] σ H s :=
  ⟨I.ok.suite _ _, I.os, I.bare, I.base, I.loc, I.cell, I.free, I.freeC, fun p hp => I.pin p (by simpa using hp), I.hok, I.len⟩
/-- .. and out -/
theorem outSuite {s : Shared} {u : Addr} (ok : X.Ok) (I : Inv (X.suite u (X.pn ++ pins)) [] σ H s) : Inv X pins σ H s :=
  ⟨ok, I.os, I.bare, I.base, I.loc, I.cell, I.free, I.freeC, fun p hp => I.pin p (List.mem_append_left _ hp), I.hok, I.len⟩
end

/-- what the try wishes of an error: slot j holds it behind the suite -/
def wKeep (K : PySem.W.Frag) (m : Nat) (c : Value) (j : Nat) (D : Ends) : WX := fun cls d σ H => PySem.W.exmOne K cls c = some true ∧
  ∀ a σ', H a = none → σ'.length = m → σ'[j]? = some (some (.ref a)) → D.nx σ' (upd H a (ErrX cls d a))

section
variable {X : Cx} {x e t : Str} {c : Value} {i j : Nat} {body : List Stmt} {np tp ep ap p1 pos : Pos} {tb : WX → TS}
theorem ps_keep (hs : X.stack = X.env :: X.outer) (hf : X.env.frame = some X.env.locals) (hN : X.N.Nodup) (hi : X.N[i]? = some e) (hj : X.N[j]? = some t) (hij : i ≠ j) (le : X.env.kindOf e = some .local) (lt : X.env.kindOf t = some .local) (hc : Names X x c)
    (d1 : (e == ("__debug__" : Str)) = false) (d2 : (e == ("__classdict__" : Str)) = false)
    (hb : ∀ (W : WX) (pn : List (Addr × Obj)) (xe : Value → Shared → Prop), Takes (X.tr pn xe) W → PassesOwn (model X.prog X.w) X.A X.env xe → PSs (X.tr pn xe) body (tb W)) :
    PS X (.Try body [.ExceptHandler (some (.Name x np)) (some e) [.Assign [.Name t tp] (.Name e ep) ap] p1] [] [] pos) (fun D σ H => σ.length = X.N.length → tb (wKeep X.K X.N.length c j D) D σ H) := by
  constructor
  intro pins s σ H D I h
  replace h := h I.len
  have ok := I.ok
  refine wpAny_Try_except (wpAny_mono ((hb (wKeep X.K X.N.length c j D) (X.pn ++ pins) _ ?tk ?po).run [] s σ H D (I.toTry _) h) ?nrm fun _ _ z => z)
  case po => exact PassesOwn.looking
  case nrm =>
    intro f s1 z
    cases f with
    | next =>
      obtain ⟨σ1, H1, J, q⟩ := z
      exact wpAny_execs_nil ⟨σ1, H1, J.ofTry ok, q⟩
    | brk =>
      obtain ⟨σ1, H1, J, q⟩ := z
      exact ⟨σ1, H1, J.ofTry ok, q⟩
    | cont =>
      obtain ⟨σ1, H1, J, q⟩ := z
      exact ⟨σ1, H1, J.ofTry ok, q⟩
    | ret u =>
      obtain ⟨v, σ1, H1, J, r, q⟩ := z
      exact ⟨v, σ1, H1, J.ofTry ok, r, q⟩
  case tk =>
    rintro u s1 ⟨a, B, sI, _, σ1, H1, cls, d, rfl, J0, nb, up, sky, na, os, ag, hm, hw⟩
    have J : Inv X pins σ1 H1 sI := J0.ofTry ok
    have fr : X.A.frames = some (X.env :: X.outer) := by rw [ok.frames, hs]
    have sk : Sky B (X.env :: X.outer) a (Zc cls d) X.env.locals s1.heap := by rw [← hs]; exact sky
    refine Sky.land Zc.steady fr hf sk fun h2 fl up2 => ?_
    obtain ⟨o2, v2, e2, z2, q2⟩ := fl.there
    have nf := notFrame fl.2.2.1 e2 q2
    have ng : sI.heap.get? a = none := by
      cases q : sI.heap.get? a with
      | none => rfl
      | some o =>
        have := nb a o q (by rw [show (X.tr (X.pn ++ pins) _).stack = X.stack from rfl, hs]; exact nf)
        rw [fl.2.1] at this
        cases this
    have J2 : Inv X pins σ1 H1 { s1 with heap := h2 } := J.landed nb fl.1 (up.trans up2) os ag
    have LT : PySem.W.Looks (model X.prog X.w) h2 (typeOf (.ref a)) cls := fun A Q E s k q => wpAny_typeOf_ref (k _ _ e2) (by rw [z2.1]; exact q)
    have LM := PySem.W.exm_one (M := model X.prog X.w) J2.kIn LT hm
    have S2 := inSuite J2 a
    have nm : ∀ {Q E : Value → Shared → Prop}, Q c { s1 with heap := h2 } → wpAny (model X.prog X.w) (X.A.mark (some (.ref a))) (eval (.Name x np) X.env) Q E { s1 with heap := h2 } := by
      intro Q E q
      obtain ⟨hg, hd, k | ⟨k, k2, k3⟩⟩ := hc
      · exact ld_glob (X := X.suite a (X.pn ++ pins)) S2 hg k q hd
      · exact ld_blt (X := X.suite a (X.pn ++ pins)) S2 hg k k2 q k3 hd
    refine wpAny_handleBy_cons (codeAny_handlers_test (nm (LM.here ?_))) (by intro q; cases q)
    refine codeAny_handlers_suite_as (HandSPX.lands_againZ fl fun h3 fl3 up3 => ?_)
    obtain ⟨o3, v3, e3, z3, q3⟩ := fl3.there
    have J3 : Inv X pins σ1 (upd H1 a (ErrX cls d a)) { s1 with heap := h3 } := landT J nb fl3.1 ((up.trans up2).trans up3) os ag na ng e3 z3 q3
    have S3 := inSuite J3 a
    have vE : Vis X.env.scope e := .inl le
    have len : ∀ k : Nat, k < X.N.length → k < σ1.length := fun k hk => by rw [J.len]; exact hk
    have li := (List.getElem?_eq_some_iff.mp hi).1
    have lj := (List.getElem?_eq_some_iff.mp hj).1
    refine store_ok (X := X.suite a (X.pn ++ pins)) (v := .ref a) S3 hN hi (.inl le) rfl (fun s4 S4 => ?_) (.inr le)
    have row : PSs (X.suite a (X.pn ++ pins)) [.Assign [.Name t tp] (.Name e ep) ap] _ := pss_one (ps_set (i := j) hN hj (.inl lt) (pe_var (i := i) hi vE d1 d2) rfl (.inr lt))
    refine wpAny_mono (row.run [] s4 _ _ { nx := fun σ H => σ = (σ1.set i (some (.ref a))).set j (some (.ref a)) ∧ H = upd H1 a (ErrX cls d a), rt := fun _ _ => False } S4 ?_) (fun f s5 z => ?_) fun _ _ z => z.elim
    · exact ⟨.ref a, List.getElem?_set_self (len i li), rfl, rfl⟩
    · cases f with
      | next =>
        obtain ⟨σ5, H5, S5, rfl, rfl⟩ := z
        refine gone_ok (outSuite ok S5) hN hi le fun s6 J6 => ⟨_, _, J6, hw a _ na ?_ ?_⟩
        · rw [List.length_set, List.length_set, List.length_set]
          exact J.len
        · rw [List.getElem?_set_ne hij]
          exact List.getElem?_set_self (by rw [List.length_set]; exact len j lj)
      | brk =>
        obtain ⟨_, _, _, z⟩ := z
        exact z.elim
      | cont =>
        obtain ⟨_, _, _, z⟩ := z
        exact z.elim
      | ret u =>
        obtain ⟨_, _, _, _, _, z⟩ := z
        exact z.elim
end

/-- isinstance(e, c) of an error that is tracked -/
def rIsT (K : PySem.W.Frag) : List V → Hp → VK → Prop := fun xs H Q => ∃ (a D : Addr) (c : V) (cv : Value) (b : Bool), xs = [.ref a, c] ∧ H a = some (ErrX (.ref D) none a) ∧ ExcC K D ∧ (∀ u, RelV c u → u = cv) ∧ PySem.W.kitOne K (.ref D) cv = some b ∧ Q (.bl b) H
theorem call_isT {X : Cx} : CallR X (.builtin "isinstance") (rIsT X.K) := by
  intro pins s σ H xs us Q I r h
  obtain ⟨a, D, c, cv, b, rfl, hH, C, hcv, hk, q⟩ := h
  obtain ⟨u1, u2, rfl, r1, r2⟩ := vals2 r
  cases r1
  cases hcv _ r2
  obtain ⟨⟨o, vs, ho, hz, hv⟩, _, _⟩ := I.hok a _ hH
  have J : PySem.W.InstAt s.heap a o D none := by
    obtain ⟨oc, od, dt, sl⟩ := o
    obtain ⟨h1, h2⟩ := hz
    simp only at h1 h2 hv
    subst h1 h2 hv
    exact ⟨ho, rfl, rfl, trivial⟩
  refine PySem.W.kia_one (PySem.W.handS_kitx_exc C.hg C.hk C.hs C.hd C.ha C.hn C.ht C.hm) I.kIn J hk (fun z => nomatch z) ?_
  intro tk
  exact ⟨.bl b, H, I.tok tk, rfl, q⟩

/-- xs.count(y), flat items -/
def rCnt (K : PySem.W.Frag) : V → List V → Hp → VK → Prop := fun x xs H Q => ∃ (a : Addr) (ys : List V) (y : V), x = .ref a ∧ xs = [y] ∧ SqL K H a ys ∧ flatV y = true ∧ ys.all flatV = true ∧ Q (.int (ys.countP fun z => eqV z y : Nat)) H
theorem count_vals {y : V} {uy : Value} : ∀ {ys : List V} {us : List Value}, Vals ys us → RelV y uy → ys.all flatV = true → us.countP (eqU y) = ys.countP fun z => eqV z y
  | _, _, .nil, _, _ => rfl
  | _, _, .cons (a := z) (b := u) r t, ry, h => by
    simp only [List.all_cons, Bool.and_eq_true] at h
    rw [List.countP_cons, List.countP_cons, count_vals t ry h.2, eqU_of r h.1]
theorem mt_cnt {X : Cx} : MtR X "list.count" (rCnt X.K) := by
  intro pins s σ H x xs v us Q I rx rxs h
  obtain ⟨a, ys, y, rfl, rfl, hs, fy, fys, q⟩ := h
  cases rx
  obtain ⟨u, rfl, ru⟩ := rxs.one
  obtain ⟨its, rv, ⟨⟨cls, dd, data, sl⟩, n, ho, hc, hdn, hd⟩, hlen⟩ := I.list hs
  simp only at hc hd
  subst hc hd
  refine call_meets PySem.F.slot_list_count ⟨_, ho, rfl⟩ PySem.F.entry_list_count (PySem.F.args_list_count_2 _ _) (SeqAt.list_countAt a its.toArray n dd sl u (eqU y)) ⟨ho, ?_, ?_⟩
  · intro w hw
    exact mem_eqAt ru fy rv fys w (by simpa using hw)
  · refine ⟨.int (ys.countP fun z => eqV z y : Nat), H, I.tok _, ⟨s.toks, ?_⟩, q⟩
    have e := count_vals rv ru fys
    show Value.int ((its.toArray.toList.countP (eqU y) : Nat) : Int) s.toks = _
    rw [← e]
end TT

set_option Elab.async false
set_option linter.all false
set_option maxRecDepth 100000
set_option autoImplicit false
namespace TT
open PySem PySem.Spec L2

def Top.bare (G : Top) (x : Str) : Prop := G.mg x = none
def Top.glb (G : Top) (x : Str) (d : D) : Prop := ∃ v u, G.mg x = some u ∧ RelV v u ∧ ∀ W, Rep G.K G.mg W v d
def Top.isx (G : Top) (x : Str) : Prop := ∃ cv : Value, ((x = "ValueError" ∧ cv = .type "ValueError" ∧ G.mg x = none) ∨ ∃ C, cv = .ref C ∧ G.mg x = some cv) ∧ G.bare ("isinstance" : Str) ∧
  ∀ c ∈ errNames, ∀ C, G.mg c = some (.ref C) → ExcC G.K C ∧ PySem.W.kitOne G.K (.ref C) cv = some (isE c x)
def Top.att (G : Top) (cn f : Str) : Prop := ∀ C, G.mg cn = some (.ref C) → Cls G.K C ∧ NoAttr G.K C f
def Top.isc (G : Top) (cn : Str) : Prop := G.bare ("isinstance" : Str) ∧ ∃ C, G.mg cn = some (.ref C) ∧ Cls G.K C ∧ PySem.W.findIn G.K (.ref C) "__class__" = some (some (.builtin "object.__class__")) ∧
  PySem.W.specialIn G.K (.builtin "object.__class__") "__get__" = some (some (.builtin "getset_descriptor.__get__")) ∧ PySem.W.takesIn G.K (.builtin "object.__class__") = some true ∧ PySem.W.mroIn G.K C (.type "object") = some true ∧
  ∀ a ∈ ["NoneType", "bool", "int", "str", "tuple", "list", "dict"], PySem.W.kitOne G.K (.type a) (.ref C) = some false
/-- what is of the class c' is, or is not, of the class c -/
def Top.kin (G : Top) (c' c : Str) (b : Bool) : Prop := ∃ C' C, G.mg c' = some (.ref C') ∧ G.mg c = some (.ref C) ∧ Cls G.K C' ∧ PySem.W.findIn G.K (.ref C') "__class__" = some (some (.builtin "object.__class__")) ∧
  PySem.W.specialIn G.K (.builtin "object.__class__") "__get__" = some (some (.builtin "getset_descriptor.__get__")) ∧ PySem.W.takesIn G.K (.builtin "object.__class__") = some true ∧ PySem.W.mroIn G.K C' (.type "object") = some true ∧
  PySem.W.kitOne G.K (.ref C') (.ref C) = some b
def Top.kins (G : Top) (c : Str) : List (Str × Bool) → Prop
  | [] => True
  | p :: l => G.kin p.1 c p.2 ∧ G.kins c l
theorem Top.kins_at {G : Top} {c c' : Str} {b : Bool} : ∀ {l : List (Str × Bool)}, G.kins c l → l.lookup c' = some b → G.kin c' c b
  | [], _, h => by cases h
  | (x, y) :: l, k, h => by
    by_cases e : c' = x
    · subst e
      simp at h
      subst h
      exact k.1
    · have hb : (c' == x) = false := beq_eq_false_iff_ne.mpr e
      simp only [List.lookup, hb] at h
      exact Top.kins_at k.2 h
def Top.fnK (G : Top) : Str → Nat → List Str → List Bool → DS → List D → Prop := FnK G.P G.w G.K G.mg G.base G.lv
def Top.me (G : Top) : Str → Str → List Bool → DS → List D → Prop := MeG G.P G.w G.K G.mg G.base G.lv
/-- o.m(.., ks = ..) of the class named cn -/
def MeK (P : Program) (w : World) (K : PySem.W.Frag) (mg : Str → Option Value) (base : Heap) (lv : Nat) (c m : Str) (n : Nat) (ks : List Str) (br : List Bool) (S : DS) (dv : List D) : Prop :=
  ∃ (C a : Addr) (fd : FuncData) (ps : List Str) (g : List Value → List Value → List Value) (dvs : List V), mg c = some (.ref C) ∧ Cls K C ∧ Meth K C m a ∧ FnOk P w K mg base (L2.CX P w) lv a fd ps (spD K mg (false :: br) S) ∧ KBn K fd ps (n + 1) ks g (fun vs zs => vs ++ (zs ++ dvs)) ∧ ∀ W, RepL K mg W dvs dv
def Top.meK (G : Top) : Str → Str → Nat → List Str → List Bool → DS → List D → Prop := MeK G.P G.w G.K G.mg G.base G.lv
def Top.made (G : Top) (c : Str) (br : List Bool) (S : DS) (dv : List D) : Prop := ∃ j, G.lv = j + 1 ∧ MkG G.P G.w G.K G.mg G.base j c br S dv
def Top.madeK (G : Top) (c : Str) (ks : List Str) (br : List Bool) (S : DS) (dv : List D) : Prop := ∃ j, G.lv = j + 1 ∧ MkK G.P G.w G.K G.mg G.base j c ks br S dv
def Top.mes (G : Top) (m : Str) (br : List Bool) : List (Str × DS) → Prop
  | [] => True
  | p :: l => G.me p.1 m br p.2 [] ∧ G.mes m br l
theorem Top.mes_at {G : Top} {c m : Str} {br : List Bool} {S : DS} : ∀ {l : List (Str × DS)}, G.mes m br l → l.lookup c = some S → G.me c m br S []
  | [], _, h => by cases h
  | (x, y) :: l, k, h => by
    by_cases e : c = x
    · subst e
      simp at h
      subst h
      exact k.1
    · have hb : (c == x) = false := beq_eq_false_iff_ne.mpr e
      simp only [List.lookup, hb] at h
      exact Top.mes_at k.2 h
def Top.sup (G : Top) : Str → Str → List Bool → DS → Prop := SupG G.P G.w G.K G.mg G.base G.lv
def Top.atts (G : Top) : List Str → Str → Prop
  | [], _ => True
  | c :: l, f => G.att c f ∧ G.atts l f
theorem Top.atts_at {G : Top} {f : Str} : ∀ {l : List Str}, G.atts l f → ∀ c ∈ l, G.att c f
  | [], _, _, h => by cases h
  | c :: l, k, x, h => by
    rcases List.mem_cons.mp h with rfl | h
    · exact k.1
    · exact Top.atts_at k.2 x h
def Top.madeP (G : Top) (c : Str) (n : Nat) (ks : List Str) (br : List Bool) (S : DS) (dv : List D) : Prop := ∃ j, G.lv = j + 1 ∧ MkP G.P G.w G.K G.mg G.base j c n ks br S dv
def ok1 (G : Top) : P1 → Prop
  | .isx x => G.isx x
  | .att c f => G.att c f
  | .attM l f => G.atts l f
  | .isc c => G.isc c
  | .isd c l => G.isc c ∧ G.kins c l
  | .isTr => True
  | .isnT => True
  | .isF => True
  | .rev => True
  | .srt => G.mg "sorted" = none
  | .dofp => G.mg "dict" = none
  | .srtK => G.mg "sorted" = none
  | .srtD => G.mg "sorted" = none
  | .srs => G.mg "sorted" = none ∧ G.mg "set" = none
  | .lset => G.mg "len" = none ∧ G.mg "set" = none
  | .unk => True
  | .tupk => G.mg "tuple" = none
  | .dcopy => G.mg "dict" = none
  | .lenD => G.mg "len" = none
  | .lrng => G.mg "list" = none ∧ G.mg "range" = none
  | .max1 => G.mg "max" = none
  | .min1 => G.mg "min" = none
def ok2 (_ : Top) : P2 → Prop
  | _ => True
mutual
def okE (G : Top) : Ex → Prop
  | .glb x d => G.glb x d
  | .selfL _ c f => G.att c f
  | .methA m br l _ es => G.mes m br l ∧ okL G es
  | .methP m br l _ _ es => G.mes m br l ∧ okL G es
  | .compZ _ _ a b e => G.bare ("zip" : Str) ∧ okE G a ∧ okE G b ∧ okE G e
  | .mkP f br S ks dv es kes => G.madeP f es.length ks br S dv ∧ okL G es ∧ okL G kes
  | .tup es => okL G es
  | .lst es => okL G es
  | .bin _ a b => okE G a ∧ okE G b
  | .neg a => okE G a
  | .cmp _ a b => okE G a ∧ okE G b
  | .chain _ _ a b c => okE G a ∧ okE G b ∧ okE G c
  | .isN a => okE G a
  | .notN a => okE G a
  | .ands es => okL G es
  | .ors es => okL G es
  | .not a => okE G a
  | .ite c a b => okE G c ∧ okE G a ∧ okE G b
  | .ix a i => okE G a ∧ okE G i
  | .call f br S dv es => G.fn f br S dv ∧ okL G es
  | .blt b es => G.bare (Str.ofString b.name) ∧ okL G es
  | .isi a t => G.bare ("isinstance" : Str) ∧ G.bare (Str.ofString t.name) ∧ okE G a
  | .isis a ts => G.bare ("isinstance" : Str) ∧ (∀ t ∈ ts, G.bare (Str.ofString t.name)) ∧ okE G a
  | .comp _ _ it c e => okI G it ∧ okO G c ∧ okE G e
  | .comp2 _ _ it c _ it1 c1 e => okI G it ∧ okO G c ∧ okI G it1 ∧ okO G c1 ∧ okE G e
  | .keyt es => okL G es
  | .comp3 _ _ it c _ it1 c1 _ it2 c2 e => okI G it ∧ okO G c ∧ okI G it1 ∧ okO G c1 ∧ okI G it2 ∧ okO G c2 ∧ okE G e
  | .methK cn m br S ks dv o es kes => G.meK cn m es.length ks br S dv ∧ okE G o ∧ okL G es ∧ okL G kes
  | .p1 p a => ok1 G p ∧ okE G a
  | .p2 p a b => ok2 G p ∧ okE G a ∧ okE G b
  | .callK f br S ks dv es kes => G.fnK f es.length ks br S dv ∧ okL G es ∧ okL G kes
  | .mk f br S dv es => G.made f br S dv ∧ okL G es
  | .mkK f br S ks dv kes => G.madeK f ks br S dv ∧ okL G kes
  | .meth cn m br S dv o es => G.me cn m br S dv ∧ okE G o ∧ okL G es
  | _ => True
def okL (G : Top) : List Ex → Prop
  | [] => True
  | a :: as => okE G a ∧ okL G as
def okI (G : Top) : Itx → Prop
  | .rng a => G.bare ("range" : Str) ∧ okE G a
  | .rng2 a b => G.bare ("range" : Str) ∧ okE G a ∧ okE G b
  | .seq a => okE G a
def okO (G : Top) : Option Ex → Prop
  | none => True
  | some a => okE G a
end
abbrev topOf (X : Cx) (lv : Nat) : Top := ⟨X.prog, X.w, X.K, X.mg, X.base, lv⟩

section
variable {X : Cx} {n : N0}
/-- isinstance -/
theorem de_isi {x : Expr} {t : Ty} {p p' pos : Pos} {w : Sl → (D → Prop) → Prop} (hg : Gl X "isinstance") (hm : X.mg "isinstance" = none) (hg' : Gl X (Str.ofString t.name)) (hm' : X.mg (Str.ofString t.name) = none)
    (hs : isStar x = false) (h : PE X x (cV X.K X.mg n true w)) : PE X (.Call (.Name "isinstance" p) [x, .Name (Str.ofString t.name) p'] [] pos) (cE X.K X.mg n (w1 w (opIsi t))) := by
  have ht : PE X (.Name (Str.ofString t.name) p') (tC (.ty t.name)) := pe_bltn hg' hm' (boot_ty t) rfl (by cases t <;> decide) (by cases t <;> decide)
  have hp := pe_callB (pos := pos) (p := p) call_isiY hg hm PyProof.Rows.boot_isinstance (pa_cons h (pa_cons ht pa_nil (star_cons rfl)) (star_cons hs)) (by decide) (by decide) (star_cons hs) rfl
  refine PE.imp hp fun σ H Q ⟨W, δ, q, st, sp, hw, k⟩ => ⟨W, δ, _, st, sp, hw, fun W1 H1 v d s r hq => ?_⟩
  unfold opIsi at hq
  split at hq
  · rename_i b e
    obtain ⟨a, ea, kk⟩ := isT_kit (K := X.K) e
    exact ⟨v, .ty t.name, _, _, b, rfl, .ty _, r.read.ty s.ok ea, kk, k W1 H1 _ (.v (.bl b)) s (Rep.bl b) hq⟩
  · exact hq.elim
theorem pa_tys : ∀ {ts : List Ty} {es : List Expr}, chkTy X.env.scope ts (some es) = true → (∀ t ∈ ts, X.mg (Str.ofString t.name) = none) → PA X es (fun _ H Q => Q (ts.map fun t => V.ty t.name) H)
  | [], [], _, _ => pa_nil
  | [], _ :: _, h, _ => by simp [chkTy] at h
  | _ :: _, [], h, _ => by simp [chkTy] at h
  | t :: ts, e :: es, h, hm => by
    simp only [chkTy, Bool.and_eq_true, decide_eq_true_eq] at h
    obtain ⟨p, rfl⟩ := dName_eq h.1
    have ht : PE X (.Name (Str.ofString t.name) p) (tC (.ty t.name)) := pe_bltn (isGl_ok h.2.1) (hm t List.mem_cons_self) (boot_ty t) rfl (by cases t <;> decide) (by cases t <;> decide)
    exact pa_cons ht (pa_tys h.2.2 fun t' ht' => hm t' (List.mem_cons_of_mem _ ht')) (star_cons rfl)
theorem tys_cls : ∀ ts : List Ty, Paired ClsV (ts.map fun t => V.ty t.name) (ts.map fun t => Value.type t.name)
  | [] => .nil
  | t :: ts => .cons (.ty _) (tys_cls ts)
theorem isTs_ty {d : D} {b : Bool} : ∀ {ts : List Ty}, ts ≠ [] → isTs ts d = some b → ∃ a, tyD d = some a
  | [], h, _ => absurd rfl h
  | t :: ts, _, h => by
    unfold isTs at h
    cases e : isT t d with
    | none => rw [e] at h; cases h
    | some c =>
      cases d <;> first | exact ⟨_, rfl⟩ | (simp [isT] at e)
theorem de_isis {x : Expr} {ts : List Ty} {es : List Expr} {k' : Nat} {p p' pos : Pos} {w : Sl → (D → Prop) → Prop} (hl : ts ≠ [] ∧ ts.length ≤ 1000) (hc : chkTy X.env.scope ts (some es) = true) (hg : Gl X "isinstance") (hm : X.mg "isinstance" = none) (hm' : ∀ t ∈ ts, X.mg (Str.ofString t.name) = none)
    (hs : isStar x = false) (h : PE X x (cV X.K X.mg n true w)) : PE X (.Call (.Name "isinstance" p) [x, .Tuple es k' p'] [] pos) (cE X.K X.mg n (w1 w (opIsis ts))) := by
  have ht : PE X (.Tuple es k' p') _ := pe_tup (pa_tys hc hm')
  have hp := pe_callB (pos := pos) (p := p) call_isiTY hg hm PyProof.Rows.boot_isinstance (pa_cons h (pa_cons ht pa_nil (star_cons rfl)) (star_cons hs)) (by decide) (by decide) (star_cons hs) rfl
  refine PE.imp hp fun σ H Q ⟨W, δ, q, st, sp, hw, k⟩ => ⟨W, δ, _, st, sp, hw, fun W1 H1 v d s r hq => ?_⟩
  refine ⟨by rw [List.length_map]; exact Nat.le_of_lt (small1000 hl.2), fun T hT => ?_⟩
  unfold opIsis at hq
  split at hq
  · rename_i b e
    have s2 := Stp.laid s.ok hT (.tup (ts.map fun t => V.ty t.name))
    obtain ⟨a, ea⟩ := isTs_ty hl.1 e
    exact ⟨v, T, _, _, _, b, rfl, upd_same, tys_cls ts, (r.step s2).read.ty s2.ok ea, isTs_kit ea e, k _ _ _ (.v (.bl b)) (s.trans s2) (Rep.bl b) hq⟩
  · exact hq.elim
theorem chain_imp {o o' : Cop} {wa wb wc : Sl → (D → Prop) → Prop} {r r' : R2} (h1 : OpS X.K X.mg n true true r (opC o)) (h2 : OpS X.K X.mg n true true r' (opC o')) {σ : L2.St} {H : Hp} {Q : VK}
    (h : cE X.K X.mg n (fun δ q => wa δ fun x => wb δ fun y => opC o x y fun t => asB t fun t => if t = true then wc δ fun z => opC o' y z q else q (.v (.bl false))) σ H Q) : tChain r r' (cV X.K X.mg n true wa) (cV X.K X.mg n true wb) (cV X.K X.mg n true wc) σ H Q := by
  obtain ⟨W, δ, q, st, sp, hw, k⟩ := h
  refine ⟨W, δ, _, st, sp, hw, fun W1 H1 v1 d1 s1 r1 q1 => ⟨W1, δ, _, st.step s1, sp.trans s1, q1, fun W2 H2 v2 d2 s2 r2 q2 => ?_⟩⟩
  refine h1 W2 H2 v1 v2 d1 d2 _ _ s2.ok (r1.step s2) r2 q2 fun W3 H3 v dv s3 r3 q3 => ?_
  unfold asB at q3
  split at q3
  · rename_i b
    cases r3
    refine ⟨b, rfl, ?_⟩
    have s13 := (s1.trans s2).trans s3
    cases b with
    | true =>
      rw [if_pos rfl] at q3 ⊢
      refine ⟨W3, δ, _, st.step s13, sp.trans s13, q3, fun W4 H4 v4 d4 s4 r4 q4 => ?_⟩
      refine h2 W4 H4 v2 v4 d2 d4 _ _ s4.ok ((r2.step s3).step s4) r4 q4 fun W5 H5 v5 dv5 s5 r5 q5 => ?_
      exact k W5 H5 v5 dv5 ((s13.trans s4).trans s5) (VRep.pre (W := W) (fun a h => (s13.trans s4).fresh h) r5) q5
    | false =>
      rw [if_neg Bool.false_ne_true] at q3 ⊢
      exact k W3 H3 _ (.v (.bl false)) s13 (Rep.bl false) q3
  · exact q3.elim
theorem const_none {e : Expr} (h : dConst e = some .none) : ∃ k p, e = .Constant .none k p := dConst_eq h
def isNon : D → Bool
  | .non => true
  | _ => false
theorem non_rep {v : V} {d : D} {W : Wd} {H : Hp} (r : RepT X.K X.mg W H v d) : decide (v = .non) = isNon d := by
  rcases r with r | ⟨a, rfl, c, _⟩
  · cases r <;> rfl
  · cases d <;> first | rfl | exact c.elim
theorem isN_imp {w : Sl → (D → Prop) → Prop} {b : Bool} {σ : L2.St} {H : Hp} {Q : VK}
    (h : cE X.K X.mg n (w1 w (opNon b)) σ H Q) : cV X.K X.mg n true w σ H fun v H1 => Q (.bl (if b = true then decide (v = .non) else !decide (v = .non))) H1 := by
  obtain ⟨W, δ, q, st, sp, hw, k⟩ := h
  refine ⟨W, δ, _, st, sp, hw, fun W1 H1 v d s r hq => ?_⟩
  show Q (V.bl (if b = true then decide (v = V.non) else !decide (v = V.non))) H1
  rw [non_rep r.read]
  unfold opNon at hq
  split at hq
  · cases b <;> exact k W1 H1 _ (.v (.bl _)) s (Rep.bl _) hq
  · rename_i hne
    have e : isNon d = false := by
      cases d <;> first | rfl | exact absurd rfl hne
    rw [e]
    cases b <;> exact k W1 H1 _ (.v (.bl _)) s (Rep.bl _) hq
end
end TT

set_option Elab.async false
set_option linter.all false
set_option maxRecDepth 100000
set_option autoImplicit false
namespace TT
open PySem PySem.Spec L2

section
variable {X : Cx} {E : XK} {n : N0} {Ed : Str → Prop} {lv : Nat}
theorem chkTs_assign {env : Env} {N : List Str} {raw : Scope} : ∀ {ts : List Tg} {es : List Expr}, chkTs N raw ts es = true → (assignEach es env).length = ts.length ∧ (assignEach es env).findIdx? (·.1) = none
  | [], [], _ => ⟨rfl, rfl⟩
  | [], _ :: _, h => by simp [chkTs] at h
  | _ :: _, [], h => by simp [chkTs] at h
  | t :: ts, e :: es, h => by
    simp only [chkTs, Bool.and_eq_true] at h
    obtain ⟨h1, h2⟩ := chkTs_assign (env := env) h.2
    have he : assignEach (e :: es) env = (false, assign e env) :: assignEach es env := by
      cases t <;> simp only [chkT] at h
      · cases e <;> first | rfl | (simp [dName] at h)
      · cases e <;> first | rfl | (simp [dTup] at h)
    rw [he]
    refine ⟨by rw [List.length_cons, List.length_cons, h1], ?_⟩
    rw [List.findIdx?_cons, h2]
    rfl
theorem assign_cons {env : Env} {N : List Str} {raw : Scope} {t : Tg} {e : Expr} {es : List Expr} (h : chkT N raw t e = true) : (assignEach (e :: es) env).map (·.2) = assign e env :: (assignEach es env).map (·.2) := by
  cases t <;> simp only [chkT] at h
  · cases e <;> first | rfl | (simp [dName] at h)
  · cases e <;> first | rfl | (simp [dTup] at h)
mutual
theorem soundT {raw : Scope} (hN : X.N.Nodup) (hc : X.calm = true) (hr : ∀ x, isOwn raw x = true → Loc X.env.scope x ∧ (X.fn x = true ∨ X.env.scope.names.lookup x = some .local)) : ∀ (t : Tg) {e : Expr}, chkT X.N raw t e = true → PG X e (cG X.K X.mg n t.slots (tgD t))
  | .nm i, e, h => by
    simp only [chkT] at h
    split at h
    · rename_i x hx
      rw [Bool.and_eq_true, decide_eq_true_eq] at h
      obtain ⟨p, rfl⟩ := dName_eq hx
      obtain ⟨h1, h2⟩ := hr x h.2
      simp only [Tg.slots]
      exact dg_nm hN h.1 h1 h2
    · cases h
  | .tp ts, e, h => by
    simp only [chkT] at h
    split at h
    · rename_i es hx
      obtain ⟨k, p, rfl⟩ := dTup_eq hx
      obtain ⟨h1, h2⟩ := chkTs_assign (env := X.env) h
      exact dg_tp hc (soundTs hN hc hr ts h) h1 h2
    · cases h
theorem soundTs {raw : Scope} (hN : X.N.Nodup) (hc : X.calm = true) (hr : ∀ x, isOwn raw x = true → Loc X.env.scope x ∧ (X.fn x = true ∨ X.env.scope.names.lookup x = some .local)) : ∀ (ts : List Tg) {es : List Expr}, chkTs X.N raw ts es = true → PGs X es (cGs X.K X.mg n (Tg.slotsL ts) (tgsD ts))
  | [], [], _ => by simp only [Tg.slotsL]; exact dgs_nil
  | [], _ :: _, h => by simp [chkTs] at h
  | _ :: _, [], h => by simp [chkTs] at h
  | t :: ts, e :: es, h => by
    simp only [chkTs, Bool.and_eq_true] at h
    exact dgs_cons (soundT hN hc hr t h.1) (soundTs hN hc hr ts h.2) (assign_cons h.1)
end
end

theorem isOwn_rel {scope sc : Scope} {x : Str} (h : isOwn scope x = true) : Loc (relS scope sc) x ∧ ((scope.names.lookup x == some .cell) = true ∨ (relS scope sc).names.lookup x = some .local) := by
  unfold isOwn at h
  split at h
  · rename_i e
    have := lookup_relS_keep (sc := sc) (k := .local) (by decide) e
    exact ⟨.inl this, .inr this⟩
  · rename_i e
    have := lookup_relS_keep (sc := sc) (k := .cell) (by decide) e
    exact ⟨.inr this, .inl (by rw [e]; rfl)⟩
  · cases h

theorem Ctx.blk {X : Cx} {E : XK} {n : N0} {Ed : Str → Prop} {lv : Nat} (c : Ctx X E n Ed lv) (s : Shared) (H : Hp) {scope : Scope} (hk : scope.kind = .function) (C : Addr) (cl : List (Str × Addr)) (fp : List Addr) :
    Ctx (X.blk s H scope (PySem.compEnvC scope cl C X.env) fp) E0 n (fun _ => False) lv :=
  ⟨c.nd, c.calm, hk, c.room, passL, fun _ _ _ _ z => z.elim⟩

/-- the same place, no refusal wished for -/
theorem Ctx.mask {X : Cx} {E : XK} {n : N0} {Ed : Str → Prop} {lv : Nat} (c : Ctx X E n Ed lv) : Ctx X E n (fun _ => False) lv :=
  ⟨c.nd, c.calm, c.kind, c.room, c.pass, fun _ _ _ _ z => z.elim⟩

theorem blt_boot (b : Blt) : bootBuiltins (Str.ofString b.name) = some b.value := by cases b <;> decide +kernel

section
variable {X : Cx} {n : N0}
theorem de_blt {b : Blt} {x : Expr} {es : List Expr} {p pos : Pos} {wa : Sl → (List D → Prop) → Prop} (hc : X.calm = true) (hg : Gl X (Str.ofString b.name)) (hm : X.mg (Str.ofString b.name) = none) (hs : isStar x = false)
    (hpl : (backTo pos (starEach es X.env)).any (·.1) = false) (ha : PA X (x :: es) (cA X.K X.mg n (List.replicate b.ar true) wa)) : PE X (.Call (.Name (Str.ofString b.name) p) (x :: es) [] pos) (cE X.K X.mg n (wB wa (opBlt b))) := by
  obtain ⟨r, h1, h2⟩ := blt_rule (X := X) (n := n) hc b
  refine de_B ?_ h2
  have hn : (Str.ofString b.name) ≠ ("__name__" : Str) := by cases b <;> decide
  have hd : (Str.ofString b.name == ("__debug__" : Str)) = false := by cases b <;> decide
  cases b <;> first
    | exact pe_callB h1 hg hm (blt_boot _) ha hn hd (star_cons hs) hpl
    | exact pe_callTy h1 hg hm (blt_boot _) ha hn hd (star_cons hs) hpl
theorem dt_if {c a b : Expr} {pos : Pos} {wc : Sl → (Bool → Prop) → Prop} {wa wb : Sl → (DV → Prop) → Prop} (hc : PT X c (cT X.K X.mg n wc)) (ha : PT X a (cT X.K X.mg n (wT wa))) (hb : PT X b (cT X.K X.mg n (wT wb))) : PT X (.IfExp c a b pos) (cT X.K X.mg n (wT (wIf wc wa wb))) := by
  constructor
  rintro pins s σ H Q I ⟨W, δ, q, st, sp, hw, k⟩
  refine PyProof.Rows.isTrue_IfExp (thn (hc.run pins s σ H (fun t H1 => if t = true then cT X.K X.mg n (wT wa) σ H1 Q else cT X.K X.mg n (wT wb) σ H1 Q) I ⟨W, δ, _, st, sp, hw, fun W1 H1 t s1 q1 => ?_⟩) ?_)
  · cases t with
    | true =>
      rw [if_pos rfl] at q1 ⊢
      exact ⟨W1, δ, q, st.step s1, sp.trans s1, q1, fun W2 H2 b s2 q2 => k W2 H2 b (s1.trans s2) q2⟩
    | false =>
      rw [if_neg Bool.false_ne_true] at q1 ⊢
      exact ⟨W1, δ, q, st.step s1, sp.trans s1, q1, fun W2 H2 b s2 q2 => k W2 H2 b (s1.trans s2) q2⟩
  · rintro t s1 ⟨H1, I1, q1⟩
    cases t with
    | true => exact ha.run pins s1 σ H1 Q I1 q1
    | false => exact hb.run pins s1 σ H1 Q I1 q1
end
end TT

set_option Elab.async false
set_option linter.all false
set_option maxRecDepth 100000
set_option autoImplicit false
namespace TT
open PySem PySem.Spec L2

/-- both readings from a value's, where the test asks the value -/
theorem both {X : Cx} {n : N0} {e : Expr} {w : Sl → (DV → Prop) → Prop} (h : PE X e (cE X.K X.mg n w)) (he : ∀ whole, isTrue e X.env whole = (do let v ← whole; standAt e.pos; holding [v] (truthy v))) : PE X e (cE X.K X.mg n w) ∧ PT X e (cT X.K X.mg n (wT w)) := ⟨h, dt_val h he⟩
theorem shIsi_eq {sc : Scope} {x : Str} {e a : Expr} (h : shIsi sc x e = some a) : ∃ p p2 p3, e = .Call (.Name "isinstance" p) [a, .Name x p2] [] p3 ∧ isGl sc "isinstance" = true ∧ isGl sc x = true ∧ okN x = true ∧ isStar a = false := by
  unfold shIsi at h
  split at h
  · split at h
    · rename_i hh
      cases h
      simp only [Bool.and_eq_true, decide_eq_true_eq, Bool.not_eq_true'] at hh
      obtain ⟨rfl, rfl, h1, h2, h3, h4⟩ := hh
      exact ⟨_, _, _, rfl, h1, h2, h3, h4⟩
    · cases h
  · cases h
theorem sh1_isx {sc : Scope} {x : Str} {e a : Expr} (h : sh1 sc (.isx x) e = some a) : ∃ p p2 p3, e = .Call (.Name "isinstance" p) [a, .Name x p2] [] p3 ∧ isGl sc "isinstance" = true ∧ isGl sc x = true ∧ okN x = true ∧ isStar a = false := shIsi_eq h
theorem sh1_isc {sc : Scope} {x : Str} {e a : Expr} (h : sh1 sc (.isc x) e = some a) : ∃ p p2 p3, e = .Call (.Name "isinstance" p) [a, .Name x p2] [] p3 ∧ isGl sc "isinstance" = true ∧ isGl sc x = true ∧ okN x = true ∧ isStar a = false := shIsi_eq h
theorem sh1_isd {sc : Scope} {x : Str} {l : List (Str × Bool)} {e a : Expr} (h : sh1 sc (.isd x l) e = some a) : ∃ p p2 p3, e = .Call (.Name "isinstance" p) [a, .Name x p2] [] p3 ∧ isGl sc "isinstance" = true ∧ isGl sc x = true ∧ okN x = true ∧ isStar a = false := shIsi_eq h
theorem sh1_att {sc : Scope} {c f : Str} {e a : Expr} (h : sh1 sc (.att c f) e = some a) : ∃ p2, e = .Attribute a f p2 ∧ recvB a = true := by
  have h : shAtt f e = some a := h
  unfold shAtt at h
  split at h
  · split at h
    · rename_i hh
      cases h
      rw [Bool.and_eq_true, decide_eq_true_eq] at hh
      obtain ⟨rfl, hh⟩ := hh
      exact ⟨_, rfl, hh⟩
    · cases h
  · cases h
theorem sh1_isTr {sc : Scope} {e a : Expr} (h : sh1 sc .isTr e = some a) : ∃ k p p2, e = .Compare a [.Is] [.Constant (.bool true) k p] p2 := by
  have h : shTr e = some a := h
  unfold shTr at h
  split at h
  · cases h; exact ⟨_, _, _, rfl⟩
  · cases h
theorem sh1_isnT {sc : Scope} {e a : Expr} (h : sh1 sc .isnT e = some a) : ∃ k p p2, e = .Compare a [.IsNot] [.Constant (.bool true) k p] p2 := by
  have h : shNTr e = some a := h
  unfold shNTr at h
  split at h
  · cases h; exact ⟨_, _, _, rfl⟩
  · cases h
theorem sh1_isF {sc : Scope} {e a : Expr} (h : sh1 sc .isF e = some a) : ∃ k p p2, e = .Compare a [.Is] [.Constant (.bool false) k p] p2 := by
  have h : shFa e = some a := h
  unfold shFa at h
  split at h
  · cases h; exact ⟨_, _, _, rfl⟩
  · cases h
theorem sh1_rev {sc : Scope} {e a : Expr} (h : sh1 sc .rev e = some a) : ∃ k p1 p2 p3 p, e = .Subscript a (.Slice none none (some (.UnaryOp .USub (.Constant (.int 1) k p1) p2)) p3) p := by
  have h : shRev e = some a := h
  unfold shRev at h
  split at h
  · cases h; exact ⟨_, _, _, _, _, rfl⟩
  · cases h
theorem sh1_srt {sc : Scope} {e a : Expr} (h : sh1 sc .srt e = some a) : ∃ p p2, e = .Call (.Name "sorted" p) [a] [] p2 ∧ isGl sc "sorted" = true ∧ isStar a = false := by
  have h : shSrt sc e = some a := h
  unfold shSrt at h
  split at h
  · split at h
    · rename_i hh
      cases h
      simp only [Bool.and_eq_true, decide_eq_true_eq, Bool.not_eq_true'] at hh
      obtain ⟨rfl, h1, h2⟩ := hh
      exact ⟨_, _, rfl, h1, h2⟩
    · cases h
  · cases h
theorem sh1_lset {sc : Scope} {e a : Expr} (h : sh1 sc .lset e = some a) : ∃ p p2 p3 p4, e = .Call (.Name "len" p) [.Call (.Name "set" p2) [a] [] p3] [] p4 ∧ isGl sc "len" = true ∧ isGl sc "set" = true ∧ isStar a = false := by
  have h : shLs sc e = some a := h
  unfold shLs at h
  split at h
  · split at h
    · rename_i hh
      cases h
      simp only [Bool.and_eq_true, decide_eq_true_eq, Bool.not_eq_true'] at hh
      obtain ⟨rfl, h1, rfl, h2, h3⟩ := hh
      exact ⟨_, _, _, _, rfl, h1, h2, h3⟩
    · cases h
  · cases h
theorem sh1_srs {sc : Scope} {e a : Expr} (h : sh1 sc .srs e = some a) : ∃ p p2 p3 p4, e = .Call (.Name "sorted" p) [.Call (.Name "set" p2) [a] [] p3] [] p4 ∧ isGl sc "sorted" = true ∧ isGl sc "set" = true ∧ isStar a = false := by
  have h : shSrs sc e = some a := h
  unfold shSrs at h
  split at h
  · split at h
    · rename_i hh
      cases h
      simp only [Bool.and_eq_true, decide_eq_true_eq, Bool.not_eq_true'] at hh
      obtain ⟨rfl, h1, rfl, h2, h3⟩ := hh
      exact ⟨_, _, _, _, rfl, h1, h2, h3⟩
    · cases h
  · cases h
theorem shOne_eq {sc : Scope} {f : Str} {e a : Expr} (h : shOne sc f e = some a) : ∃ p p2, e = .Call (.Name f p) [a] [] p2 ∧ isGl sc f = true ∧ isStar a = false := by
  unfold shOne at h
  split at h
  · split at h
    · rename_i hh
      cases h
      simp only [Bool.and_eq_true, decide_eq_true_eq, Bool.not_eq_true'] at hh
      obtain ⟨rfl, h1, h2⟩ := hh
      exact ⟨_, _, rfl, h1, h2⟩
    · cases h
  · cases h
theorem shRng_eq {sc : Scope} {e a : Expr} (h : shRng sc e = some a) : ∃ p p2 p3 p4, e = .Call (.Name "list" p) [.Call (.Name "range" p2) [a] [] p3] [] p4 ∧ isGl sc "list" = true ∧ isGl sc "range" = true ∧ isStar a = false := by
  unfold shRng at h
  split at h
  · split at h
    · rename_i hh
      cases h
      simp only [Bool.and_eq_true, decide_eq_true_eq, Bool.not_eq_true'] at hh
      obtain ⟨rfl, h1, rfl, h2, h3⟩ := hh
      exact ⟨_, _, _, _, rfl, h1, h2, h3⟩
    · cases h
  · cases h
theorem shName_eq {e a : Expr} (h : shName e = some a) : ∃ y p, e = .Name y p ∧ a = e := by
  unfold shName at h
  split at h
  · cases h; exact ⟨_, _, rfl, rfl⟩
  · cases h
theorem shIx_eq {e a b : Expr} (h : shIx e = some (a, b)) : ∃ p, e = .Subscript a b p ∧ isSlice b = false := by
  unfold shIx at h
  split at h
  · split at h
    · cases h
    · rename_i hh
      cases h
      exact ⟨_, rfl, by simpa using hh⟩
  · cases h
theorem RepT.tyD {K : PySem.W.Frag} {mg : Str → Option Value} {W : Wd} {H : Hp} {v : V} {kvs : List (List Int × D)} (w : WOk W H) (r : RepT K mg W H v (.dic kvs)) : tyDD K v H := by
  obtain ⟨a, xs, rfl, e, _⟩ := r.dic w
  rcases e with e | ⟨o, e⟩
  · exact .inl (.inr (.inr (.inl ⟨rfl, .inr ⟨xs, e⟩⟩)))
  · exact .inr ⟨a, o, xs, rfl, e⟩
theorem ints_rep {K : PySem.W.Frag} {mg : Str → Option Value} {W : Wd} : ∀ ns : List Int, RepL K mg W (ns.map V.int) (ns.map D.int)
  | [] => .nil
  | i :: ns => .cons (.int i) (ints_rep ns)
theorem shM_eq {m : Str} {e a b : Expr} (h : shM m e = some (a, b)) : ∃ p q, e = .Call (.Attribute a m p) [b] [] q ∧ (p.endLine == q.line) = true ∧ isStar b = false ∧ (dName a).isSome = true := by
  unfold shM at h
  split at h
  · split at h
    · rename_i hh
      cases h
      simp only [Bool.and_eq_true, decide_eq_true_eq, Bool.not_eq_true'] at hh
      obtain ⟨rfl, h1, h2, h3⟩ := hh
      exact ⟨_, _, rfl, h1, h2, h3⟩
    · cases h
  · cases h
theorem sh2_cnt {sc : Scope} {e a b : Expr} (h : sh2 sc .cnt e = some (a, b)) : ∃ p q, e = .Call (.Attribute a "count" p) [b] [] q ∧ (p.endLine == q.line) = true ∧ isStar b = false ∧ (dName a).isSome = true := shM_eq h
theorem sh2_idx {sc : Scope} {e a b : Expr} (h : sh2 sc .idx e = some (a, b)) : ∃ p q, e = .Call (.Attribute a "index" p) [b] [] q ∧ (p.endLine == q.line) = true ∧ isStar b = false ∧ (dName a).isSome = true := shM_eq h
theorem sh2_in {sc : Scope} {neg : Bool} {e a b : Expr} (h : sh2 sc (.isin neg) e = some (a, b)) : ∃ p, e = .Compare a [opIn neg] [b] p ∧ isSet b = false := by
  have h : shIn neg e = some (a, b) := h
  unfold shIn at h
  split at h
  · split at h
    · rename_i hh
      cases h
      simp only [Bool.and_eq_true, decide_eq_true_eq, Bool.not_eq_true'] at hh
      exact ⟨_, by rw [hh.1], hh.2⟩
    · cases h
  · cases h
theorem sh2_cutL {sc : Scope} {e a b : Expr} (h : sh2 sc .cutL e = some (a, b)) : ∃ p p2, e = .Subscript a (.Slice none (some b) none p) p2 := by
  have h : shL e = some (a, b) := h
  unfold shL at h
  split at h
  · cases h; exact ⟨_, _, rfl⟩
  · cases h
theorem sh2_cutR {sc : Scope} {e a b : Expr} (h : sh2 sc .cutR e = some (a, b)) : ∃ p p2, e = .Subscript a (.Slice (some b) none none p) p2 := by
  have h : shR e = some (a, b) := h
  unfold shR at h
  split at h
  · cases h; exact ⟨_, _, rfl⟩
  · cases h
theorem any_py (d : D) : ∀ ys : List D, (pyL ys).any (fun z => PyData.eqv z (py d)) = ys.any fun z => eqD z d
  | [] => rfl
  | y :: ys => by
    simp only [pyL, List.any_cons]
    rw [any_py d ys]
    rfl
theorem flat_bls : ∀ bs : List Bool, (bs.map V.bl).all flatV = true
  | [] => rfl
  | b :: bs => by rw [List.map_cons, List.all_cons, flat_bls bs]; rfl
theorem eqV_bl (a b : Bool) : eqV (.bl a) (.bl b) = (a == b) := by cases a <;> cases b <;> rfl
theorem cnt_bls (b : Bool) : ∀ bs : List Bool, (bs.map V.bl).countP (fun z => eqV z (.bl b)) = bs.count b
  | [] => rfl
  | a :: bs => by
    rw [List.map_cons, List.countP_cons, List.count_cons, cnt_bls b bs, eqV_bl]
theorem RepT.tyL {K : PySem.W.Frag} {mg : Str → Option Value} {W : Wd} {H : Hp} {v : V} {ds : List D} (w : WOk W H) (r : RepT K mg W H v (.lst ds)) : tyV K "list" v H := by
  obtain ⟨a, xs, rfl, e, _⟩ := r.lst w
  exact .inl ⟨rfl, xs, SqL.of e⟩

theorem merge_new {kvs : List (L2.Key × V)} : ∀ {acc : List (L2.Key × V)}, ((acc ++ kvs).map (·.1)).Nodup → mergeK acc kvs = acc ++ kvs := by
  induction kvs with
  | nil => intro acc _; simp [mergeK]
  | cons p r ih =>
    intro acc h
    have e : putK acc p.1 p.2 = acc ++ [p] := by
      unfold putK
      rw [if_neg]
      intro z
      obtain ⟨q, hq, e⟩ := List.any_eq_true.mp z
      have e := of_decide_eq_true e
      rw [List.map_append, List.map_cons] at h
      have := List.nodup_append.mp h
      exact this.2.2 q.1 (List.mem_map_of_mem hq) p.1 (by simp) e
    show mergeK (putK acc p.1 p.2) r = _
    rw [e, ih (by simpa using h), List.append_assoc]
    rfl
section
variable {K : PySem.W.Frag} {mg : Str → Option Value} {W W' : Wd} {H : Hp}
theorem RepI.le (l : W.le W') {v : List (L2.Key × V)} {d : List (Int × D)} (r : RepI K mg W v d) : RepI K mg W' v d := r.mono l.F l.tw
theorem RepI.look : ∀ {xs : List (L2.Key × V)} {ds : List (Int × D)} {i : Int} {d : D}, RepI K mg W xs ds → ds.lookup i = some d → ∃ v, valV xs (Sum.inl i) = some v ∧ Rep K mg W v d
  | _, _, _, _, .nil, e => by cases e
  | _, _, i, d, .cons (k := k) (v := v) (vs := vs) h r, e => by
    by_cases q : i = k
    · subst q
      simp at e
      subst e
      exact ⟨v, valV_pos (p := (Sum.inl i, v)) rfl, h⟩
    · have hb : (i == k) = false := beq_eq_false_iff_ne.mpr q
      simp only [List.lookup, hb] at e
      obtain ⟨u, h1, h2⟩ := RepI.look r e
      exact ⟨u, by rw [valV_neg (p := (Sum.inl k, v)) (fun z => q (Sum.inl.inj z).symm)]; exact h1, h2⟩
theorem RepT.idc (w : WOk W H) {v : V} {ds : List (Int × D)} (r : RepT K mg W H v (.idc ds)) : ∃ a xs, v = .ref a ∧ H a = some (.dK xs) ∧ RepI K mg W xs ds := by
  rcases r with r | ⟨a, e, c, _⟩
  · cases r with
    | idc h r => exact ⟨_, _, rfl, w.sub _ _ h, r⟩
  · exact c.elim
theorem RepL.pairs : ∀ {kvs : List (Int × D)} {xs : List V}, RepL K mg W xs (kvs.map fun p => .tup [.int p.1, p.2]) → ∃ (ps : List Addr) (vs : List (L2.Key × V)), xs = ps.map V.ref ∧ Paired (fun p kv => SqT K W.F p [kV kv.1, kv.2]) ps vs ∧ RepI K mg W vs kvs ∧ vs.map (·.1) = kvs.map fun p => Sum.inl p.1
  | [], _, .nil => ⟨[], [], rfl, .nil, .nil, rfl⟩
  | (i, d) :: kvs, _, .cons h r => by
    obtain ⟨ps, vs, rfl, h2, h3, h4⟩ := RepL.pairs r
    cases h with
    | @tup a xs _ sq l =>
      cases l with
      | cons hi l =>
        cases hi
        cases l with
        | cons hd l =>
          cases l
          rename_i v
          exact ⟨a :: ps, (Sum.inl i, v) :: vs, rfl, .cons sq h2, .cons hd h3, by rw [List.map_cons, List.map_cons, h4]⟩
theorem Paired.imp' {α β : Type} {F G : α → β → Prop} (h : ∀ a b, F a b → G a b) : ∀ {l : List α} {m : List β}, Paired F l m → Paired G l m
  | _, _, .nil => .nil
  | _, _, .cons x r => .cons (h _ _ x) (Paired.imp' h r)
theorem RepL.tups : ∀ {ks : List (List Int)} {xs : List V}, RepL K mg W xs (ks.map fun k => .tup (k.map .int)) → ∃ ps : List (Addr × List Int), xs = ps.map (fun p => V.ref p.1) ∧ ks = ps.map (·.2) ∧ ∀ p ∈ ps, SqT K W.F p.1 (p.2.map V.int)
  | [], _, .nil => ⟨[], rfl, rfl, by simp⟩
  | k :: ks, _, .cons h r => by
    obtain ⟨ps, rfl, rfl, h3⟩ := RepL.tups r
    cases h with
    | @tup a xs _ sq l =>
      cases RepL.ints l
      exact ⟨(a, k) :: ps, rfl, rfl, fun p hp => by
        rcases List.mem_cons.mp hp with rfl | hp
        · exact sq
        · exact h3 p hp⟩
theorem tups_rep : ∀ {ps : List (Addr × List Int)}, (∀ p ∈ ps, SqT K W.F p.1 (p.2.map V.int)) → RepL K mg W (ps.map fun p => V.ref p.1) ((ps.map (·.2)).map fun k => .tup (k.map .int))
  | [], _ => .nil
  | p :: ps, h => .cons (.tup (h p List.mem_cons_self) (ints_rep _)) (tups_rep fun q hq => h q (List.mem_cons_of_mem _ hq))
theorem keys_rep : ∀ {ps : List (Addr × List Int)}, (∀ p ∈ ps, W.F p.1 = some (.tup (p.2.map V.int))) → RepL K mg W (ps.map fun p => V.ref p.1) ((ps.map (·.2)).map .key)
  | [], _ => .nil
  | p :: ps, h => .cons (.key (h p List.mem_cons_self)) (keys_rep fun q hq => h q (List.mem_cons_of_mem _ hq))
end
theorem sort_snd (ps : List (Addr × List Int)) : (ps.mergeSort fun x y => decide (x.2 ≤ y.2)).map (·.2) = (ps.map (·.2)).mergeSort fun x y => decide (x ≤ y) :=
  List.map_mergeSort (r := fun x y : Addr × List Int => decide (x.2 ≤ y.2)) (s := fun x y : List Int => decide (x ≤ y)) (f := fun p : Addr × List Int => p.2) fun _ _ _ _ => rfl
theorem told_all {W : Wd} {H : Hp} (k : WOk W H) : ∀ {ps : List (Addr × List Int)}, (∀ p ∈ ps, H p.1 = some (.tup (p.2.map V.int))) → ∃ W', Stp W H W' H ∧ ∀ p ∈ ps, W'.F p.1 = some (.tup (p.2.map V.int))
  | [], _ => ⟨W, .refl k, by simp⟩
  | p :: ps, h => by
    obtain ⟨W1, s1, h1⟩ := told_all k (ps := ps) fun q hq => h q (List.mem_cons_of_mem _ hq)
    obtain ⟨W2, s2, h2⟩ := told_ok s1.ok (h p List.mem_cons_self)
    exact ⟨W2, s1.trans s2, fun q hq => by
      rcases List.mem_cons.mp hq with rfl | hq
      · exact h2
      · exact s2.le.F _ _ (h1 q hq)⟩
theorem RepK.keys {K : PySem.W.Frag} {mg : Str → Option Value} {W : Wd} : ∀ {xs : List (List L2.Key × V)} {ds : List (List Int × D)}, RepK K mg W xs ds → xs.map (·.1) = (ds.map (·.1)).map keyOf
  | _, _, .nil => rfl
  | _, _, .cons _ r => by rw [List.map_cons, List.map_cons, List.map_cons, RepK.keys r]
theorem RepL.app' {K : PySem.W.Frag} {mg : Str → Option Value} {W : Wd} : ∀ {vs : List V} {ds : List D} {vs2 : List V} {ds2 : List D}, RepL K mg W vs ds → RepL K mg W vs2 ds2 → RepL K mg W (vs ++ vs2) (ds ++ ds2)
  | _, _, _, _, .nil, h => h
  | _, _, _, _, .cons a r, h => .cons a (RepL.app' r h)
theorem RepL.rev {K : PySem.W.Frag} {mg : Str → Option Value} {W : Wd} : ∀ {vs : List V} {ds : List D}, RepL K mg W vs ds → RepL K mg W vs.reverse ds.reverse
  | _, _, .nil => .nil
  | _, _, .cons a r => by
    rw [List.reverse_cons, List.reverse_cons]
    exact RepL.app' (RepL.rev r) (.cons a .nil)
section
variable {X : Cx} {E : XK} {n : N0} {Ed : Str → Prop} {lv : Nat} (c : Ctx X E n Ed lv)
include c
theorem prim1 (p : P1) {e x : Expr} {w : Sl → (D → Prop) → Prop} (hs : sh1 X.env.scope p e = some x) (ho : ok1 (topOf X lv) p) (h : PE X x (cV X.K X.mg n true w)) : PE X e (cE X.K X.mg n (w1 w (op1 p))) ∧ PT X e (cT X.K X.mg n (wT (w1 w (op1 p)))) := by
  cases p with
  | isx y =>
    obtain ⟨p1, p2, p3, rfl, h1, h2, h3, h4⟩ := sh1_isx hs
    obtain ⟨cv, hcv, hm, hk⟩ := ho
    have cls : ∃ cl : V, PE X (.Name y p2) (tC cl) ∧ ∀ u, RelV cl u → u = cv := by
      rcases hcv with ⟨rfl, rfl, m⟩ | ⟨C, rfl, m⟩
      · exact ⟨.ty "ValueError", pe_bltn (isGl_ok h2) m (by decide +kernel) rfl (by decide) (by decide), fun u r => r⟩
      · exact ⟨.ref C, pe_glob (isGl_ok h2) m rfl (okN_1 h3), fun u r => r⟩
    obtain ⟨cl, pc, hcl⟩ := cls
    have hp := pe_callB (pos := p3) (p := p1) call_isT (isGl_ok h1) hm PyProof.Rows.boot_isinstance (pa_cons h (pa_cons pc pa_nil (star_cons rfl)) (star_cons h4)) (by decide) (by decide) (star_cons h4) rfl
    refine both (PE.imp hp fun σ H Q ⟨W, δ, q, st, sp, hw, k⟩ => ⟨W, δ, _, st, sp, hw, fun W1 H1 v d s r hq => ?_⟩) (by intro _; rfl)
    cases d <;> try exact hq.elim
    rename_i ec
    obtain ⟨a, C, rfl, ha, hC⟩ := r.read.err s.ok
    obtain ⟨k1, k2⟩ := hk ec hq.1 C hC
    exact ⟨a, C, cl, cv, _, rfl, ha, k1, hcl, k2, k W1 H1 _ (.v (.bl _)) s (Rep.bl _) hq.2⟩
  | att cn f =>
    obtain ⟨p2, rfl, hr⟩ := sh1_att hs
    exact both (de_att (X := X) (c := cn) (f := f) ho h (recvB_ok hr)) (by intro _; rfl)
  | attM l f =>
    obtain ⟨p2, rfl, hr⟩ := sh1_att (c := f) (show sh1 X.env.scope (.att f f) e = some x from hs)
    exact both (de_attM (X := X) (l := l) (f := f) (Top.atts_at ho) h (recvB_ok hr)) (by intro _; rfl)
  | isc cn =>
    obtain ⟨p1, p2, p3, rfl, h1, h2, h3, h4⟩ := sh1_isc hs
    obtain ⟨hm, C, hC, cl, k1, k2, k3, k4, k5⟩ := ho
    have pgl : PE X (.Name cn p2) (tC (.ref C)) := pe_glob (isGl_ok h2) hC rfl (okN_1 h3)
    have hp := pe_callB (pos := p3) (p := p1) call_isiY (isGl_ok h1) hm PyProof.Rows.boot_isinstance (pa_cons h (pa_cons pgl pa_nil (star_cons rfl)) (star_cons h4)) (by decide) (by decide) (star_cons h4) rfl
    refine both (PE.imp hp fun σ H Q ⟨W, δ, q, st, sp, hw, k⟩ => ⟨W, δ, _, st, sp, hw, fun W1 H1 v d s r hq => ?_⟩) (by intro _; rfl)
    have basic : (tyD d).isSome = true → q (.v (.bl false)) → ∃ (x c : V) (t u : Value) (b : Bool), [v, V.ref C] = [x, c] ∧ ClsV c u ∧ TyY X.K H1 x t ∧ PySem.W.kitOne X.K t u = some b ∧ Q (.bl b) H1 := fun hb hq => by
      obtain ⟨a, ea⟩ := Option.isSome_iff_exists.mp hb
      refine ⟨v, .ref C, _, _, false, rfl, .own C, r.read.ty s.ok ea, k5 a ?_, k W1 H1 _ (.v (.bl _)) s (Rep.bl _) hq⟩
      cases d <;> first | (cases ea; decide) | (simp [tyD] at ea)
    cases d with
    | obj c' fs =>
      obtain ⟨rfl, hq⟩ := hq
      obtain ⟨a, C', dx, xs, rfl, ha, hm', _⟩ := r.read.obj s.ok
      cases hC.symm.trans hm'
      exact ⟨_, _, _, _, true, rfl, .own C, .x (.base (.ins ha cl k1 k2 k3 k4)), by unfold PySem.W.kitOne; simp, k W1 H1 _ (.v (.bl _)) s (Rep.bl _) hq⟩
    | _ => exact basic hq.1 hq.2
  | isd cn cl =>
    obtain ⟨p1, p2, p3, rfl, h1, h2, h3, h4⟩ := sh1_isd hs
    obtain ⟨⟨hm, C, hC, cls, k1, k2, k3, k4, k5⟩, kk⟩ := ho
    have pgl : PE X (.Name cn p2) (tC (.ref C)) := pe_glob (isGl_ok h2) hC rfl (okN_1 h3)
    have hp := pe_callB (pos := p3) (p := p1) call_isiY (isGl_ok h1) hm PyProof.Rows.boot_isinstance (pa_cons h (pa_cons pgl pa_nil (star_cons rfl)) (star_cons h4)) (by decide) (by decide) (star_cons h4) rfl
    refine both (PE.imp hp fun σ H Q ⟨W, δ, q, st, sp, hw, k⟩ => ⟨W, δ, _, st, sp, hw, fun W1 H1 v d s r hq => ?_⟩) (by intro _; rfl)
    have basic : (tyD d).isSome = true → q (.v (.bl false)) → ∃ (x c : V) (t u : Value) (b : Bool), [v, V.ref C] = [x, c] ∧ ClsV c u ∧ TyY X.K H1 x t ∧ PySem.W.kitOne X.K t u = some b ∧ Q (.bl b) H1 := fun hb hq => by
      obtain ⟨a, ea⟩ := Option.isSome_iff_exists.mp hb
      refine ⟨v, .ref C, _, _, false, rfl, .own C, r.read.ty s.ok ea, k5 a ?_, k W1 H1 _ (.v (.bl _)) s (Rep.bl _) hq⟩
      cases d <;> first | (cases ea; decide) | (simp [tyD] at ea)
    cases d with
    | obj c' fs =>
      obtain ⟨b, hb, hq⟩ := hq
      obtain ⟨a, C', dx, xs, rfl, ha, hm', _⟩ := r.read.obj s.ok
      obtain ⟨C2, C3, g1, g2, g3, g4, g5, g6, g7, g8⟩ := Top.kins_at kk hb
      cases g1.symm.trans hm'
      cases hC.symm.trans g2
      exact ⟨_, _, _, _, b, rfl, .own C, .x (.base (.ins ha g3 g4 g5 g6 g7)), g8, k W1 H1 _ (.v (.bl _)) s (Rep.bl _) hq⟩
    | _ => exact basic hq.1 hq.2
  | rev =>
    obtain ⟨kk, p1, p2, p3, p, rfl⟩ := sh1_rev hs
    refine both (PE.imp (pe_revL h) fun σ H Q ⟨W, δ, q, st, sp, hw, k⟩ => ⟨W, δ, _, st, sp, hw, fun W1 H1 v d s r hq => ?_⟩) (by intro _; rfl)
    cases d <;> try exact hq.elim
    obtain ⟨a, xs, rfl, e1, l1⟩ := r.read.lst s.ok
    exact ⟨a, xs, rfl, SqL.of e1, fun q' hq' => k W1 _ (.ref q') (.own (.lst _)) (s.trans (Stp.laidOwn s.ok hq' _)) ⟨q', rfl, ⟨_, upd_same, l1.rev⟩, s.fresh hq', s.ok.sub.free hq', s.ok.notTown hq'⟩ hq⟩
  | dofp =>
    obtain ⟨p1, p2, rfl, h1, h2⟩ := shOne_eq (show shOne X.env.scope "dict" e = some x from hs)
    have hp := pe_callTy (pos := p2) (p := p1) (call_dictP c.calm) (isGl_ok h1) ho (by kernel_rfl) (pa_cons h pa_nil (star_cons h2)) (by decide) (by decide) (star_cons h2) rfl
    refine both (PE.imp hp fun σ H Q ⟨W, δ, q, st, sp, hw, k⟩ => ⟨W, δ, _, st, sp, hw, fun W1 H1 v d s r hq => ?_⟩) (by intro _; rfl)
    cases d <;> try exact hq.elim
    obtain ⟨kvs, rfl, hn, hq⟩ := hq
    obtain ⟨a, xs, rfl, e1, l1⟩ := r.read.lst s.ok
    obtain ⟨ps, vs, rfl, hv, rI, ek⟩ := RepL.pairs l1
    refine ⟨a, ps, vs, rfl, SqL.of e1, Paired.imp' (fun _ _ h => Same.seqT s.ok.sub h) hv, fun l hl => ?_⟩
    rw [merge_new (acc := []) (by
      rw [List.nil_append, ek]
      have : (kvs.map fun p => (Sum.inl p.1 : L2.Key)) = (kvs.map (·.1)).map Sum.inl := by rw [List.map_map]; rfl
      rw [this]
      exact List.Pairwise.map _ (fun a b h z => h (Sum.inl.inj z)) hn), List.nil_append]
    have s2 := Stp.laid s.ok hl (.dK vs)
    exact k _ _ _ (.v (.idc kvs)) (s.trans s2) (Rep.idc (by show upd W1.F l _ l = _; rw [upd_same]) (rI.le s2.le)) hq
  | srtK =>
    obtain ⟨p1, p2, rfl, h1, h2⟩ := shOne_eq (show shOne X.env.scope "sorted" e = some x from hs)
    have hu : X.A.units + 64 < cLine := c.units
    have hp := pe_callB (pos := p2) (p := p1) (cr_sortedK hu) (isGl_ok h1) ho (by kernel_rfl) (pa_cons h pa_nil (star_cons h2)) (by decide) (by decide) (star_cons h2) rfl
    refine both (PE.imp hp fun σ H Q ⟨W, δ, q, st, sp, hw, k⟩ => ⟨W, δ, _, st, sp, hw, fun W1 H1 v d s r hq => ?_⟩) (by intro _; rfl)
    cases d <;> try exact hq.elim
    obtain ⟨ks, rfl, hne, hq⟩ := hq
    obtain ⟨a, xs, rfl, e1, l1⟩ := r.read.lst s.ok
    obtain ⟨ps, rfl, rfl, hps⟩ := RepL.tups l1
    refine ⟨a, ps, rfl, SqL.of e1, fun p hp => ⟨Same.seqT s.ok.sub (hps p hp), hne _ (List.mem_map_of_mem hp)⟩, fun q' hq' => ?_⟩
    rw [← sort_snd] at hq
    exact k W1 _ _ (.own (.lst _)) (s.trans (Stp.laidOwn s.ok hq' _)) ⟨q', rfl, ⟨_, upd_same, tups_rep fun p hp => hps p (List.mem_mergeSort.mp hp)⟩, s.fresh hq', s.ok.sub.free hq', s.ok.notTown hq'⟩ hq
  | srtD =>
    obtain ⟨p1, p2, rfl, h1, h2⟩ := shOne_eq (show shOne X.env.scope "sorted" e = some x from hs)
    have hu : X.A.units + 64 < cLine := c.units
    have hp := pe_callB (pos := p2) (p := p1) (cr_sortedD c.calm hu) (isGl_ok h1) ho (by kernel_rfl) (pa_cons h pa_nil (star_cons h2)) (by decide) (by decide) (star_cons h2) rfl
    refine both (PE.imp hp fun σ H Q ⟨W, δ, q, st, sp, hw, k⟩ => ⟨W, δ, _, st, sp, hw, fun W1 H1 v d s r hq => ?_⟩) (by intro _; rfl)
    cases d <;> try exact hq.elim
    obtain ⟨hne, hq⟩ := hq
    obtain ⟨a, xs, rfl, e1, l1⟩ := r.read.dic s.ok
    refine ⟨a, xs, _, rfl, e1, RepK.keys l1, fun k hk => ?_, fun ps q' hp1 hps hq' => ?_⟩
    · obtain ⟨kv, hkv, rfl⟩ := List.mem_map.mp hk
      exact hne kv hkv
    · obtain ⟨W2, s2, h2⟩ := told_all s.ok hps
      rw [← hp1, ← sort_snd] at hq
      exact k W2 _ _ (.own (.lst _)) ((s.trans s2).trans (Stp.laidOwn s2.ok hq' _)) ⟨q', rfl, ⟨_, upd_same, keys_rep fun p hp => h2 p (List.mem_mergeSort.mp hp)⟩, s.fresh hq', s2.ok.sub.free hq', s2.ok.notTown hq'⟩ hq
  | srt =>
    obtain ⟨p1, p2, rfl, h1, h2⟩ := sh1_srt hs
    have hm : X.mg "sorted" = none := ho
    have hp := pe_callB (pos := p2) (p := p1) cr_sortedI (isGl_ok h1) hm (by kernel_rfl) (pa_cons h pa_nil (star_cons h2)) (by decide) (by decide) (star_cons h2) rfl
    refine both (PE.imp hp fun σ H Q ⟨W, δ, q, st, sp, hw, k⟩ => ⟨W, δ, _, st, sp, hw, fun W1 H1 v d s r hq => ?_⟩) (by intro _; rfl)
    cases d <;> try exact hq.elim
    obtain ⟨ns, rfl, hq⟩ := hq
    obtain ⟨a, xs, rfl, e1, l1⟩ := r.read.lst s.ok
    cases RepL.ints l1
    exact ⟨a, ns, rfl, SqL.of e1, fun ns' p h1 h2 hp => k W1 _ _ (.own (.lst (ns'.map D.int))) (s.trans (Stp.laidOwn s.ok hp _)) ⟨p, rfl, ⟨_, upd_same, ints_rep ns'⟩, s.fresh hp, s.ok.sub.free hp, s.ok.notTown hp⟩ (hq ns' h1 h2)⟩
  | srs =>
    obtain ⟨p1, p2, p3, p4, rfl, h1, h2, h3⟩ := sh1_srs hs
    obtain ⟨hm, hm2⟩ := ho
    have hS := pe_callTy (pos := p3) (p := p2) (cr_setI c.calm) (isGl_ok h2) hm2 (by kernel_rfl) (pa_cons h pa_nil (star_cons h3)) (by decide) (by decide) (star_cons h3) rfl
    have hp := pe_callB (pos := p4) (p := p1) (cr_sortedSet c.calm) (isGl_ok h1) hm (by kernel_rfl) (pa_cons hS pa_nil (star_cons rfl)) (by decide) (by decide) (star_cons rfl) rfl
    refine both (PE.imp hp fun σ H Q ⟨W, δ, q, st, sp, hw, k⟩ => ⟨W, δ, _, st, sp, hw, fun W1 H1 v d s r hq => ?_⟩) (by intro _; rfl)
    cases d <;> try exact hq.elim
    obtain ⟨ns, rfl, hl, hq⟩ := hq
    obtain ⟨a, xs, rfl, e1, l1⟩ := r.read.lst s.ok
    cases RepL.ints l1
    refine ⟨a, ns, rfl, SqL.of e1, hl, fun b cn hb hcn => ⟨b, _, cn, rfl, upd_same, by omega, fun ns' p h1 h2 h3 hp => ?_⟩⟩
    have s2 := Stp.laidOwn s.ok hb (SetO X.w b (fun j => decide (j ∈ ns)) cn)
    have s3 := Stp.laidOwn s2.ok hp (.lst (ns'.map V.int))
    have spn := s.trans s2
    exact k W1 _ _ (.own (.lst (ns'.map D.int))) (spn.trans s3) ⟨p, rfl, ⟨_, upd_same, ints_rep ns'⟩, spn.fresh hp, s2.ok.sub.free hp, s2.ok.notTown hp⟩ (hq ns' h1 fun j => (h2 j).trans decide_eq_true_iff)
  | lset =>
    obtain ⟨p1, p2, p3, p4, rfl, h1, h2, h3⟩ := sh1_lset hs
    obtain ⟨hm, hm2⟩ := ho
    have hp := pe_lenN (mg := X.mg) (pos := p4) (p := p1) (p2 := p2) (q := p3) c.calm (by have := c.room.un; omega) (isGl_ok h1) hm (isGl_ok h2) hm2 h (star_cons h3)
    refine both (PE.imp hp fun σ H Q ⟨W, δ, q, st, sp, hw, k⟩ => ⟨W, δ, _, st, sp, hw, fun W1 H1 v d s r hq => ?_⟩) (by intro _; rfl)
    cases d <;> try exact hq.elim
    obtain ⟨ys, rfl, hy, nd, few, hq⟩ := hq
    obtain ⟨a, xs, rfl, e1, l1⟩ := r.read.lst s.ok
    exact ⟨a, xs, W1, ys, rfl, SqL.of e1, s.ok, l1, hy, nd, few, k W1 H1 _ (.v (.int _)) s (Rep.int _) hq⟩
  | unk =>
    obtain ⟨y, p, rfl, rfl⟩ := shName_eq (show shName e = some x from hs)
    refine both (PE.imp h fun σ H Q ⟨W, δ, q, st, sp, hw, k⟩ => ⟨W, δ, _, st, sp, hw, fun W1 H1 v d s r hq => ?_⟩) (by intro _; rfl)
    have rr := r.read
    cases d <;> try exact hq.elim
    · rcases rr with rr | ⟨_, _, z, _⟩
      · exact k W1 H1 v (.v (.tup _)) s rr hq
      · exact z.elim
    · rcases rr with rr | ⟨_, _, z, _⟩
      · cases rr with
        | key e1 => exact k W1 H1 _ (.v (.tup _)) s (Rep.tup (SqT.of e1) (ints_rep _)) hq
      · exact z.elim
  | tupk =>
    obtain ⟨p1, p2, rfl, h1, h2⟩ := shOne_eq (show shOne X.env.scope "tuple" e = some x from hs)
    have hp := pe_callTy (pos := p2) (p := p1) call_tuple_of (isGl_ok h1) ho (by kernel_rfl) (pa_cons h pa_nil (star_cons h2)) (by decide) (by decide) (star_cons h2) rfl
    refine both (PE.imp hp fun σ H Q ⟨W, δ, q, st, sp, hw, k⟩ => ⟨W, δ, _, st, sp, hw, fun W1 H1 v d s r hq => ?_⟩) (by intro _; rfl)
    cases d <;> try exact hq.elim
    obtain ⟨ks, rfl, hq⟩ := hq
    obtain ⟨a, xs, rfl, e1, l1⟩ := r.read.lst s.ok
    cases RepL.ints l1
    refine ⟨_, _, rfl, .inl ⟨SqL.of e1, fun l hl => ?_⟩⟩
    have s2 := Stp.laid s.ok hl (.tup (ks.map V.int))
    exact k _ _ _ (.v (.key ks)) (s.trans s2) (Rep.key (by show upd W1.F l _ l = _; rw [upd_same])) hq
  | dcopy =>
    obtain ⟨p1, p2, rfl, h1, h2⟩ := shOne_eq (show shOne X.env.scope "dict" e = some x from hs)
    have hu : X.A.units + 2 < cLine := by have := c.room.un; omega
    have hp := pe_callTy (pos := p2) (p := p1) (cr_dictT hu) (isGl_ok h1) ho (by kernel_rfl) (pa_cons h pa_nil (star_cons h2)) (by decide) (by decide) (star_cons h2) rfl
    refine both (PE.imp hp fun σ H Q ⟨W, δ, q, st, sp, hw, k⟩ => ⟨W, δ, _, st, sp, hw, fun W1 H1 v d s r hq => ?_⟩) (by intro _; rfl)
    cases d <;> try exact hq.elim
    obtain ⟨hn, hq⟩ := hq
    obtain ⟨a, xs, rfl, e1, l1⟩ := r.read.dic s.ok
    exact ⟨a, xs, rfl, e1, by rw [RepK.hash l1]; exact hn, fun l hl => k W1 _ _ (.own (.dic _)) (s.trans (Stp.laidOwn s.ok hl _)) ⟨l, rfl, ⟨_, upd_same, l1⟩, s.fresh hl, s.ok.sub.free hl, s.ok.notTown hl⟩ hq⟩
  | lenD =>
    obtain ⟨p1, p2, rfl, h1, h2⟩ := shOne_eq (show shOne X.env.scope "len" e = some x from hs)
    have hp := pe_callB (pos := p2) (p := p1) call_len_dY (isGl_ok h1) ho (by kernel_rfl) (pa_cons h pa_nil (star_cons h2)) (by decide) (by decide) (star_cons h2) rfl
    refine both (PE.imp hp fun σ H Q ⟨W, δ, q, st, sp, hw, k⟩ => ⟨W, δ, _, st, sp, hw, fun W1 H1 v d s r hq => ?_⟩) (by intro _; rfl)
    cases d <;> try exact hq.elim
    obtain ⟨a, xs, rfl, e1, l1⟩ := r.read.dic s.ok
    exact ⟨a, xs, rfl, e1, by rw [l1.length]; exact k W1 H1 _ (.v (.int _)) s (Rep.int _) hq⟩
  | lrng =>
    obtain ⟨p1, p2, p3, p4, rfl, h1, h2, h3⟩ := shRng_eq (show shRng X.env.scope e = some x from hs)
    have hp := pe_listRg (pos := p4) (p := p1) c.calm (isGl_ok h1) ho.1 (prg_1 (pos := p3) (p := p2) (isGl_ok h2) ho.2 h (star_cons h3)) (star_cons rfl)
    refine both (PE.imp hp fun σ H Q ⟨W, δ, q, st, sp, hw, k⟩ => ⟨W, δ, _, st, sp, hw, fun W1 H1 v d s r hq => ?_⟩) (by intro _; rfl)
    cases d <;> try exact hq.elim
    rename_i j
    obtain ⟨hj, hq⟩ := hq
    cases r.read.int
    refine ⟨j, rfl, RgOk.of_le (by omega) (by omega) (by omega) (by omega), fun l hl => ?_⟩
    have ev : rgV 0 j = (List.range j.toNat).map fun i => V.int (0 + (i : Nat)) := by unfold rgV; rw [Int.sub_zero]
    refine k W1 _ _ (.own (.lst _)) (s.trans (Stp.laidOwn s.ok hl _)) ⟨l, rfl, ⟨_, upd_same, ?_⟩, s.fresh hl, s.ok.sub.free hl, s.ok.notTown hl⟩ hq
    rw [ev]
    have er : rngD 0 j.toNat = ((List.range j.toNat).map fun i : Nat => (0 + (i : Int))).map D.int := by unfold rngD; rw [List.map_map]; rfl
    have ew : ((List.range j.toNat).map fun i : Nat => V.int (0 + (i : Nat))) = ((List.range j.toNat).map fun i : Nat => (0 + (i : Int))).map V.int := by rw [List.map_map]; rfl
    rw [er, ew]
    exact ints_rep _
  | max1 =>
    obtain ⟨p1, p2, rfl, h1, h2⟩ := shOne_eq (show shOne X.env.scope "max" e = some x from hs)
    have hu : X.A.units + 1 < cLine := by have := c.room.un; omega
    have hp := pe_callB (pos := p2) (p := p1) (CallR.or (cr_max c.calm) (cr_maxT c.calm hu)) (isGl_ok h1) ho (by kernel_rfl) (pa_cons h pa_nil (star_cons h2)) (by decide) (by decide) (star_cons h2) rfl
    refine both (PE.imp hp fun σ H Q ⟨W, δ, q, st, sp, hw, k⟩ => ⟨W, δ, _, st, sp, hw, fun W1 H1 v d s r hq => ?_⟩) (by intro _; rfl)
    cases d <;> try exact hq.elim
    · obtain ⟨ns, rfl, hn, hq⟩ := hq
      obtain ⟨a, xs, rfl, e1, l1⟩ := r.read.tup s.ok
      cases RepL.ints l1
      exact .inr ⟨a, ns, rfl, e1, hn, fun m m1 m2 => k W1 H1 _ (.v (.int m)) s (Rep.int _) (hq m m1 m2)⟩
    · obtain ⟨ns, rfl, hn, hq⟩ := hq
      obtain ⟨a, xs, rfl, e1, l1⟩ := r.read.lst s.ok
      cases RepL.ints l1
      exact .inl ⟨a, ns, rfl, SqL.of e1, hn, fun m m1 m2 => k W1 H1 _ (.v (.int m)) s (Rep.int _) (hq m m1 m2)⟩
  | min1 =>
    obtain ⟨p1, p2, rfl, h1, h2⟩ := shOne_eq (show shOne X.env.scope "min" e = some x from hs)
    have hp := pe_callB (pos := p2) (p := p1) (cr_min c.calm) (isGl_ok h1) ho (by kernel_rfl) (pa_cons h pa_nil (star_cons h2)) (by decide) (by decide) (star_cons h2) rfl
    refine both (PE.imp hp fun σ H Q ⟨W, δ, q, st, sp, hw, k⟩ => ⟨W, δ, _, st, sp, hw, fun W1 H1 v d s r hq => ?_⟩) (by intro _; rfl)
    cases d <;> try exact hq.elim
    obtain ⟨ns, rfl, hn, hq⟩ := hq
    obtain ⟨a, xs, rfl, e1, l1⟩ := r.read.lst s.ok
    cases RepL.ints l1
    exact ⟨a, ns, rfl, SqL.of e1, hn, fun m m1 m2 => k W1 H1 _ (.v (.int m)) s (Rep.int _) (hq m m1 m2)⟩
  | isnT =>
    obtain ⟨kk, p, p2, rfl⟩ := sh1_isnT hs
    have go : ∀ {σ : L2.St} {H : Hp} {Q : VK}, cE X.K X.mg n (w1 w (op1 .isnT)) σ H Q → tOp (fun x y H Q => ∃ a b, x = V.bl a ∧ y = V.bl b ∧ Q (.bl (!decide (a = b))) H) (cV X.K X.mg n true w) (tC (.bl true)) σ H Q := by
      rintro σ H Q ⟨W, δ, q, st, sp, hw, k⟩
      refine ⟨W, δ, _, st, sp, hw, fun W1 H1 v d s r hq => ?_⟩
      cases d <;> try exact hq.elim
      rename_i b
      cases r.read.bl
      refine ⟨b, true, rfl, rfl, ?_⟩
      have e : decide (b = true) = b := by cases b <;> rfl
      rw [e]
      exact k W1 H1 _ (.v (.bl _)) s (Rep.bl _) hq
    exact ⟨PE.imp (pe_cmpR op_notBl h pe_bl (mark_no _ rfl)) fun σ H Q z => go z, PT.imp (pt_cmpR op_notBl h pe_bl (mark_no _ rfl)) fun σ H Q z => go (cT.val z)⟩
  | isF =>
    obtain ⟨kk, p, p2, rfl⟩ := sh1_isF hs
    have go : ∀ {σ : L2.St} {H : Hp} {Q : VK}, cE X.K X.mg n (w1 w (op1 .isF)) σ H Q → tOp (fun x y H Q => ∃ a b, x = V.bl a ∧ y = V.bl b ∧ Q (.bl (decide (a = b))) H) (cV X.K X.mg n true w) (tC (.bl false)) σ H Q := by
      rintro σ H Q ⟨W, δ, q, st, sp, hw, k⟩
      refine ⟨W, δ, _, st, sp, hw, fun W1 H1 v d s r hq => ?_⟩
      cases d <;> try exact hq.elim
      rename_i b
      cases r.read.bl
      refine ⟨b, false, rfl, rfl, ?_⟩
      have e : decide (b = false) = !b := by cases b <;> rfl
      rw [e]
      exact k W1 H1 _ (.v (.bl _)) s (Rep.bl _) hq
    exact ⟨PE.imp (pe_cmpR op_is_bl h pe_bl (mark_no _ rfl)) fun σ H Q z => go z, PT.imp (pt_cmpR op_is_bl h pe_bl (mark_no _ rfl)) fun σ H Q z => go (cT.val z)⟩
  | isTr =>
    obtain ⟨kk, p, p2, rfl⟩ := sh1_isTr hs
    have go : ∀ {σ : L2.St} {H : Hp} {Q : VK}, cE X.K X.mg n (w1 w (op1 .isTr)) σ H Q → tOp (fun x y H Q => ∃ a b, x = V.bl a ∧ y = V.bl b ∧ Q (.bl (decide (a = b))) H) (cV X.K X.mg n true w) (tC (.bl true)) σ H Q := by
      rintro σ H Q ⟨W, δ, q, st, sp, hw, k⟩
      refine ⟨W, δ, _, st, sp, hw, fun W1 H1 v d s r hq => ?_⟩
      cases d <;> try exact hq.elim
      rename_i b
      cases r.read.bl
      refine ⟨b, true, rfl, rfl, ?_⟩
      have e : decide (b = true) = b := by cases b <;> rfl
      rw [e]
      exact k W1 H1 _ (.v (.bl _)) s (Rep.bl _) hq
    exact ⟨PE.imp (pe_cmpR op_is_bl h pe_bl (mark_no _ rfl)) fun σ H Q z => go z, PT.imp (pt_cmpR op_is_bl h pe_bl (mark_no _ rfl)) fun σ H Q z => go (cT.val z)⟩
/-- in, not in: lists and tuples of any data -/
def rInA (K : PySem.W.Frag) (neg : Bool) : R2 := fun x y H Q => ∃ (l : Bool) (d : PyData) (ds : List PyData), Dp K H x d ∧ Dp K H y (if l = true then .list ds else .tuple ds) ∧ SeqAt.shaped d = true ∧ SeqAt.shaped (if l = true then PyData.list ds else .tuple ds) = true ∧ Q (.bl (neg ^^ ds.any fun z => PyData.eqv z d)) H
omit c in
theorem op_inA (hu : X.A.units + 65 < cLine) (neg : Bool) : OpR X (compareOp (opIn neg)) (rInA X.K neg) := by
  intro pins s σ H x y v u Q I rx ry h
  obtain ⟨l, d, ds, hd, he, sd, se, q⟩ := h
  obtain ⟨as, r1⟩ := Dp.reads I d x v hd rx
  obtain ⟨bs, r2⟩ := Dp.reads I _ y u he ry
  cases l with
  | true =>
    cases neg with
    | true => exact SeqAt.notIn_list_reads r2 r1 (SeqAt.canLay_of_shaped se) (SeqAt.canLay_of_shaped sd) (PyProof.Rows.room_in_shaped sd hu) ⟨.bl _, H, I, rfl, by simpa using q⟩
    | false => exact SeqAt.in_list_reads r2 r1 (SeqAt.canLay_of_shaped se) (SeqAt.canLay_of_shaped sd) (PyProof.Rows.room_in_shaped sd hu) ⟨.bl _, H, I, rfl, by simpa using q⟩
  | false =>
    cases neg with
    | true => exact SeqAt.notIn_tuple_reads r2 r1 (SeqAt.canLay_of_shaped se) (SeqAt.canLay_of_shaped sd) (PyProof.Rows.room_in_shaped sd hu) ⟨.bl _, H, I, rfl, by simpa using q⟩
    | false => exact SeqAt.in_tuple_reads r2 r1 (SeqAt.canLay_of_shaped se) (SeqAt.canLay_of_shaped sd) (PyProof.Rows.room_in_shaped sd hu) ⟨.bl _, H, I, rfl, by simpa using q⟩
omit c in
theorem cut_take {xs : List V} {j : Nat} : cutV xs none (some (j : Int)) = xs.take j := by
  unfold cutV
  rw [HT.sIx_nat, HT.sIx_none, List.drop_zero, Nat.sub_zero]
  rcases Nat.le_total j xs.length with h | h
  · rw [Nat.min_eq_left h]
  · rw [Nat.min_eq_right h, List.take_of_length_le (Nat.le_refl _), List.take_of_length_le h]
omit c in
theorem cut_drop {xs : List V} {j : Nat} : cutV xs (some (j : Int)) none = xs.drop j := by
  unfold cutV
  rw [HT.sIx_nat, HT.sIx_none]
  rcases Nat.le_total j xs.length with h | h
  · rw [Nat.min_eq_left h, List.take_of_length_le (by rw [List.length_drop]; omega)]
  · rw [Nat.min_eq_right h, Nat.sub_self, List.take_zero, List.drop_eq_nil_of_le h]
theorem prim2 (p : P2) {e x y : Expr} {wa wb : Sl → (D → Prop) → Prop} (hs : sh2 X.env.scope p e = some (x, y)) (ho : ok2 (topOf X lv) p) (ha : PE X x (cV X.K X.mg n true wa)) (hb : PE X y (cV X.K X.mg n true wb)) : PE X e (cE X.K X.mg n (w2p p wa wb)) ∧ PT X e (cT X.K X.mg n (wT (w2p p wa wb))) := by
  cases p with
  | cnt =>
    obtain ⟨p1, q1, rfl, h1, h2, h3⟩ := sh2_cnt hs
    obtain ⟨nm, hn⟩ := Option.isSome_iff_exists.mp h3
    obtain ⟨p3, rfl⟩ := dName_eq hn
    have hp := pe_bm (T := "list") PySem.F.plainAttrs_list PySem.F.slot_list_count PySem.F.type_list_count mt_cnt ha (pa_cons hb pa_nil (star_cons h2)) rfl (by rw [star_cons h2]; rfl) h1 (star_cons h2) rfl
    refine both (PE.imp hp fun σ H Q ⟨W, δ, q, st, sp, hw, k⟩ => ⟨W, δ, _, st, sp, hw, fun W1 H1 v1 d1 s1 r1 ⟨z, q1⟩ => ?_⟩) (by intro _; rfl)
    cases d1 <;> try exact z.elim
    refine ⟨r1.read.tyL s1.ok, W1, δ, _, st.step s1, sp.trans s1, q1, fun W2 H2 v2 d2 s2 r2 q2 => ?_⟩
    cases d2 <;> try exact q2.elim
    obtain ⟨bs, rfl, q3⟩ := q2
    obtain ⟨a, xs, rfl, e1, l1⟩ := (r1.step s2).read.lst s2.ok
    cases RepL.bls l1
    cases r2.read.bl
    refine ⟨a, _, _, rfl, rfl, SqL.of e1, rfl, flat_bls bs, ?_⟩
    rw [cnt_bls]
    exact k W2 H2 _ (.v (.int _)) (s1.trans s2) (Rep.int _) q3
  | idx =>
    obtain ⟨p1, q1, rfl, h1, h2, h3⟩ := sh2_idx hs
    obtain ⟨nm, hn⟩ := Option.isSome_iff_exists.mp h3
    obtain ⟨p3, rfl⟩ := dName_eq hn
    have hp := pe_bm (T := "list") PySem.F.plainAttrs_list PySem.F.slot_list_index PySem.F.type_list_index mt_index ha (pa_cons hb pa_nil (star_cons h2)) rfl (by rw [star_cons h2]; rfl) h1 (star_cons h2) rfl
    refine both (PE.imp hp fun σ H Q ⟨W, δ, q, st, sp, hw, k⟩ => ⟨W, δ, _, st, sp, hw, fun W1 H1 v1 d1 s1 r1 ⟨z, q1⟩ => ?_⟩) (by intro _; rfl)
    cases d1 <;> try exact z.elim
    refine ⟨r1.read.tyL s1.ok, W1, δ, _, st.step s1, sp.trans s1, q1, fun W2 H2 v2 d2 s2 r2 q2 => ?_⟩
    cases d2 <;> try exact q2.elim
    rename_i b
    obtain ⟨bs, j, rfl, hj, hm, q3⟩ := q2
    obtain ⟨a, xs, rfl, e1, l1⟩ := (r1.step s2).read.lst s2.ok
    cases RepL.bls l1
    cases r2.read.bl
    refine ⟨a, _, _, j, .bl b, rfl, rfl, SqL.of e1, rfl, flat_bls bs, ?_, ?_, ?_, ?_⟩
    · rw [List.getElem?_map, hj]; rfl
    · rw [eqV_bl]; simp
    · intro m z' hmj e
      rw [List.getElem?_map, hm m hmj] at e
      cases e
      rw [eqV_bl]; cases b <;> rfl
    · exact k W2 H2 _ (.v (.int _)) (s1.trans s2) (Rep.int _) q3
  | isin neg =>
    obtain ⟨p, rfl, h1⟩ := sh2_in hs
    have hu : X.A.units + 65 < cLine := by have := c.room.un; omega
    have go : ∀ {σ : L2.St} {H : Hp} {Q : VK}, cE X.K X.mg n (w2p (.isin neg) wa wb) σ H Q → tOp (rInA X.K neg) (cV X.K X.mg n true wa) (cV X.K X.mg n true wb) σ H Q := by
      rintro σ H Q ⟨W, δ, q, st, sp, hw, k⟩
      refine ⟨W, δ, _, st, sp, hw, fun W1 H1 v1 d1 s1 r1 q1 => ⟨W1, δ, _, st.step s1, sp.trans s1, q1.2, fun W2 H2 v2 d2 s2 r2 q2 => ?_⟩⟩
      have rr1 := (r1.step s2).read
      have rr2 := r2.read
      cases d2 <;> try (cases d1 <;> exact False.elim q2)
      · rename_i ys
        have q2 : plain 60 d1 = true ∧ plain 60 (.tup ys) = true ∧ q (.v (.bl (neg ^^ ys.any fun z => eqD z d1))) := by cases d1 <;> exact q2
        obtain ⟨p1, p2, q2⟩ := q2
        have e2 := rr2.dp s2.ok p2
        have e3 := plain_shaped p2
        simp only [py] at e2 e3
        refine ⟨false, py d1, pyL ys, rr1.dp s2.ok p1, e2, plain_shaped p1, e3, ?_⟩
        rw [any_py]
        exact k W2 H2 _ (.v (.bl _)) (s1.trans s2) (Rep.bl _) q2
      · rename_i ys
        have q2 : plain 60 d1 = true ∧ plain 60 (.lst ys) = true ∧ q (.v (.bl (neg ^^ ys.any fun z => eqD z d1))) := by cases d1 <;> exact q2
        obtain ⟨p1, p2, q2⟩ := q2
        have e2 := rr2.dp s2.ok p2
        have e3 := plain_shaped p2
        simp only [py] at e2 e3
        refine ⟨true, py d1, pyL ys, rr1.dp s2.ok p1, e2, plain_shaped p1, e3, ?_⟩
        rw [any_py]
        exact k W2 H2 _ (.v (.bl _)) (s1.trans s2) (Rep.bl _) q2
    exact ⟨PE.imp (pe_cmpR (op_inA hu neg) ha hb (mark_no _ h1)) fun σ H Q z => go z, PT.imp (pt_cmpR (op_inA hu neg) ha hb (mark_no _ h1)) fun σ H Q z => go (cT.val z)⟩
  | cutL =>
    obtain ⟨p, p2, rfl⟩ := sh2_cutL hs
    refine both (PE.imp (pe_slice (SlR.or sl_tup sl_list) ha po_none (po_some hb)) fun σ H Q ⟨W, δ, q, st, sp, hw, k⟩ => ⟨W, δ, _, st, sp, hw, fun W1 H1 v1 d1 s1 r1 q1 => ⟨W1, δ, _, st.step s1, sp.trans s1, q1.2, fun W2 H2 v2 d2 s2 r2 q2 => ?_⟩⟩) (by intro _; rfl)
    cases d2 <;> try (cases d1 <;> exact False.elim q2)
    rename_i j
    cases r2.read.int
    refine ⟨j, rfl, ?_⟩
    cases d1 <;> try exact q2.elim
    · obtain ⟨h0, h1, q2⟩ := q2
      obtain ⟨m, rfl⟩ := Int.eq_ofNat_of_zero_le h0
      obtain ⟨a, xs, rfl, e1, l1⟩ := (r1.step s2).read.tup s2.ok
      have hl := l1.length
      refine .inl ⟨a, xs, rfl, e1, fun z => ?_, fun q hq => ?_⟩
      · have := z.2
        rw [HT.sIx_nat] at this
        omega
      · rw [cut_take]
        have s3 := Stp.laid s2.ok hq (.tup (xs.take m))
        exact k _ _ (.ref q) (.v (.tup _)) ((s1.trans s2).trans s3) (.tup (SqT.of (by show upd W2.F q _ q = _; rw [upd_same])) ((l1.take m).le s3.le)) q2
    · obtain ⟨h0, q2⟩ := q2
      obtain ⟨m, rfl⟩ := Int.eq_ofNat_of_zero_le h0
      obtain ⟨a, xs, rfl, e1, l1⟩ := (r1.step s2).read.lst s2.ok
      refine .inr ⟨a, xs, rfl, SqL.of e1, fun q hq => ?_⟩
      rw [cut_take]
      exact k W2 _ (.ref q) (.own (.lst _)) ((s1.trans s2).trans (Stp.laidOwn s2.ok hq _)) ⟨q, rfl, ⟨_, upd_same, l1.take m⟩, (s1.trans s2).fresh hq, s2.ok.sub.free hq, s2.ok.notTown hq⟩ q2
  | cutR =>
    obtain ⟨p, p2, rfl⟩ := sh2_cutR hs
    refine both (PE.imp (pe_slice (SlR.or sl_tup sl_list) ha (po_some hb) po_none) fun σ H Q ⟨W, δ, q, st, sp, hw, k⟩ => ⟨W, δ, _, st, sp, hw, fun W1 H1 v1 d1 s1 r1 q1 => ⟨W1, δ, _, st.step s1, sp.trans s1, q1.2, fun W2 H2 v2 d2 s2 r2 q2 => ?_⟩⟩) (by intro _; rfl)
    cases d2 <;> try (cases d1 <;> exact False.elim q2)
    rename_i j
    cases r2.read.int
    refine ⟨j, rfl, ?_⟩
    cases d1 <;> try exact q2.elim
    · obtain ⟨h0, h1, q2⟩ := q2
      obtain ⟨m, rfl⟩ := Int.eq_ofNat_of_zero_le (Int.le_of_lt h0)
      obtain ⟨a, xs, rfl, e1, l1⟩ := (r1.step s2).read.tup s2.ok
      have hl := l1.length
      refine .inl ⟨a, xs, rfl, e1, fun z => ?_, fun q hq => ?_⟩
      · have z1 := z.1
        rw [HT.sIx_nat] at z1
        have : xs.length ≠ 0 := fun z => h1 (List.eq_nil_of_length_eq_zero (by rw [← hl]; exact z))
        omega
      · rw [cut_drop]
        have s3 := Stp.laid s2.ok hq (.tup (xs.drop m))
        exact k _ _ (.ref q) (.v (.tup _)) ((s1.trans s2).trans s3) (.tup (SqT.of (by show upd W2.F q _ q = _; rw [upd_same])) ((l1.drop m).le s3.le)) q2
    · obtain ⟨h0, q2⟩ := q2
      obtain ⟨m, rfl⟩ := Int.eq_ofNat_of_zero_le h0
      obtain ⟨a, xs, rfl, e1, l1⟩ := (r1.step s2).read.lst s2.ok
      refine .inr ⟨a, xs, rfl, SqL.of e1, fun q hq => ?_⟩
      rw [cut_drop]
      exact k W2 _ (.ref q) (.own (.lst _)) ((s1.trans s2).trans (Stp.laidOwn s2.ok hq _)) ⟨q, rfl, ⟨_, upd_same, l1.drop m⟩, (s1.trans s2).fresh hq, s2.ok.sub.free hq, s2.ok.notTown hq⟩ q2
  | dix =>
    obtain ⟨p, rfl, h1⟩ := shIx_eq (show shIx e = some (x, y) from hs)
    have hu : X.A.units + 1 < cLine := by have := c.room.un; omega
    refine both (PE.imp (pe_ix (ix_dictT hu) ha hb (plainIx h1)) fun σ H Q ⟨W, δ, q, st, sp, hw, k⟩ => ⟨W, δ, _, st, sp, hw, fun W1 H1 v1 d1 s1 r1 q1 => ⟨W1, δ, _, st.step s1, sp.trans s1, q1.2, fun W2 H2 v2 d2 s2 r2 q2 => ?_⟩⟩) (by intro _; rfl)
    cases d1 <;> try exact False.elim q2
    obtain ⟨kk, d, e1, e2, q2⟩ := q2
    obtain ⟨a, xs, rfl, ea, la⟩ := (r1.step s2).read.dic s2.ok
    obtain ⟨b, rfl, eb⟩ := r2.read.key s2.ok e1
    obtain ⟨v, ev, rv⟩ := (la.look (k := kk)).2 d e2
    exact ⟨a, b, xs, _, v, rfl, rfl, ea, eb, ev, k W2 H2 v (.v d) (s1.trans s2) rv q2⟩
  | dii =>
    obtain ⟨p, rfl, h1⟩ := shIx_eq (show shIx e = some (x, y) from hs)
    have hu : X.A.units + 1 < cLine := by have := c.room.un; omega
    refine both (PE.imp (pe_dget hu ha hb (plainIx h1)) fun σ H Q ⟨W, δ, q, st, sp, hw, k⟩ => ⟨W, δ, _, st, sp, hw, fun W1 H1 v1 d1 s1 r1 q1 => ⟨W1, δ, _, st.step s1, sp.trans s1, q1.2, fun W2 H2 v2 d2 s2 r2 q2 => ?_⟩⟩) (by intro _; rfl)
    cases d1 <;> try exact False.elim q2
    cases d2 <;> try exact False.elim q2
    obtain ⟨d, e1, q2⟩ := q2
    obtain ⟨a, xs, rfl, ea, la⟩ := (r1.step s2).read.idc s2.ok
    cases r2.read.int
    obtain ⟨v, ev, rv⟩ := la.look e1
    exact ⟨a, v, rfl, .inl ⟨xs, Sum.inl _, .inl ea, rfl, ev.symm⟩, k W2 H2 v (.v d) (s1.trans s2) rv q2⟩
  | dget =>
    obtain ⟨p1, q1, rfl, h1, h2, h3⟩ := shM_eq (show shM "get" e = some (x, y) from hs)
    obtain ⟨nm, hn⟩ := Option.isSome_iff_exists.mp h3
    obtain ⟨p3, rfl⟩ := dName_eq hn
    have hu : X.A.units + 1 < cLine := by have := c.room.un; omega
    have hp := pe_bmD PySem.F.plainAttrs_dict PySem.F.slot_dict_get PySem.F.type_dict_get (mt_getT hu) ha (pa_cons hb pa_nil (star_cons h2)) rfl (by rw [star_cons h2]; rfl) h1 (star_cons h2) rfl
    refine both (PE.imp hp fun σ H Q ⟨W, δ, q, st, sp, hw, k⟩ => ⟨W, δ, _, st, sp, hw, fun W1 H1 v1 d1 s1 r1 ⟨z, q1⟩ => ?_⟩) (by intro _; rfl)
    cases d1 <;> try exact z.elim
    refine ⟨r1.read.tyD s1.ok, W1, δ, _, st.step s1, sp.trans s1, q1, fun W2 H2 v2 d2 s2 r2 q2 => ?_⟩
    obtain ⟨kk, e1, q2⟩ := q2
    obtain ⟨a, xs, rfl, ea, la⟩ := (r1.step s2).read.dic s2.ok
    obtain ⟨b, rfl, eb⟩ := r2.read.key s2.ok e1
    obtain ⟨l1, l2⟩ := la.look (k := kk)
    refine ⟨a, b, xs, _, rfl, rfl, ea, eb, ?_⟩
    cases hl : lookD _ kk with
    | none =>
      rw [hl] at q2
      rw [l1 hl]
      exact k W2 H2 _ (.v .non) (s1.trans s2) Rep.non q2
    | some d =>
      rw [hl] at q2
      obtain ⟨v, ev, rv⟩ := l2 d hl
      rw [ev]
      exact k W2 H2 _ (.v d) (s1.trans s2) rv q2
  | din neg =>
    obtain ⟨p, rfl, h1⟩ := sh2_in (neg := neg) (show sh2 X.env.scope (.isin neg) e = some (x, y) from hs)
    have hu : X.A.units + 1 < cLine := by have := c.room.un; omega
    have go : ∀ {σ : L2.St} {H : Hp} {Q : VK}, cE X.K X.mg n (w2p (.din neg) wa wb) σ H Q → tOp (rInDT X.K neg) (cV X.K X.mg n true wa) (cV X.K X.mg n true wb) σ H Q := by
      rintro σ H Q ⟨W, δ, q, st, sp, hw, k⟩
      refine ⟨W, δ, _, st, sp, hw, fun W1 H1 v1 d1 s1 r1 q1 => ⟨W1, δ, _, st.step s1, sp.trans s1, q1.2, fun W2 H2 v2 d2 s2 r2 q2 => ?_⟩⟩
      cases d2 <;> try (cases d1 <;> exact False.elim q2)
      rename_i kvs
      have q2 : ∃ kk, keyD d1 = some kk ∧ q (.v (.bl (neg ^^ (lookD kvs kk).isSome))) := by cases d1 <;> exact q2
      obtain ⟨kk, e1, q2⟩ := q2
      obtain ⟨a, xs, rfl, ea, la⟩ := r2.read.dic s2.ok
      obtain ⟨b, rfl, eb⟩ := (r1.step s2).read.key s2.ok e1
      obtain ⟨l1, l2⟩ := la.look (k := kk)
      have es : (valV xs (keyOf kk)).isSome = (lookD kvs kk).isSome := by
        cases hl : lookD kvs kk with
        | none => rw [l1 hl]; rfl
        | some d =>
          obtain ⟨v, ev, _⟩ := l2 d hl
          rw [ev]; rfl
      refine ⟨a, b, xs, _, rfl, rfl, ea, eb, ?_⟩
      rw [es]
      exact k W2 H2 _ (.v (.bl _)) (s1.trans s2) (Rep.bl _) q2
    exact ⟨PE.imp (pe_cmpR (op_inDT hu neg) ha hb (mark_no _ h1)) fun σ H Q z => go z, PT.imp (pt_cmpR (op_inDT hu neg) ha hb (mark_no _ h1)) fun σ H Q z => go (cT.val z)⟩
end
end TT

set_option Elab.async false
set_option linter.all false
set_option maxRecDepth 100000
set_option autoImplicit false
/-! o.m(.., k = v) -/
namespace TT
open PySem PySem.Spec L2 PyProof.Rows
theorem meth_evalK {env : Env} {m : Str} {apos pos : Pos} {o : Expr} {es : List Expr} {kws : List Keyword} (hb : attributeBase o m env (eval o env) = eval o env) (hf : methodCallForm (es.length + kws.length) (backTo pos (starEach es env)) (backToKw pos (keywordEach kws env)) = true) (hl : (apos.endLine == pos.line) = true) :
    eval (.Call (.Attribute o m apos) es kws pos) env = (do
      let ov ← eval o env
      standAt apos.atName
      let (f, first) ← holding [ov] (getMethod ov m (do return (← importBound o env).getD true))
      callWith pos f first (backTo pos (starEach es env)) (backToKw pos (keywordEach kws env))) := by
  rw [arm_eval_Call, hb]
  unfold methodCall calleeOf methodCallPos
  simp only [hf, hl, if_true, Bool.not_true, Bool.false_or]
  rfl
section
variable {X : Cx} {E : XK} {n : N0} {Ed : Str → Prop} {lv : Nat}
theorem de_methK {pl : Sem Bool} {cn m : Str} {br ms mk : List Bool} {S : DS} {dv : List D} {ks : List Str} {apos pos : Pos} {o e : Expr} {es : List Expr} {kws : List Keyword} {wo : Sl → (D → Prop) → Prop} {wa wk : Sl → (List D → Prop) → Prop} (c : Ctx X E n Ed lv) (G : MeK X.prog X.w X.K X.mg X.base lv cn m ms.length ks br S dv)
    (hbr : br = ms ++ (mk ++ List.replicate dv.length false)) (hmk : mk.length = ks.length) (he : PE X o (cV X.K X.mg n true wo)) (ha : PA X (e :: es) (cA X.K X.mg n ms wa)) (hkw : PK X kws (cA X.K X.mg n mk wk)) (hst : starEach (e :: es) X.env = (false, eval e X.env) :: starEach es X.env)
    (hall : (backToKw pos (keywordEach kws X.env)).all (·.1.isSome) = true) (hks : (backToKw pos (keywordEach kws X.env)).filterMap (·.1) = ks) (hpl : ((backTo pos (starEach (e :: es) X.env)).any (·.1) || (backToKw pos (keywordEach kws X.env)).any (·.1.isNone)) = false)
    (ht : eval (.Call (.Attribute o m apos) (e :: es) kws pos) X.env = (do
      let ov ← eval o X.env
      standAt apos.atName
      let (f, first) ← holding [ov] (getMethod ov m pl)
      callWith pos f first (backTo pos (starEach (e :: es) X.env)) (backToKw pos (keywordEach kws X.env)))) :
    PE X (.Call (.Attribute o m apos) (e :: es) kws pos) (cE X.K X.mg n (fun δ q => wo δ fun d => (∃ fs, d = .obj cn fs ∧ fs.lookup m = none) ∧ wa δ fun ds => wk δ fun zs => S (d :: (ds ++ (zs ++ dv))) q Ed)) := by
  obtain ⟨C, a, fd, ps, g, dvs, hC, cl, me, F, hb, hr⟩ := G
  refine ⟨fun pins s σ H Q I ⟨W, δ, q, st, sp, hw, k⟩ => ?_⟩
  refine PySem.W.methodCall_KW (pl := pl) (thn (he.run pins s σ H (fun v H1 => ∃ W1 d, v = v ∧ Stp W H W1 H1 ∧ RepM X.K X.mg true W1 H1 v d ∧ _) I ⟨W, δ, _, st, sp, hw, fun W1 H1 v d s1 r1 q1 => ⟨W1, d, rfl, s1, r1, q1⟩⟩) fun u s1 ⟨x, H1, I1, rx, W1, d, _, t1, r1, ⟨fs, ed, hl⟩, q1⟩ => ?_) ht
  subst ed
  have rr := r1.read.objR
  have r0 := rr
  cases r0 with
  | obj e0 hm rf =>
    have eC := hm.symm.trans hC
    cases eC
    cases rx
    refine getmeth_ok I1 (t1.ok.sub _ _ e0) cl me (rf.none hl) ?_
    refine PySem.W.callWith_KW (first := [.ref _]) (h₀ := X.base) I.ok.mod.kin me.kp hall (thn (ha.run pos pins s1 σ H1 (fun vs H2 => ∃ W2 ds, Stp W1 H1 W2 H2 ∧ ArgsR X.K X.mg W2 H2 ms vs ds ∧ _) I1 ⟨W1, δ, _, st.step t1, sp.trans t1, q1, fun W2 H2 vs ds s2 r2 q2 => ⟨W2, ds, s2, r2, q2⟩⟩) fun us s2 ⟨vs, H2, I2, rv, W2, ds, t2, r2, q2⟩ => ?_) hpl hst
    refine thn (hkw.run pos pins s2 σ H2 (fun zs H3 => ∃ W3 es, Stp W2 H2 W3 H3 ∧ ArgsR X.K X.mg W3 H3 mk zs es ∧ _) I2 ⟨W2, δ, _, (st.step t1).step t2, (sp.trans t1).trans t2, q2, fun W3 H3 zs es s3 r3 q3 => ⟨W3, es, s3, r3, q3⟩⟩) fun ws s3 ⟨zs, H3, I3, rz, W3, ds2, t3, r3, q3⟩ => ⟨I3.kIn, ?_⟩
    rw [hks]
    have hl2 := (hr W3).length
    have t13 := (t1.trans t2).trans t3
    refine run_fnN (us := .ref _ :: us) (vs := .ref _ :: vs) F c.room hb c.pass I3 (.cons rfl rv) rz (by rw [List.length_cons, r2.len.1]) (r3.len.1.trans hmk) ?_
    refine ⟨?_, W3, .obj cn fs :: (ds ++ (ds2 ++ dv)), q, Ed, t3.ok, ?_, q3, fun W' H' v dw s' r hq => k W' H' v dw (t13.trans s') (VRep.pre (W := W) (fun a h => t13.fresh h) r.v) hq, fun c' C' W' H' he' hc s' => c.exc c' C' W' H' he' hc ((sp.trans t13).trans s')⟩
    · rw [List.length_append, List.length_cons, List.length_append, List.length_cons, r2.len.1, r3.len.1, hbr, List.length_append, List.length_append, List.length_replicate, hl2]
      omega
    · rw [hbr]
      exact .cons (by simpa [RepM] using rr.le (t2.le.trans t3.le)) ((r2.step t3).app (r3.app (hr W3).args))
end
end TT

set_option Elab.async false
set_option linter.all false
set_option maxRecDepth 100000
set_option autoImplicit false
set_option maxHeartbeats 1000000
namespace TT
open PySem PySem.Spec L2

theorem chkL_len {N : List Str} {sc : Scope} : ∀ {xs : List Ex} {es : List Expr}, chkL N xs sc es = true → es.length = xs.length
  | [], [], _ => rfl
  | [], _ :: _, h => by simp [chkL] at h
  | _ :: _, [], h => by simp [chkL] at h
  | x :: xs, e :: es, h => by
    simp only [chkL, Bool.and_eq_true] at h
    exact congrArg (· + 1) (chkL_len h.2.2)
theorem chkL_back {N : List Str} {sc : Scope} {pos : Pos} {env : Env} : ∀ {xs : List Ex} {es : List Expr}, chkL N xs sc es = true → (backTo pos (starEach es env)).any (·.1) = false
  | [], [], _ => rfl
  | [], _ :: _, h => by simp [chkL] at h
  | _ :: _, [], h => by simp [chkL] at h
  | x :: xs, e :: es, h => by
    simp only [chkL, Bool.and_eq_true, Bool.not_eq_true'] at h
    rw [star_cons h.1]
    show (false || (backTo pos (starEach es env)).any (·.1)) = false
    rw [chkL_back h.2.2]
    rfl
theorem take_len {br : List Bool} {k : Nat} (h : k ≤ br.length) : (br.take k).length = k := by
  rw [List.length_take]; omega


theorem kw_names {pos : Pos} {env : Env} : ∀ {kws : List Keyword} {ks : List Str}, kws.map (·.arg) = ks.map some → (backToKw pos (keywordEach kws env)).all (·.1.isSome) = true ∧ (backToKw pos (keywordEach kws env)).filterMap (·.1) = ks ∧ (backToKw pos (keywordEach kws env)).any (·.1.isNone) = false
  | [], [], _ => ⟨rfl, rfl, rfl⟩
  | [], _ :: _, h => by simp at h
  | _ :: _, [], h => by simp at h
  | ⟨a, v, p⟩ :: kws, k :: ks, h => by
    simp only [List.map_cons, List.cons.injEq] at h
    obtain ⟨h0, h1⟩ := h
    subst h0
    obtain ⟨k1, k2, k3⟩ := kw_names (pos := pos) (env := env) h1
    refine ⟨?_, ?_, ?_⟩
    · show (true && (backToKw pos (keywordEach kws env)).all (·.1.isSome)) = true
      rw [k1]; rfl
    · show k :: (backToKw pos (keywordEach kws env)).filterMap (·.1) = _
      rw [k2]
    · show (false || (backToKw pos (keywordEach kws env)).any (·.1.isNone)) = false
      rw [k3]; rfl
theorem de_key {X : Cx} {n : N0} {es : List Expr} {pos : Pos} {k : Nat} {x1} {wa : Sl → (List D → Prop) → Prop} (h : PA X es (cA X.K X.mg n (List.replicate k false) wa)) (hk : k ≤ 1000) : PE X (.Tuple es x1 pos) (cE X.K X.mg n (fun δ q => wa δ fun ds => ∃ k : List Int, ds = k.map .int ∧ q (.v (.key k)))) := by
  refine PE.imp (pe_tup h) fun σ H Q ⟨W, δ, q, st, sp, hw, kk⟩ => ⟨W, δ, _, st, sp, hw, fun W1 H1 vs ds s r ⟨j, ej, hq⟩ => ⟨?_, fun p hp => ?_⟩⟩
  · have := r.len.1
    rw [List.length_replicate] at this
    exact Nat.le_of_lt (small1000 (by omega))
  · subst ej
    have s2 := Stp.laid s.ok hp (.tup vs)
    have e := RepL.ints r.strict
    subst e
    refine kk _ _ (.ref p) (.v (.key j)) (s.trans s2) ?_ hq
    exact .key (by show upd W1.F p _ p = _; rw [upd_same])
theorem meth_formK {N : List Str} {sc : Scope} {pos : Pos} {env : Env} {es : List Ex} {fs : List Expr} {kws : List Keyword} {ks : List Str} (h : chkL N es sc fs = true) (hk : kws.map (·.arg) = ks.map some) (hl : es.length < 26) (hk2 : kws.length < 3) : methodCallForm (fs.length + kws.length) (backTo pos (starEach fs env)) (backToKw pos (keywordEach kws env)) = true := by
  unfold methodCallForm
  have hb := chkL_back (pos := pos) (env := env) h
  have : (backTo pos (starEach fs env)).all (fun x => !x.1) = true := by
    rw [List.all_eq_true]
    intro x hx
    rw [List.any_eq_false] at hb
    simpa using hb x hx
  rw [this, chkL_len h, (kw_names (pos := pos) (env := env) hk).1]
  simp
  split <;> omega
theorem de_ixk {X : Cx} {n : N0} {i k : Nat} {y : Expr} (h : chkIx X.N i k X.env.scope y = true) : PE X y (cE X.K X.mg n (w2 (co true (wVar i)) (co true (wK (.int k))) opIx)) := by
  unfold chkIx at h
  split at h
  · rename_i x p1 j k2 p2 p3
    simp only [Bool.and_eq_true, decide_eq_true_eq] at h
    obtain ⟨⟨h1, h2, h3⟩, rfl⟩ := h
    have ha := dv_of true (de_var (X := X) (n := n) (pos := p1) h1 (vis_ok h2) (okN_1 h3) (okN_2 h3))
    have hb : PE X (.Constant (.int (k : Int)) k2 p2) (cV X.K X.mg n true (co true (wK (.int k)))) := dv_of true (de_const pe_int fun _ => .int _)
    obtain ⟨k1, k2⟩ := ix_rule (X := X) (n := n)
    exact PE.imp (pe_ix k1 ha hb (plainIx rfl)) fun σ H Q z => c2 k2 z
  · cases h
mutual
theorem soundE : ∀ (x : Ex) {X : Cx} {E : XK} {n : N0} {Ed : Str → Prop} {lv : Nat} (c : Ctx X E n Ed lv) {e : Expr}, chkE X.N x X.env.scope e = true → okE (topOf X lv) x → PE X e (cE X.K X.mg n (wE Ed x)) ∧ PT X e (cT X.K X.mg n (wT (wE Ed x)))
  | .var i, X, E, n, Ed, lv, c, e, h, ho => by
    simp only [chkE] at h
    split at h
    · rename_i x hx
      rw [Bool.and_eq_true, Bool.and_eq_true, decide_eq_true_eq] at h
      obtain ⟨p, rfl⟩ := dName_eq hx
      simp only [wE]
      exact both (de_var h.1 (vis_ok h.2.1) (okN_1 h.2.2) (okN_2 h.2.2)) (by intro _; rfl)
    · cases h
  | .int i, X, E, n, Ed, lv, c, e, h, ho => by
    simp only [chkE] at h
    split at h
    · rename_i x hx
      rw [decide_eq_true_eq] at h
      obtain ⟨k, p, rfl⟩ := dConst_eq hx
      subst h
      simp only [wE]
      exact both (de_const pe_int fun _ => .int _) (by intro _; rfl)
    · cases h
  | .str i, X, E, n, Ed, lv, c, e, h, ho => by
    simp only [chkE] at h
    split at h
    · rename_i x hx
      rw [decide_eq_true_eq] at h
      obtain ⟨k, p, rfl⟩ := dConst_eq hx
      subst h
      simp only [wE]
      exact both (de_const pe_str fun _ => .str _) (by intro _; rfl)
    · cases h
  | .bl i, X, E, n, Ed, lv, c, e, h, ho => by
    simp only [chkE] at h
    split at h
    · rename_i x hx
      rw [decide_eq_true_eq] at h
      obtain ⟨k, p, rfl⟩ := dConst_eq hx
      subst h
      simp only [wE]
      exact both (de_const pe_bl fun _ => .bl _) (by intro _; rfl)
    · cases h
  | .non, X, E, n, Ed, lv, c, e, h, ho => by
    simp only [chkE] at h
    split at h
    · rename_i x hx
      obtain ⟨k, p, rfl⟩ := dConst_eq hx
      simp only [wE]
      exact both (de_const pe_non fun _ => .non) (by intro _; rfl)
    · cases h
  | .selfL i cn f, X, E, n, Ed, lv, c, e, h, ho => by
    simp only [chkE] at h
    split at h
    · rename_i a ha
      split at h
      · rename_i x hx
        rw [Bool.and_eq_true, Bool.and_eq_true, decide_eq_true_eq] at h
        obtain ⟨p2, rfl, _⟩ := sh1_att (c := cn) (show sh1 X.env.scope (.att cn f) e = some a from ha)
        obtain ⟨p, rfl⟩ := dName_eq hx
        simp only [okE] at ho
        simp only [wE]
        exact both (de_selfL ho h.1 (vis_ok h.2.1) (okN_1 h.2.2) (okN_2 h.2.2)) (by intro _; rfl)
      · cases h
    · cases h
  | .glb y d, X, E, n, Ed, lv, c, e, h, ho => by
    simp only [chkE] at h
    split at h
    · rename_i x hx
      rw [Bool.and_eq_true, Bool.and_eq_true, decide_eq_true_eq] at h
      obtain ⟨p, rfl⟩ := dName_eq hx
      obtain ⟨rfl, h2, h3⟩ := h
      simp only [okE] at ho
      obtain ⟨v, u, hm, r, rr⟩ := ho
      simp only [wE]
      exact both (de_const (pe_glob (isGl_ok h2) hm r (okN_1 h3)) rr) (by intro _; rfl)
    · cases h
  | .tup es, X, E, n, Ed, lv, c, e, h, ho => by
    simp only [chkE] at h
    split at h
    · rename_i fs hx
      rw [Bool.and_eq_true, decide_eq_true_eq] at h
      obtain ⟨k, p, rfl⟩ := dTup_eq hx
      simp only [okE] at ho
      simp only [wE]
      exact both (de_tup (soundA es (List.replicate es.length false) c List.length_replicate h.2 ho) h.1) (by intro _; rfl)
    · cases h
  | .lst es, X, E, n, Ed, lv, c, e, h, ho => by
    simp only [chkE] at h
    split at h
    · rename_i fs hx
      rw [Bool.and_eq_true, decide_eq_true_eq] at h
      obtain ⟨p, rfl⟩ := dLst_eq hx
      simp only [okE] at ho
      simp only [wE]
      exact both (de_lst (soundA es (List.replicate es.length false) c List.length_replicate h.2 ho) h.1) (by intro _; rfl)
    · cases h
  | .bin o a b, X, E, n, Ed, lv, c, e, h, ho => by
    simp only [chkE] at h
    split at h
    · rename_i x op y hx
      rw [Bool.and_eq_true, Bool.and_eq_true, decide_eq_true_eq] at h
      obtain ⟨p, rfl⟩ := dBin_eq hx
      obtain ⟨rfl, h2, h3⟩ := h
      simp only [okE] at ho
      obtain ⟨r, k1, k2⟩ := bop_rule (X := X) (n := n) o
      simp only [wE]
      exact both (PE.imp (pe_op k1 (dv_of true (soundE a c h2 ho.1).1) (dv_of true (soundE b c h3 ho.2).1)) fun σ H Q z => c2 k2 z) (by intro _; rfl)
    · cases h
  | .neg a, X, E, n, Ed, lv, c, e, h, ho => by
    simp only [chkE] at h
    split at h
    · rename_i x hx
      obtain ⟨p, rfl⟩ := dUn_eq hx
      simp only [okE] at ho
      simp only [wE]
      refine both (de_1 (pe_un un_neg) (dv_of true (soundE a c h ho).1) fun W H v1 d1 q Q w r hq k => ?_) (by intro _; rfl)
      cases d1 <;> try exact hq.elim
      cases r.read.int
      exact ⟨_, rfl, k W H _ (.v (.int _)) (.refl w) (Rep.int _) hq⟩
    · cases h
  | .cmp o a b, X, E, n, Ed, lv, c, e, h, ho => by
    simp only [chkE] at h
    split at h
    · rename_i x op y hx
      rw [Bool.and_eq_true, Bool.and_eq_true, Bool.and_eq_true, decide_eq_true_eq, Bool.not_eq_true'] at h
      obtain ⟨p, rfl⟩ := dCmp_eq hx
      obtain ⟨rfl, h1, h2, h3⟩ := h
      simp only [okE] at ho
      obtain ⟨r, k1, k2⟩ := cop_rule (X := X) (n := n) c.units o
      have ha := dv_of true (soundE a c h2 ho.1).1
      have hb := dv_of true (soundE b c h3 ho.2).1
      simp only [wE]
      exact ⟨PE.imp (pe_cmpR k1 ha hb (mark_no _ h1)) fun σ H Q z => c2 k2 z, PT.imp (pt_cmpR k1 ha hb (mark_no _ h1)) fun σ H Q z => c2 k2 (cT.val z)⟩
    · cases h
  | .chain o o' a b d, X, E, n, Ed, lv, c, e, h, ho => by
    simp only [chkE] at h
    split at h
    · rename_i x op op' y z hx
      simp only [Bool.and_eq_true, decide_eq_true_eq, Bool.not_eq_true'] at h
      obtain ⟨p, rfl⟩ := dCmp_eq hx
      obtain ⟨⟨rfl, rfl⟩, h1, h2, h3, h4⟩ := h
      simp only [okE] at ho
      obtain ⟨r, k1, k2⟩ := cop_rule (X := X) (n := n) c.units o
      obtain ⟨r', k1', k2'⟩ := cop_rule (X := X) (n := n) c.units o'
      have ha := dv_of true (soundE a c h2 ho.1).1
      have hb := dv_of true (soundE b c h3 ho.2.1).1
      have hd := dv_of true (soundE d c h4 ho.2.2).1
      have hm : lastMarks [o.op, o'.op] [y, z] = false := mark_no o'.op h1
      simp only [wE]
      exact ⟨PE.imp (pe_chain k1 k1' ha hb hd hm) fun σ H Q t => chain_imp k2 k2' t, PT.imp (pt_chain k1 k1' ha hb hd hm) fun σ H Q t => chain_imp k2 k2' (cT.val t)⟩
    · cases h
  | .isN a, X, E, n, Ed, lv, c, e, h, ho => by
    simp only [chkE] at h
    split at h
    · rename_i x y hx
      rw [Bool.and_eq_true, decide_eq_true_eq] at h
      obtain ⟨p, rfl⟩ := dCmp_eq hx
      obtain ⟨k', p', rfl⟩ := const_none h.1
      simp only [okE] at ho
      have ha := dv_of true (soundE a c h.2 ho).1
      simp only [wE]
      exact ⟨PE.imp (pe_cmpR op_isN ha pe_non (mark_no _ rfl)) fun σ H Q z => by
          obtain ⟨W, δ, q, st, sp, hw, k⟩ := isN_imp (b := true) z
          exact ⟨W, δ, q, st, sp, hw, fun W' H' v d s r hq => ⟨rfl, k W' H' v d s r hq⟩⟩,
        PT.imp (pt_cmpR op_isN ha pe_non (mark_no _ rfl)) fun σ H Q z => by
          obtain ⟨W, δ, q, st, sp, hw, k⟩ := isN_imp (b := true) (cT.val z)
          exact ⟨W, δ, q, st, sp, hw, fun W' H' v d s r hq => ⟨rfl, k W' H' v d s r hq⟩⟩⟩
    · cases h
  | .notN a, X, E, n, Ed, lv, c, e, h, ho => by
    simp only [chkE] at h
    split at h
    · rename_i x y hx
      rw [Bool.and_eq_true, decide_eq_true_eq] at h
      obtain ⟨p, rfl⟩ := dCmp_eq hx
      obtain ⟨k', p', rfl⟩ := const_none h.1
      simp only [okE] at ho
      have ha := dv_of true (soundE a c h.2 ho).1
      simp only [wE]
      exact ⟨PE.imp (pe_cmpR op_notN ha pe_non (mark_no _ rfl)) fun σ H Q z => by
          obtain ⟨W, δ, q, st, sp, hw, k⟩ := isN_imp (b := false) z
          exact ⟨W, δ, q, st, sp, hw, fun W' H' v d s r hq => ⟨rfl, k W' H' v d s r hq⟩⟩,
        PT.imp (pt_cmpR op_notN ha pe_non (mark_no _ rfl)) fun σ H Q z => by
          obtain ⟨W, δ, q, st, sp, hw, k⟩ := isN_imp (b := false) (cT.val z)
          exact ⟨W, δ, q, st, sp, hw, fun W' H' v d s r hq => ⟨rfl, k W' H' v d s r hq⟩⟩⟩
    · cases h
  | .ands es, X, E, n, Ed, lv, c, e, h, ho => by
    simp only [chkE] at h
    split at h
    · rename_i fs hx
      rw [Bool.and_eq_true, decide_eq_true_eq] at h
      obtain ⟨p, rfl⟩ := dBool_eq hx
      simp only [okE] at ho
      obtain ⟨k1, k2⟩ := soundAnds es h.1 c h.2 ho p
      simp only [wE]
      exact ⟨k1, PT.imp k2.pt fun σ H Q z => cE.vT z⟩
    · cases h
  | .ors es, X, E, n, Ed, lv, c, e, h, ho => by
    simp only [chkE] at h
    split at h
    · rename_i fs hx
      rw [Bool.and_eq_true, decide_eq_true_eq] at h
      obtain ⟨p, rfl⟩ := dBool_eq hx
      simp only [okE] at ho
      obtain ⟨k1, k2⟩ := soundOrs es h.1 c h.2 ho p
      simp only [wE]
      exact ⟨k1, PT.imp k2.pt fun σ H Q z => cE.vT z⟩
    · cases h
  | .not a, X, E, n, Ed, lv, c, e, h, ho => by
    simp only [chkE] at h
    split at h
    · rename_i x hx
      obtain ⟨p, rfl⟩ := dUn_eq hx
      simp only [okE] at ho
      obtain ⟨k1, k2⟩ := soundE a c h ho
      simp only [wE]
      exact ⟨PE.imp (pe_not k1) fun σ H Q z => cE.notV z, PT.imp (pt_not k2) fun σ H Q z => cT.not (cE.vT z)⟩
    · cases h
  | .ite d a b, X, E, n, Ed, lv, c, e, h, ho => by
    simp only [chkE] at h
    split at h
    · rename_i x y z hx
      rw [Bool.and_eq_true, Bool.and_eq_true] at h
      obtain ⟨p, rfl⟩ := dIte_eq hx
      simp only [okE] at ho
      simp only [wE]
      obtain ⟨_, d2⟩ := soundE d c h.1 ho.1
      obtain ⟨a1, a2⟩ := soundE a c h.2.1 ho.2.1
      obtain ⟨b1, b2⟩ := soundE b c h.2.2 ho.2.2
      exact ⟨de_if d2 a1 b1, dt_if d2 a2 b2⟩
    · cases h
  | .ix a b, X, E, n, Ed, lv, c, e, h, ho => by
    simp only [chkE] at h
    split at h
    · rename_i x y hx
      rw [Bool.and_eq_true, Bool.and_eq_true, Bool.not_eq_true'] at h
      obtain ⟨p, rfl⟩ := dSub_eq hx
      simp only [okE] at ho
      obtain ⟨k1, k2⟩ := ix_rule (X := X) (n := n)
      simp only [wE]
      exact both (PE.imp (pe_ix k1 (dv_of true (soundE a c h.2.1 ho.1).1) (dv_of true (soundE b c h.2.2 ho.2).1) (plainIx h.1)) fun σ H Q z => c2 k2 z) (by intro _; rfl)
    · cases h
  | .call f br S dv es, X, E, n, Ed, lv, c, e, h, ho => by
    simp only [chkE] at h
    split at h
    · rename_i g fs hx
      simp only [Bool.and_eq_true, decide_eq_true_eq] at h
      obtain ⟨p, rfl⟩ := dCall_eq hx
      obtain ⟨h1, h2, h3, ⟨h4, h5⟩, h6⟩ := h
      obtain ⟨p', rfl⟩ := dName_eq h1
      simp only [okE] at ho
      have ha := soundA es (br.take es.length) c (take_len h4) h6 ho.2
      simp only [wE]
      cases es with
      | nil =>
        cases fs with
        | nil => exact both (de_call0 (f := f) c ho.1 (by simpa using h5) (isGl_ok h2) (okN_1 h3)) (by intro _; rfl)
        | cons _ _ => simp [chkL] at h6
      | cons a as =>
        cases fs with
        | nil => simp [chkL] at h6
        | cons y ys =>
          have hst : isStar y = false := by
            simp only [chkL, Bool.and_eq_true, Bool.not_eq_true'] at h6
            exact h6.1
          have hb : (backTo p (starEach ys X.env)).any (·.1) = false := by
            simp only [chkL, Bool.and_eq_true] at h6
            exact chkL_back h6.2.2
          exact both (de_call (f := f) c ho.1 h5 (isGl_ok h2) ha (okN_1 h3) (star_cons hst) hb) (by intro _; rfl)
    · cases h
  | .blt b es, X, E, n, Ed, lv, c, e, h, ho => by
    simp only [chkE] at h
    split at h
    · rename_i g fs hx
      simp only [Bool.and_eq_true, decide_eq_true_eq] at h
      obtain ⟨p, rfl⟩ := dCall_eq hx
      obtain ⟨h1, h2, h3, h6⟩ := h
      obtain ⟨p', rfl⟩ := dName_eq h1
      simp only [okE] at ho
      have ha := soundA es (List.replicate b.ar true) c (by rw [List.length_replicate, h3]) h6 ho.2
      simp only [wE]
      cases es with
      | nil => cases b <;> simp [Blt.ar] at h3
      | cons a as =>
        cases fs with
        | nil => simp [chkL] at h6
        | cons y ys =>
          have hst : isStar y = false := by
            simp only [chkL, Bool.and_eq_true, Bool.not_eq_true'] at h6
            exact h6.1
          have hb : (backTo p (starEach ys X.env)).any (·.1) = false := by
            simp only [chkL, Bool.and_eq_true] at h6
            exact chkL_back h6.2.2
          exact both (de_blt c.calm (isGl_ok h2) ho.1 hst hb ha) (by intro _; rfl)
    · cases h
  | .isi a t, X, E, n, Ed, lv, c, e, h, ho => by
    simp only [chkE] at h
    split at h
    · rename_i g x y hx
      simp only [Bool.and_eq_true, decide_eq_true_eq, Bool.not_eq_true'] at h
      obtain ⟨p, rfl⟩ := dCall_eq hx
      obtain ⟨⟨h1, h2, h3⟩, h4, h5, h6⟩ := h
      obtain ⟨p', rfl⟩ := dName_eq h1
      obtain ⟨p2, rfl⟩ := dName_eq h3
      simp only [okE] at ho
      simp only [wE]
      exact both (de_isi (isGl_ok h2) ho.1 (isGl_ok h4) ho.2.1 h5 (dv_of true (soundE a c h6 ho.2.2).1)) (by intro _; rfl)
    · cases h
  | .isis a ts, X, E, n, Ed, lv, c, e, h, ho => by
    simp only [chkE] at h
    split at h
    · rename_i g x y hx
      simp only [Bool.and_eq_true, decide_eq_true_eq, Bool.not_eq_true'] at h
      obtain ⟨p, rfl⟩ := dCall_eq hx
      obtain ⟨⟨h1, h2, h3, h4⟩, h5, h6⟩ := h
      obtain ⟨p', rfl⟩ := dName_eq h1
      cases hy : dTup y with
      | none =>
        rw [hy] at h4
        cases ts with
        | nil => exact absurd rfl h3.1
        | cons _ _ => simp [chkTy] at h4
      | some fs =>
        obtain ⟨k', p2, rfl⟩ := dTup_eq hy
        rw [hy] at h4
        simp only [okE] at ho
        simp only [wE]
        exact both (de_isis h3 h4 (isGl_ok h2) ho.1 ho.2.1 h5 (dv_of true (soundE a c h6 ho.2.2).1)) (by intro _; rfl)
    · cases h
  | .comp own t it d el, X, E, n, Ed, lv, c, e, h, ho => by
    simp only [chkE] at h
    split at h
    · rename_i f tg iter ifs scope hx
      simp only [Bool.and_eq_true, decide_eq_true_eq, Bool.not_eq_true'] at h
      obtain ⟨p, rfl⟩ := dComp_eq hx
      obtain ⟨⟨h1, h2, h3⟩, ⟨h4, h5⟩, h6, h7⟩ := h
      simp only [okE] at ho
      have ok := blkOk_by h1
      have hi := soundI it true (c.mask) (tg := tg) h5 ho.1
      simp only [wE]
      refine both (PE.imp (pe_lc c.calm c.nd hi ok (fun s H C cl fp => ?_) (fun s H C cl fp => ?_) (fun s H C cl fp => ?_) (set_no h4)) fun σ H Q z => cE.comp (by simpa using h2) z) (by intro _; rfl)
      · exact soundT (X := X.blk s H scope (PySem.compEnvC scope cl C X.env) fp) c.nd c.calm (fun x hx => isOwn_rel hx) t h3
      · exact soundO d (c.blk s H ok.kind C cl fp) h6 ho.2.1
      · exact dv_of false (soundE el (c.blk s H ok.kind C cl fp) h7 ho.2.2).1
    · cases h
  | .comp2 own t it d t1 it1 d1 el, X, E, n, Ed, lv, c, e, h, ho => by
    simp only [chkE] at h
    split at h
    · rename_i f tg iter ifs tg1 iter1 ifs1 scope hx
      simp only [Bool.and_eq_true, decide_eq_true_eq, Bool.not_eq_true'] at h
      obtain ⟨p, rfl⟩ := dComp_eq hx
      obtain ⟨⟨h1, ⟨h2, h2'⟩, h3, h3'⟩, ⟨h4, h4', h5, h5'⟩, ⟨h6, h6'⟩, h7⟩ := h
      simp only [okE] at ho
      have ok := blkOk_by h1
      have hi := soundI it true (c.mask) (tg := tg) h5 ho.1
      simp only [wE]
      refine both (PE.imp (pe_lc2 (vs1 := t1.slots) c.calm c.nd hi ok h2' (fun s H C cl fp => ?_) (fun s H C cl fp => ?_) (fun s H C cl fp => ?_) (fun s H C cl fp => ?_) (fun s H C cl fp => ?_) (fun s H C cl fp => ?_) (set_no h4) (fun env x => set_no h4' x)) fun σ H Q z => cE.comp2 h2 (fun _ z => z) z) (by intro _; rfl)
      · exact soundT (X := X.blk s H scope (PySem.compEnvC scope cl C X.env) fp) c.nd c.calm (fun x hx => isOwn_rel hx) t h3
      · exact soundO d (c.blk s H ok.kind C cl fp) h6 ho.2.1
      · exact soundI it1 false (c.blk s H ok.kind C cl fp) h5' ho.2.2.1
      · exact soundT (X := X.blk s H scope (PySem.compEnvC scope cl C X.env) fp) c.nd c.calm (fun x hx => isOwn_rel hx) t1 h3'
      · exact soundO d1 (c.blk s H ok.kind C cl fp) h6' ho.2.2.2.1
      · exact dv_of false (soundE el (c.blk s H ok.kind C cl fp) h7 ho.2.2.2.2).1
    · cases h
  | .keyt es, X, E, n, Ed, lv, c, e, h, ho => by
    simp only [chkE] at h
    split at h
    · rename_i fs hx
      rw [Bool.and_eq_true, decide_eq_true_eq] at h
      obtain ⟨k, p, rfl⟩ := dTup_eq hx
      simp only [okE] at ho
      simp only [wE]
      exact both (de_key (soundA es (List.replicate es.length false) c List.length_replicate h.2 ho) h.1) (by intro _; rfl)
    · cases h
  | .comp3 own t it d t1 it1 d1 t2 it2 d2 el, X, E, n, Ed, lv, c, e, h, ho => by
    simp only [chkE] at h
    split at h
    · rename_i f tg iter ifs tg1 iter1 ifs1 tg2 iter2 ifs2 scope hx
      simp only [Bool.and_eq_true, decide_eq_true_eq, Bool.not_eq_true'] at h
      obtain ⟨p, rfl⟩ := dComp_eq hx
      obtain ⟨⟨h1, ⟨h2, h2'⟩, h3, h3', h3''⟩, ⟨⟨h4, h4', h4''⟩, h5, h5', h5''⟩, ⟨h6, h6', h6''⟩, h7⟩ := h
      simp only [okE] at ho
      have ok := blkOk_by h1
      have hi := soundI it true (c.mask) (tg := tg) h5 ho.1
      simp only [wE]
      refine both (PE.imp (pe_lc3 (vs1 := t1.slots ++ t2.slots) (vs2 := t2.slots) c.calm c.nd hi ok h2' (fun i hi => List.mem_append_right _ hi) (fun s H C cl fp => ⟨⟨?_, ?_⟩, ⟨?_, ?_, ?_⟩, ⟨?_, ?_, ?_⟩, ?_⟩) (set_no h4) (fun env x => set_no h4' x) (fun env x => set_no h4'' x)) fun σ H Q z => cE.comp3 h2 (fun i hi => List.mem_append_left _ hi) (fun _ z => z) z) (by intro _; rfl)
      · exact soundT (X := X.blk s H scope (PySem.compEnvC scope cl C X.env) fp) c.nd c.calm (fun x hx => isOwn_rel hx) t h3
      · exact soundO d (c.blk s H ok.kind C cl fp) h6 ho.2.1
      · exact soundI it1 false (c.blk s H ok.kind C cl fp) h5' ho.2.2.1
      · exact soundT (X := X.blk s H scope (PySem.compEnvC scope cl C X.env) fp) c.nd c.calm (fun x hx => isOwn_rel hx) t1 h3'
      · exact soundO d1 (c.blk s H ok.kind C cl fp) h6' ho.2.2.2.1
      · exact soundI it2 false (c.blk s H ok.kind C cl fp) h5'' ho.2.2.2.2.1
      · exact soundT (X := X.blk s H scope (PySem.compEnvC scope cl C X.env) fp) c.nd c.calm (fun x hx => isOwn_rel hx) t2 h3''
      · exact soundO d2 (c.blk s H ok.kind C cl fp) h6'' ho.2.2.2.2.2.1
      · exact dv_of false (soundE el (c.blk s H ok.kind C cl fp) h7 ho.2.2.2.2.2.2).1
    · cases h
  | .methK cn m br S ks dv o es kes, X, E, n, Ed, lv, c, e, h, ho => by
    simp only [chkE] at h
    split at h
    · rename_i y p g apos fs kws pos
      simp only [Bool.and_eq_true, decide_eq_true_eq] at h
      obtain ⟨⟨hm, h1, h2⟩, ⟨⟨h4, h4', h5⟩, h6, h6', h6''⟩, h7, h8, h9⟩ := h
      subst hm
      simp only [okE] at ho
      have t1 : (br.take es.length).length = es.length := take_len (by omega)
      have t2 : ((br.drop es.length).take kes.length).length = kes.length := take_len (by rw [List.length_drop]; omega)
      have hkl : kws.length = ks.length := by
        have := congrArg List.length h6
        simpa using this
      have ev := meth_evalK (env := X.env) (m := g) (apos := apos) (pos := pos) (o := .Name y p) (es := fs) (kws := kws) rfl (meth_formK h8 h6 h2 (by omega)) h1
      have hoo := dv_of true (soundE o c h7 ho.2.1).1
      have ha := soundA es (br.take es.length) c t1 h8 ho.2.2.1
      have hk := soundK kes ((br.drop es.length).take kes.length) c t2 h9 ho.2.2.2
      simp only [wE]
      cases es with
      | nil => exact absurd rfl h4
      | cons a as =>
        cases fs with
        | nil => simp [chkL] at h8
        | cons z zs =>
          have hst : isStar z = false := by
            simp only [chkL, Bool.and_eq_true, Bool.not_eq_true'] at h8
            exact h8.1
          have hb : (backTo pos (starEach (z :: zs) X.env)).any (·.1) = false := chkL_back h8
          obtain ⟨k1, k2, k3⟩ := kw_names (pos := pos) (env := X.env) h6
          exact both (de_methK c (by rw [t1]; exact ho.1) h5 (t2.trans h6') hoo ha hk (star_cons hst) k1 k2 (by rw [hb, k3]; rfl) ev) (by intro _; rfl)
    · cases h
  | .p1 p a, X, E, n, Ed, lv, c, e, h, ho => by
    simp only [chkE] at h
    split at h
    · rename_i x hx
      simp only [okE] at ho
      simp only [wE]
      exact prim1 c p hx ho.1 (dv_of true (soundE a c h ho.2).1)
    · cases h
  | .p2 p a b, X, E, n, Ed, lv, c, e, h, ho => by
    simp only [chkE] at h
    split at h
    · rename_i x y hx
      rw [Bool.and_eq_true] at h
      simp only [okE] at ho
      simp only [wE]
      exact prim2 c p hx ho.1 (dv_of true (soundE a c h.1 ho.2.1).1) (dv_of true (soundE b c h.2 ho.2.2).1)
    · cases h
  | .dic0, X, E, n, Ed, lv, c, e, h, ho => by
    simp only [chkE] at h
    split at h
    · simp only [wE]
      exact both de_dic0 (by intro _; rfl)
    · cases h
  | .callK f br S ks dv es kes, X, E, n, Ed, lv, c, e, h, ho => by
    simp only [chkE] at h
    split at h
    · rename_i g fs kws hx
      simp only [Bool.and_eq_true, decide_eq_true_eq] at h
      obtain ⟨p, rfl⟩ := dCall_eq hx
      obtain ⟨h1, h2, h3, ⟨h4, h4', h5⟩, ⟨h6, h6'⟩, h7, h8⟩ := h
      obtain ⟨p', rfl⟩ := dName_eq h1
      simp only [okE] at ho
      have t1 : (br.take es.length).length = es.length := take_len (by omega)
      have t2 : ((br.drop es.length).take kes.length).length = kes.length := take_len (by rw [List.length_drop]; omega)
      have ha := soundA es (br.take es.length) c t1 h7 ho.2.1
      have hk := soundK kes ((br.drop es.length).take kes.length) c t2 h8 ho.2.2
      simp only [wE]
      cases es with
      | nil => exact absurd rfl h4
      | cons a as =>
        cases fs with
        | nil => simp [chkL] at h7
        | cons y ys =>
          have hst : isStar y = false := by
            simp only [chkL, Bool.and_eq_true, Bool.not_eq_true'] at h7
            exact h7.1
          have hb : (backTo p (starEach (y :: ys) X.env)).any (·.1) = false := chkL_back h7
          obtain ⟨k1, k2, k3⟩ := kw_names (pos := p) (env := X.env) h6
          exact both (de_callK (f := f) c (by rw [t1]; exact ho.1) h5 (t2.trans h6') (isGl_ok h2) ha hk (okN_1 h3) (star_cons hst) k1 k2 (by rw [hb, k3]; rfl)) (by intro _; rfl)
    · cases h
  | .mk f br S dv es, X, E, n, Ed, lv, c, e, h, ho => by
    simp only [chkE] at h
    split at h
    · rename_i g fs hx
      simp only [Bool.and_eq_true, decide_eq_true_eq] at h
      obtain ⟨p, rfl⟩ := dCall_eq hx
      obtain ⟨h1, h2, h3, ⟨h4, h4', h5⟩, h7⟩ := h
      obtain ⟨p', rfl⟩ := dName_eq h1
      simp only [okE] at ho
      obtain ⟨⟨j, hj, G⟩, ho2⟩ := ho
      have ha := soundA es (br.take es.length) c (take_len h4') h7 ho2
      simp only [wE]
      cases es with
      | nil => exact absurd rfl h4
      | cons a as =>
        cases fs with
        | nil => simp [chkL] at h7
        | cons y ys =>
          have hst : isStar y = false := by
            simp only [chkL, Bool.and_eq_true, Bool.not_eq_true'] at h7
            exact h7.1
          have hb : (backTo p (starEach ys X.env)).any (·.1) = false := by
            simp only [chkL, Bool.and_eq_true] at h7
            exact chkL_back h7.2.2
          exact both (de_mk c hj G h5 (isGl_ok h2) ha (okN_1 h3) (star_cons hst) hb) (by intro _; rfl)
    · cases h
  | .mkK f br S ks dv kes, X, E, n, Ed, lv, c, e, h, ho => by
    simp only [chkE] at h
    split at h
    · rename_i g kws hx
      simp only [Bool.and_eq_true, decide_eq_true_eq] at h
      obtain ⟨p, rfl⟩ := dCall_eq hx
      obtain ⟨h1, h2, h3, ⟨h4, h5⟩, ⟨h6, h6'⟩, h8⟩ := h
      obtain ⟨p', rfl⟩ := dName_eq h1
      simp only [okE] at ho
      obtain ⟨⟨j, hj, G⟩, ho2⟩ := ho
      have t2 : (br.take kes.length).length = kes.length := take_len h4
      have hk := soundK kes (br.take kes.length) c t2 h8 ho2
      obtain ⟨k1, k2, k3⟩ := kw_names (pos := p) (env := X.env) h6
      simp only [wE]
      exact both (de_mkK c hj G h5 (t2.trans h6') (isGl_ok h2) hk (okN_1 h3) k1 k2 (by rw [k3]; rfl)) (by intro _; rfl)
    · cases h
  | .meth cn m br S dv o es, X, E, n, Ed, lv, c, e, h, ho => by
    simp only [chkE] at h
    split at h
    · rename_i y g apos fs pos
      simp only [Bool.and_eq_true, decide_eq_true_eq] at h
      obtain ⟨hrv, ⟨hm, h1, h2⟩, ⟨h3, h4⟩, h5, h6⟩ := h
      subst hm
      simp only [okE] at ho
      have hl := chkL_len h6
      have hf : methodCallForm (fs.length + 0) (backTo pos (starEach fs X.env)) (backToKw pos (keywordEach [] X.env)) = true := by
        unfold methodCallForm
        have hb := chkL_back (pos := pos) (env := X.env) h6
        have : (backTo pos (starEach fs X.env)).all (fun x => !x.1) = true := by
          rw [List.all_eq_true]
          intro x hx
          rw [List.any_eq_false] at hb
          simpa using hb x hx
        rw [this, hl]
        simp [keywordEach, backToKw]
        omega
      have ev := meth_eval (env := X.env) (m := g) (apos := apos) (pos := pos) (o := y) (es := fs) (recvB_ok hrv) hf h1
      have hoo := dv_of true (soundE o c h5 ho.2.1).1
      have ha := soundA es (br.take es.length) c (take_len h3) h6 ho.2.2
      simp only [wE]
      cases es with
      | nil =>
        cases fs with
        | cons _ _ => simp [chkL] at h6
        | nil => exact both (de_meth0 c ho.1 (by simpa using h4) hoo ev) (by intro _; rfl)
      | cons a as =>
        cases fs with
        | nil => simp [chkL] at h6
        | cons z zs =>
          have hst : isStar z = false := by
            simp only [chkL, Bool.and_eq_true, Bool.not_eq_true'] at h6
            exact h6.1
          have hb : (backTo pos (starEach zs X.env)).any (·.1) = false := by
            simp only [chkL, Bool.and_eq_true] at h6
            exact chkL_back h6.2.2
          exact both (de_meth c ho.1 h4 hoo ha (star_cons hst) hb ev) (by intro _; rfl)
    · cases h
  | .compZ own t a b el, X, E, n, Ed, lv, c, e, h, ho => by
    simp only [chkE] at h
    split at h
    · rename_i f tes tk tp g gp x y zp scope p
      simp only [Bool.and_eq_true, decide_eq_true_eq, Bool.not_eq_true'] at h
      obtain ⟨⟨h1, h2, h3⟩, ⟨h4, h5, h6, h6'⟩, ⟨h7, h8⟩, h9⟩ := h
      subst h4
      simp only [okE] at ho
      have ok := blkOk_by h1
      have pab := da_cons (dv_of false (soundE a c.mask h7 ho.2.1).1) (da_cons (dv_of false (soundE b c.mask h8 ho.2.2.1).1) da_nil (star_cons h6')) (star_cons h6)
      have hi := di_zip (p := gp) (pos := zp) (elts := tes) (kk := tk) (tpos := tp) (isGl_ok h5) ho.1 pab (star_cons h6) (by rw [star_cons h6']; rfl)
      simp only [wE]
      refine both (PE.imp (pe_lc c.calm c.nd hi ok (fun s H C cl fp => ?_) (fun s H C cl fp => ?_) (fun s H C cl fp => ?_) (set_no rfl)) fun σ H Q z => cE.comp (by simpa using h2) z) (by intro _; rfl)
      · exact soundT (X := X.blk s H scope (PySem.compEnvC scope cl C X.env) fp) c.nd c.calm (fun x hx => isOwn_rel hx) t h3
      · exact ⟨fun pins s σ H Q I hw => pts_nil.run pins s σ H Q I (by
          obtain ⟨W, δ, q, st, sp, hw, k⟩ := hw
          exact k W H true (.refl sp.ok) hw)⟩
      · exact dv_of false (soundE el (c.blk s H ok.kind C cl fp) h9 ho.2.2.2).1
    · cases h
  | .mkP f br S ks dv es kes, X, E, n, Ed, lv, c, e, h, ho => by
    simp only [chkE] at h
    split at h
    · rename_i g fs kws hx
      simp only [Bool.and_eq_true, decide_eq_true_eq] at h
      obtain ⟨p, rfl⟩ := dCall_eq hx
      obtain ⟨h1, h2, h3, ⟨h4, h4', h5⟩, ⟨h6, h6'⟩, h7, h8⟩ := h
      obtain ⟨p', rfl⟩ := dName_eq h1
      simp only [okE] at ho
      obtain ⟨⟨j, hj, G⟩, ho1, ho2⟩ := ho
      have t1 : (br.take es.length).length = es.length := take_len (by omega)
      have t2 : ((br.drop es.length).take kes.length).length = kes.length := take_len (by rw [List.length_drop]; omega)
      have ha := soundA es (br.take es.length) c t1 h7 ho1
      have hk := soundK kes ((br.drop es.length).take kes.length) c t2 h8 ho2
      simp only [wE]
      cases es with
      | nil => exact absurd rfl h4
      | cons a as =>
        cases fs with
        | nil => simp [chkL] at h7
        | cons y ys =>
          have hst : isStar y = false := by
            simp only [chkL, Bool.and_eq_true, Bool.not_eq_true'] at h7
            exact h7.1
          have hb : (backTo p (starEach (y :: ys) X.env)).any (·.1) = false := chkL_back h7
          obtain ⟨k1, k2, k3⟩ := kw_names (pos := p) (env := X.env) h6
          exact both (de_mkP c hj (by rw [t1]; exact G) h5 (t2.trans h6') (isGl_ok h2) ha hk (okN_1 h3) (star_cons hst) k1 k2 (by rw [hb, k3]; rfl)) (by intro _; rfl)
    · cases h
  | .methP m br l i k es, X, E, n, Ed, lv, c, e, h, ho => by
    simp only [chkE] at h
    split at h
    · rename_i y g apos fs pos
      simp only [Bool.and_eq_true, decide_eq_true_eq] at h
      obtain ⟨hrv, ⟨hm, h1, h2⟩, ⟨h3, h4⟩, h5, h6⟩ := h
      subst hm
      simp only [okE] at ho
      have hl := chkL_len h6
      have hf : methodCallForm (fs.length + 0) (backTo pos (starEach fs X.env)) (backToKw pos (keywordEach [] X.env)) = true := by
        unfold methodCallForm
        have hb := chkL_back (pos := pos) (env := X.env) h6
        have : (backTo pos (starEach fs X.env)).all (fun x => !x.1) = true := by
          rw [List.all_eq_true]
          intro x hx
          rw [List.any_eq_false] at hb
          simpa using hb x hx
        rw [this, hl]
        simp [keywordEach, backToKw]
        omega
      have ev := meth_eval (env := X.env) (m := g) (apos := apos) (pos := pos) (o := y) (es := fs) (recvB_ok hrv) hf h1
      have hoo := dv_of true (de_ixk (X := X) (n := n) h5)
      have ha := soundA es (br.take es.length) c (take_len h3) h6 ho.2
      simp only [wE]
      have one : ∀ cn S, l.lookup cn = some S → PE X (.Call (.Attribute y g apos) fs [] pos) (cE X.K X.mg n (wMeth cn g (co true (w2 (co true (wVar i)) (co true (wK (.int k))) opIx)) (wA Ed es (br.take es.length)) S [] Ed)) := fun cn S hS => by
        have hG := Top.mes_at ho.1 hS
        cases es with
        | nil =>
          cases fs with
          | cons _ _ => simp [chkL] at h6
          | nil => exact de_meth0 c hG (by simpa using h4) hoo ev
        | cons a as =>
          cases fs with
          | nil => simp [chkL] at h6
          | cons z zs =>
            have hst : isStar z = false := by
              simp only [chkL, Bool.and_eq_true, Bool.not_eq_true'] at h6
              exact h6.1
            have hb : (backTo pos (starEach zs X.env)).any (·.1) = false := by
              simp only [chkL, Bool.and_eq_true] at h6
              exact chkL_back h6.2.2
            exact de_meth c hG h4 hoo ha (star_cons hst) hb ev
      refine both ⟨fun pins s σ H Q I ⟨W, δ, q, st, sp, hw, kk⟩ => ?_⟩ (by intro _; rfl)
      unfold wMethP at hw
      cases hd : δ.getD i none with
      | none => rw [hd] at hw; exact hw.elim
      | some dv =>
        rw [hd] at hw
        cases dv with
        | v d =>
          cases d with
          | tup ds =>
            dsimp only at hw
            cases hk : ds[k]? with
            | none => rw [hk] at hw; exact hw.elim
            | some d2 =>
              rw [hk] at hw
              cases d2 with
              | obj cn f =>
                obtain ⟨S, hS, hw⟩ := hw
                exact (one cn S hS).run pins s σ H Q I ⟨W, δ, q, st, sp, hw, kk⟩
              | _ => exact hw.elim
          | _ => exact hw.elim
        | _ => exact hw.elim
    · cases h
  | .methA m br l i es, X, E, n, Ed, lv, c, e, h, ho => by
    simp only [chkE] at h
    split at h
    · rename_i y p g apos fs pos
      simp only [Bool.and_eq_true, decide_eq_true_eq] at h
      obtain ⟨⟨hm, h1, h2⟩, ⟨h3, h4⟩, ⟨h5, h7, h8⟩, h6⟩ := h
      subst hm
      simp only [okE] at ho
      have hl := chkL_len h6
      have hf : methodCallForm (fs.length + 0) (backTo pos (starEach fs X.env)) (backToKw pos (keywordEach [] X.env)) = true := by
        unfold methodCallForm
        have hb := chkL_back (pos := pos) (env := X.env) h6
        have : (backTo pos (starEach fs X.env)).all (fun x => !x.1) = true := by
          rw [List.all_eq_true]
          intro x hx
          rw [List.any_eq_false] at hb
          simpa using hb x hx
        rw [this, hl]
        simp [keywordEach, backToKw]
        omega
      have ev := meth_eval (env := X.env) (m := g) (apos := apos) (pos := pos) (o := .Name y p) (es := fs) rfl hf h1
      have hoo := dv_of true (de_var (X := X) (n := n) (pos := p) h5 (vis_ok h7) (okN_1 h8) (okN_2 h8))
      have ha := soundA es (br.take es.length) c (take_len h3) h6 ho.2
      simp only [wE]
      have one : ∀ cn S, l.lookup cn = some S → PE X (.Call (.Attribute (.Name y p) g apos) fs [] pos) (cE X.K X.mg n (wMeth cn g (co true (wVar i)) (wA Ed es (br.take es.length)) S [] Ed)) := fun cn S hS => by
        have hG := Top.mes_at ho.1 hS
        cases es with
        | nil =>
          cases fs with
          | cons _ _ => simp [chkL] at h6
          | nil => exact de_meth0 c hG (by simpa using h4) hoo ev
        | cons a as =>
          cases fs with
          | nil => simp [chkL] at h6
          | cons z zs =>
            have hst : isStar z = false := by
              simp only [chkL, Bool.and_eq_true, Bool.not_eq_true'] at h6
              exact h6.1
            have hb : (backTo pos (starEach zs X.env)).any (·.1) = false := by
              simp only [chkL, Bool.and_eq_true] at h6
              exact chkL_back h6.2.2
            exact de_meth c hG h4 hoo ha (star_cons hst) hb ev
      refine both ⟨fun pins s σ H Q I ⟨W, δ, q, st, sp, hw, k⟩ => ?_⟩ (by intro _; rfl)
      unfold wMethA at hw
      cases hd : δ.getD i none with
      | none => rw [hd] at hw; exact hw.elim
      | some dv =>
        rw [hd] at hw
        cases dv with
        | v d =>
          cases d with
          | obj cn f =>
            obtain ⟨S, hS, hw⟩ := hw
            exact (one cn S hS).run pins s σ H Q I ⟨W, δ, q, st, sp, hw, k⟩
          | _ => exact hw.elim
        | _ => exact hw.elim
    · cases h
theorem soundA : ∀ (xs : List Ex) (ms : List Bool) {X : Cx} {E : XK} {n : N0} {Ed : Str → Prop} {lv : Nat} (c : Ctx X E n Ed lv) {es : List Expr}, ms.length = xs.length → chkL X.N xs X.env.scope es = true → okL (topOf X lv) xs → PA X es (cA X.K X.mg n ms (wA Ed xs ms))
  | [], [], X, E, n, Ed, lv, c, [], _, h, ho => by simp only [wA]; exact da_nil
  | [], [], X, E, n, Ed, lv, c, _ :: _, _, h, ho => by simp [chkL] at h
  | [], _ :: _, X, E, n, Ed, lv, c, es, hl, h, ho => by simp at hl
  | _ :: _, [], X, E, n, Ed, lv, c, es, hl, h, ho => by simp at hl
  | _ :: _, _ :: _, X, E, n, Ed, lv, c, [], hl, h, ho => by simp [chkL] at h
  | x :: xs, m :: ms, X, E, n, Ed, lv, c, e :: es, hl, h, ho => by
    simp only [chkL, Bool.and_eq_true, Bool.not_eq_true'] at h
    simp only [okL] at ho
    simp only [wA]
    exact da_cons (dv_of m (soundE x c h.2.1 ho.1).1) (soundA xs ms c (by simpa using hl) h.2.2 ho.2) (star_cons h.1)
theorem soundK : ∀ (xs : List Ex) (ms : List Bool) {X : Cx} {E : XK} {n : N0} {Ed : Str → Prop} {lv : Nat} (c : Ctx X E n Ed lv) {kws : List Keyword}, ms.length = xs.length → chkL X.N xs X.env.scope (kws.map (·.value)) = true → okL (topOf X lv) xs → PK X kws (cA X.K X.mg n ms (wA Ed xs ms))
  | [], [], X, E, n, Ed, lv, c, [], _, h, ho => by simp only [wA]; exact dk_nil
  | [], [], X, E, n, Ed, lv, c, _ :: _, _, h, ho => by simp [chkL] at h
  | [], _ :: _, X, E, n, Ed, lv, c, es, hl, h, ho => by simp at hl
  | _ :: _, [], X, E, n, Ed, lv, c, es, hl, h, ho => by simp at hl
  | _ :: _, _ :: _, X, E, n, Ed, lv, c, [], hl, h, ho => by simp [chkL] at h
  | x :: xs, m :: ms, X, E, n, Ed, lv, c, ⟨a0, v0, p0⟩ :: ks, hl, h, ho => by
    simp only [List.map_cons, chkL, Bool.and_eq_true, Bool.not_eq_true'] at h
    simp only [okL] at ho
    simp only [wA]
    exact dk_cons (dv_of m (soundE x c h.2.1 ho.1).1) (soundK xs ms c (by simpa using hl) h.2.2 ho.2)
theorem soundAnds : ∀ (xs : List Ex) {X : Cx} {E : XK} {n : N0} {Ed : Str → Prop} {lv : Nat} (_ : xs ≠ []) (c : Ctx X E n Ed lv) {es : List Expr}, chkL X.N xs X.env.scope es = true → okL (topOf X lv) xs → ∀ pos, PE X (.BoolOp .And es pos) (cE X.K X.mg n (vB (wAnds Ed xs))) ∧ PW X (.BoolOp .And es pos) (cT X.K X.mg n (wAnds Ed xs))
  | [], X, E, n, Ed, lv, hne, c, es, h, ho, pos => absurd rfl hne
  | _ :: _, X, E, n, Ed, lv, hne, c, [], h, ho, pos => by simp [chkL] at h
  | [x], X, E, n, Ed, lv, hne, c, e :: es, h, ho, pos => by
    simp only [chkL, Bool.and_eq_true] at h
    simp only [okL] at ho
    cases es with
    | nil =>
      obtain ⟨k1, k2⟩ := soundE x c h.2.1 ho.1
      simp only [wAnds]
      exact ⟨pe_one (PE.imp k1 fun σ H Q z => cE.asV z), pw_and1 k2⟩
    | cons _ _ => simp [chkL] at h
  | x :: y :: ys, X, E, n, Ed, lv, hne, c, e :: es, h, ho, pos => by
    simp only [chkL, Bool.and_eq_true] at h
    simp only [okL] at ho
    cases es with
    | nil => simp [chkL] at h
    | cons f fs =>
      obtain ⟨k1, k2⟩ := soundE x c h.2.1 ho.1
      obtain ⟨k3, k4⟩ := soundAnds (y :: ys) (by simp) c (es := f :: fs) h.2.2 (by simp only [okL]; exact ho.2) pos
      simp only [wAnds]
      exact ⟨PE.imp (pe_and k1 k3) fun σ H Q z => cE.andV z, PW.imp (pw_and k2 k4) fun σ H Q z => cT.and z⟩
theorem soundOrs : ∀ (xs : List Ex) {X : Cx} {E : XK} {n : N0} {Ed : Str → Prop} {lv : Nat} (_ : xs ≠ []) (c : Ctx X E n Ed lv) {es : List Expr}, chkL X.N xs X.env.scope es = true → okL (topOf X lv) xs → ∀ pos, PE X (.BoolOp .Or es pos) (cE X.K X.mg n (vB (wOrs Ed xs))) ∧ PW X (.BoolOp .Or es pos) (cT X.K X.mg n (wOrs Ed xs))
  | [], X, E, n, Ed, lv, hne, c, es, h, ho, pos => absurd rfl hne
  | _ :: _, X, E, n, Ed, lv, hne, c, [], h, ho, pos => by simp [chkL] at h
  | [x], X, E, n, Ed, lv, hne, c, e :: es, h, ho, pos => by
    simp only [chkL, Bool.and_eq_true] at h
    simp only [okL] at ho
    cases es with
    | nil =>
      obtain ⟨k1, k2⟩ := soundE x c h.2.1 ho.1
      simp only [wOrs]
      exact ⟨pe_one (PE.imp k1 fun σ H Q z => cE.asV z), pw_or1 k2⟩
    | cons _ _ => simp [chkL] at h
  | x :: y :: ys, X, E, n, Ed, lv, hne, c, e :: es, h, ho, pos => by
    simp only [chkL, Bool.and_eq_true] at h
    simp only [okL] at ho
    cases es with
    | nil => simp [chkL] at h
    | cons f fs =>
      obtain ⟨k1, k2⟩ := soundE x c h.2.1 ho.1
      obtain ⟨k3, k4⟩ := soundOrs (y :: ys) (by simp) c (es := f :: fs) h.2.2 (by simp only [okL]; exact ho.2) pos
      simp only [wOrs]
      exact ⟨PE.imp (pe_or k1 k3) fun σ H Q z => cE.orV z, PW.imp (pw_or k2 k4) fun σ H Q z => cT.or z⟩
theorem soundI : ∀ (it : Itx) (cm : Bool) {X : Cx} {E : XK} {n : N0} {Ed : Str → Prop} {lv : Nat} (c : Ctx X E n Ed lv) {e tg : Expr}, chkI X.N it X.env.scope e = true → okI (topOf X lv) it → PI X tg e (cI X.K X.mg n cm (wI cm Ed it))
  | .rng a, cm, X, E, n, Ed, lv, c, e, tg, h, ho => by
    simp only [chkI] at h
    split at h
    · rename_i g x hx
      simp only [Bool.and_eq_true, decide_eq_true_eq, Bool.not_eq_true'] at h
      obtain ⟨p, rfl⟩ := dCall_eq hx
      obtain ⟨h1, h2, h3, h4⟩ := h
      obtain ⟨p', rfl⟩ := dName_eq h1
      simp only [okI] at ho
      simp only [wI]
      exact di_rng1 (isGl_ok h2) ho.1 (da_cons (dv_of true (soundE a c h4 ho.2).1) da_nil (star_cons h3)) (star_cons h3)
    · cases h
  | .rng2 a b, cm, X, E, n, Ed, lv, c, e, tg, h, ho => by
    simp only [chkI] at h
    split at h
    · rename_i g x y hx
      simp only [Bool.and_eq_true, decide_eq_true_eq, Bool.not_eq_true'] at h
      obtain ⟨p, rfl⟩ := dCall_eq hx
      obtain ⟨h1, h2, ⟨h3, h3'⟩, h4, h5⟩ := h
      obtain ⟨p', rfl⟩ := dName_eq h1
      simp only [okI] at ho
      simp only [wI]
      refine di_rng2 (isGl_ok h2) ho.1 (da_cons (dv_of true (soundE a c h4 ho.2.1).1) (da_cons (dv_of true (soundE b c h5 ho.2.2).1) da_nil (star_cons h3')) (star_cons h3)) ?_ (star_cons h3')
      rw [star_cons h3, star_cons h3']
      rfl
    · cases h
  | .seq a, cm, X, E, n, Ed, lv, c, e, tg, h, ho => by
    simp only [chkI] at h
    simp only [okI] at ho
    simp only [wI]
    exact di_seq (soundE a c h ho).1
theorem soundO : ∀ (o : Option Ex) {X : Cx} {E : XK} {n : N0} {Ed : Str → Prop} {lv : Nat} (c : Ctx X E n Ed lv) {es : List Expr}, chkO X.N o X.env.scope es = true → okO (topOf X lv) o → PTs X es (cT X.K X.mg n (wO Ed o))
  | none, X, E, n, Ed, lv, c, [], h, ho => by
    simp only [wO]
    exact ⟨fun pins s σ H Q I hw => pts_nil.run pins s σ H Q I (by
      obtain ⟨W, δ, q, st, sp, hw, k⟩ := hw
      exact k W H true (.refl sp.ok) hw)⟩
  | none, X, E, n, Ed, lv, c, _ :: _, h, ho => by simp [chkO] at h
  | some a, X, E, n, Ed, lv, c, [], h, ho => by simp [chkO] at h
  | some a, X, E, n, Ed, lv, c, [e], h, ho => by
    simp only [chkO] at h
    simp only [okO] at ho
    simp only [wO]
    exact pts_one (soundE a c h ho).2
  | some a, X, E, n, Ed, lv, c, _ :: _ :: _, h, ho => by simp [chkO] at h
end
end TT

set_option Elab.async false
set_option linter.all false
set_option maxRecDepth 100000
set_option autoImplicit false
/-! stores by index, x.insert(i, y), x op= e -/
namespace TT
open PySem PySem.Spec L2
section
variable {X : Cx} {n : N0} {e k : Expr} {pos : Pos}
/-- x[k] = e of an own dict or list -/
@[reducible] def subD (i : Nat) (dw : DV) (y d : D) (δ : Sl) (p : Sl → Prop) : Prop := match dw, y with
  | .own (.dic kvs), .key k => kvs.length ≤ 1000000 ∧ p (δ.set i (some (.own (.dic (putK' kvs k d)))))
  | .own (.lst ds), .int j => (0 ≤ j ∧ j < ds.length) ∧ p (δ.set i (some (.own (.lst (ds.set j.toNat d)))))
  | _, _ => False
@[reducible] def swSub (i : Nat) (wk we : Sl → (D → Prop) → Prop) : Kn → Sl → Prop := fun k δ => match δ.getD i none with
  | some dw => we δ fun d => wk δ fun y => subD i dw y d δ k.nx
  | none => False
theorem set_or (hu : X.A.units + 1 < cLine) : PSet X (fun o i v H Q => rSetL o i v H Q ∨ rSetD o i v H Q) := by
  intro pins s σ H o i v ov iv u Q I ro ri rv h
  rcases h with h | h
  · exact set_list pins s σ H o i v ov iv u Q I ro ri rv h
  · exact set_dict hu pins s σ H o i v ov iv u Q I ro ri rv h
theorem sub_assign {o k : Expr} {env : Env} {pos : Pos} (h : isSlice k = false) : ∀ v, assign (.Subscript o k pos) env v = (do
      let ov ← holding [v] (eval o env)
      let iv ← holding [v, ov] (eval k env)
      standAt pos
      holding [v, ov, iv] (setItem ov iv v)
      release [v, ov, iv] []) := by
  cases k <;> first | (intro _; rfl) | (simp [isSlice] at h)
theorem swap_sub {value : Expr} {l : Nat} {env : Env} {o k : Expr} {p : Pos} : swapsWithSole [.Subscript o k p] value l env = pure false := by
  cases value <;> rfl
theorem stores_sub {value : Expr} {env : Env} {o k : Expr} {p : Pos} : swappedStores [.Subscript o k p] value env = pure none := by
  cases value <;> rfl
theorem ixN_pos {n j : Nat} (h : j < n) : ixN n (j : Int) = some j := by
  unfold ixN
  rw [if_pos (by omega), if_pos (by omega)]
  rfl
theorem ds_sub {i : Nat} {x : Str} {p p2 : Pos} {wk we : Sl → (D → Prop) → Prop} (hu : X.A.units + 1 < cLine) (hN : X.N[i]? = some x) (hv : Vis X.env.scope x) (hd : (x == ("__debug__" : Str)) = false) (hcd : (x == ("__classdict__" : Str)) = false)
    (hs : isSlice k = false) (hk : PE X k (cV X.K X.mg n false wk)) (he : PE X e (cV X.K X.mg n false we)) : PS X (.Assign [.Subscript (.Name x p) k p2] e pos) (cS X.K X.mg n (swSub i wk we)) := by
  refine PS.imp (ps_asg he (pg_sub (pe_var (pos := p) hN hv hd hcd) hk (set_or hu) (sub_assign hs)) swap_sub stores_sub) fun D σ H ⟨W, δ, kn, st, sp, hw, g⟩ => ?_
  have st0 := st
  obtain ⟨l, ow, h1, h2, h3⟩ := st
  unfold swSub at hw
  rw [List.getD_eq_getElem?_getD] at hw
  cases hi : δ[i]? with
  | none => rw [hi] at hw; exact hw.elim
  | some o =>
    rw [hi] at hw
    cases o with
    | none => exact hw.elim
    | some dv =>
      dsimp only [Option.getD_some] at hw
      obtain ⟨v, e1, r1⟩ := h1 i _ hi
      refine ⟨W, δ, _, st0, sp, hw, fun W1 H1 u d s ru hq => ?_⟩
      refine ⟨v, e1, W1, δ, _, st0.step s, sp.trans s, hq, fun W2 H2 y yd s2 ry hq2 => ?_⟩
      have s12 := s.trans s2
      have th : ∀ j b, ow j = some b → ∃ o, H b = some o := fun j b e => (h3 j b e).2.1.ex
      have rv : Rep X.K X.mg W2 u d := by
        have : Rep X.K X.mg W1 u d := by simpa [RepM] using ru
        exact this.le s2.le
      have ryv : Rep X.K X.mg W2 y yd := by simpa [RepM] using ry
      have h1' : ∀ j dw, δ[j]? = some (some dw) → ∃ v, σ[j]? = some (some v) ∧ SRep X.K X.mg n W2 H2 v (ow j) dw := fun j dw e => by
        obtain ⟨u, eu, ru⟩ := h1 j dw e
        exact ⟨u, eu, ru.step s12 fun b q => (h3 j b q).2.2⟩
      have h3' : ∀ j b, ow j = some b → n.2 b = none ∧ NTup (H2 b) ∧ Loose W2 b := fun j b e => by
        obtain ⟨b1, b2, b3⟩ := h3 j b e
        exact ⟨b1, by rw [s12.at (th j b e) b3.2]; exact b2, s12.loose b2 b3⟩
      cases dv with
      | own dd =>
        obtain ⟨a, ea, ev, c⟩ := r1
        subst ev
        have lo := (h3 i a ea).2.2.2
        cases dd with
        | lst ds =>
          cases yd with
          | int j =>
            obtain ⟨⟨j0, j1⟩, hq2⟩ := hq2
            obtain ⟨xs, ex, rx⟩ := c
            cases ryv
            have ex1 : H2 a = some (.lst xs) := s12.eff a _ ex lo
            obtain ⟨m, rfl⟩ := Int.eq_ofNat_of_zero_le j0
            have hm : m < xs.length := by rw [rx.length]; omega
            obtain ⟨s3, t3⟩ := Sto.write (dv := .own (.lst (ds.set m d))) (o := .lst (xs.set m u)) l ow h1' h2 h3' (sp.trans s12) (.inl fun _ _ _ z => by rw [ex1] at z; cases z) ea ⟨_, e1, a, rfl, rfl, xs.set m u, upd_same, RepL.set rv m (rx.le s12.le)⟩
            exact .inl ⟨a, xs, m, m, rfl, rfl, ex1, ixN_pos hm, g.nx W2 _ σ _ s12.le s3 t3 hq2⟩
          | _ => exact hq2.elim
        | dic ds =>
          cases yd with
          | key kk =>
            obtain ⟨hlen, hq2⟩ := hq2
            obtain ⟨xs, ex, rx⟩ := c
            cases ryv with
            | key eb =>
            have ex1 : H2 a = some (.dT xs) := s12.eff a _ ex lo
            have eb2 := s2.ok.sub _ _ eb
            have hl2 : xs.length < sizeLine := by
              have hs : sizeLine = 16777216 := sizeLine_eq
              rw [rx.length]; omega
            rw [← keyOf_kV] at eb2
            obtain ⟨s3, t3⟩ := Sto.write (dv := .own (.dic (putK' ds kk d))) (o := .dT (putK xs (keyOf kk) u)) l ow h1' h2 h3' (sp.trans s12) (.inl fun _ _ _ z => by rw [ex1] at z; cases z) ea ⟨_, e1, a, rfl, rfl, _, upd_same, RepK.put rv (rx.le s12.le)⟩
            exact .inr ⟨a, _, rfl, .t ex1 eb2 hl2, g.nx W2 _ σ _ s12.le s3 t3 hq2⟩
          | _ => exact hq2.elim
        | _ => cases yd <;> exact hq2.elim
      | _ => cases yd <;> exact hq2.elim
/-- one store by index, as a target -/
@[reducible] def sub1 (i : Nat) (wk : Sl → (D → Prop) → Prop) (d : D) (δ : Sl) (p : Sl → Prop) : Prop := match δ.getD i none with
  | some dw => wk δ fun y => subD i dw y d δ p
  | none => False
def cGS (K : PySem.W.Frag) (mg : Str → Option Value) (n : N0) (i : Nat) (wk : Sl → (D → Prop) → Prop) : TG := fun v σ H Q => ∃ W δ d p, Sto K mg n W H σ δ ∧ Stp n.1 n.2 W H ∧ Rep K mg W v d ∧ sub1 i wk d δ p ∧ ∀ W' H' δ', W.le W' → Stp n.1 n.2 W' H' → Sto K mg n W' H' σ δ' → p δ' → Q σ H'
theorem PG.imp' {t t' : TG} (h : PG X e t) (i : ∀ v σ H Q, t' v σ H Q → t v σ H Q) : PG X e t' := ⟨fun pins s σ H v u Q I r q => h.run pins s σ H v u Q I r (i _ _ _ _ q)⟩
theorem dg_sub {i : Nat} {x : Str} {p p2 : Pos} {wk : Sl → (D → Prop) → Prop} (hu : X.A.units + 1 < cLine) (hN : X.N[i]? = some x) (hv : Vis X.env.scope x) (hd : (x == ("__debug__" : Str)) = false) (hcd : (x == ("__classdict__" : Str)) = false)
    (hs : isSlice k = false) (hk : PE X k (cV X.K X.mg n false wk)) : PG X (.Subscript (.Name x p) k p2) (cGS X.K X.mg n i wk) := by
  refine PG.imp' (pg_sub (pe_var (pos := p) hN hv hd hcd) hk (set_or hu) (sub_assign hs)) fun u σ H Q ⟨W, δ, d, pp, st, sp, ru, hw, kk⟩ => ?_
  have st0 := st
  obtain ⟨l, ow, h1, h2, h3⟩ := st
  unfold sub1 at hw
  rw [List.getD_eq_getElem?_getD] at hw
  cases hi : δ[i]? with
  | none => rw [hi] at hw; exact hw.elim
  | some o =>
    rw [hi] at hw
    cases o with
    | none => exact hw.elim
    | some dv =>
      dsimp only [Option.getD_some] at hw
      obtain ⟨v, e1, r1⟩ := h1 i _ hi
      refine ⟨v, e1, W, δ, _, st0, sp, hw, fun W2 H2 y yd s2 ry hq2 => ?_⟩
      have rv : Rep X.K X.mg W2 u d := ru.le s2.le
      have ryv : Rep X.K X.mg W2 y yd := by simpa [RepM] using ry
      have h1' : ∀ j dw, δ[j]? = some (some dw) → ∃ v, σ[j]? = some (some v) ∧ SRep X.K X.mg n W2 H2 v (ow j) dw := fun j dw e => by
        obtain ⟨u, eu, ru⟩ := h1 j dw e
        exact ⟨u, eu, ru.step s2 fun b q => (h3 j b q).2.2⟩
      have h3' : ∀ j b, ow j = some b → n.2 b = none ∧ NTup (H2 b) ∧ Loose W2 b := fun j b e => by
        obtain ⟨b1, b2, b3⟩ := h3 j b e
        exact ⟨b1, by rw [s2.at b2.ex b3.2]; exact b2, s2.loose b2 b3⟩
      cases dv with
      | own dd =>
        obtain ⟨a, ea, ev, c⟩ := r1
        subst ev
        have lo := (h3 i a ea).2.2.2
        cases dd with
        | lst ds =>
          cases yd with
          | int j =>
            obtain ⟨⟨j0, j1⟩, hq2⟩ := hq2
            obtain ⟨xs, ex, rx⟩ := c
            cases ryv
            have ex1 : H2 a = some (.lst xs) := s2.eff a _ ex lo
            obtain ⟨m, rfl⟩ := Int.eq_ofNat_of_zero_le j0
            have hm : m < xs.length := by rw [rx.length]; omega
            obtain ⟨s3, t3⟩ := Sto.write (dv := .own (.lst (ds.set m d))) (o := .lst (xs.set m u)) l ow h1' h2 h3' (sp.trans s2) (.inl fun _ _ _ z => by rw [ex1] at z; cases z) ea ⟨_, e1, a, rfl, rfl, xs.set m u, upd_same, RepL.set rv m (rx.le s2.le)⟩
            exact .inl ⟨a, xs, m, m, rfl, rfl, ex1, ixN_pos hm, kk W2 _ _ s2.le s3 t3 hq2⟩
          | _ => exact hq2.elim
        | dic ds =>
          cases yd with
          | key kk' =>
            obtain ⟨hlen, hq2⟩ := hq2
            obtain ⟨xs, ex, rx⟩ := c
            cases ryv with
            | key eb =>
            have ex1 : H2 a = some (.dT xs) := s2.eff a _ ex lo
            have eb2 := s2.ok.sub _ _ eb
            have hl2 : xs.length < sizeLine := by
              have hs : sizeLine = 16777216 := sizeLine_eq
              rw [rx.length]; omega
            rw [← keyOf_kV] at eb2
            obtain ⟨s3, t3⟩ := Sto.write (dv := .own (.dic (putK' ds kk' d))) (o := .dT (putK xs (keyOf kk') u)) l ow h1' h2 h3' (sp.trans s2) (.inl fun _ _ _ z => by rw [ex1] at z; cases z) ea ⟨_, e1, a, rfl, rfl, _, upd_same, RepK.put rv (rx.le s2.le)⟩
            exact .inr ⟨a, _, rfl, .t ex1 eb2 hl2, kk W2 _ _ s2.le s3 t3 hq2⟩
          | _ => exact hq2.elim
        | _ => cases yd <;> exact hq2.elim
      | _ => cases yd <;> exact hq2.elim
/-- x[a], x[b] = e, f of an own list -/
@[reducible] def swSub2 (i : Nat) (wk1 wk2 : Sl → (D → Prop) → Prop) (wa : Sl → (List D → Prop) → Prop) : Kn → Sl → Prop := fun k δ => wa δ fun ds => match ds with
  | [x, y] => sub1 i wk1 x δ fun δ1 => sub1 i wk2 y δ1 k.nx
  | _ => False
theorem ds_sub2 {i : Nat} {x : Str} {p p2 p' p2' pt pt2 : Pos} {kt k2 : Nat} {a b k' : Expr} {wk1 wk2 : Sl → (D → Prop) → Prop} {wa : Sl → (List D → Prop) → Prop} (hc : X.calm = true) (hu : X.A.units + 1 < cLine) (hN : X.N[i]? = some x) (hv : Vis X.env.scope x) (hd : (x == ("__debug__" : Str)) = false) (hcd : (x == ("__classdict__" : Str)) = false)
    (hs : isSlice k = false) (hs' : isSlice k' = false) (hk : PE X k (cV X.K X.mg n false wk1)) (hk' : PE X k' (cV X.K X.mg n false wk2)) (ha : PA X [a, b] (cA X.K X.mg n [false, false] wa))
    (hst : swappedStores [.Tuple [.Subscript (.Name x p) k p2, .Subscript (.Name x p') k' p2'] kt pt] (.Tuple [a, b] k2 pt2) X.env = pure none) :
    PS X (.Assign [.Tuple [.Subscript (.Name x p) k p2, .Subscript (.Name x p') k' p2'] kt pt] (.Tuple [a, b] k2 pt2) pos) (cS X.K X.mg n (swSub2 i wk1 wk2 wa)) := by
  refine PS.imp (ps_asg (pe_tup ha) (pg_tup (n := 2) hc (pgs_cons (dg_sub hu hN hv hd hcd hs hk) (pgs_cons (dg_sub hu hN hv hd hcd hs' hk') pgs_nil))) rfl hst) fun D σ H ⟨W, δ, kn, st, sp, hw, g⟩ => ?_
  refine ⟨W, δ, _, st, sp, hw, fun W1 H1 vs ds s r hq => ?_⟩
  obtain ⟨v, v', d, d', rfl, rfl, r1, r2⟩ : ∃ v v' d d', vs = [v, v'] ∧ ds = [d, d'] ∧ Rep X.K X.mg W1 v d ∧ Rep X.K X.mg W1 v' d' := by
    cases r with
    | cons h r => cases r with
      | cons h2 r => cases r; exact ⟨_, _, _, _, rfl, rfl, by simpa [RepM] using h, by simpa [RepM] using h2⟩
  refine ⟨by show 2 ≤ sizeLine; decide, fun q hq' => ?_⟩
  have s2 := Stp.laid s.ok hq' (.tup [v, v'])
  have s02 := s.trans s2
  refine ⟨q, [v, v'], rfl, SqT.of upd_same, rfl, v, [v'], rfl, ?_⟩
  refine ⟨_, δ, d, _, st.step s02, sp.trans s02, r1.le s2.le, hq, fun W2 H2 δ2 l2 sp2 st2 hq2 => ?_⟩
  refine ⟨v', [], rfl, ⟨W2, δ2, d', _, st2, sp2, (r2.le s2.le).le l2, hq2, fun W3 H3 δ3 l3 sp3 st3 hq3 => ⟨rfl, ?_⟩⟩⟩
  exact g.nx W3 H3 σ δ3 (s02.le.trans (l2.trans l3)) sp3 st3 hq3
/-- x.insert(i, e) of an own list -/
@[reducible] def insD (i : Nat) (ds : List D) (as : List D) (δ : Sl) (p : Sl → Prop) : Prop := match as with
  | [.int j, d] => (0 ≤ j ∧ j ≤ 1000000 ∧ ds.length ≤ 1000000) ∧ p (δ.set i (some (.own (.lst (ds.take j.toNat ++ [d] ++ ds.drop j.toNat)))))
  | _ => False
@[reducible] def swIns (i : Nat) (wa : Sl → (List D → Prop) → Prop) : Kn → Sl → Prop := fun k δ => match δ.getD i none with
  | some (.own (.lst ds)) => wa δ fun as => insD i ds as δ k.nx
  | _ => False
theorem ds_ins {i : Nat} {x : Str} {p pa pc : Pos} {e2 : Expr} {wa : Sl → (List D → Prop) → Prop} (hN : X.N[i]? = some x) (hv : Vis X.env.scope x) (hd : (x == ("__debug__" : Str)) = false) (hcd : (x == ("__classdict__" : Str)) = false)
    (h : PA X [e, e2] (cA X.K X.mg n [false, false] wa)) (hs : isStar e = false) (hs2 : isStar e2 = false) (hl : (pa.endLine == pc.line) = true) : PS X (.Expr (.Call (.Attribute (.Name x p) "insert" pa) [e, e2] [] pc) pos) (cS X.K X.mg n (swIns i wa)) := by
  have pe := pe_bm (X := X) (cpos := pc) (apos := pa) PySem.F.plainAttrs_list PySem.F.slot_list_insert PySem.F.type_list_insert mt_insert (pe_var (pos := p) hN hv hd hcd) h (by rfl) (by rw [star_cons hs, star_cons hs2]; rfl) hl (star_cons hs) (by rw [star_cons hs2]; rfl)
  refine PS.imp (ps_expr pe) fun D σ H ⟨W, δ, k, st, sp, hw, g⟩ => ?_
  have st0 := st
  obtain ⟨l, ow, h1, h2, h3⟩ := st
  unfold swIns at hw
  rw [List.getD_eq_getElem?_getD] at hw
  cases hi : δ[i]? with
  | none => rw [hi] at hw; exact hw.elim
  | some o =>
    rw [hi] at hw
    cases o with
    | none => exact hw.elim
    | some dv =>
      cases dv with
      | own d =>
        cases d with
        | lst ds =>
          obtain ⟨v, e1, a, ea, ev, xs, ex, rx⟩ := h1 i _ hi
          subst ev
          refine ⟨.ref a, e1, .inl ⟨rfl, _, SqL.of ex⟩, W, δ, _, st0, sp, hw, fun W1 H1 vs as s r hq => ?_⟩
          have l2 : W.le W1 := s.le
          have th : ∀ j b, ow j = some b → ∃ o, H b = some o := fun j b e => (h3 j b e).2.1.ex
          have ex1 : H1 a = some (.lst xs) := s.eff a _ ex (h3 i a ea).2.2.2
          have h1' : ∀ j dw, δ[j]? = some (some dw) → ∃ v, σ[j]? = some (some v) ∧ SRep X.K X.mg n W1 H1 v (ow j) dw := fun j dw e => by
            obtain ⟨u, eu, ru⟩ := h1 j dw e
            exact ⟨u, eu, ru.step s fun b q => (h3 j b q).2.2⟩
          have h3' : ∀ j b, ow j = some b → n.2 b = none ∧ NTup (H1 b) ∧ Loose W1 b := fun j b e => by
            obtain ⟨b1, b2, b3⟩ := h3 j b e
            exact ⟨b1, by rw [s.at (th j b e) b3.2]; exact b2, s.loose b2 b3⟩
          obtain ⟨v1, v2, d1, d2, rfl, rfl, r1, r2⟩ : ∃ v v' d d', vs = [v, v'] ∧ as = [d, d'] ∧ Rep X.K X.mg W1 v d ∧ Rep X.K X.mg W1 v' d' := by
            cases r with
            | cons h r => cases r with
              | cons h2 r => cases r; exact ⟨_, _, _, _, rfl, rfl, by simpa [RepM] using h, by simpa [RepM] using h2⟩
          cases d1 with
          | int j =>
            obtain ⟨⟨j0, j1, j2⟩, hq⟩ := hq
            cases r1
            have hlen : xs.length < sizeLine := by
              have hs : sizeLine = 16777216 := sizeLine_eq
              rw [rx.length]; omega
            have rx1 := rx.le l2
            obtain ⟨s3, t3⟩ := Sto.write (dv := .own (.lst (ds.take j.toNat ++ [d2] ++ ds.drop j.toNat))) (o := .lst (xs.take j.toNat ++ [v2] ++ xs.drop j.toNat)) l ow h1' h2 h3' (sp.trans s) (.inl fun _ _ _ z => by rw [ex1] at z; cases z) ea ⟨_, e1, a, rfl, rfl, _, upd_same, ((rx1.take j.toNat).append (.cons r2 .nil)).append (rx1.drop j.toNat)⟩
            exact ⟨a, xs, j, v2, rfl, rfl, ex1, hlen, j0, by omega, g.nx W1 _ σ _ l2 s3 t3 hq⟩
          | _ => exact hq.elim
        | _ => exact hw.elim
      | _ => exact hw.elim
/-- x op= e of whole numbers -/
@[reducible] def augD (i : Nat) (up : Bool) (dw : DV) (d : D) (δ : Sl) (p : Sl → Prop) : Prop := match dw, d with
  | .v (.int a), .int b => p (δ.set i (some (.v (.int (if up = true then a + b else a - b)))))
  | _, _ => False
@[reducible] def swAug (i : Nat) (up : Bool) (we : Sl → (D → Prop) → Prop) : Kn → Sl → Prop := fun k δ => match δ.getD i none with
  | some dw => we δ fun d => augD i up dw d δ k.nx
  | none => False
def augOp (up : Bool) : Operator := if up = true then .Add else .Sub
theorem ip_ud (up : Bool) : PIp X (augOp up) (ipI fun i j => if up = true then i + j else i - j) := by
  cases up
  · exact ip_sub
  · exact ip_add
theorem ds_aug {i : Nat} {x : Str} {up : Bool} {p : Pos} {we : Sl → (D → Prop) → Prop} (hnd : X.N.Nodup) (hN : X.N[i]? = some x) (hx : Loc X.env.scope x) (hf : X.fn x = true)
    (he : PE X e (cV X.K X.mg n false we)) : PS X (.AugAssign (.Name x p) (augOp up) e pos) (cS X.K X.mg n (swAug i up we)) := by
  refine PS.imp (ps_aug hnd hN hx he (ip_ud up) (.inl hf)) fun D σ H ⟨W, δ, kn, st, sp, hw, g⟩ => ?_
  have st0 := st
  obtain ⟨l, ow, h1, h2, h3⟩ := st
  unfold swAug at hw
  rw [List.getD_eq_getElem?_getD] at hw
  cases hi : δ[i]? with
  | none => rw [hi] at hw; exact hw.elim
  | some o =>
    rw [hi] at hw
    cases o with
    | none => exact hw.elim
    | some dv =>
      dsimp only [Option.getD_some] at hw
      obtain ⟨v, e1, r1⟩ := h1 i _ hi
      refine ⟨v, e1, W, δ, _, st0, sp, hw, fun W1 H1 u d s ru hq => ?_⟩
      have ru : Rep X.K X.mg W1 u d := by simpa [RepM] using ru
      cases dv with
      | v dd =>
        cases dd with
        | int a =>
          cases d with
          | int b =>
            cases ru
            cases (show Rep X.K X.mg W v (.int a) from r1)
            refine ⟨a, b, rfl, rfl, ?_⟩
            exact g.nx W1 H1 _ _ s.le (sp.trans s) (Sto.set (st0.step s) (sp.trans s) (.refl s.ok) (dv := .v (.int (if up = true then a + b else a - b))) (Rep.int _) (fun _ z => by cases z)) hq
          | _ => exact hq.elim
        | _ => cases d <;> exact hq.elim
      | _ => cases d <;> exact hq.elim
end
end TT

set_option Elab.async false
set_option linter.all false
set_option maxRecDepth 100000
set_option autoImplicit false
/-! d.pop(k) of an own dict of tuple keys -/
namespace TT
open PySem PySem.Spec L2
theorem KT.drop {H : Hp} {k : List L2.Key} : ∀ {kvs : List (List L2.Key × V)} {xs : List (List L2.Key × Addr × Value)}, KT H kvs xs → KT H (dropK kvs k) (withoutH xs k)
  | _, _, .nil => .nil
  | _, _, .cons (a := a) (b := b) h t => by
    have ih := KT.drop (k := k) t
    unfold dropK withoutH at ih ⊢
    by_cases e : a.1 = k
    · have e2 : b.1 = k := by rw [← h.1]; exact e
      rw [List.filter_cons_of_neg (by simp [e]), List.filter_cons_of_neg (by simp [e2])]
      exact ih
    · have e2 : ¬ b.1 = k := by rw [← h.1]; exact e
      rw [List.filter_cons_of_pos (by simp [e]), List.filter_cons_of_pos (by simp [e2])]
      exact .cons h ih
def rPopT (K : PySem.W.Frag) : V → List V → Hp → VK → Prop := fun x xs H Q => ∃ (a b : Addr) (kvs : List (List L2.Key × V)) (ks : List L2.Key) (v : V), x = .ref a ∧ xs = [.ref b] ∧ H a = some (.dT kvs) ∧ SqT K H b (ks.map kV) ∧ valV kvs ks = some v ∧ Q v (upd H a (.dT (dropK kvs ks)))
theorem mt_popT {X : Cx} (hu : X.A.units + 1 < cLine) : MtR X "dict.pop" (rPopT X.K) := by
  intro pins s σ H x xs v us Q I rx rxs ⟨a, b, kvs, ks, r, ex, ey, hd, hb, hv, q⟩
  subst ex ey
  cases rx
  obtain ⟨u1, rfl, r1⟩ := vals1 rxs
  cases r1
  obtain ⟨z, lo, ys, rel, dd⟩ := dt_of I.hok hd
  have rr := rel.val ks
  rw [hv] at rr
  obtain ⟨w', hw, rw'⟩ := RelO.some_of rr
  obtain ⟨p, hp, rfl⟩ := Option.map_eq_some_iff.mp hw
  refine call_pop_heap (more := []) (.inl rfl) (PySem.F.args_dict_pop_2 _ _) (tupleKind_room_in1 hu) (key_any I hb) lo dd hp (fun h' d1 hs => ?_) (by rw [← Paired.length rel]; exact z)
  obtain ⟨o, es, ep, h1, h2, h3, h4, _, h6⟩ := d1
  have rel' : KT (upd H a (.dT (dropK kvs ks))) (dropK kvs ks) (withoutH ys ks) := (KT.drop rel).keeps fun c zs e => by
    have ne : c ≠ a := by
      rintro rfl
      rw [hd] at e
      cases e
    rw [upd_ne ne]; exact e
  have new : ObjOk X.prog X.w (upd H a (.dT (dropK kvs ks))) h' a (.dT (dropK kvs ks)) := ⟨Nat.le_trans (dropK_le kvs ks) z, lo, withoutH ys ks, rel', o, es, ep, h1, h2, h3, h4, h6⟩
  exact ⟨r, upd H a (.dT (dropK kvs ks)), d_write I (by rw [hd]; exact True.intro) hs ⟨o, h1⟩ new, rw', q⟩
def dropD (kvs : List (List Int × D)) (k : List Int) : List (List Int × D) := kvs.filter fun kv => decide (kv.1 ≠ k)
theorem RepK.drop {K : PySem.W.Frag} {mg : Str → Option Value} {W : Wd} {k : List Int} : ∀ {xs : List (List L2.Key × V)} {ds : List (List Int × D)}, RepK K mg W xs ds → RepK K mg W (dropK xs (keyOf k)) (dropD ds k)
  | _, _, .nil => .nil
  | _, _, .cons (k := j) h r => by
    have ih := RepK.drop (k := k) r
    unfold dropK dropD at ih ⊢
    by_cases e : j = k
    · rw [List.filter_cons_of_neg (by simp [e]), List.filter_cons_of_neg (by simp [e])]
      exact ih
    · rw [List.filter_cons_of_pos (by simp; exact fun z => e (keyOf_inj z)), List.filter_cons_of_pos (by simp [e])]
      exact .cons h ih
/-- d.pop(k) -/
@[reducible] def swPop (i : Nat) (w : Sl → (D → Prop) → Prop) : Kn → Sl → Prop := fun kk δ => match δ.getD i none with
  | some (.own (.dic ds)) => w δ fun d => ∃ k, keyD d = some k ∧ (lookD ds k).isSome = true ∧ kk.nx (δ.set i (some (.own (.dic (dropD ds k)))))
  | _ => False
section
variable {X : Cx} {n : N0} {e : Expr} {pos : Pos}
theorem ds_pop {i : Nat} {x : Str} {p pa pc : Pos} {w : Sl → (D → Prop) → Prop} (hu : X.A.units + 1 < cLine) (hN : X.N[i]? = some x) (hv : Vis X.env.scope x) (hd : (x == ("__debug__" : Str)) = false) (hcd : (x == ("__classdict__" : Str)) = false)
    (h : PE X e (cV X.K X.mg n true w)) (hs : isStar e = false) (hl : (pa.endLine == pc.line) = true) : PS X (.Expr (.Call (.Attribute (.Name x p) "pop" pa) [e] [] pc) pos) (cS X.K X.mg n (swPop i w)) := by
  have pe := pe_bm (X := X) (cpos := pc) (apos := pa) PySem.F.plainAttrs_dict PySem.F.slot_dict_pop PySem.F.type_dict_pop (mt_popT hu) (pe_var (pos := p) hN hv hd hcd) (pa_cons h pa_nil (star_cons hs)) (by rfl) (by rw [star_cons hs]; rfl) hl (star_cons hs)
  refine PS.imp (ps_expr pe) fun D σ H ⟨W, δ, k, st, sp, hw, g⟩ => ?_
  have st0 := st
  obtain ⟨l, ow, h1, h2, h3⟩ := st
  unfold swPop at hw
  rw [List.getD_eq_getElem?_getD] at hw
  cases hi : δ[i]? with
  | none => rw [hi] at hw; exact hw.elim
  | some o =>
    rw [hi] at hw
    cases o with
    | none => exact hw.elim
    | some dv =>
      cases dv with
      | own d =>
        cases d with
        | dic ds =>
          obtain ⟨v, e1, a, ea, ev, xs, ex, rx⟩ := h1 i _ hi
          subst ev
          refine ⟨.ref a, e1, .inr (.inr (.inl ⟨rfl, .inr ⟨_, ex⟩⟩)), W, δ, _, st0, sp, hw, fun W1 H1 v1 d1 s r hq => ?_⟩
          have l2 : W.le W1 := s.le
          have th : ∀ j b, ow j = some b → ∃ o, H b = some o := fun j b e => (h3 j b e).2.1.ex
          have ex1 : H1 a = some (.dT xs) := s.eff a _ ex (h3 i a ea).2.2.2
          have h1' : ∀ j dw, δ[j]? = some (some dw) → ∃ v, σ[j]? = some (some v) ∧ SRep X.K X.mg n W1 H1 v (ow j) dw := fun j dw e => by
            obtain ⟨u, eu, ru⟩ := h1 j dw e
            exact ⟨u, eu, ru.step s fun b q => (h3 j b q).2.2⟩
          have h3' : ∀ j b, ow j = some b → n.2 b = none ∧ NTup (H1 b) ∧ Loose W1 b := fun j b e => by
            obtain ⟨b1, b2, b3⟩ := h3 j b e
            exact ⟨b1, by rw [s.at (th j b e) b3.2]; exact b2, s.loose b2 b3⟩
          obtain ⟨kk, ek, hsome, hq⟩ := hq
          obtain ⟨b, rfl, eb⟩ := r.read.key s.ok ek
          have rx1 := rx.le l2
          obtain ⟨d', hd'⟩ := Option.isSome_iff_exists.mp hsome
          obtain ⟨v', ev', _⟩ := (rx1.look (k := kk)).2 d' hd'
          obtain ⟨s3, t3⟩ := Sto.write (dv := .own (.dic (dropD ds kk))) (o := .dT (dropK xs (keyOf kk))) l ow h1' h2 h3' (sp.trans s) (.inl fun _ _ _ z => by rw [ex1] at z; cases z) ea ⟨_, e1, a, rfl, rfl, _, upd_same, RepK.drop rx1⟩
          exact ⟨a, b, xs, keyOf kk, v', rfl, rfl, ex1, eb, ev', g.nx W1 _ σ _ l2 s3 t3 hq⟩
        | _ => exact hw.elim
      | _ => exact hw.elim
end
end TT

set_option Elab.async false
set_option linter.all false
set_option maxRecDepth 100000
set_option autoImplicit false
namespace TT
open PySem PySem.Spec L2

/-! ### statements: the syntax -/
inductive Sx where
  | set (i : Nat) (e : Ex) | setv (i : Nat) (e : Ex)
  | par (i j : Nat) (a b : Ex)
  | tgt (t : Tg) (e : Ex)
  | star (i j : Nat) (e : Ex)
  | expr (e : Ex)
  | app (i : Nat) (e : Ex)
  | ret (e : Ex) | retN | retO (i : Nat)
  | ifs (c : Ex) (a b : List Sx)
  | forr (t : Tg) (it : Itx) (b : List Sx)
  | loop (c : Ex) (b : List Sx)
  | raise (c : Str)
  | pass
  | frz (i : Nat)
  | par3 (i j l : Nat) (a b c : Ex)
  | sub2 (i : Nat) (a b e f : Ex)
  | tryK (b : List Sx) (c : Str) (i j : Nat)
  | fld (i : Nat) (c f : Str) (e : Ex)
  /-- for .. in x of an own list that stands as it is meanwhile -/
  | forP (i : Nat) (t : Tg) (b : List Sx)
  /-- self.f = a new list; self.f.append(e) -/
  | fldL (i : Nat) (c f : Str) (e : Ex) | appL (i : Nat) (c f : Str) (e : Ex)
  /-- pn.__init__(self, ..), self an instance of the class cn that is being made -/
  | supC (i : Nat) (pn cn : Str) (br : List Bool) (S : DS) (es : List Ex)
  /-- x[k] = e; x op= e; x.insert(a, b) -/
  | sub (i : Nat) (k e : Ex) | aug (i : Nat) (up : Bool) (e : Ex) | insr (i : Nat) (a b : Ex) | dpop (i : Nat) (e : Ex)

/-- the two names are stored the other way round -/
def swapOk (sc : Scope) (x y : Str) (tx ty a b : Expr) : Bool :=
  (decide (sc.names.lookup x = some .local) && decide (sc.names.lookup y = some .local)) && ((tx.pos.line == ty.pos.line) && (decide (x ≠ y) && ((!isStar a && !isStar b) && (!([a, b].all (foldedForSure 8)) && !([a, b].all (constantsAlone 8))))))
theorem swap_two {env : Env} {x y : Str} {px py pt pt2 : Pos} {kt k2 : Nat} {a b : Expr} (hk : env.scope.kind = .function) (h : swapOk env.scope x y (.Name x px) (.Name y py) a b = true) :
    swappedStores [.Tuple [.Name x px, .Name y py] kt pt] (.Tuple [a, b] k2 pt2) env = pure (some [x, y]) := by
  simp only [swapOk, Bool.and_eq_true, decide_eq_true_eq, Bool.not_eq_true'] at h
  obtain ⟨⟨h1, h2⟩, h3, h4, ⟨h5, h6⟩, h7, h8⟩ := h
  have hb : env.blockKind = .function := by unfold Env.blockKind; rw [hk]; rfl
  have k1 : env.kindOf x = some .local := h1
  have k2' : env.kindOf y = some .local := h2
  have l1 : (px.line == px.line) = true := by simp
  have l2 : (py.line == px.line) = true := by
    have : (px.line == py.line) = true := h3
    simp at this ⊢
    exact this.symm
  have ny : (y == x) = false := by simpa using Ne.symm h4
  have l2' : py.line = px.line := by simpa using l2
  unfold swappedStores
  simp only [hb, h7, h8, List.length_cons, List.length_nil, List.filterMap_cons, List.filterMap_nil, k1, k2', List.head?_cons, Option.map_some, Option.getD_some, Expr.pos, l1, l2, Bool.and_self, if_true]
  simp [List.eraseDups, List.eraseDupsBy, List.eraseDupsBy.loop, ny, l2', Expr.pos]
  intro z
  exfalso
  rcases z with z | z
  · split at z
    · exact absurd h5 (by simp [isStar])
    · cases z
  · split at z
    · exact absurd h6 (by simp [isStar])
    · cases z

/-- whether a comprehension is stored within its own frame -/
def lcSwap (sc : Scope) (y : Str) (yl cl : Nat) (scope : Scope) : Bool := decide (sc.names.lookup y = some .local) && ((yl == cl) && !(scope.names.any fun (n, k) => n == y && (k == .local || k == .cell)))
def swapOk3 (sc : Scope) (x y z : Str) (tx ty tz a b c : Expr) : Bool :=
  ((decide (sc.names.lookup x = some .local) && decide (sc.names.lookup y = some .local)) && decide (sc.names.lookup z = some .local)) && (((tx.pos.line == ty.pos.line) && (tx.pos.line == tz.pos.line)) && (((decide (x ≠ y) && decide (x ≠ z)) && decide (y ≠ z)) && (((!isStar a && !isStar b) && !isStar c) && (!([a, b, c].all (foldedForSure 8)) && !([a, b, c].all (constantsAlone 8))))))
theorem swap_three {env : Env} {x y z : Str} {px py pz pt pt2 : Pos} {kt k2 : Nat} {a b c : Expr} (hk : env.scope.kind = .function) (h : swapOk3 env.scope x y z (.Name x px) (.Name y py) (.Name z pz) a b c = true) :
    swappedStores [.Tuple [.Name x px, .Name y py, .Name z pz] kt pt] (.Tuple [a, b, c] k2 pt2) env = pure (some [x, y, z]) := by
  simp only [swapOk3, Bool.and_eq_true, decide_eq_true_eq, Bool.not_eq_true'] at h
  obtain ⟨⟨⟨h1, h2⟩, h2b⟩, ⟨h3, h3b⟩, ⟨⟨h4, h4b⟩, h4c⟩, ⟨⟨h5, h6⟩, h6b⟩, h7, h8⟩ := h
  have hb : env.blockKind = .function := by unfold Env.blockKind; rw [hk]; rfl
  have k1 : env.kindOf x = some .local := h1
  have k2' : env.kindOf y = some .local := h2
  have k3' : env.kindOf z = some .local := h2b
  have l2 : (py.line == px.line) = true := by
    have : (px.line == py.line) = true := h3
    simp at this ⊢
    exact this.symm
  have l3 : (pz.line == px.line) = true := by
    have : (px.line == pz.line) = true := h3b
    simp at this ⊢
    exact this.symm
  have ny : (y == x) = false := by simpa using Ne.symm h4
  have nz : (z == x) = false := by simpa using Ne.symm h4b
  have nzy : (z == y) = false := by simpa using Ne.symm h4c
  have l2' : py.line = px.line := by simpa using l2
  have l3' : pz.line = px.line := by simpa using l3
  have l1 : (px.line == px.line) = true := by simp
  unfold swappedStores
  simp only [hb, h7, h8, List.length_cons, List.length_nil, List.filterMap_cons, List.filterMap_nil, k1, k2', k3', List.head?_cons, Option.map_some, Option.getD_some, Expr.pos, l1, l2, l3, Bool.and_self, if_true]
  simp [List.eraseDups, List.eraseDupsBy, List.eraseDupsBy.loop, ny, nz, nzy, l2', l3', Expr.pos]
  intro zz
  exfalso
  rcases zz with zz | zz | zz
  · split at zz
    · exact absurd h5 (by simp [isStar])
    · cases zz
  · split at zz
    · exact absurd h6 (by simp [isStar])
    · cases zz
  · split at zz
    · exact absurd h6b (by simp [isStar])
    · cases zz
theorem lc_plain {env : Env} {elt : Expr} {gs : List Comprehension} {scope : Scope} {pos py : Pos} {y : Str} {l : Nat} (hk : env.scope.kind = .function) (h : lcSwap env.scope y py.line pos.line scope = false) :
    swapsWith (.ListComp elt gs scope pos) (some (.Name y py)) l env = pure false := by
  have hb : env.blockKind = .function := by unfold Env.blockKind; rw [hk]; rfl
  unfold swapsWith
  simp only [hb, Expr.pos]
  unfold lcSwap at h
  have e : (env.kindOf y == some .local) = decide (env.scope.names.lookup y = some .local) := by
    rw [Bool.eq_iff_iff]
    simp [Env.kindOf]
  rw [e]
  simp only [beq_self_eq_true, Bool.true_and]
  rw [Bool.and_assoc, h]
theorem swap_none {value : Expr} {l : Nat} {env : Env} (h : dComp value = none) (hs : ∀ e gs sc p, value ≠ .SetComp e gs sc p) (hd : ∀ e v gs sc p, value ≠ .DictComp e v gs sc p) (t : Option Expr) : swapsWith value t l env = pure false := by
  cases value <;> first | rfl | exact absurd rfl (hs _ _ _ _) | exact absurd rfl (hd _ _ _ _ _) | (simp [dComp] at h)
def isSDC : Expr → Bool | .SetComp _ _ _ _ => true | .DictComp _ _ _ _ _ => true | _ => false
theorem swap_no {value : Expr} {l : Nat} {env : Env} (h : dComp value = none) (hs : isSDC value = false) (t : Option Expr) : swapsWith value t l env = pure false :=
  swap_none h (fun _ _ _ _ e => by rw [e] at hs; cases hs) (fun _ _ _ _ _ e => by rw [e] at hs; cases hs) t
theorem swap_tup {value : Expr} {l : Nat} {env : Env} {es : List Expr} {k : Nat} {p : Pos} : swapsWithSole [.Tuple es k p] value l env = pure false := by
  cases value <;> rfl
theorem stores_no {value : Expr} {env : Env} {es : List Expr} {k : Nat} {p : Pos} (h : dTup value = none) : swappedStores [.Tuple es k p] value env = pure none := by
  cases value <;> first | rfl | (simp [dTup] at h)

/-! ### the check -/
def dAssign : Stmt → Option (Expr × Expr) | .Assign [t] e _ => some (t, e) | _ => none
theorem dAssign_eq {s : Stmt} {t e : Expr} (h : dAssign s = some (t, e)) : ∃ p, s = .Assign [t] e p := by
  unfold dAssign at h
  split at h
  · cases h; exact ⟨_, rfl⟩
  · cases h
def dApp : Expr → Option (Str × Expr × Nat × Nat)
  | .Call (.Attribute (.Name x _) a pa) [e] [] pc => if a = ("append" : Str) then some (x, e, pa.endLine, pc.line) else none
  | _ => none
theorem dApp_eq {s : Expr} {x : Str} {e : Expr} {l l' : Nat} (h : dApp s = some (x, e, l, l')) : ∃ p pa pc, s = .Call (.Attribute (.Name x p) "append" pa) [e] [] pc ∧ l = pa.endLine ∧ l' = pc.line := by
  unfold dApp at h
  split at h
  · split at h
    · rename_i ha
      cases h
      exact ⟨_, _, _, by rw [ha], rfl, rfl⟩
    · cases h
  · cases h
def dAppL : Expr → Option (Str × Str × Expr × Nat × Nat)
  | .Call (.Attribute (.Attribute (.Name x _) g _) a pa) [e] [] pc => if a = ("append" : Str) then some (x, g, e, pa.endLine, pc.line) else none
  | _ => none
theorem dAppL_eq {s : Expr} {x g : Str} {e : Expr} {l l' : Nat} (h : dAppL s = some (x, g, e, l, l')) : ∃ p p2 pa pc, s = .Call (.Attribute (.Attribute (.Name x p) g p2) "append" pa) [e] [] pc ∧ l = pa.endLine ∧ l' = pc.line := by
  unfold dAppL at h
  split at h
  · split at h
    · rename_i ha
      cases h
      exact ⟨_, _, _, _, by rw [ha], rfl, rfl⟩
    · cases h
  · cases h
def dRaise : Stmt → Option Str
  | .Raise (some (.Call (.Name x _) [.Constant (.str _) _ _] [] _)) none _ => some x
  | _ => none
theorem dRaise_eq {s : Stmt} {x : Str} (h : dRaise s = some x) : ∃ p m j p2 pos pos', s = .Raise (some (.Call (.Name x p) [.Constant (.str m) j p2] [] pos)) none pos' := by
  unfold dRaise at h
  split at h
  · cases h; exact ⟨_, _, _, _, _, _, rfl⟩
  · cases h
/-- name = e, where e is no comprehension, or one that is stored plainly or within its frame -/
def setOk (sc : Scope) (t e : Expr) (x : Str) : Bool := match dComp e with
  | none => !isSDC e
  | some (_, gs, scope) => decide (gs.length ≤ 2) || !(lcSwap sc x t.pos.line e.pos.line scope)
/-- try: body / except C as e: t = e -/
def dTry : Stmt → Option (List Stmt × Str × Str × Str)
  | .Try b [.ExceptHandler (some (.Name x _)) (some e) [.Assign [.Name t _] (.Name e2 _) _] _] [] [] _ => if e2 = e then some (b, x, e, t) else none
  | _ => none
theorem dTry_eq {s : Stmt} {b : List Stmt} {x e t : Str} (h : dTry s = some (b, x, e, t)) : ∃ np tp ep ap p1 pos, s = .Try b [.ExceptHandler (some (.Name x np)) (some e) [.Assign [.Name t tp] (.Name e ep) ap] p1] [] [] pos := by
  unfold dTry at h
  split at h
  · split at h
    · rename_i he
      cases h
      subst he
      exact ⟨_, _, _, _, _, _, rfl⟩
    · cases h
  · cases h
@[reducible] def keepV : Option DV → Option DV
  | some (.v d) => some (.v d)
  | _ => none
@[reducible] def unbp : Option DV → Option DV
  | some (.v d) => some (.v d)
  | some (.own d) => some (.own d)
  | _ => none
/-- no display of two or three is taken apart into plain locals -/
def plainLoc (sc : Scope) (e : Expr) : Bool := match dName e with
  | some x => decide (sc.names.lookup x = some .local)
  | none => false
def longT (sc : Scope) (v f : Expr) : Bool := match dTup v, dTup f with
  | none, _ => true
  | _, some ts => decide (4 ≤ ts.length) || !ts.all (plainLoc sc)
  | _, _ => false
theorem names_short {sc : Scope} {g : Expr → Option Str} (hg : ∀ e, plainLoc sc e = false → g e = none) : ∀ {ts : List Expr}, ts.all (plainLoc sc) = false → (ts.filterMap g).length < ts.length
  | [], h => by simp at h
  | t :: ts, h => by
    have le : (ts.filterMap g).length ≤ ts.length := List.length_filterMap_le g ts
    rw [List.filterMap_cons]
    cases ht : plainLoc sc t with
    | false =>
      rw [hg t ht]
      show (ts.filterMap g).length < ts.length + 1
      omega
    | true =>
      have h2 : ts.all (plainLoc sc) = false := by simpa [ht] using h
      have := names_short hg h2
      cases g t with
      | none => show (ts.filterMap g).length < ts.length + 1; omega
      | some y => show (ts.filterMap g).length + 1 < ts.length + 1; omega
theorem stores_long {v : Expr} {env : Env} {es : List Expr} {k : Nat} {p : Pos} (h : longT env.scope v (.Tuple es k p) = true) : swappedStores [.Tuple es k p] v env = pure none := by
  cases hv : dTup v with
  | none => exact stores_no hv
  | some vs =>
    obtain ⟨k2, p2, rfl⟩ := dTup_eq hv
    unfold longT at h
    rw [hv] at h
    have h : (decide (4 ≤ es.length) || !es.all (plainLoc env.scope)) = true := h
    unfold swappedStores
    dsimp only
    by_cases h4 : 4 ≤ es.length
    · have e : (!(es.length == 2 || es.length == 3)) = true := by simp; omega
      simp [e]
    · have ha : es.all (plainLoc env.scope) = false := by simpa [h4] using h
      split
      · rfl
      split
      · rfl
      have lt := names_short (sc := env.scope) (g := fun e => match e with
        | .Name id pos => if (env.kindOf id == some .local && pos.line == (es.head?.map (·.pos.line)).getD 0) = true then some id else none
        | _ => none) (fun e he => by
          cases e <;> first | rfl | skip
          rename_i x px
          have : env.kindOf x ≠ some .local := by
            intro z
            unfold plainLoc dName at he
            have z : env.scope.names.lookup x = some .local := z
            simp [z] at he
          simp [this]) ha
      rw [if_pos]
      simp only [Bool.or_eq_true, bne_iff_ne, ne_eq]
      exact .inl (Nat.ne_of_lt lt)
/-- *x, y = e -/
def dStar : Stmt → Option (Str × Str × Expr)
  | .Assign [.Tuple [.Starred (.Name x _) _, .Name y _] _ _] e _ => some (x, y, e)
  | _ => none
theorem dStar_eq {s : Stmt} {x y : Str} {e : Expr} (h : dStar s = some (x, y, e)) : ∃ p p1 p2 k p3 pos, s = .Assign [.Tuple [.Starred (.Name x p) p1, .Name y p2] k p3] e pos := by
  unfold dStar at h
  split at h
  · cases h; exact ⟨_, _, _, _, _, _, rfl⟩
  · cases h
def dFld : Stmt → Option (Str × Str × Expr)
  | .Assign [.Attribute (.Name x _) f _] e _ => some (x, f, e)
  | _ => none
theorem dFld_eq {s : Stmt} {x f : Str} {e : Expr} (h : dFld s = some (x, f, e)) : ∃ p pa pos, s = .Assign [.Attribute (.Name x p) f pa] e pos := by
  unfold dFld at h
  split at h
  · cases h; exact ⟨_, _, _, rfl⟩
  · cases h
theorem swap_att {value : Expr} {l : Nat} {env : Env} {o : Expr} {f : Str} {p : Pos} : swapsWith value (some (.Attribute o f p)) l env = pure false := by
  cases value <;> rfl
def dSubA : Stmt → Option (Str × Expr × Expr)
  | .Assign [.Subscript (.Name x _) k _] e _ => some (x, k, e)
  | _ => none
theorem dSubA_eq {s : Stmt} {x : Str} {k e : Expr} (h : dSubA s = some (x, k, e)) : ∃ p p2 pos, s = .Assign [.Subscript (.Name x p) k p2] e pos := by
  unfold dSubA at h
  split at h
  · cases h; exact ⟨_, _, _, rfl⟩
  · cases h
def dAug : Stmt → Option (Str × Operator × Expr)
  | .AugAssign (.Name x _) op e _ => some (x, op, e)
  | _ => none
theorem dAug_eq {s : Stmt} {x : Str} {op : Operator} {e : Expr} (h : dAug s = some (x, op, e)) : ∃ p pos, s = .AugAssign (.Name x p) op e pos := by
  unfold dAug at h
  split at h
  · cases h; exact ⟨_, _, rfl⟩
  · cases h
def dPop : Expr → Option (Str × Expr × Nat × Nat)
  | .Call (.Attribute (.Name x _) a pa) [e] [] pc => if a = ("pop" : Str) then some (x, e, pa.endLine, pc.line) else none
  | _ => none
theorem dPop_eq {s : Expr} {x : Str} {e : Expr} {l l' : Nat} (h : dPop s = some (x, e, l, l')) : ∃ p pa pc, s = .Call (.Attribute (.Name x p) "pop" pa) [e] [] pc ∧ l = pa.endLine ∧ l' = pc.line := by
  unfold dPop at h
  split at h
  · split at h
    · rename_i ha
      cases h
      exact ⟨_, _, _, by rw [ha], rfl, rfl⟩
    · cases h
  · cases h
def dIns : Expr → Option (Str × Expr × Expr × Nat × Nat)
  | .Call (.Attribute (.Name x _) a pa) [e, e2] [] pc => if a = ("insert" : Str) then some (x, e, e2, pa.endLine, pc.line) else none
  | _ => none
theorem dIns_eq {s : Expr} {x : Str} {e e2 : Expr} {l l' : Nat} (h : dIns s = some (x, e, e2, l, l')) : ∃ p pa pc, s = .Call (.Attribute (.Name x p) "insert" pa) [e, e2] [] pc ∧ l = pa.endLine ∧ l' = pc.line := by
  unfold dIns at h
  split at h
  · split at h
    · rename_i ha
      cases h
      exact ⟨_, _, _, by rw [ha], rfl, rfl⟩
    · cases h
  · cases h
mutual
def chkS (N : List Str) (sc : Scope) : Sx → Stmt → Bool
  | .set i e, s => match dAssign s with
    | some (t, f) => match dName t with
      | some x => (decide (N[i]? = some x) && isOwn sc x) && (setOk sc t f x && chkE N e sc f)
      | none => false
    | none => false
  | .setv i e, s => match dAssign s with
    | some (t, f) => match dName t with
      | some x => (decide (N[i]? = some x) && isOwn sc x) && (setOk sc t f x && chkE N e sc f)
      | none => false
    | none => false
  | .par i j a b, s => match dAssign s with
    | some (.Tuple [.Name x px, .Name y py] _ _, .Tuple [fa, fb] _ _) => (decide (N[i]? = some x) && decide (N[j]? = some y)) && (swapOk sc x y (.Name x px) (.Name y py) fa fb && chkL N [a, b] sc [fa, fb])
    | _ => false
  | .par3 i j l a b c, s => match dAssign s with
    | some (.Tuple [.Name x px, .Name y py, .Name z pz] _ _, .Tuple [fa, fb, fc] _ _) => ((decide (N[i]? = some x) && decide (N[j]? = some y)) && decide (N[l]? = some z)) && (swapOk3 sc x y z (.Name x px) (.Name y py) (.Name z pz) fa fb fc && chkL N [a, b, c] sc [fa, fb, fc])
    | _ => false
  | .tgt t e, s => match dAssign s with
    | some (f, v) => ((dTup f).isSome && (longT sc v f && chkT N sc t f)) && chkE N e sc v
    | none => false
  | .star i j e, s => match dStar s with
    | some (x, y, v) => (decide (N[i]? = some x) && decide (N[j]? = some y)) && ((isOwn sc x && isOwn sc y) && (decide ((dTup v).isNone) && chkE N e sc v))
    | none => false
  | .expr e, s => match s with
    | .Expr f _ => (decide ((dComp f).isNone) && !isSDC f) && chkE N e sc f
    | _ => false
  | .app i e, s => match s with
    | .Expr f _ => match dApp f with
      | some (x, v, l, l') => (decide (N[i]? = some x) && (vis sc x && okN x)) && ((l == l') && (!isStar v && chkE N e sc v))
      | none => false
    | _ => false
  | .ret e, s => match s with
    | .Return (some f) _ => chkE N e sc f
    | _ => false
  | .retN, s => match s with
    | .Return none _ => true
    | _ => false
  | .retO i, s => match s with
    | .Return (some f) _ => match dName f with
      | some x => decide (N[i]? = some x) && (vis sc x && okN x)
      | none => false
    | _ => false
  | .ifs c a b, s => match s with
    | .If f x y _ => chkE N c sc f && (chkB N sc a x && chkB N sc b y)
    | _ => false
  | .forr t it b, s => match s with
    | .For f iter x [] _ => (!isSet iter && chkT N sc t f) && (chkI N it sc iter && chkB N sc b x)
    | _ => false
  | .loop c b, s => match s with
    | .While f x [] _ => chkE N c sc f && chkB N sc b x
    | _ => false
  | .raise c, s => decide (dRaise s = some c) && (isGl sc c && okN c)
  | .pass, s => match s with
    | .Pass _ => true
    | _ => false
  | .frz _, _ => false
  | .tryK b c i j, s => match dTry s with
    | some (x, cn, e, t) => ((decide (cn = c) && (isGl sc c && okN c)) && (decide (N[i]? = some e) && decide (N[j]? = some t))) && ((decide (i ≠ j) && okN e) && ((decide (sc.names.lookup e = some .local) && decide (sc.names.lookup t = some .local)) && chkB N sc b x))
    | none => false
  | .fld i _ f e, s => match dFld s with
    | some (x, g, v) => (decide (N[i]? = some x) && (decide (g = f) && (vis sc x && okN x))) && chkE N e sc v
    | none => false
  | .forP i t b, s => match s with
    | .For f (.Name x _) y [] _ => (decide (N[i]? = some x) && (vis sc x && okN x)) && (chkT N sc t f && chkB N sc b y)
    | _ => false
  | .fldL i _ f e, s => match dFld s with
    | some (x, g, v) => (decide (N[i]? = some x) && (decide (g = f) && (vis sc x && okN x))) && chkE N e sc v
    | none => false
  | .supC i pn _ br _ es, s => match s with
    | .Expr (.Call (.Attribute (.Name y _) g apos) (.Name z _ :: fs) [] cpos) _ => ((decide (y = pn) && decide (g = ("__init__" : Str))) && ((apos.endLine == cpos.line) && decide (es.length < 26 ∧ br.length = es.length))) && (((isGl sc pn && okN pn) && (decide (N[i]? = some z) && (vis sc z && okN z))) && chkL N es sc fs)
    | _ => false
  | .appL i _ f e, s => match s with
    | .Expr h _ => match dAppL h with
      | some (x, g, v, l, l') => (decide (N[i]? = some x) && (decide (g = f) && (vis sc x && okN x))) && ((l == l') && (!isStar v && chkE N e sc v))
      | none => false
    | _ => false
  | .sub i k e, s => match dSubA s with
    | some (x, j, v) => (decide (N[i]? = some x) && (vis sc x && okN x)) && (!isSlice j && (chkE N k sc j && chkE N e sc v))
    | none => false
  | .sub2 i a b e f, s => match dAssign s with
    | some (.Tuple [.Subscript (.Name x p) k1 q1, .Subscript (.Name y p') k2 q2] kt pt, .Tuple [f1, f2] kv pv) => ((decide (N[i]? = some x) && (vis sc x && okN x)) && decide (x = y)) && (((!isSlice k1 && !isSlice k2) && longT sc (.Tuple [f1, f2] kv pv) (.Tuple [.Subscript (.Name x p) k1 q1, .Subscript (.Name y p') k2 q2] kt pt)) && ((chkE N a sc k1 && chkE N b sc k2) && chkL N [e, f] sc [f1, f2]))
    | _ => false
  | .aug i up e, s => match dAug s with
    | some (x, op, v) => (decide (N[i]? = some x) && (isOwn sc x && decide (op = augOp up))) && chkE N e sc v
    | none => false
  | .insr i a b, s => match s with
    | .Expr f _ => match dIns f with
      | some (x, v, v2, l, l') => (decide (N[i]? = some x) && (vis sc x && okN x)) && ((l == l') && ((!isStar v && !isStar v2) && chkL N [a, b] sc [v, v2]))
      | none => false
    | _ => false
  | .dpop i e, s => match s with
    | .Expr f _ => match dPop f with
      | some (x, v, l, l') => (decide (N[i]? = some x) && (vis sc x && okN x)) && ((l == l') && (!isStar v && chkE N e sc v))
      | none => false
    | _ => false
def chkB (N : List Str) (sc : Scope) : List Sx → List Stmt → Bool
  | [], [] => true
  | .frz _ :: as, ss => chkB N sc as ss
  | a :: as, s :: ss => chkS N sc a s && chkB N sc as ss
  | _, _ => false
end

/-! ### what it comes to -/
@[reducible] def swPar (i j : Nat) (wa : Sl → (List D → Prop) → Prop) : Kn → Sl → Prop := fun k δ => wa δ fun ds => match ds with
  | [x, y] => k.nx ((δ.set i (some (.v x))).set j (some (.v y)))
  | _ => False
@[reducible] def swPar3 (i j l : Nat) (wa : Sl → (List D → Prop) → Prop) : Kn → Sl → Prop := fun k δ => wa δ fun ds => match ds with
  | [x, y, z] => k.nx (((δ.set i (some (.v x))).set j (some (.v y))).set l (some (.v z)))
  | _ => False
@[reducible] def swTgt (t : Tg) (w : Sl → (D → Prop) → Prop) : Kn → Sl → Prop := fun k δ => w δ fun d => tgD t d δ k.nx
@[reducible] def starD (i j : Nat) (δ : Sl) (p : Sl → Prop) : D → Prop
  | .tup ds => match ds.getLast? with
    | some z => p ((δ.set i (some (.v (.lst ds.dropLast)))).set j (some (.v z)))
    | none => False
  | _ => False
@[reducible] def swStar (i j : Nat) (w : Sl → (D → Prop) → Prop) : Kn → Sl → Prop := fun k δ => w δ fun d => starD i j δ k.nx d
@[reducible] def caught (c : Str) (j : Nat) (δ : Sl) : Sl := (List.replicate δ.length none).set j (some (.v (.err c)))
mutual
@[reducible] def wS (Ed : Str → Prop) : Sx → Kn → Sl → Prop
  | .set i e => swSet i (wE Ed e)
  | .setv i e => swSetv i (co false (wE Ed e))
  | .par i j a b => swPar i j (wA Ed [a, b] [false, false])
  | .par3 i j l a b c => swPar3 i j l (wA Ed [a, b, c] [false, false, false])
  | .tgt t e => swTgt t (co false (wE Ed e))
  | .star i j e => swStar i j (co false (wE Ed e))
  | .expr e => swExpr (wE Ed e)
  | .app i e => swApp i (co false (wE Ed e))
  | .ret e => swRet (wE Ed e)
  | .retN => swRetN
  | .retO i => swRetO i
  | .ifs c a b => swIf (wT (wE Ed c)) (wBk Ed a) (wBk Ed b)
  | .forr t it b => swFor (wI false Ed it) t (wBk Ed b)
  | .loop c b => swWhile (wT (wE Ed c)) (wBk Ed b)
  | .raise c => swRaise c Ed
  | .pass => swNext
  | .frz _ => fun _ _ => False
  | .tryK b _ _ j => fun k δ => wBk (fun c => c ∈ errNames ∧ k.nx (caught c j δ)) b ⟨fun δ' => k.nx (δ'.map unbp), fun _ => False, fun _ => False, fun _ => False⟩ (δ.map keepV)
  | .fld i c f e => swFld i c f (co false (wE Ed e))
  | .fldL i c f e => swFldL i c f (wE Ed e)
  | .forP i t b => swForP i t (wBk Ed b)
  | .supC i _ cn br S es => swSup i cn (wA Ed es br) S Ed
  | .appL i c f e => swAppL i c f (co false (wE Ed e))
  | .sub i k e => swSub i (co false (wE Ed k)) (co false (wE Ed e))
  | .sub2 i a b e f => swSub2 i (co false (wE Ed a)) (co false (wE Ed b)) (wA Ed [e, f] [false, false])
  | .aug i up e => swAug i up (co false (wE Ed e))
  | .insr i a b => swIns i (wA Ed [a, b] [false, false])
  | .dpop i e => swPop i (co true (wE Ed e))
@[reducible] def wBk (Ed : Str → Prop) : List Sx → Kn → Sl → Prop
  | [] => swNext
  | .frz i :: as => swFrz i (wBk Ed as)
  | a :: as => swSeq (wS Ed a) (wBk Ed as)
end
def Top.try (G : Top) (x : Str) : Prop := ∃ T, G.mg x = some (.ref T) ∧ ∀ c ∈ errNames, ∀ C, G.mg c = some (.ref C) → PySem.W.exmOne G.K (.ref C) (.ref T) = some true
mutual
def okS (G : Top) : Sx → Prop
  | .set _ e => okE G e
  | .setv _ e => okE G e
  | .par _ _ a b => okE G a ∧ okE G b
  | .par3 _ _ _ a b c => okE G a ∧ okE G b ∧ okE G c
  | .tgt _ e => okE G e
  | .star _ _ e => okE G e
  | .expr e => okE G e
  | .app _ e => okE G e
  | .ret e => okE G e
  | .ifs c a b => okE G c ∧ okB G a ∧ okB G b
  | .forr _ it b => okI G it ∧ okB G b
  | .loop c b => okE G c ∧ okB G b
  | .raise c => G.exc c
  | .tryK b c _ _ => G.try c ∧ okB G b
  | .fld _ c f e => G.att c f ∧ okE G e
  | .fldL _ c f e => G.att c f ∧ okE G e
  | .forP _ _ b => okB G b
  | .supC _ pn cn br S es => G.sup pn cn br S ∧ okL G es
  | .appL _ c f e => G.att c f ∧ okE G e
  | .sub _ k e => okE G k ∧ okE G e
  | .sub2 _ a b e f => okE G a ∧ okE G b ∧ okE G e ∧ okE G f
  | .aug _ _ e => okE G e
  | .insr _ a b => okE G a ∧ okE G b
  | .dpop _ e => okE G e
  | _ => True
def okB (G : Top) : List Sx → Prop
  | [] => True
  | a :: as => okS G a ∧ okB G as
end

/-! ### it is so -/
structure CtxS (X : Cx) (E : XK) (n : N0) (Ed : Str → Prop) (lv : Nat) : Prop extends Ctx X E n Ed lv where
  fn : ∀ x, X.fn x = true
  pos : PassesOwn (model X.prog X.w) X.A X.env X.xe
  takes : Takes X fun cls d _ H => E cls d H
  stk : X.stack = X.env :: X.outer
  frm : X.env.frame = some X.env.locals
section
variable {X : Cx} {E : XK} {n : N0} {Ed : Str → Prop} {lv : Nat}
theorem isOwn_loc {sc : Scope} {x : Str} (h : isOwn sc x = true) : Loc sc x := by
  unfold isOwn at h
  split at h
  · exact .inl (by assumption)
  · exact .inr (by assumption)
  · cases h
theorem ArgsR.twoS {K : PySem.W.Frag} {mg : Str → Option Value} {W : Wd} {H : Hp} {vs : List V} {ds : List D} (h : ArgsR K mg W H [false, false] vs ds) : ∃ v v' d d', vs = [v, v'] ∧ ds = [d, d'] ∧ Rep K mg W v d ∧ Rep K mg W v' d' := by
  cases h with
  | cons h r => cases r with
    | cons h2 r => cases r; exact ⟨_, _, _, _, rfl, rfl, by simpa [RepM] using h, by simpa [RepM] using h2⟩
theorem cS.par {i j : Nat} {wa : Sl → (List D → Prop) → Prop} {De : Ends} {σ : L2.St} {H : Hp} (h : cS X.K X.mg n (swPar i j wa) De σ H) : tPar i j (cA X.K X.mg n [false, false] wa) De σ H := by
  obtain ⟨W, δ, k, st, sp, hw, g⟩ := h
  refine ⟨W, δ, _, st, sp, hw, fun W1 H1 vs ds s r hq => ?_⟩
  obtain ⟨v, v', d, d', rfl, rfl, r1, r2⟩ := r.twoS
  have sp1 := sp.trans s
  have t1 := Sto.set (i := i) (dv := .v d) (st.step s) sp1 (.refl s.ok) r1 (fun _ z => by cases z)
  have t2 := Sto.set (i := j) (dv := .v d') t1 sp1 (.refl s.ok) r2 (fun _ z => by cases z)
  exact ⟨v, v', rfl, g.nx W1 H1 _ _ s.le sp1 t2 hq⟩
theorem ArgsR.threeS {K : PySem.W.Frag} {mg : Str → Option Value} {W : Wd} {H : Hp} {vs : List V} {ds : List D} (h : ArgsR K mg W H [false, false, false] vs ds) : ∃ v v' v'' d d' d'', vs = [v, v', v''] ∧ ds = [d, d', d''] ∧ Rep K mg W v d ∧ Rep K mg W v' d' ∧ Rep K mg W v'' d'' := by
  cases h with
  | cons h r => cases r with
    | cons h2 r => cases r with
      | cons h3 r => cases r; exact ⟨_, _, _, _, _, _, rfl, rfl, by simpa [RepM] using h, by simpa [RepM] using h2, by simpa [RepM] using h3⟩
theorem cS.par3 {i j l : Nat} {wa : Sl → (List D → Prop) → Prop} {De : Ends} {σ : L2.St} {H : Hp} (h : cS X.K X.mg n (swPar3 i j l wa) De σ H) : tPar3 i j l (cA X.K X.mg n [false, false, false] wa) De σ H := by
  obtain ⟨W, δ, k, st, sp, hw, g⟩ := h
  refine ⟨W, δ, _, st, sp, hw, fun W1 H1 vs ds s r hq => ?_⟩
  obtain ⟨v, v', v'', d, d', d'', rfl, rfl, r1, r2, r3⟩ := r.threeS
  have sp1 := sp.trans s
  have t1 := Sto.set (i := i) (dv := .v d) (st.step s) sp1 (.refl s.ok) r1 (fun _ z => by cases z)
  have t2 := Sto.set (i := j) (dv := .v d') t1 sp1 (.refl s.ok) r2 (fun _ z => by cases z)
  have t3 := Sto.set (i := l) (dv := .v d'') t2 sp1 (.refl s.ok) r3 (fun _ z => by cases z)
  exact ⟨v, v', v'', rfl, g.nx W1 H1 _ _ s.le sp1 t3 hq⟩
theorem cS.tgt {t : Tg} {w : Sl → (D → Prop) → Prop} {De : Ends} {σ : L2.St} {H : Hp} (h : cS X.K X.mg n (swTgt t w) De σ H) : tAsg (cV X.K X.mg n false w) (cG X.K X.mg n t.slots (tgD t)) De σ H := by
  obtain ⟨W, δ, k, st, sp, hw, g⟩ := h
  refine ⟨W, δ, _, st, sp, hw, fun W1 H1 v d s r hq => ?_⟩
  exact ⟨W1, δ, d, k.nx, st.step s, sp.trans s, by simpa [RepM] using r, hq, fun σ' δ' mv _ h' => g.nx W1 H1 σ' δ' s.le (sp.trans s) (mv W1 H1 (.refl W1) (sp.trans s) (st.step s)) h'⟩
theorem cS.star {i j : Nat} {w : Sl → (D → Prop) → Prop} {De : Ends} {σ : L2.St} {H : Hp} (h : cS X.K X.mg n (swStar i j w) De σ H) : tAsg (cV X.K X.mg n false w) (gStar X.K i j) De σ H := by
  obtain ⟨W, δ, k, st, sp, hw, g⟩ := h
  refine ⟨W, δ, _, st, sp, hw, fun W1 H1 v d s r hq => ?_⟩
  replace r : Rep X.K X.mg W1 v d := by simpa [RepM] using r
  cases d with
  | tup ds =>
    cases hl : ds.getLast? with
    | none => simp only [starD, hl] at hq
    | some z =>
      simp only [starD, hl] at hq
      have hds : ds = ds.dropLast ++ [z] := by
        obtain ⟨ys, rfl⟩ := List.getLast?_eq_some_iff.mp hl
        simp
      cases r with
      | tup e r =>
        rename_i a vs
        have hsz := r.length
        have hv : ∃ vs0 vz, vs = vs0 ++ [vz] ∧ RepL X.K X.mg W1 vs0 ds.dropLast ∧ Rep X.K X.mg W1 vz z := by
          have hk : ds.length = ds.dropLast.length + 1 := by
            have := congrArg List.length hds
            rwa [List.length_append, List.length_singleton] at this
          refine ⟨vs.take ds.dropLast.length, ?_⟩
          have r0 := r.take ds.dropLast.length
          have hzz : ds[ds.dropLast.length]? = some z := by conv => lhs; rw [hds]; simp
          obtain ⟨vz, e1, rz⟩ := r.get hzz
          have htk : ds.take ds.dropLast.length = ds.dropLast := by
            conv => lhs; arg 2; rw [hds]
            exact List.take_left' rfl
          rw [htk] at r0
          refine ⟨vz, ?_, r0, rz⟩
          have : vs.take (ds.dropLast.length + 1) = vs.take ds.dropLast.length ++ [vz] := by rw [List.take_succ, e1]; rfl
          rw [← this, List.take_of_length_le (by omega)]
        obtain ⟨vs0, vz, rfl, r0, rz⟩ := hv
        refine ⟨a, vs0, vz, rfl, Same.seqT s.ok.sub e, fun p hp => ?_⟩
        have s2 := Stp.laidOwn s.ok hp (.lst vs0)
        have vr : VRep X.K X.mg n H1 W1 (upd H1 p (.lst vs0)) (.ref p) (.own (.lst ds.dropLast)) := ⟨p, rfl, ⟨vs0, upd_same, r0⟩, hp, s.ok.sub.free hp, s.ok.notTown hp⟩
        obtain ⟨W2, s3, l3, r3⟩ := VRep.freeze s2 vr
        have spn := sp.trans (s.trans s3)
        have t1 := Sto.set (i := i) (dv := .v (.lst ds.dropLast)) (st.step (s.trans s3)) spn (.refl spn.ok) r3 (fun _ z => by cases z)
        have t2 := Sto.set (i := j) (dv := .v z) t1 spn (.refl spn.ok) (rz.le s3.le) (fun _ z => by cases z)
        exact g.nx W2 _ _ _ (s.trans s3).le spn t2 hq
  | _ => exact hq.elim
theorem keepV_get {δ : Sl} {i : Nat} {dv : DV} (h : (δ.map keepV)[i]? = some (some dv)) : ∃ d, dv = .v d ∧ δ[i]? = some (some (.v d)) := by
  rw [List.getElem?_map] at h
  cases e : δ[i]? with
  | none => rw [e] at h; cases h
  | some o =>
    rw [e] at h
    have h : keepV o = some dv := Option.some.inj h
    cases o with
    | none => cases h
    | some dw => cases dw <;> cases h; exact ⟨_, rfl, rfl⟩
theorem unbp_get {δ : Sl} {i : Nat} {dv : DV} (h : (δ.map unbp)[i]? = some (some dv)) : δ[i]? = some (some dv) ∧ ∃ d, dv = .v d ∨ dv = .own d := by
  rw [List.getElem?_map] at h
  cases e : δ[i]? with
  | none => rw [e] at h; cases h
  | some o =>
    rw [e] at h
    have h : unbp o = some dv := Option.some.inj h
    cases o with
    | none => cases h
    | some dw => cases dw <;> cases h <;> exact ⟨rfl, _, by first | exact .inl rfl | exact .inr rfl⟩
/-- the slots that stand still, from here on -/
theorem Sto.keepV {K : PySem.W.Frag} {mg : Str → Option Value} {W : Wd} {H : Hp} {σ : L2.St} {δ : Sl} (t : Sto K mg n W H σ δ) : Sto K mg (W, H) W H σ (δ.map TT.keepV) := by
  obtain ⟨l, ow, h1, h2, h3⟩ := t
  refine ⟨by rw [List.length_map]; exact l, fun _ => none, fun i dv e => ?_, (fun _ _ _ z => nomatch z), (fun _ _ z => nomatch z)⟩
  obtain ⟨d, rfl, e2⟩ := keepV_get e
  obtain ⟨v, e3, r⟩ := h1 i _ e2
  exact ⟨v, e3, r⟩
/-- .. as the whole body sees them -/
theorem Sto.up {K : PySem.W.Frag} {mg : Str → Option Value} {W0 W : Wd} {H0 H : Hp} {σ : L2.St} {δ : Sl} (s : Stp n.1 n.2 W0 H0) (t : Sto K mg (W0, H0) W H σ δ) : Sto K mg n W H σ (δ.map unbp) := by
  obtain ⟨l, ow, h1, h2, h3⟩ := t
  refine ⟨by rw [List.length_map]; exact l, ow, fun i dv e => ?_, h2, fun i a e => ?_⟩
  · obtain ⟨e2, d, hd⟩ := unbp_get e
    obtain ⟨v, e3, r⟩ := h1 i _ e2
    refine ⟨v, e3, ?_⟩
    rcases hd with rfl | rfl
    · exact r
    · exact r
  · obtain ⟨a1, a2, a3⟩ := h3 i a e
    exact ⟨s.fresh a1, a2, a3⟩
theorem Sto.caught {K : PySem.W.Frag} {mg : Str → Option Value} {W : Wd} {H : Hp} {σ : L2.St} {δ : Sl} {a C : Addr} {c : Str} {j : Nat} (hl : σ.length = δ.length) (hj : σ[j]? = some (some (.ref a))) (ha : W.F a = some (ErrX (.ref C) none a)) (hm : mg c = some (.ref C)) : Sto K mg n W H σ (TT.caught c j δ) := by
  refine ⟨by unfold TT.caught; rw [List.length_set, List.length_replicate]; exact hl, fun _ => none, fun i dv e => ?_, (fun _ _ _ z => nomatch z), (fun _ _ z => nomatch z)⟩
  unfold TT.caught at e
  by_cases hi : i = j
  · subst hi
    have lt := (List.getElem?_eq_some_iff.mp hj).1
    rw [List.getElem?_set_self (by rw [List.length_replicate, ← hl]; exact lt)] at e
    cases e
    exact ⟨_, hj, Rep.err ha hm⟩
  · rw [List.getElem?_set_ne (Ne.symm hi), List.getElem?_replicate] at e
    split at e <;> cases e
theorem sh1_lc {sc : Scope} {p : P1} {e : Expr} {gs : List Comprehension} {s2 : Scope} {q : Pos} : sh1 sc p (.ListComp e gs s2 q) = none := by cases p <;> rfl
theorem sh2_lc {sc : Scope} {p : P2} {e : Expr} {gs : List Comprehension} {s2 : Scope} {q : Pos} : sh2 sc p (.ListComp e gs s2 q) = none := by cases p <;> rfl
mutual
theorem soundS : ∀ (x : Sx) {X : Cx} {E : XK} {n : N0} {Ed : Str → Prop} {lv : Nat} (c : CtxS X E n Ed lv) {s : Stmt}, chkS X.N X.env.scope x s = true → okS (topOf X lv) x → PS X s (cS X.K X.mg n (wS Ed x))
  | .set i e, X, E, n, Ed, lv, c, s, h, ho => by
    simp only [chkS] at h
    split at h
    · rename_i t f hx
      split at h
      · rename_i x hn
        simp only [Bool.and_eq_true, decide_eq_true_eq] at h
        obtain ⟨⟨h1, h2⟩, h3, h4⟩ := h
        obtain ⟨p, rfl⟩ := dAssign_eq hx
        obtain ⟨p', rfl⟩ := dName_eq hn
        simp only [okS] at ho
        simp only [wS]
        have he := soundE e c.toCtx h4 ho
        cases hc : dComp f with
        | none =>
          unfold setOk at h3
          rw [hc] at h3
          exact PS.imp (ps_set c.nd h1 (isOwn_loc h2) he.1 (swap_no hc (by simpa using h3) _) (.inl (c.fn x))) fun D σ H z => cS.set z
        | some t =>
          obtain ⟨elt, gs, scope⟩ := t
          obtain ⟨pc, rfl⟩ := dComp_eq hc
          cases hb : lcSwap X.env.scope x p'.line pc.line scope with
          | false => exact PS.imp (ps_set c.nd h1 (isOwn_loc h2) he.1 (lc_plain c.kind hb) (.inl (c.fn x))) fun D σ H z => cS.set z
          | true =>
            -- stored within the comprehension's frame
            cases e <;> simp only [chkE, dName, dConst, dTup, dLst, dBin, dUn, dCmp, dBool, dIte, dSub, dCall, sh1_lc, sh2_lc] at h4 <;> try exact absurd h4 Bool.false_ne_true
            · rename_i own t it d el
              simp only [dComp] at h4
              split at h4
              · rename_i f2 tg iter ifs sc2 hx2
                cases hx2
                simp only [Bool.and_eq_true, decide_eq_true_eq, Bool.not_eq_true'] at h4
                obtain ⟨⟨g1, g2, g3⟩, ⟨g4, g5⟩, g6, g7⟩ := h4
                simp only [okE] at ho
                have ok := blkOk_by g1
                have hi := soundI it true c.toCtx.mask (tg := tg) g5 ho.1
                unfold lcSwap at hb
                simp only [Bool.and_eq_true, decide_eq_true_eq, Bool.not_eq_true'] at hb
                refine PS.imp (ps_setLc (g := cG X.K X.mg n t.slots (tgD t)) (tt := cT X.K X.mg n (wO (fun _ => False) d)) (te := cV X.K X.mg n false (co false (wE (fun _ => False) el))) c.calm c.nd h1 hb.1 (sw_true c.kind hb.1 hb.2.1 hb.2.2) hi ok (fun s H C cl fp => ?_) (fun s H C cl fp => ?_) (fun s H C cl fp => ?_) (set_no g4)) fun D σ H z => ?_
                · exact soundT (X := X.blk s H scope (PySem.compEnvC scope cl C X.env) fp) c.nd c.calm (fun x hx => isOwn_rel hx) t g3
                · exact soundO d (c.toCtx.blk s H ok.kind C cl fp) g6 ho.2.1
                · exact dv_of false (soundE el (c.toCtx.blk s H ok.kind C cl fp) g7 ho.2.2).1
                · have := cS.set z
                  simp only [wE] at this
                  exact cE.comp (by simpa using g2) this
              · cases h4
            · rename_i own t it d t1 it1 d1 el
              simp only [dComp] at h4
              split at h4
              · rename_i f2 tg iter ifs tg1 iter1 ifs1 sc2 hx2
                cases hx2
                simp only [Bool.and_eq_true, decide_eq_true_eq, Bool.not_eq_true'] at h4
                obtain ⟨⟨g1, ⟨g2, g2'⟩, g3, g3'⟩, ⟨g4, g4', g5, g5'⟩, ⟨g6, g6'⟩, g7⟩ := h4
                simp only [okE] at ho
                have ok := blkOk_by g1
                have hi := soundI it true c.toCtx.mask (tg := tg) g5 ho.1
                unfold lcSwap at hb
                simp only [Bool.and_eq_true, decide_eq_true_eq, Bool.not_eq_true'] at hb
                refine PS.imp (ps_setLc2 (vs1 := t1.slots) (g := cG X.K X.mg n t.slots (tgD t)) (tt := cT X.K X.mg n (wO (fun _ => False) d)) (wi1 := cI X.K X.mg n false (wI false (fun _ => False) it1)) (g1 := cG X.K X.mg n t1.slots (tgD t1)) (tt1 := cT X.K X.mg n (wO (fun _ => False) d1)) (te := cV X.K X.mg n false (co false (wE (fun _ => False) el))) c.calm c.nd h1 hb.1 (sw_true c.kind hb.1 hb.2.1 hb.2.2) hi ok g2' (fun s H C cl fp => ?_) (fun s H C cl fp => ?_) (fun s H C cl fp => ?_) (fun s H C cl fp => ?_) (fun s H C cl fp => ?_) (fun s H C cl fp => ?_) (set_no g4) (fun env x => set_no g4' x)) fun D σ H z => ?_
                · exact soundT (X := X.blk s H scope (PySem.compEnvC scope cl C X.env) fp) c.nd c.calm (fun x hx => isOwn_rel hx) t g3
                · exact soundO d (c.toCtx.blk s H ok.kind C cl fp) g6 ho.2.1
                · exact soundI it1 false (c.toCtx.blk s H ok.kind C cl fp) g5' ho.2.2.1
                · exact soundT (X := X.blk s H scope (PySem.compEnvC scope cl C X.env) fp) c.nd c.calm (fun x hx => isOwn_rel hx) t1 g3'
                · exact soundO d1 (c.toCtx.blk s H ok.kind C cl fp) g6' ho.2.2.2.1
                · exact dv_of false (soundE el (c.toCtx.blk s H ok.kind C cl fp) g7 ho.2.2.2.2).1
                · have := cS.set z
                  simp only [wE] at this
                  exact cE.comp2 (by simpa using g2) (fun _ z => z) this
              · cases h4
            · simp only [dComp] at h4
              split at h4
              · rename_i hx2
                cases hx2
                unfold setOk at h3
                rw [hc] at h3
                have h3 : (decide (_ ≤ 2) || !(lcSwap X.env.scope x p'.line pc.line scope)) = true := h3
                rw [hb] at h3
                simp at h3
              · cases h4
            · rename_i own t a b el
              split at h4
              · rename_i f2 tes tk tp g gp x2 y2 zp sc2 pp hx2
                cases hx2
                simp only [Bool.and_eq_true, decide_eq_true_eq, Bool.not_eq_true'] at h4
                obtain ⟨⟨g1, g2, g3⟩, ⟨k1, k2, k3, k3'⟩, ⟨k4, k5⟩, g7⟩ := h4
                subst k1
                simp only [okE] at ho
                have ok := blkOk_by g1
                have pab := da_cons (dv_of false (soundE a c.toCtx.mask k4 ho.2.1).1) (da_cons (dv_of false (soundE b c.toCtx.mask k5 ho.2.2.1).1) da_nil (star_cons k3')) (star_cons k3)
                have hi := di_zip (p := gp) (pos := zp) (elts := tes) (kk := tk) (tpos := tp) (isGl_ok k2) ho.1 pab (star_cons k3) (by rw [star_cons k3']; rfl)
                unfold lcSwap at hb
                simp only [Bool.and_eq_true, decide_eq_true_eq, Bool.not_eq_true'] at hb
                refine PS.imp (ps_setLc (g := cG X.K X.mg n t.slots (tgD t)) (tt := cT X.K X.mg n (fun _ q => q true)) (te := cV X.K X.mg n false (co false (wE (fun _ => False) el))) c.calm c.nd h1 hb.1 (sw_true c.kind hb.1 hb.2.1 hb.2.2) hi ok (fun s H C cl fp => ?_) (fun s H C cl fp => ?_) (fun s H C cl fp => ?_) (set_no rfl)) fun D σ H z => ?_
                · exact soundT (X := X.blk s H scope (PySem.compEnvC scope cl C X.env) fp) c.nd c.calm (fun x hx => isOwn_rel hx) t g3
                · exact ⟨fun pins s σ H Q I hw => pts_nil.run pins s σ H Q I (by
                    obtain ⟨W, δ, q, st, sp, hw, k⟩ := hw
                    exact k W H true (.refl sp.ok) hw)⟩
                · exact dv_of false (soundE el (c.toCtx.blk s H ok.kind C cl fp) g7 ho.2.2.2).1
                · have := cS.set z
                  simp only [wE] at this
                  exact cE.comp (by simpa using g2) this
              · cases h4
      · cases h
    · cases h
  | .setv i e, X, E, n, Ed, lv, c, s, h, ho => by
    simp only [chkS] at h
    split at h
    · rename_i t f hx
      split at h
      · rename_i x hn
        simp only [Bool.and_eq_true, decide_eq_true_eq] at h
        obtain ⟨⟨h1, h2⟩, h3, h4⟩ := h
        obtain ⟨p, rfl⟩ := dAssign_eq hx
        obtain ⟨p', rfl⟩ := dName_eq hn
        simp only [okS] at ho
        simp only [wS]
        have he := soundE e c.toCtx h4 ho
        cases hc : dComp f with
        | none =>
          unfold setOk at h3
          rw [hc] at h3
          exact PS.imp (ps_set c.nd h1 (isOwn_loc h2) (dv_of false he.1) (swap_no hc (by simpa using h3) _) (.inl (c.fn x))) fun D σ H z => cS.setv z
        | some t =>
          obtain ⟨elt, gs, scope⟩ := t
          obtain ⟨pc, rfl⟩ := dComp_eq hc
          cases hb : lcSwap X.env.scope x p'.line pc.line scope with
          | false => exact PS.imp (ps_set c.nd h1 (isOwn_loc h2) (dv_of false he.1) (lc_plain c.kind hb) (.inl (c.fn x))) fun D σ H z => cS.setv z
          | true =>
            -- stored within the comprehension's frame
            cases e <;> simp only [chkE, dName, dConst, dTup, dLst, dBin, dUn, dCmp, dBool, dIte, dSub, dCall, sh1_lc, sh2_lc] at h4 <;> try exact absurd h4 Bool.false_ne_true
            · rename_i own t it d el
              simp only [dComp] at h4
              split at h4
              · rename_i f2 tg iter ifs sc2 hx2
                cases hx2
                simp only [Bool.and_eq_true, decide_eq_true_eq, Bool.not_eq_true'] at h4
                obtain ⟨⟨g1, g2, g3⟩, ⟨g4, g5⟩, g6, g7⟩ := h4
                simp only [okE] at ho
                have ok := blkOk_by g1
                have hi := soundI it true c.toCtx.mask (tg := tg) g5 ho.1
                unfold lcSwap at hb
                simp only [Bool.and_eq_true, decide_eq_true_eq, Bool.not_eq_true'] at hb
                refine PS.imp (ps_setLc (g := cG X.K X.mg n t.slots (tgD t)) (tt := cT X.K X.mg n (wO (fun _ => False) d)) (te := cV X.K X.mg n false (co false (wE (fun _ => False) el))) c.calm c.nd h1 hb.1 (sw_true c.kind hb.1 hb.2.1 hb.2.2) hi ok (fun s H C cl fp => ?_) (fun s H C cl fp => ?_) (fun s H C cl fp => ?_) (set_no g4)) fun D σ H z => ?_
                · exact soundT (X := X.blk s H scope (PySem.compEnvC scope cl C X.env) fp) c.nd c.calm (fun x hx => isOwn_rel hx) t g3
                · exact soundO d (c.toCtx.blk s H ok.kind C cl fp) g6 ho.2.1
                · exact dv_of false (soundE el (c.toCtx.blk s H ok.kind C cl fp) g7 ho.2.2).1
                · have := cV.ofL (m := false) (w' := fun δ k => wI true (fun _ => False) it δ fun ds => compD t (wO (fun _ => False) d) (co false (wE (fun _ => False) el)) (wipeD δ (own.map (·.2))) k ds []) (by have z := cS.setv z; simp only [wE] at z; exact z)
                  exact cE.comp (by simpa using g2) this
              · cases h4
            · rename_i own t it d t1 it1 d1 el
              simp only [dComp] at h4
              split at h4
              · rename_i f2 tg iter ifs tg1 iter1 ifs1 sc2 hx2
                cases hx2
                simp only [Bool.and_eq_true, decide_eq_true_eq, Bool.not_eq_true'] at h4
                obtain ⟨⟨g1, ⟨g2, g2'⟩, g3, g3'⟩, ⟨g4, g4', g5, g5'⟩, ⟨g6, g6'⟩, g7⟩ := h4
                simp only [okE] at ho
                have ok := blkOk_by g1
                have hi := soundI it true c.toCtx.mask (tg := tg) g5 ho.1
                unfold lcSwap at hb
                simp only [Bool.and_eq_true, decide_eq_true_eq, Bool.not_eq_true'] at hb
                refine PS.imp (ps_setLc2 (vs1 := t1.slots) (g := cG X.K X.mg n t.slots (tgD t)) (tt := cT X.K X.mg n (wO (fun _ => False) d)) (wi1 := cI X.K X.mg n false (wI false (fun _ => False) it1)) (g1 := cG X.K X.mg n t1.slots (tgD t1)) (tt1 := cT X.K X.mg n (wO (fun _ => False) d1)) (te := cV X.K X.mg n false (co false (wE (fun _ => False) el))) c.calm c.nd h1 hb.1 (sw_true c.kind hb.1 hb.2.1 hb.2.2) hi ok g2' (fun s H C cl fp => ?_) (fun s H C cl fp => ?_) (fun s H C cl fp => ?_) (fun s H C cl fp => ?_) (fun s H C cl fp => ?_) (fun s H C cl fp => ?_) (set_no g4) (fun env x => set_no g4' x)) fun D σ H z => ?_
                · exact soundT (X := X.blk s H scope (PySem.compEnvC scope cl C X.env) fp) c.nd c.calm (fun x hx => isOwn_rel hx) t g3
                · exact soundO d (c.toCtx.blk s H ok.kind C cl fp) g6 ho.2.1
                · exact soundI it1 false (c.toCtx.blk s H ok.kind C cl fp) g5' ho.2.2.1
                · exact soundT (X := X.blk s H scope (PySem.compEnvC scope cl C X.env) fp) c.nd c.calm (fun x hx => isOwn_rel hx) t1 g3'
                · exact soundO d1 (c.toCtx.blk s H ok.kind C cl fp) g6' ho.2.2.2.1
                · exact dv_of false (soundE el (c.toCtx.blk s H ok.kind C cl fp) g7 ho.2.2.2.2).1
                · have := cV.ofL (m := false) (w' := fun δ k => wI true (fun _ => False) it δ fun ds => comp2D t (wO (fun _ => False) d) (wI false (fun _ => False) it1) t1 (wO (fun _ => False) d1) (co false (wE (fun _ => False) el)) t1.slots (wipeD δ (own.map (·.2))) k ds []) (by have z := cS.setv z; simp only [wE] at z; exact z)
                  exact cE.comp2 (by simpa using g2) (fun _ z => z) this
              · cases h4
            · simp only [dComp] at h4
              split at h4
              · rename_i hx2
                cases hx2
                unfold setOk at h3
                rw [hc] at h3
                have h3 : (decide (_ ≤ 2) || !(lcSwap X.env.scope x p'.line pc.line scope)) = true := h3
                rw [hb] at h3
                simp at h3
              · cases h4
            · rename_i own t a b el
              split at h4
              · rename_i f2 tes tk tp g gp x2 y2 zp sc2 pp hx2
                cases hx2
                simp only [Bool.and_eq_true, decide_eq_true_eq, Bool.not_eq_true'] at h4
                obtain ⟨⟨g1, g2, g3⟩, ⟨k1, k2, k3, k3'⟩, ⟨k4, k5⟩, g7⟩ := h4
                subst k1
                simp only [okE] at ho
                have ok := blkOk_by g1
                have pab := da_cons (dv_of false (soundE a c.toCtx.mask k4 ho.2.1).1) (da_cons (dv_of false (soundE b c.toCtx.mask k5 ho.2.2.1).1) da_nil (star_cons k3')) (star_cons k3)
                have hi := di_zip (p := gp) (pos := zp) (elts := tes) (kk := tk) (tpos := tp) (isGl_ok k2) ho.1 pab (star_cons k3) (by rw [star_cons k3']; rfl)
                unfold lcSwap at hb
                simp only [Bool.and_eq_true, decide_eq_true_eq, Bool.not_eq_true'] at hb
                refine PS.imp (ps_setLc (g := cG X.K X.mg n t.slots (tgD t)) (tt := cT X.K X.mg n (fun _ q => q true)) (te := cV X.K X.mg n false (co false (wE (fun _ => False) el))) c.calm c.nd h1 hb.1 (sw_true c.kind hb.1 hb.2.1 hb.2.2) hi ok (fun s H C cl fp => ?_) (fun s H C cl fp => ?_) (fun s H C cl fp => ?_) (set_no rfl)) fun D σ H z => ?_
                · exact soundT (X := X.blk s H scope (PySem.compEnvC scope cl C X.env) fp) c.nd c.calm (fun x hx => isOwn_rel hx) t g3
                · exact ⟨fun pins s σ H Q I hw => pts_nil.run pins s σ H Q I (by
                    obtain ⟨W, δ, q, st, sp, hw, k⟩ := hw
                    exact k W H true (.refl sp.ok) hw)⟩
                · exact dv_of false (soundE el (c.toCtx.blk s H ok.kind C cl fp) g7 ho.2.2.2).1
                · have := cV.ofL (m := false) (w' := fun δ k => wZip (waCons (co false (wE (fun _ => False) a)) (waCons (co false (wE (fun _ => False) b)) waNil)) δ fun ds => compD t (fun _ q => q true) (co false (wE (fun _ => False) el)) (wipeD δ (own.map (·.2))) k ds []) (by have z := cS.setv z; simp only [wE] at z; exact z)
                  exact cE.comp (by simpa using g2) this
              · cases h4
      · cases h
    · cases h
  | .par i j a b, X, E, n, Ed, lv, c, s, h, ho => by
    simp only [chkS] at h
    split at h
    · rename_i x px y py _ _ fa fb _ _ hx
      simp only [Bool.and_eq_true, decide_eq_true_eq] at h
      obtain ⟨⟨h1, h2⟩, h3, h4⟩ := h
      obtain ⟨p, rfl⟩ := dAssign_eq hx
      simp only [okS] at ho
      simp only [wS]
      have ha := soundA [a, b] [false, false] c.toCtx rfl h4 (by simp only [okL]; exact ⟨ho.1, ho.2, trivial⟩)
      have hs := h3
      simp only [swapOk, Bool.and_eq_true, decide_eq_true_eq] at hs
      have hij : i ≠ j := by
        rintro rfl
        rw [h1] at h2
        cases h2
        exact hs.2.2.1 rfl
      exact PS.imp (ps_par c.calm c.nd h1 h2 hij hs.1.1 hs.1.2 ha (swap_two c.kind h3) swap_tup) fun D σ H z => cS.par z
    · cases h
  | .par3 i j l a b d, X, E, n, Ed, lv, c, s, h, ho => by
    simp only [chkS] at h
    split at h
    · rename_i x px y py z pz _ _ fa fb fc _ _ hx
      simp only [Bool.and_eq_true, decide_eq_true_eq] at h
      obtain ⟨⟨⟨h1, h2⟩, h2'⟩, h3, h4⟩ := h
      obtain ⟨p, rfl⟩ := dAssign_eq hx
      simp only [okS] at ho
      simp only [wS]
      have ha := soundA [a, b, d] [false, false, false] c.toCtx rfl h4 (by simp only [okL]; exact ⟨ho.1, ho.2.1, ho.2.2, trivial⟩)
      have hs := h3
      simp only [swapOk3, Bool.and_eq_true, decide_eq_true_eq] at hs
      have hij : i ≠ j := by
        rintro rfl
        rw [h1] at h2
        cases h2
        exact hs.2.2.1.1.1 rfl
      have hil : i ≠ l := by
        rintro rfl
        rw [h1] at h2'
        cases h2'
        exact hs.2.2.1.1.2 rfl
      have hjl : j ≠ l := by
        rintro rfl
        rw [h2] at h2'
        cases h2'
        exact hs.2.2.1.2 rfl
      exact PS.imp (ps_par3 c.calm c.nd h1 h2 h2' hij hil hjl hs.1.1.1 hs.1.1.2 hs.1.2 ha (swap_three c.kind h3) swap_tup) fun D σ H z => cS.par3 z
    · cases h
  | .tgt t e, X, E, n, Ed, lv, c, s, h, ho => by
    simp only [chkS] at h
    split at h
    · rename_i f v hx
      simp only [Bool.and_eq_true, decide_eq_true_eq] at h
      obtain ⟨⟨h1, h2, h3⟩, h4⟩ := h
      obtain ⟨p, rfl⟩ := dAssign_eq hx
      obtain ⟨es, hes⟩ := Option.isSome_iff_exists.mp h1
      obtain ⟨k, p', rfl⟩ := dTup_eq hes
      simp only [okS] at ho
      simp only [wS]
      have hg := soundT (n := n) c.nd c.calm (raw := X.env.scope) (fun x hx => ⟨isOwn_loc hx, .inl (c.fn x)⟩) t h3
      exact PS.imp (ps_asg (dv_of false (soundE e c.toCtx h4 ho).1) hg swap_tup (stores_long h2) rfl) fun D σ H z => cS.tgt z
    · cases h
  | .star i j e, X, E, n, Ed, lv, c, s, h, ho => by
    simp only [chkS] at h
    split at h
    · rename_i x y v hx
      simp only [Bool.and_eq_true, decide_eq_true_eq] at h
      obtain ⟨⟨h1, h2⟩, ⟨h3, h4⟩, h5, h6⟩ := h
      obtain ⟨p, p1, p2, k, p3, pos, rfl⟩ := dStar_eq hx
      simp only [okS] at ho
      simp only [wS]
      have hn : dTup v = none := by simpa using h5
      exact PS.imp (ps_asg (dv_of false (soundE e c.toCtx h6 ho).1) (pg_star c.calm c.nd h1 (isOwn_loc h3) (c.fn _) h2 (isOwn_loc h4) (c.fn _)) swap_tup (stores_no hn) rfl) fun D σ H z => cS.star z
    · cases h
  | .expr e, X, E, n, Ed, lv, c, s, h, ho => by
    cases s <;> simp only [chkS] at h <;> try exact absurd h Bool.false_ne_true
    rename_i f pos
    simp only [Bool.and_eq_true, decide_eq_true_eq, Bool.not_eq_true'] at h
    simp only [okS] at ho
    simp only [wS]
    exact ds_expr (soundE e c.toCtx h.2 ho).1 (swap_no (by simpa using h.1.1) h.1.2 _)
  | .app i e, X, E, n, Ed, lv, c, s, h, ho => by
    cases s <;> simp only [chkS] at h <;> try exact absurd h Bool.false_ne_true
    rename_i f pos
    split at h
    · rename_i x v l l' hx
      simp only [Bool.and_eq_true, decide_eq_true_eq, Bool.not_eq_true'] at h
      obtain ⟨⟨h1, h2, h3⟩, h4, h5, h6⟩ := h
      obtain ⟨p, pa, pc, rfl, rfl, rfl⟩ := dApp_eq hx
      simp only [okS] at ho
      simp only [wS]
      exact ds_app h1 (vis_ok h2) (okN_1 h3) (okN_2 h3) (dv_of false (soundE e c.toCtx h6 ho).1) (star_cons h5) h4
    · cases h
  | .ret e, X, E, n, Ed, lv, c, s, h, ho => by
    cases s <;> simp only [chkS] at h <;> try exact absurd h Bool.false_ne_true
    rename_i f pos
    cases f <;> simp only at h <;> try exact absurd h Bool.false_ne_true
    simp only [okS] at ho
    simp only [wS]
    exact ds_ret (soundE e c.toCtx h ho).1
  | .retN, X, E, n, Ed, lv, c, s, h, ho => by
    cases s <;> simp only [chkS] at h <;> try exact absurd h Bool.false_ne_true
    rename_i f pos
    cases f <;> simp only at h <;> try exact absurd h Bool.false_ne_true
    simp only [wS]
    exact ds_retN
  | .retO i, X, E, n, Ed, lv, c, s, h, ho => by
    cases s <;> simp only [chkS] at h <;> try exact absurd h Bool.false_ne_true
    rename_i f pos
    cases f <;> simp only at h <;> try exact absurd h Bool.false_ne_true
    split at h
    · rename_i x hx
      simp only [Bool.and_eq_true, decide_eq_true_eq] at h
      obtain ⟨p, rfl⟩ := dName_eq hx
      simp only [wS]
      exact ds_retO h.1 (vis_ok h.2.1) (okN_1 h.2.2) (okN_2 h.2.2)
    · cases h
  | .ifs d a b, X, E, n, Ed, lv, c, s, h, ho => by
    cases s <;> simp only [chkS] at h <;> try exact absurd h Bool.false_ne_true
    simp only [Bool.and_eq_true] at h
    simp only [okS] at ho
    simp only [wS]
    exact ds_if (soundE d c.toCtx h.1 ho.1).2 (soundB a c h.2.1 ho.2.1) (soundB b c h.2.2 ho.2.2)
  | .forr t it b, X, E, n, Ed, lv, c, s, h, ho => by
    cases s <;> simp only [chkS] at h <;> try exact absurd h Bool.false_ne_true
    rename_i f iter x orelse pos
    cases orelse <;> simp only at h <;> try exact absurd h Bool.false_ne_true
    simp only [Bool.and_eq_true, Bool.not_eq_true'] at h
    obtain ⟨⟨h1, h2⟩, h3, h4⟩ := h
    simp only [okS] at ho
    simp only [wS]
    have hg := soundT (n := n) c.nd c.calm (raw := X.env.scope) (fun x hx => ⟨isOwn_loc hx, .inl (c.fn x)⟩) t h2
    exact ds_for c.pos c.calm (soundI it false c.toCtx h3 ho.1) hg (soundB b c h4 ho.2) (set_no h1)
  | .loop d b, X, E, n, Ed, lv, c, s, h, ho => by
    cases s <;> simp only [chkS] at h <;> try exact absurd h Bool.false_ne_true
    rename_i f x orelse pos
    cases orelse <;> simp only at h <;> try exact absurd h Bool.false_ne_true
    simp only [Bool.and_eq_true] at h
    simp only [okS] at ho
    simp only [wS]
    exact ds_while c.pos (soundE d c.toCtx h.1 ho.1).2 (soundB b c h.2 ho.2)
  | .raise d, X, E, n, Ed, lv, c, s, h, ho => by
    simp only [chkS, Bool.and_eq_true, decide_eq_true_eq] at h
    obtain ⟨h1, h2, h3⟩ := h
    obtain ⟨p, m, j, p2, pos, pos', rfl⟩ := dRaise_eq h1
    simp only [okS] at ho
    obtain ⟨C, gC, xC, kC, bC, tC⟩ := ho
    simp only [wS]
    exact ds_raise c.toCtx c.takes gC (pmk_own PySem.F.excBase_ValueError xC gC kC (raises_own bC tC) (isGl_ok h2) (okN_1 h3))
  | .pass, X, E, n, Ed, lv, c, s, h, ho => by
    cases s <;> simp only [chkS] at h <;> try exact absurd h Bool.false_ne_true
    simp only [wS]
    exact ds_pass
  | .frz i, X, E, n, Ed, lv, c, s, h, ho => by simp [chkS] at h
  | .tryK b cn i j, X, E, n, Ed, lv, c, s, h, ho => by
    simp only [chkS] at h
    split at h
    · rename_i bd cn2 e t hx
      simp only [Bool.and_eq_true, decide_eq_true_eq] at h
      obtain ⟨⟨⟨rfl, h1, h2⟩, h3, h4⟩, ⟨h5, h6⟩, ⟨h7, h8⟩, h9⟩ := h
      obtain ⟨np, tp, ep, ap, p1, pos, rfl⟩ := dTry_eq hx
      simp only [okS] at ho
      obtain ⟨⟨T, hT, hE⟩, hb⟩ := ho
      simp only [wS]
      have rule := ps_keep (np := np) (tp := tp) (ep := ep) (ap := ap) (p1 := p1) (pos := pos) (body := bd) (x := cn2) (c := .ref T)
        (tb := fun Wx D σ H => ∃ (n' : N0) (Ed' : Str → Prop), (∀ c C W' H' σ', Ed' c → X.mg c = some (.ref C) → Stp n'.1 n'.2 W' H' → Wx (.ref C) none σ' H') ∧ cS X.K X.mg n' (wBk Ed' b) D σ H)
        c.stk c.frm c.nd h3 h4 h5 h7 h8 ⟨isGl_ok h1, okN_1 h2, .inl hT⟩ (okN_1 h6) (okN_2 h6) fun Wx pn xe tk po => by
          constructor
          rintro pins s σ H D I ⟨n', Ed', hw, hc⟩
          have tk2 : Takes (X.tr pn xe) (fun cls d _ H => (fun cls d H => ∀ σ', Wx cls d σ' H) cls d H) := tk.imp fun cls d σ H z => z σ
          have c2 : CtxS (X.tr pn xe) (fun cls d H => ∀ σ', Wx cls d σ' H) n' Ed' lv :=
            ⟨⟨c.nd, c.calm, c.kind, c.room, passes_call tk2 fun _ _ _ _ h => h, fun c' C W' H' he hm st σ' => hw c' C W' H' σ' he hm st⟩, c.fn, po, tk2, c.stk, c.frm⟩
          exact (soundB b c2 h9 hb).run pins s σ H D I hc
      refine PS.imp rule fun D σ H ⟨W, δ, k, st, sp, hw, g⟩ hl => ⟨(W, H), _, ?_, W, _, _, st.keepV, .refl sp.ok, hw, ?_, ?_, ?_, ?_⟩
      · rintro c' C W' H' σ' ⟨hc', hk⟩ hm s
        refine ⟨hE c' hc' C hm, fun a σ'' ha hl2 hj2 => ?_⟩
        have s2 := Stp.laid s.ok ha (ErrX (.ref C) none a)
        exact g.nx _ _ σ'' _ (s.trans s2).le ((sp.trans s).trans s2) (Sto.caught (by rw [hl2, ← hl]; exact st.len) hj2 (by show upd W'.F a _ a = _; rw [upd_same]) hm) hk
      · intro W' H' σ' δ' l s t h
        exact g.nx W' H' σ' _ l (sp.trans s) (t.up sp) h
      · intro _ _ _ _ _ _ _ h; exact h.elim
      · intro _ _ _ _ _ _ _ h; exact h.elim
      · intro _ _ _ _ _ _ h; exact h.elim
    · cases h
  | .fld i cn f e, X, E, n, Ed, lv, c, s, h, ho => by
    simp only [chkS] at h
    split at h
    · rename_i x g v hx
      simp only [Bool.and_eq_true, decide_eq_true_eq] at h
      obtain ⟨⟨h1, rfl, h2, h3⟩, h4⟩ := h
      obtain ⟨p, pa, pos, rfl⟩ := dFld_eq hx
      simp only [okS] at ho
      simp only [wS]
      exact ds_fld ho.1 h1 (vis_ok h2) (okN_1 h3) (okN_2 h3) (dv_of false (soundE e c.toCtx h4 ho.2).1) swap_att
    · cases h
  | .forP i t b, X, E, n, Ed, lv, c, s, h, ho => by
    simp only [chkS] at h
    split at h
    · simp only [Bool.and_eq_true, decide_eq_true_eq] at h
      obtain ⟨⟨h1, h2, h3⟩, h4, h5⟩ := h
      simp only [okS] at ho
      simp only [wS]
      have hg := soundT (n := n) c.nd c.calm (raw := X.env.scope) (fun x hx => ⟨isOwn_loc hx, .inl (c.fn x)⟩) t h4
      exact ds_forP c.pos c.calm h1 (vis_ok h2) (okN_1 h3) (okN_2 h3) hg (soundB b c h5 ho)
    · cases h
  | .fldL i cn f e, X, E, n, Ed, lv, c, s, h, ho => by
    simp only [chkS] at h
    split at h
    · rename_i x g v hx
      simp only [Bool.and_eq_true, decide_eq_true_eq] at h
      obtain ⟨⟨h1, rfl, h2, h3⟩, h4⟩ := h
      obtain ⟨p, pa, pos, rfl⟩ := dFld_eq hx
      simp only [okS] at ho
      simp only [wS]
      exact ds_fldL ho.1 h1 (vis_ok h2) (okN_1 h3) (okN_2 h3) (soundE e c.toCtx h4 ho.2).1 swap_att
    · cases h
  | .supC i pn cn br S es, X, E, n, Ed, lv, c, s, h, ho => by
    simp only [chkS] at h
    split at h
    · rename_i y yp g apos z zp fs cpos pos
      simp only [Bool.and_eq_true, decide_eq_true_eq] at h
      obtain ⟨⟨⟨rfl, rfl⟩, h3, h4, h4'⟩, ⟨⟨h5, h6⟩, h7, h8, h9⟩, h10⟩ := h
      simp only [okS] at ho
      simp only [wS]
      have hl := chkL_len h10
      have hb := chkL_back (pos := cpos) (env := X.env) h10
      have hst : starEach (.Name z zp :: fs) X.env = (false, eval (.Name z zp) X.env) :: starEach fs X.env := star_cons rfl
      have hb2 : (backTo cpos (starEach (.Name z zp :: fs) X.env)).any (·.1) = false := by rw [hst]; exact hb
      have hf : methodCallForm ((Expr.Name z zp :: fs).length + 0) (backTo cpos (starEach (.Name z zp :: fs) X.env)) (backToKw cpos (keywordEach [] X.env)) = true := by
        unfold methodCallForm
        have : (backTo cpos (starEach (.Name z zp :: fs) X.env)).all (fun x => !x.1) = true := by
          rw [List.all_eq_true]
          intro x hx
          rw [List.any_eq_false] at hb2
          simpa using hb2 x hx
        rw [this]
        simp [keywordEach, backToKw]
        omega
      have ev := meth_eval (env := X.env) (m := "__init__") (apos := apos) (pos := cpos) (o := .Name y yp) (es := .Name z zp :: fs) rfl hf h3
      exact ds_sup c.toCtx ho.1 h7 (vis_ok h8) (okN_1 h9) (okN_2 h9) (isGl_ok h5) (okN_1 h6) (soundA es br c.toCtx h4' h10 ho.2) hst hb ev
    · cases h
  | .appL i cn f e, X, E, n, Ed, lv, c, s, h, ho => by
    cases s <;> simp only [chkS] at h <;> try exact absurd h Bool.false_ne_true
    rename_i q pos
    split at h
    · rename_i x g v l l' hx
      simp only [Bool.and_eq_true, decide_eq_true_eq, Bool.not_eq_true'] at h
      obtain ⟨⟨h1, rfl, h2, h3⟩, h4, h5, h6⟩ := h
      obtain ⟨p, p2, pa, pc, rfl, rfl, rfl⟩ := dAppL_eq hx
      simp only [okS] at ho
      simp only [wS]
      exact ds_appL ho.1 h1 (vis_ok h2) (okN_1 h3) (okN_2 h3) (dv_of false (soundE e c.toCtx h6 ho.2).1) (star_cons h5) h4
    · cases h
  | .sub i k e, X, E, n, Ed, lv, c, s, h, ho => by
    simp only [chkS] at h
    split at h
    · rename_i x j v hx
      simp only [Bool.and_eq_true, decide_eq_true_eq, Bool.not_eq_true'] at h
      obtain ⟨⟨h1, h2, h3⟩, h4, h5, h6⟩ := h
      obtain ⟨p, p2, pos, rfl⟩ := dSubA_eq hx
      simp only [okS] at ho
      simp only [wS]
      exact ds_sub (by have := c.units; omega) h1 (vis_ok h2) (okN_1 h3) (okN_2 h3) h4 (dv_of false (soundE k c.toCtx h5 ho.1).1) (dv_of false (soundE e c.toCtx h6 ho.2).1)
    · cases h
  | .sub2 i a b e f, X, E, n, Ed, lv, c, s, h, ho => by
    simp only [chkS] at h
    split at h
    · rename_i x p k1 q1 y p' k2 q2 kt pt f1 f2 kv pv hx
      simp only [Bool.and_eq_true, decide_eq_true_eq, Bool.not_eq_true'] at h
      obtain ⟨⟨⟨h1, h2, h3⟩, rfl⟩, ⟨⟨h4, h4'⟩, h5⟩, ⟨h6, h6'⟩, h7⟩ := h
      obtain ⟨pos, rfl⟩ := dAssign_eq hx
      simp only [okS] at ho
      simp only [wS]
      have ha := soundA [e, f] [false, false] c.toCtx rfl h7 (by simp only [okL]; exact ⟨ho.2.2.1, ho.2.2.2, trivial⟩)
      exact ds_sub2 c.calm (by have := c.units; omega) h1 (vis_ok h2) (okN_1 h3) (okN_2 h3) h4 h4' (dv_of false (soundE a c.toCtx h6 ho.1).1) (dv_of false (soundE b c.toCtx h6' ho.2.1).1) ha (stores_long h5)
    · cases h
  | .aug i up e, X, E, n, Ed, lv, c, s, h, ho => by
    simp only [chkS] at h
    split at h
    · rename_i x op v hx
      simp only [Bool.and_eq_true, decide_eq_true_eq] at h
      obtain ⟨⟨h1, h2, rfl⟩, h4⟩ := h
      obtain ⟨p, pos, rfl⟩ := dAug_eq hx
      simp only [okS] at ho
      simp only [wS]
      exact ds_aug c.nd h1 (isOwn_loc h2) (c.fn x) (dv_of false (soundE e c.toCtx h4 ho).1)
    · cases h
  | .insr i a b, X, E, n, Ed, lv, c, s, h, ho => by
    cases s <;> simp only [chkS] at h <;> try exact absurd h Bool.false_ne_true
    rename_i f pos
    split at h
    · rename_i x v v2 l l' hx
      simp only [Bool.and_eq_true, decide_eq_true_eq, Bool.not_eq_true'] at h
      obtain ⟨⟨h1, h2, h3⟩, h4, ⟨h5, h5'⟩, h6⟩ := h
      obtain ⟨p, pa, pc, rfl, rfl, rfl⟩ := dIns_eq hx
      simp only [okS] at ho
      simp only [wS]
      exact ds_ins h1 (vis_ok h2) (okN_1 h3) (okN_2 h3) (soundA [a, b] [false, false] c.toCtx rfl h6 (by simp only [okL]; exact ⟨ho.1, ho.2, trivial⟩)) h5 h5' h4
    · cases h
  | .dpop i e, X, E, n, Ed, lv, c, s, h, ho => by
    cases s <;> simp only [chkS] at h <;> try exact absurd h Bool.false_ne_true
    rename_i f pos
    split at h
    · rename_i x v l l' hx
      simp only [Bool.and_eq_true, decide_eq_true_eq, Bool.not_eq_true'] at h
      obtain ⟨⟨h1, h2, h3⟩, h4, h5, h6⟩ := h
      obtain ⟨p, pa, pc, rfl, rfl, rfl⟩ := dPop_eq hx
      simp only [okS] at ho
      simp only [wS]
      have hu : X.A.units + 1 < cLine := by have := c.toCtx.room.un; omega
      exact ds_pop hu h1 (vis_ok h2) (okN_1 h3) (okN_2 h3) (dv_of true (soundE e c.toCtx h6 ho).1) h5 h4
    · cases h
theorem soundB : ∀ (xs : List Sx) {X : Cx} {E : XK} {n : N0} {Ed : Str → Prop} {lv : Nat} (c : CtxS X E n Ed lv) {ss : List Stmt}, chkB X.N X.env.scope xs ss = true → okB (topOf X lv) xs → PSs X ss (cS X.K X.mg n (wBk Ed xs))
  | [], X, E, n, Ed, lv, c, [], h, ho => by simp only [wBk]; exact ds_nil
  | [], X, E, n, Ed, lv, c, _ :: _, h, ho => by simp [chkB] at h
  | x :: xs, X, E, n, Ed, lv, c, ss, h, ho => by
    simp only [okB] at ho
    have plain : (∀ i, x ≠ .frz i) → PSs X ss (cS X.K X.mg n (wBk Ed (x :: xs))) := fun hx => by
      cases ss with
      | nil => cases x <;> first | (simp [chkB] at h; done) | exact absurd rfl (hx _)
      | cons s ss =>
        have h' : chkS X.N X.env.scope x s = true ∧ chkB X.N X.env.scope xs ss = true := by
          cases x <;> first | (simpa [chkB] using h) | exact absurd rfl (hx _)
        have e : wBk Ed (x :: xs) = swSeq (wS Ed x) (wBk Ed xs) := by
          cases x <;> first | rfl | (simp only [wBk]; done) | exact absurd rfl (hx _)
        rw [e]
        exact ds_cons (soundS x c h'.1 ho.1) (soundB xs c h'.2 ho.2)
    by_cases hf : ∃ i, x = .frz i
    · obtain ⟨i, rfl⟩ := hf
      simp only [wBk]
      exact ds_frz (soundB xs c (by simpa [chkB] using h) ho.2)
    · exact plain fun i e => hf ⟨i, e⟩
end
end
end TT

set_option Elab.async false
set_option linter.all false
set_option maxRecDepth 100000
set_option autoImplicit false
namespace TT
open PySem PySem.Spec L2

/-! ### a def by its body -/
section
variable {K : PySem.W.Frag} {mg : Str → Option Value} {W : Wd} {H : Hp}
end
section
variable {P : Program} {w : World} {K : PySem.W.Frag} {mg : Str → Option Value} {base : Heap}
theorem fnD {lv : Nat} {f : Addr} {name qual : Str} {params : Arguments} {body : List Stmt} {scope : Scope} {dV kV doc pm cdv ct oc : Value} {an od : Option Addr} {osl : Array (Option Value)} {N ps : List Str} {br : List Bool} {S : DS}
    (lk : K.lookup f = some ⟨oc, od, .func (PySem.W.fnOf name qual params body scope dV kV doc pm an cdv ct), osl⟩) (hcd : PySem.W.codeIn K cdv qual = true) (sc : FnScope N ps scope) (hb : br.length = ps.length) (B : List Sx) (hc : chkB N scope B body = true)
    (ho : okB ⟨P, w, K, mg, base, lv⟩ B) (vc : ∀ ds q Ed, ds.length = br.length → S ds q Ed → wBk Ed B ⟨fun _ => q (.v .non), q, fun _ => False, fun _ => False⟩ (start0 N.length br ds)) :
    FnOk P w K mg base (L2.CX P w) (lv + 1) f (PySem.W.fnOf name qual params body scope dV kV doc pm an cdv ct) ps (spD K mg br S) := by
  refine fn_of lk hcd sc (fun vs H Q E h => h.1.trans hb) fun A outer s H vs Q E hr hsp => ?_
  obtain ⟨hl, W, ds, q, Ed, wk, ra, hS, hq, hE⟩ := hsp
  have hpl : ps.length ≤ N.length := by
    have e := congrArg List.length sc.pre
    rw [List.length_take] at e
    omega
  have tk : Takes (cxOf (L2.CX P w) P w K mg base N qual scope f cdv A outer s H E) (fun cls d _ H => E cls d H) := takes_of rfl rfl rfl rfl
  have c : CtxS (cxOf (L2.CX P w) P w K mg base N qual scope f cdv A outer s H E) E (W, H) Ed lv :=
    ⟨⟨sc.nd, rfl, sc.kind, hr, passes_call tk fun _ _ _ _ h => h, fun c' C W' H' he hm st => hE c' C W' H' he hm st⟩, fun _ => rfl, passes_of rfl, tk, rfl, rfl⟩
  refine ⟨_, soundB B c hc ho, W, start0 N.length br ds, _, Sto.first ra wk (by rw [hb]; exact hpl), .refl wk, vc ds q Ed ra.len.2 hS, ?_, ?_, ?_, ?_⟩
  · intro W' H' σ' δ' l s' t h
    exact hq W' H' .non (.v .non) s' Rep.non h
  · intro W' H' σ' δ' l s' t h; exact h.elim
  · intro W' H' σ' δ' l s' t h; exact h.elim
  · intro W' H' v dv s' r h
    exact hq W' H' v dv s' r h
end
section
variable {P : Program} {w : World} {K : PySem.W.Frag} {mg : Str → Option Value} {base : Heap}
/-- what the end of an __init__ is asked -/
@[reducible] def initK (x : Addr) (cn : Str) (q : DV → Prop) : Kn := ⟨fun δ => match δ.getD 0 none with
  | some (.ins a c fs) => a = x ∧ c = cn ∧ q (.v (.obj cn fs))
  | some (.insL a c fs f ds) => a = x ∧ c = cn ∧ q (.v (.obj cn (fs ++ [(f, .lst ds)])))
  | _ => False, fun _ => False, fun _ => False, fun _ => False⟩
theorem Sto.firstI {N : List Str} {br : List Bool} {vs : List V} {ds : List D} {W : Wd} {H0 : Hp} {x dx C : Addr} {cn : Str} (r : ArgsR K mg W H0 br vs ds) (wk : WOk W H0) (hN : br.length + 1 ≤ N.length) (hx : H0 x = none) (hdx : H0 dx = none) (hne : dx ≠ x) (hC : mg cn = some (.ref C)) :
    Stp W H0 W (upd (upd H0 dx (.own x)) x (.ins C dx [])) ∧ Sto K mg (W, H0) W (upd (upd H0 dx (.own x)) x (.ins C dx [])) (L2.start N (.ref x :: vs)) (some (.ins x cn []) :: start0 (N.length - 1) br ds) := by
  have s1 := Stp.laidOwn wk hdx (.own x)
  have hx1 : upd H0 dx (.own x) x = none := by rw [upd_ne (Ne.symm hne)]; exact hx
  have s2 := s1.trans (Stp.laidOwn s1.ok hx1 (.ins C dx []))
  refine ⟨s2, ?_⟩
  have l1 := r.len.1
  have l2 := r.len.2
  have lz := zip_len l2
  have st : L2.start N (.ref x :: vs) = some (.ref x) :: (vs.map some ++ List.replicate (N.length - 1 - vs.length) none) := by
    unfold L2.start
    rw [List.map_cons, List.length_cons, List.cons_append, Nat.sub_sub, Nat.add_comm 1]
  rw [st]
  refine ⟨?_, fun i => if i = 0 then some x else none, fun i dv e => ?_, fun i j a e1 e2 => ?_, fun i a e => ?_⟩
  · unfold start0
    rw [List.length_cons, List.length_cons, List.length_append, List.length_append, List.length_map, List.length_replicate, List.length_replicate, lz, l1, l2]
  · cases i with
    | zero =>
      cases e
      exact ⟨.ref x, rfl, C, dx, [], rfl, rfl, upd_same, hC, .nil⟩
    | succ i =>
      have e : (start0 (N.length - 1) br ds)[i]? = some (some dv) := e
      unfold start0 at e
      by_cases hi : i < ds.length
      · rw [List.getElem?_append_left (by rw [lz]; exact hi)] at e
        obtain ⟨v, e1, e2⟩ := r.at e
        refine ⟨v, ?_, ?_⟩
        · show (vs.map some ++ List.replicate (N.length - 1 - vs.length) none)[i]? = _
          rw [List.getElem?_append_left (by rw [List.length_map, l1, ← l2]; exact hi), List.getElem?_map, e1]
          rfl
        · exact SRep.step (n := (W, H0)) s2 (o := none) (fun _ z => nomatch z) e2
      · rw [List.getElem?_append_right (by rw [lz]; omega), List.getElem?_replicate] at e
        split at e <;> cases e
  · by_cases h1 : i = 0
    · by_cases h2 : j = 0
      · rw [h1, h2]
      · dsimp only at e2; rw [if_neg h2] at e2; cases e2
    · dsimp only at e1; rw [if_neg h1] at e1; cases e1
  · by_cases h1 : i = 0
    · dsimp only at e; rw [if_pos h1] at e; cases e
      exact ⟨hx, ⟨_, upd_same, fun _ z => by cases z⟩, wk.sub.free hx, wk.notTown hx⟩
    · dsimp only at e; rw [if_neg h1] at e; cases e
theorem fnI {lv : Nat} {cn : Str} {f : Addr} {name qual : Str} {params : Arguments} {body : List Stmt} {scope : Scope} {dV kV doc pm cdv ct oc : Value} {an od : Option Addr} {osl : Array (Option Value)} {N ps : List Str} {br : List Bool} {S : DS}
    (lk : K.lookup f = some ⟨oc, od, .func (PySem.W.fnOf name qual params body scope dV kV doc pm an cdv ct), osl⟩) (hcd : PySem.W.codeIn K cdv qual = true) (sc : FnScope N ps scope) (hb : br.length + 1 = ps.length) (B : List Sx) (hc : chkB N scope B body = true)
    (ho : okB ⟨P, w, K, mg, base, lv⟩ B) (vc : ∀ x ds q Ed, ds.length = br.length → S ds q Ed → wBk Ed B (initK x cn q) (some (.ins x cn []) :: start0 (N.length - 1) br ds)) :
    FnOk P w K mg base (L2.CX P w) (lv + 1) f (PySem.W.fnOf name qual params body scope dV kV doc pm an cdv ct) ps (spI K mg cn br S) := by
  refine fn_of lk hcd sc (fun vs H Q E h => by obtain ⟨x, vs', rfl, hl, _⟩ := h; rw [List.length_cons, hl]; exact hb) fun A outer s H vs Q E hr hsp => ?_
  obtain ⟨x, vs', rfl, hl, W, H0, dx, C, ds, q, Ed, wk, hx, hdx, hne, hC, rfl, ra, hS, hq, hE⟩ := hsp
  have hpl : ps.length ≤ N.length := by
    have e := congrArg List.length sc.pre
    rw [List.length_take] at e
    omega
  obtain ⟨sp, st⟩ := Sto.firstI (N := N) (cn := cn) ra wk (by omega) hx hdx hne hC
  have tk : Takes (cxOf (L2.CX P w) P w K mg base N qual scope f cdv A outer s (upd (upd H0 dx (.own x)) x (.ins C dx [])) E) (fun cls d _ H => E cls d H) := takes_of rfl rfl rfl rfl
  have c : CtxS (cxOf (L2.CX P w) P w K mg base N qual scope f cdv A outer s (upd (upd H0 dx (.own x)) x (.ins C dx [])) E) E (W, H0) Ed lv :=
    ⟨⟨sc.nd, rfl, sc.kind, hr, passes_call tk fun _ _ _ _ h => h, fun c' C W' H' he hm st => hE c' C W' H' he hm st⟩, fun _ => rfl, passes_of rfl, tk, rfl, rfl⟩
  refine ⟨_, soundB B c hc ho, W, _, _, st, sp, vc x ds q Ed ra.len.2 hS, ?_, ?_, ?_, ?_⟩
  · intro W' H' σ' δ' l s' t h
    dsimp only [initK] at h
    split at h
    · rename_i a c' fs e
      obtain ⟨rfl, rfl, h⟩ := h
      obtain ⟨_, ow, g1, _, g3⟩ := t
      rw [List.getD_eq_getElem?_getD] at e
      have e0 : δ'[0]? = some (some (.ins a c' fs)) := by
        cases z : δ'[0]? with
        | none => rw [z] at e; cases e
        | some o => rw [z] at e; cases e; rfl
      obtain ⟨v, ev, C', dx', xs, ea, rfl, eh, hm, rf⟩ := g1 0 _ e0
      obtain ⟨b1, b2, b3⟩ := g3 0 a ea
      obtain ⟨s3, l3⟩ := s'.freeze b1 eh b3.1 b3.2
      exact hq _ H' fs s3 (.obj (by show upd W'.F a _ a = _; rw [upd_same]) hm (rf.le l3)) h
    · rename_i a c' fs f ds e
      obtain ⟨rfl, rfl, h⟩ := h
      obtain ⟨_, ow, g1, _, g3⟩ := t
      rw [List.getD_eq_getElem?_getD] at e
      have e0 : δ'[0]? = some (some (.insL a c' fs f ds)) := by
        cases z : δ'[0]? with
        | none => rw [z] at e; cases e
        | some o => rw [z] at e; cases e; rfl
      obtain ⟨v, ev, C', dx', xs, p, vs, ea, rfl, eh, hm, rf, _, hp, rl, h0, lo⟩ := g1 0 _ e0
      obtain ⟨b1, b2, b3⟩ := g3 0 p ea
      have na : a ≠ p := fun z => by rw [z, hp] at eh; cases eh
      obtain ⟨s3, l3⟩ := s'.freeze b1 hp b3.1 b3.2
      obtain ⟨s4, l4⟩ := s3.freeze h0 eh (by show upd W'.F p _ a = none; rw [upd_ne na]; exact lo.1) lo.2
      have rp : Rep K mg { F := upd (upd W'.F p (.lst vs)) a (.ins C' dx' (xs ++ [(f, V.ref p)])), tw := W'.tw } (.ref p) (.lst ds) := .lst (by show upd (upd W'.F p _) a _ p = _; rw [upd_ne (Ne.symm na), upd_same]) (rl.le (l3.trans l4))
      have rf2 : RepF K mg { F := upd (upd W'.F p (.lst vs)) a (.ins C' dx' (xs ++ [(f, V.ref p)])), tw := W'.tw } (xs ++ [(f, V.ref p)]) (fs ++ [(f, D.lst ds)]) := RepF.app rp (rf.le (l3.trans l4))
      exact hq _ H' (fs ++ [(f, .lst ds)]) s4 (.obj (by show upd (upd W'.F p _) a _ a = _; rw [upd_same]) hm rf2) h
    · exact h.elim
  · intro W' H' σ' δ' l s' t h; exact h.elim
  · intro W' H' σ' δ' l s' t h; exact h.elim
  · intro W' H' v dv s' r h; exact h.elim
end
end TT

set_option Elab.async false
set_option linter.all false
set_option maxRecDepth 100000
set_option autoImplicit false
namespace TT
open PySem PySem.Spec L2

/-! ### the town -/
/-- a draw: any whole number from 0 on, below what is asked -/
@[irreducible] def S_draw : DS := fun ds q _ => ∃ m, ds = [.town, .int m] ∧ 0 < m ∧ Sz 9000 m ∧ ∀ d, 0 ≤ d → d < m → q (.v (.int d))
def spTown (K : PySem.W.Frag) : Sp := fun vs H Q _ => ∃ (a : Addr) (ns : List Int), vs = [.ref a] ∧ SqL K H a (ns.map V.int) ∧ ns.length ≤ 63 ∧ ∀ T R H', Same H H' → H T = none → H R = none → T ≠ R → TownAt H' T R → Q (.ref T) H'
def spLaw (K : PySem.W.Frag) : Sp := fun vs H Q _ => ∃ (a : Addr) (ns : List Int), vs = [.ref a] ∧ SqL K H a (ns.map V.int) ∧ ns.length ≤ 63 ∧ ∀ H', Q (.bl true) H'
theorem py_ints : ∀ ns : List Int, PyData.canLayAll0 (ns.map PyData.int) = true ∧ PyData.depthAll (ns.map PyData.int) = 0
  | [] => by simp [PyData.canLayAll0, PyData.depthAll]
  | n :: ns => by
    obtain ⟨h1, h2⟩ := py_ints ns
    simp [PyData.canLayAll0, PyData.depthAll, PyData.canLay0, PyData.depth, h1, h2]
theorem shaped_ints (ns : List Int) : SeqAt.shaped (.list (ns.map PyData.int)) = true := by
  obtain ⟨h1, h2⟩ := py_ints ns
  simp [SeqAt.shaped, PyData.canLay0, PyData.depth, h1, h2]
theorem dp_ints {K : PySem.W.Frag} {H : Hp} : ∀ ns : List Int, DpAll K H (ns.map V.int) (ns.map PyData.int)
  | [] => .nil
  | n :: ns => .cons (.int n) (dp_ints ns)
theorem eqv_nil (ns : List Int) : PyData.eqv (.list (ns.map PyData.int)) (.list []) = ns.isEmpty := by
  cases ns <;> simp [PyData.eqv, PyData.eqvAll]
/-- behind a draw -/
theorem Stp.town {W : Wd} {H : Hp} (k : WOk W H) {T R : Addr} (e : W.tw = some (T, R)) {n : Int} {ns : List Int} (hn : 0 ≤ n) (h0 : 0 < ns.length) (h6 : ns.length ≤ 64) {H' : Hp} (hT : H' T = some (.lst [.ref R, .int n])) (hR : H' R = some (.lst (ns.map V.int)))
    (ho : ∀ a, a ≠ T → a ≠ R → H' a = H a) : Stp W H W H' := by
  obtain ⟨h1, h2, h3, _⟩ := k.town T R e
  have away : ∀ a o, W.F a = some o → a ≠ T ∧ a ≠ R := fun a o q => ⟨(fun z => by rw [z, h2] at q; cases q), (fun z => by rw [z, h3] at q; cases q)⟩
  refine ⟨.refl _, fun a o q t => ?_, fun a h => .inl h, fun a h => .inl h, ⟨fun a o q => ?_, fun T' R' e' => ?_⟩⟩
  · rw [ho a (fun z => t ⟨T, R, e, .inl z⟩) (fun z => t ⟨T, R, e, .inr z⟩)]
    exact q
  · rw [ho a (away a o q).1 (away a o q).2]
    exact k.sub a o q
  · rw [e] at e'; cases e'
    exact ⟨h1, h2, h3, ns, n, hT, hR, hn, h0, h6⟩
theorem Rep.townInv {K : PySem.W.Frag} {mg : Str → Option Value} {W : Wd} {v : V} (r : Rep K mg W v .town) : ∃ T R, v = .ref T ∧ W.tw = some (T, R) := by
  cases r with
  | town h => exact ⟨_, _, rfl, h⟩

section
variable {P : Program} {w : World} {K : PySem.W.Frag} {mg : Str → Option Value} {base : Heap}
/-- the law's own def: its first row makes the town; B: the rows behind it -/
theorem lawD {lv : Nat} {f : Addr} {name qual : Str} {params : Arguments} {s0 : Stmt} {body : List Stmt} {scope : Scope} {dV kV doc pm cdv ct oc : Value} {an od : Option Addr} {osl : Array (Option Value)} {N : List Str} {x y g : Str} {p1 p2 p3 p4 p5 : Pos} {fT : Addr} {fdT : FuncData}
    (hs0 : s0 = .Assign [.Name y p1] (.Call (.Name g p2) [.Name x p3] [] p4) p5)
    (lk : K.lookup f = some ⟨oc, od, .func (PySem.W.fnOf name qual params (s0 :: body) scope dV kV doc pm an cdv ct), osl⟩) (hcd : PySem.W.codeIn K cdv qual = true) (sc : FnScope N [x] scope)
    (hx : N[0]? = some x) (hy : N[1]? = some y) (hvx : vis scope x = true) (hox : okN x = true) (hoy : isOwn scope y = true) (hgg : isGl scope g = true) (hog : okN g = true)
    (FT : FnOk P w K mg base (L2.CX P w) lv fT fdT ["_law_script"] (spTown K)) (hmT : mg g = some (.ref fT)) (hkT : PySem.W.keepIn K (.ref fT) = true) (hbT : Binds K fdT ["_law_script"] [])
    (B : List Sx) (hc : chkB N scope B body = true) (ho : okB ⟨P, w, K, mg, base, lv⟩ B)
    (vc : wBk (fun _ => False) B ⟨fun _ => False, fun dv => dv = .v (.bl true), fun _ => False, fun _ => False⟩ ((List.replicate N.length none).set 1 (some (.v .town)))) :
    FnOk P w K mg base (L2.CX P w) (lv + 1) f (PySem.W.fnOf name qual params (s0 :: body) scope dV kV doc pm an cdv ct) [x] (spLaw K) := by
  refine fn_of lk hcd sc (fun vs H Q E h => by obtain ⟨_, _, rfl, _⟩ := h; rfl) fun A outer s H vs Q E hr hsp => ?_
  obtain ⟨a, ns, rfl, hS, hlen, hQ⟩ := hsp
  have tk0 : Takes (cxOf (L2.CX P w) P w K mg base N qual scope f cdv A outer s H E) (fun cls d _ H => E cls d H) := takes_of rfl rfl rfl rfl
  have tk : Takes (cxOf (L2.CX P w) P w K mg base N qual scope f cdv A outer s H E) (fun cls d _ H => E0 cls d H) := tk0.imp fun _ _ _ _ z => z.elim
  subst hs0
  -- the first row
  have first : PS (cxOf (L2.CX P w) P w K mg base N qual scope f cdv A outer s H E) (.Assign [.Name y p1] (.Call (.Name g p2) [.Name x p3] [] p4) p5) _ :=
    ps_set (i := 1) sc.nd hy (isOwn_loc hoy) (pe_call (E := E0) FT hr (isGl_ok hgg) hmT hkT hbT .nil passL (pa_cons (pe_var (i := 0) hx (vis_ok hvx) (okN_1 hox) (okN_2 hox)) pa_nil) (okN_1 hog) rfl rfl) rfl (.inl rfl)
  -- the rest, from whatever entry
  have rest : PSs (cxOf (L2.CX P w) P w K mg base N qual scope f cdv A outer s H E) body (fun D σ H1 => ∃ n, cS K mg n (wBk (fun _ => False) B) D σ H1) := by
    constructor
    rintro pins s1 σ H1 D I ⟨n, hn⟩
    have c : CtxS (cxOf (L2.CX P w) P w K mg base N qual scope f cdv A outer s H E) E0 n (fun _ => False) lv :=
      ⟨⟨sc.nd, rfl, sc.kind, hr, passL, fun _ _ _ _ z => z.elim⟩, fun _ => rfl, passes_of rfl, tk, rfl, rfl⟩
    exact (soundB (n := n) B c hc ho).run pins s1 σ H1 D I hn
  have hN : 1 < N.length := (List.getElem?_eq_some_iff.mp hy).1
  refine ⟨_, pss_cons first rest, ?_⟩
  refine ⟨.ref a, rfl, a, ns, rfl, hS, hlen, fun T R H' same nT nR ne tn => ?_⟩
  refine ⟨(⟨fun _ => none, some (T, R)⟩, H'), ⟨fun _ => none, some (T, R)⟩, _, _, ?_, .refl ?_, vc, ?_, ?_, ?_, ?_⟩
  · refine ⟨?_, fun _ => none, fun i dv e => ?_, (fun _ _ _ e => nomatch e), (fun _ _ e => nomatch e)⟩
    · unfold L2.start
      simp
      omega
    · by_cases hi : i = 1
      · subst hi
        rw [List.getElem?_set_self (by rw [List.length_replicate]; exact hN)] at e
        cases e
        refine ⟨.ref T, List.getElem?_set_self ?_, Rep.town rfl⟩
        unfold L2.start
        simp
        omega
      · rw [List.getElem?_set_ne (Ne.symm hi), List.getElem?_replicate] at e
        split at e <;> cases e
  · refine ⟨fun b o e => (nomatch e), fun T' R' e => ?_⟩
    cases e
    exact ⟨ne, rfl, rfl, tn⟩
  · intro _ _ _ _ _ _ _ z; exact z.elim
  · intro _ _ _ _ _ _ _ z; exact z.elim
  · intro _ _ _ _ _ _ _ z; exact z.elim
  · intro W' H'' v dv st r e
    subst e
    cases r
    exact hQ H''
end
end TT

set_option Elab.async false
set_option linter.all false
set_option maxRecDepth 100000
set_option autoImplicit false
/-! What stands behind the top, by names; the law's end. -/
namespace TT
open PySem PySem.Spec L2
section
variable {K : PySem.W.Frag} {h : Heap} {mg : Str → Option Value} {fa : List He.Fa} {fn : List He.DefD}
theorem got_of (X : K.In h) (G : h.Ns mainGlobals mg) (c : He.SaysD fa fn K) {x : Str} {st : Stmt} {dfl : List He.Dv} (i j : Nat) (h1 : fn[i]? = some (dfn x st dfl)) (h2 : fa[j]? = some (.glo x)) : Got K mg x st (dfl.map (He.Dv.v K)) (He.ga K x) :=
  ⟨c.def_ i h1, He.glo_ok X G (c.fact j h2)⟩
theorem free_of (X : K.In h) (G : h.Ns mainGlobals mg) (c : He.SaysD fa fn K) {x : Str} (j : Nat) (h2 : fa[j]? = some (.free x)) : mg x = none := He.free_ok X G (c.fact j h2)
theorem exc_of {P : Program} {w : World} {base : Heap} {lv : Nat} (X : K.In h) (G : h.Ns mainGlobals mg) (c : He.SaysD fa fn K) {x : Str} (i j : Nat) (h1 : fa[i]? = some (.glo x)) (h2 : fa[j]? = some (.exc x)) : Top.exc ⟨P, w, K, mg, base, lv⟩ x := by
  have e : (PySem.W.excIn K (He.ga K x) He.veBase "ValueError.__new__" && (PySem.W.keepIn K (.ref (He.ga K x)) && (decide (PySem.W.subIn K (.ref (He.ga K x)) (.type "BaseException") = some true) && decide (PySem.W.typeIn K (.ref (He.ga K x)) = some (.type "type"))))) = true := c.fact j h2
  simp only [Bool.and_eq_true, decide_eq_true_eq] at e
  exact ⟨_, He.glo_ok X G (c.fact i h1), e.1, e.2.1, e.2.2.1, e.2.2.2⟩
end
/-! ### constants of the top -/
theorem relAll_ok {K : PySem.W.Frag} {mg : Str → Option Value} : ∀ {ds : List D} {us : List Value}, relAll ds us = true → ∃ vs, Vals vs us ∧ ∀ W, RepL K mg W vs ds
  | [], [], _ => ⟨[], .nil, fun _ => .nil⟩
  | [], _ :: _, h => by simp [relAll] at h
  | _ :: _, [], h => by simp [relAll] at h
  | d :: ds, u :: us, h => by
    simp only [relAll, Bool.and_eq_true] at h
    obtain ⟨vs, h1, h2⟩ := relAll_ok (K := K) (mg := mg) h.2
    have h3 := h.1
    unfold relOne at h3
    split at h3
    · rename_i i j t
      have e := of_decide_eq_true h3
      subst e
      exact ⟨.int i :: vs, .cons ⟨t, rfl⟩ h1, fun W => .cons (.int i) (h2 W)⟩
    · rename_i i j t
      have e := of_decide_eq_true h3
      subst e
      exact ⟨.str i :: vs, .cons ⟨t, rfl⟩ h1, fun W => .cons (.str i) (h2 W)⟩
    · cases h3
theorem glbT_of {P : Program} {w : World} {K : PySem.W.Frag} {h : Heap} {mg : Str → Option Value} {base : Heap} {lv : Nat} (X : K.In h) (G : h.Ns mainGlobals mg) {x : Str} {ds : List D} (c : flatB K x ds = true) : Top.glb ⟨P, w, K, mg, base, lv⟩ x (.tup ds) := by
  unfold flatB at c
  split at c
  · rename_i a e
    split at c
    · rename_i o lk
      rw [Bool.and_eq_true, decide_eq_true_eq] at c
      obtain ⟨c1, c2⟩ := c
      split at c2
      · rename_i its n e2
        rw [Bool.and_eq_true, decide_eq_true_eq] at c2
        obtain ⟨vs, h1, h2⟩ := relAll_ok (K := K) (mg := mg) c2.2
        have hs : sizeLine = 16777216 := sizeLine_eq
        exact ⟨.ref a, .ref a, PySem.W.mg_of X G e, rfl, fun W => .tup (.inr ⟨o, its, n, lk, c1, e2, by omega, h1⟩) (h2 W)⟩
      · cases c2
    · cases c
  · cases c
theorem glbI_of {P : Program} {w : World} {K : PySem.W.Frag} {h : Heap} {mg : Str → Option Value} {base : Heap} {lv : Nat} {fa : List He.Fa} {fn : List He.DefD} (X : K.In h) (G : h.Ns mainGlobals mg) (c : He.SaysD fa fn K) {x : Str} {i : Int} (j : Nat) (h2 : fa[j]? = some (.int x i)) : Top.glb ⟨P, w, K, mg, base, lv⟩ x (.int i) := by
  obtain ⟨t, e⟩ := He.int_ok X G (c.fact j h2)
  exact ⟨.int i, .int i t, e, ⟨t, rfl⟩, fun W => .int i⟩
section
variable {P : Program} {w : World} {K : PySem.W.Frag} {mg : Str → Option Value} {base : Heap}
theorem FnG.up {j lv : Nat} {f : Str} {br : List Bool} {S : DS} {dv : List D} (g : FnG P w K mg base j f br S dv) (e : j ≤ lv) : Top.fn ⟨P, w, K, mg, base, lv⟩ f br S dv := by
  obtain ⟨a, fd, ps, ds, dvs, F, r⟩ := g
  exact ⟨a, fd, ps, ds, dvs, F.mono e, r⟩
theorem g_of {lv : Nat} {x : Str} {st : Stmt} {N ps : List Str} {br : List Bool} {S : DS} {f : Addr} (g : Got K mg x st [] f) (sc : FnScope N ps (defScope st)) (hb : br.length = ps.length) (B : List Sx) (hc : chkB N (defScope st) B (defBody st) = true)
    (bi : NoDfl x st ps) (ho : okB ⟨P, w, K, mg, base, lv⟩ B)
    (vc : ∀ ds q Ed, ds.length = br.length → S ds q Ed → wBk Ed B ⟨fun _ => q (.v .non), q, fun _ => False, fun _ => False⟩ (start0 N.length br ds)) : FnG P w K mg base (lv + 1) x br S [] := by
  obtain ⟨fd, F⟩ := g.fn
  have b := F.bindsN bi
  obtain ⟨oc, od, dV, kV, doc, pm, an, cdv, ct, osl, rfl, lk, hcd, _, _⟩ := F.ex
  exact ⟨f, _, ps, [], [], fnD lk hcd sc hb B hc ho vc, g.at_, F.kp, b, .nil, fun W => .nil⟩
/-- all written of a def with defaults -/
theorem FunD.full {x : Str} {st : Stmt} {f : Addr} {fd : FuncData} {dvs : List V} {ps : List Str} (F : FunD K x x (defArgs st) (defBody st) (defScope st) dvs [] f fd) (hd : dvs ≠ []) (hn : ps.length + (dvs.length - dvs.length) = ps.length)
    (hh : ∀ (T : Addr) (kV doc pm : Value) (an : Option Addr) (cdv ct : Value) (us its : List Value), us.length = ps.length → its.length = dvs.length →
      ∃ k, bindArgs (PySem.W.fnOf x x (defArgs st) (defBody st) (defScope st) (.ref T) kV doc pm an cdv ct) ⟨us, []⟩ = seqItems? (.ref T) >>= k ∧ k (some its.toArray) = pure (ps.zip us)) : Binds K fd ps [] := by
  obtain ⟨ds, hv, hb⟩ := F.binds1 (ps := ps) ps.length dvs.length hd hn fun T kV doc pm an cdv ct us its h1 h2 => by
    obtain ⟨k, e1, e2⟩ := hh T kV doc pm an cdv ct us its h1 h2
    refine ⟨k, e1, e2.trans ?_⟩
    rw [← h2, List.drop_length, List.append_nil]
  rw [List.drop_length] at hv
  cases hv
  exact hb
end
section
variable {P : Program} {w : World} {K : PySem.W.Frag} {mg : Str → Option Value} {base : Heap}
theorem law_of {lv : Nat} {st s0 : Stmt} {body : List Stmt} {N : List Str} {x y g : Str} {p1 p2 p3 p4 p5 : Pos} {fT f : Addr} {fdT : FuncData} (G : Got K mg "law" st [] f) (bi : NoDfl "law" st [x]) (hbd : defBody st = s0 :: body)
    (hs0 : s0 = .Assign [.Name y p1] (.Call (.Name g p2) [.Name x p3] [] p4) p5) (sc : FnScope N [x] (defScope st))
    (hx : N[0]? = some x) (hy : N[1]? = some y) (hvx : vis (defScope st) x = true) (hox : okN x = true) (hoy : isOwn (defScope st) y = true) (hgg : isGl (defScope st) g = true) (hog : okN g = true)
    (FT : FnOk P w K mg base (L2.CX P w) lv fT fdT ["_law_script"] (spTown K)) (hmT : mg g = some (.ref fT)) (hkT : PySem.W.keepIn K (.ref fT) = true) (hbT : Binds K fdT ["_law_script"] [])
    (B : List Sx) (hc : chkB N (defScope st) B body = true) (ho : okB ⟨P, w, K, mg, base, lv⟩ B)
    (vc : wBk (fun _ => False) B ⟨fun _ => False, fun dv => dv = .v (.bl true), fun _ => False, fun _ => False⟩ ((List.replicate N.length none).set 1 (some (.v .town)))) :
    ∀ fd, FunD K "law" "law" (defArgs st) (defBody st) (defScope st) [] [] f fd → FnOk P w K mg base (L2.CX P w) (lv + 1) f fd [x] (spLaw K) := by
  intro fd F
  obtain ⟨oc, od, dV, kV, doc, pm, an, cdv, ct, osl, rfl, lk, hcd, hD, _⟩ := F.ex
  rw [hbd] at lk ⊢
  exact lawD hs0 lk hcd sc hx hy hvx hox hoy hgg hog FT hmT hkT hbT B hc ho vc
end
/-- no exception leaves the law -/
theorem cx_none {P : Program} {w : World} {H : Hp} {s : Shared} {e : Value} {s' : Shared} (z : L2.CX P w [] H s (fun _ _ _ => False) e s') : False := by
  obtain ⟨_, _, _, _, _, _, _, _, _, _, _, _, z⟩ := z
  exact z
/-- the law behind the top: its walk is the whole -/
theorem walkW {l : PySem.W.OpenLaw} {n k : Nat} {q : Program} {loose : List Str} {XP : (Str → Option Value) → Heap → Prop} {YP : World → Heap → Prop} {d : DefRec} {x : Str} (hn : l.most = some n) (hn2 : n ≤ sizeLine) (h63 : n ≤ 63) (hdf : d.params.defaults = []) (hr : Room k callerA)
    (F : ∀ (w : World) (mg : Str → Option Value) (fa : Addr) (h : Heap), YP w h → h.Ns mainGlobals mg → mg d.name = some (.ref fa) →
      ∃ K : PySem.W.Frag, K.In h ∧ ∃ fd : FuncData, (∀ (s : Shared) (u : Value), BindsTo s fd ⟨[u], []⟩ [(x, u)]) ∧ ∀ base : Heap, K.In base → base.Ns mainGlobals mg → FnOk l.prog w K mg base (L2.CX l.prog w) k fa fd [x] (spLaw K)) :
    PySem.W.WalkO q loose XP YP l.row.toRowW d [] (fun f vs => PySem.call f vs) := by
  refine Att.attach_call hn hdf ?_
  intro w s0 s1 mg mb fa o pm cd doc a vs ns G Y ho hd hcd hmg hobj hints hlen hg
  obtain ⟨K, KX, fd, hb, hF⟩ := F w mg fa _ Y G.T.g hmg
  refine law_call KX G.T.g G.T.b G.T.builtins G.T.nolimit hg hobj hints (Nat.le_trans hlen hn2) hr hF hb ?_ ?_
  · intro H hO hS
    exact ⟨a, ns, rfl, hS, Nat.le_trans hlen h63, fun _ => rfl⟩
  · intro H e s' z
    exact cx_none z
end TT

set_option Elab.async false
set_option linter.all false
set_option maxRecDepth 100000
set_option autoImplicit false
/-! The classes of refusals, behind the top. -/
namespace TT
open PySem PySem.Spec L2
end TT

set_option Elab.async false
set_option linter.all false
set_option maxRecDepth 100000
set_option autoImplicit false
/-! Methods, making and keyword calls, behind the top. -/
namespace TT
open PySem PySem.Spec L2
section
variable {P : Program} {w : World} {K : PySem.W.Frag} {mg : Str → Option Value} {base : Heap}
/-- the def by its body, whatever it is called -/
theorem f_ofM {lv : Nat} {x q : Str} {st : Stmt} {N ps : List Str} {br : List Bool} {S : DS} {f : Addr} {fd : FuncData} {dvs : List V} {kws : List (Str × V)} (F : FunD K x q (defArgs st) (defBody st) (defScope st) dvs kws f fd) (sc : FnScope N ps (defScope st)) (hb : br.length = ps.length) (B : List Sx) (hc : chkB N (defScope st) B (defBody st) = true)
    (ho : okB ⟨P, w, K, mg, base, lv⟩ B) (vc : ∀ ds q Ed, ds.length = br.length → S ds q Ed → wBk Ed B ⟨fun _ => q (.v .non), q, fun _ => False, fun _ => False⟩ (start0 N.length br ds)) : FnOk P w K mg base (L2.CX P w) (lv + 1) f fd ps (spD K mg br S) := by
  obtain ⟨oc, od, dV, kV, doc, pm, an, cdv, ct, osl, rfl, lk, hcd, _, _⟩ := F.ex
  exact fnD lk hcd sc hb B hc ho vc
theorem f_ofI {lv : Nat} {cn x q : Str} {st : Stmt} {N ps : List Str} {br : List Bool} {S : DS} {f : Addr} {fd : FuncData} {dvs : List V} {kws : List (Str × V)} {m : Nat} (F : FunD K x q (defArgs st) (defBody st) (defScope st) dvs kws f fd) (sc : FnScope N ps (defScope st)) (hb : br.length + 1 = ps.length) (hm : N.length - 1 = m) (B : List Sx) (hc : chkB N (defScope st) B (defBody st) = true)
    (ho : okB ⟨P, w, K, mg, base, lv⟩ B) (vc : ∀ x ds q Ed, ds.length = br.length → S ds q Ed → wBk Ed B (initK x cn q) (some (.ins x cn []) :: start0 m br ds)) : FnOk P w K mg base (L2.CX P w) (lv + 1) f fd ps (spI K mg cn br S) := by
  obtain ⟨oc, od, dV, kV, doc, pm, an, cdv, ct, osl, rfl, lk, hcd, _, _⟩ := F.ex
  subst hm
  exact fnI lk hcd sc hb B hc ho vc
/-- all of the keyword-only ones are written -/
theorem kb_all {x q : Str} {st : Stmt} {f : Addr} {fd : FuncData} {kws : List (Str × V)} {ps ks : List Str} {n : Nat} (F : FunD K x q (defArgs st) (defBody st) (defScope st) [] kws f fd)
    (h : ∀ (kV doc pm : Value) (an : Option Addr) (cdv ct : Value) (us ws : List Value), us.length = n → ws.length = ks.length → bindArgs (PySem.W.fnOf x q (defArgs st) (defBody st) (defScope st) .none kV doc pm an cdv ct) ⟨us, ks.zip ws⟩ = pure (ps.zip (us ++ ws))) :
    KBn K fd ps n ks (fun us ws => us ++ ws) (fun vs zs => vs ++ (zs ++ [])) := by
  obtain ⟨oc, od, dV, kV, doc, pm, an, cdv, ct, osl, rfl, lk, hcd, hD, hK⟩ := F.ex
  rcases hD with ⟨_, rfl⟩ | ⟨e, _⟩
  · refine ⟨fun s us ws _ l1 l2 => .of_eq (h kV doc pm an cdv ct us ws l1 l2), fun r1 r2 => ?_⟩
    rw [List.append_nil]
    exact r1.append r2
  · exact absurd rfl e
/-- no defaults; x: the def's own name -/
theorem bi_all {x q : Str} {st : Stmt} {f : Addr} {fd : FuncData} {kws : List (Str × V)} {ps : List Str} (F : FunD K x q (defArgs st) (defBody st) (defScope st) [] kws f fd)
    (h : ∀ (kV doc pm : Value) (an : Option Addr) (cdv ct : Value) (us : List Value), us.length = ps.length → bindArgs (PySem.W.fnOf x q (defArgs st) (defBody st) (defScope st) .none kV doc pm an cdv ct) ⟨us, []⟩ = pure (ps.zip us)) : Binds K fd ps [] := by
  obtain ⟨oc, od, dV, kV, doc, pm, an, cdv, ct, osl, rfl, lk, hcd, hD, hK⟩ := F.ex
  rcases hD with ⟨_, rfl⟩ | ⟨e, _⟩
  · exact .all (h kV doc pm an cdv ct)
  · exact absurd rfl e
theorem att_of {cn f : Str} {lv : Nat} {C : Addr} (hC : mg cn = some (.ref C)) (h1 : Cls K C) (h2 : NoAttr K C f) : Top.att ⟨P, w, K, mg, base, lv⟩ cn f := fun C' h => by
  cases hC.symm.trans h
  exact ⟨h1, h2⟩
end
theorem isc_of {P : Program} {w : World} {K : PySem.W.Frag} {mg : Str → Option Value} {base : Heap} {cn : Str} {lv : Nat} (hC : mg cn = some (.ref (He.ga K cn))) (h1 : Cls K (He.ga K cn)) (hi : mg "isinstance" = none) (e : clsB K cn = true) : Top.isc ⟨P, w, K, mg, base, lv⟩ cn := by
  simp only [clsB, Bool.and_eq_true, decide_eq_true_eq, List.all_eq_true] at e
  obtain ⟨e1, e2, e3, e4, e5⟩ := e
  exact ⟨hi, _, hC, h1, e1, e2, e3, e4, e5⟩
section
variable {P : Program} {w : World} {K : PySem.W.Frag} {mg : Str → Option Value} {base : Heap}
theorem FnK.up {j lv : Nat} {f : Str} {n : Nat} {ks : List Str} {br : List Bool} {S : DS} {dv : List D} (g : FnK P w K mg base j f n ks br S dv) (e : j ≤ lv) : Top.fnK ⟨P, w, K, mg, base, lv⟩ f n ks br S dv := by
  obtain ⟨a, fd, ps, g, dvs, F, r⟩ := g
  exact ⟨a, fd, ps, g, dvs, F.mono e, r⟩
theorem MeG.up {j lv : Nat} {c m : Str} {br : List Bool} {S : DS} {dv : List D} (g : MeG P w K mg base j c m br S dv) (e : j ≤ lv) : Top.me ⟨P, w, K, mg, base, lv⟩ c m br S dv := by
  obtain ⟨C, a, fd, ps, ds, dvs, h1, h2, h3, F, r⟩ := g
  exact ⟨C, a, fd, ps, ds, dvs, h1, h2, h3, F.mono e, r⟩
theorem SupG.up {j lv : Nat} {pn cn : Str} {br : List Bool} {S : DS} (g : SupG P w K mg base j pn cn br S) (e : j ≤ lv) : Top.sup ⟨P, w, K, mg, base, lv⟩ pn cn br S := by
  obtain ⟨C, f, fd, ps, h1, h2, F, r⟩ := g
  exact ⟨C, f, fd, ps, h1, h2, F.mono e, r⟩
theorem MkP.up {j lv : Nat} {c : Str} {n : Nat} {ks : List Str} {br : List Bool} {S : DS} {dv : List D} (g : MkP P w K mg base j c n ks br S dv) (e : j + 1 ≤ lv) : Top.madeP ⟨P, w, K, mg, base, lv⟩ c n ks br S dv := by
  obtain ⟨C, f, fd, ps, g, dvs, h1, h2, F, r⟩ := g
  exact ⟨lv - 1, by show lv = _; omega, C, f, fd, ps, g, dvs, h1, h2, F.mono (by omega), r⟩
theorem MkG.up {j lv : Nat} {c : Str} {br : List Bool} {S : DS} {dv : List D} (g : MkG P w K mg base j c br S dv) (e : j + 1 ≤ lv) : Top.made ⟨P, w, K, mg, base, lv⟩ c br S dv := by
  obtain ⟨C, f, fd, ps, ds, dvs, h1, h2, F, r⟩ := g
  exact ⟨lv - 1, by show lv = _; omega, C, f, fd, ps, ds, dvs, h1, h2, F.mono (by omega), r⟩
theorem MkK.up {j lv : Nat} {c : Str} {ks : List Str} {br : List Bool} {S : DS} {dv : List D} (g : MkK P w K mg base j c ks br S dv) (e : j + 1 ≤ lv) : Top.madeK ⟨P, w, K, mg, base, lv⟩ c ks br S dv := by
  obtain ⟨C, f, fd, ps, g, dvs, h1, h2, F, r⟩ := g
  exact ⟨lv - 1, by show lv = _; omega, C, f, fd, ps, g, dvs, h1, h2, F.mono (by omega), r⟩
end
end TT

set_option Elab.async false
set_option linter.all false
set_option maxRecDepth 100000
set_option autoImplicit false
set_option maxHeartbeats 4000000
namespace TT
open PySem PySem.Spec L2
/-! ### shares as data -/
def sh (q : Rat) : D := .tup [.int q.num, .int (q.den : Int)]
def RSz (n : Nat) (q : Rat) : Prop := Sz n q.num ∧ Sz n (q.den : Int)
theorem RSz.mono {a b : Nat} {q : Rat} (h : RSz a q) (k : a ≤ b) : RSz b q := ⟨h.1.mono k, h.2.mono k⟩
theorem bsp {b : Bool} {A B : Prop} (h1 : b = true → A) (h2 : b = false → B) : if b = true then A else B := by
  cases b with
  | true => rw [if_pos rfl]; exact h1 rfl
  | false => rw [if_neg Bool.false_ne_true]; exact h2 rfl
theorem bspd {c A B : Prop} [Decidable c] (h1 : c → A) (h2 : ¬ c → B) : if decide c = true then A else B :=
  bsp (fun h => h1 (of_decide_eq_true h)) (fun h => h2 (of_decide_eq_false h))
theorem den_pos (q : Rat) : (0 : Int) < (q.den : Int) := Int.natCast_pos.mpr q.den_pos
theorem sh_low {t b : Int} (hb : 0 < b) : D.tup [.int (t / (Int.gcd t b : Int)), .int (b / (Int.gcd t b : Int))] = sh (Rat.divInt t b) := by
  unfold sh
  rw [Rat.num_divInt, Rat.den_divInt, if_neg (by omega), Int.sign_eq_one_of_pos hb, Int.one_mul, Int.gcd_comm b t]
  have e : ((b.natAbs / t.gcd b : Nat) : Int) = b / (t.gcd b : Int) := by
    rw [Int.natCast_ediv]
    congr 1
    omega
  rw [e]
theorem gcd_pos_of {t b : Int} (hb : b ≠ 0) : (0 : Int) < (Int.gcd t b : Int) := by
  have := Int.gcd_pos_of_ne_zero_right t hb
  omega
theorem gcd_sz {t b : Int} {k : Nat} (hb : b ≠ 0) (h : Sz k b) : Sz k (Int.gcd t b : Int) := by
  unfold Sz at *
  have h1 : Int.gcd t b ≤ b.natAbs := Nat.le_of_dvd (by omega) (Int.gcd_dvd_natAbs_right t b)
  show (Int.gcd t b : Int).natAbs < 2 ^ k
  rw [Int.natAbs_natCast]
  exact Nat.lt_of_le_of_lt h1 h
theorem gcd_step {x y : Int} (hx : 0 ≤ x) (hy : 0 < y) : Int.gcd y (x % y) = Int.gcd x y := by
  obtain ⟨a, rfl⟩ := Int.eq_ofNat_of_zero_le hx
  obtain ⟨b, rfl⟩ := Int.eq_ofNat_of_zero_le (Int.le_of_lt hy)
  show Nat.gcd (b : Int).natAbs (((a : Int) % (b : Int))).natAbs = Nat.gcd (a : Int).natAbs (b : Int).natAbs
  rw [← Int.natCast_emod, Int.natAbs_natCast, Int.natAbs_natCast, Int.natAbs_natCast, Nat.gcd_comm a b, Nat.gcd_rec b a, Nat.gcd_comm]
/-- what comes by a basic type -/
def basic (d : D) : Bool := (tyD d).isSome
def isInt : D → Bool
  | .int _ => true
  | _ => false
def isSh : D → Bool
  | .tup [.int t, .int b] => decide (0 < b) && decide (Int.gcd t b = 1)
  | _ => false
theorem isSh_sh (q : Rat) : isSh (sh q) = true := by
  unfold sh isSh
  have h1 := q.den_pos
  have h2 := q.reduced
  rw [Bool.and_eq_true, decide_eq_true_eq, decide_eq_true_eq]
  refine ⟨Int.natCast_pos.mpr h1, ?_⟩
  show Nat.gcd q.num.natAbs ((q.den : Int)).natAbs = 1
  rw [Int.natAbs_natCast]
  exact h2
/-! ### the program's words about shares -/
@[irreducible] def S_is_int : DS := fun ds q _ => ∃ d, ds = [d] ∧ basic d = true ∧ q (.v (.bl (isInt d)))
@[irreducible] def S_common_measure : DS := fun ds q _ => ∃ a b : Int, ds = [.int a, .int b] ∧ q (.v (.int (Int.gcd a b)))
@[irreducible] def S_lowest : DS := fun ds q _ => ∃ t b : Int, ds = [.int t, .int b] ∧ b ≠ 0 ∧ Sz 9000 b ∧ q (.v (sh (Rat.divInt t b)))
/-- a thing of which it may be asked whether it is a share -/
def okSh : D → Prop
  | .tup xs => xs.length = 2 → (∀ x ∈ xs, basic x = true) ∧ ∀ t b, xs = [.int t, .int b] → Sz 9000 b
  | d => basic d = true
@[irreducible] def S_is_share : DS := fun ds q _ => ∃ d, ds = [d] ∧ okSh d ∧ q (.v (.bl (isSh d)))
@[irreducible] def S_plus : DS := fun ds q _ => ∃ (x y : Rat) (a b : Nat), ds = [sh x, sh y] ∧ RSz a x ∧ RSz b y ∧ a + b ≤ 9000 ∧ q (.v (sh (x + y)))
@[irreducible] def S_times : DS := fun ds q _ => ∃ (x y : Rat) (a b : Nat), ds = [sh x, sh y] ∧ RSz a x ∧ RSz b y ∧ a + b ≤ 9000 ∧ q (.v (sh (x * y)))

section
variable {q : DV → Prop} {Ed : Str → Prop}
theorem is_int_i {d : D} (h : basic d = true) (hq : q (.v (.bl (isInt d)))) : S_is_int [d] q Ed := by unfold S_is_int; exact ⟨d, rfl, h, hq⟩
theorem measure_i {a b : Int} (hq : q (.v (.int (Int.gcd a b)))) : S_common_measure [.int a, .int b] q Ed := by unfold S_common_measure; exact ⟨a, b, rfl, hq⟩
theorem lowest_i {t b : Int} (hb : b ≠ 0) (hs : Sz 9000 b) (hq : q (.v (sh (Rat.divInt t b)))) : S_lowest [.int t, .int b] q Ed := by unfold S_lowest; exact ⟨t, b, rfl, hb, hs, hq⟩
theorem is_share_i {d : D} (h : okSh d) (hq : q (.v (.bl (isSh d)))) : S_is_share [d] q Ed := by unfold S_is_share; exact ⟨d, rfl, h, hq⟩
theorem plus_i {x y : Rat} {a b : Nat} (hx : RSz a x) (hy : RSz b y) (hab : a + b ≤ 9000) (hq : q (.v (sh (x + y)))) : S_plus [sh x, sh y] q Ed := by unfold S_plus; exact ⟨x, y, a, b, rfl, hx, hy, hab, hq⟩
theorem times_i {x y : Rat} {a b : Nat} (hx : RSz a x) (hy : RSz b y) (hab : a + b ≤ 9000) (hq : q (.v (sh (x * y)))) : S_times [sh x, sh y] q Ed := by unfold S_times; exact ⟨x, y, a, b, rfl, hx, hy, hab, hq⟩
theorem draw_i {m : Int} (h0 : 0 < m) (hs : m < 1000000000) (hq : ∀ d, 0 ≤ d → d < m → q (.v (.int d))) : S_draw [.town, .int m] q Ed := by
  unfold S_draw
  refine ⟨m, rfl, h0, ?_, hq⟩
  have : Sz 30 m := by unfold Sz; omega
  exact this.mono (by decide)
end
def B_is_int : List Sx := [
  .ret (.ands [.isi (.var 0) .int, .not (.isi (.var 0) .bool)])]
def B_common_measure : List Sx := [
  .par 0 1 (.blt .abs [.var 0]) (.blt .abs [.var 1]),
  .loop (.cmp .gt (.var 1) (.int 0)) [.par 0 1 (.var 1) (.bin .mod (.var 0) (.var 1))],
  .ret (.var 0)]
def B_lowest : List Sx := [
  .ifs (.cmp .lt (.var 1) (.int 0)) [.par 0 1 (.neg (.var 0)) (.neg (.var 1))] [],
  .setv 2 (.call "common_measure" [false, false] S_common_measure [] [.var 0, .var 1]),
  .ret (.tup [.bin .fdiv (.var 0) (.var 2), .bin .fdiv (.var 1) (.var 2)])]
def B_is_share : List Sx := [
  .ifs (.ors [.not (.isi (.var 0) .tuple), .cmp .ne (.blt .len [.var 0]) (.int 2), .not (.blt .all [.comp [("one", 1)] (.nm 1) (.seq (.var 0)) none (.call "is_int" [false] S_is_int [] [.var 1])])]) [.ret (.bl false)] [],
  .ret (.ands [.cmp .gt (.ix (.var 0) (.int 1)) (.int 0), .cmp .eq (.call "lowest" [false, false] S_lowest [] [.ix (.var 0) (.int 0), .ix (.var 0) (.int 1)]) (.var 0)])]
def B_plus : List Sx := [
  .ret (.call "lowest" [false, false] S_lowest [] [.bin .add (.bin .mul (.ix (.var 0) (.int 0)) (.ix (.var 1) (.int 1))) (.bin .mul (.ix (.var 1) (.int 0)) (.ix (.var 0) (.int 1))), .bin .mul (.ix (.var 0) (.int 1)) (.ix (.var 1) (.int 1))])]
def B_times : List Sx := [
  .ret (.call "lowest" [false, false] S_lowest [] [.bin .mul (.ix (.var 0) (.int 0)) (.ix (.var 1) (.int 0)), .bin .mul (.ix (.var 0) (.int 1)) (.ix (.var 1) (.int 1))])]

/-- a body keeps its word -/
def VC (k : Nat) (br : List Bool) (S : DS) (B : List Sx) : Prop := ∀ ds q Ed, ds.length = br.length → S ds q Ed → wBk Ed B ⟨fun _ => q (.v .non), q, fun _ => False, fun _ => False⟩ (start0 k br ds)
theorem vc_is_int : VC 1 [false] S_is_int B_is_int := by
  intro ds q Ed hl h
  unfold S_is_int at h
  obtain ⟨d, rfl, hb, h⟩ := h
  cases d <;> first | exact h | (simp [basic, tyD] at hb)
theorem vc_common_measure : VC 2 [false, false] S_common_measure B_common_measure := by
  intro ds q Ed hl h
  unfold S_common_measure at h
  obtain ⟨a, b, rfl, h⟩ := h
  refine ⟨fun m δ => ∃ x y : Int, δ = [some (.v (.int x)), some (.v (.int y))] ∧ 0 ≤ x ∧ 0 ≤ y ∧ Int.gcd x y = Int.gcd a b ∧ m = y.toNat, ⟨_, _, _, rfl, ?_, ?_, ?_, rfl⟩, ?_⟩
  · split <;> omega
  · split <;> omega
  · have e : ∀ x : Int, (if x < 0 then -x else x) = x.natAbs := fun x => by split <;> omega
    rw [e, e]
    simp [Int.gcd]
  · rintro m δ ⟨x, y, rfl, hx, hy, hg, rfl⟩
    refine bspd (fun h0 => ?_) (fun h0 => ?_)
    · refine ⟨h0, (x % y).toNat, ?_, y, x % y, rfl, hy, Int.emod_nonneg _ (by omega), ?_, rfl⟩
      · have h1 := Int.emod_lt_of_pos x h0
        have h2 := Int.emod_nonneg x (show y ≠ 0 by omega)
        omega
      · rw [← hg]
        exact gcd_step hx h0
    · have e : y = 0 := by omega
      subst e
      have : x = (Int.gcd a b : Int) := by
        rw [← hg, Int.gcd_zero_right]
        omega
      show q (.v (.int x))
      rw [this]
      exact h
theorem vc_lowest : VC 3 [false, false] S_lowest B_lowest := by
  intro ds q Ed hl h
  unfold S_lowest at h
  obtain ⟨t, b, rfl, hb, hs, h⟩ := h
  refine bspd (fun h0 => ?_) (fun h0 => ?_)
  · refine measure_i ⟨⟨gcd_pos_of (by omega), gcd_sz (by omega) hs.neg⟩, ⟨gcd_pos_of (by omega), gcd_sz (by omega) hs.neg⟩, ?_⟩
    show q (.v (.tup [.int (-t / (Int.gcd (-t) (-b) : Int)), .int (-b / (Int.gcd (-t) (-b) : Int))]))
    rw [sh_low (by omega), Rat.neg_divInt_neg]
    exact h
  · refine measure_i ⟨⟨gcd_pos_of hb, gcd_sz hb hs⟩, ⟨gcd_pos_of hb, gcd_sz hb hs⟩, ?_⟩
    show q (.v (.tup [.int (t / (Int.gcd t b : Int)), .int (b / (Int.gcd t b : Int))]))
    rw [sh_low (by omega)]
    exact h
theorem vc_plus : VC 2 [false, false] S_plus B_plus := by
  intro ds q Ed hl h
  unfold S_plus at h
  obtain ⟨x, y, a, b, rfl, hx, hy, hab, h⟩ := h
  have hd : (x.den : Int) * (y.den : Int) ≠ 0 := Int.ne_of_gt (Int.mul_pos (den_pos x) (den_pos y))
  refine ⟨⟨a, b, hx.1, hy.2, by omega⟩, ⟨b, a, hy.1, hx.2, by omega⟩, ⟨a, b, hx.2, hy.2, by omega⟩, lowest_i hd ((hx.2.mul hy.2).mono hab) ?_⟩
  show q (.v (sh _))
  have e : x + y = Rat.divInt (x.num * y.den + y.num * x.den) (x.den * y.den) := by
    rw [Rat.add_def', ← Rat.divInt_ofNat]
    norm_cast
  rw [← e]
  exact h
theorem vc_times : VC 2 [false, false] S_times B_times := by
  intro ds q Ed hl h
  unfold S_times at h
  obtain ⟨x, y, a, b, rfl, hx, hy, hab, h⟩ := h
  have hd : (x.den : Int) * (y.den : Int) ≠ 0 := Int.ne_of_gt (Int.mul_pos (den_pos x) (den_pos y))
  refine ⟨⟨a, b, hx.1, hy.1, by omega⟩, ⟨a, b, hx.2, hy.2, by omega⟩, lowest_i hd ((hx.2.mul hy.2).mono hab) ?_⟩
  show q (.v (sh _))
  have e : x * y = Rat.divInt (x.num * y.num) (x.den * y.den) := by
    rw [Rat.mul_def', ← Rat.divInt_ofNat]
    norm_cast
  rw [← e]
  exact h
/-- a comprehension without a test whose element is g of the item -/
theorem comp_map {i : Nat} {we : Sl → (D → Prop) → Prop} {δ : Sl} (g : D → D) : ∀ {ds acc : List D} {q : List D → Prop}, (∀ d ∈ ds, ∀ k : D → Prop, k (g d) → we (δ.set i (some (.v d))) k) → acc.length + ds.length ≤ 1000000 → q (acc ++ ds.map g) → compD (.nm i) (fun _ q => q true) we δ q ds acc
  | [], acc, q, _, _, h => by simpa [compD] using h
  | d :: ds, acc, q, hg, hl, h => by
    show (if true = true then we (δ.set i (some (.v d))) (fun y => acc.length ≤ 1000000 ∧ compD (.nm i) (fun _ q => q true) we δ q ds (acc ++ [y])) else compD (.nm i) (fun _ q => q true) we δ q ds acc)
    rw [if_pos rfl]
    simp only [List.length_cons] at hl
    refine hg d List.mem_cons_self _ ⟨by omega, comp_map g (fun d' h' => hg d' (List.mem_cons_of_mem _ h')) ?_ ?_⟩
    · simp only [List.length_append, List.length_cons, List.length_nil]; omega
    · simpa using h
theorem eqD_int {a b : Int} : eqD (.int a) (.int b) = decide (a = b) := by
  simp [eqD, py, PyData.eqv, Bool.beq_eq_decide_eq]
theorem eqD_tup {a b : List D} : eqD (.tup a) (.tup b) = eqL a b := by simp [eqD, eqL, py, PyData.eqv]
theorem eqD_lst {a b : List D} : eqD (.lst a) (.lst b) = eqL a b := by simp [eqD, eqL, py, PyData.eqv]
theorem eqL_cons {a b : D} {as bs : List D} : eqL (a :: as) (b :: bs) = (eqD a b && eqL as bs) := by simp [eqD, eqL, pyL, PyData.eqvAll]
theorem eqL_nil : eqL [] [] = true := by simp [eqL, pyL, PyData.eqvAll]
theorem eqL_cn {a : D} {as : List D} : eqL (a :: as) [] = false := by simp [eqL, pyL, PyData.eqvAll]
theorem eqD_sh {p q : Rat} : eqD (sh p) (sh q) = decide (p = q) := by
  unfold sh
  rw [eqD_tup, eqL_cons, eqL_cons, eqL_nil, eqD_int, eqD_int, Bool.and_true, Bool.eq_iff_iff, Bool.and_eq_true, decide_eq_true_eq, decide_eq_true_eq, decide_eq_true_eq]
  constructor
  · rintro ⟨h1, h2⟩
    exact Rat.ext h1 (by exact_mod_cast h2)
  · rintro rfl
    exact ⟨rfl, rfl⟩
theorem low_eq {t b : Int} (hb : 0 < b) : eqD (sh (Rat.divInt t b)) (.tup [.int t, .int b]) = decide (Int.gcd t b = 1) := by
  rw [← sh_low hb, eqD_tup, eqL_cons, eqL_cons, eqL_nil, eqD_int, eqD_int, Bool.and_true, Bool.eq_iff_iff, Bool.and_eq_true, decide_eq_true_eq, decide_eq_true_eq, decide_eq_true_eq]
  constructor
  · rintro ⟨h1, h2⟩
    have hg := gcd_pos_of (t := t) (b := b) (by omega)
    have hd : b / (Int.gcd t b : Int) * (Int.gcd t b : Int) = b := Int.ediv_mul_cancel (Int.gcd_dvd_right t b)
    rw [h2] at hd
    have : b * (Int.gcd t b : Int) = b * 1 := by omega
    have := Int.eq_of_mul_eq_mul_left (by omega : b ≠ 0) this
    exact_mod_cast this
  · intro h
    rw [h]
    simp
theorem vc_is_share : VC 2 [false] S_is_share B_is_share := by
  intro ds q Ed hl h
  unfold S_is_share at h
  obtain ⟨d, rfl, ho, h⟩ := h
  cases d <;> try first | exact h | (simp [okSh, basic, tyD] at ho; done)
  rename_i xs
  by_cases hx : xs.length = 2
  · obtain ⟨x, y, rfl⟩ : ∃ x y, xs = [x, y] := by
      match xs, hx with
      | [x, y], _ => exact ⟨x, y, rfl⟩
    obtain ⟨hb, hs⟩ := ho rfl
    have hb1 := hb x (by simp)
    have hb2 := hb y (by simp)
    refine ⟨rfl, rfl, is_int_i hb1 ⟨Nat.zero_le _, is_int_i hb2 ⟨(by show 1 ≤ 1000000; decide), [isInt x, isInt y], rfl, bsp (fun h1 => ?_) (fun h1 => ?_)⟩⟩⟩
    · have e : isSh (.tup [x, y]) = false := by
        cases x <;> cases y <;> first | rfl | (simp [isInt] at h1)
      rw [e] at h
      exact h
    · cases x <;> simp [isInt] at h1
      cases y <;> simp at h1
      rename_i t b
      refine bsp (fun h2 => ?_) (fun h2 => ?_)
      · have h2 : 0 < b := of_decide_eq_true h2
        refine lowest_i (by omega) (hs t b rfl) ⟨rfl, rfl, ?_⟩
        show q (.v (.bl (eqD (sh (Rat.divInt t b)) (.tup [.int t, .int b]))))
        rw [low_eq h2]
        have e : isSh (.tup [.int t, .int b]) = decide (Int.gcd t b = 1) := by simp [isSh, h2]
        rw [e] at h
        exact h
      · have h2 : ¬ 0 < b := of_decide_eq_false h2
        have e : isSh (.tup [.int t, .int b]) = false := by simp [isSh, h2]
        rw [e] at h
        exact h
  · have e : isSh (.tup xs) = false := by
      unfold isSh
      split
      · rename_i z; cases z; exact absurd rfl hx
      · rfl
    rw [e] at h
    refine ⟨rfl, rfl, bsp (fun h1 => h) (fun h1 => ?_)⟩
    exfalso
    have : eqD (.int xs.length) (.int 2) = true := by simpa using h1
    rw [eqD_int, decide_eq_true_eq] at this
    omega
end TT

set_option Elab.async false
set_option linter.all false
set_option maxRecDepth 100000
set_option autoImplicit false
set_option maxHeartbeats 4000000
namespace TT
open PySem PySem.Spec L2
/-! ### the looked-at words; the law's own words about shares -/
@[irreducible] def S_law_pick : DS := fun ds q _ => ∃ xs, ds = [.town, .lst xs] ∧ 0 < xs.length ∧ xs.length ≤ 1000 ∧ ∀ x ∈ xs, q (.v x)
@[irreducible] def S_law_any_share : DS := fun ds q _ => ds = [.town] ∧ ∀ u : Rat, RSz 12 u → q (.v (sh u))
def B_law_pick : List Sx := [
  .ret (.ix (.var 1) (.call "_law_draw" [false, false] S_draw [] [.var 0, .blt .len [.var 1]]))]
def B_law_low : List Sx := [
  .ifs (.cmp .lt (.var 1) (.int 0)) [.par 0 1 (.bin .sub (.int 0) (.var 0)) (.bin .sub (.int 0) (.var 1))] [],
  .par 2 3 (.blt .max2 [.var 0, .bin .sub (.int 0) (.var 0)]) (.var 1),
  .loop (.cmp .gt (.var 3) (.int 0)) [.par 2 3 (.var 3) (.bin .mod (.var 2) (.var 3))],
  .ret (.tup [.bin .fdiv (.var 0) (.var 2), .bin .fdiv (.var 1) (.var 2)])]
def B_law_times : List Sx := [
  .ret (.call "_law_low" [false, false] S_lowest [] [.bin .mul (.ix (.var 0) (.int 0)) (.ix (.var 1) (.int 0)), .bin .mul (.ix (.var 0) (.int 1)) (.ix (.var 1) (.int 1))])]
def B_law_any_share : List Sx := [
  .setv 1 (.call "_law_low" [false, false] S_lowest [] [.call "_law_draw" [false, false] S_draw [] [.var 0, .int 2001], .bin .add (.int 1) (.call "_law_draw" [false, false] S_draw [] [.var 0, .int 30])]),
  .ret (.ite (.cmp .eq (.call "_law_draw" [false, false] S_draw [] [.var 0, .int 2]) (.int 0)) (.var 1) (.tup [.bin .sub (.int 0) (.ix (.var 1) (.int 0)), .ix (.var 1) (.int 1)]))]
theorem sz_of {k : Nat} {i : Int} {m : Nat} (h : i.natAbs < m) (hm : m ≤ 2 ^ k) : Sz k i := Nat.lt_of_lt_of_le h hm
theorem sz12 {k : Nat} {i : Int} (h : i.natAbs < 4096) (hk : 12 ≤ k) : Sz k i := (sz_of (k := 12) h (by decide)).mono hk
theorem vc_law_pick : VC 2 [false, false] S_law_pick B_law_pick := by
  intro ds q Ed hl h
  unfold S_law_pick at h
  obtain ⟨xs, rfl, h0, h1, h⟩ := h
  refine draw_i (by omega) (by omega) fun d hd0 hd1 => ?_
  · obtain ⟨k, rfl⟩ := Int.eq_ofNat_of_zero_le hd0
    have hk : k < xs.length := by omega
    have e : atI xs (k : Int) = some xs[k] := atI_nat (List.getElem?_eq_getElem hk)
    show opIx (.lst xs) (.int k) _
    dsimp only [opIx]
    rw [e]
    exact h _ (List.getElem_mem hk)
theorem vc_law_low : VC 4 [false, false] S_lowest B_law_low := by
  intro ds q Ed hl h
  unfold S_lowest at h
  obtain ⟨t, b, rfl, hb, hs, h⟩ := h
  -- the loop, from a positive number on
  have run : ∀ t b : Int, 0 < b → Sz 9000 b → q (.v (sh (Rat.divInt t b))) → wBk Ed (B_law_low.drop 1) ⟨fun _ => q (.v .non), q, fun _ => False, fun _ => False⟩ [some (.v (.int t)), some (.v (.int b)), none, none] := by
    intro t b hb hs h
    refine ⟨fun m δ => ∃ x y : Int, δ = [some (.v (.int t)), some (.v (.int b)), some (.v (.int x)), some (.v (.int y))] ∧ 0 ≤ x ∧ 0 ≤ y ∧ Int.gcd x y = Int.gcd t b ∧ m = y.toNat, ⟨_, _, _, rfl, ?_, by omega, ?_, rfl⟩, ?_⟩
    · split <;> omega
    · have e : (if 0 - t > t then 0 - t else t) = t.natAbs := by split <;> omega
      rw [e]
      simp [Int.gcd]
    · rintro m δ ⟨x, y, rfl, hx, hy, hg, rfl⟩
      refine bspd (fun h0 => ?_) (fun h0 => ?_)
      · refine ⟨h0, (x % y).toNat, ?_, y, x % y, rfl, hy, Int.emod_nonneg _ (by omega), ?_, rfl⟩
        · have h1 := Int.emod_lt_of_pos x h0
          have h2 := Int.emod_nonneg x (show y ≠ 0 by omega)
          omega
        · rw [← hg]
          exact gcd_step hx h0
      · have e : y = 0 := by omega
        subst e
        have : x = (Int.gcd t b : Int) := by
          rw [← hg, Int.gcd_zero_right]
          omega
        subst this
        refine ⟨⟨gcd_pos_of (by omega), gcd_sz (by omega) hs⟩, ⟨gcd_pos_of (by omega), gcd_sz (by omega) hs⟩, ?_⟩
        show q (.v (.tup [.int (t / (Int.gcd t b : Int)), .int (b / (Int.gcd t b : Int))]))
        rw [sh_low hb]
        exact h
  refine bspd (fun h0 => ?_) (fun h0 => ?_)
  · refine run (0 - t) (0 - b) (by omega) (by rw [Int.zero_sub]; exact hs.neg) ?_
    rw [Int.zero_sub, Int.zero_sub, Rat.neg_divInt_neg]
    exact h
  · exact run t b (by omega) hs h
theorem vc_law_times : VC 2 [false, false] S_times B_law_times := by
  intro ds q Ed hl h
  unfold S_times at h
  obtain ⟨x, y, a, b, rfl, hx, hy, hab, h⟩ := h
  have hd : (x.den : Int) * (y.den : Int) ≠ 0 := Int.ne_of_gt (Int.mul_pos (den_pos x) (den_pos y))
  refine ⟨⟨a, b, hx.1, hy.1, by omega⟩, ⟨a, b, hx.2, hy.2, by omega⟩, lowest_i hd ((hx.2.mul hy.2).mono hab) ?_⟩
  show q (.v (sh _))
  have e : x * y = Rat.divInt (x.num * y.num) (x.den * y.den) := by
    rw [Rat.mul_def', ← Rat.divInt_ofNat]
    norm_cast
  rw [← e]
  exact h
/-- a ratio is no greater than what it is made of -/
theorem rsz_div {k : Nat} {t b : Int} (hb : 0 < b) (ht : Sz k t) (hs : Sz k b) : RSz k (Rat.divInt t b) := by
  have hg := gcd_pos_of (t := t) (b := b) (by omega)
  have le : ∀ x : Int, Sz k x → Sz k (x / (Int.gcd t b : Int)) := fun x hx => by
    unfold Sz at *
    refine Nat.lt_of_le_of_lt ?_ hx
    exact Int.natAbs_ediv_le_natAbs x _
  have e := sh_low (t := t) hb
  unfold sh at e
  injection e with e
  injection e with e1 e2
  injection e2 with e2 _
  injection e1 with e1
  injection e2 with e2
  exact ⟨by rw [← e1]; exact le t ht, by rw [← e2]; exact le b hs⟩
theorem RSz.neg {k : Nat} {u : Rat} (h : RSz k u) : RSz k (-u) := ⟨by rw [Rat.neg_num]; exact h.1.neg, by rw [Rat.neg_den]; exact h.2⟩
theorem vc_law_any_share : VC 2 [false] S_law_any_share B_law_any_share := by
  intro ds q Ed hl h
  unfold S_law_any_share at h
  obtain ⟨rfl, h⟩ := h
  refine draw_i (by decide) (by decide) fun t ht0 ht1 => ?_
  refine draw_i (by decide) (by decide) fun b hb0 hb1 => ?_
  have sb : Sz 12 (1 + b) := sz_of (m := 4096) (by omega) (by decide)
  have st : Sz 12 t := sz_of (m := 4096) (by omega) (by decide)
  refine lowest_i (by omega) (sb.mono (by decide)) ?_
  have hr := rsz_div (by omega) st sb
  refine draw_i (by decide) (by decide) fun s hs0 hs1 => ⟨rfl, rfl, bsp (fun _ => h _ hr) (fun _ => ?_)⟩
  show q (.v (.tup [.int (0 - (Rat.divInt t (1 + b)).num), .int _]))
  have := h _ hr.neg
  unfold sh at this
  rw [Rat.neg_num, Rat.neg_den] at this
  rw [Int.zero_sub]
  exact this
theorem okSh_sh {u : Rat} {k : Nat} (h : RSz k u) (hk : k ≤ 9000) : okSh (sh u) := by
  intro _
  refine ⟨by simp [basic, tyD], fun t b e => ?_⟩
  injection e with e1 e2
  injection e2 with e2 _
  injection e2 with e2
  rw [← e2]
  exact h.2.mono hk
theorem is_share_t {u : Rat} {k : Nat} {q : DV → Prop} {Ed : Str → Prop} (h : RSz k u) (hk : k ≤ 9000) (hq : q (.v (.bl true))) : S_is_share [sh u] q Ed := is_share_i (okSh_sh h hk) (by rw [isSh_sh]; exact hq)
theorem rsz_add {a b : Nat} {u v : Rat} (ha : RSz a u) (hb : RSz b v) : RSz (a + b + 1) (u + v) := by
  have e : u + v = Rat.divInt (u.num * v.den + v.num * u.den) (u.den * v.den) := by
    rw [Rat.add_def', ← Rat.divInt_ofNat]
    norm_cast
  rw [e]
  refine rsz_div (Int.mul_pos (den_pos u) (den_pos v)) ?_ ((ha.2.mul hb.2).mono (by omega))
  have := (ha.1.mul hb.2).add (hb.1.mul ha.2)
  exact this.mono (by omega)
theorem rsz_mul {a b : Nat} {u v : Rat} (ha : RSz a u) (hb : RSz b v) : RSz (a + b) (u * v) := by
  have e : u * v = Rat.divInt (u.num * v.num) (u.den * v.den) := by
    rw [Rat.mul_def', ← Rat.divInt_ofNat]
    norm_cast
  rw [e]
  exact rsz_div (Int.mul_pos (den_pos u) (den_pos v)) (ha.1.mul hb.1) (ha.2.mul hb.2)

theorem pick_i {xs : List D} {q : DV → Prop} {Ed : Str → Prop} (h0 : 0 < xs.length) (h1 : xs.length ≤ 1000) (hq : ∀ x ∈ xs, q (.v x)) : S_law_pick [.town, .lst xs] q Ed := by unfold S_law_pick; exact ⟨xs, rfl, h0, h1, hq⟩
theorem any_share_i {q : DV → Prop} {Ed : Str → Prop} (hq : ∀ u : Rat, RSz 12 u → q (.v (sh u))) : S_law_any_share [.town] q Ed := by unfold S_law_any_share; exact ⟨rfl, hq⟩
end TT

set_option Elab.async false
set_option linter.all false
set_option maxRecDepth 100000
set_option autoImplicit false
/-! a keyword-only default that is a tuple -/
namespace TT
open PySem PySem.Spec L2
theorem flatA_ok {K : PySem.W.Frag} {mg : Str → Option Value} {a : Addr} {ds : List D} (c : flatA K a ds = true) : ∀ W, RepL K mg W [.ref a] [.tup ds] := by
  unfold flatA at c
  split at c
  · rename_i o lk
    rw [Bool.and_eq_true, decide_eq_true_eq] at c
    obtain ⟨c1, c2⟩ := c
    split at c2
    · rename_i its n e2
      rw [Bool.and_eq_true, decide_eq_true_eq] at c2
      obtain ⟨vs, h1, h2⟩ := relAll_ok (K := K) (mg := mg) c2.2
      have hs : sizeLine = 16777216 := sizeLine_eq
      exact fun W => .cons (.tup (.inr ⟨o, its, n, lk, c1, e2, by omega, h1⟩) (h2 W)) .nil
    · cases c2
  · cases c
section
variable {K : PySem.W.Frag}
end
end TT

set_option Elab.async false
set_option linter.all false
set_option maxRecDepth 100000
set_option autoImplicit false
/-! methods and defs with keyword-only defaults -/
namespace TT
open PySem PySem.Spec L2
section
variable {P : Program} {w : World} {K : PySem.W.Frag} {mg : Str → Option Value} {base : Heap}
theorem MeK.up {j lv : Nat} {c m : Str} {n : Nat} {ks : List Str} {br : List Bool} {S : DS} {dv : List D} (g : MeK P w K mg base j c m n ks br S dv) (e : j ≤ lv) : Top.meK ⟨P, w, K, mg, base, lv⟩ c m n ks br S dv := by
  obtain ⟨C, a, fd, ps, g, dvs, h1, h2, h3, F, r⟩ := g
  exact ⟨C, a, fd, ps, g, dvs, h1, h2, h3, F.mono e, r⟩
theorem flatA_one {a : Addr} {ds : List D} (c : flatA K a ds = true) (W : Wd) : Rep K mg W (.ref a) (.tup ds) := by
  cases flatA_ok (mg := mg) c W with
  | cons h _ => exact h
end
end TT

set_option Elab.async false
set_option linter.all false
set_option maxRecDepth 100000
set_option autoImplicit false
/-! a constant of the top that is a tuple of tuples -/
namespace TT
open PySem PySem.Spec L2
end TT

set_option Elab.async false
set_option linter.all false
set_option maxRecDepth 100000
set_option autoImplicit false
namespace TT
open PySem PySem.Spec L2
/-! the head for laws with many defs: a lean K (what stands within a code object is left out), and the statics' table (a base class's def is read off the class) -/
end TT

set_option Elab.async false
set_option linter.all false
set_option maxRecDepth 100000
set_option autoImplicit false
/-! The town of the law: its cells are drawn from. -/
namespace TT
open PySem PySem.Spec L2
theorem scTown : FnScope ["_law_script"] ["_law_script"] (defScope sTown) := ⟨rfl, rfl, rfl, by decide +kernel, rfl, by decide +kernel, by decide +kernel⟩
theorem scDraw : FnScope ["_law_town_here", "_law_many", "_law_row", "_law_at", "_law_cell", "_law_mixed"] ["_law_town_here", "_law_many"] (defScope sDraw) := ⟨rfl, rfl, rfl, by decide +kernel, rfl, by decide +kernel, by decide +kernel⟩
theorem map_set_int {ns : List Int} {j : Nat} {n : Int} : (ns.map V.int).set j (.int n) = (ns.set j n).map V.int := by
  rw [List.map_set]
section
variable {P : Program} {w : World} {K : PySem.W.Frag} {mg : Str → Option Value} {base : Heap}
theorem okTown {lv : Nat} {f : Addr} {fd : FuncData} (F : Fun K "_law_town" "_law_town" sTown f fd) (m1 : mg "list" = none) : FnOk P w K mg base (L2.CX P w) (lv + 1) f fd ["_law_script"] (spTown K) := by
  refine F.okX scTown (fun vs H Q E h => by obtain ⟨_, _, rfl, _⟩ := h; rfl) (fun cdv A outer s H vs Q E hr h => ?_)
  obtain ⟨a, ns, rfl, hS, hl, hQ⟩ := h
  refine ⟨_, pss_one (ps_ret (pe_lst (pa_cons (pe_ifExp (pt_cmpR (op_neD hr.units) (pv 0) (pe_lst pa_nil) (nomark _))
    (pe_callTy call_list_of (by rfl) m1 PyProof.Rows.boot_list (pa_cons (pv 0) pa_nil)) (pe_lst (pa_cons pe_int pa_nil))) (pa_cons pe_int pa_nil)))), ?_⟩
  refine ⟨.ref a, rfl, Nat.zero_le _, fun e he => ?_⟩
  have s1 : Same H (upd H e (.lst [])) := fun b o q => by rw [upd_ne (ne_of_none q he)]; exact q
  refine ⟨_, _, .lst (s1.seq hS) (dp_ints ns), .lst (SqL.of upd_same) .nil, shaped_ints ns, shaped_ints [], _, rfl, ?_⟩
  rw [eqv_nil]
  have last : ∀ (H1 : Hp) (R : Addr) (ks : List Int), Same H H1 → H R = none → H1 R = some (.lst (ks.map V.int)) → 0 < ks.length → ks.length ≤ 64 →
      tCons (tC (V.int 0)) tNil (L2.start [Str.ofString "_law_script"] [V.ref a]) H1 fun xs H2 => (V.ref R :: xs).length ≤ sizeLine ∧ ∀ p, H2 p = none → Q (.ref p) (upd H2 p (.lst (V.ref R :: xs))) := by
    intro H1 R ks hs hR h1 hk hk'
    refine ⟨(by show 2 ≤ sizeLine; decide), fun T hT => ?_⟩
    have nR : R ≠ T := ne_of_none h1 hT
    refine hQ T R _ (hs.trans fun b o q => by rw [upd_ne (ne_of_none q hT)]; exact q) (hs.free hT) hR nR.symm ⟨ks, 0, upd_same, by rw [upd_ne nR]; exact h1, Int.le_refl _, hk, hk'⟩
  cases ns with
  | nil =>
    refine ⟨(by show 1 ≤ sizeLine; decide), fun R hR => ?_⟩
    exact last _ R [0] (s1.trans fun b o q => by rw [upd_ne (ne_of_none q hR)]; exact q) (s1.free hR) upd_same (by decide) (by decide)
  | cons n ns =>
    refine ⟨.ref a, rfl, a, _, rfl, .inl (s1.seq hS), fun R hR => ?_⟩
    exact last _ R (n :: ns) (s1.trans fun b o q => by rw [upd_ne (ne_of_none q hR)]; exact q) (s1.free hR) upd_same (Nat.succ_pos _) (Nat.le_trans hl (by decide))
theorem okDraw {lv : Nat} {f : Addr} {fd : FuncData} (F : Fun K "_law_draw" "_law_draw" sDraw f fd) (m1 : mg "len" = none) : FnOk P w K mg base (L2.CX P w) (lv + 1) f fd ["_law_town_here", "_law_many"] (spD K mg [false, false] S_draw) := by
  refine F.okX scDraw (fun vs H Q E h => h.1) (fun cdv A outer s H vs Q E hr h => ?_)
  obtain ⟨hl, W, ds, q, Ed, wk, ra, hS, hq, hE⟩ := h
  unfold S_draw at hS
  obtain ⟨m, rfl, hm, hz, hS⟩ := hS
  obtain ⟨v, rfl, r⟩ : ∃ v, vs = [v, .int m] ∧ Rep K mg W v .town := by
    cases ra with
    | cons h r =>
      cases r with
      | cons h' r' =>
        cases r'
        simp [RepM] at h h'
        cases h'
        exact ⟨_, rfl, h⟩
  obtain ⟨T, R, rfl, e⟩ := r.townInv
  obtain ⟨nTR, _, _, ns, n, hT, hR, hn, h0, h6⟩ := wk.town T R e
  refine ⟨_, pss_cons (ps_set (i := 2) scDraw.nd rfl (.inl rfl) (pe_ix ix_list (pv 0) pe_int (fun _ _ => rfl)))
    (pss_cons (ps_asg (pe_op op_add (pe_ix ix_list (pv 0) pe_int (fun _ _ => rfl)) pe_int) (pg_sub (pv 0) pe_int set_list))
    (pss_cons (ps_set (i := 3) scDraw.nd rfl (.inl rfl) (pe_op op_mod (pe_ix ix_list (pv 0) pe_int (fun _ _ => rfl)) (pe_callB call_len_seq (by rfl) m1 PyProof.Rows.bootS_len (pa_cons (pv 2) pa_nil))))
    (pss_cons (ps_set (i := 4) scDraw.nd rfl (.inl rfl) (pe_ix ix_list (pv 2) (pv 3) (fun _ _ => rfl)))
    (pss_cons (ps_if (pt_cmpR op_ge (pv 4) pe_int (nomark _)) (pss_cons (ps_asg (pe_op op_fdivW (pv 4) (pv 1)) (pg_sub (pv 2) (pv 3) set_list)) (pss_one (ps_ret (pe_op op_mod (pv 4) (pv 1))))) pss_nil)
    (pss_cons (ps_set (i := 5) scDraw.nd rfl (.inl rfl) (pe_op op_mod (pe_op op_add (pv 4) (pe_op op_mul pe_int (pe_ix ix_list (pv 0) pe_int (fun _ _ => rfl)))) pe_int))
    (pss_cons (ps_set (i := 5) scDraw.nd rfl (.inl rfl) (pe_op op_mod (pe_op op_pow (pv 5) pe_int) pe_int))
    (pss_one (ps_ret (pe_op op_mod (pe_op op_fdivW (pe_op op_mod (pe_op op_add (pe_op op_mul (pe_op op_fdivW (pv 5) pe_int) pe_int) (pv 5)) pe_int) pe_int) (pv 1)))))))))), ?_⟩
  refine ⟨_, rfl, T, _, _, _, rfl, rfl, SqL.of hT, rfl, ?_⟩
  refine ⟨_, rfl, T, _, _, _, rfl, rfl, SqL.of hT, rfl, _, _, rfl, rfl, _, rfl, T, _, _, _, rfl, rfl, hT, rfl, ?_⟩
  have hT1 : upd H T (HO.lst [V.ref R, V.int (n + 1)]) T = some (.lst [.ref R, .int (n + 1)]) := upd_same
  have hR1 : upd H T (HO.lst [V.ref R, V.int (n + 1)]) R = some (.lst (ns.map V.int)) := by rw [upd_ne nTR.symm]; exact hR
  have ho : ∀ a, a ≠ T → a ≠ R → upd H T (HO.lst [V.ref R, V.int (n + 1)]) a = H a := fun a h _ => upd_ne h
  show tSeq _ _ _ _ (upd H T (HO.lst [V.ref R, V.int (n + 1)]))
  generalize upd H T (HO.lst [V.ref R, V.int (n + 1)]) = H1 at hT1 hR1 ho ⊢
  have hlen : (0 : Int) < ((ns.map V.int).length : Int) := by rw [List.length_map]; omega
  refine ⟨_, rfl, T, _, _, _, rfl, rfl, SqL.of hT1, rfl, _, rfl, R, _, rfl, .inl (SqL.of hR1), _, _, rfl, rfl, hlen, ?_⟩
  have hj0 := Int.emod_nonneg (n + 1) (Int.ne_of_gt hlen)
  have hj1 := Int.emod_lt_of_pos (n + 1) hlen
  obtain ⟨j, ej⟩ : ∃ j : Nat, (n + 1) % ((ns.map V.int).length : Int) = (j : Int) := ⟨((n + 1) % ((ns.map V.int).length : Int)).toNat, by omega⟩
  rw [ej] at hj1
  have hj : j < ns.length := by rw [List.length_map] at hj1; omega
  have hix : ixN (ns.map V.int).length (j : Int) = some j := by
    unfold ixN
    rw [if_pos (Int.natCast_nonneg j), if_pos hj1]
    rfl
  obtain ⟨c, hc⟩ : ∃ c, ns[j]? = some c := ⟨ns[j], List.getElem?_eq_getElem hj⟩
  have hat : atI (ns.map V.int) (j : Int) = some (.int c) := by
    unfold atI
    rw [hix]
    show (ns.map V.int)[j]? = _
    rw [List.getElem?_map, hc]
    rfl
  refine ⟨_, rfl, .int j, (show some (some (V.int ((n + 1) % ((ns.map V.int).length : Int)))) = some (some (V.int (j : Int))) by rw [ej]), R, _, (j : Int), .int c, rfl, rfl, SqL.of hR1, hat, ?_⟩
  refine ⟨.int c, rfl, c, _, rfl, rfl, _, rfl, ?_⟩
  by_cases hb : (1000000000000000000 : Int) ≤ c
  · rw [decide_eq_true hb]
    refine ⟨.int c, rfl, .int m, rfl, c, m, rfl, rfl, ⟨hm, ?_⟩, .ref R, rfl, .int j, (show some (some (V.int ((n + 1) % ((ns.map V.int).length : Int)))) = some (some (V.int (j : Int))) by rw [ej]), R, _, j, j, rfl, rfl, hR1, hix, .int c, rfl, .int m, rfl, c, m, rfl, rfl, hm, ?_⟩
    · exact Nat.lt_of_lt_of_le (PySem.Flt.log2_lt_of (by decide) hz) (Nat.le_refl _)
    · refine hq W _ _ (.v (.int (c % m))) (Stp.town (n := n + 1) (ns := ns.set j (c / m)) wk e (by omega) (by rw [List.length_set]; exact h0) (by rw [List.length_set]; exact h6) ?_ ?_ fun a ha hb => ?_) (Rep.int _) (hS _ (Int.emod_nonneg _ (Int.ne_of_gt hm)) (Int.emod_lt_of_pos _ hm))
      · rw [upd_ne nTR]; exact hT1
      · rw [upd_same, map_set_int]
      · rw [upd_ne hb]; exact ho a ha hb
  · rw [decide_eq_false hb]
    have hm5 := Int.emod_nonneg (c + 104729 * (n + 1)) (show (4294967291 : Int) ≠ 0 by decide)
    have hm6 := Int.emod_lt_of_pos (c + 104729 * (n + 1)) (show (0 : Int) < 4294967291 by decide)
    refine ⟨.int c, rfl, .ref T, rfl, T, _, _, _, rfl, rfl, SqL.of hT1, rfl, _, _, rfl, rfl, .inl ⟨by decide, by decide⟩, _, _, rfl, rfl, _, _, rfl, rfl, (show (0 : Int) < 4294967291 by decide), ?_⟩
    show tSeq _ _ _ (List.set _ 5 (some (V.int ((c + 104729 * (n + 1)) % 4294967291)))) _
    generalize (c + 104729 * (n + 1)) % 4294967291 = x at hm5 hm6
    refine ⟨.int x, rfl, x, _, rfl, rfl, ⟨by decide, by decide, by omega⟩, _, _, rfl, rfl, (show (0 : Int) < 4294967279 by decide), ?_⟩
    show gName 5 (V.int (x ^ Int.toNat 5 % 4294967279)) _ _ _
    generalize x ^ Int.toNat 5 % 4294967279 = y
    refine ⟨.int y, rfl, y, _, rfl, rfl, ⟨by decide, by decide⟩, _, _, rfl, rfl, .inr ⟨by decide, by decide⟩, .int y, rfl, _, _, rfl, rfl, _, _, rfl, rfl, (show (0 : Int) < 4294967231 by decide), _, _, rfl, rfl, ⟨by decide, by decide⟩, .int m, rfl, _, _, rfl, rfl, hm, ?_⟩
    exact hq W _ _ (.v (.int _)) (Stp.town (n := n + 1) (ns := ns) wk e (by omega) h0 h6 hT1 hR1 ho) (Rep.int _) (hS _ (Int.emod_nonneg _ (Int.ne_of_gt hm)) (Int.emod_lt_of_pos _ hm))
end
end TT

set_option Elab.async false
set_option linter.all false
set_option maxRecDepth 100000
set_option autoImplicit false
set_option maxHeartbeats 1000000
namespace TT
open PySem PySem.Spec L2
/-! ### the walk by steps: sealed words, one rule for each form -/
@[irreducible] def EE : (Str → Prop) → Ex → Sl → (DV → Prop) → Prop := wE
@[irreducible] def AA : (Str → Prop) → List Ex → List Bool → Sl → (List D → Prop) → Prop := wA
@[irreducible] def BB : (Str → Prop) → List Sx → Kn → Sl → Prop := wBk
@[irreducible] def II : Bool → (Str → Prop) → Itx → Sl → (List D → Prop) → Prop := wI
@[irreducible] def LA : (Str → Prop) → List Ex → Sl → (Bool → Prop) → Prop := wAnds
@[irreducible] def LO : (Str → Prop) → List Ex → Sl → (Bool → Prop) → Prop := wOrs
@[irreducible] def OO : (Str → Prop) → Option Ex → Sl → (Bool → Prop) → Prop := wO
@[irreducible] def CM : Bool → DV → (D → Prop) → Prop := fun m dv q => coM m dv q
@[irreducible] def AB : DV → (Bool → Prop) → Prop := fun dv q => asB dv q
@[irreducible] def RV : DV → (DV → Prop) → Prop := fun dv q => rtV dv q
@[irreducible] def SV : DV → Prop → Prop := fun dv q => stV dv q
@[irreducible] def SQ : Bool → DV → (List D → Prop) → Prop := fun c dv q => seqD c dv q
@[irreducible] def CC : Tg → (Sl → (Bool → Prop) → Prop) → (Sl → (D → Prop) → Prop) → Sl → (List D → Prop) → List D → List D → Prop := compD
@[irreducible] def DD : Tg → (Sl → (Bool → Prop) → Prop) → (Sl → (List D → Prop) → Prop) → Tg → (Sl → (Bool → Prop) → Prop) → (Sl → (D → Prop) → Prop) → List Nat → Sl → (List D → Prop) → List D → List D → Prop := comp2D
@[irreducible] def FF : Tg → (Kn → Sl → Prop) → Kn → List D → Sl → Prop := forD
@[irreducible] def TG : Tg → D → Sl → (Sl → Prop) → Prop := tgD
@[irreducible] def TS : List Tg → List D → Sl → (Sl → Prop) → Prop := tgsD
@[irreducible] def RG : D → (List D → Prop) → Prop := fun d q => match [d] with
  | [.int j] => -4611686018427387904 ≤ j ∧ j < 4611686018427387904 ∧ q (rngD 0 j.toNat)
  | _ => False
/-- a choice; sealed as well -/
@[irreducible] def IF : Bool → Prop → Prop → Prop := fun b A B => if b = true then A else B
/-- a step of the walk, found by the goal's head -/
class Rul (P : Prop) (Q : outParam Prop) : Prop where
  h : Q → P
local macro_rules
  | `(tactic| fail "u") => `(tactic| try simp only [EE, AA, BB, II, LA, LO, OO, CM, AB, RV, SV, SQ, CC, DD, FF, TG, TS, IF] at *)
theorem BB.of {Ed : Str → Prop} {b : List Sx} {K : Kn} {δ : Sl} (h : BB Ed b K δ) : wBk Ed b K δ := by fail "u"; exact h
theorem BB.to {Ed : Str → Prop} {b : List Sx} {K : Kn} {δ : Sl} (h : wBk Ed b K δ) : BB Ed b K δ := by fail "u"; exact h
section
variable {Ed : Str → Prop} {δ : Sl} {q : DV → Prop} {kn : Sl → Prop} {kr : DV → Prop} {kb kc : Sl → Prop} {rest b1 b2 : List Sx} {a b c e : Ex} {es : List Ex}
/-! names and constants -/
theorem x_var {i : Nat} {d : D} (h : δ.getD i none = some (.v d)) (hq : q (.v d)) : EE Ed (.var i) δ q := by
  fail "u"
  show wVar i δ q
  unfold wVar
  rw [h]; exact hq
theorem x_varO {i : Nat} {d : D} (h : δ.getD i none = some (.own d)) (hq : q (.bl d)) : EE Ed (.var i) δ q := by
  fail "u"
  show wVar i δ q
  unfold wVar
  rw [h]; exact hq
theorem x_varP {i : Nat} {a : Addr} {d : D} (h : δ.getD i none = some (.pin a d)) (hq : q (.bl d)) : EE Ed (.var i) δ q := by
  fail "u"
  show wVar i δ q
  unfold wVar
  rw [h]; exact hq
theorem x_varB {i : Nat} {d : D} (h : δ.getD i none = some (.bp d)) (hq : q (.bp d)) : EE Ed (.var i) δ q := by
  fail "u"
  show wVar i δ q
  unfold wVar
  rw [h]; exact hq
theorem x_int {i : Int} (hq : q (.v (.int i))) : EE Ed (.int i) δ q := by fail "u"; exact hq
instance ri_int {i : Int} : Rul (EE Ed (.int i) δ q) (q (.v (.int i))) := ⟨fun h => x_int h⟩
theorem x_str {i : Str} (hq : q (.v (.str i))) : EE Ed (.str i) δ q := by fail "u"; exact hq
instance ri_str {i : Str} : Rul (EE Ed (.str i) δ q) (q (.v (.str i))) := ⟨fun h => x_str h⟩
theorem x_bl {i : Bool} (hq : q (.v (.bl i))) : EE Ed (.bl i) δ q := by fail "u"; exact hq
instance ri_bl {i : Bool} : Rul (EE Ed (.bl i) δ q) (q (.v (.bl i))) := ⟨fun h => x_bl h⟩
theorem x_non (hq : q (.v .non)) : EE Ed .non δ q := by fail "u"; exact hq
instance ri_non : Rul (EE Ed .non δ q) (q (.v .non)) := ⟨fun h => x_non h⟩
theorem x_glb {x : Str} {d : D} (hq : q (.v d)) : EE Ed (.glb x d) δ q := by fail "u"; exact hq
instance (priority := low) ri_glb {x : Str} {d : D} : Rul (EE Ed (.glb x d) δ q) (q (.v d)) := ⟨fun h => x_glb h⟩
theorem x_dic0 (hq : q (.own (.dic []))) : EE Ed .dic0 δ q := by fail "u"; exact hq
instance ri_dic0 : Rul (EE Ed .dic0 δ q) (q (.own (.dic []))) := ⟨fun h => x_dic0 h⟩
/-! lists of arguments -/
theorem x_anil {ms : List Bool} {q : List D → Prop} (hq : q []) : AA Ed [] ms δ q := by fail "u"; cases ms <;> exact hq
instance ri_anil {ms : List Bool} {q : List D → Prop} : Rul (AA Ed [] ms δ q) (q []) := ⟨fun h => x_anil h⟩
theorem x_acons {m : Bool} {ms ms' : List Bool} {q : List D → Prop} (h : ms = m :: ms') (hq : EE Ed a δ fun dv => CM m dv fun d => AA Ed es ms' δ fun ds => q (d :: ds)) : AA Ed (a :: es) ms δ q := by subst h; fail "u"; exact hq
theorem x_cov {m : Bool} {d : D} {q : D → Prop} (hq : q d) : CM m (.v d) q := by fail "u"; exact hq
instance ri_cov {m : Bool} {d : D} {q : D → Prop} : Rul (CM m (.v d) q) (q d) := ⟨fun h => x_cov h⟩
theorem x_coo {m : Bool} {d : D} {q : D → Prop} (hq : q d) : CM m (.own d) q := by fail "u"; exact hq
instance ri_coo {m : Bool} {d : D} {q : D → Prop} : Rul (CM m (.own d) q) (q d) := ⟨fun h => x_coo h⟩
theorem x_cob {d : D} {q : D → Prop} (hq : q d) : CM true (.bp d) q := by fail "u"; exact hq
instance ri_cob {d : D} {q : D → Prop} : Rul (CM true (.bp d) q) (q d) := ⟨fun h => x_cob h⟩
theorem x_col {d : D} {q : D → Prop} (hq : q d) : CM true (.bl d) q := by fail "u"; exact hq
instance ri_col {d : D} {q : D → Prop} : Rul (CM true (.bl d) q) (q d) := ⟨fun h => x_col h⟩
theorem x_tup (hq : AA Ed es (List.replicate es.length false) δ fun ds => q (.v (.tup ds))) : EE Ed (.tup es) δ q := by fail "u"; exact hq
instance (priority := low) ri_tup : Rul (EE Ed (.tup es) δ q) (AA Ed es (List.replicate es.length false) δ fun ds => q (.v (.tup ds))) := ⟨fun h => x_tup h⟩
theorem x_lst (hq : AA Ed es (List.replicate es.length false) δ fun ds => q (.own (.lst ds))) : EE Ed (.lst es) δ q := by fail "u"; exact hq
instance ri_lst : Rul (EE Ed (.lst es) δ q) (AA Ed es (List.replicate es.length false) δ fun ds => q (.own (.lst ds))) := ⟨fun h => x_lst h⟩
/-! operators -/
theorem x_bin {o : Bop} (hq : EE Ed a δ fun dv => CM true dv fun x => EE Ed b δ fun dw => CM true dw fun y => opB o x y q) : EE Ed (.bin o a b) δ q := by fail "u"; exact hq
instance ri_bin {o : Bop} : Rul (EE Ed (.bin o a b) δ q) (EE Ed a δ fun dv => CM true dv fun x => EE Ed b δ fun dw => CM true dw fun y => opB o x y q) := ⟨fun h => x_bin h⟩
theorem x_neg (hq : EE Ed a δ fun dv => CM true dv fun x => opNeg x q) : EE Ed (.neg a) δ q := by fail "u"; exact hq
instance ri_neg : Rul (EE Ed (.neg a) δ q) (EE Ed a δ fun dv => CM true dv fun x => opNeg x q) := ⟨fun h => x_neg h⟩
theorem x_cmp {o : Cop} (hq : EE Ed a δ fun dv => CM true dv fun x => EE Ed b δ fun dw => CM true dw fun y => opC o x y q) : EE Ed (.cmp o a b) δ q := by fail "u"; exact hq
instance ri_cmp {o : Cop} : Rul (EE Ed (.cmp o a b) δ q) (EE Ed a δ fun dv => CM true dv fun x => EE Ed b δ fun dw => CM true dw fun y => opC o x y q) := ⟨fun h => x_cmp h⟩
theorem x_chain {o o' : Cop} (hq : EE Ed a δ fun dv => CM true dv fun x => EE Ed b δ fun dw => CM true dw fun y => opC o x y fun t => AB t fun t => IF t (EE Ed c δ fun du => CM true du fun z => opC o' y z q) (q (.v (.bl false)))) : EE Ed (.chain o o' a b c) δ q := by fail "u"; exact hq
instance ri_chain {o o' : Cop} : Rul (EE Ed (.chain o o' a b c) δ q) (EE Ed a δ fun dv => CM true dv fun x => EE Ed b δ fun dw => CM true dw fun y => opC o x y fun t => AB t fun t => IF t (EE Ed c δ fun du => CM true du fun z => opC o' y z q) (q (.v (.bl false)))) := ⟨fun h => x_chain h⟩
theorem x_isN (hq : EE Ed a δ fun dv => CM true dv fun x => opNon true x q) : EE Ed (.isN a) δ q := by fail "u"; exact hq
instance ri_isN : Rul (EE Ed (.isN a) δ q) (EE Ed a δ fun dv => CM true dv fun x => opNon true x q) := ⟨fun h => x_isN h⟩
theorem x_notN (hq : EE Ed a δ fun dv => CM true dv fun x => opNon false x q) : EE Ed (.notN a) δ q := by fail "u"; exact hq
instance ri_notN : Rul (EE Ed (.notN a) δ q) (EE Ed a δ fun dv => CM true dv fun x => opNon false x q) := ⟨fun h => x_notN h⟩
theorem x_ands (hq : LA Ed es δ fun c => q (.v (.bl c))) : EE Ed (.ands es) δ q := by fail "u"; exact hq
instance ri_ands : Rul (EE Ed (.ands es) δ q) (LA Ed es δ fun c => q (.v (.bl c))) := ⟨fun h => x_ands h⟩
theorem x_ors (hq : LO Ed es δ fun c => q (.v (.bl c))) : EE Ed (.ors es) δ q := by fail "u"; exact hq
instance ri_ors : Rul (EE Ed (.ors es) δ q) (LO Ed es δ fun c => q (.v (.bl c))) := ⟨fun h => x_ors h⟩
theorem x_and1 {q : Bool → Prop} (hq : EE Ed a δ fun dv => AB dv q) : LA Ed [a] δ q := by fail "u"; exact hq
instance ri_and1 {q : Bool → Prop} : Rul (LA Ed [a] δ q) (EE Ed a δ fun dv => AB dv q) := ⟨fun h => x_and1 h⟩
theorem x_and2 {q : Bool → Prop} (hq : EE Ed a δ fun dv => AB dv fun c => IF c (LA Ed (b :: es) δ q) (q false)) : LA Ed (a :: b :: es) δ q := by fail "u"; exact hq
instance ri_and2 {q : Bool → Prop} : Rul (LA Ed (a :: b :: es) δ q) (EE Ed a δ fun dv => AB dv fun c => IF c (LA Ed (b :: es) δ q) (q false)) := ⟨fun h => x_and2 h⟩
theorem x_or1 {q : Bool → Prop} (hq : EE Ed a δ fun dv => AB dv q) : LO Ed [a] δ q := by fail "u"; exact hq
instance ri_or1 {q : Bool → Prop} : Rul (LO Ed [a] δ q) (EE Ed a δ fun dv => AB dv q) := ⟨fun h => x_or1 h⟩
theorem x_or2 {q : Bool → Prop} (hq : EE Ed a δ fun dv => AB dv fun c => IF c (q true) (LO Ed (b :: es) δ q)) : LO Ed (a :: b :: es) δ q := by fail "u"; exact hq
instance ri_or2 {q : Bool → Prop} : Rul (LO Ed (a :: b :: es) δ q) (EE Ed a δ fun dv => AB dv fun c => IF c (q true) (LO Ed (b :: es) δ q)) := ⟨fun h => x_or2 h⟩
theorem x_not (hq : EE Ed a δ fun dv => AB dv fun c => q (.v (.bl (!c)))) : EE Ed (.not a) δ q := by fail "u"; exact hq
instance ri_not : Rul (EE Ed (.not a) δ q) (EE Ed a δ fun dv => AB dv fun c => q (.v (.bl (!c)))) := ⟨fun h => x_not h⟩
theorem x_ite (hq : EE Ed c δ fun dv => AB dv fun t => IF t (EE Ed a δ q) (EE Ed b δ q)) : EE Ed (.ite c a b) δ q := by fail "u"; exact hq
instance ri_ite : Rul (EE Ed (.ite c a b) δ q) (EE Ed c δ fun dv => AB dv fun t => IF t (EE Ed a δ q) (EE Ed b δ q)) := ⟨fun h => x_ite h⟩
theorem x_ix (hq : EE Ed a δ fun dv => CM true dv fun x => EE Ed b δ fun dw => CM true dw fun y => opIx x y q) : EE Ed (.ix a b) δ q := by fail "u"; exact hq
instance ri_ix : Rul (EE Ed (.ix a b) δ q) (EE Ed a δ fun dv => CM true dv fun x => EE Ed b δ fun dw => CM true dw fun y => opIx x y q) := ⟨fun h => x_ix h⟩
theorem x_call {f : Str} {br : List Bool} {S : DS} (hq : AA Ed es (br.take es.length) δ fun ds => S ds q Ed) : EE Ed (.call f br S [] es) δ q := by
  fail "u"
  show wA Ed es (br.take es.length) δ fun ds => S (ds ++ []) q Ed
  simpa only [List.append_nil] using hq
instance ri_call {f : Str} {br : List Bool} {S : DS} : Rul (EE Ed (.call f br S [] es) δ q) (AA Ed es (br.take es.length) δ fun ds => S ds q Ed) := ⟨fun h => x_call h⟩
theorem x_callD {f : Str} {br : List Bool} {S : DS} {dv : List D} (hq : AA Ed es (br.take es.length) δ fun ds => S (ds ++ dv) q Ed) : EE Ed (.call f br S dv es) δ q := by fail "u"; exact hq
instance (priority := low) ri_callD {f : Str} {br : List Bool} {S : DS} {dv : List D} : Rul (EE Ed (.call f br S dv es) δ q) (AA Ed es (br.take es.length) δ fun ds => S (ds ++ dv) q Ed) := ⟨fun h => x_callD h⟩
theorem x_callK {f : Str} {br : List Bool} {S : DS} {ks : List Str} {dv : List D} {kes : List Ex} (hq : AA Ed es (br.take es.length) δ fun ds => AA Ed kes ((br.drop es.length).take kes.length) δ fun zs => S (ds ++ (zs ++ dv)) q Ed) : EE Ed (.callK f br S ks dv es kes) δ q := by fail "u"; exact hq
instance ri_callK {f : Str} {br : List Bool} {S : DS} {ks : List Str} {dv : List D} {kes : List Ex} : Rul (EE Ed (.callK f br S ks dv es kes) δ q) (AA Ed es (br.take es.length) δ fun ds => AA Ed kes ((br.drop es.length).take kes.length) δ fun zs => S (ds ++ (zs ++ dv)) q Ed) := ⟨fun h => x_callK h⟩
theorem x_mk {f : Str} {br : List Bool} {S : DS} (hq : AA Ed es (br.take es.length) δ fun ds => S ds q Ed) : EE Ed (.mk f br S [] es) δ q := by
  fail "u"
  show wA Ed es (br.take es.length) δ fun ds => S (ds ++ []) q Ed
  simpa only [List.append_nil] using hq
instance ri_mk {f : Str} {br : List Bool} {S : DS} : Rul (EE Ed (.mk f br S [] es) δ q) (AA Ed es (br.take es.length) δ fun ds => S ds q Ed) := ⟨fun h => x_mk h⟩
theorem x_mkK {f : Str} {br : List Bool} {S : DS} {ks : List Str} {dv : List D} {kes : List Ex} (hq : AA Ed kes (br.take kes.length) δ fun ds => S (ds ++ dv) q Ed) : EE Ed (.mkK f br S ks dv kes) δ q := by fail "u"; exact hq
instance ri_mkK {f : Str} {br : List Bool} {S : DS} {ks : List Str} {dv : List D} {kes : List Ex} : Rul (EE Ed (.mkK f br S ks dv kes) δ q) (AA Ed kes (br.take kes.length) δ fun ds => S (ds ++ dv) q Ed) := ⟨fun h => x_mkK h⟩
theorem x_meth {cn m : Str} {br : List Bool} {S : DS} {o : Ex} (hq : EE Ed o δ fun dv => CM true dv fun d => (∃ fs, d = .obj cn fs ∧ fs.lookup m = none) ∧ AA Ed es (br.take es.length) δ fun ds => S (d :: ds) q Ed) : EE Ed (.meth cn m br S [] o es) δ q := by
  fail "u"
  show wE Ed o δ fun dv => coM true dv fun d => (∃ fs, d = .obj cn fs ∧ fs.lookup m = none) ∧ wA Ed es (br.take es.length) δ fun ds => S (d :: (ds ++ [])) q Ed
  simpa only [List.append_nil] using hq
instance ri_meth {cn m : Str} {br : List Bool} {S : DS} {o : Ex} : Rul (EE Ed (.meth cn m br S [] o es) δ q) (EE Ed o δ fun dv => CM true dv fun d => (∃ fs, d = .obj cn fs ∧ fs.lookup m = none) ∧ AA Ed es (br.take es.length) δ fun ds => S (d :: ds) q Ed) := ⟨fun h => x_meth h⟩
theorem x_blt {f : Blt} (hq : AA Ed es (List.replicate f.ar true) δ fun ds => opBlt f ds q) : EE Ed (.blt f es) δ q := by fail "u"; exact hq
instance ri_blt {f : Blt} : Rul (EE Ed (.blt f es) δ q) (AA Ed es (List.replicate f.ar true) δ fun ds => opBlt f ds q) := ⟨fun h => x_blt h⟩
theorem x_isi {t : Ty} (hq : EE Ed a δ fun dv => CM true dv fun x => opIsi t x q) : EE Ed (.isi a t) δ q := by fail "u"; exact hq
instance ri_isi {t : Ty} : Rul (EE Ed (.isi a t) δ q) (EE Ed a δ fun dv => CM true dv fun x => opIsi t x q) := ⟨fun h => x_isi h⟩
theorem x_isis {t : List Ty} (hq : EE Ed a δ fun dv => CM true dv fun x => opIsis t x q) : EE Ed (.isis a t) δ q := by fail "u"; exact hq
instance ri_isis {t : List Ty} : Rul (EE Ed (.isis a t) δ q) (EE Ed a δ fun dv => CM true dv fun x => opIsis t x q) := ⟨fun h => x_isis h⟩
theorem x_p1 {p : P1} (hq : EE Ed a δ fun dv => CM true dv fun x => op1 p x q) : EE Ed (.p1 p a) δ q := by fail "u"; exact hq
instance ri_p1 {p : P1} : Rul (EE Ed (.p1 p a) δ q) (EE Ed a δ fun dv => CM true dv fun x => op1 p x q) := ⟨fun h => x_p1 h⟩
theorem x_p2 {p : P2} (hq : EE Ed a δ fun dv => CM true dv fun x => pre2 p x ∧ EE Ed b δ fun dw => CM true dw fun y => op2 p x y q) : EE Ed (.p2 p a b) δ q := by fail "u"; exact hq
instance ri_p2 {p : P2} : Rul (EE Ed (.p2 p a b) δ q) (EE Ed a δ fun dv => CM true dv fun x => pre2 p x ∧ EE Ed b δ fun dw => CM true dw fun y => op2 p x y q) := ⟨fun h => x_p2 h⟩
theorem x_comp {own : List (Str × Nat)} {t : Tg} {it : Itx} {o : Option Ex} (hq : II true (fun _ => False) it δ fun ds => CC t (OO (fun _ => False) o) (fun δ q => EE (fun _ => False) e δ fun dv => CM false dv q) (wipeD δ (own.map (·.2))) (fun acc => q (.own (.lst acc))) ds []) : EE Ed (.comp own t it o e) δ q := by fail "u"; exact hq
instance ri_comp {own : List (Str × Nat)} {t : Tg} {it : Itx} {o : Option Ex} : Rul (EE Ed (.comp own t it o e) δ q) (II true (fun _ => False) it δ fun ds => CC t (OO (fun _ => False) o) (fun δ q => EE (fun _ => False) e δ fun dv => CM false dv q) (wipeD δ (own.map (·.2))) (fun acc => q (.own (.lst acc))) ds []) := ⟨fun h => x_comp h⟩
theorem x_comp2 {own : List (Str × Nat)} {t t1 : Tg} {it it1 : Itx} {o o1 : Option Ex} (hq : II true (fun _ => False) it δ fun ds => DD t (OO (fun _ => False) o) (fun δ q => II false (fun _ => False) it1 δ q) t1 (OO (fun _ => False) o1) (fun δ q => EE (fun _ => False) e δ fun dv => CM false dv q) t1.slots (wipeD δ (own.map (·.2))) (fun acc => q (.own (.lst acc))) ds []) : EE Ed (.comp2 own t it o t1 it1 o1 e) δ q := by fail "u"; exact hq
instance ri_comp2 {own : List (Str × Nat)} {t t1 : Tg} {it it1 : Itx} {o o1 : Option Ex} : Rul (EE Ed (.comp2 own t it o t1 it1 o1 e) δ q) (II true (fun _ => False) it δ fun ds => DD t (OO (fun _ => False) o) (fun δ q => II false (fun _ => False) it1 δ q) t1 (OO (fun _ => False) o1) (fun δ q => EE (fun _ => False) e δ fun dv => CM false dv q) t1.slots (wipeD δ (own.map (·.2))) (fun acc => q (.own (.lst acc))) ds []) := ⟨fun h => x_comp2 h⟩
/-! iterables -/
theorem x_rng {c : Bool} {q : List D → Prop} (hq : EE Ed a δ fun dv => CM true dv fun d => RG d q) : II c Ed (.rng a) δ q := by
  unfold RG at hq
  fail "u"
  exact hq
instance ri_rng {c : Bool} {q : List D → Prop} : Rul (II c Ed (.rng a) δ q) (EE Ed a δ fun dv => CM true dv fun d => RG d q) := ⟨fun h => x_rng h⟩
theorem x_rg {j : Int} {q : List D → Prop} (h1 : -4611686018427387904 ≤ j) (h2 : j < 4611686018427387904) (hq : q (rngD 0 j.toNat)) : RG (.int j) q := by unfold RG; exact ⟨h1, h2, hq⟩
theorem x_rg3 {q : List D → Prop} (hq : q [.int 0, .int 1, .int 2]) : RG (.int 3) q := x_rg (by decide) (by decide) hq
instance ri_rg3 {q : List D → Prop} : Rul (RG (.int 3) q) (q [.int 0, .int 1, .int 2]) := ⟨fun h => x_rg3 h⟩
theorem x_rg2 {q : List D → Prop} (hq : q [.int 0, .int 1]) : RG (.int 2) q := x_rg (by decide) (by decide) hq
instance ri_rg2 {q : List D → Prop} : Rul (RG (.int 2) q) (q [.int 0, .int 1]) := ⟨fun h => x_rg2 h⟩
theorem x_seq {c : Bool} {q : List D → Prop} (hq : EE Ed a δ fun dv => SQ c dv q) : II c Ed (.seq a) δ q := by fail "u"; exact hq
instance ri_seq {c : Bool} {q : List D → Prop} : Rul (II c Ed (.seq a) δ q) (EE Ed a δ fun dv => SQ c dv q) := ⟨fun h => x_seq h⟩
theorem x_sqL {c : Bool} {xs : List D} {q : List D → Prop} (hq : q xs) : SQ c (.v (.lst xs)) q := by fail "u"; exact hq
instance ri_sqL {c : Bool} {xs : List D} {q : List D → Prop} : Rul (SQ c (.v (.lst xs)) q) (q xs) := ⟨fun h => x_sqL h⟩
theorem x_sqT {c : Bool} {xs : List D} {q : List D → Prop} (hq : q xs) : SQ c (.v (.tup xs)) q := by fail "u"; exact hq
instance ri_sqT {c : Bool} {xs : List D} {q : List D → Prop} : Rul (SQ c (.v (.tup xs)) q) (q xs) := ⟨fun h => x_sqT h⟩
theorem x_sqO {c : Bool} {xs : List D} {q : List D → Prop} (hq : q xs) : SQ c (.own (.lst xs)) q := by fail "u"; exact hq
instance ri_sqO {c : Bool} {xs : List D} {q : List D → Prop} : Rul (SQ c (.own (.lst xs)) q) (q xs) := ⟨fun h => x_sqO h⟩
theorem x_sqb {c : Bool} {xs : List D} {q : List D → Prop} (hq : q xs) : SQ c (.bp (.lst xs)) q := by fail "u"; exact hq
instance ri_sqb {c : Bool} {xs : List D} {q : List D → Prop} : Rul (SQ c (.bp (.lst xs)) q) (q xs) := ⟨fun h => x_sqb h⟩
theorem x_sqbt {c : Bool} {xs : List D} {q : List D → Prop} (hq : q xs) : SQ c (.bp (.tup xs)) q := by fail "u"; exact hq
instance ri_sqbt {c : Bool} {xs : List D} {q : List D → Prop} : Rul (SQ c (.bp (.tup xs)) q) (q xs) := ⟨fun h => x_sqbt h⟩
theorem x_sql {xs : List D} {q : List D → Prop} (hq : q xs) : SQ true (.bl (.lst xs)) q := by fail "u"; exact hq
instance ri_sql {xs : List D} {q : List D → Prop} : Rul (SQ true (.bl (.lst xs)) q) (q xs) := ⟨fun h => x_sql h⟩
theorem x_won {q : Bool → Prop} (hq : q true) : OO Ed none δ q := by fail "u"; exact hq
instance ri_won {q : Bool → Prop} : Rul (OO Ed none δ q) (q true) := ⟨fun h => x_won h⟩
theorem x_wos {q : Bool → Prop} (hq : EE Ed a δ fun dv => AB dv q) : OO Ed (some a) δ q := by fail "u"; exact hq
instance ri_wos {q : Bool → Prop} : Rul (OO Ed (some a) δ q) (EE Ed a δ fun dv => AB dv q) := ⟨fun h => x_wos h⟩
/-! tests -/
theorem x_asB {b : Bool} {q : Bool → Prop} (hq : q b) : AB (.v (.bl b)) q := by fail "u"; exact hq
instance ri_asB {b : Bool} {q : Bool → Prop} : Rul (AB (.v (.bl b)) q) (q b) := ⟨fun h => x_asB h⟩
theorem x_tt {A B : Prop} (h : A) : IF true A B := by fail "u"; exact h
instance ri_tt {A B : Prop} : Rul (IF true A B) (A) := ⟨fun h => x_tt h⟩
theorem x_ff {A B : Prop} (h : B) : IF false A B := by fail "u"; exact h
instance ri_ff {A B : Prop} : Rul (IF false A B) (B) := ⟨fun h => x_ff h⟩
theorem x_nt {A B : Prop} (h : B) : IF (!true) A B := by fail "u"; exact h
instance ri_nt {A B : Prop} : Rul (IF (!true) A B) (B) := ⟨fun h => x_nt h⟩
theorem x_nf {A B : Prop} (h : A) : IF (!false) A B := by fail "u"; exact h
instance ri_nf {A B : Prop} : Rul (IF (!false) A B) (A) := ⟨fun h => x_nf h⟩
theorem x_nn {b : Bool} {A B : Prop} (h : IF b A B) : IF (!!b) A B := by cases b <;> exact h
instance ri_nn {b : Bool} {A B : Prop} : Rul (IF (!!b) A B) (IF b A B) := ⟨fun h => x_nn h⟩
theorem x_if {b : Bool} {A B : Prop} (e : b = true) (h : A) : IF b A B := by subst e; exact x_tt h
theorem x_el {b : Bool} {A B : Prop} (e : b = false) (h : B) : IF b A B := by subst e; exact x_ff h
theorem x_bi {b : Bool} {A B : Prop} (h1 : b = true → A) (h2 : b = false → B) : IF b A B := by
  cases b with
  | true => exact x_tt (h1 rfl)
  | false => exact x_ff (h2 rfl)
theorem x_ni {b : Bool} {A B : Prop} (h1 : b = true → B) (h2 : b = false → A) : IF (!b) A B := by
  cases b with
  | true => exact x_ff (h1 rfl)
  | false => exact x_tt (h2 rfl)
theorem x_di {p A B : Prop} [Decidable p] (h1 : p → A) (h2 : ¬ p → B) : IF (decide p) A B := x_bi (fun h => h1 (of_decide_eq_true h)) (fun h => h2 (of_decide_eq_false h))
theorem x_dn {p A B : Prop} [Decidable p] (h1 : p → B) (h2 : ¬ p → A) : IF (!decide p) A B := x_ni (fun h => h1 (of_decide_eq_true h)) (fun h => h2 (of_decide_eq_false h))
theorem x_dt {p A B : Prop} [Decidable p] (e : p) (h : A) : IF (decide p) A B := x_if (decide_eq_true e) h
theorem x_df {p A B : Prop} [Decidable p] (e : ¬ p) (h : B) : IF (decide p) A B := x_el (decide_eq_false e) h
theorem x_ndt {p A B : Prop} [Decidable p] (e : p) (h : B) : IF (!decide p) A B := by rw [decide_eq_true e]; exact x_nt h
theorem x_ndf {p A B : Prop} [Decidable p] (e : ¬ p) (h : A) : IF (!decide p) A B := by rw [decide_eq_false e]; exact x_nf h
/-! statements -/
theorem x_set {i : Nat} (hq : EE Ed e δ fun dv => SV dv (BB Ed rest ⟨kn, kr, kb, kc⟩ (δ.set i (some dv)))) : BB Ed (.set i e :: rest) ⟨kn, kr, kb, kc⟩ δ := by fail "u"; exact hq
instance ri_set {i : Nat} : Rul (BB Ed (.set i e :: rest) ⟨kn, kr, kb, kc⟩ δ) (EE Ed e δ fun dv => SV dv (BB Ed rest ⟨kn, kr, kb, kc⟩ (δ.set i (some dv)))) := ⟨fun h => x_set h⟩
theorem x_stv {d : D} {p : Prop} (h : p) : SV (.v d) p := by fail "u"; exact h
instance ri_stv {d : D} {p : Prop} : Rul (SV (.v d) p) (p) := ⟨fun h => x_stv h⟩
theorem x_sto {d : D} {p : Prop} (h : p) : SV (.own d) p := by fail "u"; exact h
instance ri_sto {d : D} {p : Prop} : Rul (SV (.own d) p) (p) := ⟨fun h => x_sto h⟩
theorem x_stb {d : D} {p : Prop} (h : p) : SV (.bp d) p := by fail "u"; exact h
instance ri_stb {d : D} {p : Prop} : Rul (SV (.bp d) p) (p) := ⟨fun h => x_stb h⟩
theorem x_setv {i : Nat} (hq : EE Ed e δ fun dv => CM false dv fun d => BB Ed rest ⟨kn, kr, kb, kc⟩ (δ.set i (some (.v d)))) : BB Ed (.setv i e :: rest) ⟨kn, kr, kb, kc⟩ δ := by fail "u"; exact hq
instance ri_setv {i : Nat} : Rul (BB Ed (.setv i e :: rest) ⟨kn, kr, kb, kc⟩ δ) (EE Ed e δ fun dv => CM false dv fun d => BB Ed rest ⟨kn, kr, kb, kc⟩ (δ.set i (some (.v d)))) := ⟨fun h => x_setv h⟩
theorem x_par {i j : Nat} (hq : EE Ed a δ fun dv => CM false dv fun x => EE Ed b δ fun dw => CM false dw fun y => BB Ed rest ⟨kn, kr, kb, kc⟩ ((δ.set i (some (.v x))).set j (some (.v y)))) : BB Ed (.par i j a b :: rest) ⟨kn, kr, kb, kc⟩ δ := by fail "u"; exact hq
instance ri_par {i j : Nat} : Rul (BB Ed (.par i j a b :: rest) ⟨kn, kr, kb, kc⟩ δ) (EE Ed a δ fun dv => CM false dv fun x => EE Ed b δ fun dw => CM false dw fun y => BB Ed rest ⟨kn, kr, kb, kc⟩ ((δ.set i (some (.v x))).set j (some (.v y)))) := ⟨fun h => x_par h⟩
theorem x_par3 {i j l : Nat} (hq : EE Ed a δ fun dv => CM false dv fun x => EE Ed b δ fun dw => CM false dw fun y => EE Ed c δ fun du => CM false du fun z => BB Ed rest ⟨kn, kr, kb, kc⟩ (((δ.set i (some (.v x))).set j (some (.v y))).set l (some (.v z)))) : BB Ed (.par3 i j l a b c :: rest) ⟨kn, kr, kb, kc⟩ δ := by fail "u"; exact hq
instance ri_par3 {i j l : Nat} : Rul (BB Ed (.par3 i j l a b c :: rest) ⟨kn, kr, kb, kc⟩ δ) (EE Ed a δ fun dv => CM false dv fun x => EE Ed b δ fun dw => CM false dw fun y => EE Ed c δ fun du => CM false du fun z => BB Ed rest ⟨kn, kr, kb, kc⟩ (((δ.set i (some (.v x))).set j (some (.v y))).set l (some (.v z)))) := ⟨fun h => x_par3 h⟩
theorem x_tgt {t : Tg} (hq : EE Ed e δ fun dv => CM false dv fun d => TG t d δ (BB Ed rest ⟨kn, kr, kb, kc⟩)) : BB Ed (.tgt t e :: rest) ⟨kn, kr, kb, kc⟩ δ := by fail "u"; exact hq
instance ri_tgt {t : Tg} : Rul (BB Ed (.tgt t e :: rest) ⟨kn, kr, kb, kc⟩ δ) (EE Ed e δ fun dv => CM false dv fun d => TG t d δ (BB Ed rest ⟨kn, kr, kb, kc⟩)) := ⟨fun h => x_tgt h⟩
theorem x_expr (hq : EE Ed e δ fun _ => BB Ed rest ⟨kn, kr, kb, kc⟩ δ) : BB Ed (.expr e :: rest) ⟨kn, kr, kb, kc⟩ δ := by fail "u"; exact hq
instance ri_expr : Rul (BB Ed (.expr e :: rest) ⟨kn, kr, kb, kc⟩ δ) (EE Ed e δ fun _ => BB Ed rest ⟨kn, kr, kb, kc⟩ δ) := ⟨fun h => x_expr h⟩
theorem x_app {i : Nat} {ds : List D} (h : δ.getD i none = some (.own (.lst ds))) (hq : EE Ed e δ fun dv => CM false dv fun d => ds.length ≤ 1000000 ∧ BB Ed rest ⟨kn, kr, kb, kc⟩ (δ.set i (some (.own (.lst (ds ++ [d])))))) : BB Ed (.app i e :: rest) ⟨kn, kr, kb, kc⟩ δ := by
  fail "u"
  show swApp i (co false (wE Ed e)) ⟨wBk Ed rest ⟨kn, kr, kb, kc⟩, kr, kb, kc⟩ δ
  unfold swApp
  rw [h]; exact hq
theorem x_ret (hq : EE Ed e δ fun dv => RV dv kr) : BB Ed (.ret e :: rest) ⟨kn, kr, kb, kc⟩ δ := by fail "u"; exact hq
instance ri_ret : Rul (BB Ed (.ret e :: rest) ⟨kn, kr, kb, kc⟩ δ) (EE Ed e δ fun dv => RV dv kr) := ⟨fun h => x_ret h⟩
theorem x_rtv {d : D} {p : DV → Prop} (h : p (.v d)) : RV (.v d) p := by fail "u"; exact h
instance ri_rtv {d : D} {p : DV → Prop} : Rul (RV (.v d) p) (p (.v d)) := ⟨fun h => x_rtv h⟩
theorem x_rto {d : D} {p : DV → Prop} (h : p (.own d)) : RV (.own d) p := by fail "u"; exact h
instance ri_rto {d : D} {p : DV → Prop} : Rul (RV (.own d) p) (p (.own d)) := ⟨fun h => x_rto h⟩
theorem x_retN (hq : kr (.v .non)) : BB Ed (.retN :: rest) ⟨kn, kr, kb, kc⟩ δ := by fail "u"; exact hq
instance ri_retN : Rul (BB Ed (.retN :: rest) ⟨kn, kr, kb, kc⟩ δ) (kr (.v .non)) := ⟨fun h => x_retN h⟩
theorem x_retO {i : Nat} {d : D} (h : δ.getD i none = some (.own d)) (hq : kr (.own d)) : BB Ed (.retO i :: rest) ⟨kn, kr, kb, kc⟩ δ := by
  fail "u"
  show swRetO i _ δ
  unfold swRetO
  rw [h]; exact hq
theorem x_retV {i : Nat} {d : D} (h : δ.getD i none = some (.v d)) (hq : kr (.v d)) : BB Ed (.retO i :: rest) ⟨kn, kr, kb, kc⟩ δ := by
  fail "u"
  show swRetO i _ δ
  unfold swRetO
  rw [h]; exact hq
theorem x_ifs (hq : EE Ed c δ fun dv => AB dv fun t => IF t (BB Ed b1 ⟨BB Ed rest ⟨kn, kr, kb, kc⟩, kr, kb, kc⟩ δ) (BB Ed b2 ⟨BB Ed rest ⟨kn, kr, kb, kc⟩, kr, kb, kc⟩ δ)) : BB Ed (.ifs c b1 b2 :: rest) ⟨kn, kr, kb, kc⟩ δ := by fail "u"; exact hq
instance ri_ifs : Rul (BB Ed (.ifs c b1 b2 :: rest) ⟨kn, kr, kb, kc⟩ δ) (EE Ed c δ fun dv => AB dv fun t => IF t (BB Ed b1 ⟨BB Ed rest ⟨kn, kr, kb, kc⟩, kr, kb, kc⟩ δ) (BB Ed b2 ⟨BB Ed rest ⟨kn, kr, kb, kc⟩, kr, kb, kc⟩ δ)) := ⟨fun h => x_ifs h⟩
theorem x_for {t : Tg} {it : Itx} (hq : II false Ed it δ fun ds => FF t (BB Ed b1) ⟨BB Ed rest ⟨kn, kr, kb, kc⟩, kr, kb, kc⟩ ds δ) : BB Ed (.forr t it b1 :: rest) ⟨kn, kr, kb, kc⟩ δ := by fail "u"; exact hq
instance ri_for {t : Tg} {it : Itx} : Rul (BB Ed (.forr t it b1 :: rest) ⟨kn, kr, kb, kc⟩ δ) (II false Ed it δ fun ds => FF t (BB Ed b1) ⟨BB Ed rest ⟨kn, kr, kb, kc⟩, kr, kb, kc⟩ ds δ) := ⟨fun h => x_for h⟩
theorem x_raise {c : Str} (hq : Ed c) : BB Ed (.raise c :: rest) ⟨kn, kr, kb, kc⟩ δ := by fail "u"; exact hq
instance ri_raise {c : Str} : Rul (BB Ed (.raise c :: rest) ⟨kn, kr, kb, kc⟩ δ) (Ed c) := ⟨fun h => x_raise h⟩
theorem x_pass (hq : BB Ed rest ⟨kn, kr, kb, kc⟩ δ) : BB Ed (.pass :: rest) ⟨kn, kr, kb, kc⟩ δ := by fail "u"; exact hq
instance ri_pass : Rul (BB Ed (.pass :: rest) ⟨kn, kr, kb, kc⟩ δ) (BB Ed rest ⟨kn, kr, kb, kc⟩ δ) := ⟨fun h => x_pass h⟩
theorem x_frz {i : Nat} {d : D} (h : δ.getD i none = some (.own d)) (hq : BB Ed rest ⟨kn, kr, kb, kc⟩ (δ.set i (some (.v d)))) : BB Ed (.frz i :: rest) ⟨kn, kr, kb, kc⟩ δ := by
  fail "u"
  show swFrz i (wBk Ed rest) ⟨kn, kr, kb, kc⟩ δ
  unfold swFrz
  rw [h]; exact hq
/-- a row, and what holds behind it -/
theorem x_cut (P : Sl → Prop) {s : Sx} (h1 : ∀ nx : Sl → Prop, (∀ δ, P δ → nx δ) → BB Ed [s] ⟨nx, kr, kb, kc⟩ δ) (h2 : ∀ δ, P δ → BB Ed rest ⟨kn, kr, kb, kc⟩ δ) : BB Ed (s :: rest) ⟨kn, kr, kb, kc⟩ δ := by
  have := h1 (BB Ed rest ⟨kn, kr, kb, kc⟩) h2
  fail "u"
  cases s <;> exact this
theorem x_nil (hq : kn δ) : BB Ed [] ⟨kn, kr, kb, kc⟩ δ := by fail "u"; exact hq
instance ri_nil : Rul (BB Ed [] ⟨kn, kr, kb, kc⟩ δ) (kn δ) := ⟨fun h => x_nil h⟩
theorem x_fld {i : Nat} {x : Addr} {cn f : Str} {fs : List (Str × D)} (h : δ.getD i none = some (.ins x cn fs)) (hL : noL δ = true) (hq : EE Ed e δ fun dv => CM false dv fun d => fs.length < 1000 ∧ BB Ed rest ⟨kn, kr, kb, kc⟩ (δ.set i (some (.ins x cn (putD f d fs))))) : BB Ed (.fld i cn f e :: rest) ⟨kn, kr, kb, kc⟩ δ := by
  fail "u"
  show swFld i cn f (co false (wE Ed e)) ⟨wBk Ed rest ⟨kn, kr, kb, kc⟩, kr, kb, kc⟩ δ
  unfold swFld
  rw [h]
  exact ⟨rfl, hL, hq⟩
theorem x_fldL {i : Nat} {x : Addr} {cn f : Str} {fs : List (Str × D)} (h : δ.getD i none = some (.ins x cn fs)) (hL : noL δ = true) (hf : fs.lookup f = none) (hq : EE Ed e δ fun dv => ∃ ds, dv = .own (.lst ds) ∧ fs.length < 1000 ∧ BB Ed rest ⟨kn, kr, kb, kc⟩ (δ.set i (some (.insL x cn fs f ds)))) : BB Ed (.fldL i cn f e :: rest) ⟨kn, kr, kb, kc⟩ δ := by
  fail "u"
  show swFldL i cn f (wE Ed e) ⟨wBk Ed rest ⟨kn, kr, kb, kc⟩, kr, kb, kc⟩ δ
  unfold swFldL
  rw [h]
  exact ⟨rfl, hL, hf, hq⟩
theorem x_appL {i : Nat} {x : Addr} {cn f : Str} {fs : List (Str × D)} {ds : List D} (h : δ.getD i none = some (.insL x cn fs f ds)) (hq : EE Ed e δ fun dv => CM false dv fun d => ds.length ≤ 1000000 ∧ BB Ed rest ⟨kn, kr, kb, kc⟩ (δ.set i (some (.insL x cn fs f (ds ++ [d]))))) : BB Ed (.appL i cn f e :: rest) ⟨kn, kr, kb, kc⟩ δ := by
  fail "u"
  show swAppL i cn f (co false (wE Ed e)) ⟨wBk Ed rest ⟨kn, kr, kb, kc⟩, kr, kb, kc⟩ δ
  unfold swAppL
  rw [h]
  exact ⟨rfl, rfl, hq⟩
theorem x_selfL {i : Nat} {x : Addr} {cn f : Str} {fs : List (Str × D)} {ds : List D} (h : δ.getD i none = some (.insL x cn fs f ds)) (hq : q (.bl (.lst ds))) : EE Ed (.selfL i cn f) δ q := by
  fail "u"
  show wSelfL i cn f δ q
  unfold wSelfL
  rw [h]
  exact ⟨rfl, rfl, hq⟩
/-! targets -/
theorem x_tn {i : Nat} {d : D} {p : Sl → Prop} (h : p (δ.set i (some (.v d)))) : TG (.nm i) d δ p := by fail "u"; simpa only [tgD] using h
instance ri_tn {i : Nat} {d : D} {p : Sl → Prop} : Rul (TG (.nm i) d δ p) (p (δ.set i (some (.v d)))) := ⟨fun h => x_tn h⟩
theorem x_tt2 {ts : List Tg} {xs : List D} {p : Sl → Prop} (h : TS ts xs δ p) : TG (.tp ts) (.tup xs) δ p := by fail "u"; simpa only [tgD] using h
instance ri_tt2 {ts : List Tg} {xs : List D} {p : Sl → Prop} : Rul (TG (.tp ts) (.tup xs) δ p) (TS ts xs δ p) := ⟨fun h => x_tt2 h⟩
theorem x_tl {ts : List Tg} {xs : List D} {p : Sl → Prop} (h : TS ts xs δ p) : TG (.tp ts) (.lst xs) δ p := by fail "u"; simpa only [tgD] using h
instance ri_tl {ts : List Tg} {xs : List D} {p : Sl → Prop} : Rul (TG (.tp ts) (.lst xs) δ p) (TS ts xs δ p) := ⟨fun h => x_tl h⟩
theorem x_ts0 {p : Sl → Prop} (h : p δ) : TS [] [] δ p := by fail "u"; simpa only [tgsD] using h
instance ri_ts0 {p : Sl → Prop} : Rul (TS [] [] δ p) (p δ) := ⟨fun h => x_ts0 h⟩
theorem x_ts1 {t : Tg} {ts : List Tg} {d : D} {ds : List D} {p : Sl → Prop} (h : TG t d δ fun δ' => TS ts ds δ' p) : TS (t :: ts) (d :: ds) δ p := by fail "u"; simpa only [tgsD] using h
instance ri_ts1 {t : Tg} {ts : List Tg} {d : D} {ds : List D} {p : Sl → Prop} : Rul (TS (t :: ts) (d :: ds) δ p) (TG t d δ fun δ' => TS ts ds δ' p) := ⟨fun h => x_ts1 h⟩
/-! loops that are laid out -/
theorem x_f0 {t : Tg} {B : Kn → Sl → Prop} (h : kn δ) : FF t B ⟨kn, kr, kb, kc⟩ [] δ := by fail "u"; exact h
theorem x_f1 {t : Tg} {B : Kn → Sl → Prop} {d : D} {ds : List D} (h : TG t d δ fun δ' => B ⟨FF t B ⟨kn, kr, kb, kc⟩ ds, kr, kn, FF t B ⟨kn, kr, kb, kc⟩ ds⟩ δ') : FF t B ⟨kn, kr, kb, kc⟩ (d :: ds) δ := by fail "u"; exact h
variable {we : Sl → (D → Prop) → Prop} {t : Tg}
theorem x_k1 {F : Str → Prop} {j : Nat} {q : List D → Prop} {d0 : D} (h : we (δ.set j (some (.v d0))) fun y0 => ([] : List D).length ≤ 1000000 ∧ q [y0]) : CC (.nm j) (OO F none) we δ q [d0] [] := by fail "u"; exact h
instance ri_k1 {F : Str → Prop} {j : Nat} {q : List D → Prop} {d0 : D} : Rul (CC (.nm j) (OO F none) we δ q [d0] []) (we (δ.set j (some (.v d0))) fun y0 => ([] : List D).length ≤ 1000000 ∧ q [y0]) := ⟨fun h => x_k1 h⟩
theorem x_k2 {F : Str → Prop} {j : Nat} {q : List D → Prop} {d0 d1 : D} (h : we (δ.set j (some (.v d0))) fun y0 => ([] : List D).length ≤ 1000000 ∧ we (δ.set j (some (.v d1))) fun y1 => ([y0] : List D).length ≤ 1000000 ∧ q [y0, y1]) : CC (.nm j) (OO F none) we δ q [d0, d1] [] := by fail "u"; exact h
instance ri_k2 {F : Str → Prop} {j : Nat} {q : List D → Prop} {d0 d1 : D} : Rul (CC (.nm j) (OO F none) we δ q [d0, d1] []) (we (δ.set j (some (.v d0))) fun y0 => ([] : List D).length ≤ 1000000 ∧ we (δ.set j (some (.v d1))) fun y1 => ([y0] : List D).length ≤ 1000000 ∧ q [y0, y1]) := ⟨fun h => x_k2 h⟩
theorem x_k3 {F : Str → Prop} {j : Nat} {q : List D → Prop} {d0 d1 d2 : D} (h : we (δ.set j (some (.v d0))) fun y0 => ([] : List D).length ≤ 1000000 ∧ we (δ.set j (some (.v d1))) fun y1 => ([y0] : List D).length ≤ 1000000 ∧ we (δ.set j (some (.v d2))) fun y2 => ([y0, y1] : List D).length ≤ 1000000 ∧ q [y0, y1, y2]) : CC (.nm j) (OO F none) we δ q [d0, d1, d2] [] := by fail "u"; exact h
instance ri_k3 {F : Str → Prop} {j : Nat} {q : List D → Prop} {d0 d1 d2 : D} : Rul (CC (.nm j) (OO F none) we δ q [d0, d1, d2] []) (we (δ.set j (some (.v d0))) fun y0 => ([] : List D).length ≤ 1000000 ∧ we (δ.set j (some (.v d1))) fun y1 => ([y0] : List D).length ≤ 1000000 ∧ we (δ.set j (some (.v d2))) fun y2 => ([y0, y1] : List D).length ≤ 1000000 ∧ q [y0, y1, y2]) := ⟨fun h => x_k3 h⟩
theorem x_k4 {F : Str → Prop} {j : Nat} {q : List D → Prop} {d0 d1 d2 d3 : D} (h : we (δ.set j (some (.v d0))) fun y0 => ([] : List D).length ≤ 1000000 ∧ we (δ.set j (some (.v d1))) fun y1 => ([y0] : List D).length ≤ 1000000 ∧ we (δ.set j (some (.v d2))) fun y2 => ([y0, y1] : List D).length ≤ 1000000 ∧ we (δ.set j (some (.v d3))) fun y3 => ([y0, y1, y2] : List D).length ≤ 1000000 ∧ q [y0, y1, y2, y3]) : CC (.nm j) (OO F none) we δ q [d0, d1, d2, d3] [] := by fail "u"; exact h
instance ri_k4 {F : Str → Prop} {j : Nat} {q : List D → Prop} {d0 d1 d2 d3 : D} : Rul (CC (.nm j) (OO F none) we δ q [d0, d1, d2, d3] []) (we (δ.set j (some (.v d0))) fun y0 => ([] : List D).length ≤ 1000000 ∧ we (δ.set j (some (.v d1))) fun y1 => ([y0] : List D).length ≤ 1000000 ∧ we (δ.set j (some (.v d2))) fun y2 => ([y0, y1] : List D).length ≤ 1000000 ∧ we (δ.set j (some (.v d3))) fun y3 => ([y0, y1, y2] : List D).length ≤ 1000000 ∧ q [y0, y1, y2, y3]) := ⟨fun h => x_k4 h⟩
theorem x_kt3 {F : Str → Prop} {q : List D → Prop} {d0 d1 d2 : D} (h : TG t d0 δ fun δ0 => we δ0 fun y0 => ([] : List D).length ≤ 1000000 ∧ TG t d1 δ fun δ1 => we δ1 fun y1 => ([y0] : List D).length ≤ 1000000 ∧ TG t d2 δ fun δ2 => we δ2 fun y2 => ([y0, y1] : List D).length ≤ 1000000 ∧ q [y0, y1, y2]) : CC t (OO F none) we δ q [d0, d1, d2] [] := by fail "u"; exact h
theorem x_le {xs : List D} {p : Prop} (h : Nat.ble xs.length 1000000 = true) (hp : p) : xs.length ≤ 1000000 ∧ p := ⟨Nat.le_of_ble_eq_true h, hp⟩
end
/-! operations -/
section
variable {q : DV → Prop} {i j : Int}
theorem x_add (h : q (.v (.int (i + j)))) : opB .add (.int i) (.int j) q := by fail "u"; exact h
instance ri_add : Rul (opB .add (.int i) (.int j) q) (q (.v (.int (i + j)))) := ⟨fun h => x_add h⟩
theorem x_sub (h : q (.v (.int (i - j)))) : opB .sub (.int i) (.int j) q := by fail "u"; exact h
instance ri_sub : Rul (opB .sub (.int i) (.int j) q) (q (.v (.int (i - j)))) := ⟨fun h => x_sub h⟩
theorem x_mul (m : MulOk i j) (h : q (.v (.int (i * j)))) : opB .mul (.int i) (.int j) q := ⟨m, h⟩
theorem x_fdiv (m : DivOk j) (h : q (.v (.int (i / j)))) : opB .fdiv (.int i) (.int j) q := ⟨m, h⟩
theorem x_mod (m : 0 < j) (h : q (.v (.int (i % j)))) : opB .mod (.int i) (.int j) q := ⟨m, h⟩
theorem x_neg' (h : q (.v (.int (-i)))) : opNeg (.int i) q := by fail "u"; exact h
instance ri_negP : Rul (opNeg (.int i) q) (q (.v (.int (-i)))) := ⟨fun h => x_neg' h⟩
theorem x_lt (h : q (.v (.bl (decide (i < j))))) : opC .lt (.int i) (.int j) q := by fail "u"; exact h
theorem x_le' (h : q (.v (.bl (decide (i ≤ j))))) : opC .le (.int i) (.int j) q := by fail "u"; exact h
theorem x_gt (h : q (.v (.bl (decide (j < i))))) : opC .gt (.int i) (.int j) q := by fail "u"; exact h
theorem x_ge (h : q (.v (.bl (decide (j ≤ i))))) : opC .ge (.int i) (.int j) q := by fail "u"; exact h
theorem x_eq {x y : D} (p1 : plain 60 x = true) (p2 : plain 60 y = true) (h : q (.v (.bl (eqD x y)))) : opC .eq x y q := by
  unfold opC; cases x <;> cases y <;> exact ⟨p1, p2, h⟩
theorem x_ne {x y : D} (p1 : plain 60 x = true) (p2 : plain 60 y = true) (h : q (.v (.bl (!eqD x y)))) : opC .ne x y q := by
  unfold opC; cases x <;> cases y <;> exact ⟨p1, p2, h⟩
theorem x_eqI (h : q (.v (.bl (decide (i = j))))) : opC .eq (.int i) (.int j) q := x_eq rfl rfl (by rw [eqD_int]; exact h)
theorem x_neI (h : q (.v (.bl (!decide (i = j))))) : opC .ne (.int i) (.int j) q := x_ne rfl rfl (by rw [eqD_int]; exact h)
theorem x_eqS {u v : Rat} (h : q (.v (.bl (decide (u = v))))) : opC .eq (sh u) (sh v) q := x_eq rfl rfl (by rw [eqD_sh]; exact h)
theorem x_neS {u v : Rat} (h : q (.v (.bl (!decide (u = v))))) : opC .ne (sh u) (sh v) q := x_ne rfl rfl (by rw [eqD_sh]; exact h)
theorem x_ixT {xs : List D} {d : D} (h : atI xs i = some d) (hq : q (.v d)) : opIx (.tup xs) (.int i) q := by
  show (match atI xs i with
    | some d => q (.v d)
    | none => False)
  rw [h]; exact hq
theorem x_ixL {xs : List D} {d : D} (h : atI xs i = some d) (hq : q (.v d)) : opIx (.lst xs) (.int i) q := by
  show (match atI xs i with
    | some d => q (.v d)
    | none => False)
  rw [h]; exact hq
theorem x_ix0 {u : Rat} (hq : q (.v (.int u.num))) : opIx (sh u) (.int 0) q := by fail "u"; exact hq
theorem x_ix1 {u : Rat} (hq : q (.v (.int (u.den : Int)))) : opIx (sh u) (.int 1) q := by fail "u"; exact hq
theorem x_isiq {t : Ty} {x : D} {b : Bool} (e : isT t x = some b) (h : q (.v (.bl b))) : opIsi t x q := by
  unfold opIsi; rw [e]; exact h
theorem x_isisq {t : List Ty} {x : D} {b : Bool} (e : isTs t x = some b) (h : q (.v (.bl b))) : opIsis t x q := by
  unfold opIsis; rw [e]; exact h
theorem x_preL {x : D} {A : Prop} (h : A) : pre2 .cutL x ∧ A := ⟨trivial, h⟩
instance ri_preL {x : D} {A : Prop} : Rul (pre2 .cutL x ∧ A) (A) := ⟨fun h => x_preL h⟩
theorem x_preR {x : D} {A : Prop} (h : A) : pre2 .cutR x ∧ A := ⟨trivial, h⟩
instance ri_preR {x : D} {A : Prop} : Rul (pre2 .cutR x ∧ A) (A) := ⟨fun h => x_preR h⟩
theorem x_preI {x : D} {b : Bool} {A : Prop} (h : A) : pre2 (.isin b) x ∧ A := ⟨trivial, h⟩
instance ri_preI {x : D} {b : Bool} {A : Prop} : Rul (pre2 (.isin b) x ∧ A) (A) := ⟨fun h => x_preI h⟩
theorem x_cutL {xs : List D} (h0 : 0 ≤ j) (h : q (.own (.lst (xs.take j.toNat)))) : op2 .cutL (.lst xs) (.int j) q := ⟨h0, h⟩
theorem x_cutR {xs : List D} (h0 : 0 ≤ j) (h : q (.own (.lst (xs.drop j.toNat)))) : op2 .cutR (.lst xs) (.int j) q := ⟨h0, h⟩
theorem x_nonT (h : q (.v (.bl true))) : opNon true .non q := by fail "u"; exact h
instance ri_nonT : Rul (opNon true .non q) (q (.v (.bl true))) := ⟨fun h => x_nonT h⟩
theorem x_nonF (h : q (.v (.bl false))) : opNon false .non q := by fail "u"; exact h
instance ri_nonF : Rul (opNon false .non q) (q (.v (.bl false))) := ⟨fun h => x_nonF h⟩
theorem x_lenL {xs : List D} (h : q (.v (.int xs.length))) : opBlt .len [.lst xs] q := by fail "u"; exact h
instance ri_lenL {xs : List D} : Rul (opBlt .len [.lst xs] q) (q (.v (.int xs.length))) := ⟨fun h => x_lenL h⟩
theorem x_lenT {xs : List D} (h : q (.v (.int xs.length))) : opBlt .len [.tup xs] q := by fail "u"; exact h
instance ri_lenT {xs : List D} : Rul (opBlt .len [.tup xs] q) (q (.v (.int xs.length))) := ⟨fun h => x_lenT h⟩
theorem x_lm3 {x : D} (h : q (.own (.lst [x, x, x]))) : opB .mul (.lst [x]) (.int 3) q := ⟨by decide, by decide, (by show 1 ≤ 1000; decide), h⟩
instance ri_lm3 {x : D} : Rul (opB .mul (.lst [x]) (.int 3) q) (q (.own (.lst [x, x, x]))) := ⟨fun h => x_lm3 h⟩
theorem x_lm4 {x : D} (h : q (.own (.lst [x, x, x, x]))) : opB .mul (.lst [x]) (.int 4) q := ⟨by decide, by decide, (by show 1 ≤ 1000; decide), h⟩
instance ri_lm4 {x : D} : Rul (opB .mul (.lst [x]) (.int 4) q) (q (.own (.lst [x, x, x, x]))) := ⟨fun h => x_lm4 h⟩
theorem x_tm3 {x : D} (h : q (.v (.tup [x, x, x]))) : opB .mul (.tup [x]) (.int 3) q := ⟨by simp, by decide, by decide, (by show 1 ≤ 1000; decide), h⟩
instance ri_tm3 {x : D} : Rul (opB .mul (.tup [x]) (.int 3) q) (q (.v (.tup [x, x, x]))) := ⟨fun h => x_tm3 h⟩
theorem x_tm2 {x : D} (h : q (.v (.tup [x, x]))) : opB .mul (.tup [x]) (.int 2) q := ⟨by simp, by decide, by decide, (by show 1 ≤ 1000; decide), h⟩
instance ri_tm2 {x : D} : Rul (opB .mul (.tup [x]) (.int 2) q) (q (.v (.tup [x, x]))) := ⟨fun h => x_tm2 h⟩
theorem x_catL {x y : List D} (hl : Nat.ble (x.length + y.length) 1000000 = true) (h : q (.own (.lst (x ++ y)))) : opB .add (.lst x) (.lst y) q := ⟨Nat.le_of_ble_eq_true hl, h⟩
theorem x_catT {x y : List D} (hl : Nat.ble (x.length + y.length) 1000000 = true) (h : q (.v (.tup (x ++ y)))) : opB .add (.tup x) (.tup y) q := ⟨Nat.le_of_ble_eq_true hl, h⟩
theorem x_abs (h : q (.v (.int (if i < 0 then -i else i)))) : opBlt .abs [.int i] q := by fail "u"; exact h
instance ri_abs : Rul (opBlt .abs [.int i] q) (q (.v (.int (if i < 0 then -i else i)))) := ⟨fun h => x_abs h⟩
theorem x_max2 (h : q (.v (.int (if j > i then j else i)))) : opBlt .max2 [.int i, .int j] q := by fail "u"; exact h
instance ri_max2 : Rul (opBlt .max2 [.int i, .int j] q) (q (.v (.int (if j > i then j else i)))) := ⟨fun h => x_max2 h⟩
theorem x_min2 (h : q (.v (.int (if j < i then j else i)))) : opBlt .min2 [.int i, .int j] q := by fail "u"; exact h
instance ri_min2 : Rul (opBlt .min2 [.int i, .int j] q) (q (.v (.int (if j < i then j else i)))) := ⟨fun h => x_min2 h⟩
theorem x_listL {xs : List D} (h : q (.own (.lst xs))) : opBlt .list [.lst xs] q := by fail "u"; exact h
instance ri_listL {xs : List D} : Rul (opBlt .list [.lst xs] q) (q (.own (.lst xs))) := ⟨fun h => x_listL h⟩
theorem x_listT {xs : List D} (h : q (.own (.lst xs))) : opBlt .list [.tup xs] q := by fail "u"; exact h
instance ri_listT {xs : List D} : Rul (opBlt .list [.tup xs] q) (q (.own (.lst xs))) := ⟨fun h => x_listT h⟩
theorem x_tupL {xs : List D} (h : q (.v (.tup xs))) : opBlt .tuple [.lst xs] q := by fail "u"; exact h
instance ri_tupL {xs : List D} : Rul (opBlt .tuple [.lst xs] q) (q (.v (.tup xs))) := ⟨fun h => x_tupL h⟩
theorem x_tupT {xs : List D} (h : q (.v (.tup xs))) : opBlt .tuple [.tup xs] q := by fail "u"; exact h
instance ri_tupT {xs : List D} : Rul (opBlt .tuple [.tup xs] q) (q (.v (.tup xs))) := ⟨fun h => x_tupT h⟩
end
end TT

set_option Elab.async false
set_option linter.all false
set_option maxRecDepth 100000
set_option autoImplicit false
set_option maxHeartbeats 4000000
namespace TT
open PySem PySem.Spec L2
/-! ### more words about shares -/
@[irreducible] def S_minus : DS := fun ds q _ => ∃ (x y : Rat) (a b : Nat), ds = [sh x, sh y] ∧ RSz a x ∧ RSz b y ∧ a + b ≤ 9000 ∧ q (.v (sh (x - y)))
@[irreducible] def S_by : DS := fun ds q _ => ∃ (x y : Rat) (a b : Nat), ds = [sh x, sh y] ∧ y ≠ 0 ∧ RSz a x ∧ RSz b y ∧ a + b ≤ 9000 ∧ q (.v (sh (x / y)))
@[irreducible] def S_is_less : DS := fun ds q _ => ∃ (x y : Rat) (a b : Nat), ds = [sh x, sh y] ∧ RSz a x ∧ RSz b y ∧ a + b ≤ 9000 ∧ q (.v (.bl (decide (x < y))))
@[irreducible] def S_law_less : DS := fun ds q _ => ∃ (x y : Rat) (a b : Nat), ds = [sh x, sh y] ∧ RSz a x ∧ RSz b y ∧ a + b ≤ 9000 ∧ q (.v (sh (x - y)))
@[irreducible] def S_law_by : DS := fun ds q _ => ∃ (x y : Rat) (a b : Nat), ds = [sh x, sh y] ∧ y ≠ 0 ∧ RSz a x ∧ RSz b y ∧ a + b ≤ 9000 ∧ q (.v (sh (x / y)))
@[irreducible] def S_law_below : DS := fun ds q _ => ∃ (x y : Rat) (a b : Nat), ds = [sh x, sh y] ∧ RSz a x ∧ RSz b y ∧ a + b ≤ 9000 ∧ q (.v (.bl (decide (x < y))))
section
variable {q : DV → Prop} {Ed : Str → Prop} {x y : Rat} {a b : Nat}
theorem minus_i (hx : RSz a x) (hy : RSz b y) (hab : a + b ≤ 9000) (hq : q (.v (sh (x - y)))) : S_minus [sh x, sh y] q Ed := by unfold S_minus; exact ⟨x, y, a, b, rfl, hx, hy, hab, hq⟩
theorem less_i (hx : RSz a x) (hy : RSz b y) (hab : a + b ≤ 9000) (hq : q (.v (sh (x - y)))) : S_law_less [sh x, sh y] q Ed := by unfold S_law_less; exact ⟨x, y, a, b, rfl, hx, hy, hab, hq⟩
theorem by_i (h0 : y ≠ 0) (hx : RSz a x) (hy : RSz b y) (hab : a + b ≤ 9000) (hq : q (.v (sh (x / y)))) : S_by [sh x, sh y] q Ed := by unfold S_by; exact ⟨x, y, a, b, rfl, h0, hx, hy, hab, hq⟩
theorem law_by_i (h0 : y ≠ 0) (hx : RSz a x) (hy : RSz b y) (hab : a + b ≤ 9000) (hq : q (.v (sh (x / y)))) : S_law_by [sh x, sh y] q Ed := by unfold S_law_by; exact ⟨x, y, a, b, rfl, h0, hx, hy, hab, hq⟩
theorem is_less_i (hx : RSz a x) (hy : RSz b y) (hab : a + b ≤ 9000) (hq : q (.v (.bl (decide (x < y))))) : S_is_less [sh x, sh y] q Ed := by unfold S_is_less; exact ⟨x, y, a, b, rfl, hx, hy, hab, hq⟩
theorem below_i (hx : RSz a x) (hy : RSz b y) (hab : a + b ≤ 9000) (hq : q (.v (.bl (decide (x < y))))) : S_law_below [sh x, sh y] q Ed := by unfold S_law_below; exact ⟨x, y, a, b, rfl, hx, hy, hab, hq⟩
end
def B_minus : List Sx := [
  .ret (.call "plus" [false, false] S_plus [] [.var 0, .tup [.neg (.ix (.var 1) (.int 0)), .ix (.var 1) (.int 1)]])]
def B_is_less : List Sx := [
  .ret (.cmp .lt (.bin .mul (.ix (.var 0) (.int 0)) (.ix (.var 1) (.int 1))) (.bin .mul (.ix (.var 1) (.int 0)) (.ix (.var 0) (.int 1))))]
def B_law_below : List Sx := [
  .ret (.cmp .lt (.bin .mul (.ix (.var 0) (.int 0)) (.ix (.var 1) (.int 1))) (.bin .mul (.ix (.var 1) (.int 0)) (.ix (.var 0) (.int 1))))]
theorem sh_neg (u : Rat) : D.tup [.int (-u.num), .int (u.den : Int)] = sh (-u) := by
  unfold sh
  rw [Rat.neg_num, Rat.neg_den]
theorem vc_minus : VC 2 [false, false] S_minus B_minus := by
  intro ds q Ed hl h
  unfold S_minus at h
  obtain ⟨x, y, a, b, rfl, hx, hy, hab, h⟩ := h
  show S_plus [sh x, .tup [.int (-y.num), .int (y.den : Int)]] _ Ed
  rw [sh_neg]
  refine plus_i hx hy.neg hab ?_
  rw [← Rat.sub_eq_add_neg]
  exact h
theorem num_ne {y : Rat} (h : y ≠ 0) : y.num ≠ 0 := fun e => h (Rat.num_eq_zero.mp e)
theorem by_eq (x y : Rat) : Rat.divInt (x.num * y.den) (x.den * y.num) = x / y := by
  rw [Rat.div_def, Rat.inv_def, ← Rat.divInt_mul_divInt, Rat.num_divInt_den]
theorem lt_eq (x y : Rat) : decide (x.num * y.den < y.num * x.den) = decide (x < y) := by
  rw [decide_eq_decide]
  exact (Rat.lt_iff x y).symm
theorem vc_is_less : VC 2 [false, false] S_is_less B_is_less := by
  intro ds q Ed hl h
  unfold S_is_less at h
  obtain ⟨x, y, a, b, rfl, hx, hy, hab, h⟩ := h
  rw [← lt_eq] at h
  exact ⟨⟨a, b, hx.1, hy.2, by omega⟩, ⟨b, a, hy.1, hx.2, by omega⟩, h⟩
theorem vc_law_below : VC 2 [false, false] S_law_below B_law_below := by
  intro ds q Ed hl h
  unfold S_law_below at h
  obtain ⟨x, y, a, b, rfl, hx, hy, hab, h⟩ := h
  rw [← lt_eq] at h
  exact ⟨⟨a, b, hx.1, hy.2, by omega⟩, ⟨b, a, hy.1, hx.2, by omega⟩, h⟩
/-! sizes -/
theorem rsz_sub {a b : Nat} {u v : Rat} (ha : RSz a u) (hb : RSz b v) : RSz (a + b + 1) (u - v) := by
  rw [Rat.sub_eq_add_neg]
  exact rsz_add ha hb.neg
theorem rsz_by {a b : Nat} {u v : Rat} (h0 : v ≠ 0) (ha : RSz a u) (hb : RSz b v) : RSz (a + b) (u / v) := by
  rw [← by_eq]
  have hn := num_ne h0
  rcases Int.lt_or_gt_of_ne hn with h | h
  · rw [← Rat.neg_divInt_neg]
    have hp : 0 < -((u.den : Int) * v.num) := by
      rw [← Int.mul_neg]
      exact Int.mul_pos (den_pos u) (by omega)
    exact rsz_div hp (ha.1.mul hb.2).neg (ha.2.mul hb.1).neg
  · exact rsz_div (Int.mul_pos (den_pos u) h) (ha.1.mul hb.2) (ha.2.mul hb.1)
theorem shI (i : Int) : D.tup [.int i, .int 1] = sh (i : Rat) := by
  unfold sh
  rw [Rat.num_intCast, Rat.den_intCast]
  rfl
theorem rszI {i : Int} {k : Nat} (h : Sz k i) (hk : 1 ≤ k) : RSz k (i : Rat) := by
  refine ⟨by rw [Rat.num_intCast]; exact h, ?_⟩
  rw [Rat.den_intCast]
  have : Sz 1 ((1 : Nat) : Int) := by unfold Sz; decide
  exact this.mono hk
end TT

set_option Elab.async false
set_option linter.all false
set_option maxRecDepth 100000
set_option autoImplicit false
set_option maxHeartbeats 1000000
namespace TT
open PySem PySem.Spec L2
/-! ### sizes that are found by themselves -/
class ZB (i : Int) (n : outParam Nat) : Prop where
  h : Sz n i
class RB (u : Rat) (n : outParam Nat) : Prop where
  h : RSz n u
theorem lit_lt (n : Nat) : n < 2 ^ (n / 16 + 5) := by
  have h1 : n / 16 < 2 ^ (n / 16) := Nat.lt_two_pow_self
  have h2 : n < 16 * (n / 16 + 1) := by omega
  have h3 : 2 ^ (n / 16 + 5) = 32 * 2 ^ (n / 16) := by rw [Nat.pow_add, Nat.mul_comm]
  omega
instance {n : Nat} : ZB (no_index (@OfNat.ofNat Int n instOfNat)) ((@OfNat.ofNat Int n instOfNat).toNat / 16 + 5) := ⟨by
  show (n : Int).natAbs < 2 ^ (n / 16 + 5)
  rw [Int.natAbs_natCast]
  exact lit_lt n⟩
instance {i j : Int} {a b : Nat} [x : ZB i a] [y : ZB j b] : ZB (i * j) (a + b) := ⟨x.h.mul y.h⟩
instance {i j : Int} {a b : Nat} [x : ZB i a] [y : ZB j b] : ZB (i + j) (a + b + 1) := ⟨(x.h.add y.h).mono (by omega)⟩
instance {i j : Int} {a b : Nat} [x : ZB i a] [y : ZB j b] : ZB (i - j) (a + b + 1) := ⟨(x.h.sub y.h).mono (by omega)⟩
instance {i : Int} {a : Nat} [x : ZB i a] : ZB (-i) a := ⟨x.h.neg⟩
instance {u : Rat} {a : Nat} [x : RB u a] : ZB u.num a := ⟨x.h.1⟩
instance {u : Rat} {a : Nat} [x : RB u a] : ZB (u.den : Int) a := ⟨x.h.2⟩
instance {i : Int} {a : Nat} [x : ZB i a] : RB (i : Rat) (a + 1) := ⟨rszI (x.h.mono (by omega)) (by omega)⟩
instance {u v : Rat} {a b : Nat} [x : RB u a] [y : RB v b] : RB (u + v) (a + b + 1) := ⟨rsz_add x.h y.h⟩
instance {u v : Rat} {a b : Nat} [x : RB u a] [y : RB v b] : RB (u - v) (a + b + 1) := ⟨rsz_sub x.h y.h⟩
instance {u v : Rat} {a b : Nat} [x : RB u a] [y : RB v b] : RB (u * v) (a + b) := ⟨rsz_mul x.h y.h⟩
instance {u : Rat} {a : Nat} [x : RB u a] : RB (-u) a := ⟨x.h.neg⟩
theorem rsz_pos {a : Nat} {u : Rat} (h : RSz a u) : 1 ≤ a := by
  have h2 := h.2
  have := u.den_pos
  unfold Sz at h2
  rw [Int.natAbs_natCast] at h2
  cases a with
  | zero => simp at h2; omega
  | succ a => omega
theorem rsz_zero {k : Nat} (h : 1 ≤ k) : RSz k 0 := by
  refine ⟨?_, ?_⟩
  · show (0 : Int).natAbs < 2 ^ k
    exact Nat.pow_pos (by decide)
  · show (1 : Int).natAbs < 2 ^ k
    exact Nat.lt_of_lt_of_le (by decide : 1 < 2 ^ 1) (Nat.pow_le_pow_right (by decide) h)
instance {u v : Rat} {a b : Nat} [x : RB u a] [y : RB v b] : RB (u / v) (a + b) := ⟨by
  by_cases h : v = 0
  · subst h
    have e : u / 0 = 0 := by grind
    rw [e]
    exact rsz_zero (by have := rsz_pos x.h; omega)
  · exact rsz_by h x.h y.h⟩
instance : RB (0 : Rat) 1 := ⟨rsz_zero (by decide)⟩
instance : RB (1 : Rat) 1 := ⟨by refine ⟨?_, ?_⟩ <;> show (1 : Int).natAbs < 2 ^ 1 <;> decide⟩
theorem divInt_eq (i j : Int) : Rat.divInt i j = (i : Rat) / (j : Rat) := by rw [Rat.divInt_eq_div]
instance {i j : Int} {a b : Nat} [x : ZB i a] [y : ZB j b] : RB (Rat.divInt i j) (a + 1 + (b + 1)) := ⟨by
  rw [divInt_eq]
  exact (inferInstance : RB ((i : Rat) / (j : Rat)) _).h⟩
theorem ZB.of {i : Int} {m k : Nat} (h : i.natAbs < m) (hm : m ≤ 2 ^ k) : ZB i k := ⟨sz_of h hm⟩
theorem RB.le {u : Rat} {a b : Nat} (x : RB u a) (h : a ≤ b) : RB u b := ⟨x.h.mono h⟩
/-- a whole number as a share, or a pair -/
@[irreducible] def SI : D → (DV → Prop) → Prop := fun d q => q (.v (.tup [d, .int 1]))
section
variable {q : DV → Prop} {Ed : Str → Prop} {x y u : Rat} {a b n : Nat} {i j : Int} {δ : Sl} {e : Ex}
theorem x_tupI (hq : EE Ed e δ fun dv => CM false dv fun d => SI d q) : EE Ed (.tup [e, .int 1]) δ q := by
  refine x_tup (x_acons rfl ?_)
  unfold SI at hq
  unfold EE CM at hq ⊢
  unfold AA
  exact hq
instance ri_tupI : Rul (EE Ed (.tup [e, .int 1]) δ q) (EE Ed e δ fun dv => CM false dv fun d => SI d q) := ⟨fun h => x_tupI h⟩
theorem x_si (hq : q (.v (sh (i : Rat)))) : SI (.int i) q := by unfold SI; rw [shI]; exact hq
instance ri_si : Rul (SI (.int i) q) (q (.v (sh (i : Rat)))) := ⟨fun h => x_si h⟩
theorem x_glbS {s : Str} (hq : q (.v (sh (i : Rat)))) : EE Ed (.glb s (.tup [.int i, .int 1])) δ q := x_glb (by rw [shI]; exact hq)
instance ri_glbS {s : Str} : Rul (EE Ed (.glb s (.tup [.int i, .int 1])) δ q) (q (.v (sh (i : Rat)))) := ⟨fun h => x_glbS h⟩
theorem x_mul' [h1 : ZB i a] [h2 : ZB j b] (h : a + b ≤ 999998) (hq : q (.v (.int (i * j)))) : opB .mul (.int i) (.int j) q := x_mul ⟨a, b, h1.h, h2.h, h⟩ hq
theorem x_fdiv' [h2 : ZB j b] (h0 : 0 < j) (h : b ≤ 9000) (hq : q (.v (.int (i / j)))) : opB .fdiv (.int i) (.int j) q := x_fdiv ⟨h0, h2.h.mono h⟩ hq
theorem x_plus [h1 : RB x a] [h2 : RB y b] (h : a + b ≤ 9000) (hq : q (.v (sh (x + y)))) : S_plus [sh x, sh y] q Ed := plus_i h1.h h2.h h hq
theorem x_times [h1 : RB x a] [h2 : RB y b] (h : a + b ≤ 9000) (hq : q (.v (sh (x * y)))) : S_times [sh x, sh y] q Ed := times_i h1.h h2.h h hq
theorem x_minus [h1 : RB x a] [h2 : RB y b] (h : a + b ≤ 9000) (hq : q (.v (sh (x - y)))) : S_minus [sh x, sh y] q Ed := minus_i h1.h h2.h h hq
theorem x_lless [h1 : RB x a] [h2 : RB y b] (h : a + b ≤ 9000) (hq : q (.v (sh (x - y)))) : S_law_less [sh x, sh y] q Ed := less_i h1.h h2.h h hq
theorem x_by [h1 : RB x a] [h2 : RB y b] (h : a + b ≤ 9000) (h0 : y ≠ 0) (hq : q (.v (sh (x / y)))) : S_by [sh x, sh y] q Ed := by_i h0 h1.h h2.h h hq
theorem x_lby [h1 : RB x a] [h2 : RB y b] (h : a + b ≤ 9000) (h0 : y ≠ 0) (hq : q (.v (sh (x / y)))) : S_law_by [sh x, sh y] q Ed := law_by_i h0 h1.h h2.h h hq
theorem x_less [h1 : RB x a] [h2 : RB y b] (h : a + b ≤ 9000) (hq : q (.v (.bl (decide (x < y))))) : S_is_less [sh x, sh y] q Ed := is_less_i h1.h h2.h h hq
theorem x_below [h1 : RB x a] [h2 : RB y b] (h : a + b ≤ 9000) (hq : q (.v (.bl (decide (x < y))))) : S_law_below [sh x, sh y] q Ed := below_i h1.h h2.h h hq
theorem x_lowest [h2 : ZB j b] (h : b ≤ 9000) (h0 : j ≠ 0) (hq : q (.v (sh (Rat.divInt i j)))) : S_lowest [.int i, .int j] q Ed := lowest_i h0 (h2.h.mono h) hq
theorem x_share [h1 : RB x a] (h : a ≤ 9000) (hq : q (.v (.bl true))) : S_is_share [sh x] q Ed := is_share_t h1.h h hq
theorem x_draw [h2 : ZB j b] (h : b ≤ 9000) (h0 : 0 < j) (hq : ∀ d, 0 ≤ d → d < j → q (.v (.int d))) : S_draw [.town, .int j] q Ed := by
  unfold S_draw
  exact ⟨j, rfl, h0, h2.h.mono h, hq⟩
theorem x_pick {xs : List D} (h0 : Nat.ble 1 xs.length = true) (h1 : Nat.ble xs.length 1000 = true) (hq : ∀ x ∈ xs, q (.v x)) : S_law_pick [.town, .lst xs] q Ed := pick_i (Nat.le_of_ble_eq_true h0) (Nat.le_of_ble_eq_true h1) hq
theorem x_isint {d : D} (h : basic d = true) (hq : q (.v (.bl (isInt d)))) : S_is_int [d] q Ed := is_int_i h hq
end
end TT

set_option Elab.async false
set_option linter.all false
set_option maxRecDepth 100000
set_option autoImplicit false
set_option maxHeartbeats 1000000
namespace TT
open PySem PySem.Spec L2
/-! ### comprehensions and loops by words of their own -/
theorem TG.mono {t : Tg} {d : D} {δ : Sl} {p p' : Sl → Prop} (h : ∀ δ, p δ → p' δ) (h1 : TG t d δ p) : TG t d δ p' := by
  unfold TG at h1 ⊢
  refine Tg.rec (motive_1 := fun t => ∀ (d : D) (δ : Sl) (p p' : Sl → Prop), (∀ δ, p δ → p' δ) → tgD t d δ p → tgD t d δ p') (motive_2 := fun ts => ∀ (ds : List D) (δ : Sl) (p p' : Sl → Prop), (∀ δ, p δ → p' δ) → tgsD ts ds δ p → tgsD ts ds δ p') ?_ ?_ ?_ ?_ t d δ p p' h h1
  · intro i d δ p p' h h1
    simp only [tgD] at h1 ⊢
    exact h _ h1
  · intro ts ih d δ p p' h h1
    cases d <;> simp only [tgD] at h1 ⊢
    · exact ih _ _ _ _ h h1
    · exact ih _ _ _ _ h h1
  · intro ds δ p p' h h1
    cases ds <;> simp only [tgsD] at h1 ⊢
    exact h _ h1
  · intro t ts i1 i2 ds δ p p' h h1
    cases ds <;> simp only [tgsD] at h1 ⊢
    exact i1 _ _ _ _ (fun δ hh => i2 _ _ _ _ h hh) h1
section
variable {F : Str → Prop} {i : Nat} {we : Sl → (D → Prop) → Prop} {δ : Sl} {q : List D → Prop} {ds : List D}
theorem x_map (g : D → D) (he : ∀ d ∈ ds, ∀ k : D → Prop, k (g d) → we (δ.set i (some (.v d))) k) (hl : ds.length ≤ 1000000) (hq : q (ds.map g)) : CC (.nm i) (OO F none) we δ q ds [] := by
  unfold CC OO
  exact comp_map g he (by simpa using hl) (by simpa using hq)
theorem rngD_map (n : Nat) : rngD 0 n = (List.range n).map fun k => .int (k : Nat) := by
  unfold rngD
  simp
theorem x_mapR (g : Nat → D) {n : Nat} (he : ∀ k, k < n → ∀ P : D → Prop, P (g k) → we (δ.set i (some (.v (.int (k : Nat))))) P) (hl : n ≤ 1000000) (hq : q ((List.range n).map g)) : CC (.nm i) (OO F none) we δ q (rngD 0 n) [] := by
  refine x_map (fun d => match d with
    | .int k => g k.toNat
    | _ => .non) (fun d hd P hP => ?_) (by rw [rngD_len]; exact hl) ?_
  · rw [rngD_map] at hd
    obtain ⟨k, hk, rfl⟩ := List.mem_map.mp hd
    exact he k (List.mem_range.mp hk) P (by simpa using hP)
  · rw [rngD_map, List.map_map]
    simpa [Function.comp_def] using hq
end
section
variable {F : Str → Prop} {t t1 : Tg} {we : Sl → (D → Prop) → Prop} {δ : Sl} {α β : Type}
end
section
variable {b : Kn → Sl → Prop} {kn : Sl → Prop} {kr : DV → Prop} {kb kc : Sl → Prop} {δ : Sl} {t : Tg}
theorem rngD_cons (a : Int) (n : Nat) : rngD a (n + 1) = .int a :: rngD (a + 1) n := by
  unfold rngD
  rw [List.range_succ_eq_map, List.map_cons, List.map_map]
  congr 1
  · simp
  · refine List.map_congr_left fun k _ => ?_
    show D.int (a + ((k + 1 : Nat) : Int)) = .int (a + 1 + (k : Int))
    congr 1
    omega
/-- a loop over range(n) by what holds at the head of turn j -/
theorem x_rngI (I : Nat → Sl → Prop) {n i : Nat} (h0 : I 0 δ) (hs : ∀ j, j < n → ∀ δ, I j δ → ∀ nx : Sl → Prop, (∀ δ, I (j + 1) δ → nx δ) → b ⟨nx, kr, kn, nx⟩ (δ.set i (some (.v (.int (j : Nat)))))) (he : ∀ δ, I n δ → kn δ) : FF (.nm i) b ⟨kn, kr, kb, kc⟩ (rngD 0 n) δ := by
  suffices go : ∀ (r m : Nat) (δ : Sl), m + r = n → I m δ → FF (.nm i) b ⟨kn, kr, kb, kc⟩ (rngD (m : Int) r) δ from go n 0 δ (by omega) h0
  intro r
  induction r with
  | zero =>
    intro m δ e hI
    have e : m = n := by omega
    subst e
    exact x_f0 (he δ hI)
  | succ r ih =>
    intro m δ e hI
    rw [rngD_cons]
    refine x_f1 (x_tn ?_)
    refine hs m (by omega) δ hI _ fun δ' h' => ?_
    have := ih (m + 1) δ' (by omega) h'
    have e2 : ((m + 1 : Nat) : Int) = (m : Int) + 1 := by omega
    rw [e2] at this
    exact this
end
end TT

set_option Elab.async false
set_option linter.all false
set_option maxRecDepth 100000
set_option autoImplicit false
set_option maxHeartbeats 1000000
namespace TT
open PySem PySem.Spec L2
/-! ### equals, members, sieves -/
theorem eqL_refl' {xs : List D} (h : ∀ x ∈ xs, eqD x x = true) : eqL xs xs = true := by
  induction xs with
  | nil => exact eqL_nil
  | cons x xs ih => rw [eqL_cons, h x (by simp), ih fun y hy => h y (List.mem_cons_of_mem _ hy)]; rfl
theorem eqD_refl : ∀ (k : Nat) {d : D}, plain k d = true → eqD d d = true
  | k, .non, _ => by simp [eqD, py, PyData.eqv]
  | k, .bl _, _ => by simp [eqD, py, PyData.eqv]
  | k, .int _, _ => by simp [eqD, py, PyData.eqv]
  | k, .str s, _ => by simp [eqD, py, PyData.eqv]
  | k + 1, .tup xs, h => by
    rw [eqD_tup]
    exact eqL_refl' fun x hx => eqD_refl k (List.all_eq_true.mp (by simpa [plain] using h) x hx)
  | k + 1, .lst xs, h => by
    rw [eqD_lst]
    exact eqL_refl' fun x hx => eqD_refl k (List.all_eq_true.mp (by simpa [plain] using h) x hx)
  | 0, .tup xs, h => by simp [plain] at h
  | 0, .lst xs, h => by simp [plain] at h
  | k, .ty _, h => by cases k <;> simp [plain] at h
  | k, .dic _, h => by cases k <;> simp [plain] at h
  | k, .obj _ _, h => by cases k <;> simp [plain] at h
  | k, .town, h => by cases k <;> simp [plain] at h
  | k, .scr, h => by cases k <;> simp [plain] at h
  | k, .err _, h => by cases k <;> simp [plain] at h
  | k, .key _, h => by cases k <;> simp [plain] at h
  | k, .idc _, h => by cases k <;> simp [plain] at h
section
variable {q : DV → Prop}
theorem x_eqR {x : D} (p : plain 60 x = true) (h : q (.v (.bl true))) : opC .eq x x q := x_eq p p (by rw [eqD_refl 60 p]; exact h)
theorem x_neR {x : D} (p : plain 60 x = true) (h : q (.v (.bl false))) : opC .ne x x q := x_ne p p (by rw [eqD_refl 60 p]; exact h)
theorem plain_mapK {α : Type} {k : Nat} {f : α → D} (l : List α) (h : ∀ a, plain k (f a) = true) : plain (k + 1) (.lst (l.map f)) = true := by
  simp only [plain, List.all_map, List.all_eq_true]
  exact fun a _ => h a
theorem eq_nil {l : List D} : eqD (.lst l) (.lst []) = l.isEmpty := by
  rw [eqD_lst]
  cases l with
  | nil => exact eqL_nil
  | cons a l => exact eqL_cn
theorem x_eqN {l : List D} (p : plain 60 (.lst l) = true) (h : q (.v (.bl l.isEmpty))) : opC .eq (.lst l) (.lst []) q := x_eq p rfl (by rw [eq_nil]; exact h)
theorem x_neN {l : List D} (p : plain 60 (.lst l) = true) (h : q (.v (.bl (!l.isEmpty)))) : opC .ne (.lst l) (.lst []) q := x_ne p rfl (by rw [eq_nil]; exact h)
theorem any_sh (m : Rat) : ∀ l : List Rat, ((l.map sh).any fun z => eqD z (sh m)) = decide (m ∈ l)
  | [] => rfl
  | a :: l => by
    rw [List.map_cons, List.any_cons, any_sh m l, eqD_sh, Bool.eq_iff_iff]
    simp only [Bool.or_eq_true, decide_eq_true_eq, List.mem_cons]
    constructor
    · rintro (rfl | h)
      · exact .inl rfl
      · exact .inr h
    · rintro (rfl | h)
      · exact .inl rfl
      · exact .inr h
theorem x_inS {m : Rat} {l : List Rat} {neg : Bool} (h : q (.v (.bl (neg ^^ decide (m ∈ l))))) : op2 (.isin neg) (sh m) (.lst (l.map sh)) q := by
  refine ⟨rfl, plain_mapK l (fun _ => rfl), ?_⟩
  rw [any_sh]
  exact h
instance ri_inS {m : Rat} {l : List Rat} {neg : Bool} : Rul (op2 (.isin neg) (sh m) (.lst (l.map sh)) q) (q (.v (.bl (neg ^^ decide (m ∈ l))))) := ⟨fun h => x_inS h⟩
end
section
variable {F : Str → Prop} {t : Tg} {we : Sl → (D → Prop) → Prop} {wt : Sl → (Bool → Prop) → Prop} {δ : Sl} {α : Type}
end
end TT

set_option Elab.async false
set_option linter.all false
set_option maxRecDepth 100000
set_option autoImplicit false
set_option maxHeartbeats 1000000
namespace TT
open PySem PySem.Spec L2
local macro_rules
  | `(tactic| fail "x") => `(tactic| with_reducible first
    | refine Rul.h ?_
    | (show EE _ _ _ _
       first
         | refine x_var (by with_unfolding_all rfl) ?_
         | refine x_varO (by with_unfolding_all rfl) ?_
         | refine x_varB (by with_unfolding_all rfl) ?_
         | refine x_varP (by with_unfolding_all rfl) ?_
         | refine x_selfL (by with_unfolding_all rfl) ?_)
    | refine x_acons (by with_unfolding_all rfl) ?_
    | (show opIx _ _ _
       first
         | refine x_ix0 ?_
         | refine x_ix1 ?_
         | refine x_ixT (by with_unfolding_all rfl) ?_
         | refine x_ixL (by with_unfolding_all rfl) ?_)
    | (show BB _ _ _ _
       first
         | refine x_set ?_
         | refine x_setv ?_
         | refine x_par ?_
         | refine x_par3 ?_
         | refine x_tgt ?_
         | refine x_expr ?_
         | refine x_app (by with_unfolding_all rfl) ?_
         | refine x_ret ?_
         | refine x_retN ?_
         | refine x_retO (by with_unfolding_all rfl) ?_
         | refine x_retV (by with_unfolding_all rfl) ?_
         | refine x_ifs ?_
         | refine x_for ?_
         | refine x_raise ?_
         | refine x_pass ?_
         | refine x_nil ?_
         | refine x_fld (by with_unfolding_all rfl) (by with_unfolding_all rfl) ?_
         | refine x_fldL (by with_unfolding_all rfl) (by with_unfolding_all rfl) (by with_unfolding_all rfl) ?_
         | refine x_appL (by with_unfolding_all rfl) ?_)
    | (show IF _ _ _
       first
         | refine x_dt (by first | assumption | decide | omega) ?_
         | refine x_df (by first | assumption | decide | omega) ?_
         | refine x_ndt (by first | assumption | decide | omega) ?_
         | refine x_ndf (by first | assumption | decide | omega) ?_)
    | refine x_le (by with_unfolding_all rfl) ?_
    | (show opC _ _ _ _
       first
         | refine x_eqR (by first | with_unfolding_all rfl | assumption) ?_
         | refine x_neR (by first | with_unfolding_all rfl | assumption) ?_
         | refine x_eqN (by first | with_unfolding_all rfl | assumption) ?_
         | refine x_neN (by first | with_unfolding_all rfl | assumption) ?_
         | refine x_eqI ?_
         | refine x_neI ?_
         | refine x_eqS ?_
         | refine x_neS ?_
         | refine x_lt ?_
         | refine x_le' ?_
         | refine x_gt ?_
         | refine x_ge ?_
         | refine x_eq (by with_unfolding_all rfl) (by with_unfolding_all rfl) ?_
         | refine x_ne (by with_unfolding_all rfl) (by with_unfolding_all rfl) ?_)
    | (show opB _ _ _ _
       first
         | refine x_mul' (by with_unfolding_all omega) ?_
         | refine x_fdiv' ?_ (by with_unfolding_all omega) ?_
         | refine x_catL (by with_unfolding_all rfl) ?_
         | refine x_catT (by with_unfolding_all rfl) ?_
         | refine x_mul ?_ ?_
         | refine x_fdiv ?_ ?_
         | refine x_mod ?_ ?_)
    | refine x_rg (by omega) (by omega) ?_
    | (show op2 _ _ _ _
       first
         | refine x_cutL (by omega) ?_
         | refine x_cutR (by omega) ?_)
    | refine x_isiq (by with_unfolding_all rfl) ?_
    | refine x_isisq (by with_unfolding_all rfl) ?_
    | refine x_plus (by with_unfolding_all omega) ?_
    | refine x_times (by with_unfolding_all omega) ?_
    | refine x_minus (by with_unfolding_all omega) ?_
    | refine x_lless (by with_unfolding_all omega) ?_
    | refine x_less (by with_unfolding_all omega) ?_
    | refine x_below (by with_unfolding_all omega) ?_
    | refine x_by (by with_unfolding_all omega) ?_ ?_
    | refine x_lby (by with_unfolding_all omega) ?_ ?_
    | refine x_lowest (by with_unfolding_all omega) ?_ ?_
    | refine x_share (by with_unfolding_all omega) ?_
    | refine x_draw (by with_unfolding_all omega) (by with_unfolding_all omega) ?_
    | refine x_pick (by with_unfolding_all rfl) (by with_unfolding_all rfl) ?_
    | refine x_isint (by with_unfolding_all rfl) ?_
    | assumption)
/-! ### words that many laws have -/
/-- a law keeps its word -/
def LC (k : Nat) (B : List Sx) : Prop := wBk (fun _ => False) B ⟨fun _ => False, fun dv => dv = .v (.bl true), fun _ => False, fun _ => False⟩ ((List.replicate k none).set 1 (some (.v .town)))
abbrev F0 : Str → Prop := fun _ => False
end TT

set_option Elab.async false
set_option linter.all false
set_option maxRecDepth 100000
set_option autoImplicit false
set_option maxHeartbeats 1000000
namespace TT
open PySem PySem.Spec L2
/-! ### the walk's rules for dicts of places, stores, while -/
section
local macro_rules
  | `(tactic| fail "u") => `(tactic| try simp only [EE, AA, BB, II, LA, LO, OO, CM, AB, RV, SV, SQ, CC, DD, FF, TG, TS, IF] at *)
@[irreducible] def SU : Nat → DV → D → D → Sl → (Sl → Prop) → Prop := fun i dw y d δ p => subD i dw y d δ p
@[irreducible] def WH : (Sl → (Bool → Prop) → Prop) → (Kn → Sl → Prop) → Kn → Sl → Prop := fun wc b k δ => swWhile wc b k δ
variable {Ed : Str → Prop} {δ : Sl} {q : DV → Prop} {kn : Sl → Prop} {kr : DV → Prop} {kb kc : Sl → Prop} {rest b1 b2 : List Sx} {a b c e : Ex} {es kes : List Ex} {i : Nat}
theorem x_keyt (hq : AA Ed es (List.replicate es.length false) δ fun ds => ∃ k : List Int, ds = k.map .int ∧ q (.v (.key k))) : EE Ed (.keyt es) δ q := by fail "u"; exact hq
instance ri_keyt : Rul (EE Ed (.keyt es) δ q) (AA Ed es (List.replicate es.length false) δ fun ds => ∃ k : List Int, ds = k.map .int ∧ q (.v (.key k))) := ⟨fun h => x_keyt h⟩
theorem x_kq3 {i j k : Int} {Q : List Int → Prop} (h : Q [i, j, k]) : ∃ l : List Int, ([.int i, .int j, .int k] : List D) = l.map .int ∧ Q l := ⟨[i, j, k], rfl, h⟩
theorem x_methK {cn m : Str} {br : List Bool} {S : DS} {ks : List Str} {dv : List D} {o : Ex} (hq : EE Ed o δ fun dw => CM true dw fun d => (∃ fs, d = .obj cn fs ∧ fs.lookup m = none) ∧ AA Ed es (br.take es.length) δ fun ds => AA Ed kes ((br.drop es.length).take kes.length) δ fun zs => S (d :: (ds ++ (zs ++ dv))) q Ed) : EE Ed (.methK cn m br S ks dv o es kes) δ q := by fail "u"; exact hq
instance ri_methK {cn m : Str} {br : List Bool} {S : DS} {ks : List Str} {dv : List D} {o : Ex} : Rul (EE Ed (.methK cn m br S ks dv o es kes) δ q) (EE Ed o δ fun dw => CM true dw fun d => (∃ fs, d = .obj cn fs ∧ fs.lookup m = none) ∧ AA Ed es (br.take es.length) δ fun ds => AA Ed kes ((br.drop es.length).take kes.length) δ fun zs => S (d :: (ds ++ (zs ++ dv))) q Ed) := ⟨fun h => x_methK h⟩
theorem x_methD {cn m : Str} {br : List Bool} {S : DS} {d0 : D} {dv : List D} {o : Ex} (hq : EE Ed o δ fun dw => CM true dw fun d => (∃ fs, d = .obj cn fs ∧ fs.lookup m = none) ∧ AA Ed es (br.take es.length) δ fun ds => S (d :: (ds ++ d0 :: dv)) q Ed) : EE Ed (.meth cn m br S (d0 :: dv) o es) δ q := by fail "u"; exact hq
instance (priority := low) ri_methD {cn m : Str} {br : List Bool} {S : DS} {d0 : D} {dv : List D} {o : Ex} : Rul (EE Ed (.meth cn m br S (d0 :: dv) o es) δ q) (EE Ed o δ fun dw => CM true dw fun d => (∃ fs, d = .obj cn fs ∧ fs.lookup m = none) ∧ AA Ed es (br.take es.length) δ fun ds => S (d :: (ds ++ d0 :: dv)) q Ed) := ⟨fun h => x_methD h⟩
theorem x_sub' {dw : DV} (h : δ.getD i none = some dw) (hq : EE Ed e δ fun dv => CM false dv fun d => EE Ed a δ fun du => CM false du fun y => SU i dw y d δ (BB Ed rest ⟨kn, kr, kb, kc⟩)) : BB Ed (.sub i a e :: rest) ⟨kn, kr, kb, kc⟩ δ := by
  unfold SU at hq
  fail "u"
  show swSub i (co false (wE Ed a)) (co false (wE Ed e)) ⟨wBk Ed rest ⟨kn, kr, kb, kc⟩, kr, kb, kc⟩ δ
  unfold swSub
  rw [h]; exact hq
theorem x_suD {kvs : List (List Int × D)} {k : List Int} {d : D} {p : Sl → Prop} (hl : kvs.length ≤ 1000000) (h : p (δ.set i (some (.own (.dic (putK' kvs k d)))))) : SU i (.own (.dic kvs)) (.key k) d δ p := by unfold SU; exact ⟨hl, h⟩
theorem x_suL {ds : List D} {j : Int} {d : D} {p : Sl → Prop} (h0 : 0 ≤ j) (h1 : j < ds.length) (h : p (δ.set i (some (.own (.lst (ds.set j.toNat d)))))) : SU i (.own (.lst ds)) (.int j) d δ p := by unfold SU; exact ⟨⟨h0, h1⟩, h⟩
theorem x_aug {up : Bool} {x : Int} (h : δ.getD i none = some (.v (.int x))) (hq : EE Ed e δ fun dv => CM false dv fun d => ∃ y, d = .int y ∧ BB Ed rest ⟨kn, kr, kb, kc⟩ (δ.set i (some (.v (.int (if up = true then x + y else x - y)))))) : BB Ed (.aug i up e :: rest) ⟨kn, kr, kb, kc⟩ δ := by
  fail "u"
  show swAug i up (co false (wE Ed e)) ⟨wBk Ed rest ⟨kn, kr, kb, kc⟩, kr, kb, kc⟩ δ
  unfold swAug
  rw [h]
  have e : (fun d => augD i up (.v (.int x)) d δ (wBk Ed rest ⟨kn, kr, kb, kc⟩)) = fun d => ∃ y, d = .int y ∧ wBk Ed rest ⟨kn, kr, kb, kc⟩ (δ.set i (some (.v (.int (if up = true then x + y else x - y))))) := by
    funext d
    refine propext ⟨fun z => ?_, fun ⟨y, ey, z⟩ => by subst ey; exact z⟩
    cases d <;> first | exact ⟨_, rfl, z⟩ | exact z.elim
  show co false (wE Ed _) δ fun d => augD i up (.v (.int x)) d δ (wBk Ed rest ⟨kn, kr, kb, kc⟩)
  rw [e]
  exact hq
theorem x_augU {x : Int} (h : δ.getD i none = some (.v (.int x))) (hq : EE Ed e δ fun dv => CM false dv fun d => ∃ y, d = .int y ∧ BB Ed rest ⟨kn, kr, kb, kc⟩ (δ.set i (some (.v (.int (x + y)))))) : BB Ed (.aug i true e :: rest) ⟨kn, kr, kb, kc⟩ δ := x_aug h hq
theorem x_augD {x : Int} (h : δ.getD i none = some (.v (.int x))) (hq : EE Ed e δ fun dv => CM false dv fun d => ∃ y, d = .int y ∧ BB Ed rest ⟨kn, kr, kb, kc⟩ (δ.set i (some (.v (.int (x - y)))))) : BB Ed (.aug i false e :: rest) ⟨kn, kr, kb, kc⟩ δ := x_aug h hq
theorem x_eI {y : Int} {P : Int → Prop} (h : P y) : ∃ z, D.int y = .int z ∧ P z := ⟨y, rfl, h⟩
theorem x_ins {ds : List D} (h : δ.getD i none = some (.own (.lst ds))) (hq : EE Ed a δ fun dv => CM false dv fun x => EE Ed b δ fun dw => CM false dw fun y => ∃ j : Int, x = .int j ∧ (0 ≤ j ∧ j ≤ 1000000 ∧ ds.length ≤ 1000000) ∧ BB Ed rest ⟨kn, kr, kb, kc⟩ (δ.set i (some (.own (.lst (ds.take j.toNat ++ [y] ++ ds.drop j.toNat)))))) : BB Ed (.insr i a b :: rest) ⟨kn, kr, kb, kc⟩ δ := by
  fail "u"
  show swIns i (wA Ed [a, b] [false, false]) ⟨wBk Ed rest ⟨kn, kr, kb, kc⟩, kr, kb, kc⟩ δ
  unfold swIns
  rw [h]
  show co false (wE Ed a) δ fun x => co false (wE Ed b) δ fun y => insD i ds [x, y] δ (wBk Ed rest ⟨kn, kr, kb, kc⟩)
  have e : ∀ x, (fun y => insD i ds [x, y] δ (wBk Ed rest ⟨kn, kr, kb, kc⟩)) = fun y => ∃ j : Int, x = .int j ∧ (0 ≤ j ∧ j ≤ 1000000 ∧ ds.length ≤ 1000000) ∧ wBk Ed rest ⟨kn, kr, kb, kc⟩ (δ.set i (some (.own (.lst (ds.take j.toNat ++ [y] ++ ds.drop j.toNat))))) := by
    intro x
    funext y
    refine propext ⟨fun z => ?_, fun ⟨j, ey, z⟩ => by subst ey; exact z⟩
    cases x <;> first | exact ⟨_, rfl, z⟩ | exact z.elim
  simp only [e]
  exact hq
theorem x_insq {j : Int} {n : Nat} {P : Prop} (h0 : 0 ≤ j) (h1 : j ≤ 1000000) (h2 : Nat.ble n 1000000 = true) (h : P) : (0 ≤ j ∧ j ≤ 1000000 ∧ n ≤ 1000000) ∧ P := ⟨⟨h0, h1, Nat.le_of_ble_eq_true h2⟩, h⟩
theorem x_sqD {c : Bool} {kvs : List (List Int × D)} {q : List D → Prop} (hq : q (kvs.map fun kv => .key kv.1)) : SQ c (.v (.dic kvs)) q := by fail "u"; exact hq
instance ri_sqD {c : Bool} {kvs : List (List Int × D)} {q : List D → Prop} : Rul (SQ c (.v (.dic kvs)) q) (q (kvs.map fun kv => .key kv.1)) := ⟨fun h => x_sqD h⟩
/-! while -/
theorem x_loop (hq : WH (fun δ q => EE Ed c δ fun dv => AB dv q) (BB Ed b1) ⟨BB Ed rest ⟨kn, kr, kb, kc⟩, kr, kb, kc⟩ δ) : BB Ed (.loop c b1 :: rest) ⟨kn, kr, kb, kc⟩ δ := by
  unfold WH at hq
  fail "u"
  exact hq
instance ri_loop : Rul (BB Ed (.loop c b1 :: rest) ⟨kn, kr, kb, kc⟩ δ) (WH (fun δ q => EE Ed c δ fun dv => AB dv q) (BB Ed b1) ⟨BB Ed rest ⟨kn, kr, kb, kc⟩, kr, kb, kc⟩ δ) := ⟨fun h => x_loop h⟩
variable {wc : Sl → (Bool → Prop) → Prop} {B : Kn → Sl → Prop}
/-- by a measure and what holds at each head -/
theorem x_wh (I : Nat → Sl → Prop) (m : Nat) (h0 : I m δ) (h : ∀ m δ, I m δ → ∀ nx : Sl → Prop, (∀ m' δ', m' < m → I m' δ' → nx δ') → wc δ fun c => IF c (B ⟨nx, kr, kn, nx⟩ δ) (kn δ)) : WH wc B ⟨kn, kr, kb, kc⟩ δ := by
  unfold WH
  refine ⟨I, ⟨m, h0⟩, fun m δ hI => ?_⟩
  have := h m δ hI (fun δ' => ∃ m', m' < m ∧ I m' δ') fun m' δ' hm h' => ⟨m', hm, h'⟩
  unfold IF at this
  exact this
end
/-! operations -/
section
variable {q : DV → Prop} {kvs : List (List Int × D)}
theorem x_unkK {k : List Int} (h : q (.v (.tup (k.map .int)))) : op1 .unk (.key k) q := h
instance ri_unkK {k : List Int} : Rul (op1 .unk (.key k) q) (q (.v (.tup (k.map .int)))) := ⟨fun h => x_unkK h⟩
theorem x_unkT {ds : List D} (h : q (.v (.tup ds))) : op1 .unk (.tup ds) q := h
instance ri_unkT {ds : List D} : Rul (op1 .unk (.tup ds) q) (q (.v (.tup ds))) := ⟨fun h => x_unkT h⟩
theorem x_lenD (h : q (.v (.int kvs.length))) : op1 .lenD (.dic kvs) q := h
instance ri_lenD : Rul (op1 .lenD (.dic kvs) q) (q (.v (.int kvs.length))) := ⟨fun h => x_lenD h⟩
theorem x_dcopy (h0 : (kvs.map fun x => tHash x.1).Nodup) (h : q (.own (.dic kvs))) : op1 .dcopy (.dic kvs) q := ⟨h0, h⟩
theorem x_lrng {n : Nat} (h0 : n ≤ 1000) (h : q (.own (.lst (rngD 0 n)))) : op1 .lrng (.int n) q := ⟨⟨by omega, by omega⟩, by simpa using h⟩
theorem x_preD {kvs : List (List Int × D)} {A : Prop} (h : A) : pre2 .dix (.dic kvs) ∧ A := ⟨trivial, h⟩
instance ri_preD {kvs : List (List Int × D)} {A : Prop} : Rul (pre2 .dix (.dic kvs) ∧ A) (A) := ⟨fun h => x_preD h⟩
theorem x_preG {kvs : List (List Int × D)} {A : Prop} (h : A) : pre2 .dget (.dic kvs) ∧ A := ⟨trivial, h⟩
instance ri_preG {kvs : List (List Int × D)} {A : Prop} : Rul (pre2 .dget (.dic kvs) ∧ A) (A) := ⟨fun h => x_preG h⟩
theorem x_preN {b : Bool} {x : D} {A : Prop} (h : A) : pre2 (.din b) x ∧ A := ⟨trivial, h⟩
instance ri_preN {b : Bool} {x : D} {A : Prop} : Rul (pre2 (.din b) x ∧ A) (A) := ⟨fun h => x_preN h⟩
theorem x_dix {y d : D} {k : List Int} (hk : keyD y = some k) (hd : lookD kvs k = some d) (h : q (.v d)) : op2 .dix (.dic kvs) y q := ⟨k, d, hk, hd, h⟩
theorem x_dget {y : D} {k : List Int} (hk : keyD y = some k) (h : q (.v ((lookD kvs k).getD .non))) : op2 .dget (.dic kvs) y q := ⟨k, hk, h⟩
theorem x_pow3 {n : Nat} (h0 : n ≤ 100) (h : q (.v (.int ((n : Int) ^ 3)))) : opB .pow (.int n) (.int 3) q := by
  refine ⟨⟨by decide, by decide, ?_⟩, h⟩
  rw [Int.natAbs_natCast]
  omega
end
theorem x_len3 {xs : List D} {A B : Prop} (h : Nat.beq xs.length 3 = true) (hb : B) : IF (!decide ((xs.length : Int) = 3)) A B := x_ndt (by have := Nat.eq_of_beq_eq_true h; omega) hb
/-! three sources -/
theorem turnsD_map {α : Type} {δ : Sl} {i : Nat} {bd : Sl → List D → (List D → Prop) → Prop} {F : Str → Prop} (f : α → D) (R : α → List D) : ∀ {l : List α} {acc : List D} {q : List D → Prop}, (∀ a ∈ l, ∀ acc (k : List D → Prop), acc.length + (R a).length ≤ 1000000 → k (acc ++ R a) → bd (δ.set i (some (.v (f a)))) acc k) → acc.length + (l.flatMap R).length ≤ 1000000 → q (acc ++ l.flatMap R) → turnsD (.nm i) (wO F none) bd δ q (l.map f) acc
  | [], acc, q, _, _, h => by simpa [turnsD] using h
  | a :: l, acc, q, hg, hl, h => by
    rw [List.flatMap_cons, List.length_append] at hl
    rw [List.map_cons]
    unfold turnsD
    show tgD (.nm i) (f a) δ fun δ2 => if true = true then bd δ2 acc (turnsD (.nm i) (wO F none) bd δ q (l.map f)) else turnsD (.nm i) (wO F none) bd δ q (l.map f) acc
    simp only [if_true]
    unfold tgD
    refine hg a List.mem_cons_self acc _ (by omega) (turnsD_map f R (fun a' h' => hg a' (List.mem_cons_of_mem _ h')) (by rw [List.length_append]; omega) ?_)
    rw [List.flatMap_cons] at h
    simpa using h
end TT

set_option Elab.async false
set_option linter.all false
set_option maxRecDepth 100000
set_option autoImplicit false
set_option maxHeartbeats 1000000
/-! ### grids, as data -/
namespace L2
def upN (n : Nat) : List Int := (List.range n).map Int.ofNat
def tri (n : Nat) : List (List Int) := (upN n).flatMap fun a => (upN n).flatMap fun b => (upN n).map fun c => [a, b, c]
def nodupB : List Int → Bool
  | [] => true
  | a :: r => (!r.contains a) && nodupB r
theorem th7 : nodupB ((tri 7).map tHash) = true := by decide +kernel
theorem nodupB_ok : ∀ {l : List Int}, nodupB l = true → l.Nodup
  | [], _ => List.nodup_nil
  | a :: r, h => by
    unfold nodupB at h
    rw [Bool.and_eq_true] at h
    refine List.nodup_cons.mpr ⟨fun hm => ?_, nodupB_ok h.2⟩
    have : r.contains a = true := by simpa using hm
    rw [this] at h
    cases h.1
end L2
namespace TT
open PySem PySem.Spec L2
theorem mem_upN {n : Nat} {a : Int} : a ∈ upN n ↔ 0 ≤ a ∧ a < n := by
  unfold upN
  rw [List.mem_map]
  constructor
  · rintro ⟨k, hk, rfl⟩
    rw [List.mem_range] at hk
    exact ⟨Int.natCast_nonneg k, Int.ofNat_lt.mpr hk⟩
  · rintro ⟨h1, h2⟩
    exact ⟨a.toNat, by rw [List.mem_range]; omega, by show ((a.toNat : Nat) : Int) = a; omega⟩
/-- a place of a room of n -/
def inP (n : Nat) (p : List Int) : Prop := ∃ a b c : Int, p = [a, b, c] ∧ (0 ≤ a ∧ a < n) ∧ (0 ≤ b ∧ b < n) ∧ (0 ≤ c ∧ c < n)
theorem inP.of {n : Nat} {a b c : Int} (h1 : 0 ≤ a ∧ a < n) (h2 : 0 ≤ b ∧ b < n) (h3 : 0 ≤ c ∧ c < n) : inP n [a, b, c] := ⟨a, b, c, rfl, h1, h2, h3⟩
theorem mem_tri {n : Nat} {p : List Int} : p ∈ tri n ↔ inP n p := by
  unfold tri inP
  simp only [List.mem_flatMap, List.mem_map, mem_upN]
  constructor
  · rintro ⟨a, ha, b, hb, c, hc, rfl⟩
    exact ⟨a, b, c, rfl, ha, hb, hc⟩
  · rintro ⟨a, b, c, rfl, ha, hb, hc⟩
    exact ⟨a, ha, b, hb, c, hc, rfl⟩
theorem inP.mono {n m : Nat} (h : n ≤ m) {p : List Int} (hp : inP n p) : inP m p := by
  obtain ⟨a, b, c, rfl, h1, h2, h3⟩ := hp
  exact ⟨a, b, c, rfl, by omega, by omega, by omega⟩
theorem len_tri (n : Nat) : (tri n).length = n ^ 3 := by
  have h : ∀ {α : Type} (l : List Int) (f : Int → List α) (k : Nat), (∀ a, (f a).length = k) → (l.flatMap f).length = l.length * k := by
    intro α l f k hf
    induction l with
    | nil => simp
    | cons a l ih => rw [List.flatMap_cons, List.length_append, ih, hf, List.length_cons, Nat.succ_mul]; omega
  have hu : (upN n).length = n := by unfold upN; simp
  unfold tri
  rw [h _ _ (n * n) fun a => ?_, hu]
  · rw [Nat.pow_succ, Nat.pow_succ, Nat.pow_one, Nat.mul_assoc]
  · rw [h _ _ n fun b => ?_, hu]
    rw [List.length_map, hu]
theorem nodup_upN (n : Nat) : (upN n).Nodup := by
  unfold upN
  rw [List.nodup_iff_pairwise_ne, List.pairwise_map]
  exact List.nodup_range.imp fun h e => h (Int.ofNat.inj e)
theorem nodup_of_map {α β : Type} {f : α → β} : ∀ {l : List α}, (l.map f).Nodup → l.Nodup
  | [], _ => List.nodup_nil
  | a :: l, h => by
    rw [List.map_cons, List.nodup_cons] at h
    exact List.nodup_cons.mpr ⟨fun z => h.1 (List.mem_map_of_mem z), nodup_of_map h.2⟩
theorem inj_of_nodup {α β : Type} {f : α → β} : ∀ {l : List α}, (l.map f).Nodup → ∀ a ∈ l, ∀ b ∈ l, f a = f b → a = b
  | [], _, a, ha, _, _, _ => by simp at ha
  | x :: l, h, a, ha, b, hb, e => by
    rw [List.map_cons, List.nodup_cons] at h
    rcases List.mem_cons.mp ha with ea | ha'
    · rcases List.mem_cons.mp hb with eb | hb'
      · rw [ea, eb]
      · exact absurd (by rw [← ea, e]; exact List.mem_map_of_mem hb') h.1
    · rcases List.mem_cons.mp hb with eb | hb'
      · exact absurd (by rw [← eb, ← e]; exact List.mem_map_of_mem ha') h.1
      · exact inj_of_nodup h.2 a ha' b hb' e
theorem map_nodup {α β : Type} {f : α → β} : ∀ {l : List α}, (∀ a ∈ l, ∀ b ∈ l, f a = f b → a = b) → l.Nodup → (l.map f).Nodup
  | [], _, _ => List.nodup_nil
  | x :: l, h, n => by
    rw [List.nodup_cons] at n
    rw [List.map_cons, List.nodup_cons]
    refine ⟨fun z => ?_, map_nodup (fun a ha b hb => h a (List.mem_cons_of_mem _ ha) b (List.mem_cons_of_mem _ hb)) n.2⟩
    obtain ⟨y, hy, e⟩ := List.mem_map.mp z
    exact n.1 (h y (List.mem_cons_of_mem _ hy) x List.mem_cons_self e ▸ hy)
theorem tri7_nodup : ((tri 7).map tHash).Nodup := nodupB_ok th7
theorem hash_apart {ks : List (List Int)} (h : ∀ k ∈ ks, inP 7 k) (n : ks.Nodup) : (ks.map tHash).Nodup :=
  map_nodup (fun a ha b hb e => inj_of_nodup tri7_nodup a (mem_tri.mpr (h a ha)) b (mem_tri.mpr (h b hb)) e) n
/-- a table of worths -/
structure Tab (n : Nat) (kvs : List (List Int × D)) : Prop where
  n2 : 2 ≤ n
  n7 : n ≤ 7
  len : kvs.length = n ^ 3
  nd : (kvs.map (·.1)).Nodup
  key : ∀ kv ∈ kvs, inP n kv.1
  val : ∀ kv ∈ kvs, ∃ x y z : Int, kv.2 = .tup [.int x, .int y, .int z] ∧ (0 ≤ x ∧ x ≤ 1000) ∧ (0 ≤ y ∧ y ≤ 1000) ∧ (0 ≤ z ∧ z ≤ 1000)
  all : ∀ p, inP n p → (lookD kvs p).isSome = true
/-- the worth's numbers at a place -/
def tOf (kvs : List (List Int × D)) (p : List Int) (k : Nat) : Int := match lookD kvs p with
  | some (.tup xs) => match xs[k]? with
    | some (.int i) => i
    | _ => 0
  | _ => 0
def w3 (kvs : List (List Int × D)) (p : List Int) : D := .tup [.int (tOf kvs p 0), .int (tOf kvs p 1), .int (tOf kvs p 2)]
theorem lookD_mem {kvs : List (List Int × D)} {p : List Int} {d : D} (h : lookD kvs p = some d) : (p, d) ∈ kvs := by
  unfold lookD at h
  obtain ⟨⟨k, d'⟩, h1, rfl⟩ := Option.map_eq_some_iff.mp h
  have h2 := List.mem_of_find?_eq_some h1
  have h3 := List.find?_some h1
  simp only [decide_eq_true_eq] at h3
  rw [← h3]; exact h2
theorem Tab.look {n : Nat} {kvs : List (List Int × D)} (t : Tab n kvs) {p : List Int} (h : inP n p) : lookD kvs p = some (w3 kvs p) := by
  obtain ⟨d, hd⟩ := Option.isSome_iff_exists.mp (t.all p h)
  obtain ⟨x, y, z, e, _⟩ := t.val _ (lookD_mem hd)
  dsimp only at e
  subst e
  unfold w3 tOf
  rw [hd]
  rfl
theorem Tab.bd {n : Nat} {kvs : List (List Int × D)} (t : Tab n kvs) (p : List Int) (k : Nat) : 0 ≤ tOf kvs p k ∧ tOf kvs p k ≤ 1000 := by
  unfold tOf
  cases hd : lookD kvs p with
  | none => exact ⟨(by decide : (0 : Int) ≤ 0), (by decide : (0 : Int) ≤ 1000)⟩
  | some d =>
    obtain ⟨x, y, z, e, hx, hy, hz⟩ := t.val _ (lookD_mem hd)
    dsimp only at e
    subst e
    match k with
    | 0 => exact hx
    | 1 => exact hy
    | 2 => exact hz
    | k + 3 => exact ⟨(by decide : (0 : Int) ≤ 0), (by decide : (0 : Int) ≤ 1000)⟩
theorem Tab.hash {n : Nat} {kvs : List (List Int × D)} (t : Tab n kvs) : (kvs.map fun x => tHash x.1).Nodup := by
  have := hash_apart (ks := kvs.map (·.1)) (fun k hk => by
    obtain ⟨kv, hkv, rfl⟩ := List.mem_map.mp hk
    exact (t.key kv hkv).mono t.n7) t.nd
  rwa [List.map_map] at this
def stepOf (n : Nat) : Int := 60 / ((n : Int) - 1)
def gD (n : Nat) (kvs : List (List Int × D)) : D := .obj "Grid" [("knots", .int n), ("table", .dic kvs), ("step", .int (stepOf n))]
theorem step_ok {n : Nat} (h2 : 2 ≤ n) (h7 : n ≤ 7) : stepOf n * ((n : Int) - 1) = 60 ∧ 10 ≤ stepOf n ∧ stepOf n ≤ 60 := by
  unfold stepOf
  have : n = 2 ∨ n = 3 ∨ n = 4 ∨ n = 5 ∨ n = 6 ∨ n = 7 := by omega
  rcases this with rfl | rfl | rfl | rfl | rfl | rfl <;> decide
/-! cells -/
def sh3 (f : Nat → Rat) : D := .tup [sh (f 0), sh (f 1), sh (f 2)]
def far (n : Nat) (x : Rat) : Rat := x / (stepOf n : Rat)
/-- the least knot, one way -/
def low (n : Nat) (x : Rat) : Int := if (n : Int) - 2 < (far n x).floor then (n : Int) - 2 else (far n x).floor
def rest (n : Nat) (x : Rat) : Rat := far n x - (low n x : Rat)
theorem far_bd {n : Nat} (h2 : 2 ≤ n) (h7 : n ≤ 7) {x : Rat} (h0 : 0 ≤ x) (h1 : x ≤ 60) : 0 ≤ far n x ∧ far n x ≤ (n : Rat) - 1 := by
  obtain ⟨e, s1, s2⟩ := step_ok h2 h7
  have hs : (0 : Rat) < (stepOf n : Rat) := by
    have : (0 : Int) < stepOf n := by omega
    exact_mod_cast this
  have e' : (stepOf n : Rat) * ((n : Rat) - 1) = 60 := by
    have := congrArg (fun z : Int => (z : Rat)) e
    simpa [Rat.intCast_natCast] using this
  unfold far
  constructor
  · rw [Rat.div_def]
    exact Rat.mul_nonneg h0 (Rat.le_of_lt (Rat.inv_pos.mpr hs))
  · refine Rat.not_lt.mp fun hc => ?_
    have h3 : 0 < (x / (stepOf n : Rat) - ((n : Rat) - 1)) * (stepOf n : Rat) := Rat.mul_pos (by grind) hs
    have h4 : x / (stepOf n : Rat) * (stepOf n : Rat) = x := Rat.div_mul_cancel (by grind)
    grind
theorem low_bd {n : Nat} (h2 : 2 ≤ n) (h7 : n ≤ 7) {x : Rat} (h0 : 0 ≤ x) (h1 : x ≤ 60) : 0 ≤ low n x ∧ low n x ≤ (n : Int) - 2 := by
  obtain ⟨a, b⟩ := far_bd h2 h7 h0 h1
  have hf : 0 ≤ (far n x).floor := Rat.le_floor_iff.mpr (by exact_mod_cast a)
  unfold low
  split <;> omega
end TT

section
set_option maxRecDepth 100000
set_option linter.all false
set_option autoImplicit false
local macro_rules | `(tactic| fail "x") => `(tactic| first | with_reducible assumption | fail)
local macro_rules | `(tactic| fail "x") => `(tactic| first | with_reducible done | fail)
local macro_rules | `(tactic| fail "x") => `(tactic| first | with_reducible refine TT.x_isint (by with_unfolding_all rfl) ?_ | fail)
local macro_rules | `(tactic| fail "x") => `(tactic| first | with_reducible refine TT.x_pick (by with_unfolding_all rfl) (by with_unfolding_all rfl) ?_ | fail)
local macro_rules | `(tactic| fail "x") => `(tactic| first | with_reducible refine TT.x_draw (by with_unfolding_all omega) (by with_unfolding_all omega) ?_ | fail)
local macro_rules | `(tactic| fail "x") => `(tactic| first | with_reducible refine TT.x_share (by with_unfolding_all omega) ?_ | fail)
local macro_rules | `(tactic| fail "x") => `(tactic| first | with_reducible refine TT.x_lowest (by with_unfolding_all omega) ?_ ?_ | fail)
local macro_rules | `(tactic| fail "x") => `(tactic| first | with_reducible refine TT.x_lby (by with_unfolding_all omega) ?_ ?_ | fail)
local macro_rules | `(tactic| fail "x") => `(tactic| first | with_reducible refine TT.x_by (by with_unfolding_all omega) ?_ ?_ | fail)
local macro_rules | `(tactic| fail "x") => `(tactic| first | with_reducible refine TT.x_below (by with_unfolding_all omega) ?_ | fail)
local macro_rules | `(tactic| fail "x") => `(tactic| first | with_reducible refine TT.x_less (by with_unfolding_all omega) ?_ | fail)
local macro_rules | `(tactic| fail "x") => `(tactic| first | with_reducible refine TT.x_lless (by with_unfolding_all omega) ?_ | fail)
local macro_rules | `(tactic| fail "x") => `(tactic| first | with_reducible refine TT.x_minus (by with_unfolding_all omega) ?_ | fail)
local macro_rules | `(tactic| fail "x") => `(tactic| first | with_reducible refine TT.x_times (by with_unfolding_all omega) ?_ | fail)
local macro_rules | `(tactic| fail "x") => `(tactic| first | with_reducible refine TT.x_plus (by with_unfolding_all omega) ?_ | fail)
local macro_rules | `(tactic| fail "x") => `(tactic| first | with_reducible refine TT.x_isisq (by with_unfolding_all rfl) ?_ | fail)
local macro_rules | `(tactic| fail "x") => `(tactic| first | with_reducible refine TT.x_isiq (by with_unfolding_all rfl) ?_ | fail)
local macro_rules | `(tactic| fail "x_13") => `(tactic| first | with_reducible refine TT.x_cutR (by omega) ?_ | fail)
local macro_rules | `(tactic| fail "x_13") => `(tactic| first | with_reducible refine TT.x_cutL (by omega) ?_ | fail)
local macro_rules | `(tactic| fail "x") => `(tactic| first | (with_reducible show TT.op2 _ _ _ _; fail "x_13") | fail)
local macro_rules | `(tactic| fail "x") => `(tactic| first | with_reducible refine TT.x_suL (by omega) (by first | with_unfolding_all decide | omega) ?_ | fail)
local macro_rules | `(tactic| fail "x_11") => `(tactic| first | with_reducible refine TT.x_eI ?_ | fail)
local macro_rules | `(tactic| fail "x_11") => `(tactic| first | with_reducible refine TT.x_kq3 ?_ | fail)
local macro_rules | `(tactic| fail "x") => `(tactic| first | (with_reducible show ∃ _, _; fail "x_11") | fail)
local macro_rules | `(tactic| fail "x") => `(tactic| first | with_reducible refine TT.x_lrng (by omega) ?_ | fail)
local macro_rules | `(tactic| fail "x") => `(tactic| first | with_reducible refine TT.x_rg (by omega) (by omega) ?_ | fail)
local macro_rules | `(tactic| fail "x_8") => `(tactic| first | with_reducible refine TT.x_mod ?_ ?_ | fail)
local macro_rules | `(tactic| fail "x_8") => `(tactic| first | with_reducible refine TT.x_fdiv ?_ ?_ | fail)
local macro_rules | `(tactic| fail "x_8") => `(tactic| first | with_reducible refine TT.x_mul ?_ ?_ | fail)
local macro_rules | `(tactic| fail "x_8") => `(tactic| first | with_reducible refine TT.x_catT (by with_unfolding_all rfl) ?_ | fail)
local macro_rules | `(tactic| fail "x_8") => `(tactic| first | with_reducible refine TT.x_catL (by with_unfolding_all rfl) ?_ | fail)
local macro_rules | `(tactic| fail "x_8") => `(tactic| first | with_reducible refine TT.x_fdiv' ?_ (by with_unfolding_all omega) ?_ | fail)
local macro_rules | `(tactic| fail "x_8") => `(tactic| first | with_reducible refine TT.x_mul' (by with_unfolding_all omega) ?_ | fail)
local macro_rules | `(tactic| fail "x") => `(tactic| first | (with_reducible show TT.opB _ _ _ _; fail "x_8") | fail)
local macro_rules | `(tactic| fail "x_7") => `(tactic| first | with_reducible refine TT.x_ne (by with_unfolding_all rfl) (by with_unfolding_all rfl) ?_ | fail)
local macro_rules | `(tactic| fail "x_7") => `(tactic| first | with_reducible refine TT.x_eq (by with_unfolding_all rfl) (by with_unfolding_all rfl) ?_ | fail)
local macro_rules | `(tactic| fail "x_7") => `(tactic| first | with_reducible refine TT.x_ge ?_ | fail)
local macro_rules | `(tactic| fail "x_7") => `(tactic| first | with_reducible refine TT.x_gt ?_ | fail)
local macro_rules | `(tactic| fail "x_7") => `(tactic| first | with_reducible refine TT.x_le' ?_ | fail)
local macro_rules | `(tactic| fail "x_7") => `(tactic| first | with_reducible refine TT.x_lt ?_ | fail)
local macro_rules | `(tactic| fail "x_7") => `(tactic| first | with_reducible refine TT.x_neS ?_ | fail)
local macro_rules | `(tactic| fail "x_7") => `(tactic| first | with_reducible refine TT.x_eqS ?_ | fail)
local macro_rules | `(tactic| fail "x_7") => `(tactic| first | with_reducible refine TT.x_neI ?_ | fail)
local macro_rules | `(tactic| fail "x_7") => `(tactic| first | with_reducible refine TT.x_eqI ?_ | fail)
local macro_rules | `(tactic| fail "x_7") => `(tactic| first | with_reducible refine TT.x_neN (by first | with_unfolding_all rfl | assumption) ?_ | fail)
local macro_rules | `(tactic| fail "x_7") => `(tactic| first | with_reducible refine TT.x_eqN (by first | with_unfolding_all rfl | assumption) ?_ | fail)
local macro_rules | `(tactic| fail "x_7") => `(tactic| first | with_reducible refine TT.x_neR (by first | with_unfolding_all rfl | assumption) ?_ | fail)
local macro_rules | `(tactic| fail "x_7") => `(tactic| first | with_reducible refine TT.x_eqR (by first | with_unfolding_all rfl | assumption) ?_ | fail)
local macro_rules | `(tactic| fail "x") => `(tactic| first | (with_reducible show TT.opC _ _ _ _; fail "x_7") | fail)
local macro_rules | `(tactic| fail "x_6") => `(tactic| first | with_reducible refine TT.x_le (by with_unfolding_all rfl) ?_ | fail)
local macro_rules | `(tactic| fail "x_6") => `(tactic| first | with_reducible refine TT.x_insq (by omega) (by omega) (by with_unfolding_all rfl) ?_ | fail)
local macro_rules | `(tactic| fail "x") => `(tactic| first | (with_reducible show _ ∧ _; fail "x_6") | fail)
local macro_rules | `(tactic| fail "x_5") => `(tactic| first | with_reducible refine TT.x_ndf (by first | assumption | decide | omega) ?_ | fail)
local macro_rules | `(tactic| fail "x_5") => `(tactic| first | with_reducible refine TT.x_ndt (by first | assumption | decide | omega) ?_ | fail)
local macro_rules | `(tactic| fail "x_5") => `(tactic| first | with_reducible refine TT.x_df (by first | assumption | decide | omega) ?_ | fail)
local macro_rules | `(tactic| fail "x_5") => `(tactic| first | with_reducible refine TT.x_dt (by first | assumption | decide | omega) ?_ | fail)
local macro_rules | `(tactic| fail "x_5") => `(tactic| first | with_reducible refine TT.x_len3 (by with_unfolding_all rfl) ?_ | fail)
local macro_rules | `(tactic| fail "x") => `(tactic| first | (with_reducible show TT.IF _ _ _; fail "x_5") | fail)
local macro_rules | `(tactic| fail "x_4") => `(tactic| first | with_reducible refine TT.x_appL (by with_unfolding_all rfl) ?_ | fail)
local macro_rules | `(tactic| fail "x_4") => `(tactic| first | with_reducible refine TT.x_fldL (by with_unfolding_all rfl) (by with_unfolding_all rfl) (by with_unfolding_all rfl) ?_ | fail)
local macro_rules | `(tactic| fail "x_4") => `(tactic| first | with_reducible refine TT.x_fld (by with_unfolding_all rfl) (by with_unfolding_all rfl) ?_ | fail)
local macro_rules | `(tactic| fail "x_4") => `(tactic| first | with_reducible refine TT.x_nil ?_ | fail)
local macro_rules | `(tactic| fail "x_4") => `(tactic| first | with_reducible refine TT.x_pass ?_ | fail)
local macro_rules | `(tactic| fail "x_4") => `(tactic| first | with_reducible refine TT.x_raise ?_ | fail)
local macro_rules | `(tactic| fail "x_4") => `(tactic| first | with_reducible refine TT.x_for ?_ | fail)
local macro_rules | `(tactic| fail "x_4") => `(tactic| first | with_reducible refine TT.x_ifs ?_ | fail)
local macro_rules | `(tactic| fail "x_4") => `(tactic| first | with_reducible refine TT.x_retV (by with_unfolding_all rfl) ?_ | fail)
local macro_rules | `(tactic| fail "x_4") => `(tactic| first | with_reducible refine TT.x_retO (by with_unfolding_all rfl) ?_ | fail)
local macro_rules | `(tactic| fail "x_4") => `(tactic| first | with_reducible refine TT.x_retN ?_ | fail)
local macro_rules | `(tactic| fail "x_4") => `(tactic| first | with_reducible refine TT.x_ret ?_ | fail)
local macro_rules | `(tactic| fail "x_4") => `(tactic| first | with_reducible refine TT.x_app (by with_unfolding_all rfl) ?_ | fail)
local macro_rules | `(tactic| fail "x_4") => `(tactic| first | with_reducible refine TT.x_expr ?_ | fail)
local macro_rules | `(tactic| fail "x_4") => `(tactic| first | with_reducible refine TT.x_tgt ?_ | fail)
local macro_rules | `(tactic| fail "x_4") => `(tactic| first | with_reducible refine TT.x_par3 ?_ | fail)
local macro_rules | `(tactic| fail "x_4") => `(tactic| first | with_reducible refine TT.x_par ?_ | fail)
local macro_rules | `(tactic| fail "x_4") => `(tactic| first | with_reducible refine TT.x_setv ?_ | fail)
local macro_rules | `(tactic| fail "x_4") => `(tactic| first | with_reducible refine TT.x_set ?_ | fail)
local macro_rules | `(tactic| fail "x_4") => `(tactic| first | with_reducible refine TT.x_frz (by with_unfolding_all rfl) ?_ | fail)
local macro_rules | `(tactic| fail "x_4") => `(tactic| first | with_reducible refine TT.x_loop ?_ | fail)
local macro_rules | `(tactic| fail "x_4") => `(tactic| first | with_reducible refine TT.x_ins (by with_unfolding_all rfl) ?_ | fail)
local macro_rules | `(tactic| fail "x_4") => `(tactic| first | with_reducible refine TT.x_augD (by with_unfolding_all rfl) ?_ | fail)
local macro_rules | `(tactic| fail "x_4") => `(tactic| first | with_reducible refine TT.x_augU (by with_unfolding_all rfl) ?_ | fail)
local macro_rules | `(tactic| fail "x_4") => `(tactic| first | with_reducible refine TT.x_sub' (by with_unfolding_all rfl) ?_ | fail)
local macro_rules | `(tactic| fail "x") => `(tactic| first | (with_reducible show TT.BB _ _ _ _; fail "x_4") | fail)
local macro_rules | `(tactic| fail "x_3") => `(tactic| first | with_reducible refine TT.x_ixL (by with_unfolding_all rfl) ?_ | fail)
local macro_rules | `(tactic| fail "x_3") => `(tactic| first | with_reducible refine TT.x_ixT (by with_unfolding_all rfl) ?_ | fail)
local macro_rules | `(tactic| fail "x_3") => `(tactic| first | with_reducible refine TT.x_ix1 ?_ | fail)
local macro_rules | `(tactic| fail "x_3") => `(tactic| first | with_reducible refine TT.x_ix0 ?_ | fail)
local macro_rules | `(tactic| fail "x") => `(tactic| first | (with_reducible show TT.opIx _ _ _; fail "x_3") | fail)
local macro_rules | `(tactic| fail "x") => `(tactic| first | with_reducible refine TT.x_acons (by with_unfolding_all rfl) ?_ | fail)
local macro_rules | `(tactic| fail "x_1") => `(tactic| first | with_reducible refine TT.x_selfL (by with_unfolding_all rfl) ?_ | fail)
local macro_rules | `(tactic| fail "x_1") => `(tactic| first | with_reducible refine TT.x_varP (by with_unfolding_all rfl) ?_ | fail)
local macro_rules | `(tactic| fail "x_1") => `(tactic| first | with_reducible refine TT.x_varB (by with_unfolding_all rfl) ?_ | fail)
local macro_rules | `(tactic| fail "x_1") => `(tactic| first | with_reducible refine TT.x_varO (by with_unfolding_all rfl) ?_ | fail)
local macro_rules | `(tactic| fail "x_1") => `(tactic| first | with_reducible refine TT.x_var (by with_unfolding_all rfl) ?_ | fail)
local macro_rules | `(tactic| fail "x") => `(tactic| first | (with_reducible show TT.EE _ _ _ _; fail "x_1") | fail)
local macro_rules | `(tactic| fail "x") => `(tactic| first | with_reducible refine TT.Rul.h ?_ | fail)

set_option Elab.async false
set_option linter.all false
set_option maxRecDepth 100000
set_option autoImplicit false
set_option maxHeartbeats 1000000
namespace TT
open PySem PySem.Spec L2
/-! ### grids: places, orders, parts -/
def isW (lo hi : Int) : D → Bool
  | .int x => decide (lo ≤ x ∧ x ≤ hi)
  | _ => false
@[irreducible] def S_is_whole : DS := fun ds q _ => ∃ d, ∃ lo hi : Int, ds = [d, .int lo, .int hi] ∧ basic d = true ∧ q (.v (.bl (isW lo hi d)))
@[irreducible] def S_all_places : DS := fun ds q _ => ∃ n : Nat, ds = [.int n] ∧ n ≤ 10 ∧ q (.own (.lst ((tri n).map .key)))
/-- the ways, the one farthest first -/
def ordr (r : Nat → Rat) : Nat × Nat × Nat := if r 0 < r 1 then (if r 1 < r 2 then (2, 1, 0) else if r 0 < r 2 then (1, 2, 0) else (1, 0, 2)) else (if r 0 < r 2 then (2, 0, 1) else if r 1 < r 2 then (0, 2, 1) else (0, 1, 2))
def ordD (o : Nat × Nat × Nat) : D := .lst [.int o.1, .int o.2.1, .int o.2.2]
def lst3 (r : Nat → Rat) : D := .lst [sh (r 0), sh (r 1), sh (r 2)]
def rowD (p : List Int × Rat) : D := .tup [.tup (p.1.map .int), sh p.2]
def rowK (p : List Int × Rat) : D := .tup [.key p.1, sh p.2]
def four (r : Nat → Rat) (o : Nat × Nat × Nat) : List (List Int × Rat) := [([0, 0, 0], ((1 : Int) : Rat) - r o.1), ([0, 0, 0].set o.1 1, r o.1 - r o.2.1), (([0, 0, 0].set o.1 1).set o.2.1 1, r o.2.1 - r o.2.2), ((([0, 0, 0].set o.1 1).set o.2.1 1).set o.2.2 1, r o.2.2 - ((0 : Int) : Rat))]
def side (r : Rat) (i : Int) : Rat := if i = 1 then r else ((1 : Int) : Rat) - r
def eight (r : Nat → Rat) : List (List Int × Rat) := (tri 2).map fun p => (p, ((1 : Int) : Rat) * side (r 0) (p.getD 0 0) * side (r 1) (p.getD 1 0) * side (r 2) (p.getD 2 0))
@[irreducible] def S_falling : DS := fun ds q _ => ∃ (r : Nat → Rat) (n : Nat), ds = [lst3 r] ∧ (RSz n (r 0) ∧ RSz n (r 1) ∧ RSz n (r 2)) ∧ n ≤ 2000 ∧ q (.own (ordD (ordr r)))
@[irreducible] def S_four_parts : DS := fun ds q _ => ∃ (r : Nat → Rat) (n : Nat), ds = [lst3 r] ∧ (RSz n (r 0) ∧ RSz n (r 1) ∧ RSz n (r 2)) ∧ n ≤ 2000 ∧ q (.own (.lst ((four r (ordr r)).map rowD)))
@[irreducible] def S_eight_parts : DS := fun ds q _ => ∃ (r : Nat → Rat) (n : Nat), ds = [lst3 r] ∧ (RSz n (r 0) ∧ RSz n (r 1) ∧ RSz n (r 2)) ∧ n ≤ 2000 ∧ q (.own (.lst ((eight r).map rowK)))
/- is_whole(3): 0 1 2 -/
def B_is_whole : List Sx := [
  .ret (.ands [.isi (.var 0) .int, .not (.isi (.var 0) .bool), .chain .le .le (.var 1) (.var 0) (.var 2)])]
/- all_places(1): 0 1 2 3 4 -/
def B_all_places : List Sx := [
  .setv 1 (.p1 .lrng (.var 0)),
  .ret (.comp3 [("one", 2), ("two", 3), ("three", 4)] (.nm 2) (.seq (.var 1)) none (.nm 3) (.seq (.var 1)) none (.nm 4) (.seq (.var 1)) none (.keyt [.var 2, .var 3, .var 4]))]
/- falling(1): 0 1 2 3 -/
def B_falling : List Sx := [
  .set 1 (.lst []),
  .forr (.nm 2) (.rng (.int 3)) [.setv 3 (.int 0), .loop (.ands [.cmp .lt (.var 3) (.blt .len [.var 1]), .not (.call "is_less" [false, false] S_is_less [] [.ix (.var 0) (.ix (.var 1) (.var 3)), .ix (.var 0) (.var 2)])]) [.aug 3 true (.int 1)], .insr 1 (.var 3) (.var 2)],
  .retO 1]
/- four_parts(1): 0 1 2 3 4 5 -/
def B_four_parts : List Sx := [
  .setv 1 (.call "falling" [false] S_falling [] [.var 0]),
  .set 2 (.lst [.int 0, .int 0, .int 0]),
  .set 3 (.lst [.tup [.tup [.int 0, .int 0, .int 0], .call "minus" [false, false] S_minus [] [.glb "ONE" (.tup [.int 1, .int 1]), .ix (.var 0) (.ix (.var 1) (.int 0))]]]),
  .forr (.nm 4) (.rng (.int 3)) [.sub 2 (.ix (.var 1) (.var 4)) (.int 1), .setv 5 (.ite (.cmp .lt (.var 4) (.int 2)) (.ix (.var 0) (.ix (.var 1) (.bin .add (.var 4) (.int 1)))) (.tup [.int 0, .int 1])), .app 3 (.tup [.blt .tuple [.var 2], .call "minus" [false, false] S_minus [] [.ix (.var 0) (.ix (.var 1) (.var 4)), .var 5]])],
  .retO 3]
/- eight_parts(1): 0 1 2 3 4 -/
def B_eight_parts : List Sx := [
  .set 1 (.lst []),
  .forr (.nm 2) (.seq (.call "all_places" [false] S_all_places [] [.int 2])) [.setv 3 (.glb "ONE" (.tup [.int 1, .int 1])), .forr (.nm 4) (.rng (.int 3)) [.setv 3 (.call "times" [false, false] S_times [] [.var 3, .ite (.cmp .eq (.ix (.p1 .unk (.var 2)) (.var 4)) (.int 1)) (.ix (.var 0) (.var 4)) (.call "minus" [false, false] S_minus [] [.glb "ONE" (.tup [.int 1, .int 1]), .ix (.var 0) (.var 4)])])], .app 1 (.tup [.var 2, .var 3])],
  .retO 1]

theorem x_wholeD {d : D} {lo hi : Int} {q : DV → Prop} {Ed : Str → Prop} (hb : basic d = true) (hq : q (.v (.bl (isW lo hi d)))) : S_is_whole [d, .int lo, .int hi] q Ed := by unfold S_is_whole; exact ⟨d, lo, hi, rfl, hb, hq⟩
theorem x_whole {x lo hi : Int} {q : DV → Prop} {Ed : Str → Prop} (hq : q (.v (.bl (decide (lo ≤ x ∧ x ≤ hi))))) : S_is_whole [.int x, .int lo, .int hi] q Ed := x_wholeD rfl hq
theorem vc_is_whole : VC 3 [false, false, false] S_is_whole B_is_whole := by
  intro ds q Ed hl h
  unfold S_is_whole at h
  obtain ⟨d, lo, hi, rfl, hb, h⟩ := h
  cases d <;> try first | exact h | (simp [basic, tyD] at hb; done)
  rename_i x
  have e0 : isW lo hi (.int x) = decide (lo ≤ x ∧ x ≤ hi) := rfl
  rw [e0] at h
  refine BB.of ?_
  unfold B_is_whole
  repeat' fail "x"
  · refine x_bi (fun e => ?_) (fun e => ?_)
    · repeat' fail "x"
      simpa [of_decide_eq_true e] using h
    · repeat' fail "x"
      simpa [of_decide_eq_false e] using h
theorem x_comp3 {Ed : Str → Prop} {δ : Sl} {q : DV → Prop} {own : List (Str × Nat)} {t t1 t2 : Tg} {it it1 it2 : Itx} {o o1 o2 : Option Ex} {e : Ex} (hq : nextD (fun δ q => II true (fun _ => False) it δ q) t (wO (fun _ => False) o) (nextD (fun δ q => II false (fun _ => False) it1 δ q) t1 (wO (fun _ => False) o1) (nextD (fun δ q => II false (fun _ => False) it2 δ q) t2 (wO (fun _ => False) o2) (lastD (fun δ q => EE (fun _ => False) e δ fun dv => CM false dv q)) t2.slots) (t1.slots ++ t2.slots)) (own.map (·.2)) δ [] (fun acc => q (.own (.lst acc)))) : EE Ed (.comp3 own t it o t1 it1 o1 t2 it2 o2 e) δ q := by
  unfold EE II CM at *
  exact hq
theorem rngD_up (n : Nat) : rngD 0 n = (upN n).map .int := by
  rw [rngD_map]
  unfold upN
  rw [List.map_map]
  rfl
theorem last_map {we : Sl → (D → Prop) → Prop} {δ : Sl} {d : D} {acc : List D} {k : List D → Prop} (h : ∀ P : D → Prop, P d → we δ P) (hl : acc.length ≤ 1000000) (hk : k (acc ++ [d])) : lastD we δ acc k := h _ ⟨hl, hk⟩
theorem next_map {α : Type} {δ : Sl} {i : Nat} {wi : Sl → (List D → Prop) → Prop} {bd : Sl → List D → (List D → Prop) → Prop} {vs : List Nat} {F : Str → Prop} {acc : List D} {k : List D → Prop} (f : α → D) (R : α → List D) {l : List α} (hi : ∀ P : List D → Prop, P (l.map f) → wi δ P)
    (hb : ∀ a ∈ l, ∀ acc (k : List D → Prop), acc.length + (R a).length ≤ 1000000 → k (acc ++ R a) → bd ((wipeD δ vs).set i (some (.v (f a)))) acc k) (hl : acc.length + (l.flatMap R).length ≤ 1000000) (hk : k (acc ++ l.flatMap R)) : nextD wi (.nm i) (wO F none) bd vs δ acc k := by
  unfold nextD
  exact hi _ (turnsD_map f R hb hl hk)
theorem fm1 {α β : Type} (f : α → β) (l : List α) : (l.flatMap fun c => [f c]) = l.map f := by induction l <;> simp_all
theorem vc_all_places : VC 5 [false] S_all_places B_all_places := by
  intro ds q Ed hl h
  unfold S_all_places at h
  obtain ⟨n, rfl, hn, h⟩ := h
  have h3 : (tri n).length ≤ 1000 := by
    rw [len_tri]
    have := Nat.pow_le_pow_left hn 3
    omega
  refine BB.of ?_
  unfold B_all_places
  repeat' fail "x"
  refine x_comp3 ?_
  refine next_map (l := upN n) .int (fun a => (upN n).flatMap fun b => (upN n).map fun c => .key [a, b, c]) (fun P hP => ?_) (fun a ha acc k hl hk => ?_) ?_ ?_
  · repeat' fail "x"
    rw [rngD_up]; exact hP
  · refine next_map (l := upN n) .int (fun b => (upN n).map fun c => .key [a, b, c]) (fun P hP => ?_) (fun b hb acc k hl hk => ?_) hl hk
    · repeat' fail "x"
      rw [rngD_up]; exact hP
    · refine next_map (l := upN n) .int (fun c => [.key [a, b, c]]) (fun P hP => ?_) (fun c hc acc k hl hk => ?_) ?_ ?_
      · repeat' fail "x"
        rw [rngD_up]; exact hP
      · refine last_map (fun P hP => ?_) (by omega) hk
        repeat' fail "x"
        all_goals exact hP
      · rw [fm1]; exact hl
      · rw [fm1]; exact hk
  · have e : ((upN n).flatMap fun a => (upN n).flatMap fun b => (upN n).map fun c => D.key [a, b, c]) = (tri n).map .key := by
      unfold tri
      simp only [List.map_flatMap, List.map_map]
      rfl
    rw [e, List.length_map]
    simp
    omega
  · have e : ((upN n).flatMap fun a => (upN n).flatMap fun b => (upN n).map fun c => D.key [a, b, c]) = (tri n).map .key := by
      unfold tri
      simp only [List.map_flatMap, List.map_map]
      rfl
    rw [e, List.nil_append]
    repeat' fail "x"
    all_goals exact h
theorem atI_map {α : Type} (f : α → D) (l : List α) (i : Nat) (h : i < l.length) : atI (l.map f) (i : Int) = some (f l[i]) := by
  unfold atI
  rw [ixN_pos (by rw [List.length_map]; exact h)]
  simp [h]
theorem x_ix3 {r : Nat → Rat} {f : Nat} {q : DV → Prop} (h : f < 3) (hq : q (.v (sh (r f)))) : opIx (.lst [sh (r 0), sh (r 1), sh (r 2)]) (.int f) q := by
  have : f = 0 ∨ f = 1 ∨ f = 2 := by omega
  rcases this with rfl | rfl | rfl <;> exact x_ixL rfl hq
theorem x_ixm {α : Type} {f : α → D} {l : List α} {i : Nat} {q : DV → Prop} (h : i < l.length) (hq : q (.v (f l[i]))) : opIx (.lst (l.map f)) (.int i) q := x_ixL (atI_map f l i h) hq
/-- a way's place among those that stand there -/
def insO (r : Nat → Rat) (k : Nat) (l : List Nat) : List Nat := l.takeWhile (fun f => !decide (r f < r k)) ++ [k] ++ l.dropWhile (fun f => !decide (r f < r k))
theorem insO_at {r : Nat → Rat} {k : Nat} : ∀ {l : List Nat} {j : Nat}, j ≤ l.length → (∀ i, (h : i < l.length) → i < j → ¬ r l[i] < r k) → (∀ h : j < l.length, r l[j] < r k) → l.take j ++ [k] ++ l.drop j = insO r k l
  | [], j, hj, _, _ => by
    have : j = 0 := by simpa using hj
    subst this; rfl
  | x :: l, 0, _, _, h2 => by
    have : r x < r k := h2 (by simp)
    simp [insO, List.takeWhile_cons, List.dropWhile_cons, this]
  | x :: l, j + 1, hj, h1, h2 => by
    have hx : ¬ r x < r k := h1 0 (by simp) (by omega)
    have ih := insO_at (r := r) (k := k) (l := l) (j := j) (by simpa using hj) (fun i h hi => by
      have := h1 (i + 1) (by simpa using h) (by omega)
      simpa using this) (fun h => by
      have := h2 (by simpa using h)
      simpa using this)
    unfold insO at ih ⊢
    simp only [List.takeWhile_cons, List.dropWhile_cons, hx, decide_false, Bool.not_false, if_true, List.take_succ_cons, List.drop_succ_cons, List.cons_append]
    rw [ih]
abbrev nI (k : Nat) : D := .int k
theorem fall_turn {Ed : Str → Prop} {kr : DV → Prop} {kb kc nx : Sl → Prop} {r : Nat → Rat} {n : Nat} (hr : ∀ f, f < 3 → RSz n (r f)) (hn : n ≤ 2000) {l : List Nat} (hl : l.length ≤ 3) (hf : ∀ f ∈ l, f < 3) {k : Nat} (hk : k < 3) {x3 : Option DV}
    (h : ∀ j : Nat, nx [some (.v (.lst [sh (r 0), sh (r 1), sh (r 2)])), some (.own (.lst ((insO r k l).map nI))), some (.v (.int k)), some (.v (.int j))]) :
    BB Ed [.setv 3 (.int 0), .loop (.ands [.cmp .lt (.var 3) (.blt .len [.var 1]), .not (.call "is_less" [false, false] S_is_less [] [.ix (.var 0) (.ix (.var 1) (.var 3)), .ix (.var 0) (.var 2)])]) [.aug 3 true (.int 1)], .insr 1 (.var 3) (.var 2)] ⟨nx, kr, kb, kc⟩ [some (.v (.lst [sh (r 0), sh (r 1), sh (r 2)])), some (.own (.lst (l.map nI))), some (.v (.int k)), x3] := by
  repeat' fail "x"
  refine x_wh (fun m δ => ∃ j : Nat, j ≤ l.length ∧ m = l.length - j ∧ (∀ i, (h : i < l.length) → i < j → ¬ r l[i] < r k) ∧ δ = [some (.v (.lst [sh (r 0), sh (r 1), sh (r 2)])), some (.own (.lst (l.map nI))), some (.v (.int k)), some (.v (.int j))]) l.length ⟨0, Nat.zero_le _, rfl, fun i _ hi => by omega, rfl⟩ ?_
  rintro m δ ⟨j, hj, rfl, hp, rfl⟩ nx2 hnx
  have fin : (∀ h : j < l.length, r l[j] < r k) → nx ([some (.v (.lst [sh (r 0), sh (r 1), sh (r 2)])), some (.own (.lst (l.map nI))), some (.v (.int k)), some (.v (.int j))].set 1 (some (.own (.lst ((l.map nI).take (j : Int).toNat ++ [.int k] ++ (l.map nI).drop (j : Int).toNat))))) := fun h2 => by
    have e := insO_at (r := r) (k := k) hj hp h2
    have := h j
    rw [← e] at this
    simpa [nI] using this
  have b1 : (0 ≤ (j : Int) ∧ (j : Int) ≤ 1000000 ∧ (l.map nI).length ≤ 1000000) := ⟨by omega, by omega, by rw [List.length_map]; omega⟩
  repeat' fail "x"
  rw [List.length_map]
  by_cases hjl : j < l.length
  · have hlj : l[j] < 3 := hf _ (List.getElem_mem _)
    have i1 : RB (r l[j]) n := ⟨hr _ hlj⟩
    have i2 : RB (r k) n := ⟨hr _ hk⟩
    repeat' first | fail "x" | with_reducible refine x_ixm hjl ?_ | with_reducible refine x_ix3 hlj ?_ | with_reducible refine x_ix3 hk ?_
    refine x_dn (fun hlt => ?_) (fun hlt => ?_)
    · repeat' fail "x"
      refine ⟨b1, ?_⟩
      repeat' fail "x"
      exact fin fun _ => hlt
    · repeat' fail "x"
      refine hnx (l.length - (j + 1)) _ (by omega) ⟨j + 1, hjl, rfl, fun i h hi => ?_, rfl⟩
      by_cases e : i = j
      · subst e; exact hlt
      · exact hp i h (by omega)
  · refine x_df (by omega) ?_
    repeat' fail "x"
    refine ⟨b1, ?_⟩
    repeat' fail "x"
    exact fin fun h => absurd h hjl
theorem insO_mem {r : Nat → Rat} {k : Nat} {l : List Nat} (hk : k < 3) (hf : ∀ f ∈ l, f < 3) : ∀ f ∈ insO r k l, f < 3 := by
  intro f h
  unfold insO at h
  simp only [List.mem_append, List.mem_singleton] at h
  rcases h with (h | rfl) | h
  · exact hf f (List.takeWhile_subset _ h)
  · exact hk
  · exact hf f (List.dropWhile_subset _ h)
theorem insO_len {r : Nat → Rat} {k : Nat} {l : List Nat} : (insO r k l).length = l.length + 1 := by
  unfold insO
  have := congrArg List.length (List.takeWhile_append_dropWhile (p := fun f => !decide (r f < r k)) (l := l))
  simp only [List.length_append, List.length_cons, List.length_nil] at this ⊢
  omega
theorem ord_ins (r : Nat → Rat) : insO r 2 (insO r 1 (insO r 0 [])) = [(ordr r).1, (ordr r).2.1, (ordr r).2.2] := by
  unfold ordr
  by_cases h1 : r 0 < r 1 <;> by_cases h2 : r 1 < r 2 <;> by_cases h3 : r 0 < r 2 <;> simp [insO, List.takeWhile_cons, List.dropWhile_cons, h1, h2, h3]
theorem vc_falling : VC 4 [false] S_falling B_falling := by
  intro ds q Ed hl h
  unfold S_falling at h
  obtain ⟨r, n, rfl, ⟨h0, h1, h2⟩, hn, h⟩ := h
  have hr : ∀ f, f < 3 → RSz n (r f) := fun f hf => by
    have : f = 0 ∨ f = 1 ∨ f = 2 := by omega
    rcases this with rfl | rfl | rfl <;> assumption
  unfold lst3
  refine BB.of ?_
  unfold B_falling
  repeat' fail "x"
  have l0 : ∀ f ∈ ([] : List Nat), f < 3 := by simp
  have l1 := insO_mem (r := r) (by decide : 0 < 3) l0
  have l2 := insO_mem (r := r) (by decide : 1 < 3) l1
  refine x_f1 (x_tn ?_)
  refine fall_turn hr hn (l := []) (k := 0) (by decide) l0 (by decide) fun j => ?_
  refine x_f1 (x_tn ?_)
  refine fall_turn hr hn (l := insO r 0 []) (k := 1) (by rw [insO_len]; decide) l1 (by decide) fun j => ?_
  refine x_f1 (x_tn ?_)
  refine fall_turn hr hn (l := insO r 1 (insO r 0 [])) (k := 2) (by rw [insO_len, insO_len]; decide) l2 (by decide) fun j => ?_
  refine x_f0 ?_
  repeat' fail "x"
  rw [ord_ins]
  exact h
end TT

set_option Elab.async false
set_option linter.all false
set_option maxRecDepth 100000
set_option autoImplicit false
set_option maxHeartbeats 1000000
namespace TT
open PySem PySem.Spec L2
theorem ordr_in (r : Nat → Rat) : ordr r = (2, 1, 0) ∨ ordr r = (1, 2, 0) ∨ ordr r = (1, 0, 2) ∨ ordr r = (2, 0, 1) ∨ ordr r = (0, 2, 1) ∨ ordr r = (0, 1, 2) := by
  unfold ordr
  split <;> split <;> first | (split <;> simp) | simp
theorem fall_i {r : Nat → Rat} {n : Nat} {q : DV → Prop} {Ed : Str → Prop} (h0 : RB (r 0) n) (h1 : RB (r 1) n) (h2 : RB (r 2) n) (hn : n ≤ 2000) (h : q (.own (ordD (ordr r)))) : S_falling [.lst [sh (r 0), sh (r 1), sh (r 2)]] q Ed := by
  unfold S_falling
  exact ⟨r, n, rfl, ⟨h0.h, h1.h, h2.h⟩, hn, h⟩
def turn4 : List Sx := [.sub 2 (.ix (.var 1) (.var 4)) (.int 1), .setv 5 (.ite (.cmp .lt (.var 4) (.int 2)) (.ix (.var 0) (.ix (.var 1) (.bin .add (.var 4) (.int 1)))) (.tup [.int 0, .int 1])), .app 3 (.tup [.blt .tuple [.var 2], .call "minus" [false, false] S_minus [] [.ix (.var 0) (.ix (.var 1) (.var 4)), .var 5]])]
theorem set_map (c : List Int) (j : Nat) : (c.map D.int).set j (.int 1) = (c.set j 1).map .int := by rw [List.map_set]
theorem four_turn {Ed : Str → Prop} {kr : DV → Prop} {kb kc nx : Sl → Prop} {r : Nat → Rat} {n : Nat} (hr : ∀ f, f < 3 → RSz n (r f)) (hn : n ≤ 2000) {o : Nat → Nat} (ho : ∀ i, o i < 3) {c : List Int} (hc : c.length = 3) {acc : List D} (ha : acc.length ≤ 1000) {k : Nat} (hk : k < 3) {x5 : Option DV}
    (h : ∀ x, nx [some (.v (.lst [sh (r 0), sh (r 1), sh (r 2)])), some (.v (.lst [.int (o 0), .int (o 1), .int (o 2)])), some (.own (.lst ((c.set (o k) 1).map .int))), some (.own (.lst (acc ++ [rowD (c.set (o k) 1, r (o k) - if k < 2 then r (o (k + 1)) else ((0 : Int) : Rat))]))), some (.v (.int k)), x]) :
    BB Ed turn4 ⟨nx, kr, kb, kc⟩ [some (.v (.lst [sh (r 0), sh (r 1), sh (r 2)])), some (.v (.lst [.int (o 0), .int (o 1), .int (o 2)])), some (.own (.lst (c.map .int))), some (.own (.lst acc)), some (.v (.int k)), x5] := by
  have i0 : RB (r (o 0)) n := ⟨hr _ (ho 0)⟩
  have i1 : RB (r (o 1)) n := ⟨hr _ (ho 1)⟩
  have i2 : RB (r (o 2)) n := ⟨hr _ (ho 2)⟩
  have h3 : ∀ i, ((o i : Nat) : Int) < ((c.map D.int).length : Int) := fun i => by
    rw [List.length_map, hc]
    have := ho i
    omega
  unfold turn4
  have hk3 : k = 0 ∨ k = 1 ∨ k = 2 := by omega
  rcases hk3 with rfl | rfl | rfl
  all_goals
    repeat' first | fail "x" | with_reducible refine x_suL (by omega) (h3 _) ?_ | with_reducible refine x_ix3 (ho _) ?_
    refine ⟨by omega, ?_⟩
    repeat' fail "x"
    simp only [Int.toNat_natCast, set_map]
    exact h _
theorem ordr_lt (r : Nat → Rat) : (ordr r).1 < 3 ∧ (ordr r).2.1 < 3 ∧ (ordr r).2.2 < 3 := by
  rcases ordr_in r with e | e | e | e | e | e <;> rw [e] <;> decide
theorem vc_four_parts : VC 6 [false] S_four_parts B_four_parts := by
  intro ds q Ed hl h
  unfold S_four_parts at h
  obtain ⟨r, n, rfl, ⟨h0, h1, h2⟩, hn, h⟩ := h
  have hr : ∀ f, f < 3 → RSz n (r f) := fun f hf => by
    have : f = 0 ∨ f = 1 ∨ f = 2 := by omega
    rcases this with rfl | rfl | rfl <;> assumption
  have h0 : RB (r 0) n := ⟨h0⟩
  have h1 : RB (r 1) n := ⟨h1⟩
  have h2 : RB (r 2) n := ⟨h2⟩
  unfold lst3
  refine BB.of ?_
  unfold B_four_parts
  repeat' fail "x"
  refine fall_i h0 h1 h2 hn ?_
  have ho := ordr_lt r
  generalize ordr r = o at h ho ⊢
  obtain ⟨a, b, c⟩ := o
  obtain ⟨ha, hb, hc⟩ := ho
  unfold ordD
  dsimp only at ha hb hc ⊢
  have i0 : RB (r a) n := ⟨hr _ ha⟩
  repeat' first | fail "x" | with_reducible refine x_ix3 ha ?_
  let o : Nat → Nat := fun i => if i = 0 then a else if i = 1 then b else c
  have hoo : ∀ i, o i < 3 := fun i => by
    show (if i = 0 then a else if i = 1 then b else c) < 3
    split
    · exact ha
    · split <;> assumption
  refine x_f1 (x_tn ?_)
  refine four_turn hr hn (o := o) hoo (c := [0, 0, 0]) rfl (acc := [_]) (by simp) (k := 0) (by decide) fun x => ?_
  refine x_f1 (x_tn ?_)
  refine four_turn hr hn (o := o) hoo (c := [0, 0, 0].set a 1) (by simp) (acc := [_] ++ [_]) (by simp) (k := 1) (by decide) fun x => ?_
  refine x_f1 (x_tn ?_)
  refine four_turn hr hn (o := o) hoo (c := ([0, 0, 0].set a 1).set b 1) (by simp) (acc := [_] ++ [_] ++ [_]) (by simp) (k := 2) (by decide) fun x => ?_
  refine x_f0 ?_
  repeat' fail "x"
  exact h
end TT

set_option Elab.async false
set_option linter.all false
set_option maxRecDepth 100000
set_option autoImplicit false
set_option maxHeartbeats 1000000
namespace TT
open PySem PySem.Spec L2
/-- a loop over a list of one kind, by what holds behind those that were walked -/
theorem x_preM {α : Type} {b : Kn → Sl → Prop} {kn : Sl → Prop} {kr : DV → Prop} {kb kc : Sl → Prop} {δ : Sl} {t : Tg} (f : α → D) (I : List α → Sl → Prop) {l : List α} (h0 : I [] δ) (hs : ∀ p a r, l = p ++ a :: r → ∀ δ, I p δ → ∀ nx : Sl → Prop, (∀ δ, I (p ++ [a]) δ → nx δ) → TG t (f a) δ (fun δ' => b ⟨nx, kr, kn, nx⟩ δ')) (he : ∀ δ, I l δ → kn δ) : FF t b ⟨kn, kr, kb, kc⟩ (l.map f) δ := by
  suffices go : ∀ (r p : List α) (δ : Sl), l = p ++ r → I p δ → FF t b ⟨kn, kr, kb, kc⟩ (r.map f) δ from go l [] δ rfl h0
  intro r
  induction r with
  | nil =>
    intro p δ e hI
    refine x_f0 (he δ ?_)
    rw [e, List.append_nil]; exact hI
  | cons d r ih =>
    intro p δ e hI
    exact x_f1 (hs p d r e δ hI _ fun δ' h' => ih (p ++ [d]) δ' (by rw [e]; simp) h')
def eightR (r : Nat → Rat) (p : List Int) : List Int × Rat := (p, ((1 : Int) : Rat) * side (r 0) (p.getD 0 0) * side (r 1) (p.getD 1 0) * side (r 2) (p.getD 2 0))
theorem all_places_i {n : Nat} {q : DV → Prop} {Ed : Str → Prop} (hn : n ≤ 10) (h : q (.own (.lst ((tri n).map .key)))) : S_all_places [.int n] q Ed := by unfold S_all_places; exact ⟨n, rfl, hn, h⟩
theorem vc_eight_parts : VC 5 [false] S_eight_parts B_eight_parts := by
  intro ds q Ed hl h
  unfold S_eight_parts at h
  obtain ⟨r, n, rfl, ⟨h0, h1, h2⟩, hn, h⟩ := h
  have h0 : RB (r 0) n := ⟨h0⟩
  have h1 : RB (r 1) n := ⟨h1⟩
  have h2 : RB (r 2) n := ⟨h2⟩
  unfold lst3
  refine BB.of ?_
  unfold B_eight_parts
  repeat' fail "x"
  refine all_places_i (n := 2) (by decide) ?_
  repeat' fail "x"
  refine x_preM .key (fun p δ => ∃ x2 x3 x4, δ = [some (.v (.lst [sh (r 0), sh (r 1), sh (r 2)])), some (.own (.lst (p.map fun c => rowK (eightR r c)))), x2, x3, x4]) ⟨_, _, _, rfl⟩ ?_ ?_
  · rintro p c rr e δ ⟨x2, x3, x4, rfl⟩ nx hnx
    have hc : inP 2 c := mem_tri.mp (by rw [e]; simp)
    have hpl : p.length ≤ 8 := by
      have := congrArg List.length e
      rw [len_tri, List.length_append, List.length_cons] at this
      omega
    obtain ⟨x, y, z, rfl, hx, hy, hz⟩ := hc
    have hnx := hnx _ ⟨some (.v (.key [x, y, z])), some (.v (sh (eightR r [x, y, z]).2)), some (.v (.int 2)), rfl⟩
    rw [List.map_append] at hnx
    have hal : (p.map fun c => rowK (eightR r c)).length ≤ 8 := by rw [List.length_map]; exact hpl
    generalize (p.map fun c => rowK (eightR r c)) = acc at hnx hal ⊢
    have hnx : nx [some (.v (.lst [sh (r 0), sh (r 1), sh (r 2)])), some (.own (.lst (acc ++ [.tup [.key [x, y, z], sh (((1 : Int) : Rat) * side (r 0) x * side (r 1) y * side (r 2) z)]]))), some (.v (.key [x, y, z])), some (.v (sh (((1 : Int) : Rat) * side (r 0) x * side (r 1) y * side (r 2) z))), some (.v (.int 2))] := hnx
    repeat' first | fail "x" | with_reducible refine x_f1 ?_ | with_reducible refine x_f0 ?_ | with_reducible refine x_di (fun _ => ?_) (fun _ => ?_)
    all_goals
      refine ⟨by omega, ?_⟩
      repeat' fail "x"
      first | rw [show side (r 0) x = r 0 from if_pos ‹x = 1›] at hnx | rw [show side (r 0) x = ((1 : Int) : Rat) - r 0 from if_neg ‹¬ x = 1›] at hnx
      first | rw [show side (r 1) y = r 1 from if_pos ‹y = 1›] at hnx | rw [show side (r 1) y = ((1 : Int) : Rat) - r 1 from if_neg ‹¬ y = 1›] at hnx
      first | rw [show side (r 2) z = r 2 from if_pos ‹z = 1›] at hnx | rw [show side (r 2) z = ((1 : Int) : Rat) - r 2 from if_neg ‹¬ z = 1›] at hnx
      exact hnx
  · rintro δ ⟨x2, x3, x4, rfl⟩
    repeat' fail "x"
    unfold eight at h
    rw [List.map_map] at h
    exact h
end TT

set_option Elab.async false
set_option linter.all false
set_option maxRecDepth 100000
set_option autoImplicit false
set_option maxHeartbeats 1000000
namespace TT
open PySem PySem.Spec L2
/-! ### grids: the making, cells, worths -/
structure Col (m : Nat) (x : Nat → Rat) : Prop where
  bd : ∀ k, k < 3 → 0 ≤ x k ∧ x k ≤ 60
  sz : ∀ k, k < 3 → RSz m (x k)
def addP (b c : List Int) : List Int := [b.getD 0 0 + c.getD 0 0, b.getD 1 0 + c.getD 1 0, b.getD 2 0 + c.getD 2 0]
def mixL (kvs : List (List Int × D)) (b : List Int) (l : List (List Int × Rat)) (k : Nat) : List Rat := l.map fun p => p.2 * ((tOf kvs (addP b p.1) k : Int) : Rat)
def mix (kvs : List (List Int × D)) (b : List Int) (l : List (List Int × Rat)) (k : Nat) : Rat := (mixL kvs b l k).foldl (· + ·) ((0 : Int) : Rat)
def rowM (kd : Bool) (p : List Int × Rat) : D := if kd = true then rowK p else rowD p
def lowP (n : Nat) (x : Nat → Rat) : List Int := [low n (x 0), low n (x 1), low n (x 2)]
def restF (n : Nat) (x : Nat → Rat) : Nat → Rat := fun k => rest n (x k)
def fourW (n : Nat) (kvs : List (List Int × D)) (x : Nat → Rat) (k : Nat) : Rat := mix kvs (lowP n x) (four (restF n x) (ordr (restF n x))) k
def eightW (n : Nat) (kvs : List (List Int × D)) (x : Nat → Rat) (k : Nat) : Rat := mix kvs (lowP n x) (eight (restF n x)) k
def oddDev : List D := [.non, .tup [.tup [.int 0, .int 1], .tup [.int 0, .int 1]], .tup [.tup [.int 0, .int 1], .tup [.int 0, .int 1], .tup [.int 61, .int 1]], .tup [.tup [.int 0, .int 1], .tup [.int 0, .int 1], .tup [.int (0 - 1), .int 9]], .tup [.int 0, .int 0, .int 0]]
def oddWay : List D := [.str "Four", .str "", .non, .int 4, .lst [.str "four"]]
def oddWo : List D := [.tup [.int 0, .int 0], .lst [.int 0, .int 0, .int 0], .tup [.int 0, .int 0, .int 1001], .tup [.int 0, .int (0 - 1), .int 0], .tup [.int 0, .bl true, .int 0], .non, .int 5]
/-- no table of a grid of n knots -/
def OddT (n : Nat) (d : D) : Prop := d = .non ∨ d = .int 5 ∨ d = .lst [] ∨ (∃ kvs, d = .dic kvs ∧ kvs.length ≠ n ^ 3) ∨ ∃ kvs p w, d = .dic kvs ∧ kvs.length = n ^ 3 ∧ inP n p ∧ w ∈ oddWo ∧ lookD kvs p = some w ∧ ∀ r, inP n r → r ≠ p → ∃ a b c : Int, lookD kvs r = some (.tup [.int a, .int b, .int c]) ∧ (0 ≤ a ∧ a ≤ 1000) ∧ (0 ≤ b ∧ b ≤ 1000) ∧ (0 ≤ c ∧ c ≤ 1000)
@[irreducible] def S_is_within : DS := fun ds q _ => ∃ (u : Rat) (lo hi : Int) (n : Nat), ds = [sh u, .int lo, .int hi] ∧ RSz n u ∧ n ≤ 4000 ∧ Sz 10 lo ∧ Sz 10 hi ∧ q (.v (.bl (decide ((lo : Rat) ≤ u ∧ u ≤ hi))))
@[irreducible] def S_total : DS := fun ds q _ => ∃ (us : List Rat) (n : Nat), ds = [.lst (us.map sh)] ∧ us.length ≤ 8 ∧ (∀ u ∈ us, RSz n u) ∧ n ≤ 600 ∧ q (.v (sh (us.foldl (· + ·) ((0 : Int) : Rat))))
@[irreducible] def S_look_device : DS := fun ds q Ed => (∃ (x : Nat → Rat) (m : Nat), ds = [sh3 x] ∧ Col m x ∧ m ≤ 2000 ∧ q (.v .non)) ∨ ∃ d, ds = [d] ∧ d ∈ oddDev ∧ Ed "BadColour"
@[irreducible] def S_Grid___init__ : DS := fun ds q Ed => (∃ n kvs, ds = [.int (n : Nat), .dic kvs] ∧ Tab n kvs ∧ q (.v (gD n kvs))) ∨ (∃ k d, ds = [k, d] ∧ basic k = true ∧ isW 2 7 k = false ∧ Ed "BadGrid") ∨ ∃ (n : Nat) (d : D), ds = [.int n, d] ∧ 2 ≤ n ∧ n ≤ 7 ∧ OddT n d ∧ Ed "BadGrid"
@[irreducible] def S_Grid_cell : DS := fun ds q _ => ∃ n kvs x m, ds = [gD n kvs, sh3 x] ∧ Tab n kvs ∧ Col m x ∧ m ≤ 1000 ∧ q (.v (.tup [.tup ((lowP n x).map .int), lst3 (restF n x)]))
@[irreducible] def S_Grid_mixed : DS := fun ds q _ => ∃ n kvs b l kd m, ds = [gD n kvs, .tup (b.map .int), .lst (l.map (rowM kd))] ∧ Tab n kvs ∧ (∃ b0 b1 b2 : Int, b = [b0, b1, b2] ∧ (0 ≤ b0 ∧ b0 + 2 ≤ (n : Int)) ∧ (0 ≤ b1 ∧ b1 + 2 ≤ (n : Int)) ∧ (0 ≤ b2 ∧ b2 + 2 ≤ (n : Int))) ∧ l.length ≤ 8 ∧ (∀ p ∈ l, inP 2 p.1 ∧ RSz m p.2) ∧ m ≤ 550 ∧ q (.v (sh3 (mix kvs b l)))
@[irreducible] def S_Grid_worth : DS := fun ds q Ed => (∃ n kvs x w m, ds = [gD n kvs, sh3 x, .str w] ∧ Tab n kvs ∧ Col m x ∧ m ≤ 150 ∧ (w = "four" ∨ w = "eight") ∧ (w = "four" → q (.v (sh3 (fourW n kvs x)))) ∧ (w = "eight" → q (.v (sh3 (eightW n kvs x))))) ∨ (∃ n kvs d, ds = [gD n kvs, d, .str "four"] ∧ d ∈ oddDev ∧ Ed "BadColour") ∨ ∃ n kvs d w, ds = [gD n kvs, d, w] ∧ w ∈ oddWay ∧ Ed "BadColour"
/- is_within(3): 0 1 2 -/
def B_is_within : List Sx := [
  .ret (.chain .le .le (.bin .mul (.var 1) (.ix (.var 0) (.int 1))) (.ix (.var 0) (.int 0)) (.bin .mul (.var 2) (.ix (.var 0) (.int 1))))]
/- total(1): 0 1 2 -/
def B_total : List Sx := [
  .setv 1 (.glb "NOUGHT" (.tup [.int 0, .int 1])),
  .forr (.nm 2) (.seq (.var 0)) [.setv 1 (.call "plus" [false, false] S_plus [] [.var 1, .var 2])],
  .ret (.var 1)]
/- look_device(1): 0 1 -/
def B_look_device : List Sx := [
  .ifs (.ors [.not (.isi (.var 0) .tuple), .cmp .ne (.blt .len [.var 0]) (.int 3)]) [.raise "BadColour"] [],
  .ifs (.not (.blt .all [.comp [("one", 1)] (.nm 1) (.seq (.var 0)) none (.ands [.call "is_share" [false] S_is_share [] [.var 1], .call "is_within" [false, false, false] S_is_within [] [.var 1, .int 0, .glb "LEVELS" (.int 60)]])])) [.raise "BadColour"] []]
/- is_place(2): 0 1 2 -/
/- Grid.__init(3): 0 1 2 3 4 5 6 -/
def B_Grid___init__ : List Sx := [
  .ifs (.not (.call "is_whole" [false, false, false] S_is_whole [] [.var 1, .int 2, .int 7])) [.raise "BadGrid"] [],
  .ifs (.ors [.not (.isi (.var 2) .dict), .cmp .ne (.p1 .lenD (.var 2)) (.bin .pow (.var 1) (.int 3))]) [.raise "BadGrid"] [],
  .forr (.nm 3) (.seq (.call "all_places" [false] S_all_places [] [.var 1])) [.setv 4 (.p2 .dget (.var 2) (.var 3)), .setv 5 (.ands [.isi (.var 4) .tuple, .cmp .eq (.blt .len [.var 4]) (.int 3)]), .ifs (.ors [.not (.var 5), .not (.blt .all [.comp [("one", 6)] (.nm 6) (.seq (.var 4)) none (.call "is_whole" [false, false, false] S_is_whole [] [.var 6, .int 0, .glb "MOST_WORTH" (.int 1000)])])]) [.raise "BadGrid"] []],
  .fld 0 "Grid" "knots" (.var 1),
  .fld 0 "Grid" "table" (.p1 .dcopy (.var 2)),
  .fld 0 "Grid" "step" (.bin .fdiv (.glb "LEVELS" (.int 60)) (.bin .sub (.var 1) (.int 1)))]
/- Grid.size(1): 0 -/
/- Grid.knot(2): 0 1 -/
/- Grid.cell(2): 0 1 2 3 4 5 6 -/
def B_Grid_cell : List Sx := [
  .set 2 (.lst []),
  .set 3 (.lst []),
  .forr (.nm 4) (.seq (.var 1)) [.setv 5 (.call "lowest" [false, false] S_lowest [] [.ix (.var 4) (.int 0), .bin .mul (.ix (.var 4) (.int 1)) (.p1 (.att "Grid" "step") (.var 0))]), .setv 6 (.blt .min2 [.bin .fdiv (.ix (.var 5) (.int 0)) (.ix (.var 5) (.int 1)), .bin .sub (.p1 (.att "Grid" "knots") (.var 0)) (.int 2)]), .app 2 (.var 6), .app 3 (.call "minus" [false, false] S_minus [] [.var 5, .tup [.var 6, .int 1]])],
  .frz 3,
  .ret (.tup [.blt .tuple [.var 2], .var 3])]
/- Grid.mixed(3): 0 1 2 3 4 5 6 7 8 9 -/
def B_Grid_mixed : List Sx := [
  .set 3 (.lst []),
  .forr (.nm 4) (.rng (.int 3)) [.set 5 (.lst []), .forr (.tp [.nm 6, .nm 7]) (.seq (.var 2)) [.setv 8 (.blt .tuple [.comp [("j", 9)] (.nm 9) (.rng (.int 3)) none (.bin .add (.ix (.var 1) (.var 9)) (.ix (.p1 .unk (.var 6)) (.var 9)))]), .app 5 (.call "times" [false, false] S_times [] [.var 7, .tup [.ix (.p2 .dix (.p1 (.att "Grid" "table") (.var 0)) (.var 8)) (.var 4), .int 1]])], .app 3 (.call "total" [true] S_total [] [.var 5])],
  .ret (.blt .tuple [.var 3])]
/- Grid.worth(3): 0 1 2 3 4 5 -/
def B_Grid_worth : List Sx := [
  .ifs (.ors [.not (.isi (.var 2) .str), .p2 (.isin true) (.var 2) (.glb "WAYS" (.tup [.str "eight", .str "four"]))]) [.raise "BadColour"] [],
  .expr (.call "look_device" [false] S_look_device [] [.var 1]),
  .tgt (.tp [.nm 3, .nm 4]) (.meth "Grid" "cell" [false] S_Grid_cell [] (.var 0) [.var 1]),
  .setv 5 (.ite (.cmp .eq (.var 2) (.str "four")) (.call "four_parts" [false] S_four_parts [] [.var 4]) (.call "eight_parts" [false] S_eight_parts [] [.var 4])),
  .ret (.meth "Grid" "mixed" [false, false] S_Grid_mixed [] (.var 0) [.var 3, .var 5])]

theorem vc_is_within : VC 3 [false, false, false] S_is_within B_is_within := by
  intro ds q Ed hl h
  unfold S_is_within at h
  obtain ⟨u, lo, hi, n, rfl, hu, hn, hlo, hhi, h⟩ := h
  have hu : RB u n := ⟨hu⟩
  have hlo : ZB lo 10 := ⟨hlo⟩
  have hhi : ZB hi 10 := ⟨hhi⟩
  have a : (lo : Rat) ≤ u ↔ lo * (u.den : Int) ≤ u.num := by
    have := Rat.le_iff (lo : Rat) u
    simpa using this
  have b : u ≤ (hi : Rat) ↔ u.num ≤ hi * (u.den : Int) := by
    have := Rat.le_iff u (hi : Rat)
    simpa using this
  have he : decide ((lo : Rat) ≤ u ∧ u ≤ (hi : Rat)) = decide (lo * (u.den : Int) ≤ u.num ∧ u.num ≤ hi * (u.den : Int)) := decide_eq_decide.mpr (and_congr a b)
  rw [he] at h
  refine BB.of ?_
  unfold B_is_within
  repeat' fail "x"
  refine x_di (fun e => ?_) (fun e => ?_)
  · repeat' fail "x"
    have : decide (lo * (u.den : Int) ≤ u.num ∧ u.num ≤ hi * (u.den : Int)) = decide (u.num ≤ hi * (u.den : Int)) := decide_eq_decide.mpr ⟨fun z => z.2, fun z => ⟨e, z⟩⟩
    rw [this] at h
    exact h
  · rw [decide_eq_false (fun z => e z.1)] at h
    repeat' fail "x"
    all_goals exact h
theorem vc_total : VC 3 [true] S_total B_total := by
  intro ds q Ed hl h
  unfold S_total at h
  obtain ⟨us, n, rfl, hlen, hu, hn, h⟩ := h
  refine BB.of ?_
  unfold B_total
  repeat' fail "x"
  refine x_preM sh (fun p δ => RSz (p.length * (n + 1) + 7) (p.foldl (· + ·) ((0 : Int) : Rat)) ∧ ∃ x2, δ = [some (.bp (.lst (us.map sh))), some (.v (sh (p.foldl (· + ·) ((0 : Int) : Rat)))), x2]) ⟨?_, _, rfl⟩ ?_ ?_
  · exact (inferInstance : RB ((0 : Int) : Rat) _).h.mono (by show 6 ≤ _; omega)
  · rintro p u r e δ ⟨hz, x2, rfl⟩ nx hnx
    have hpl : p.length + 1 ≤ 8 := by
      rw [e, List.length_append, List.length_cons] at hlen
      omega
    have i1 : RB (p.foldl (· + ·) ((0 : Int) : Rat)) (p.length * (n + 1) + 7) := ⟨hz⟩
    have i2 : RB u n := ⟨hu u (by rw [e]; simp)⟩
    have hm : p.length * (n + 1) ≤ 7 * 601 := Nat.mul_le_mul (by omega) (by omega)
    have hnx := hnx [some (.bp (.lst (us.map sh))), some (.v (sh (p.foldl (· + ·) ((0 : Int) : Rat) + u))), some (.v (sh u))] ⟨?_, some (.v (sh u)), ?_⟩
    · repeat' fail "x"
      all_goals exact hnx
    · rw [List.foldl_append, List.length_append]
      refine (inferInstance : RB (p.foldl (· + ·) ((0 : Int) : Rat) + u) _).h.mono ?_
      show p.length * (n + 1) + 7 + n + 1 ≤ (p.length + 1) * (n + 1) + 7
      rw [Nat.succ_mul]
      omega
    · rw [List.foldl_append]
      rfl
  · rintro δ ⟨hz, x2, rfl⟩
    repeat' fail "x"
    all_goals exact h
theorem x_all3 {q : DV → Prop} (h : q (.v (.bl true))) : opBlt .all [.lst [.bl true, .bl true, .bl true]] q := ⟨[true, true, true], rfl, h⟩
theorem x_within {u : Rat} {n : Nat} {lo hi : Int} {q : DV → Prop} {Ed : Str → Prop} (hu : RSz n u) (hn : n ≤ 4000) (z1 : Sz 10 lo) (z2 : Sz 10 hi) (h0 : (lo : Rat) ≤ u) (h1 : u ≤ hi) (h : q (.v (.bl true))) : S_is_within [sh u, .int lo, .int hi] q Ed := by
  unfold S_is_within
  exact ⟨u, lo, hi, n, rfl, hu, hn, z1, z2, by rw [decide_eq_true (And.intro h0 h1)]; exact h⟩
theorem x_all3F {a b c : Bool} {q : DV → Prop} (e : (a && (b && c)) = false) (h : q (.v (.bl false))) : opBlt .all [.lst [.bl a, .bl b, .bl c]] q := ⟨[a, b, c], rfl, by cases a <;> cases b <;> cases c <;> first | exact h | cases e⟩
theorem dev_D {d : D} {q : DV → Prop} {Ed : Str → Prop} (ho : okSh d) {b : Bool} (e : isSh d = b) (h : q (.v (.bl b))) : S_is_share [d] q Ed := by unfold S_is_share; exact ⟨d, rfl, ho, by rw [e]; exact h⟩
theorem okSh_ii {t b : Int} (h : b.natAbs < 4096) : okSh (.tup [.int t, .int b]) := fun _ => ⟨by simp [basic, tyD], fun t b e => by cases e; exact sz12 h (by decide)⟩
theorem dev_01 {q : DV → Prop} {Ed : Str → Prop} (h : q (.v (.bl true))) : S_is_share [.tup [.int 0, .int 1]] q Ed := dev_D (okSh_ii (by decide)) (by decide +kernel) h
theorem dev_61 {q : DV → Prop} {Ed : Str → Prop} (h : q (.v (.bl true))) : S_is_share [.tup [.int 61, .int 1]] q Ed := dev_D (okSh_ii (by decide)) (by decide +kernel) h
theorem dev_19 {q : DV → Prop} {Ed : Str → Prop} (h : q (.v (.bl true))) : S_is_share [.tup [.int (0 - 1), .int 9]] q Ed := dev_D (okSh_ii (by decide)) (by decide +kernel) h
theorem dev_i {q : DV → Prop} {Ed : Str → Prop} (h : q (.v (.bl false))) : S_is_share [.int 0] q Ed := dev_D rfl rfl h
theorem dew_D {u : Rat} {d : D} {q : DV → Prop} {Ed : Str → Prop} (e : d = sh u) (hz : RSz 12 u) {b : Bool} (eb : decide (((0 : Int) : Rat) ≤ u ∧ u ≤ ((60 : Int) : Rat)) = b) (h : q (.v (.bl b))) : S_is_within [d, .int 0, .int 60] q Ed := by
  subst e
  unfold S_is_within
  refine ⟨u, 0, 60, 12, rfl, hz, by decide, (inferInstance : ZB (0 : Int) _).h.mono (by decide), (inferInstance : ZB (60 : Int) _).h.mono (by decide), ?_⟩
  rw [eb]
  exact h
theorem dew_01 {q : DV → Prop} {Ed : Str → Prop} (h : q (.v (.bl true))) : S_is_within [.tup [.int 0, .int 1], .int 0, .int 60] q Ed := dew_D (u := 0) rfl ⟨sz12 (by decide +kernel) (by decide), sz12 (by decide +kernel) (by decide)⟩ (by decide +kernel) h
theorem dew_61 {q : DV → Prop} {Ed : Str → Prop} (h : q (.v (.bl false))) : S_is_within [.tup [.int 61, .int 1], .int 0, .int 60] q Ed := dew_D (u := 61) rfl ⟨sz12 (by decide +kernel) (by decide), sz12 (by decide +kernel) (by decide)⟩ (by decide +kernel) h
theorem dew_19 {q : DV → Prop} {Ed : Str → Prop} (h : q (.v (.bl false))) : S_is_within [.tup [.int (0 - 1), .int 9], .int 0, .int 60] q Ed := dew_D (u := -1 / 9) (by unfold sh; rw [show (-1 / 9 : Rat).num = -1 from by decide +kernel, show (-1 / 9 : Rat).den = 9 from by decide +kernel]; rfl) ⟨sz12 (by decide +kernel) (by decide), sz12 (by decide +kernel) (by decide)⟩ (by decide +kernel) h
theorem x_wholeT {d : D} {lo hi : Int} {q : DV → Prop} {Ed : Str → Prop} (hb : basic d = true) (e : isW lo hi d = true) (h : q (.v (.bl true))) : S_is_whole [d, .int lo, .int hi] q Ed := x_wholeD hb (by rw [e]; exact h)
theorem x_wholeF {d : D} {lo hi : Int} {q : DV → Prop} {Ed : Str → Prop} (hb : basic d = true) (e : isW lo hi d = false) (h : q (.v (.bl false))) : S_is_whole [d, .int lo, .int hi] q Ed := x_wholeD hb (by rw [e]; exact h)
theorem vc_look_device : VC 2 [false] S_look_device B_look_device := by
  intro ds q Ed hl h
  unfold S_look_device at h
  rcases h with ⟨x, m, rfl, hx, hm, h⟩ | ⟨d, rfl, hd, hE⟩
  case inr =>
    simp only [oddDev, List.mem_cons, List.not_mem_nil, or_false] at hd
    refine BB.of ?_
    unfold B_look_device
    rcases hd with rfl | rfl | rfl | rfl | rfl
    all_goals repeat' first | fail "x" | with_reducible refine dev_01 ?_ | with_reducible refine dev_61 ?_ | with_reducible refine dev_19 ?_ | with_reducible refine dev_i ?_ | with_reducible refine dew_01 ?_ | with_reducible refine dew_61 ?_ | with_reducible refine dew_19 ?_ | with_reducible refine x_all3F (by with_unfolding_all rfl) ?_
    all_goals exact hE
  have i0 : RB (x 0) m := ⟨hx.sz 0 (by decide)⟩
  have i1 : RB (x 1) m := ⟨hx.sz 1 (by decide)⟩
  have i2 : RB (x 2) m := ⟨hx.sz 2 (by decide)⟩
  have z1 : Sz 10 0 := (inferInstance : ZB (0 : Int) _).h.mono (by decide)
  have z2 : Sz 10 60 := (inferInstance : ZB (60 : Int) _).h.mono (by decide)
  have w : ∀ k, k < 3 → ∀ q : DV → Prop, q (.v (.bl true)) → S_is_within [sh (x k), .int 0, .int 60] q (fun _ => False) := fun k hk q hq => x_within (hx.sz k hk) (by omega) z1 z2 (hx.bd k hk).1 (hx.bd k hk).2 hq
  unfold sh3
  refine BB.of ?_
  unfold B_look_device
  repeat' first | fail "x" | with_reducible refine w _ (by decide) _ ?_ | with_reducible refine x_all3 ?_
  all_goals exact h
end TT

set_option Elab.async false
set_option linter.all false
set_option maxRecDepth 100000
set_option autoImplicit false
set_option maxHeartbeats 1000000
namespace TT
open PySem PySem.Spec L2
theorem att_n {n : Nat} {kvs : List (List Int × D)} {P : DV → Prop} (h : P (.v (.int n))) : op1 (.att "Grid" "knots") (gD n kvs) P := ⟨rfl, h⟩
theorem att_t {n : Nat} {kvs : List (List Int × D)} {P : DV → Prop} (h : P (.v (.dic kvs))) : op1 (.att "Grid" "table") (gD n kvs) P := ⟨rfl, h⟩
theorem att_s {n : Nat} {kvs : List (List Int × D)} {P : DV → Prop} (h : P (.v (.int (stepOf n)))) : op1 (.att "Grid" "step") (gD n kvs) P := ⟨rfl, h⟩
local macro_rules
  | `(tactic| fail "g") => `(tactic| with_reducible first
    | refine att_n ?_
    | refine att_t ?_
    | refine att_s ?_)
def VI (cn : Str) (m : Nat) (br : List Bool) (S : DS) (B : List Sx) : Prop := ∀ x ds q Ed, ds.length = br.length → S ds q Ed → wBk Ed B (initK x cn q) (some (.ins x cn []) :: start0 m br ds)
theorem vc_Grid_init : VI "Grid" 6 [false, true] S_Grid___init__ B_Grid___init__ := by
  intro x ds q Ed hl h
  unfold S_Grid___init__ at h
  rcases h with ⟨n, kvs, rfl, ht, h⟩ | ⟨k, d, rfl, hb, hw, hE⟩ | ⟨n, d, rfl, h2, h7, hd, hE⟩
  case inr.inl =>
    refine BB.of ?_
    unfold B_Grid___init__
    repeat' first | fail "x" | fail "g" | with_reducible refine x_wholeF hb hw ?_
    all_goals exact hE
  case inr.inr =>
    have zn : ZB (n : Int) 5 := ZB.of (m := 8) (by omega) (by decide)
    have wn : isW 2 7 (.int (n : Int)) = true := by
      unfold isW
      rw [decide_eq_true_eq]; omega
    refine BB.of ?_
    unfold B_Grid___init__
    rcases hd with rfl | rfl | rfl | ⟨kvs, rfl, hne⟩ | ⟨kvs, p0, w, rfl, hlen, hp0, hwo, hlk, hok⟩
    · repeat' first | fail "x" | fail "g" | with_reducible refine x_wholeT rfl wn ?_
      all_goals exact hE
    · repeat' first | fail "x" | fail "g" | with_reducible refine x_wholeT rfl wn ?_
      all_goals exact hE
    · repeat' first | fail "x" | fail "g" | with_reducible refine x_wholeT rfl wn ?_
      all_goals exact hE
    · have hlen : ¬ (kvs.length : Int) = (n : Int) ^ 3 := by
        intro z
        exact hne (by exact_mod_cast z)
      repeat' first | fail "x" | fail "g" | with_reducible refine x_wholeT rfl wn ?_ | with_reducible refine x_pow3 (by omega) ?_
      all_goals exact hE
    · have hlen : (kvs.length : Int) = (n : Int) ^ 3 := by rw [hlen]; norm_cast
      repeat' first | fail "x" | fail "g" | with_reducible refine x_wholeT rfl wn ?_ | with_reducible refine x_pow3 (by omega) ?_
      refine all_places_i (by omega) ?_
      repeat' first | fail "x"
      refine x_preM .key (fun p δ => p0 ∉ p ∧ ∃ x3 x4 x5 x6, δ = [some (.ins x "Grid" []), some (.v (.int n)), some (.bp (.dic kvs)), x3, x4, x5, x6]) ⟨by simp, _, _, _, _, rfl⟩ ?_ ?_
      · rintro p c rr e δ ⟨hnot, x3, x4, x5, x6, rfl⟩ nx hnx
        have hc : inP n c := mem_tri.mp (by rw [e]; simp)
        by_cases ec : c = p0
        · subst ec
          repeat' first | fail "x" | with_reducible refine x_dget (k := c) rfl ?_
          rw [hlk]
          dsimp only [Option.getD_some]
          simp only [oddWo, List.mem_cons, List.not_mem_nil, or_false] at hwo
          rcases hwo with rfl | rfl | rfl | rfl | rfl | rfl | rfl
          all_goals repeat' first | fail "x" | with_reducible refine x_wholeT (by with_unfolding_all rfl) (by with_unfolding_all decide) ?_ | with_reducible refine x_wholeF (by with_unfolding_all rfl) (by with_unfolding_all decide) ?_ | with_reducible refine x_all3F (by with_unfolding_all rfl) ?_
          all_goals exact hE
        · obtain ⟨a1, a2, a3, lk, b0, b1, b2⟩ := hok c hc ec
          repeat' first | fail "x" | with_reducible refine x_dget (k := c) rfl ?_
          rw [lk]
          dsimp only [Option.getD_some]
          repeat' first | fail "x" | with_reducible refine x_whole ?_
          rw [decide_eq_true b0, decide_eq_true b1, decide_eq_true b2]
          repeat' first | fail "x" | with_reducible refine x_all3 ?_
          refine hnx _ ⟨?_, _, _, _, _, rfl⟩
          rw [List.mem_append, List.mem_singleton]
          rintro (z | z)
          · exact hnot z
          · exact ec z.symm
      · rintro δ ⟨hnot, x3, x4, x5, x6, rfl⟩
        exact absurd (mem_tri.mpr hp0) hnot
  have h2 := ht.n2
  have h7 := ht.n7
  have hlen : (kvs.length : Int) = (n : Int) ^ 3 := by rw [ht.len]; norm_cast
  refine BB.of ?_
  unfold B_Grid___init__
  repeat' first | fail "x" | fail "g" | with_reducible refine x_whole ?_ | with_reducible refine x_pow3 (by omega) ?_
  refine all_places_i (by omega) ?_
  repeat' first | fail "x"
  refine x_preM .key (fun _ δ => ∃ x3 x4 x5 x6, (isL x3 = false ∧ isL x4 = false ∧ isL x5 = false ∧ isL x6 = false) ∧ δ = [some (.ins x "Grid" []), some (.v (.int n)), some (.bp (.dic kvs)), x3, x4, x5, x6]) ⟨_, _, _, _, ⟨rfl, rfl, rfl, rfl⟩, rfl⟩ ?_ ?_
  · rintro p c rr e δ ⟨x3, x4, x5, x6, ⟨i3, i4, i5, i6⟩, rfl⟩ nx hnx
    have hc : inP n c := mem_tri.mp (by rw [e]; simp)
    have lk := ht.look hc
    have b0 := ht.bd c 0
    have b1 := ht.bd c 1
    have b2 := ht.bd c 2
    repeat' first | fail "x" | with_reducible refine x_dget (k := c) rfl ?_
    rw [lk]
    unfold w3
    dsimp only [Option.getD_some]
    repeat' first | fail "x" | with_reducible refine x_whole ?_
    rw [decide_eq_true b0, decide_eq_true b1, decide_eq_true b2]
    repeat' first | fail "x" | with_reducible refine x_all3 ?_
    refine hnx _ ⟨_, _, _, _, ⟨?_, ?_, ?_, ?_⟩, rfl⟩ <;> first | rfl | assumption
  · rintro δ ⟨x3, x4, x5, x6, ⟨i3, i4, i5, i6⟩, rfl⟩
    have hN : ∀ fs, noL [some (.ins x "Grid" fs), some (.v (.int n)), some (.bp (.dic kvs)), x3, x4, x5, x6] = true := fun fs => by
      show (!(isL (some (.ins x "Grid" fs))) && (!(isL (some (.v (.int n)))) && (!(isL (some (.bp (.dic kvs)))) && (!isL x3 && (!isL x4 && (!isL x5 && (!isL x6 && true))))))) = true
      rw [i3, i4, i5, i6]
      rfl
    have zn : ZB (n : Int) 5 := ZB.of (m := 8) (by omega) (by decide)
    repeat' first | fail "x" | refine x_fld (by with_unfolding_all rfl) (hN _) ?_
    refine ⟨by decide, ?_⟩
    repeat' first | fail "x" | with_reducible refine x_dcopy ht.hash ?_ | refine x_fld (by with_unfolding_all rfl) (hN _) ?_
    refine ⟨Nat.lt_of_succ_le (Nat.le_of_ble_eq_true (by with_unfolding_all rfl)), ?_⟩
    repeat' first | fail "x" | refine x_fld (by with_unfolding_all rfl) (hN _) ?_
    · omega
    · refine ⟨Nat.lt_of_succ_le (Nat.le_of_ble_eq_true (by with_unfolding_all rfl)), ?_⟩
      repeat' first | fail "x" | refine x_fld (by with_unfolding_all rfl) (hN _) ?_
      exact ⟨rfl, rfl, h⟩
theorem divInt_far {n : Nat} (h2 : 2 ≤ n) (h7 : n ≤ 7) (x : Rat) : Rat.divInt x.num (x.den * stepOf n) = far n x := by
  obtain ⟨_, s1, s2⟩ := step_ok h2 h7
  have hs : (stepOf n : Rat) ≠ 0 := by
    have : stepOf n ≠ 0 := by omega
    exact_mod_cast this
  have hd : (x.den : Rat) ≠ 0 := by
    have := x.den_nz
    exact_mod_cast this
  unfold far
  rw [divInt_eq, Rat.intCast_mul, Rat.intCast_natCast]
  have e : x = (x.num : Rat) / (x.den : Rat) := by
    have := Rat.num_divInt_den x
    rw [divInt_eq] at this
    simpa [Rat.intCast_natCast] using this.symm
  conv => rhs; rw [e]
  grind
end TT

set_option Elab.async false
set_option linter.all false
set_option maxRecDepth 100000
set_option autoImplicit false
set_option maxHeartbeats 1000000
namespace TT
open PySem PySem.Spec L2
local macro_rules
  | `(tactic| fail "g") => `(tactic| with_reducible first
    | refine att_n ?_
    | refine att_t ?_
    | refine att_s ?_)
def turnC : List Sx := [.setv 5 (.call "lowest" [false, false] S_lowest [] [.ix (.var 4) (.int 0), .bin .mul (.ix (.var 4) (.int 1)) (.p1 (.att "Grid" "step") (.var 0))]), .setv 6 (.blt .min2 [.bin .fdiv (.ix (.var 5) (.int 0)) (.ix (.var 5) (.int 1)), .bin .sub (.p1 (.att "Grid" "knots") (.var 0)) (.int 2)]), .app 2 (.var 6), .app 3 (.call "minus" [false, false] S_minus [] [.var 5, .tup [.var 6, .int 1]])]
theorem den_step {n : Nat} (h2 : 2 ≤ n) (h7 : n ≤ 7) (x : Rat) : (x.den : Int) * stepOf n ≠ 0 := by
  obtain ⟨_, s1, s2⟩ := step_ok h2 h7
  exact Int.ne_of_gt (Int.mul_pos (den_pos x) (by omega))
theorem zstep {n : Nat} (h2 : 2 ≤ n) (h7 : n ≤ 7) : ZB (stepOf n) 6 := by
  obtain ⟨_, s1, s2⟩ := step_ok h2 h7
  exact ZB.of (m := 64) (by omega) (by decide)
theorem zlow {n : Nat} (h2 : 2 ≤ n) (h7 : n ≤ 7) {u : Rat} (h0 : 0 ≤ u) (h1 : u ≤ 60) : ZB (low n u) 3 := by
  obtain ⟨s1, s2⟩ := low_bd h2 h7 h0 h1
  exact ZB.of (m := 8) (by omega) (by decide)
theorem rfar {n m : Nat} (h2 : 2 ≤ n) (h7 : n ≤ 7) {u : Rat} (hu : RSz m u) : RB (far n u) (m + 7) := by
  have := zstep h2 h7
  have hu : RB u m := ⟨hu⟩
  unfold far
  exact ⟨(inferInstance : RB (u / ((stepOf n : Int) : Rat)) _).h⟩
theorem cell_turn {Ed : Str → Prop} {kr : DV → Prop} {kb kc nx : Sl → Prop} {n m : Nat} {kvs : List (List Int × D)} (h2 : 2 ≤ n) (h7 : n ≤ 7) {u : Rat} (hu : RSz m u) (hm : m ≤ 1000) (h0 : 0 ≤ u) (h1 : u ≤ 60) {c x5 x6 : Option DV} {la lr : List D} (hla : la.length ≤ 100) (hlr : lr.length ≤ 100)
    (h : ∀ y5 y6, nx [some (.v (gD n kvs)), c, some (.own (.lst (la ++ [.int (low n u)]))), some (.own (.lst (lr ++ [sh (rest n u)]))), some (.v (sh u)), y5, y6]) :
    BB Ed turnC ⟨nx, kr, kb, kc⟩ [some (.v (gD n kvs)), c, some (.own (.lst la)), some (.own (.lst lr)), some (.v (sh u)), x5, x6] := by
  have i0 : RB u m := ⟨hu⟩
  have zs := zstep h2 h7
  have zl := zlow h2 h7 h0 h1
  have rf := rfar h2 h7 hu
  unfold turnC
  repeat' first | fail "x" | fail "g"
  · exact den_step h2 h7 u
  · exact den_pos _
  rw [← Rat.floor_def, divInt_far h2 h7, show (if (n : Int) - 2 < (far n u).floor then (n : Int) - 2 else (far n u).floor) = low n u from rfl]
  refine ⟨by omega, ?_⟩
  repeat' first | fail "x" | fail "g"
  refine ⟨by omega, ?_⟩
  repeat' first | fail "x" | fail "g"
  exact h _ _
theorem vc_Grid_cell : VC 7 [false, false] S_Grid_cell B_Grid_cell := by
  intro ds q Ed hl h
  unfold S_Grid_cell at h
  obtain ⟨n, kvs, x, m, rfl, ht, hx, hm, h⟩ := h
  have h2 := ht.n2
  have h7 := ht.n7
  unfold sh3
  refine BB.of ?_
  unfold B_Grid_cell
  repeat' first | fail "x" | fail "g"
  refine x_f1 (x_tn ?_)
  refine cell_turn h2 h7 (hx.sz 0 (by decide)) hm (hx.bd 0 (by decide)).1 (hx.bd 0 (by decide)).2 (la := []) (lr := []) (by simp) (by simp) fun _ _ => ?_
  refine x_f1 (x_tn ?_)
  refine cell_turn h2 h7 (hx.sz 1 (by decide)) hm (hx.bd 1 (by decide)).1 (hx.bd 1 (by decide)).2 (la := [] ++ [_]) (lr := [] ++ [_]) (by simp) (by simp) fun _ _ => ?_
  refine x_f1 (x_tn ?_)
  refine cell_turn h2 h7 (hx.sz 2 (by decide)) hm (hx.bd 2 (by decide)).1 (hx.bd 2 (by decide)).2 (la := [] ++ [_] ++ [_]) (lr := [] ++ [_] ++ [_]) (by simp) (by simp) fun _ _ => ?_
  refine x_f0 ?_
  repeat' first | fail "x" | fail "g"
  exact h
end TT

set_option Elab.async false
set_option linter.all false
set_option maxRecDepth 100000
set_option autoImplicit false
set_option maxHeartbeats 1000000
namespace TT
open PySem PySem.Spec L2
local macro_rules
  | `(tactic| fail "g") => `(tactic| with_reducible first
    | refine att_n ?_
    | refine att_t ?_
    | refine att_s ?_)
theorem x_ixw {kvs : List (List Int × D)} {p : List Int} {k : Nat} {q : DV → Prop} (h : k < 3) (hq : q (.v (.int (tOf kvs p k)))) : opIx (w3 kvs p) (.int k) q := by
  have : k = 0 ∨ k = 1 ∨ k = 2 := by omega
  rcases this with rfl | rfl | rfl <;> exact x_ixT rfl hq
theorem ztab {n : Nat} {kvs : List (List Int × D)} (ht : Tab n kvs) (p : List Int) (k : Nat) : ZB (tOf kvs p k) 10 := by
  obtain ⟨a, b⟩ := ht.bd p k
  exact ZB.of (m := 1001) (by omega) (by decide)
def turnM : List Sx := [.setv 8 (.blt .tuple [.comp [("j", 9)] (.nm 9) (.rng (.int 3)) none (.bin .add (.ix (.var 1) (.var 9)) (.ix (.p1 .unk (.var 6)) (.var 9)))]), .app 5 (.call "times" [false, false] S_times [] [.var 7, .tup [.ix (.p2 .dix (.p1 (.att "Grid" "table") (.var 0)) (.var 8)) (.var 4), .int 1]])]
theorem mix_turn {Ed : Str → Prop} {kr : DV → Prop} {kb kc nx : Sl → Prop} {n m : Nat} {kvs : List (List Int × D)} (ht : Tab n kvs) {b0 b1 b2 c0 c1 c2 : Int} (h0 : 0 ≤ b0 ∧ b0 + 2 ≤ (n : Int)) (h1 : 0 ≤ b1 ∧ b1 + 2 ≤ (n : Int)) (h2 : 0 ≤ b2 ∧ b2 + 2 ≤ (n : Int)) (hc : inP 2 [c0, c1, c2]) {w : Rat} (hw : RSz m w) (hm : m ≤ 550) (kd : Bool) {k : Nat} (hk : k < 3) {x2 x3 x6 x7 x8 x9 : Option DV} {acc : List D} (ha : acc.length ≤ 100)
    (h : ∀ y6 y7 y8, nx [some (.v (gD n kvs)), some (.v (.tup [.int b0, .int b1, .int b2])), x2, x3, some (.v (.int k)), some (.own (.lst (acc ++ [sh (w * ((tOf kvs [b0 + c0, b1 + c1, b2 + c2] k : Int) : Rat))]))), y6, y7, y8, x9]) :
    TG (.tp [.nm 6, .nm 7]) (rowM kd ([c0, c1, c2], w)) [some (.v (gD n kvs)), some (.v (.tup [.int b0, .int b1, .int b2])), x2, x3, some (.v (.int k)), some (.own (.lst acc)), x6, x7, x8, x9] (fun δ => BB Ed turnM ⟨nx, kr, kb, kc⟩ δ) := by
  obtain ⟨a0, a1, a2, e, hc0, hc1, hc2⟩ := hc
  simp only [List.cons.injEq, and_true] at e
  obtain ⟨rfl, rfl, rfl⟩ := e
  have hp : inP n [b0 + c0, b1 + c1, b2 + c2] := .of (by omega) (by omega) (by omega)
  have lk := ht.look hp
  have zt := ztab ht [b0 + c0, b1 + c1, b2 + c2] k
  have i1 : RB w m := ⟨hw⟩
  unfold turnM
  cases kd
  · unfold rowM rowD
    simp only [Bool.false_eq_true, if_false, List.map_cons, List.map_nil]
    repeat' first | fail "x" | fail "g" | with_reducible refine x_dix (k := [b0 + c0, b1 + c1, b2 + c2]) rfl lk ?_ | with_reducible refine x_ixw hk ?_
    refine ⟨by omega, ?_⟩
    repeat' first | fail "x"
    exact h _ _ _
  · unfold rowM rowK
    simp only [if_true]
    repeat' first | fail "x" | fail "g" | with_reducible refine x_dix (k := [b0 + c0, b1 + c1, b2 + c2]) rfl lk ?_ | with_reducible refine x_ixw hk ?_
    refine ⟨by omega, ?_⟩
    repeat' first | fail "x"
    exact h _ _ _
theorem total_i {us : List Rat} {n : Nat} {q : DV → Prop} {Ed : Str → Prop} (hl : us.length ≤ 8) (hu : ∀ u ∈ us, RSz n u) (hn : n ≤ 600) (h : q (.v (sh (us.foldl (· + ·) ((0 : Int) : Rat))))) : S_total [.lst (us.map sh)] q Ed := by unfold S_total; exact ⟨us, n, rfl, hl, hu, hn, h⟩
theorem mixL_sz {n m : Nat} {kvs : List (List Int × D)} (ht : Tab n kvs) {b : List Int} {l : List (List Int × Rat)} (hw : ∀ p ∈ l, RSz m p.2) {k : Nat} : ∀ u ∈ mixL kvs b l k, RSz (m + 20) u := by
  intro u hu
  obtain ⟨p, hp, rfl⟩ := List.mem_map.mp hu
  have := ztab ht (addP b p.1) k
  have i : RB p.2 m := ⟨hw p hp⟩
  exact (inferInstance : RB (p.2 * ((tOf kvs (addP b p.1) k : Int) : Rat)) _).h.mono (by omega)
theorem mix_all {Ed : Str → Prop} {kr : DV → Prop} {kb kc nx : Sl → Prop} {n m : Nat} {kvs : List (List Int × D)} (ht : Tab n kvs) {b0 b1 b2 : Int} (h0 : 0 ≤ b0 ∧ b0 + 2 ≤ (n : Int)) (h1 : 0 ≤ b1 ∧ b1 + 2 ≤ (n : Int)) (h2 : 0 ≤ b2 ∧ b2 + 2 ≤ (n : Int)) {l : List (List Int × Rat)} (hl : l.length ≤ 8) (hw : ∀ p ∈ l, inP 2 p.1 ∧ RSz m p.2) (hm : m ≤ 550) (kd : Bool) {k : Nat} (hk : k < 3) {x5 x6 x7 x8 x9 : Option DV} {acc : List D} (ha : acc.length ≤ 100)
    (h : ∀ y5 y6 y7 y8, nx [some (.v (gD n kvs)), some (.v (.tup [.int b0, .int b1, .int b2])), some (.v (.lst (l.map (rowM kd)))), some (.own (.lst (acc ++ [sh (mix kvs [b0, b1, b2] l k)]))), some (.v (.int k)), y5, y6, y7, y8, x9]) :
    BB Ed [.set 5 (.lst []), .forr (.tp [.nm 6, .nm 7]) (.seq (.var 2)) turnM, .app 3 (.call "total" [true] S_total [] [.var 5])] ⟨nx, kr, kb, kc⟩ [some (.v (gD n kvs)), some (.v (.tup [.int b0, .int b1, .int b2])), some (.v (.lst (l.map (rowM kd)))), some (.own (.lst acc)), some (.v (.int k)), x5, x6, x7, x8, x9] := by
  repeat' first | fail "x"
  refine x_preM (rowM kd) (fun p δ => ∃ y6 y7 y8, δ = [some (.v (gD n kvs)), some (.v (.tup [.int b0, .int b1, .int b2])), some (.v (.lst (l.map (rowM kd)))), some (.own (.lst acc)), some (.v (.int k)), some (.own (.lst ((mixL kvs [b0, b1, b2] p k).map sh))), y6, y7, y8, x9]) ⟨_, _, _, rfl⟩ ?_ ?_
  · rintro p a r e δ ⟨y6, y7, y8, rfl⟩ nx2 hnx
    have ha' := hw a (by rw [e]; simp)
    have hpl : p.length ≤ 8 := by
      rw [e, List.length_append] at hl
      omega
    obtain ⟨⟨c0, c1, c2, ec, hc0, hc1, hc2⟩, hz⟩ := ha'
    obtain ⟨c, w⟩ := a
    dsimp only at ec hz
    subst ec
    refine mix_turn ht h0 h1 h2 (.of hc0 hc1 hc2) hz hm kd hk (by rw [List.length_map]; unfold mixL; rw [List.length_map]; omega) fun y6 y7 y8 => hnx _ ⟨y6, y7, y8, ?_⟩
    unfold mixL
    rw [List.map_append, List.map_append]
    rfl
  · rintro δ ⟨y6, y7, y8, rfl⟩
    repeat' first | fail "x"
    refine total_i (n := m + 20) (by unfold mixL; rw [List.length_map]; exact hl) (mixL_sz ht fun p hp => (hw p hp).2) (by omega) ?_
    repeat' first | fail "x"
    refine ⟨by omega, ?_⟩
    repeat' first | fail "x"
    exact h _ _ _ _
theorem vc_Grid_mixed : VC 10 [false, false, false] S_Grid_mixed B_Grid_mixed := by
  intro ds q Ed hl h
  unfold S_Grid_mixed at h
  obtain ⟨n, kvs, b, l, kd, m, rfl, ht, ⟨b0, b1, b2, rfl, h0, h1, h2⟩, hll, hw, hm, h⟩ := h
  simp only [List.map_cons, List.map_nil]
  refine BB.of ?_
  unfold B_Grid_mixed
  repeat' first | fail "x" | fail "g"
  refine x_f1 (x_tn ?_)
  refine mix_all ht h0 h1 h2 hll hw hm kd (k := 0) (by decide) (acc := []) (by simp) fun _ _ _ _ => ?_
  refine x_f1 (x_tn ?_)
  refine mix_all ht h0 h1 h2 hll hw hm kd (k := 1) (by decide) (acc := [] ++ [_]) (by simp) fun _ _ _ _ => ?_
  refine x_f1 (x_tn ?_)
  refine mix_all ht h0 h1 h2 hll hw hm kd (k := 2) (by decide) (acc := [] ++ [_] ++ [_]) (by simp) fun _ _ _ _ => ?_
  refine x_f0 ?_
  repeat' first | fail "x" | fail "g"
  exact h
end TT

set_option Elab.async false
set_option linter.all false
set_option maxRecDepth 100000
set_option autoImplicit false
set_option maxHeartbeats 1000000
namespace TT
open PySem PySem.Spec L2
theorem rrest {n m : Nat} (h2 : 2 ≤ n) (h7 : n ≤ 7) {u : Rat} (hu : RSz m u) (h0 : 0 ≤ u) (h1 : u ≤ 60) : RSz (m + 12) (rest n u) := by
  have := rfar h2 h7 hu
  have := zlow h2 h7 h0 h1
  unfold rest
  exact (inferInstance : RB (far n u - ((low n u : Int) : Rat)) _).h
theorem lookdev_i {x : Nat → Rat} {m : Nat} {q : DV → Prop} {Ed : Str → Prop} (hx : Col m x) (hm : m ≤ 2000) (h : q (.v .non)) : S_look_device [sh3 x] q Ed := by unfold S_look_device; exact .inl ⟨x, m, rfl, hx, hm, h⟩
theorem lookdevE_i {d : D} {q : DV → Prop} {Ed : Str → Prop} (hd : d ∈ oddDev) (h : Ed "BadColour") : S_look_device [d] q Ed := by unfold S_look_device; exact .inr ⟨d, rfl, hd, h⟩
theorem cell_i {n m : Nat} {kvs : List (List Int × D)} {x : Nat → Rat} {q : DV → Prop} {Ed : Str → Prop} (ht : Tab n kvs) (hx : Col m x) (hm : m ≤ 1000) (h : q (.v (.tup [.tup ((lowP n x).map .int), lst3 (restF n x)]))) : S_Grid_cell [gD n kvs, sh3 x] q Ed := by unfold S_Grid_cell; exact ⟨n, kvs, x, m, rfl, ht, hx, hm, h⟩
theorem four_i {r : Nat → Rat} {n : Nat} {q : DV → Prop} {Ed : Str → Prop} (hr : ∀ k, k < 3 → RSz n (r k)) (hn : n ≤ 2000) (h : q (.own (.lst ((four r (ordr r)).map rowD)))) : S_four_parts [lst3 r] q Ed := by unfold S_four_parts; exact ⟨r, n, rfl, ⟨hr 0 (by decide), hr 1 (by decide), hr 2 (by decide)⟩, hn, h⟩
theorem eight_i {r : Nat → Rat} {n : Nat} {q : DV → Prop} {Ed : Str → Prop} (hr : ∀ k, k < 3 → RSz n (r k)) (hn : n ≤ 2000) (h : q (.own (.lst ((eight r).map rowK)))) : S_eight_parts [lst3 r] q Ed := by unfold S_eight_parts; exact ⟨r, n, rfl, ⟨hr 0 (by decide), hr 1 (by decide), hr 2 (by decide)⟩, hn, h⟩
theorem mixed_i {n m : Nat} {kvs : List (List Int × D)} {x : Nat → Rat} {l : List (List Int × Rat)} {kd : Bool} {q : DV → Prop} {Ed : Str → Prop} (ht : Tab n kvs) (hx : ∀ k, k < 3 → 0 ≤ x k ∧ x k ≤ 60) (hl : l.length ≤ 8) (hw : ∀ p ∈ l, inP 2 p.1 ∧ RSz m p.2) (hm : m ≤ 550) (h : q (.v (sh3 (mix kvs (lowP n x) l)))) : S_Grid_mixed [gD n kvs, .tup ((lowP n x).map .int), .lst (l.map (rowM kd))] q Ed := by
  have h2 := ht.n2
  have h7 := ht.n7
  have b := fun k (hk : k < 3) => low_bd h2 h7 (hx k hk).1 (hx k hk).2
  unfold S_Grid_mixed
  refine ⟨n, kvs, lowP n x, l, kd, m, rfl, ht, ⟨_, _, _, rfl, ?_, ?_, ?_⟩, hl, hw, hm, h⟩
  · have := b 0 (by decide); omega
  · have := b 1 (by decide); omega
  · have := b 2 (by decide); omega
theorem set3_in {a b c : Nat} : inP 2 [0, 0, 0] ∧ inP 2 ([0, 0, 0].set a 1) ∧ inP 2 (([0, 0, 0].set a 1).set b 1) ∧ inP 2 ((([0, 0, 0].set a 1).set b 1).set c 1) := by
  have key : ∀ l : List Int, inP 2 l → ∀ a, inP 2 (l.set a 1) := by
    rintro l ⟨x, y, z, rfl, hx, hy, hz⟩ a
    match a with
    | 0 => exact .of (by omega) hy hz
    | 1 => exact .of hx (by omega) hz
    | 2 => exact .of hx hy (by omega)
    | a + 3 => exact .of hx hy hz
  have h0 : inP 2 [0, 0, 0] := .of (by omega) (by omega) (by omega)
  exact ⟨h0, key _ h0 _, key _ (key _ h0 _) _, key _ (key _ (key _ h0 _) _) _⟩
theorem four_ok {r : Nat → Rat} {m : Nat} (hr : ∀ k, k < 3 → RSz m (r k)) : ∀ p ∈ four r (ordr r), inP 2 p.1 ∧ RSz (2 * m + 10) p.2 := by
  obtain ⟨h0, h1, h2⟩ := ordr_lt r
  generalize ordr r = o at h0 h1 h2 ⊢
  obtain ⟨a, b, c⟩ := o
  obtain ⟨s0, s1, s2, s3⟩ := set3_in (a := a) (b := b) (c := c)
  have i0 : RB (r a) m := ⟨hr _ h0⟩
  have i1 : RB (r b) m := ⟨hr _ h1⟩
  have i2 : RB (r c) m := ⟨hr _ h2⟩
  intro p hp
  unfold four at hp
  simp only [List.mem_cons, List.not_mem_nil, or_false] at hp
  rcases hp with rfl | rfl | rfl | rfl
  · exact ⟨s0, (inferInstance : RB (((1 : Int) : Rat) - r a) _).h.mono (by show 6 + m + 1 ≤ _; omega)⟩
  · exact ⟨s1, (inferInstance : RB (r a - r b) _).h.mono (by omega)⟩
  · exact ⟨s2, (inferInstance : RB (r b - r c) _).h.mono (by omega)⟩
  · exact ⟨s3, (inferInstance : RB (r c - ((0 : Int) : Rat)) _).h.mono (by show m + 6 + 1 ≤ _; omega)⟩
theorem side_sz {r : Rat} {m : Nat} (hr : RSz m r) (i : Int) : RSz (m + 10) (side r i) := by
  have i0 : RB r m := ⟨hr⟩
  unfold side
  split
  · exact hr.mono (by omega)
  · exact (inferInstance : RB (((1 : Int) : Rat) - r) _).h.mono (by show 6 + m + 1 ≤ _; omega)
theorem eight_ok {r : Nat → Rat} {m : Nat} (hr : ∀ k, k < 3 → RSz m (r k)) : ∀ p ∈ eight r, inP 2 p.1 ∧ RSz (3 * m + 40) p.2 := by
  intro p hp
  unfold eight at hp
  obtain ⟨c, hc, rfl⟩ := List.mem_map.mp hp
  refine ⟨mem_tri.mp hc, ?_⟩
  have i0 : RB (side (r 0) (c.getD 0 0)) _ := ⟨side_sz (hr 0 (by decide)) _⟩
  have i1 : RB (side (r 1) (c.getD 1 0)) _ := ⟨side_sz (hr 1 (by decide)) _⟩
  have i2 : RB (side (r 2) (c.getD 2 0)) _ := ⟨side_sz (hr 2 (by decide)) _⟩
  exact (inferInstance : RB (((1 : Int) : Rat) * side (r 0) (c.getD 0 0) * side (r 1) (c.getD 1 0) * side (r 2) (c.getD 2 0)) _).h.mono (by show 6 + (m + 10) + (m + 10) + (m + 10) ≤ _; omega)
theorem way_in {w : Str} {q : DV → Prop} (hw : w = "four" ∨ w = "eight") (h : q (.v (.bl false))) : op2 (.isin true) (.str w) (.tup [.str "eight", .str "four"]) q := by
  rcases hw with rfl | rfl
  · exact ⟨by decide +kernel, by decide +kernel, by
      rw [show ([D.str "eight", D.str "four"].any fun z => eqD z (.str "four")) = true from by decide +kernel]
      exact h⟩
  · exact ⟨by decide +kernel, by decide +kernel, by
      rw [show ([D.str "eight", D.str "four"].any fun z => eqD z (.str "eight")) = true from by decide +kernel]
      exact h⟩
theorem way_no {w : Str} {q : DV → Prop} (hw : w = "Four" ∨ w = "") (h : q (.v (.bl true))) : op2 (.isin true) (.str w) (.tup [.str "eight", .str "four"]) q := by
  rcases hw with rfl | rfl
  · exact ⟨by decide +kernel, by decide +kernel, by
      rw [show ([D.str "eight", D.str "four"].any fun z => eqD z (.str "Four")) = false from by decide +kernel]
      exact h⟩
  · exact ⟨by decide +kernel, by decide +kernel, by
      rw [show ([D.str "eight", D.str "four"].any fun z => eqD z (.str "")) = false from by decide +kernel]
      exact h⟩
theorem way_no1 {q : DV → Prop} (h : q (.v (.bl true))) : op2 (.isin true) (.str "Four") (.tup [.str "eight", .str "four"]) q := way_no (.inl rfl) h
theorem way_no2 {q : DV → Prop} (h : q (.v (.bl true))) : op2 (.isin true) (.str "") (.tup [.str "eight", .str "four"]) q := way_no (.inr rfl) h
theorem way_ff {q : DV → Prop} (h : q (.v (.bl true))) : opC .eq (.str "four") (.str "four") q := x_eq (by decide +kernel) (by decide +kernel) (by
  rw [show eqD (.str "four") (.str "four") = true from by decide +kernel]
  exact h)
theorem x_mG {n : Nat} {kvs : List (List Int × D)} {m : Str} {A : Prop} (e : decide (m ≠ "knots" ∧ m ≠ "table" ∧ m ≠ "step") = true) (h : A) : (∃ fs, gD n kvs = .obj "Grid" fs ∧ fs.lookup m = none) ∧ A := by
  obtain ⟨e1, e2, e3⟩ := of_decide_eq_true e
  refine ⟨⟨_, rfl, ?_⟩, h⟩
  have b1 : (m == ("knots" : Str)) = false := beq_eq_false_iff_ne.mpr e1
  have b2 : (m == ("table" : Str)) = false := beq_eq_false_iff_ne.mpr e2
  have b3 : (m == ("step" : Str)) = false := beq_eq_false_iff_ne.mpr e3
  simp only [List.lookup, b1, b2, b3]
theorem vc_Grid_worth : VC 6 [false, false, false] S_Grid_worth B_Grid_worth := by
  intro ds q Ed hl h
  unfold S_Grid_worth at h
  rcases h with ⟨n, kvs, x, w, m, rfl, ht, hx, hm, hw, h4, h8⟩ | ⟨n, kvs, d, rfl, hd, hE⟩ | ⟨n, kvs, d, w, rfl, hw, hE⟩
  case inr.inl =>
    refine BB.of ?_
    unfold B_Grid_worth
    repeat' first | fail "x" | with_reducible refine lookdevE_i hd ?_ | with_reducible refine way_in (.inl rfl) ?_ | with_reducible refine way_ff ?_ | with_reducible refine x_mG (by decide +kernel) ?_
    all_goals exact hE
  case inr.inr =>
    simp only [oddWay, List.mem_cons, List.not_mem_nil, or_false] at hw
    refine BB.of ?_
    unfold B_Grid_worth
    rcases hw with rfl | rfl | rfl | rfl | rfl
    all_goals repeat' first | fail "x" | with_reducible refine way_no1 ?_ | with_reducible refine way_no2 ?_
    all_goals exact hE
  have h2 := ht.n2
  have h7 := ht.n7
  have hr : ∀ k, k < 3 → RSz (m + 12) (restF n x k) := fun k hk => rrest h2 h7 (hx.sz k hk) (hx.bd k hk).1 (hx.bd k hk).2
  have hl4 : (four (restF n x) (ordr (restF n x))).length ≤ 8 := by simp [four]
  have hl8 : (eight (restF n x)).length ≤ 8 := by unfold eight; rw [List.length_map, len_tri]; decide
  rcases hw with rfl | rfl
  · refine BB.of ?_
    unfold B_Grid_worth
    repeat' first | fail "x" | with_reducible refine lookdev_i hx (by omega) ?_ | with_reducible refine cell_i ht hx (by omega) ?_ | with_reducible refine four_i hr (by omega) ?_ | with_reducible refine way_in (.inl rfl) ?_ | with_reducible refine way_ff ?_ | with_reducible refine x_mG (by decide +kernel) ?_
    refine mixed_i (kd := false) ht hx.bd hl4 (four_ok hr) (by omega) ?_
    repeat' fail "x"
    exact h4 rfl
  · refine BB.of ?_
    unfold B_Grid_worth
    repeat' first | fail "x" | with_reducible refine lookdev_i hx (by omega) ?_ | with_reducible refine cell_i ht hx (by omega) ?_ | with_reducible refine eight_i hr (by omega) ?_ | with_reducible refine way_in (.inr rfl) ?_ | with_reducible refine x_el (b := eqD (.str "eight") (.str "four")) (by decide +kernel) ?_ | with_reducible refine x_mG (by decide +kernel) ?_
    refine mixed_i (kd := true) ht hx.bd hl8 (eight_ok hr) (by omega) ?_
    repeat' fail "x"
    exact h8 rfl
end TT

set_option Elab.async false
set_option linter.all false
set_option maxRecDepth 100000
set_option autoImplicit false
set_option maxHeartbeats 1000000
namespace TT
open PySem PySem.Spec L2
/-! ### grids: the law's own words -/
/- law_share(2): 0 1 2 -/
/- law_three(2): 0 1 -/
/- law_is_three(1): 0 1 -/
/- law_cell(2): 0 1 2 3 4 5 -/
theorem mul_den_num (x : Rat) : x * ((x.den : Int) : Rat) = (x.num : Rat) := by
  have h := Rat.num_divInt_den x
  rw [Rat.divInt_eq_div] at h
  have hd : ((x.den : Int) : Rat) ≠ 0 := by
    have := x.den_pos
    have h2 : (x.den : Int) ≠ 0 := by omega
    exact_mod_cast h2
  grind
/-- below what a share has, if so many times it is whole -/
theorem den_le {N : Int} {x : Rat} {z : Int} (h0 : N ≠ 0) (h : (N : Rat) * x = (z : Rat)) : x.den ≤ N.natAbs := by
  have e : x = Rat.divInt z N := by
    rw [Rat.divInt_eq_div]
    have hN : (N : Rat) ≠ 0 := by exact_mod_cast h0
    grind
  have hd : x.den ∣ N.natAbs := by
    have h1 : N * x.num = z * (x.den : Int) := by
      have hx := mul_den_num x
      have hq : (N : Rat) * (x.num : Rat) = (z : Rat) * ((x.den : Int) : Rat) := by
        rw [← hx]; grind
      have hq2 : ((N * x.num : Int) : Rat) = ((z * (x.den : Int) : Int) : Rat) := by
        rw [Rat.intCast_mul, Rat.intCast_mul]; exact hq
      exact_mod_cast hq2
    have h2 : (x.den : Int) ∣ N * x.num := ⟨z, by rw [h1, Int.mul_comm]⟩
    have h3 : x.den ∣ (N * x.num).natAbs := by
      have := Int.natAbs_dvd_natAbs.mpr h2
      simpa using this
    rw [Int.natAbs_mul] at h3
    exact Nat.Coprime.dvd_of_dvd_mul_right (x.reduced.symm) h3
  exact Nat.le_of_dvd (by omega) hd
theorem den_divInt {d b : Int} (hb : 0 < b) : (Rat.divInt d b).den ≤ b.natAbs := den_le (z := d) (by omega) (by
  rw [Rat.divInt_eq_div]
  have h : (b : Rat) ≠ 0 := by
    have : b ≠ 0 := by omega
    exact_mod_cast this
  grind)
/-! strictly rising lists of numbers as places, never falling ones as values -/
def f3 (a b c : Rat) : Nat → Rat := fun k => if k = 0 then a else if k = 1 then b else c
theorem f3_all {P : Rat → Prop} {a b c : Rat} (ha : P a) (hb : P b) (hc : P c) : ∀ k, k < 3 → P (f3 a b c k) := fun k hk => by
  have : k = 0 ∨ k = 1 ∨ k = 2 := by omega
  rcases this with rfl | rfl | rfl
  · exact ha
  · exact hb
  · exact hc
theorem col3 {a b c : Rat} {m : Nat} (ha : (0 ≤ a ∧ a ≤ 60) ∧ RSz m a) (hb : (0 ≤ b ∧ b ≤ 60) ∧ RSz m b) (hc : (0 ≤ c ∧ c ≤ 60) ∧ RSz m c) : Col m (f3 a b c) := by
  have := f3_all (P := fun u => (0 ≤ u ∧ u ≤ 60) ∧ RSz m u) ha hb hc
  exact ⟨fun k hk => (this k hk).1, fun k hk => (this k hk).2⟩
theorem x_len3T {xs : List D} {A B : Prop} (h : Nat.beq xs.length 3 = true) (hb : A) : IF (decide ((xs.length : Int) = 3)) A B := x_dt (by have := Nat.eq_of_beq_eq_true h; omega) hb
end TT

set_option Elab.async false
set_option linter.all false
set_option maxRecDepth 100000
set_option autoImplicit false
set_option maxHeartbeats 1000000
namespace TT
open PySem PySem.Spec L2
/-! ### grids: the law's table -/
@[irreducible] def S_law_grid : DS := fun ds q _ => ∃ n : Nat, ds = [.town, .int n] ∧ (2 ≤ n ∧ n ≤ 7) ∧ ∀ kvs, Tab n kvs → q (.own (.dic kvs))
/- law_grid(2): 0 1 2 3 4 5 6 7 8 9 10 11 12 13 14 -/
def B_law_grid : List Sx := [
  .set 2 (.dic0),
  .setv 3 (.call "_law_draw" [false, false] S_draw [] [.var 0, .int 3]),
  .setv 4 (.comp [("_law_k", 9)] (.nm 9) (.rng (.int 3)) none (.lst [.call "_law_draw" [false, false] S_draw [] [.var 0, .int 200], .call "_law_draw" [false, false] S_draw [] [.var 0, .int 90], .call "_law_draw" [false, false] S_draw [] [.var 0, .int 90], .call "_law_draw" [false, false] S_draw [] [.var 0, .int 90]])),
  .forr (.nm 5) (.rng (.var 1)) [.forr (.nm 6) (.rng (.var 1)) [.forr (.nm 7) (.rng (.var 1)) [.ifs (.cmp .eq (.var 3) (.int 0)) [.setv 8 (.comp [("_law_w", 10), ("_law_x", 11), ("_law_y", 12), ("_law_z", 13)] (.tp [.nm 10, .nm 11, .nm 12, .nm 13]) (.seq (.var 4)) none (.bin .add (.bin .add (.bin .add (.var 10) (.bin .mul (.var 11) (.var 5))) (.bin .mul (.var 12) (.var 6))) (.bin .mul (.var 13) (.var 7))))] [.ifs (.cmp .eq (.var 3) (.int 1)) [.setv 8 (.comp [("_law_k", 9)] (.nm 9) (.rng (.int 3)) none (.call "_law_draw" [false, false] S_draw [] [.var 0, .int 1001]))] [.setv 8 (.comp [("_law_w", 10), ("_law_x", 11), ("_law_y", 12), ("_law_z", 13)] (.tp [.nm 10, .nm 11, .nm 12, .nm 13]) (.seq (.var 4)) none (.blt .min2 [.int 1000, .bin .add (.bin .add (.bin .add (.var 10) (.bin .fdiv (.bin .mul (.bin .mul (.var 11) (.var 5)) (.var 5)) (.var 1))) (.bin .mul (.int 40) (.var 6))) (.bin .mul (.int 30) (.var 7))]))]], .ifs (.ands [.cmp .eq (.var 5) (.var 6), .cmp .eq (.var 6) (.var 7), .cmp .eq (.var 3) (.int 2)]) [.setv 8 (.bin .mul (.lst [.ix (.var 8) (.int 0)]) (.int 3))] [], .sub 2 (.keyt [.var 5, .var 6, .var 7]) (.blt .tuple [.comp [("_law_one", 14)] (.nm 14) (.seq (.var 8)) none (.blt .min2 [.int 1000, .var 14])])]]],
  .retO 2]

def gFirst : Sx := .ifs (.cmp .eq (.var 3) (.int 0)) [.setv 8 (.comp [("_law_w", 10), ("_law_x", 11), ("_law_y", 12), ("_law_z", 13)] (.tp [.nm 10, .nm 11, .nm 12, .nm 13]) (.seq (.var 4)) none (.bin .add (.bin .add (.bin .add (.var 10) (.bin .mul (.var 11) (.var 5))) (.bin .mul (.var 12) (.var 6))) (.bin .mul (.var 13) (.var 7))))] [.ifs (.cmp .eq (.var 3) (.int 1)) [.setv 8 (.comp [("_law_k", 9)] (.nm 9) (.rng (.int 3)) none (.call "_law_draw" [false, false] S_draw [] [.var 0, .int 1001]))] [.setv 8 (.comp [("_law_w", 10), ("_law_x", 11), ("_law_y", 12), ("_law_z", 13)] (.tp [.nm 10, .nm 11, .nm 12, .nm 13]) (.seq (.var 4)) none (.blt .min2 [.int 1000, .bin .add (.bin .add (.bin .add (.var 10) (.bin .fdiv (.bin .mul (.bin .mul (.var 11) (.var 5)) (.var 5)) (.var 1))) (.bin .mul (.int 40) (.var 6))) (.bin .mul (.int 30) (.var 7))]))]]
def gRest : List Sx := [.ifs (.ands [.cmp .eq (.var 5) (.var 6), .cmp .eq (.var 6) (.var 7), .cmp .eq (.var 3) (.int 2)]) [.setv 8 (.bin .mul (.lst [.ix (.var 8) (.int 0)]) (.int 3))] [], .sub 2 (.keyt [.var 5, .var 6, .var 7]) (.blt .tuple [.comp [("_law_one", 14)] (.nm 14) (.seq (.var 8)) none (.blt .min2 [.int 1000, .var 14])])]
structure Row4 where
  w : Int
  x : Int
  y : Int
  z : Int
  hw : 0 ≤ w ∧ w < 200
  hx : 0 ≤ x ∧ x < 90
  hy : 0 ≤ y ∧ y < 90
  hz : 0 ≤ z ∧ z < 90
def r4 (r : Row4) : D := .lst [.int r.w, .int r.x, .int r.y, .int r.z]
def gS (n : Nat) (kvs : List (List Int × D)) (kind : Int) (r0 r1 r2 : Row4) (a b c x8 x9 x10 x11 x12 x13 x14 : Option DV) : Sl := [some (.v .town), some (.v (.int n)), some (.own (.dic kvs)), some (.v (.int kind)), some (.v (.lst [r4 r0, r4 r1, r4 r2])), a, b, c, x8, x9, x10, x11, x12, x13, x14]
theorem g_first {Ed : Str → Prop} {kr : DV → Prop} {kb kc nx : Sl → Prop} {n : Nat} (h2 : 2 ≤ n) (h7 : n ≤ 7) {kvs : List (List Int × D)} {kind : Int} (hk : 0 ≤ kind ∧ kind < 3) {r0 r1 r2 : Row4} {a b c : Int} (ha : 0 ≤ a ∧ a < n) (hb : 0 ≤ b ∧ b < n) (hc : 0 ≤ c ∧ c < n) {x8 x9 x10 x11 x12 x13 x14 : Option DV}
    (h : ∀ u v w : Int, 0 ≤ u → 0 ≤ v → 0 ≤ w → nx (gS n kvs kind r0 r1 r2 (some (.v (.int a))) (some (.v (.int b))) (some (.v (.int c))) (some (.v (.lst [.int u, .int v, .int w]))) x9 x10 x11 x12 x13 x14)) :
    BB Ed [gFirst] ⟨nx, kr, kb, kc⟩ (gS n kvs kind r0 r1 r2 (some (.v (.int a))) (some (.v (.int b))) (some (.v (.int c))) x8 x9 x10 x11 x12 x13 x14) := by
  have zn : ZB (n : Int) 5 := ZB.of (m := 8) (by omega) (by decide)
  have za : ZB a 5 := ZB.of (m := 8) (by omega) (by decide)
  have zb : ZB b 5 := ZB.of (m := 8) (by omega) (by decide)
  have zc : ZB c 5 := ZB.of (m := 8) (by omega) (by decide)
  have zx : ∀ r : Row4, ZB r.x 8 := fun r => ZB.of (m := 256) (by have := r.hx; omega) (by decide)
  have zy : ∀ r : Row4, ZB r.y 8 := fun r => ZB.of (m := 256) (by have := r.hy; omega) (by decide)
  have zz : ∀ r : Row4, ZB r.z 8 := fun r => ZB.of (m := 256) (by have := r.hz; omega) (by decide)
  have pa : ∀ r : Row4, 0 ≤ r.x * a := fun r => Int.mul_nonneg r.hx.1 ha.1
  have pb : ∀ r : Row4, 0 ≤ r.y * b := fun r => Int.mul_nonneg r.hy.1 hb.1
  have pc : ∀ r : Row4, 0 ≤ r.z * c := fun r => Int.mul_nonneg r.hz.1 hc.1
  have pq : ∀ r : Row4, 0 ≤ r.x * a * a / (n : Int) := fun r => Int.ediv_nonneg (Int.mul_nonneg (pa r) ha.1) (by omega)
  unfold gS gFirst
  have e3 : kind = 0 ∨ kind = 1 ∨ kind = 2 := by omega
  rcases e3 with rfl | rfl | rfl
  · unfold r4
    repeat' first | fail "x" | with_reducible refine x_kt3 ?_
    refine h _ _ _ ?_ ?_ ?_
    · have := r0.hw; have := pa r0; have := pb r0; have := pc r0; omega
    · have := r1.hw; have := pa r1; have := pb r1; have := pc r1; omega
    · have := r2.hw; have := pa r2; have := pb r2; have := pc r2; omega
  · repeat' first | fail "x" | with_reducible refine x_kt3 ?_
    intro u u0 u1
    repeat' first | fail "x"
    intro v v0 v1
    repeat' first | fail "x"
    intro w w0 w1
    repeat' first | fail "x"
    exact h _ _ _ u0 v0 w0
  · unfold r4
    repeat' first | fail "x" | with_reducible refine x_kt3 ?_
    all_goals try omega
    refine h _ _ _ ?_ ?_ ?_
    · have := r0.hw; have := pq r0; split <;> omega
    · have := r1.hw; have := pq r1; split <;> omega
    · have := r2.hw; have := pq r2; split <;> omega
end TT

set_option Elab.async false
set_option linter.all false
set_option maxRecDepth 100000
set_option autoImplicit false
set_option maxHeartbeats 1000000
namespace TT
open PySem PySem.Spec L2
theorem g_rest {Ed : Str → Prop} {kr : DV → Prop} {kb kc nx : Sl → Prop} {n : Nat} {kvs : List (List Int × D)} (hkl : kvs.length ≤ 1000) {kind : Int} {r0 r1 r2 : Row4} {a b c : Int} {x9 x10 x11 x12 x13 x14 : Option DV} {u v w : Int} (hu : 0 ≤ u) (hv : 0 ≤ v) (hw : 0 ≤ w)
    (h : ∀ u v w : Int, (0 ≤ u ∧ u ≤ 1000) → (0 ≤ v ∧ v ≤ 1000) → (0 ≤ w ∧ w ≤ 1000) → ∀ x8, nx (gS n (putK' kvs [a, b, c] (.tup [.int u, .int v, .int w])) kind r0 r1 r2 (some (.v (.int a))) (some (.v (.int b))) (some (.v (.int c))) x8 x9 x10 x11 x12 x13 x14)) :
    BB Ed gRest ⟨nx, kr, kb, kc⟩ (gS n kvs kind r0 r1 r2 (some (.v (.int a))) (some (.v (.int b))) (some (.v (.int c))) (some (.v (.lst [.int u, .int v, .int w]))) x9 x10 x11 x12 x13 x14) := by
  have fin : ∀ u v w : Int, 0 ≤ u → 0 ≤ v → 0 ≤ w → ∀ x8, nx (gS n (putK' kvs [a, b, c] (.tup [.int (if u < 1000 then u else 1000), .int (if v < 1000 then v else 1000), .int (if w < 1000 then w else 1000)])) kind r0 r1 r2 (some (.v (.int a))) (some (.v (.int b))) (some (.v (.int c))) x8 x9 x10 x11 x12 x13 x14) := fun u v w hu hv hw x8 =>
    h _ _ _ (by split <;> omega) (by split <;> omega) (by split <;> omega) x8
  unfold gS gRest at *
  repeat' first | fail "x" | with_reducible refine x_di (fun _ => ?_) (fun _ => ?_) | with_reducible refine x_suD (by omega) ?_
  all_goals first | exact fin _ _ _ hu hv hw _ | exact fin _ _ _ hu hu hu _
/-- the table so far: the places walked, in order -/
structure Part (ps : List (List Int)) (kvs : List (List Int × D)) : Prop where
  keys : kvs.map (·.1) = ps
  val : ∀ kv ∈ kvs, ∃ x y z : Int, kv.2 = .tup [.int x, .int y, .int z] ∧ (0 ≤ x ∧ x ≤ 1000) ∧ (0 ≤ y ∧ y ≤ 1000) ∧ (0 ≤ z ∧ z ≤ 1000)
theorem Part.put {ps : List (List Int)} {kvs : List (List Int × D)} (t : Part ps kvs) {k : List Int} (hk : k ∉ ps) {x y z : Int} (hx : 0 ≤ x ∧ x ≤ 1000) (hy : 0 ≤ y ∧ y ≤ 1000) (hz : 0 ≤ z ∧ z ≤ 1000) : Part (ps ++ [k]) (putK' kvs k (.tup [.int x, .int y, .int z])) := by
  have hn : (kvs.any fun kv => decide (kv.1 = k)) = false := by
    rw [List.any_eq_false]
    intro kv hkv
    simp only [decide_eq_true_eq]
    rintro rfl
    exact hk (by rw [← t.keys]; exact List.mem_map_of_mem hkv)
  have e : putK' kvs k (.tup [.int x, .int y, .int z]) = kvs ++ [(k, .tup [.int x, .int y, .int z])] := by
    unfold putK'
    rw [if_neg (by rw [hn]; decide)]
  rw [e]
  refine ⟨by rw [List.map_append, t.keys]; rfl, fun kv hkv => ?_⟩
  rcases List.mem_append.mp hkv with h | h
  · exact t.val kv h
  · rw [List.mem_singleton] at h
    subst h
    exact ⟨x, y, z, rfl, hx, hy, hz⟩
theorem lookD_some {kvs : List (List Int × D)} {p : List Int} (h : p ∈ kvs.map (·.1)) : (lookD kvs p).isSome = true := by
  obtain ⟨kv, hkv, rfl⟩ := List.mem_map.mp h
  unfold lookD
  rw [Option.isSome_map, List.find?_isSome]
  exact ⟨kv, hkv, by simp⟩
theorem Part.tab {n : Nat} {kvs : List (List Int × D)} (h2 : 2 ≤ n) (h7 : n ≤ 7) (t : Part (tri n) kvs) : Tab n kvs := by
  have hn : (tri n).Nodup := by
    have h7' : (tri 7).Nodup := nodup_of_map tri7_nodup
    unfold tri
    have hu := nodup_upN n
    have key : ∀ {α β : Type} (l : List α) (f : α → List β), l.Nodup → (∀ a ∈ l, (f a).Nodup) → (∀ a ∈ l, ∀ b ∈ l, ∀ x, x ∈ f a → x ∈ f b → a = b) → (l.flatMap f).Nodup := by
      intro α β l f
      induction l with
      | nil => intros; exact List.nodup_nil
      | cons a l ih =>
        intro h1 h2 h3
        rw [List.nodup_cons] at h1
        rw [List.flatMap_cons, List.nodup_append]
        refine ⟨h2 a List.mem_cons_self, ih h1.2 (fun b hb => h2 b (List.mem_cons_of_mem _ hb)) (fun b hb c hc => h3 b (List.mem_cons_of_mem _ hb) c (List.mem_cons_of_mem _ hc)), fun x hx y hy e => ?_⟩
        subst e
        obtain ⟨b, hb, hxb⟩ := List.mem_flatMap.mp hy
        exact h1.1 (h3 a List.mem_cons_self b (List.mem_cons_of_mem _ hb) x hx hxb ▸ hb)
    refine key _ _ hu (fun a ha => key _ _ hu (fun b hb => ?_) ?_) ?_
    · exact map_nodup (fun x _ y _ e => by simpa using e) hu
    · intro b hb b' hb' x h1 h2
      simp only [List.mem_map] at h1 h2
      obtain ⟨c, _, rfl⟩ := h1
      obtain ⟨c', _, e⟩ := h2
      simp only [List.cons.injEq] at e
      exact e.2.1.symm
    · intro b hb b' hb' x h1 h2
      simp only [List.mem_map, List.mem_flatMap] at h1 h2
      obtain ⟨c, _, d, _, rfl⟩ := h1
      obtain ⟨c', _, d', _, e⟩ := h2
      simp only [List.cons.injEq] at e
      exact e.1.symm
  refine ⟨h2, h7, ?_, ?_, fun kv hkv => ?_, t.val, fun p hp => lookD_some (by rw [t.keys]; exact mem_tri.mpr hp)⟩
  · rw [← len_tri, ← t.keys, List.length_map]
  · rw [t.keys]; exact hn
  · exact mem_tri.mp (by rw [← t.keys]; exact List.mem_map_of_mem hkv)
end TT

set_option Elab.async false
set_option linter.all false
set_option maxRecDepth 100000
set_option autoImplicit false
set_option maxHeartbeats 1000000
namespace TT
open PySem PySem.Spec L2
theorem upN_succ (n : Nat) : upN (n + 1) = upN n ++ [(n : Int)] := by
  unfold upN
  rw [List.range_succ, List.map_append]
  rfl
theorem len_upN (n : Nat) : (upN n).length = n := by unfold upN; simp
def rowC (a b : Int) (c : Nat) : List (List Int) := (upN c).map fun z => [a, b, z]
def rowB (n : Nat) (a : Int) (b : Nat) : List (List Int) := (upN b).flatMap fun y => rowC a y n
def rowA (n : Nat) (a : Nat) : List (List Int) := (upN a).flatMap fun x => rowB n x n
theorem flat_len {α β : Type} (f : α → List β) (k : Nat) (hf : ∀ a, (f a).length = k) : ∀ l : List α, (l.flatMap f).length = l.length * k
  | [] => by simp
  | a :: l => by rw [List.flatMap_cons, List.length_append, flat_len f k hf l, hf, List.length_cons, Nat.succ_mul]; omega
theorem len_rowC (a b : Int) (c : Nat) : (rowC a b c).length = c := by unfold rowC; rw [List.length_map, len_upN]
theorem len_rowB (n : Nat) (a : Int) (b : Nat) : (rowB n a b).length = b * n := by unfold rowB; rw [flat_len _ n fun y => len_rowC a y n, len_upN]
theorem len_rowA (n a : Nat) : (rowA n a).length = a * (n * n) := by unfold rowA; rw [flat_len _ (n * n) fun x => len_rowB n x n, len_upN]
theorem rowA_succ (n a : Nat) : rowA n (a + 1) = rowA n a ++ rowB n a n := by
  unfold rowA
  rw [upN_succ, List.flatMap_append, List.flatMap_singleton]
theorem rowB_succ (n : Nat) (a : Int) (b : Nat) : rowB n a (b + 1) = rowB n a b ++ rowC a b n := by
  unfold rowB
  rw [upN_succ, List.flatMap_append, List.flatMap_singleton]
theorem rowC_succ (a b : Int) (c : Nat) : rowC a b (c + 1) = rowC a b c ++ [[a, b, (c : Int)]] := by
  unfold rowC
  rw [upN_succ, List.map_append]
  rfl
theorem not_pre {n a b c : Nat} : [(a : Int), (b : Int), (c : Int)] ∉ rowA n a ++ (rowB n a b ++ rowC a b c) := by
  simp only [List.mem_append, not_or]
  refine ⟨fun h => ?_, fun h => ?_, fun h => ?_⟩
  · unfold rowA rowB rowC at h
    simp only [List.mem_flatMap, List.mem_map, mem_upN] at h
    obtain ⟨x, hx, y, hy, z, hz, e⟩ := h
    simp only [List.cons.injEq] at e
    omega
  · unfold rowB rowC at h
    simp only [List.mem_flatMap, List.mem_map, mem_upN] at h
    obtain ⟨y, hy, z, hz, e⟩ := h
    simp only [List.cons.injEq] at e
    omega
  · unfold rowC at h
    simp only [List.mem_map, mem_upN] at h
    obtain ⟨z, hz, e⟩ := h
    simp only [List.cons.injEq] at e
    omega
theorem Part.len {ps : List (List Int)} {kvs : List (List Int × D)} (t : Part ps kvs) : kvs.length = ps.length := by rw [← t.keys, List.length_map]
theorem vc_law_grid : VC 15 [false, false] S_law_grid B_law_grid := by
  intro ds q Ed hl h
  unfold S_law_grid at h
  obtain ⟨n, rfl, ⟨h2, h7⟩, h⟩ := h
  refine BB.of ?_
  unfold B_law_grid
  repeat' fail "x"
  intro kind k0 k1
  repeat' fail "x"
  intro w0 w0a w0b
  repeat' fail "x"
  intro x0 x0a x0b
  repeat' fail "x"
  intro y0 y0a y0b
  repeat' fail "x"
  intro z0 z0a z0b
  repeat' fail "x"
  intro w1 w1a w1b
  repeat' fail "x"
  intro x1 x1a x1b
  repeat' fail "x"
  intro y1 y1a y1b
  repeat' fail "x"
  intro z1 z1a z1b
  repeat' fail "x"
  intro w2 w2a w2b
  repeat' fail "x"
  intro x2 x2a x2b
  repeat' fail "x"
  intro y2 y2a y2b
  repeat' fail "x"
  intro z2 z2a z2b
  repeat' fail "x"
  let r0 : Row4 := ⟨w0, x0, y0, z0, ⟨w0a, w0b⟩, ⟨x0a, x0b⟩, ⟨y0a, y0b⟩, ⟨z0a, z0b⟩⟩
  let r1 : Row4 := ⟨w1, x1, y1, z1, ⟨w1a, w1b⟩, ⟨x1a, x1b⟩, ⟨y1a, y1b⟩, ⟨z1a, z1b⟩⟩
  let r2 : Row4 := ⟨w2, x2, y2, z2, ⟨w2a, w2b⟩, ⟨x2a, x2b⟩, ⟨y2a, y2b⟩, ⟨z2a, z2b⟩⟩
  refine x_rngI (fun a δ => ∃ kvs sa sb sc x8, Part (rowA n a) kvs ∧ δ = gS n kvs kind r0 r1 r2 sa sb sc x8 none none none none none none) ⟨[], none, none, none, none, ⟨rfl, by simp⟩, rfl⟩ ?_ ?_
  · rintro a ha δ ⟨kvs, sa, sb, sc, x8, pt, rfl⟩ nx hnx
    unfold gS
    repeat' fail "x"
    refine x_rngI (fun b δ => ∃ kvs sb sc x8, Part (rowA n a ++ rowB n a b) kvs ∧ δ = gS n kvs kind r0 r1 r2 (some (.v (.int a))) sb sc x8 none none none none none none) ⟨kvs, sb, sc, x8, by simpa [rowB, upN] using pt, rfl⟩ ?_ ?_
    · rintro b hb δ ⟨kvs, sb, sc, x8, pt, rfl⟩ nx2 hnx2
      unfold gS
      repeat' fail "x"
      refine x_rngI (fun c δ => ∃ kvs sc x8, Part (rowA n a ++ (rowB n a b ++ rowC a b c)) kvs ∧ δ = gS n kvs kind r0 r1 r2 (some (.v (.int a))) (some (.v (.int b))) sc x8 none none none none none none) ⟨kvs, sc, x8, by simpa [rowC, upN] using pt, rfl⟩ ?_ ?_
      · rintro c hc δ ⟨kvs, sc, x8, pt, rfl⟩ nx3 hnx3
        have hkl : kvs.length ≤ 1000 := by
          rw [pt.len, List.length_append, List.length_append, len_rowA, len_rowB, len_rowC]
          have h1 : a * (n * n) ≤ 7 * (7 * 7) := Nat.mul_le_mul (by omega) (Nat.mul_le_mul h7 h7)
          have h2 : b * n ≤ 7 * 7 := Nat.mul_le_mul (by omega) h7
          omega
        refine x_cut (fun δ => ∃ u v w : Int, (0 ≤ u ∧ 0 ≤ v ∧ 0 ≤ w) ∧ δ = gS n kvs kind r0 r1 r2 (some (.v (.int a))) (some (.v (.int b))) (some (.v (.int c))) (some (.v (.lst [.int u, .int v, .int w]))) none none none none none none) (fun nx4 hnx4 => ?_) ?_
        · exact g_first h2 h7 ⟨k0, k1⟩ ⟨by omega, by omega⟩ ⟨by omega, by omega⟩ ⟨by omega, by omega⟩ fun u v w hu hv hw => hnx4 _ ⟨u, v, w, ⟨hu, hv, hw⟩, rfl⟩
        · rintro δ ⟨u, v, w, ⟨hu, hv, hw⟩, rfl⟩
          refine g_rest hkl hu hv hw fun u v w hu hv hw x8 => hnx3 _ ⟨_, _, _, ?_, rfl⟩
          rw [rowC_succ, ← List.append_assoc, ← List.append_assoc, List.append_assoc (rowA n a)]
          exact pt.put not_pre hu hv hw
      · rintro δ ⟨kvs, sc, x8, pt, rfl⟩
        unfold gS
        repeat' fail "x"
        refine hnx2 _ ⟨kvs, _, sc, x8, ?_, rfl⟩
        rw [rowB_succ]
        exact pt
    · rintro δ ⟨kvs, sb, sc, x8, pt, rfl⟩
      unfold gS
      repeat' fail "x"
      refine hnx _ ⟨kvs, _, sb, sc, x8, ?_, rfl⟩
      rw [rowA_succ]
      exact pt
  · rintro δ ⟨kvs, sa, sb, sc, x8, pt, rfl⟩
    unfold gS
    repeat' fail "x"
    exact h kvs (pt.tab h2 h7)
end TT

set_option Elab.async false
set_option linter.all false
set_option maxRecDepth 100000
set_option autoImplicit false
set_option maxHeartbeats 1000000
namespace TT
open PySem PySem.Spec L2
/-! ### grids: the law's worth by eight -/
section
variable (kvs : List (List Int × D)) (b0 b1 b2 : Int) (r : Nat → Rat) (k : Nat)
def edge (a b c : Int) : Rat := ((tOf kvs [b0 + a, b1 + b, b2 + c] k : Int) : Rat)
def line (a b : Int) : Rat := edge kvs b0 b1 b2 k a b 0 + r 2 * (edge kvs b0 b1 b2 k a b 1 - edge kvs b0 b1 b2 k a b 0)
end
/- law_eight(3): 0 1 2 3 4 5 6 7 8 9 10 11 12 -/
end TT

set_option Elab.async false
set_option linter.all false
set_option maxRecDepth 100000
set_option autoImplicit false
set_option maxHeartbeats 1000000
namespace TT
open PySem PySem.Spec L2
end TT

set_option Elab.async false
set_option linter.all false
set_option maxRecDepth 100000
set_option autoImplicit false
set_option maxHeartbeats 1000000
namespace TT
open PySem PySem.Spec L2
/-! ### grids: the law's worth by four -/
/- law_four(3): 0 1 2 3 4 5 6 7 8 9 10 11 12 13 14 -/
/-- along one way: the worth so far, and what comes to it -/
def pathT (kvs : List (List Int × D)) (r : Nat → Rat) (p : List Int) (f : Nat → Rat) (o : Nat) : Nat → Rat := fun k => f k + r o * ((tOf kvs (p.set o (p.getD o 0 + 1)) k - tOf kvs p k : Int) : Rat)
end TT

set_option Elab.async false
set_option linter.all false
set_option maxRecDepth 100000
set_option autoImplicit false
set_option maxHeartbeats 1000000
namespace TT
open PySem PySem.Spec L2
def perm (o : Nat × Nat × Nat) : Prop := o = (0, 1, 2) ∨ o = (0, 2, 1) ∨ o = (1, 0, 2) ∨ o = (1, 2, 0) ∨ o = (2, 0, 1) ∨ o = (2, 1, 0)
theorem ordr_perm (r : Nat → Rat) : perm (ordr r) := by
  unfold ordr perm
  split <;> split <;> try split
  all_goals simp
def stp (o : Nat) (p : List Int) : List Int := p.set o (p.getD o 0 + 1)
def pathW (kvs : List (List Int × D)) (r : Nat → Rat) (b : List Int) (o : Nat × Nat × Nat) : Nat → Rat := pathT kvs r (stp o.2.1 (stp o.1 b)) (pathT kvs r (stp o.1 b) (pathT kvs r b (fun k => ((tOf kvs b k : Int) : Rat)) o.1) o.2.1) o.2.2
theorem path_mix (kvs : List (List Int × D)) (r : Nat → Rat) (b0 b1 b2 : Int) {o : Nat × Nat × Nat} (h : perm o) (k : Nat) : pathW kvs r [b0, b1, b2] o k = mix kvs [b0, b1, b2] (four r o) k := by
  unfold perm at h
  rcases h with rfl | rfl | rfl | rfl | rfl | rfl
  all_goals
    simp only [pathW, pathT, stp, mix, mixL, four, addP, List.set, List.getD, List.map, List.foldl, List.getElem?_cons_zero, List.getElem?_cons_succ, Option.getD_some, Int.add_zero, Rat.intCast_sub]
    grind
theorem pathT_sz {n m j : Nat} {kvs : List (List Int × D)} (ht : Tab n kvs) {r : Nat → Rat} {o : Nat} (hr : RSz m (r o)) {p : List Int} {f : Nat → Rat} (hf : ∀ k, k < 3 → RSz j (f k)) : ∀ k, k < 3 → RSz (j + m + 23) (pathT kvs r p f o k) := by
  intro k hk
  have i2 : RB (r o) m := ⟨hr⟩
  have f0 : RB (f k) j := ⟨hf k hk⟩
  have zt := fun p k => ztab ht p k
  unfold pathT
  exact (inferInstance : RB (f k + r o * ((tOf kvs (p.set o (p.getD o 0 + 1)) k - tOf kvs p k : Int) : Rat)) _).h.mono (by show _ ≤ j + m + 23; omega)
theorem t_sz {n : Nat} {kvs : List (List Int × D)} (ht : Tab n kvs) (p : List Int) : ∀ k, k < 3 → RSz 11 ((fun k => ((tOf kvs p k : Int) : Rat)) k) := by
  intro k hk
  have zt := fun p k => ztab ht p k
  exact (inferInstance : RB ((tOf kvs p k : Int) : Rat) _).h

end TT

set_option Elab.async false
set_option linter.all false
set_option maxRecDepth 100000
set_option autoImplicit false
set_option maxHeartbeats 1000000
namespace TT
open PySem PySem.Spec L2
/-! ### grids: the plain law of worths -/
theorem far_knot {n : Nat} (h2 : 2 ≤ n) (h7 : n ≤ 7) {a : Int} (h0 : 0 ≤ a) (h1 : a < n) : a * 60 / ((n : Int) - 1) = a * stepOf n := by
  obtain ⟨e, s1, s2⟩ := step_ok h2 h7
  rw [← e, ← Int.mul_assoc]
  exact Int.mul_ediv_cancel _ (by omega)
theorem knot_bd {n : Nat} (h2 : 2 ≤ n) (h7 : n ≤ 7) {a : Int} (h0 : 0 ≤ a) (h1 : a < n) {u : Rat} (hu : u = ((a * 60 / ((n : Int) - 1) : Int) : Rat)) : (0 ≤ u ∧ u ≤ 60) ∧ RSz 30 u := by
  obtain ⟨e, s1, s2⟩ := step_ok h2 h7
  rw [far_knot h2 h7 h0 h1] at hu
  have b0 : 0 ≤ a * stepOf n := Int.mul_nonneg h0 (by omega)
  have b1 : a * stepOf n ≤ 60 := by
    rw [← e, Int.mul_comm (stepOf n)]
    exact Int.mul_le_mul_of_nonneg_right (by omega) (by omega)
  have z : ZB (a * stepOf n) 6 := .of (m := 64) (by omega) (by decide)
  rw [hu]
  refine ⟨⟨by exact_mod_cast b0, by exact_mod_cast b1⟩, ?_⟩
  exact (inferInstance : RB (((a * stepOf n : Int) : Int) : Rat) _).h.mono (by omega)
theorem fourW_sz {n m : Nat} {kvs : List (List Int × D)} (ht : Tab n kvs) {x : Nat → Rat} (hx : Col m x) : ∀ k, k < 3 → RSz (3 * m + 150) (fourW n kvs x k) := by
  intro k hk
  have hr : ∀ k, k < 3 → RSz (m + 12) (restF n x k) := fun k hk => rrest ht.n2 ht.n7 (hx.sz k hk) (hx.bd k hk).1 (hx.bd k hk).2
  obtain ⟨h0, h1, h2⟩ := ordr_lt (restF n x)
  have e : pathW kvs (restF n x) [low n (x 0), low n (x 1), low n (x 2)] (ordr (restF n x)) k = fourW n kvs x k := path_mix kvs _ _ _ _ (ordr_perm _) k
  rw [← e]
  unfold pathW
  exact (pathT_sz ht (hr _ h2) (pathT_sz ht (hr _ h1) (pathT_sz ht (hr _ h0) (t_sz ht _))) k hk).mono (by omega)
theorem wfour_i {n m : Nat} {kvs : List (List Int × D)} {x : Nat → Rat} {q : DV → Prop} {Ed : Str → Prop} (ht : Tab n kvs) (hx : Col m x) (hm : m ≤ 150) (h : q (.v (sh3 (fourW n kvs x)))) : S_Grid_worth [gD n kvs, sh3 x, .str "four"] q Ed := by
  unfold S_Grid_worth
  exact .inl ⟨n, kvs, x, "four", m, rfl, ht, hx, hm, .inl rfl, fun _ => h, fun e => absurd e (by decide +kernel)⟩
theorem grid_i {n : Nat} {kvs : List (List Int × D)} {q : DV → Prop} {Ed : Str → Prop} (ht : Tab n kvs) (h : q (.v (gD n kvs))) : S_Grid___init__ [.int n, .dic kvs] q Ed := by unfold S_Grid___init__; exact .inl ⟨n, kvs, rfl, ht, h⟩
theorem lgrid_i {n : Nat} {q : DV → Prop} {Ed : Str → Prop} (h2 : 2 ≤ n) (h7 : n ≤ 7) (h : ∀ kvs, Tab n kvs → q (.own (.dic kvs))) : S_law_grid [.town, .int n] q Ed := by unfold S_law_grid; exact ⟨n, rfl, ⟨h2, h7⟩, h⟩
end TT

set_option Elab.async false
set_option linter.all false
set_option maxRecDepth 100000
set_option autoImplicit false
set_option maxHeartbeats 1000000
namespace TT
open PySem PySem.Spec L2
/-! ### the nearest -/
def w3f (a b c : Int) : Nat → Int := fun k => if k = 0 then a else if k = 1 then b else c
def wD (w : Nat → Int) : D := .tup [.int (w 0), .int (w 1), .int (w 2)]
def apT (f g : Nat → Rat) (w : Nat → Int) (k : Nat) : Rat := ((w k : Int) : Rat) * ((f k - g k) * (f k - g k))
def apQ (f g : Nat → Rat) (w : Nat → Int) : Rat := ((0 : Int) : Rat) + apT f g w 0 + apT f g w 1 + apT f g w 2
def lev (n : Nat) : List Rat := (List.range n).map fun k => (((k : Nat) * stepOf n : Int) : Rat)
def cols (l : List Rat) : List (Nat → Rat) := l.flatMap fun a => l.flatMap fun b => l.map fun c => f3 a b c
def bst (F : (Nat → Rat) → Rat) (acc : Option ((Nat → Rat) × Rat)) (c : Nat → Rat) : Option ((Nat → Rat) × Rat) := match acc with
  | none => some (c, F c)
  | some (b, m) => if F c < m then some (c, F c) else some (b, m)
def optD : Option ((Nat → Rat) × Rat) → D
  | none => .non
  | some (c, m) => .tup [sh3 c, sh m]
def best (F : (Nat → Rat) → Rat) (n : Nat) : Option ((Nat → Rat) × Rat) := (cols (lev n)).foldl (bst F) none
@[irreducible] def S_look_number : DS := fun ds q _ => ∃ x lo hi : Int, ds = [.int x, .int lo, .int hi] ∧ lo ≤ x ∧ x ≤ hi ∧ q (.v .non)
@[irreducible] def S_look_three : DS := fun ds q _ => ∃ (x : Nat → Rat) (n : Nat), ds = [sh3 x] ∧ (∀ k, k < 3 → RSz n (x k)) ∧ n ≤ 8000 ∧ q (.v .non)
@[irreducible] def S_look_weights : DS := fun ds q _ => ∃ w : Nat → Int, ds = [wD w] ∧ (∀ k, k < 3 → 1 ≤ w k ∧ w k ≤ 100) ∧ q (.v .non)
@[irreducible] def S_levels_of : DS := fun ds q _ => ∃ n : Nat, ds = [.int n] ∧ (2 ≤ n ∧ n ≤ 7) ∧ q (.own (.lst ((lev n).map sh)))
@[irreducible] def S_apart : DS := fun ds q _ => ∃ (f g : Nat → Rat) (w : Nat → Int), ds = [sh3 f, sh3 g, wD w] ∧ (∀ k, k < 3 → RSz 250 (f k)) ∧ (∀ k, k < 3 → RSz 250 (g k)) ∧ (∀ k, k < 3 → 1 ≤ w k ∧ w k ≤ 100) ∧ q (.v (sh (apQ f g w)))
@[irreducible] def S_nearest : DS := fun ds q _ => ∃ (n : Nat) (kvs : List (List Int × D)) (g : Nat → Rat) (l : Nat) (w : Nat → Int), ds = [gD n kvs, sh3 g, .int l, wD w] ∧ Tab n kvs ∧ (∀ k, k < 3 → RSz 250 (g k)) ∧ (2 ≤ l ∧ l ≤ 7) ∧ (∀ k, k < 3 → 1 ≤ w k ∧ w k ≤ 100) ∧ ∀ c m, best (fun c => apQ (fourW n kvs c) g w) l = some (c, m) → q (.v (.tup [sh3 c, sh m]))
@[irreducible] def S_shown_worth : DS := fun ds q _ => ∃ (n : Nat) (kvs : List (List Int × D)) (g : Nat → Rat) (l : Nat) (w : Nat → Int), ds = [gD n kvs, sh3 g, .int l, wD w] ∧ Tab n kvs ∧ (∀ k, k < 3 → RSz 250 (g k)) ∧ (2 ≤ l ∧ l ≤ 7) ∧ (∀ k, k < 3 → 1 ≤ w k ∧ w k ≤ 100) ∧ ∀ c m, best (fun c => apQ (fourW n kvs c) g w) l = some (c, m) → q (.v (sh3 (fourW n kvs c)))
/- look_number(3): 0 1 2 -/
def B_look_number : List Sx := [
  .ifs (.not (.call "is_whole" [false, false, false] S_is_whole [] [.var 0, .var 1, .var 2])) [.raise "BadNumber"] []]
/- look_three(1): 0 1 -/
def B_look_three : List Sx := [
  .ifs (.ors [.not (.isi (.var 0) .tuple), .cmp .ne (.blt .len [.var 0]) (.int 3), .not (.blt .all [.comp [("one", 1)] (.nm 1) (.seq (.var 0)) none (.call "is_share" [false] S_is_share [] [.var 1])])]) [.raise "BadColour"] []]
/- look_weights(1): 0 1 2 -/
def B_look_weights : List Sx := [
  .setv 1 (.ands [.isi (.var 0) .tuple, .cmp .eq (.blt .len [.var 0]) (.int 3)]),
  .ifs (.ors [.not (.var 1), .not (.blt .all [.comp [("one", 2)] (.nm 2) (.seq (.var 0)) none (.call "is_whole" [false, false, false] S_is_whole [] [.var 2, .int 1, .glb "MOST_WEIGHT" (.int 100)])])]) [.raise "BadNumber"] []]
/- levels_of(1): 0 1 -/
def B_levels_of : List Sx := [
  .expr (.call "look_number" [false, false, false] S_look_number [] [.var 0, .int 2, .int 7]),
  .ret (.comp [("k", 1)] (.nm 1) (.rng (.var 0)) none (.tup [.bin .mul (.var 1) (.bin .fdiv (.glb "LEVELS" (.int 60)) (.bin .sub (.var 0) (.int 1))), .int 1]))]
/- apart(3): 0 1 2 3 4 5 -/
def B_apart : List Sx := [
  .setv 3 (.glb "NOUGHT" (.tup [.int 0, .int 1])),
  .forr (.nm 4) (.rng (.int 3)) [.setv 5 (.call "minus" [false, false] S_minus [] [.ix (.var 0) (.var 4), .ix (.var 1) (.var 4)]), .setv 3 (.call "plus" [false, false] S_plus [] [.var 3, .call "times" [false, false] S_times [] [.tup [.ix (.var 2) (.var 4), .int 1], .call "times" [false, false] S_times [] [.var 5, .var 5]]])],
  .ret (.var 3)]
/- far_apart(3): 0 1 2 -/
/- law_far(3): 0 1 2 3 4 5 -/
/- nearest(4): 0 1 2 3 4 5 6 7 8 9 10 -/
def B_nearest : List Sx := [
  .ifs (.not (.p1 (.isc "Grid") (.var 0))) [.raise "BadGrid"] [],
  .expr (.call "look_three" [false] S_look_three [] [.var 1]),
  .setv 4 (.call "levels_of" [false] S_levels_of [] [.var 2]),
  .expr (.call "look_weights" [false] S_look_weights [] [.var 3]),
  .setv 5 (.non),
  .forr (.nm 6) (.seq (.comp3 [("one", 8), ("two", 9), ("three", 10)] (.nm 8) (.seq (.var 4)) none (.nm 9) (.seq (.var 4)) none (.nm 10) (.seq (.var 4)) none (.tup [.var 8, .var 9, .var 10]))) [.setv 7 (.call "apart" [false, false, false] S_apart [] [.meth "Grid" "worth" [false, false] S_Grid_worth [.str "four"] (.var 0) [.var 6], .var 1, .var 3]), .ifs (.ors [.isN (.var 5), .call "is_less" [false, false] S_is_less [] [.var 7, .ix (.var 5) (.int 1)]]) [.setv 5 (.tup [.var 6, .var 7])] []],
  .ret (.var 5)]
/- shown_worth(4): 0 1 2 3 4 5 -/
def B_shown_worth : List Sx := [
  .tgt (.tp [.nm 4, .nm 5]) (.callK "nearest" [false, false, false, false] S_nearest ["levels", "weights"] [] [.var 0, .var 1] [.var 2, .var 3]),
  .ret (.meth "Grid" "worth" [false, false] S_Grid_worth [.str "four"] (.var 0) [.var 4])]

section
variable {q : DV → Prop} {Ed : Str → Prop} {f g : Nat → Rat} {w : Nat → Int}
theorem looknum_i {x lo hi : Int} (h0 : lo ≤ x) (h1 : x ≤ hi) (h : q (.v .non)) : S_look_number [.int x, .int lo, .int hi] q Ed := by unfold S_look_number; exact ⟨x, lo, hi, rfl, h0, h1, h⟩
theorem look3_i {x : Nat → Rat} {n : Nat} (hx : ∀ k, k < 3 → RSz n (x k)) (hn : n ≤ 8000) (h : q (.v .non)) : S_look_three [sh3 x] q Ed := by unfold S_look_three; exact ⟨x, n, rfl, hx, hn, h⟩
theorem lookw_i (hw : ∀ k, k < 3 → 1 ≤ w k ∧ w k ≤ 100) (h : q (.v .non)) : S_look_weights [wD w] q Ed := by unfold S_look_weights; exact ⟨w, rfl, hw, h⟩
theorem levels_i {n : Nat} (h2 : 2 ≤ n) (h7 : n ≤ 7) (h : q (.own (.lst ((lev n).map sh)))) : S_levels_of [.int n] q Ed := by unfold S_levels_of; exact ⟨n, rfl, ⟨h2, h7⟩, h⟩
theorem apart_i (hf : ∀ k, k < 3 → RSz 250 (f k)) (hg : ∀ k, k < 3 → RSz 250 (g k)) (hw : ∀ k, k < 3 → 1 ≤ w k ∧ w k ≤ 100) (h : q (.v (sh (apQ f g w)))) : S_apart [sh3 f, sh3 g, wD w] q Ed := by unfold S_apart; exact ⟨f, g, w, rfl, hf, hg, hw, h⟩
theorem nearest_i {n l : Nat} {kvs : List (List Int × D)} (ht : Tab n kvs) (hg : ∀ k, k < 3 → RSz 250 (g k)) (h2 : 2 ≤ l) (h7 : l ≤ 7) (hw : ∀ k, k < 3 → 1 ≤ w k ∧ w k ≤ 100) (h : ∀ c m, best (fun c => apQ (fourW n kvs c) g w) l = some (c, m) → q (.v (.tup [sh3 c, sh m]))) : S_nearest [gD n kvs, sh3 g, .int l, wD w] q Ed := by unfold S_nearest; exact ⟨n, kvs, g, l, w, rfl, ht, hg, ⟨h2, h7⟩, hw, h⟩
theorem shown_i {n l : Nat} {kvs : List (List Int × D)} (ht : Tab n kvs) (hg : ∀ k, k < 3 → RSz 250 (g k)) (h2 : 2 ≤ l) (h7 : l ≤ 7) (hw : ∀ k, k < 3 → 1 ≤ w k ∧ w k ≤ 100) (h : ∀ c m, best (fun c => apQ (fourW n kvs c) g w) l = some (c, m) → q (.v (sh3 (fourW n kvs c)))) : S_shown_worth [gD n kvs, sh3 g, .int l, wD w] q Ed := by unfold S_shown_worth; exact ⟨n, kvs, g, l, w, rfl, ht, hg, ⟨h2, h7⟩, hw, h⟩
end
theorem vc_look_number : VC 3 [false, false, false] S_look_number B_look_number := by
  intro ds q Ed hl h
  unfold S_look_number at h
  obtain ⟨x, lo, hi, rfl, h0, h1, h⟩ := h
  refine BB.of ?_
  unfold B_look_number
  repeat' first | fail "x" | with_reducible refine x_whole ?_
  all_goals exact h
theorem vc_look_three : VC 2 [false] S_look_three B_look_three := by
  intro ds q Ed hl h
  unfold S_look_three at h
  obtain ⟨x, n, rfl, hx, hn, h⟩ := h
  have i0 : RB (x 0) n := ⟨hx 0 (by decide)⟩
  have i1 : RB (x 1) n := ⟨hx 1 (by decide)⟩
  have i2 : RB (x 2) n := ⟨hx 2 (by decide)⟩
  unfold sh3
  refine BB.of ?_
  unfold B_look_three
  repeat' first | fail "x" | with_reducible refine x_all3 ?_
  all_goals exact h
theorem vc_look_weights : VC 3 [false] S_look_weights B_look_weights := by
  intro ds q Ed hl h
  unfold S_look_weights at h
  obtain ⟨w, rfl, hw, h⟩ := h
  have w0 := hw 0 (by decide)
  have w1 := hw 1 (by decide)
  have w2 := hw 2 (by decide)
  unfold wD
  refine BB.of ?_
  unfold B_look_weights
  repeat' first | fail "x" | with_reducible refine x_whole ?_ | with_reducible refine x_len3T (by with_unfolding_all rfl) ?_
  rw [decide_eq_true w0, decide_eq_true w1, decide_eq_true w2]
  repeat' first | fail "x" | with_reducible refine x_all3 ?_
  all_goals exact h
theorem lev_sz {n : Nat} (h2 : 2 ≤ n) (h7 : n ≤ 7) : ∀ u ∈ lev n, (0 ≤ u ∧ u ≤ 60) ∧ RSz 30 u := by
  intro u hu
  obtain ⟨k, hk, rfl⟩ := List.mem_map.mp hu
  have hk := List.mem_range.mp hk
  have := knot_bd (a := (k : Nat)) h2 h7 (by omega) (by omega) rfl
  rwa [far_knot h2 h7 (by omega) (by omega)] at this
theorem lev_len (n : Nat) : (lev n).length = n := by unfold lev; simp
theorem cols_ok {n : Nat} (h2 : 2 ≤ n) (h7 : n ≤ 7) : ∀ c ∈ cols (lev n), Col 30 c := by
  intro c hc
  unfold cols at hc
  simp only [List.mem_flatMap, List.mem_map] at hc
  obtain ⟨a, ha, b, hb, d, hd, rfl⟩ := hc
  exact col3 (lev_sz h2 h7 a ha) (lev_sz h2 h7 b hb) (lev_sz h2 h7 d hd)
theorem vc_levels_of : VC 2 [false] S_levels_of B_levels_of := by
  intro ds q Ed hl h
  unfold S_levels_of at h
  obtain ⟨n, rfl, ⟨h2, h7⟩, h⟩ := h
  obtain ⟨_, s1, s2⟩ := step_ok h2 h7
  have zn : ZB (n : Int) 3 := ZB.of (m := 8) (by omega) (by decide)
  refine BB.of ?_
  unfold B_levels_of
  repeat' first | fail "x" | with_reducible refine looknum_i (by omega) (by omega) ?_
  rw [show ((n : Int)).toNat = n from by omega]
  refine x_mapR (fun k => sh (((k : Nat) * stepOf n : Int) : Rat)) (fun k hk P hP => ?_) (by omega) ?_
  · have zk : ZB ((k : Nat) : Int) 3 := ZB.of (m := 8) (by omega) (by decide)
    have zs : ZB (60 / ((n : Int) - 1)) 6 := zstep h2 h7
    repeat' first | fail "x" | omega
    exact hP
  · have e : (List.range n).map (fun k => sh (((k : Nat) * stepOf n : Int) : Rat)) = (lev n).map sh := by unfold lev; rw [List.map_map]; rfl
    rw [e]
    repeat' fail "x"
    all_goals exact h
theorem vc_apart : VC 6 [false, false, false] S_apart B_apart := by
  intro ds q Ed hl h
  unfold S_apart at h
  obtain ⟨f, g, w, rfl, hf, hg, hw, h⟩ := h
  have f0 : RB (f 0) 250 := ⟨hf 0 (by decide)⟩
  have f1 : RB (f 1) 250 := ⟨hf 1 (by decide)⟩
  have f2 : RB (f 2) 250 := ⟨hf 2 (by decide)⟩
  have g0 : RB (g 0) 250 := ⟨hg 0 (by decide)⟩
  have g1 : RB (g 1) 250 := ⟨hg 1 (by decide)⟩
  have g2 : RB (g 2) 250 := ⟨hg 2 (by decide)⟩
  have w0 : ZB (w 0) 7 := by have := hw 0 (by decide); exact ZB.of (m := 101) (by omega) (by decide)
  have w1 : ZB (w 1) 7 := by have := hw 1 (by decide); exact ZB.of (m := 101) (by omega) (by decide)
  have w2 : ZB (w 2) 7 := by have := hw 2 (by decide); exact ZB.of (m := 101) (by omega) (by decide)
  unfold sh3 wD
  unfold apQ apT at h
  refine BB.of ?_
  unfold B_apart
  repeat' first | fail "x" | with_reducible refine x_f1 ?_ | with_reducible refine x_f0 ?_
  all_goals exact h
/-! the best of a list -/
theorem bst_some (F : (Nat → Rat) → Rat) : ∀ (l : List (Nat → Rat)) (acc : Option ((Nat → Rat) × Rat)), (∀ c m, acc = some (c, m) → m = F c) → ∀ c m, l.foldl (bst F) acc = some (c, m) → m = F c
  | [], acc, h => h
  | a :: l, acc, h => bst_some F l (bst F acc a) fun c m e => by
    unfold bst at e
    split at e
    · simp only [Option.some.injEq, Prod.mk.injEq] at e
      rw [← e.1, ← e.2]
    · rename_i b m' he
      split at e
      · simp only [Option.some.injEq, Prod.mk.injEq] at e
        rw [← e.1, ← e.2]
      · simp only [Option.some.injEq, Prod.mk.injEq] at e
        obtain ⟨e1, e2⟩ := e
        subst e1 e2
        exact h _ _ rfl
theorem bst_mem (F : (Nat → Rat) → Rat) {p : List (Nat → Rat)} : ∀ (l : List (Nat → Rat)) (acc : Option ((Nat → Rat) × Rat)), (∀ c m, acc = some (c, m) → c ∈ p) → (∀ c ∈ l, c ∈ p) → ∀ c m, l.foldl (bst F) acc = some (c, m) → c ∈ p
  | [], acc, h, _ => h
  | a :: l, acc, h, hl => bst_mem F l (bst F acc a) (fun c m e => by
    unfold bst at e
    split at e
    · simp only [Option.some.injEq, Prod.mk.injEq] at e
      rw [← e.1]; exact hl _ List.mem_cons_self
    · rename_i b m' he
      split at e
      · simp only [Option.some.injEq, Prod.mk.injEq] at e
        rw [← e.1]; exact hl _ List.mem_cons_self
      · simp only [Option.some.injEq, Prod.mk.injEq] at e
        obtain ⟨e1, e2⟩ := e
        subst e1 e2
        exact h _ _ rfl) fun c hc => hl c (List.mem_cons_of_mem _ hc)
theorem bst_isSome (F : (Nat → Rat) → Rat) : ∀ (l : List (Nat → Rat)) (b : (Nat → Rat) × Rat), ∃ c m, l.foldl (bst F) (some b) = some (c, m)
  | [], (c, m) => ⟨c, m, rfl⟩
  | a :: l, (c, m) => by
    rw [List.foldl_cons]
    unfold bst
    dsimp only
    split
    · exact bst_isSome F l _
    · exact bst_isSome F l _
theorem cols_ne {n : Nat} (h2 : 2 ≤ n) : ∃ c r, cols (lev n) = c :: r := by
  have : ∃ a r, lev n = a :: r := by
    cases h : lev n with
    | nil => have := lev_len n; rw [h] at this; simp at this; omega
    | cons a r => exact ⟨a, r, rfl⟩
  obtain ⟨a, r, e⟩ := this
  unfold cols
  rw [e]
  simp
theorem best_some (F : (Nat → Rat) → Rat) {n : Nat} (h2 : 2 ≤ n) : ∃ c m, best F n = some (c, m) := by
  obtain ⟨a, r, e⟩ := cols_ne h2
  unfold best
  rw [e, List.foldl_cons]
  exact bst_isSome F r (a, F a)
theorem best_is {F : (Nat → Rat) → Rat} {n : Nat} {c : Nat → Rat} {m : Rat} (e : best F n = some (c, m)) : m = F c ∧ c ∈ cols (lev n) := ⟨bst_some F _ none (fun _ _ e => by cases e) c m e, bst_mem F _ none (fun _ _ e => by cases e) (fun _ h => h) c m e⟩
theorem apQ_sz {f g : Nat → Rat} {w : Nat → Int} (hf : ∀ k, k < 3 → RSz 250 (f k)) (hg : ∀ k, k < 3 → RSz 250 (g k)) (hw : ∀ k, k < 3 → 1 ≤ w k ∧ w k ≤ 100) : RSz 3200 (apQ f g w) := by
  have f0 : RB (f 0) 250 := ⟨hf 0 (by decide)⟩
  have f1 : RB (f 1) 250 := ⟨hf 1 (by decide)⟩
  have f2 : RB (f 2) 250 := ⟨hf 2 (by decide)⟩
  have g0 : RB (g 0) 250 := ⟨hg 0 (by decide)⟩
  have g1 : RB (g 1) 250 := ⟨hg 1 (by decide)⟩
  have g2 : RB (g 2) 250 := ⟨hg 2 (by decide)⟩
  have w0 : ZB (w 0) 7 := by have := hw 0 (by decide); exact ZB.of (m := 101) (by omega) (by decide)
  have w1 : ZB (w 1) 7 := by have := hw 1 (by decide); exact ZB.of (m := 101) (by omega) (by decide)
  have w2 : ZB (w 2) 7 := by have := hw 2 (by decide); exact ZB.of (m := 101) (by omega) (by decide)
  unfold apQ apT
  have e : RB (((0 : Int) : Rat) + ((w 0 : Int) : Rat) * ((f 0 - g 0) * (f 0 - g 0)) + ((w 1 : Int) : Rat) * ((f 1 - g 1) * (f 1 - g 1)) + ((w 2 : Int) : Rat) * ((f 2 - g 2) * (f 2 - g 2))) 3200 := RB.le inferInstance (by decide)
  exact e.h
/-- one look at a colour: the same by the program and by the law -/
theorem bst_turn {F : (Nat → Rat) → Rat} {acc : Option ((Nat → Rat) × Rat)} {c : Nat → Rat} : bst F acc c = match acc with
  | none => some (c, F c)
  | some (b, m) => if F c < m then some (c, F c) else some (b, m) := rfl
theorem wfour_m {n m : Nat} {kvs : List (List Int × D)} {x : Nat → Rat} {q : DV → Prop} {Ed : Str → Prop} (ht : Tab n kvs) (hx : Col m x) (hm : m ≤ 100) (h : q (.v (sh3 (fourW n kvs x)))) : S_Grid_worth (gD n kvs :: ([sh3 x] ++ [.str "four"])) q Ed := wfour_i ht hx (by omega) h
theorem w250 {n : Nat} {kvs : List (List Int × D)} (ht : Tab n kvs) {x : Nat → Rat} (hx : Col 30 x) : ∀ k, k < 3 → RSz 250 (fourW n kvs x k) := fun k hk => (fourW_sz ht hx k hk).mono (by decide)
theorem x_isG {n : Nat} {kvs : List (List Int × D)} {q : DV → Prop} (h : q (.v (.bl true))) : op1 (.isc "Grid") (gD n kvs) q := ⟨rfl, h⟩
theorem x_isN0 {q : DV → Prop} (h : q (.v (.bl true))) : opNon true (optD none) q := h
theorem x_isN1 {q : DV → Prop} {b : Nat → Rat} {m : Rat} (h : q (.v (.bl false))) : opNon true (optD (some (b, m))) q := h
theorem x_opt1 {q : DV → Prop} {b : Nat → Rat} {m : Rat} (h : q (.v (sh m))) : opIx (optD (some (b, m))) (.int 1) q := x_ixT rfl h
theorem near_turn {Ed : Str → Prop} {kr : DV → Prop} {kb kc nx : Sl → Prop} {n : Nat} {kvs : List (List Int × D)} (ht : Tab n kvs) {g : Nat → Rat} {w : Nat → Int} (hg : ∀ k, k < 3 → RSz 250 (g k)) (hw : ∀ k, k < 3 → 1 ≤ w k ∧ w k ≤ 100) {c : Nat → Rat} (hc : Col 30 c) {acc : Option ((Nat → Rat) × Rat)} (ha : ∀ b m, acc = some (b, m) → RSz 3200 m) {x2 x4 x7 x8 x9 x10 : Option DV}
    (h : ∀ y7, nx [some (.v (gD n kvs)), some (.v (sh3 g)), x2, some (.v (wD w)), x4, some (.v (optD (bst (fun c => apQ (fourW n kvs c) g w) acc c))), some (.v (sh3 c)), y7, x8, x9, x10]) :
    BB Ed [.setv 7 (.call "apart" [false, false, false] S_apart [] [.meth "Grid" "worth" [false, false] S_Grid_worth [.str "four"] (.var 0) [.var 6], .var 1, .var 3]), .ifs (.ors [.isN (.var 5), .call "is_less" [false, false] S_is_less [] [.var 7, .ix (.var 5) (.int 1)]]) [.setv 5 (.tup [.var 6, .var 7])] []] ⟨nx, kr, kb, kc⟩ [some (.v (gD n kvs)), some (.v (sh3 g)), x2, some (.v (wD w)), x4, some (.v (optD acc)), some (.v (sh3 c)), x7, x8, x9, x10] := by
  have rf : RB (apQ (fourW n kvs c) g w) 3200 := ⟨apQ_sz (w250 ht hc) hg hw⟩
  rw [bst_turn] at h
  cases acc with
  | none =>
    repeat' first | fail "x" | with_reducible refine wfour_m ht hc (by decide) ?_ | with_reducible refine apart_i (w250 ht hc) hg hw ?_ | with_reducible refine x_mG (by decide +kernel) ?_ | with_reducible refine x_isN0 ?_
    exact h _
  | some bm =>
    obtain ⟨b, m⟩ := bm
    have rm : RB m 3200 := ⟨ha b m rfl⟩
    dsimp only at h
    repeat' first | fail "x" | with_reducible refine wfour_m ht hc (by decide) ?_ | with_reducible refine apart_i (w250 ht hc) hg hw ?_ | with_reducible refine x_mG (by decide +kernel) ?_ | with_reducible refine x_isN1 ?_ | with_reducible refine x_opt1 ?_
    refine x_di (fun hlt => ?_) (fun hlt => ?_)
    · rw [if_pos hlt] at h
      repeat' fail "x"
      exact h _
    · rw [if_neg hlt] at h
      repeat' fail "x"
      exact h _
theorem fold_sz {F : (Nat → Rat) → Rat} {p : List (Nat → Rat)} (hF : ∀ c ∈ p, RSz 3200 (F c)) : ∀ b m, p.foldl (bst F) none = some (b, m) → RSz 3200 m := fun b m e => by
  have e1 := bst_some F p none (fun _ _ e => by cases e) b m e
  have e2 := bst_mem F (p := p) p none (fun _ _ e => by cases e) (fun _ h => h) b m e
  rw [e1]; exact hF b e2
theorem vc_nearest : VC 11 [false, false, false, false] S_nearest B_nearest := by
  intro ds q Ed hl h
  unfold S_nearest at h
  obtain ⟨n, kvs, g, l, w, rfl, ht, hg, ⟨h2, h7⟩, hw, h⟩ := h
  have hk := cols_ok h2 h7
  have hkl : (cols (lev l)).length ≤ 1000 := by
    have h : ∀ {α : Type} (l : List Rat) (f : Rat → List α) (k : Nat), (∀ a, (f a).length = k) → (l.flatMap f).length = l.length * k := by
      intro α l f k hf
      induction l with
      | nil => simp
      | cons a l ih => rw [List.flatMap_cons, List.length_append, ih, hf, List.length_cons, Nat.succ_mul]; omega
    unfold cols
    rw [h _ _ (l * l) fun a => ?_, lev_len]
    · have := Nat.mul_le_mul h7 (Nat.mul_le_mul h7 h7); omega
    · rw [h _ _ l fun b => ?_, lev_len]
      rw [List.length_map, lev_len]
  refine BB.of ?_
  unfold B_nearest
  repeat' first | fail "x" | with_reducible refine look3_i hg (by decide) ?_ | with_reducible refine levels_i h2 h7 ?_ | with_reducible refine lookw_i hw ?_ | with_reducible refine x_isG ?_
  refine x_comp3 ?_
  refine next_map (l := lev l) sh (fun a => (lev l).flatMap fun b => (lev l).map fun c => sh3 (f3 a b c)) (fun P hP => ?_) (fun a ha acc k hl hk => ?_) ?_ ?_
  · repeat' fail "x"
    all_goals exact hP
  · refine next_map (l := lev l) sh (fun b => (lev l).map fun c => sh3 (f3 a b c)) (fun P hP => ?_) (fun b hb acc k hl hk => ?_) hl hk
    · repeat' fail "x"
      all_goals exact hP
    · refine next_map (l := lev l) sh (fun c => [sh3 (f3 a b c)]) (fun P hP => ?_) (fun c hc acc k hl hk => ?_) ?_ ?_
      · repeat' fail "x"
        all_goals exact hP
      · refine last_map (fun P hP => ?_) (by omega) hk
        repeat' fail "x"
        all_goals exact hP
      · rw [fm1]; exact hl
      · rw [fm1]; exact hk
  · have e : ((lev l).flatMap fun a => (lev l).flatMap fun b => (lev l).map fun c => sh3 (f3 a b c)) = (cols (lev l)).map sh3 := by
      unfold cols
      simp only [List.map_flatMap, List.map_map]
      rfl
    rw [e, List.length_map]
    simp
    omega
  · have e : ((lev l).flatMap fun a => (lev l).flatMap fun b => (lev l).map fun c => sh3 (f3 a b c)) = (cols (lev l)).map sh3 := by
      unfold cols
      simp only [List.map_flatMap, List.map_map]
      rfl
    rw [e, List.nil_append]
    repeat' fail "x"
    refine x_preM sh3 (fun p δ => ∃ x6 x7 x8 x9 x10, δ = [some (.v (gD n kvs)), some (.v (sh3 g)), some (.v (.int l)), some (.v (wD w)), some (.v (.lst ((lev l).map sh))), some (.v (optD (p.foldl (bst (fun c => apQ (fourW n kvs c) g w)) none))), x6, x7, x8, x9, x10]) ⟨_, _, _, _, _, rfl⟩ ?_ ?_
    · rintro p c r e δ ⟨x6, x7, x8, x9, x10, rfl⟩ nx hnx
      have hp : ∀ c ∈ p, RSz 3200 (apQ (fourW n kvs c) g w) := fun c hc => apQ_sz (w250 ht (hk c (by rw [e]; simp [hc]))) hg hw
      refine x_tn ?_
      refine near_turn ht hg hw (hk c (by rw [e]; simp)) (fold_sz (F := fun c => apQ (fourW n kvs c) g w) hp) fun y7 => hnx _ ⟨some (.v (sh3 c)), y7, x8, x9, x10, ?_⟩
      rw [List.foldl_append, List.foldl_cons, List.foldl_nil]
    · rintro δ ⟨x6, x7, x8, x9, x10, rfl⟩
      obtain ⟨c, m, e⟩ := best_some (fun c => apQ (fourW n kvs c) g w) h2
      have h' := h c m e
      unfold best at e
      rw [e]
      repeat' fail "x"
      all_goals exact h'
theorem vc_shown_worth : VC 6 [false, false, false, false] S_shown_worth B_shown_worth := by
  intro ds q Ed hl h
  unfold S_shown_worth at h
  obtain ⟨n, kvs, g, l, w, rfl, ht, hg, ⟨h2, h7⟩, hw, h⟩ := h
  refine BB.of ?_
  unfold B_shown_worth
  repeat' fail "x"
  refine nearest_i ht hg h2 h7 hw fun c m e => ?_
  have hc : Col 30 c := cols_ok h2 h7 c (best_is e).2
  repeat' first | fail "x" | with_reducible refine wfour_m ht hc (by decide) ?_ | with_reducible refine x_mG (by decide +kernel) ?_
  all_goals exact h c m e
end TT

set_option Elab.async false
set_option linter.all false
set_option maxRecDepth 100000
set_option autoImplicit false
set_option maxHeartbeats 1000000
namespace TT
open PySem PySem.Spec L2
/- law(1): 0 1 2 3 4 5 6 7 8 9 10 11 12 -/
def B_law : List Sx := [
  .setv 2 (.mk "Grid" [false, true] S_Grid___init__ [] [.int 2, .call "_law_grid" [false, false] S_law_grid [] [.var 1, .int 2]]),
  .setv 3 (.tup [.call "_law_any_share" [false] S_law_any_share [] [.var 1], .call "_law_any_share" [false] S_law_any_share [] [.var 1], .call "_law_any_share" [false] S_law_any_share [] [.var 1]]),
  .setv 4 (.tup [.bin .add (.int 1) (.call "_law_draw" [false, false] S_draw [] [.var 1, .int 10]), .bin .add (.int 1) (.call "_law_draw" [false, false] S_draw [] [.var 1, .int 10]), .bin .add (.int 1) (.call "_law_draw" [false, false] S_draw [] [.var 1, .int 10])]),
  .setv 5 (.bin .add (.int 1) (.call "_law_draw" [false, false] S_draw [] [.var 1, .int 9])),
  .forr (.tp [.nm 6, .nm 7]) (.seq (.call "_law_pick" [false, false] S_law_pick [] [.var 1, .lst [.lst [.tup [.int 2, .int 3]], .lst [.tup [.int 2, .int 4]], .lst [.tup [.int 3, .int 5]], .lst [.tup [.int 2, .int 3], .tup [.int 2, .int 4]]]])) [.setv 8 (.callK "nearest" [false, false, false, false] S_nearest ["levels", "weights"] [] [.var 2, .var 3] [.var 6, .var 4]), .setv 9 (.callK "nearest" [false, false, false, false] S_nearest ["levels", "weights"] [] [.var 2, .var 3] [.var 7, .var 4]), .ifs (.call "_law_below" [false, false] S_law_below [] [.ix (.var 8) (.int 1), .ix (.var 9) (.int 1)]) [.ret (.bl false)] [], .setv 10 (.callK "nearest" [false, false, false, false] S_nearest ["levels", "weights"] [] [.var 2, .var 3] [.var 6, .blt .tuple [.comp [("_law_one", 8)] (.nm 8) (.seq (.var 4)) none (.bin .mul (.var 5) (.var 8))]]), .ifs (.cmp .ne (.var 10) (.tup [.ix (.var 8) (.int 0), .call "_law_times" [false, false] S_times [] [.ix (.var 8) (.int 1), .tup [.var 5, .int 1]]])) [.ret (.bl false)] [], .setv 11 (.meth "Grid" "worth" [false, false] S_Grid_worth [.str "four"] (.var 2) [.ix (.var 8) (.int 0)]), .setv 12 (.callK "nearest" [false, false, false, false] S_nearest ["levels", "weights"] [] [.var 2, .var 11] [.var 6, .var 4]), .ifs (.ors [.cmp .ne (.ix (.var 12) (.int 1)) (.tup [.int 0, .int 1]), .cmp .ne (.meth "Grid" "worth" [false, false] S_Grid_worth [.str "four"] (.var 2) [.ix (.var 12) (.int 0)]) (.var 11)]) [.ret (.bl false)] [], .ifs (.cmp .ne (.callK "shown_worth" [false, false, false, false] S_shown_worth ["levels", "weights"] [] [.var 2, .var 11] [.var 7, .var 4]) (.var 11)) [.ret (.bl false)] []],
  .ret (.bl true)]

abbrev KL : Kn := ⟨fun _ => False, fun dv => dv = .v (.bl true), fun _ => False, fun _ => False⟩
/-! the plain law -/
theorem bst_le (F : (Nat → Rat) → Rat) : ∀ (l : List (Nat → Rat)) (acc : Option ((Nat → Rat) × Rat)) (c : Nat → Rat) (m : Rat), l.foldl (bst F) acc = some (c, m) → (∀ b m', acc = some (b, m') → m ≤ m') ∧ ∀ c' ∈ l, m ≤ F c'
  | [], acc, c, m, e => by
    refine ⟨fun b m' e' => ?_, by simp⟩
    rw [List.foldl_nil, e'] at e
    simp only [Option.some.injEq, Prod.mk.injEq] at e
    rw [e.2]
    exact Rat.le_refl
  | a :: l, acc, c, m, e => by
    rw [List.foldl_cons] at e
    obtain ⟨h1, h2⟩ := bst_le F l _ c m e
    have h3 : m ≤ F a ∧ ∀ b m', acc = some (b, m') → m ≤ m' := by
      cases acc with
      | none => exact ⟨h1 a (F a) rfl, fun _ _ e => by cases e⟩
      | some bm =>
        obtain ⟨b, m'⟩ := bm
        by_cases hlt : F a < m'
        · have := h1 a (F a) (by unfold bst; dsimp only; rw [if_pos hlt])
          refine ⟨this, fun b2 m2 e2 => ?_⟩
          simp only [Option.some.injEq, Prod.mk.injEq] at e2
          rw [← e2.2]
          exact Rat.le_trans this (Rat.le_of_lt hlt)
        · have := h1 b m' (by unfold bst; dsimp only; rw [if_neg hlt])
          refine ⟨Rat.le_trans this (Rat.not_lt.mp hlt), fun b2 m2 e2 => ?_⟩
          simp only [Option.some.injEq, Prod.mk.injEq] at e2
          rw [← e2.2]
          exact this
    refine ⟨h3.2, fun c' hc' => ?_⟩
    rcases List.mem_cons.mp hc' with rfl | h
    · exact h3.1
    · exact h2 c' h
theorem bst_scale (F : (Nat → Rat) → Rat) {s : Rat} (hs : 0 < s) : ∀ (l : List (Nat → Rat)) (acc : Option ((Nat → Rat) × Rat)), l.foldl (bst fun c => F c * s) (acc.map fun p => (p.1, p.2 * s)) = (l.foldl (bst F) acc).map fun p => (p.1, p.2 * s)
  | [], acc => rfl
  | a :: l, acc => by
    rw [List.foldl_cons, List.foldl_cons, ← bst_scale F hs l]
    congr 1
    cases acc with
    | none => rfl
    | some bm =>
      obtain ⟨b, m⟩ := bm
      unfold bst
      simp only [Option.map_some]
      by_cases hlt : F a < m
      · rw [if_pos hlt, if_pos ((Rat.mul_lt_mul_right hs).mpr hlt)]
        rfl
      · rw [if_neg hlt, if_neg fun z => hlt ((Rat.mul_lt_mul_right hs).mp z)]
        rfl
theorem cols_sub {l l' : List Rat} (h : ∀ u ∈ l, u ∈ l') : ∀ c ∈ cols l, c ∈ cols l' := by
  intro c hc
  unfold cols at hc ⊢
  simp only [List.mem_flatMap, List.mem_map] at hc ⊢
  obtain ⟨a, ha, b, hb, d, hd, rfl⟩ := hc
  exact ⟨a, h a ha, b, h b hb, d, h d hd, rfl⟩
theorem self0 (g : Nat → Rat) (w : Nat → Int) : apQ g g w = ((0 : Int) : Rat) := by unfold apQ apT; grind
theorem sq_nn (x : Rat) : 0 ≤ x * x := by
  by_cases h : 0 ≤ x
  · exact Rat.mul_nonneg h h
  · have h2 : 0 ≤ -x := by grind
    have := Rat.mul_nonneg h2 h2
    grind
theorem apT_nn {f g : Nat → Rat} {w : Nat → Int} {k : Nat} (hw : 1 ≤ w k) : 0 ≤ apT f g w k := by
  unfold apT
  exact Rat.mul_nonneg (by exact_mod_cast (by omega : 0 ≤ w k)) (sq_nn _)
theorem apQ_nn {f g : Nat → Rat} {w : Nat → Int} (hw : ∀ k, k < 3 → 1 ≤ w k ∧ w k ≤ 100) : 0 ≤ apQ f g w := by
  have a := apT_nn (f := f) (g := g) (hw 0 (by decide)).1
  have b := apT_nn (f := f) (g := g) (hw 1 (by decide)).1
  have c := apT_nn (f := f) (g := g) (hw 2 (by decide)).1
  unfold apQ
  grind
theorem apT_zero {f g : Nat → Rat} {w : Nat → Int} {k : Nat} (hw : 1 ≤ w k) (h : apT f g w k = 0) : f k = g k := by
  unfold apT at h
  have hw : ((w k : Int) : Rat) ≠ 0 := by
    have : w k ≠ 0 := by omega
    exact_mod_cast this
  rcases Rat.mul_eq_zero.mp h with h | h
  · exact absurd h hw
  · rcases Rat.mul_eq_zero.mp h with h | h <;> grind
theorem apQ_zero {f g : Nat → Rat} {w : Nat → Int} (hw : ∀ k, k < 3 → 1 ≤ w k ∧ w k ≤ 100) (h : apQ f g w ≤ 0) : f 0 = g 0 ∧ f 1 = g 1 ∧ f 2 = g 2 := by
  have a := apT_nn (f := f) (g := g) (hw 0 (by decide)).1
  have b := apT_nn (f := f) (g := g) (hw 1 (by decide)).1
  have c := apT_nn (f := f) (g := g) (hw 2 (by decide)).1
  unfold apQ at h
  exact ⟨apT_zero (hw 0 (by decide)).1 (by grind), apT_zero (hw 1 (by decide)).1 (by grind), apT_zero (hw 2 (by decide)).1 (by grind)⟩
theorem apQ_scale (f g : Nat → Rat) (w : Nat → Int) (s : Int) : apQ f g (fun k => s * w k) = apQ f g w * (s : Rat) := by
  unfold apQ apT
  simp only [Rat.intCast_mul]
  grind
theorem sh3_congr {f g : Nat → Rat} (h : f 0 = g 0 ∧ f 1 = g 1 ∧ f 2 = g 2) : sh3 f = sh3 g := by unfold sh3; rw [h.1, h.2.1, h.2.2]
structure Pr (a b : Nat) : Prop where
  a2 : 2 ≤ a
  a7 : a ≤ 7
  b2 : 2 ≤ b
  b7 : b ≤ 7
  sub : ∀ u ∈ lev a, u ∈ lev b
theorem pr23 : Pr 2 3 := ⟨by decide, by decide, by decide, by decide, by decide +kernel⟩
theorem pr24 : Pr 2 4 := ⟨by decide, by decide, by decide, by decide, by decide +kernel⟩
theorem pr35 : Pr 3 5 := ⟨by decide, by decide, by decide, by decide, by decide +kernel⟩
def turn32 : List Sx := [.setv 8 (.callK "nearest" [false, false, false, false] S_nearest ["levels", "weights"] [] [.var 2, .var 3] [.var 6, .var 4]), .setv 9 (.callK "nearest" [false, false, false, false] S_nearest ["levels", "weights"] [] [.var 2, .var 3] [.var 7, .var 4]), .ifs (.call "_law_below" [false, false] S_law_below [] [.ix (.var 8) (.int 1), .ix (.var 9) (.int 1)]) [.ret (.bl false)] [], .setv 10 (.callK "nearest" [false, false, false, false] S_nearest ["levels", "weights"] [] [.var 2, .var 3] [.var 6, .blt .tuple [.comp [("_law_one", 8)] (.nm 8) (.seq (.var 4)) none (.bin .mul (.var 5) (.var 8))]]), .ifs (.cmp .ne (.var 10) (.tup [.ix (.var 8) (.int 0), .call "_law_times" [false, false] S_times [] [.ix (.var 8) (.int 1), .tup [.var 5, .int 1]]])) [.ret (.bl false)] [], .setv 11 (.meth "Grid" "worth" [false, false] S_Grid_worth [.str "four"] (.var 2) [.ix (.var 8) (.int 0)]), .setv 12 (.callK "nearest" [false, false, false, false] S_nearest ["levels", "weights"] [] [.var 2, .var 11] [.var 6, .var 4]), .ifs (.ors [.cmp .ne (.ix (.var 12) (.int 1)) (.tup [.int 0, .int 1]), .cmp .ne (.meth "Grid" "worth" [false, false] S_Grid_worth [.str "four"] (.var 2) [.ix (.var 12) (.int 0)]) (.var 11)]) [.ret (.bl false)] [], .ifs (.cmp .ne (.callK "shown_worth" [false, false, false, false] S_shown_worth ["levels", "weights"] [] [.var 2, .var 11] [.var 7, .var 4]) (.var 11)) [.ret (.bl false)] []]
theorem turn_ok {kr : DV → Prop} {kb kc nx : Sl → Prop} {n : Nat} {kvs : List (List Int × D)} (ht : Tab n kvs) {g : Nat → Rat} (hg : ∀ k, k < 3 → RSz 250 (g k)) {w : Nat → Int} {s : Int} (hw : ∀ k, k < 3 → 1 ≤ w k ∧ w k ≤ 10) (hs : 1 ≤ s ∧ s ≤ 9) {a b : Nat} (p : Pr a b) {o0 o8 o9 o10 o11 o12 : Option DV}
    (h : ∀ y8 y9 y10 y11 y12, nx [o0, some (.v .town), some (.v (gD n kvs)), some (.v (sh3 g)), some (.v (wD w)), some (.v (.int s)), some (.v (.int a)), some (.v (.int b)), y8, y9, y10, y11, y12]) :
    BB F0 turn32 ⟨nx, kr, kb, kc⟩ [o0, some (.v .town), some (.v (gD n kvs)), some (.v (sh3 g)), some (.v (wD w)), some (.v (.int s)), some (.v (.int a)), some (.v (.int b)), o8, o9, o10, o11, o12] := by
  obtain ⟨a2, a7, b2, b7, sub⟩ := p
  have hw1 : ∀ k, k < 3 → 1 ≤ w k ∧ w k ≤ 100 := fun k hk => by have := hw k hk; omega
  have hws : ∀ k, k < 3 → 1 ≤ (fun k => s * w k) k ∧ (fun k => s * w k) k ≤ 100 := fun k hk => by
    have := hw k hk
    have h1 : 1 * 1 ≤ s * w k := Int.mul_le_mul hs.1 this.1 (by omega) (by omega)
    have h2 : s * w k ≤ 9 * 10 := Int.mul_le_mul hs.2 this.2 (by omega) (by omega)
    show 1 ≤ s * w k ∧ s * w k ≤ 100
    omega
  obtain ⟨c1, m1, e1⟩ := best_some (fun c => apQ (fourW n kvs c) g w) a2
  obtain ⟨c2, m2, e2⟩ := best_some (fun c => apQ (fourW n kvs c) g w) b2
  obtain ⟨em1, hm1⟩ := best_is e1
  obtain ⟨em2, hm2⟩ := best_is e2
  have hc1 : Col 30 c1 := cols_ok a2 a7 c1 hm1
  have hc2 : Col 30 c2 := cols_ok b2 b7 c2 hm2
  have hm1b := cols_sub sub c1 hm1
  have hf1 := w250 ht hc1
  have z1 : RB m1 3200 := ⟨by rw [em1]; exact apQ_sz hf1 hg hw1⟩
  have z2 : RB m2 3200 := ⟨by rw [em2]; exact apQ_sz (w250 ht hc2) hg hw1⟩
  have le : ¬ m1 < m2 := Rat.not_lt.mpr (by
    have := (bst_le _ _ _ _ _ e2).2 c1 hm1b
    rw [em1]; exact this)
  have hs0 : (0 : Rat) < (s : Rat) := by exact_mod_cast (by omega : 0 < s)
  have zs : ZB s 4 := ZB.of (m := 16) (by omega) (by decide)
  have zw : ∀ k, k < 3 → ZB (w k) 4 := fun k hk => by have := hw k hk; exact ZB.of (m := 16) (by omega) (by decide)
  have zw0 := zw 0 (by decide)
  have zw1 := zw 1 (by decide)
  have zw2 := zw 2 (by decide)
  have n1 : ∀ q : DV → Prop, q (.v (.tup [sh3 c1, sh m1])) → S_nearest ([gD n kvs, sh3 g] ++ ([.int a, wD w] ++ [])) q F0 := fun q hq => nearest_i ht hg a2 a7 hw1 fun c m e => by
    rw [e1] at e
    simp only [Option.some.injEq, Prod.mk.injEq] at e
    rw [← e.1, ← e.2]; exact hq
  have n2 : ∀ q : DV → Prop, q (.v (.tup [sh3 c2, sh m2])) → S_nearest ([gD n kvs, sh3 g] ++ ([.int b, wD w] ++ [])) q F0 := fun q hq => nearest_i ht hg b2 b7 hw1 fun c m e => by
    rw [e2] at e
    simp only [Option.some.injEq, Prod.mk.injEq] at e
    rw [← e.1, ← e.2]; exact hq
  have n3 : ∀ q : DV → Prop, q (.v (.tup [sh3 c1, sh (m1 * (s : Rat))])) → S_nearest ([gD n kvs, sh3 g] ++ ([.int a, .tup [.int (s * w 0), .int (s * w 1), .int (s * w 2)]] ++ [])) q F0 := fun q hq => nearest_i (w := fun k => s * w k) ht hg a2 a7 hws fun c m e => by
    have ef : (fun c => apQ (fourW n kvs c) g fun k => s * w k) = fun c => apQ (fourW n kvs c) g w * (s : Rat) := funext fun c => apQ_scale _ _ _ _
    rw [ef] at e
    unfold best at e e1
    have := bst_scale (fun c => apQ (fourW n kvs c) g w) hs0 (cols (lev a)) none
    rw [Option.map_none, e1, e] at this
    simp only [Option.map_some, Option.some.injEq, Prod.mk.injEq] at this
    rw [this.1, this.2]; exact hq
  have back : ∀ l : Nat, c1 ∈ cols (lev l) → ∀ c m, best (fun c => apQ (fourW n kvs c) (fourW n kvs c1) w) l = some (c, m) → m = ((0 : Int) : Rat) ∧ sh3 (fourW n kvs c) = sh3 (fourW n kvs c1) := fun l hl c m e => by
    have l1 := (bst_le _ _ _ _ _ e).2 c1 hl
    rw [self0] at l1
    have e0 := (best_is e).1
    have l2 : 0 ≤ m := by rw [e0]; exact apQ_nn hw1
    have l1 : m ≤ 0 := l1
    refine ⟨Rat.le_antisymm l1 l2, sh3_congr (apQ_zero hw1 ?_)⟩
    rw [← e0]; exact l1
  obtain ⟨c3, m3, e3⟩ := best_some (fun c => apQ (fourW n kvs c) (fourW n kvs c1) w) a2
  obtain ⟨em3, ew3⟩ := back a hm1 c3 m3 e3
  have hc3 : Col 30 c3 := cols_ok a2 a7 c3 (best_is e3).2
  have n4 : ∀ q : DV → Prop, q (.v (.tup [sh3 c3, sh ((0 : Int) : Rat)])) → S_nearest ([gD n kvs, sh3 (fourW n kvs c1)] ++ ([.int a, wD w] ++ [])) q F0 := fun q hq => nearest_i ht hf1 a2 a7 hw1 fun c m e => by
    rw [e3] at e
    simp only [Option.some.injEq, Prod.mk.injEq] at e
    rw [← e.1, ← e.2, em3]; exact hq
  have n5 : ∀ q : DV → Prop, q (.v (sh3 (fourW n kvs c1))) → S_shown_worth ([gD n kvs, sh3 (fourW n kvs c1)] ++ ([.int b, wD w] ++ [])) q F0 := fun q hq => shown_i ht hf1 b2 b7 hw1 fun c m e => by
    rw [(back b hm1b c m e).2]; exact hq
  have w3 : ∀ q : DV → Prop, q (.v (sh3 (fourW n kvs c1))) → S_Grid_worth (gD n kvs :: ([sh3 c3] ++ [.str "four"])) q F0 := fun q hq => wfour_m ht hc3 (by decide) (by rw [ew3]; exact hq)
  have sq : ∀ (q : List D → Prop), q [.int (w 0), .int (w 1), .int (w 2)] → SQ true (.v (wD w)) q := fun q hq => x_sqT hq
  unfold turn32
  repeat' first | fail "x" | with_reducible refine n1 _ ?_ | with_reducible refine n2 _ ?_ | with_reducible refine n3 _ ?_ | with_reducible refine n4 _ ?_ | with_reducible refine n5 _ ?_ | with_reducible refine wfour_m ht hc1 (by decide) ?_ | with_reducible refine w3 _ ?_ | with_reducible refine sq _ ?_ | with_reducible refine x_mG (by decide +kernel) ?_
  all_goals exact h _ _ _ _ _
theorem loop_ok {n : Nat} {kvs : List (List Int × D)} (ht : Tab n kvs) {g : Nat → Rat} (hg : ∀ k, k < 3 → RSz 250 (g k)) {w : Nat → Int} {s : Int} (hw : ∀ k, k < 3 → 1 ≤ w k ∧ w k ≤ 10) (hs : 1 ≤ s ∧ s ≤ 9) (l : List (Nat × Nat)) (hl : ∀ p ∈ l, Pr p.1 p.2) {o0 o6 o7 o8 o9 o10 o11 o12 : Option DV} :
    FF (.tp [.nm 6, .nm 7]) (BB F0 turn32) ⟨BB F0 [.ret (.bl true)] KL, fun dv => dv = .v (.bl true), fun _ => False, fun _ => False⟩ (l.map fun p : Nat × Nat => D.tup [.int p.1, .int p.2]) [o0, some (.v .town), some (.v (gD n kvs)), some (.v (sh3 g)), some (.v (wD w)), some (.v (.int s)), o6, o7, o8, o9, o10, o11, o12] := by
  refine x_preM (fun p : Nat × Nat => D.tup [.int p.1, .int p.2]) (fun _ δ => ∃ o6 o7 o8 o9 o10 o11 o12, δ = [o0, some (.v .town), some (.v (gD n kvs)), some (.v (sh3 g)), some (.v (wD w)), some (.v (.int s)), o6, o7, o8, o9, o10, o11, o12]) ⟨_, _, _, _, _, _, _, rfl⟩ ?_ ?_
  · rintro p ⟨a, b⟩ r e δ ⟨o6, o7, o8, o9, o10, o11, o12, rfl⟩ nx hnx
    have hp := hl (a, b) (by rw [e]; simp)
    repeat' first | exact turn_ok ht hg hw hs hp fun _ _ _ _ _ => hnx _ ⟨_, _, _, _, _, _, _, rfl⟩ | fail "x"
  · rintro δ ⟨o6, o7, o8, o9, o10, o11, o12, rfl⟩
    repeat' fail "x"
    all_goals rfl
theorem vc_law : LC 13 B_law := by
  have lg : ∀ q : DV → Prop, (∀ kvs, Tab 2 kvs → q (.own (.dic kvs))) → S_law_grid [.town, .int 2] q F0 := fun q hq => lgrid_i (n := 2) (by decide) (by decide) hq
  unfold LC
  refine BB.of ?_
  unfold B_law
  repeat' first | fail "x"
  refine lg _ fun kvs ht => ?_
  have gi : ∀ q : DV → Prop, q (.v (gD 2 kvs)) → S_Grid___init__ [.int 2, .dic kvs] q F0 := fun q hq => grid_i (n := 2) ht hq
  repeat' first | fail "x" | with_reducible refine gi _ ?_
  refine any_share_i fun u hu => ?_
  repeat' first | fail "x"
  refine any_share_i fun v hv => ?_
  repeat' first | fail "x"
  refine any_share_i fun t ht' => ?_
  have hg := f3_all (P := RSz 250) (hu.mono (by decide)) (hv.mono (by decide)) (ht'.mono (by decide))
  repeat' first | fail "x"
  intro a a0 a1
  repeat' first | fail "x"
  intro b b0 b1
  repeat' first | fail "x"
  intro c c0 c1
  have hw : ∀ k, k < 3 → 1 ≤ w3f (1 + a) (1 + b) (1 + c) k ∧ w3f (1 + a) (1 + b) (1 + c) k ≤ 10 := fun k hk => by unfold w3f; split; omega; split <;> omega
  repeat' first | fail "x"
  intro d d0 d1
  have hs : 1 ≤ 1 + d ∧ 1 + d ≤ 9 := by omega
  repeat' first | fail "x"
  intro x hx
  simp only [List.mem_cons, List.not_mem_nil, or_false] at hx
  rcases hx with rfl | rfl | rfl | rfl
  · repeat' first | exact loop_ok ht hg hw hs [(2, 3)] (by intro p hp; simp at hp; subst hp; exact pr23) | fail "x"
  · repeat' first | exact loop_ok ht hg hw hs [(2, 4)] (by intro p hp; simp at hp; subst hp; exact pr24) | fail "x"
  · repeat' first | exact loop_ok ht hg hw hs [(3, 5)] (by intro p hp; simp at hp; subst hp; exact pr35) | fail "x"
  · repeat' first | exact loop_ok ht hg hw hs [(2, 3), (2, 4)] (by intro p hp; simp at hp; rcases hp with rfl | rfl; exact pr23; exact pr24) | fail "x"
end TT
end

set_option Elab.async false
set_option linter.all false
set_option maxRecDepth 100000
set_option autoImplicit false
set_option maxHeartbeats 4000000
namespace TT
open PySem PySem.Spec L2
theorem cs_is_whole : FnScope ["thing", "low", "high"] ["thing", "low", "high"] (defScope s_is_whole) := ⟨rfl, rfl, rfl, by decide +kernel, rfl, by decide +kernel, by decide +kernel⟩
theorem ks_is_whole : chkB ["thing", "low", "high"] (defScope s_is_whole) B_is_whole (defBody s_is_whole) = true := by decide +kernel
theorem cs_look_number : FnScope ["thing", "low", "high"] ["thing", "low", "high"] (defScope s_look_number) := ⟨rfl, rfl, rfl, by decide +kernel, rfl, by decide +kernel, by decide +kernel⟩
theorem ks_look_number : chkB ["thing", "low", "high"] (defScope s_look_number) B_look_number (defBody s_look_number) = true := by decide +kernel
theorem cs_is_int : FnScope ["thing"] ["thing"] (defScope s_is_int) := ⟨rfl, rfl, rfl, by decide +kernel, rfl, by decide +kernel, by decide +kernel⟩
theorem ks_is_int : chkB ["thing"] (defScope s_is_int) B_is_int (defBody s_is_int) = true := by decide +kernel
theorem cs_common_measure : FnScope ["one", "other"] ["one", "other"] (defScope s_common_measure) := ⟨rfl, rfl, rfl, by decide +kernel, rfl, by decide +kernel, by decide +kernel⟩
theorem ks_common_measure : chkB ["one", "other"] (defScope s_common_measure) B_common_measure (defBody s_common_measure) = true := by decide +kernel
theorem cs_lowest : FnScope ["top", "below", "by"] ["top", "below"] (defScope s_lowest) := ⟨rfl, rfl, rfl, by decide +kernel, rfl, by decide +kernel, by decide +kernel⟩
theorem ks_lowest : chkB ["top", "below", "by"] (defScope s_lowest) B_lowest (defBody s_lowest) = true := by decide +kernel
theorem cs_is_share : FnScope ["thing", "one"] ["thing"] (defScope s_is_share) := ⟨rfl, rfl, rfl, by decide +kernel, rfl, by decide +kernel, by decide +kernel⟩
theorem ks_is_share : chkB ["thing", "one"] (defScope s_is_share) B_is_share (defBody s_is_share) = true := by decide +kernel
theorem cs_plus : FnScope ["one", "other"] ["one", "other"] (defScope s_plus) := ⟨rfl, rfl, rfl, by decide +kernel, rfl, by decide +kernel, by decide +kernel⟩
theorem ks_plus : chkB ["one", "other"] (defScope s_plus) B_plus (defBody s_plus) = true := by decide +kernel
theorem cs_minus : FnScope ["one", "other"] ["one", "other"] (defScope s_minus) := ⟨rfl, rfl, rfl, by decide +kernel, rfl, by decide +kernel, by decide +kernel⟩
theorem ks_minus : chkB ["one", "other"] (defScope s_minus) B_minus (defBody s_minus) = true := by decide +kernel
theorem cs_times : FnScope ["one", "other"] ["one", "other"] (defScope s_times) := ⟨rfl, rfl, rfl, by decide +kernel, rfl, by decide +kernel, by decide +kernel⟩
theorem ks_times : chkB ["one", "other"] (defScope s_times) B_times (defBody s_times) = true := by decide +kernel
theorem cs_is_less : FnScope ["one", "other"] ["one", "other"] (defScope s_is_less) := ⟨rfl, rfl, rfl, by decide +kernel, rfl, by decide +kernel, by decide +kernel⟩
theorem ks_is_less : chkB ["one", "other"] (defScope s_is_less) B_is_less (defBody s_is_less) = true := by decide +kernel
theorem cs_is_within : FnScope ["one", "low", "high"] ["one", "low", "high"] (defScope s_is_within) := ⟨rfl, rfl, rfl, by decide +kernel, rfl, by decide +kernel, by decide +kernel⟩
theorem ks_is_within : chkB ["one", "low", "high"] (defScope s_is_within) B_is_within (defBody s_is_within) = true := by decide +kernel
theorem cs_total : FnScope ["shares", "found", "one"] ["shares"] (defScope s_total) := ⟨rfl, rfl, rfl, by decide +kernel, rfl, by decide +kernel, by decide +kernel⟩
theorem ks_total : chkB ["shares", "found", "one"] (defScope s_total) B_total (defBody s_total) = true := by decide +kernel
theorem cs_Grid___init__ : FnScope ["self", "knots", "table", "place", "worth", "fine", "one"] ["self", "knots", "table"] (defScope s_Grid___init__) := ⟨rfl, rfl, rfl, by decide +kernel, rfl, by decide +kernel, by decide +kernel⟩
theorem ks_Grid___init__ : chkB ["self", "knots", "table", "place", "worth", "fine", "one"] (defScope s_Grid___init__) B_Grid___init__ (defBody s_Grid___init__) = true := by decide +kernel
theorem cs_Grid_worth : FnScope ["self", "colour", "way", "base", "rest", "rows"] ["self", "colour", "way"] (defScope s_Grid_worth) := ⟨rfl, rfl, rfl, by decide +kernel, rfl, by decide +kernel, by decide +kernel⟩
theorem ks_Grid_worth : chkB ["self", "colour", "way", "base", "rest", "rows"] (defScope s_Grid_worth) B_Grid_worth (defBody s_Grid_worth) = true := by decide +kernel
theorem cs_Grid_cell : FnScope ["self", "colour", "base", "rest", "one", "far", "low"] ["self", "colour"] (defScope s_Grid_cell) := ⟨rfl, rfl, rfl, by decide +kernel, rfl, by decide +kernel, by decide +kernel⟩
theorem ks_Grid_cell : chkB ["self", "colour", "base", "rest", "one", "far", "low"] (defScope s_Grid_cell) B_Grid_cell (defBody s_Grid_cell) = true := by decide +kernel
theorem cs_Grid_mixed : FnScope ["self", "base", "rows", "found", "k", "parts", "corner", "part", "place", "j"] ["self", "base", "rows"] (defScope s_Grid_mixed) := ⟨rfl, rfl, rfl, by decide +kernel, rfl, by decide +kernel, by decide +kernel⟩
theorem ks_Grid_mixed : chkB ["self", "base", "rows", "found", "k", "parts", "corner", "part", "place", "j"] (defScope s_Grid_mixed) B_Grid_mixed (defBody s_Grid_mixed) = true := by decide +kernel
theorem cs_all_places : FnScope ["knots", "many", "one", "two", "three"] ["knots"] (defScope s_all_places) := ⟨rfl, rfl, rfl, by decide +kernel, rfl, by decide +kernel, by decide +kernel⟩
theorem ks_all_places : chkB ["knots", "many", "one", "two", "three"] (defScope s_all_places) B_all_places (defBody s_all_places) = true := by decide +kernel
theorem cs_look_device : FnScope ["colour", "one"] ["colour"] (defScope s_look_device) := ⟨rfl, rfl, rfl, by decide +kernel, rfl, by decide +kernel, by decide +kernel⟩
theorem ks_look_device : chkB ["colour", "one"] (defScope s_look_device) B_look_device (defBody s_look_device) = true := by decide +kernel
theorem cs_eight_parts : FnScope ["rest", "found", "corner", "part", "k"] ["rest"] (defScope s_eight_parts) := ⟨rfl, rfl, rfl, by decide +kernel, rfl, by decide +kernel, by decide +kernel⟩
theorem ks_eight_parts : chkB ["rest", "found", "corner", "part", "k"] (defScope s_eight_parts) B_eight_parts (defBody s_eight_parts) = true := by decide +kernel
theorem cs_falling : FnScope ["rest", "found", "k", "at"] ["rest"] (defScope s_falling) := ⟨rfl, rfl, rfl, by decide +kernel, rfl, by decide +kernel, by decide +kernel⟩
theorem ks_falling : chkB ["rest", "found", "k", "at"] (defScope s_falling) B_falling (defBody s_falling) = true := by decide +kernel
theorem cs_four_parts : FnScope ["rest", "order", "corner", "found", "k", "less"] ["rest"] (defScope s_four_parts) := ⟨rfl, rfl, rfl, by decide +kernel, rfl, by decide +kernel, by decide +kernel⟩
theorem ks_four_parts : chkB ["rest", "order", "corner", "found", "k", "less"] (defScope s_four_parts) B_four_parts (defBody s_four_parts) = true := by decide +kernel
theorem cs_look_three : FnScope ["colour", "one"] ["colour"] (defScope s_look_three) := ⟨rfl, rfl, rfl, by decide +kernel, rfl, by decide +kernel, by decide +kernel⟩
theorem ks_look_three : chkB ["colour", "one"] (defScope s_look_three) B_look_three (defBody s_look_three) = true := by decide +kernel
theorem cs_look_weights : FnScope ["weights", "fine", "one"] ["weights"] (defScope s_look_weights) := ⟨rfl, rfl, rfl, by decide +kernel, rfl, by decide +kernel, by decide +kernel⟩
theorem ks_look_weights : chkB ["weights", "fine", "one"] (defScope s_look_weights) B_look_weights (defBody s_look_weights) = true := by decide +kernel
theorem cs_apart : FnScope ["one", "other", "weights", "found", "k", "off"] ["one", "other", "weights"] (defScope s_apart) := ⟨rfl, rfl, rfl, by decide +kernel, rfl, by decide +kernel, by decide +kernel⟩
theorem ks_apart : chkB ["one", "other", "weights", "found", "k", "off"] (defScope s_apart) B_apart (defBody s_apart) = true := by decide +kernel
theorem cs_levels_of : FnScope ["many", "k"] ["many"] (defScope s_levels_of) := ⟨rfl, rfl, rfl, by decide +kernel, rfl, by decide +kernel, by decide +kernel⟩
theorem ks_levels_of : chkB ["many", "k"] (defScope s_levels_of) B_levels_of (defBody s_levels_of) = true := by decide +kernel
theorem cs_nearest : FnScope ["grid", "goal", "levels", "weights", "steps", "best", "colour", "far", "one", "two", "three"] ["grid", "goal", "levels", "weights"] (defScope s_nearest) := ⟨rfl, rfl, rfl, by decide +kernel, rfl, by decide +kernel, by decide +kernel⟩
theorem ks_nearest : chkB ["grid", "goal", "levels", "weights", "steps", "best", "colour", "far", "one", "two", "three"] (defScope s_nearest) B_nearest (defBody s_nearest) = true := by decide +kernel
theorem cs_shown_worth : FnScope ["grid", "goal", "levels", "weights", "colour", "far"] ["grid", "goal", "levels", "weights"] (defScope s_shown_worth) := ⟨rfl, rfl, rfl, by decide +kernel, rfl, by decide +kernel, by decide +kernel⟩
theorem ks_shown_worth : chkB ["grid", "goal", "levels", "weights", "colour", "far"] (defScope s_shown_worth) B_shown_worth (defBody s_shown_worth) = true := by decide +kernel
theorem cs_law_pick : FnScope ["_law_town_here", "_law_some"] ["_law_town_here", "_law_some"] (defScope s_law_pick) := ⟨rfl, rfl, rfl, by decide +kernel, rfl, by decide +kernel, by decide +kernel⟩
theorem ks_law_pick : chkB ["_law_town_here", "_law_some"] (defScope s_law_pick) B_law_pick (defBody s_law_pick) = true := by decide +kernel
theorem cs_law_low : FnScope ["_law_one", "_law_two", "_law_a", "_law_b"] ["_law_one", "_law_two"] (defScope s_law_low) := ⟨rfl, rfl, rfl, by decide +kernel, rfl, by decide +kernel, by decide +kernel⟩
theorem ks_law_low : chkB ["_law_one", "_law_two", "_law_a", "_law_b"] (defScope s_law_low) B_law_low (defBody s_law_low) = true := by decide +kernel
theorem cs_law_times : FnScope ["_law_one", "_law_two"] ["_law_one", "_law_two"] (defScope s_law_times) := ⟨rfl, rfl, rfl, by decide +kernel, rfl, by decide +kernel, by decide +kernel⟩
theorem ks_law_times : chkB ["_law_one", "_law_two"] (defScope s_law_times) B_law_times (defBody s_law_times) = true := by decide +kernel
theorem cs_law_below : FnScope ["_law_one", "_law_two"] ["_law_one", "_law_two"] (defScope s_law_below) := ⟨rfl, rfl, rfl, by decide +kernel, rfl, by decide +kernel, by decide +kernel⟩
theorem ks_law_below : chkB ["_law_one", "_law_two"] (defScope s_law_below) B_law_below (defBody s_law_below) = true := by decide +kernel
theorem cs_law_any_share : FnScope ["_law_town_here", "_law_found"] ["_law_town_here"] (defScope s_law_any_share) := ⟨rfl, rfl, rfl, by decide +kernel, rfl, by decide +kernel, by decide +kernel⟩
theorem ks_law_any_share : chkB ["_law_town_here", "_law_found"] (defScope s_law_any_share) B_law_any_share (defBody s_law_any_share) = true := by decide +kernel
theorem cs_law_grid : FnScope ["_law_town_here", "_law_size", "_law_table", "_law_kind", "_law_rows", "_law_a", "_law_b", "_law_c", "_law_worth", "_law_k", "_law_w", "_law_x", "_law_y", "_law_z", "_law_one"] ["_law_town_here", "_law_size"] (defScope s_law_grid) := ⟨rfl, rfl, rfl, by decide +kernel, rfl, by decide +kernel, by decide +kernel⟩
theorem ks_law_grid : chkB ["_law_town_here", "_law_size", "_law_table", "_law_kind", "_law_rows", "_law_a", "_law_b", "_law_c", "_law_worth", "_law_k", "_law_w", "_law_x", "_law_y", "_law_z", "_law_one"] (defScope s_law_grid) B_law_grid (defBody s_law_grid) = true := by decide +kernel
theorem cs_law : FnScope ["_law_script", "_law_town_here", "_law_grid_here", "_law_goal", "_law_heavy", "_law_often", "_law_coarse", "_law_fine", "_law_one", "_law_two", "_law_more", "_law_worth", "_law_again"] ["_law_script"] (defScope s_law) := ⟨rfl, rfl, rfl, by decide +kernel, rfl, by decide +kernel, by decide +kernel⟩
theorem ks_law : chkB ["_law_script", "_law_town_here", "_law_grid_here", "_law_goal", "_law_heavy", "_law_often", "_law_coarse", "_law_fine", "_law_one", "_law_two", "_law_more", "_law_worth", "_law_again"] (defScope s_law) B_law ((defBody s_law).drop 1) = true := by decide +kernel
theorem chain {P : Program} {w : World} {K : PySem.W.Frag} {h : Heap} {mg : Str → Option Value} (X : K.In h) (G : h.Ns mainGlobals mg) (c : He.SaysD faL fnL K) (cx : exL K = true) (base : Heap) : ∀ fd, FunD K "law" "law" (defArgs s_law) (defBody s_law) (defScope s_law) [] [] (He.ga K "law") fd → FnOk P w K mg base (L2.CX P w) 9 (He.ga K "law") fd ["_law_script"] (spLaw K) := by
  have x_BadNumber : ∀ lv, Top.exc ⟨P, w, K, mg, base, lv⟩ "BadNumber" := fun lv => exc_of X G c 32 36 rfl rfl
  have x_BadGrid : ∀ lv, Top.exc ⟨P, w, K, mg, base, lv⟩ "BadGrid" := fun lv => exc_of X G c 33 37 rfl rfl
  have x_BadColour : ∀ lv, Top.exc ⟨P, w, K, mg, base, lv⟩ "BadColour" := fun lv => exc_of X G c 34 38 rfl rfl
  have n_abs : mg "abs" = none := free_of X G c 39 rfl
  have n_all : mg "all" = none := free_of X G c 40 rfl
  have n_bool : mg "bool" = none := free_of X G c 41 rfl
  have n_dict : mg "dict" = none := free_of X G c 42 rfl
  have n_int : mg "int" = none := free_of X G c 43 rfl
  have n_isinstance : mg "isinstance" = none := free_of X G c 44 rfl
  have n_len : mg "len" = none := free_of X G c 45 rfl
  have n_list : mg "list" = none := free_of X G c 46 rfl
  have n_max : mg "max" = none := free_of X G c 47 rfl
  have n_min : mg "min" = none := free_of X G c 48 rfl
  have n_range : mg "range" = none := free_of X G c 49 rfl
  have n_str : mg "str" = none := free_of X G c 50 rfl
  have n_tuple : mg "tuple" = none := free_of X G c 51 rfl
  have g_LEVELS : ∀ lv, Top.glb ⟨P, w, K, mg, base, lv⟩ "LEVELS" (.int (60)) := fun lv => glbI_of X G c 52 rfl
  have g_MOST_WORTH : ∀ lv, Top.glb ⟨P, w, K, mg, base, lv⟩ "MOST_WORTH" (.int (1000)) := fun lv => glbI_of X G c 53 rfl
  have g_MOST_WEIGHT : ∀ lv, Top.glb ⟨P, w, K, mg, base, lv⟩ "MOST_WEIGHT" (.int (100)) := fun lv => glbI_of X G c 54 rfl
  have hC_Grid : mg "Grid" = some (.ref (He.ga K "Grid")) := He.glo_ok X G (c.fact 35 rfl)
  have hl_Grid : Cls K (He.ga K "Grid") := He.cls_ok (c.fact 55 rfl)
  have t_Grid_knots : ∀ lv, Top.att ⟨P, w, K, mg, base, lv⟩ "Grid" "knots" := fun lv => att_of hC_Grid hl_Grid (He.noat_ok (c.fact 57 rfl))
  have t_Grid_step : ∀ lv, Top.att ⟨P, w, K, mg, base, lv⟩ "Grid" "step" := fun lv => att_of hC_Grid hl_Grid (He.noat_ok (c.fact 58 rfl))
  have t_Grid_table : ∀ lv, Top.att ⟨P, w, K, mg, base, lv⟩ "Grid" "table" := fun lv => att_of hC_Grid hl_Grid (He.noat_ok (c.fact 59 rfl))
  unfold exL at cx
  simp only [Bool.and_eq_true] at cx
  have g_NOUGHT : ∀ lv, Top.glb ⟨P, w, K, mg, base, lv⟩ "NOUGHT" (.tup [.int 0, .int 1]) := fun lv => glbT_of X G cx.1.1.1.1.1
  have g_WAYS : ∀ lv, Top.glb ⟨P, w, K, mg, base, lv⟩ "WAYS" (.tup [.str "eight", .str "four"]) := fun lv => glbT_of X G cx.1.1.1.1.2
  have g_ONE : ∀ lv, Top.glb ⟨P, w, K, mg, base, lv⟩ "ONE" (.tup [.int 1, .int 1]) := fun lv => glbT_of X G cx.1.1.1.2
  have i_Grid : ∀ lv, Top.isc ⟨P, w, K, mg, base, lv⟩ "Grid" := fun lv => isc_of hC_Grid hl_Grid n_isinstance cx.1.1.2
  obtain ⟨fdT, FT, kT, bT⟩ := (got_of X G c 0 0 rfl rfl).fun (x := "_law_town") (st := sTown) (ps := ["_law_script"]) (fun _ _ _ _ _ _ us hl => match us, hl with | [_], _ => rfl)
  obtain ⟨fdD, FD, kD, bD⟩ := (got_of X G c 1 1 rfl rfl).fun (x := "_law_draw") (st := sDraw) (ps := ["_law_town_here", "_law_many"]) (fun _ _ _ _ _ _ us hl => match us, hl with | [_, _], _ => rfl)
  have h_draw : FnG P w K mg base 1 "_law_draw" [false, false] S_draw [] := ⟨_, fdD, _, [], [], okDraw FD n_len, (got_of (x := "_law_draw") (st := sDraw) (dfl := []) X G c 1 1 rfl rfl).at_, kD, bD, .nil, fun W => .nil⟩
  have h_is_whole : FnG P w K mg base 1 "is_whole" [false, false, false] S_is_whole [] := g_of (got_of (dfl := []) X G c 2 2 rfl rfl) cs_is_whole rfl B_is_whole ks_is_whole (fun _ _ _ _ _ _ us hl => match us, hl with | [_, _, _], _ => rfl) (by simp only [B_is_whole, okB, okS, okE, okL, okI, okO, ok1, ok2, Top.kins, Top.mes, Top.atts, and_true, true_and, *] <;> and_intros <;> first | assumption | exact True.intro | exact FnG.up (by assumption) (by decide) | exact FnK.up (by assumption) (by decide) | exact MeG.up (by assumption) (by decide) | exact MeK.up (by assumption) (by decide) | exact MkK.up (by assumption) (by decide) | exact MkG.up (by assumption) (by decide) | exact MkP.up (by assumption) (by decide) | exact SupG.up (by assumption) (by decide) | (intro t ht; cases t <;> first | assumption | (simp at ht; done)) | exact x_BadNumber _ | exact x_BadGrid _ | exact x_BadColour _ | exact g_NOUGHT _ | exact g_LEVELS _ | exact g_MOST_WORTH _ | exact g_WAYS _ | exact g_ONE _ | exact g_MOST_WEIGHT _ | exact t_Grid_knots _ | exact t_Grid_step _ | exact t_Grid_table _ | exact i_Grid _ | exact (i_Grid _).2) vc_is_whole
  have h_is_int : FnG P w K mg base 1 "is_int" [false] S_is_int [] := g_of (got_of (dfl := []) X G c 4 4 rfl rfl) cs_is_int rfl B_is_int ks_is_int (fun _ _ _ _ _ _ us hl => match us, hl with | [_], _ => rfl) (by simp only [B_is_int, okB, okS, okE, okL, okI, okO, ok1, ok2, Top.kins, Top.mes, Top.atts, and_true, true_and, *] <;> and_intros <;> first | assumption | exact True.intro | exact FnG.up (by assumption) (by decide) | exact FnK.up (by assumption) (by decide) | exact MeG.up (by assumption) (by decide) | exact MeK.up (by assumption) (by decide) | exact MkK.up (by assumption) (by decide) | exact MkG.up (by assumption) (by decide) | exact MkP.up (by assumption) (by decide) | exact SupG.up (by assumption) (by decide) | (intro t ht; cases t <;> first | assumption | (simp at ht; done)) | exact x_BadNumber _ | exact x_BadGrid _ | exact x_BadColour _ | exact g_NOUGHT _ | exact g_LEVELS _ | exact g_MOST_WORTH _ | exact g_WAYS _ | exact g_ONE _ | exact g_MOST_WEIGHT _ | exact t_Grid_knots _ | exact t_Grid_step _ | exact t_Grid_table _ | exact i_Grid _ | exact (i_Grid _).2) vc_is_int
  have h_common_measure : FnG P w K mg base 1 "common_measure" [false, false] S_common_measure [] := g_of (got_of (dfl := []) X G c 5 5 rfl rfl) cs_common_measure rfl B_common_measure ks_common_measure (fun _ _ _ _ _ _ us hl => match us, hl with | [_, _], _ => rfl) (by simp only [B_common_measure, okB, okS, okE, okL, okI, okO, ok1, ok2, Top.kins, Top.mes, Top.atts, and_true, true_and, *] <;> and_intros <;> first | assumption | exact True.intro | exact FnG.up (by assumption) (by decide) | exact FnK.up (by assumption) (by decide) | exact MeG.up (by assumption) (by decide) | exact MeK.up (by assumption) (by decide) | exact MkK.up (by assumption) (by decide) | exact MkG.up (by assumption) (by decide) | exact MkP.up (by assumption) (by decide) | exact SupG.up (by assumption) (by decide) | (intro t ht; cases t <;> first | assumption | (simp at ht; done)) | exact x_BadNumber _ | exact x_BadGrid _ | exact x_BadColour _ | exact g_NOUGHT _ | exact g_LEVELS _ | exact g_MOST_WORTH _ | exact g_WAYS _ | exact g_ONE _ | exact g_MOST_WEIGHT _ | exact t_Grid_knots _ | exact t_Grid_step _ | exact t_Grid_table _ | exact i_Grid _ | exact (i_Grid _).2) vc_common_measure
  have h_is_less : FnG P w K mg base 1 "is_less" [false, false] S_is_less [] := g_of (got_of (dfl := []) X G c 11 11 rfl rfl) cs_is_less rfl B_is_less ks_is_less (fun _ _ _ _ _ _ us hl => match us, hl with | [_, _], _ => rfl) (by simp only [B_is_less, okB, okS, okE, okL, okI, okO, ok1, ok2, Top.kins, Top.mes, Top.atts, and_true, true_and, *] <;> and_intros <;> first | assumption | exact True.intro | exact FnG.up (by assumption) (by decide) | exact FnK.up (by assumption) (by decide) | exact MeG.up (by assumption) (by decide) | exact MeK.up (by assumption) (by decide) | exact MkK.up (by assumption) (by decide) | exact MkG.up (by assumption) (by decide) | exact MkP.up (by assumption) (by decide) | exact SupG.up (by assumption) (by decide) | (intro t ht; cases t <;> first | assumption | (simp at ht; done)) | exact x_BadNumber _ | exact x_BadGrid _ | exact x_BadColour _ | exact g_NOUGHT _ | exact g_LEVELS _ | exact g_MOST_WORTH _ | exact g_WAYS _ | exact g_ONE _ | exact g_MOST_WEIGHT _ | exact t_Grid_knots _ | exact t_Grid_step _ | exact t_Grid_table _ | exact i_Grid _ | exact (i_Grid _).2) vc_is_less
  have h_is_within : FnG P w K mg base 1 "is_within" [false, false, false] S_is_within [] := g_of (got_of (dfl := []) X G c 12 12 rfl rfl) cs_is_within rfl B_is_within ks_is_within (fun _ _ _ _ _ _ us hl => match us, hl with | [_, _, _], _ => rfl) (by simp only [B_is_within, okB, okS, okE, okL, okI, okO, ok1, ok2, Top.kins, Top.mes, Top.atts, and_true, true_and, *] <;> and_intros <;> first | assumption | exact True.intro | exact FnG.up (by assumption) (by decide) | exact FnK.up (by assumption) (by decide) | exact MeG.up (by assumption) (by decide) | exact MeK.up (by assumption) (by decide) | exact MkK.up (by assumption) (by decide) | exact MkG.up (by assumption) (by decide) | exact MkP.up (by assumption) (by decide) | exact SupG.up (by assumption) (by decide) | (intro t ht; cases t <;> first | assumption | (simp at ht; done)) | exact x_BadNumber _ | exact x_BadGrid _ | exact x_BadColour _ | exact g_NOUGHT _ | exact g_LEVELS _ | exact g_MOST_WORTH _ | exact g_WAYS _ | exact g_ONE _ | exact g_MOST_WEIGHT _ | exact t_Grid_knots _ | exact t_Grid_step _ | exact t_Grid_table _ | exact i_Grid _ | exact (i_Grid _).2) vc_is_within
  have h_all_places : FnG P w K mg base 1 "all_places" [false] S_all_places [] := g_of (got_of (dfl := []) X G c 18 14 rfl rfl) cs_all_places rfl B_all_places ks_all_places (fun _ _ _ _ _ _ us hl => match us, hl with | [_], _ => rfl) (by simp only [B_all_places, okB, okS, okE, okL, okI, okO, ok1, ok2, Top.kins, Top.mes, Top.atts, and_true, true_and, *] <;> and_intros <;> first | assumption | exact True.intro | exact FnG.up (by assumption) (by decide) | exact FnK.up (by assumption) (by decide) | exact MeG.up (by assumption) (by decide) | exact MeK.up (by assumption) (by decide) | exact MkK.up (by assumption) (by decide) | exact MkG.up (by assumption) (by decide) | exact MkP.up (by assumption) (by decide) | exact SupG.up (by assumption) (by decide) | (intro t ht; cases t <;> first | assumption | (simp at ht; done)) | exact x_BadNumber _ | exact x_BadGrid _ | exact x_BadColour _ | exact g_NOUGHT _ | exact g_LEVELS _ | exact g_MOST_WORTH _ | exact g_WAYS _ | exact g_ONE _ | exact g_MOST_WEIGHT _ | exact t_Grid_knots _ | exact t_Grid_step _ | exact t_Grid_table _ | exact i_Grid _ | exact (i_Grid _).2) vc_all_places
  have h_law_low : FnG P w K mg base 1 "_law_low" [false, false] S_lowest [] := g_of (got_of (dfl := []) X G c 30 26 rfl rfl) cs_law_low rfl B_law_low ks_law_low (fun _ _ _ _ _ _ us hl => match us, hl with | [_, _], _ => rfl) (by simp only [B_law_low, okB, okS, okE, okL, okI, okO, ok1, ok2, Top.kins, Top.mes, Top.atts, and_true, true_and, *] <;> and_intros <;> first | assumption | exact True.intro | exact FnG.up (by assumption) (by decide) | exact FnK.up (by assumption) (by decide) | exact MeG.up (by assumption) (by decide) | exact MeK.up (by assumption) (by decide) | exact MkK.up (by assumption) (by decide) | exact MkG.up (by assumption) (by decide) | exact MkP.up (by assumption) (by decide) | exact SupG.up (by assumption) (by decide) | (intro t ht; cases t <;> first | assumption | (simp at ht; done)) | exact x_BadNumber _ | exact x_BadGrid _ | exact x_BadColour _ | exact g_NOUGHT _ | exact g_LEVELS _ | exact g_MOST_WORTH _ | exact g_WAYS _ | exact g_ONE _ | exact g_MOST_WEIGHT _ | exact t_Grid_knots _ | exact t_Grid_step _ | exact t_Grid_table _ | exact i_Grid _ | exact (i_Grid _).2) vc_law_low
  have h_law_below : FnG P w K mg base 1 "_law_below" [false, false] S_law_below [] := g_of (got_of (dfl := []) X G c 32 28 rfl rfl) cs_law_below rfl B_law_below ks_law_below (fun _ _ _ _ _ _ us hl => match us, hl with | [_, _], _ => rfl) (by simp only [B_law_below, okB, okS, okE, okL, okI, okO, ok1, ok2, Top.kins, Top.mes, Top.atts, and_true, true_and, *] <;> and_intros <;> first | assumption | exact True.intro | exact FnG.up (by assumption) (by decide) | exact FnK.up (by assumption) (by decide) | exact MeG.up (by assumption) (by decide) | exact MeK.up (by assumption) (by decide) | exact MkK.up (by assumption) (by decide) | exact MkG.up (by assumption) (by decide) | exact MkP.up (by assumption) (by decide) | exact SupG.up (by assumption) (by decide) | (intro t ht; cases t <;> first | assumption | (simp at ht; done)) | exact x_BadNumber _ | exact x_BadGrid _ | exact x_BadColour _ | exact g_NOUGHT _ | exact g_LEVELS _ | exact g_MOST_WORTH _ | exact g_WAYS _ | exact g_ONE _ | exact g_MOST_WEIGHT _ | exact t_Grid_knots _ | exact t_Grid_step _ | exact t_Grid_table _ | exact i_Grid _ | exact (i_Grid _).2) vc_law_below
  have h_look_number : FnG P w K mg base 2 "look_number" [false, false, false] S_look_number [] := g_of (got_of (dfl := []) X G c 3 3 rfl rfl) cs_look_number rfl B_look_number ks_look_number (fun _ _ _ _ _ _ us hl => match us, hl with | [_, _, _], _ => rfl) (by simp only [B_look_number, okB, okS, okE, okL, okI, okO, ok1, ok2, Top.kins, Top.mes, Top.atts, and_true, true_and, *] <;> and_intros <;> first | assumption | exact True.intro | exact FnG.up (by assumption) (by decide) | exact FnK.up (by assumption) (by decide) | exact MeG.up (by assumption) (by decide) | exact MeK.up (by assumption) (by decide) | exact MkK.up (by assumption) (by decide) | exact MkG.up (by assumption) (by decide) | exact MkP.up (by assumption) (by decide) | exact SupG.up (by assumption) (by decide) | (intro t ht; cases t <;> first | assumption | (simp at ht; done)) | exact x_BadNumber _ | exact x_BadGrid _ | exact x_BadColour _ | exact g_NOUGHT _ | exact g_LEVELS _ | exact g_MOST_WORTH _ | exact g_WAYS _ | exact g_ONE _ | exact g_MOST_WEIGHT _ | exact t_Grid_knots _ | exact t_Grid_step _ | exact t_Grid_table _ | exact i_Grid _ | exact (i_Grid _).2) vc_look_number
  have h_lowest : FnG P w K mg base 2 "lowest" [false, false] S_lowest [] := g_of (got_of (dfl := []) X G c 6 6 rfl rfl) cs_lowest rfl B_lowest ks_lowest (fun _ _ _ _ _ _ us hl => match us, hl with | [_, _], _ => rfl) (by simp only [B_lowest, okB, okS, okE, okL, okI, okO, ok1, ok2, Top.kins, Top.mes, Top.atts, and_true, true_and, *] <;> and_intros <;> first | assumption | exact True.intro | exact FnG.up (by assumption) (by decide) | exact FnK.up (by assumption) (by decide) | exact MeG.up (by assumption) (by decide) | exact MeK.up (by assumption) (by decide) | exact MkK.up (by assumption) (by decide) | exact MkG.up (by assumption) (by decide) | exact MkP.up (by assumption) (by decide) | exact SupG.up (by assumption) (by decide) | (intro t ht; cases t <;> first | assumption | (simp at ht; done)) | exact x_BadNumber _ | exact x_BadGrid _ | exact x_BadColour _ | exact g_NOUGHT _ | exact g_LEVELS _ | exact g_MOST_WORTH _ | exact g_WAYS _ | exact g_ONE _ | exact g_MOST_WEIGHT _ | exact t_Grid_knots _ | exact t_Grid_step _ | exact t_Grid_table _ | exact i_Grid _ | exact (i_Grid _).2) vc_lowest
  obtain ⟨fd14, F14⟩ : ∃ fd, FunD K "__init__" "Grid.__init__" (defArgs s_Grid___init__) (defBody s_Grid___init__) (defScope s_Grid___init__) [] [] (He.ma K (He.ga K "Grid") "__init__") fd := c.def_ 14 rfl
  have o14 : FnOk P w K mg base (L2.CX P w) 2 (He.ma K (He.ga K "Grid") "__init__") fd14 ["self", "knots", "table"] (spI K mg "Grid" [false, true] S_Grid___init__) := f_ofI F14 cs_Grid___init__ rfl rfl B_Grid___init__ ks_Grid___init__ (by simp only [B_Grid___init__, okB, okS, okE, okL, okI, okO, ok1, ok2, Top.kins, Top.mes, Top.atts, and_true, true_and, *] <;> and_intros <;> first | assumption | exact True.intro | exact FnG.up (by assumption) (by decide) | exact FnK.up (by assumption) (by decide) | exact MeG.up (by assumption) (by decide) | exact MeK.up (by assumption) (by decide) | exact MkK.up (by assumption) (by decide) | exact MkG.up (by assumption) (by decide) | exact MkP.up (by assumption) (by decide) | exact SupG.up (by assumption) (by decide) | (intro t ht; cases t <;> first | assumption | (simp at ht; done)) | exact x_BadNumber _ | exact x_BadGrid _ | exact x_BadColour _ | exact g_NOUGHT _ | exact g_LEVELS _ | exact g_MOST_WORTH _ | exact g_WAYS _ | exact g_ONE _ | exact g_MOST_WEIGHT _ | exact t_Grid_knots _ | exact t_Grid_step _ | exact t_Grid_table _ | exact i_Grid _ | exact (i_Grid _).2) vc_Grid_init
  have h_Grid___init__ : MkG P w K mg base 2 "Grid" [false, true] S_Grid___init__ [] := ⟨_, _, fd14, ["self", "knots", "table"], [], [], hC_Grid, He.mkr_ok (c.fact 56 rfl), o14, bi_all (ps := ["self", "knots", "table"]) F14 (fun _ _ _ _ _ _ us hl => match us, hl with | [_, _, _], _ => rfl), .nil, fun W => .nil⟩
  have h_falling : FnG P w K mg base 2 "falling" [false] S_falling [] := g_of (got_of (dfl := []) X G c 21 17 rfl rfl) cs_falling rfl B_falling ks_falling (fun _ _ _ _ _ _ us hl => match us, hl with | [_], _ => rfl) (by simp only [B_falling, okB, okS, okE, okL, okI, okO, ok1, ok2, Top.kins, Top.mes, Top.atts, and_true, true_and, *] <;> and_intros <;> first | assumption | exact True.intro | exact FnG.up (by assumption) (by decide) | exact FnK.up (by assumption) (by decide) | exact MeG.up (by assumption) (by decide) | exact MeK.up (by assumption) (by decide) | exact MkK.up (by assumption) (by decide) | exact MkG.up (by assumption) (by decide) | exact MkP.up (by assumption) (by decide) | exact SupG.up (by assumption) (by decide) | (intro t ht; cases t <;> first | assumption | (simp at ht; done)) | exact x_BadNumber _ | exact x_BadGrid _ | exact x_BadColour _ | exact g_NOUGHT _ | exact g_LEVELS _ | exact g_MOST_WORTH _ | exact g_WAYS _ | exact g_ONE _ | exact g_MOST_WEIGHT _ | exact t_Grid_knots _ | exact t_Grid_step _ | exact t_Grid_table _ | exact i_Grid _ | exact (i_Grid _).2) vc_falling
  have h_look_weights : FnG P w K mg base 2 "look_weights" [false] S_look_weights [] := g_of (got_of (dfl := []) X G c 24 20 rfl rfl) cs_look_weights rfl B_look_weights ks_look_weights (fun _ _ _ _ _ _ us hl => match us, hl with | [_], _ => rfl) (by simp only [B_look_weights, okB, okS, okE, okL, okI, okO, ok1, ok2, Top.kins, Top.mes, Top.atts, and_true, true_and, *] <;> and_intros <;> first | assumption | exact True.intro | exact FnG.up (by assumption) (by decide) | exact FnK.up (by assumption) (by decide) | exact MeG.up (by assumption) (by decide) | exact MeK.up (by assumption) (by decide) | exact MkK.up (by assumption) (by decide) | exact MkG.up (by assumption) (by decide) | exact MkP.up (by assumption) (by decide) | exact SupG.up (by assumption) (by decide) | (intro t ht; cases t <;> first | assumption | (simp at ht; done)) | exact x_BadNumber _ | exact x_BadGrid _ | exact x_BadColour _ | exact g_NOUGHT _ | exact g_LEVELS _ | exact g_MOST_WORTH _ | exact g_WAYS _ | exact g_ONE _ | exact g_MOST_WEIGHT _ | exact t_Grid_knots _ | exact t_Grid_step _ | exact t_Grid_table _ | exact i_Grid _ | exact (i_Grid _).2) vc_look_weights
  have h_law_pick : FnG P w K mg base 2 "_law_pick" [false, false] S_law_pick [] := g_of (got_of (dfl := []) X G c 29 25 rfl rfl) cs_law_pick rfl B_law_pick ks_law_pick (fun _ _ _ _ _ _ us hl => match us, hl with | [_, _], _ => rfl) (by simp only [B_law_pick, okB, okS, okE, okL, okI, okO, ok1, ok2, Top.kins, Top.mes, Top.atts, and_true, true_and, *] <;> and_intros <;> first | assumption | exact True.intro | exact FnG.up (by assumption) (by decide) | exact FnK.up (by assumption) (by decide) | exact MeG.up (by assumption) (by decide) | exact MeK.up (by assumption) (by decide) | exact MkK.up (by assumption) (by decide) | exact MkG.up (by assumption) (by decide) | exact MkP.up (by assumption) (by decide) | exact SupG.up (by assumption) (by decide) | (intro t ht; cases t <;> first | assumption | (simp at ht; done)) | exact x_BadNumber _ | exact x_BadGrid _ | exact x_BadColour _ | exact g_NOUGHT _ | exact g_LEVELS _ | exact g_MOST_WORTH _ | exact g_WAYS _ | exact g_ONE _ | exact g_MOST_WEIGHT _ | exact t_Grid_knots _ | exact t_Grid_step _ | exact t_Grid_table _ | exact i_Grid _ | exact (i_Grid _).2) vc_law_pick
  have h_law_times : FnG P w K mg base 2 "_law_times" [false, false] S_times [] := g_of (got_of (dfl := []) X G c 31 27 rfl rfl) cs_law_times rfl B_law_times ks_law_times (fun _ _ _ _ _ _ us hl => match us, hl with | [_, _], _ => rfl) (by simp only [B_law_times, okB, okS, okE, okL, okI, okO, ok1, ok2, Top.kins, Top.mes, Top.atts, and_true, true_and, *] <;> and_intros <;> first | assumption | exact True.intro | exact FnG.up (by assumption) (by decide) | exact FnK.up (by assumption) (by decide) | exact MeG.up (by assumption) (by decide) | exact MeK.up (by assumption) (by decide) | exact MkK.up (by assumption) (by decide) | exact MkG.up (by assumption) (by decide) | exact MkP.up (by assumption) (by decide) | exact SupG.up (by assumption) (by decide) | (intro t ht; cases t <;> first | assumption | (simp at ht; done)) | exact x_BadNumber _ | exact x_BadGrid _ | exact x_BadColour _ | exact g_NOUGHT _ | exact g_LEVELS _ | exact g_MOST_WORTH _ | exact g_WAYS _ | exact g_ONE _ | exact g_MOST_WEIGHT _ | exact t_Grid_knots _ | exact t_Grid_step _ | exact t_Grid_table _ | exact i_Grid _ | exact (i_Grid _).2) vc_law_times
  have h_law_any_share : FnG P w K mg base 2 "_law_any_share" [false] S_law_any_share [] := g_of (got_of (dfl := []) X G c 33 29 rfl rfl) cs_law_any_share rfl B_law_any_share ks_law_any_share (fun _ _ _ _ _ _ us hl => match us, hl with | [_], _ => rfl) (by simp only [B_law_any_share, okB, okS, okE, okL, okI, okO, ok1, ok2, Top.kins, Top.mes, Top.atts, and_true, true_and, *] <;> and_intros <;> first | assumption | exact True.intro | exact FnG.up (by assumption) (by decide) | exact FnK.up (by assumption) (by decide) | exact MeG.up (by assumption) (by decide) | exact MeK.up (by assumption) (by decide) | exact MkK.up (by assumption) (by decide) | exact MkG.up (by assumption) (by decide) | exact MkP.up (by assumption) (by decide) | exact SupG.up (by assumption) (by decide) | (intro t ht; cases t <;> first | assumption | (simp at ht; done)) | exact x_BadNumber _ | exact x_BadGrid _ | exact x_BadColour _ | exact g_NOUGHT _ | exact g_LEVELS _ | exact g_MOST_WORTH _ | exact g_WAYS _ | exact g_ONE _ | exact g_MOST_WEIGHT _ | exact t_Grid_knots _ | exact t_Grid_step _ | exact t_Grid_table _ | exact i_Grid _ | exact (i_Grid _).2) vc_law_any_share
  have h_law_grid : FnG P w K mg base 2 "_law_grid" [false, false] S_law_grid [] := g_of (got_of (dfl := []) X G c 34 30 rfl rfl) cs_law_grid rfl B_law_grid ks_law_grid (fun _ _ _ _ _ _ us hl => match us, hl with | [_, _], _ => rfl) (by simp only [B_law_grid, okB, okS, okE, okL, okI, okO, ok1, ok2, Top.kins, Top.mes, Top.atts, and_true, true_and, *] <;> and_intros <;> first | assumption | exact True.intro | exact FnG.up (by assumption) (by decide) | exact FnK.up (by assumption) (by decide) | exact MeG.up (by assumption) (by decide) | exact MeK.up (by assumption) (by decide) | exact MkK.up (by assumption) (by decide) | exact MkG.up (by assumption) (by decide) | exact MkP.up (by assumption) (by decide) | exact SupG.up (by assumption) (by decide) | (intro t ht; cases t <;> first | assumption | (simp at ht; done)) | exact x_BadNumber _ | exact x_BadGrid _ | exact x_BadColour _ | exact g_NOUGHT _ | exact g_LEVELS _ | exact g_MOST_WORTH _ | exact g_WAYS _ | exact g_ONE _ | exact g_MOST_WEIGHT _ | exact t_Grid_knots _ | exact t_Grid_step _ | exact t_Grid_table _ | exact i_Grid _ | exact (i_Grid _).2) vc_law_grid
  have h_is_share : FnG P w K mg base 3 "is_share" [false] S_is_share [] := g_of (got_of (dfl := []) X G c 7 7 rfl rfl) cs_is_share rfl B_is_share ks_is_share (fun _ _ _ _ _ _ us hl => match us, hl with | [_], _ => rfl) (by simp only [B_is_share, okB, okS, okE, okL, okI, okO, ok1, ok2, Top.kins, Top.mes, Top.atts, and_true, true_and, *] <;> and_intros <;> first | assumption | exact True.intro | exact FnG.up (by assumption) (by decide) | exact FnK.up (by assumption) (by decide) | exact MeG.up (by assumption) (by decide) | exact MeK.up (by assumption) (by decide) | exact MkK.up (by assumption) (by decide) | exact MkG.up (by assumption) (by decide) | exact MkP.up (by assumption) (by decide) | exact SupG.up (by assumption) (by decide) | (intro t ht; cases t <;> first | assumption | (simp at ht; done)) | exact x_BadNumber _ | exact x_BadGrid _ | exact x_BadColour _ | exact g_NOUGHT _ | exact g_LEVELS _ | exact g_MOST_WORTH _ | exact g_WAYS _ | exact g_ONE _ | exact g_MOST_WEIGHT _ | exact t_Grid_knots _ | exact t_Grid_step _ | exact t_Grid_table _ | exact i_Grid _ | exact (i_Grid _).2) vc_is_share
  have h_plus : FnG P w K mg base 3 "plus" [false, false] S_plus [] := g_of (got_of (dfl := []) X G c 8 8 rfl rfl) cs_plus rfl B_plus ks_plus (fun _ _ _ _ _ _ us hl => match us, hl with | [_, _], _ => rfl) (by simp only [B_plus, okB, okS, okE, okL, okI, okO, ok1, ok2, Top.kins, Top.mes, Top.atts, and_true, true_and, *] <;> and_intros <;> first | assumption | exact True.intro | exact FnG.up (by assumption) (by decide) | exact FnK.up (by assumption) (by decide) | exact MeG.up (by assumption) (by decide) | exact MeK.up (by assumption) (by decide) | exact MkK.up (by assumption) (by decide) | exact MkG.up (by assumption) (by decide) | exact MkP.up (by assumption) (by decide) | exact SupG.up (by assumption) (by decide) | (intro t ht; cases t <;> first | assumption | (simp at ht; done)) | exact x_BadNumber _ | exact x_BadGrid _ | exact x_BadColour _ | exact g_NOUGHT _ | exact g_LEVELS _ | exact g_MOST_WORTH _ | exact g_WAYS _ | exact g_ONE _ | exact g_MOST_WEIGHT _ | exact t_Grid_knots _ | exact t_Grid_step _ | exact t_Grid_table _ | exact i_Grid _ | exact (i_Grid _).2) vc_plus
  have h_times : FnG P w K mg base 3 "times" [false, false] S_times [] := g_of (got_of (dfl := []) X G c 10 10 rfl rfl) cs_times rfl B_times ks_times (fun _ _ _ _ _ _ us hl => match us, hl with | [_, _], _ => rfl) (by simp only [B_times, okB, okS, okE, okL, okI, okO, ok1, ok2, Top.kins, Top.mes, Top.atts, and_true, true_and, *] <;> and_intros <;> first | assumption | exact True.intro | exact FnG.up (by assumption) (by decide) | exact FnK.up (by assumption) (by decide) | exact MeG.up (by assumption) (by decide) | exact MeK.up (by assumption) (by decide) | exact MkK.up (by assumption) (by decide) | exact MkG.up (by assumption) (by decide) | exact MkP.up (by assumption) (by decide) | exact SupG.up (by assumption) (by decide) | (intro t ht; cases t <;> first | assumption | (simp at ht; done)) | exact x_BadNumber _ | exact x_BadGrid _ | exact x_BadColour _ | exact g_NOUGHT _ | exact g_LEVELS _ | exact g_MOST_WORTH _ | exact g_WAYS _ | exact g_ONE _ | exact g_MOST_WEIGHT _ | exact t_Grid_knots _ | exact t_Grid_step _ | exact t_Grid_table _ | exact i_Grid _ | exact (i_Grid _).2) vc_times
  have h_levels_of : FnG P w K mg base 3 "levels_of" [false] S_levels_of [] := g_of (got_of (dfl := []) X G c 26 22 rfl rfl) cs_levels_of rfl B_levels_of ks_levels_of (fun _ _ _ _ _ _ us hl => match us, hl with | [_], _ => rfl) (by simp only [B_levels_of, okB, okS, okE, okL, okI, okO, ok1, ok2, Top.kins, Top.mes, Top.atts, and_true, true_and, *] <;> and_intros <;> first | assumption | exact True.intro | exact FnG.up (by assumption) (by decide) | exact FnK.up (by assumption) (by decide) | exact MeG.up (by assumption) (by decide) | exact MeK.up (by assumption) (by decide) | exact MkK.up (by assumption) (by decide) | exact MkG.up (by assumption) (by decide) | exact MkP.up (by assumption) (by decide) | exact SupG.up (by assumption) (by decide) | (intro t ht; cases t <;> first | assumption | (simp at ht; done)) | exact x_BadNumber _ | exact x_BadGrid _ | exact x_BadColour _ | exact g_NOUGHT _ | exact g_LEVELS _ | exact g_MOST_WORTH _ | exact g_WAYS _ | exact g_ONE _ | exact g_MOST_WEIGHT _ | exact t_Grid_knots _ | exact t_Grid_step _ | exact t_Grid_table _ | exact i_Grid _ | exact (i_Grid _).2) vc_levels_of
  have h_minus : FnG P w K mg base 4 "minus" [false, false] S_minus [] := g_of (got_of (dfl := []) X G c 9 9 rfl rfl) cs_minus rfl B_minus ks_minus (fun _ _ _ _ _ _ us hl => match us, hl with | [_, _], _ => rfl) (by simp only [B_minus, okB, okS, okE, okL, okI, okO, ok1, ok2, Top.kins, Top.mes, Top.atts, and_true, true_and, *] <;> and_intros <;> first | assumption | exact True.intro | exact FnG.up (by assumption) (by decide) | exact FnK.up (by assumption) (by decide) | exact MeG.up (by assumption) (by decide) | exact MeK.up (by assumption) (by decide) | exact MkK.up (by assumption) (by decide) | exact MkG.up (by assumption) (by decide) | exact MkP.up (by assumption) (by decide) | exact SupG.up (by assumption) (by decide) | (intro t ht; cases t <;> first | assumption | (simp at ht; done)) | exact x_BadNumber _ | exact x_BadGrid _ | exact x_BadColour _ | exact g_NOUGHT _ | exact g_LEVELS _ | exact g_MOST_WORTH _ | exact g_WAYS _ | exact g_ONE _ | exact g_MOST_WEIGHT _ | exact t_Grid_knots _ | exact t_Grid_step _ | exact t_Grid_table _ | exact i_Grid _ | exact (i_Grid _).2) vc_minus
  have h_total : FnG P w K mg base 4 "total" [true] S_total [] := g_of (got_of (dfl := []) X G c 13 13 rfl rfl) cs_total rfl B_total ks_total (fun _ _ _ _ _ _ us hl => match us, hl with | [_], _ => rfl) (by simp only [B_total, okB, okS, okE, okL, okI, okO, ok1, ok2, Top.kins, Top.mes, Top.atts, and_true, true_and, *] <;> and_intros <;> first | assumption | exact True.intro | exact FnG.up (by assumption) (by decide) | exact FnK.up (by assumption) (by decide) | exact MeG.up (by assumption) (by decide) | exact MeK.up (by assumption) (by decide) | exact MkK.up (by assumption) (by decide) | exact MkG.up (by assumption) (by decide) | exact MkP.up (by assumption) (by decide) | exact SupG.up (by assumption) (by decide) | (intro t ht; cases t <;> first | assumption | (simp at ht; done)) | exact x_BadNumber _ | exact x_BadGrid _ | exact x_BadColour _ | exact g_NOUGHT _ | exact g_LEVELS _ | exact g_MOST_WORTH _ | exact g_WAYS _ | exact g_ONE _ | exact g_MOST_WEIGHT _ | exact t_Grid_knots _ | exact t_Grid_step _ | exact t_Grid_table _ | exact i_Grid _ | exact (i_Grid _).2) vc_total
  have h_look_device : FnG P w K mg base 4 "look_device" [false] S_look_device [] := g_of (got_of (dfl := []) X G c 19 15 rfl rfl) cs_look_device rfl B_look_device ks_look_device (fun _ _ _ _ _ _ us hl => match us, hl with | [_], _ => rfl) (by simp only [B_look_device, okB, okS, okE, okL, okI, okO, ok1, ok2, Top.kins, Top.mes, Top.atts, and_true, true_and, *] <;> and_intros <;> first | assumption | exact True.intro | exact FnG.up (by assumption) (by decide) | exact FnK.up (by assumption) (by decide) | exact MeG.up (by assumption) (by decide) | exact MeK.up (by assumption) (by decide) | exact MkK.up (by assumption) (by decide) | exact MkG.up (by assumption) (by decide) | exact MkP.up (by assumption) (by decide) | exact SupG.up (by assumption) (by decide) | (intro t ht; cases t <;> first | assumption | (simp at ht; done)) | exact x_BadNumber _ | exact x_BadGrid _ | exact x_BadColour _ | exact g_NOUGHT _ | exact g_LEVELS _ | exact g_MOST_WORTH _ | exact g_WAYS _ | exact g_ONE _ | exact g_MOST_WEIGHT _ | exact t_Grid_knots _ | exact t_Grid_step _ | exact t_Grid_table _ | exact i_Grid _ | exact (i_Grid _).2) vc_look_device
  have h_look_three : FnG P w K mg base 4 "look_three" [false] S_look_three [] := g_of (got_of (dfl := []) X G c 23 19 rfl rfl) cs_look_three rfl B_look_three ks_look_three (fun _ _ _ _ _ _ us hl => match us, hl with | [_], _ => rfl) (by simp only [B_look_three, okB, okS, okE, okL, okI, okO, ok1, ok2, Top.kins, Top.mes, Top.atts, and_true, true_and, *] <;> and_intros <;> first | assumption | exact True.intro | exact FnG.up (by assumption) (by decide) | exact FnK.up (by assumption) (by decide) | exact MeG.up (by assumption) (by decide) | exact MeK.up (by assumption) (by decide) | exact MkK.up (by assumption) (by decide) | exact MkG.up (by assumption) (by decide) | exact MkP.up (by assumption) (by decide) | exact SupG.up (by assumption) (by decide) | (intro t ht; cases t <;> first | assumption | (simp at ht; done)) | exact x_BadNumber _ | exact x_BadGrid _ | exact x_BadColour _ | exact g_NOUGHT _ | exact g_LEVELS _ | exact g_MOST_WORTH _ | exact g_WAYS _ | exact g_ONE _ | exact g_MOST_WEIGHT _ | exact t_Grid_knots _ | exact t_Grid_step _ | exact t_Grid_table _ | exact i_Grid _ | exact (i_Grid _).2) vc_look_three
  obtain ⟨fd16, F16⟩ : ∃ fd, FunD K "cell" "Grid.cell" (defArgs s_Grid_cell) (defBody s_Grid_cell) (defScope s_Grid_cell) [] [] (He.ma K (He.ga K "Grid") "cell") fd := c.def_ 16 rfl
  have o16 : FnOk P w K mg base (L2.CX P w) 5 (He.ma K (He.ga K "Grid") "cell") fd16 ["self", "colour"] (spD K mg [false, false] S_Grid_cell) := f_ofM F16 cs_Grid_cell rfl B_Grid_cell ks_Grid_cell (by simp only [B_Grid_cell, okB, okS, okE, okL, okI, okO, ok1, ok2, Top.kins, Top.mes, Top.atts, and_true, true_and, *] <;> and_intros <;> first | assumption | exact True.intro | exact FnG.up (by assumption) (by decide) | exact FnK.up (by assumption) (by decide) | exact MeG.up (by assumption) (by decide) | exact MeK.up (by assumption) (by decide) | exact MkK.up (by assumption) (by decide) | exact MkG.up (by assumption) (by decide) | exact MkP.up (by assumption) (by decide) | exact SupG.up (by assumption) (by decide) | (intro t ht; cases t <;> first | assumption | (simp at ht; done)) | exact x_BadNumber _ | exact x_BadGrid _ | exact x_BadColour _ | exact g_NOUGHT _ | exact g_LEVELS _ | exact g_MOST_WORTH _ | exact g_WAYS _ | exact g_ONE _ | exact g_MOST_WEIGHT _ | exact t_Grid_knots _ | exact t_Grid_step _ | exact t_Grid_table _ | exact i_Grid _ | exact (i_Grid _).2) vc_Grid_cell
  have h_Grid_cell : MeG P w K mg base 5 "Grid" "cell" [false] S_Grid_cell [] := ⟨_, _, fd16, ["self", "colour"], [], [], hC_Grid, hl_Grid, He.meth_ok (c.fact 61 rfl), o16, bi_all (ps := ["self", "colour"]) F16 (fun _ _ _ _ _ _ us hl => match us, hl with | [_, _], _ => rfl), .nil, fun W => .nil⟩
  obtain ⟨fd17, F17⟩ : ∃ fd, FunD K "mixed" "Grid.mixed" (defArgs s_Grid_mixed) (defBody s_Grid_mixed) (defScope s_Grid_mixed) [] [] (He.ma K (He.ga K "Grid") "mixed") fd := c.def_ 17 rfl
  have o17 : FnOk P w K mg base (L2.CX P w) 5 (He.ma K (He.ga K "Grid") "mixed") fd17 ["self", "base", "rows"] (spD K mg [false, false, false] S_Grid_mixed) := f_ofM F17 cs_Grid_mixed rfl B_Grid_mixed ks_Grid_mixed (by simp only [B_Grid_mixed, okB, okS, okE, okL, okI, okO, ok1, ok2, Top.kins, Top.mes, Top.atts, and_true, true_and, *] <;> and_intros <;> first | assumption | exact True.intro | exact FnG.up (by assumption) (by decide) | exact FnK.up (by assumption) (by decide) | exact MeG.up (by assumption) (by decide) | exact MeK.up (by assumption) (by decide) | exact MkK.up (by assumption) (by decide) | exact MkG.up (by assumption) (by decide) | exact MkP.up (by assumption) (by decide) | exact SupG.up (by assumption) (by decide) | (intro t ht; cases t <;> first | assumption | (simp at ht; done)) | exact x_BadNumber _ | exact x_BadGrid _ | exact x_BadColour _ | exact g_NOUGHT _ | exact g_LEVELS _ | exact g_MOST_WORTH _ | exact g_WAYS _ | exact g_ONE _ | exact g_MOST_WEIGHT _ | exact t_Grid_knots _ | exact t_Grid_step _ | exact t_Grid_table _ | exact i_Grid _ | exact (i_Grid _).2) vc_Grid_mixed
  have h_Grid_mixed : MeG P w K mg base 5 "Grid" "mixed" [false, false] S_Grid_mixed [] := ⟨_, _, fd17, ["self", "base", "rows"], [], [], hC_Grid, hl_Grid, He.meth_ok (c.fact 62 rfl), o17, bi_all (ps := ["self", "base", "rows"]) F17 (fun _ _ _ _ _ _ us hl => match us, hl with | [_, _, _], _ => rfl), .nil, fun W => .nil⟩
  have h_eight_parts : FnG P w K mg base 5 "eight_parts" [false] S_eight_parts [] := g_of (got_of (dfl := []) X G c 20 16 rfl rfl) cs_eight_parts rfl B_eight_parts ks_eight_parts (fun _ _ _ _ _ _ us hl => match us, hl with | [_], _ => rfl) (by simp only [B_eight_parts, okB, okS, okE, okL, okI, okO, ok1, ok2, Top.kins, Top.mes, Top.atts, and_true, true_and, *] <;> and_intros <;> first | assumption | exact True.intro | exact FnG.up (by assumption) (by decide) | exact FnK.up (by assumption) (by decide) | exact MeG.up (by assumption) (by decide) | exact MeK.up (by assumption) (by decide) | exact MkK.up (by assumption) (by decide) | exact MkG.up (by assumption) (by decide) | exact MkP.up (by assumption) (by decide) | exact SupG.up (by assumption) (by decide) | (intro t ht; cases t <;> first | assumption | (simp at ht; done)) | exact x_BadNumber _ | exact x_BadGrid _ | exact x_BadColour _ | exact g_NOUGHT _ | exact g_LEVELS _ | exact g_MOST_WORTH _ | exact g_WAYS _ | exact g_ONE _ | exact g_MOST_WEIGHT _ | exact t_Grid_knots _ | exact t_Grid_step _ | exact t_Grid_table _ | exact i_Grid _ | exact (i_Grid _).2) vc_eight_parts
  have h_four_parts : FnG P w K mg base 5 "four_parts" [false] S_four_parts [] := g_of (got_of (dfl := []) X G c 22 18 rfl rfl) cs_four_parts rfl B_four_parts ks_four_parts (fun _ _ _ _ _ _ us hl => match us, hl with | [_], _ => rfl) (by simp only [B_four_parts, okB, okS, okE, okL, okI, okO, ok1, ok2, Top.kins, Top.mes, Top.atts, and_true, true_and, *] <;> and_intros <;> first | assumption | exact True.intro | exact FnG.up (by assumption) (by decide) | exact FnK.up (by assumption) (by decide) | exact MeG.up (by assumption) (by decide) | exact MeK.up (by assumption) (by decide) | exact MkK.up (by assumption) (by decide) | exact MkG.up (by assumption) (by decide) | exact MkP.up (by assumption) (by decide) | exact SupG.up (by assumption) (by decide) | (intro t ht; cases t <;> first | assumption | (simp at ht; done)) | exact x_BadNumber _ | exact x_BadGrid _ | exact x_BadColour _ | exact g_NOUGHT _ | exact g_LEVELS _ | exact g_MOST_WORTH _ | exact g_WAYS _ | exact g_ONE _ | exact g_MOST_WEIGHT _ | exact t_Grid_knots _ | exact t_Grid_step _ | exact t_Grid_table _ | exact i_Grid _ | exact (i_Grid _).2) vc_four_parts
  have h_apart : FnG P w K mg base 5 "apart" [false, false, false] S_apart [] := g_of (got_of (dfl := []) X G c 25 21 rfl rfl) cs_apart rfl B_apart ks_apart (fun _ _ _ _ _ _ us hl => match us, hl with | [_, _, _], _ => rfl) (by simp only [B_apart, okB, okS, okE, okL, okI, okO, ok1, ok2, Top.kins, Top.mes, Top.atts, and_true, true_and, *] <;> and_intros <;> first | assumption | exact True.intro | exact FnG.up (by assumption) (by decide) | exact FnK.up (by assumption) (by decide) | exact MeG.up (by assumption) (by decide) | exact MeK.up (by assumption) (by decide) | exact MkK.up (by assumption) (by decide) | exact MkG.up (by assumption) (by decide) | exact MkP.up (by assumption) (by decide) | exact SupG.up (by assumption) (by decide) | (intro t ht; cases t <;> first | assumption | (simp at ht; done)) | exact x_BadNumber _ | exact x_BadGrid _ | exact x_BadColour _ | exact g_NOUGHT _ | exact g_LEVELS _ | exact g_MOST_WORTH _ | exact g_WAYS _ | exact g_ONE _ | exact g_MOST_WEIGHT _ | exact t_Grid_knots _ | exact t_Grid_step _ | exact t_Grid_table _ | exact i_Grid _ | exact (i_Grid _).2) vc_apart
  obtain ⟨fd15, F15⟩ : ∃ fd, FunD K "worth" "Grid.worth" (defArgs s_Grid_worth) (defBody s_Grid_worth) (defScope s_Grid_worth) [] [("way", .str "four")] (He.ma K (He.ga K "Grid") "worth") fd := c.def_ 15 rfl
  have o15 : FnOk P w K mg base (L2.CX P w) 6 (He.ma K (He.ga K "Grid") "worth") fd15 ["self", "colour", "way"] (spD K mg [false, false, false] S_Grid_worth) := f_ofM F15 cs_Grid_worth rfl B_Grid_worth ks_Grid_worth (by simp only [B_Grid_worth, okB, okS, okE, okL, okI, okO, ok1, ok2, Top.kins, Top.mes, Top.atts, and_true, true_and, *] <;> and_intros <;> first | assumption | exact True.intro | exact FnG.up (by assumption) (by decide) | exact FnK.up (by assumption) (by decide) | exact MeG.up (by assumption) (by decide) | exact MeK.up (by assumption) (by decide) | exact MkK.up (by assumption) (by decide) | exact MkG.up (by assumption) (by decide) | exact MkP.up (by assumption) (by decide) | exact SupG.up (by assumption) (by decide) | (intro t ht; cases t <;> first | assumption | (simp at ht; done)) | exact x_BadNumber _ | exact x_BadGrid _ | exact x_BadColour _ | exact g_NOUGHT _ | exact g_LEVELS _ | exact g_MOST_WORTH _ | exact g_WAYS _ | exact g_ONE _ | exact g_MOST_WEIGHT _ | exact t_Grid_knots _ | exact t_Grid_step _ | exact t_Grid_table _ | exact i_Grid _ | exact (i_Grid _).2) vc_Grid_worth
  have h_Grid_worth : MeK P w K mg base 6 "Grid" "worth" 1 ["way"] [false, false] S_Grid_worth [] := ⟨_, _, fd15, ["self", "colour", "way"], _, [], hC_Grid, hl_Grid, He.meth_ok (c.fact 60 rfl), o15, kb_all (ps := ["self", "colour", "way"]) (ks := ["way"]) (n := 2) F15 (fun _ _ _ _ _ _ us ws h1 h2 => match us, ws, h1, h2 with | [_, _], [_], _, _ => rfl), fun W => .nil⟩
  obtain ⟨d15, v15, b15⟩ := F15.binds0 (ps := ["self", "colour", "way"]) 2 (by simp) rfl (fun _ _ _ _ _ _ us ks h1 h2 => match us, ks, h1, h2 with | [_, _], [_], _, _ => ⟨_, _, _, _, _, _, rfl, rfl, rfl⟩)
  have h_Grid_worth1 : MeG P w K mg base 6 "Grid" "worth" [false, false] S_Grid_worth [.str "four"] := ⟨_, _, fd15, ["self", "colour", "way"], d15, [.str "four"], hC_Grid, hl_Grid, He.meth_ok (c.fact 60 rfl), o15, b15, v15, fun W => .cons (.str _) (.nil)⟩
  obtain ⟨fd27, F27⟩ : ∃ fd, FunD K "nearest" "nearest" (defArgs s_nearest) (defBody s_nearest) (defScope s_nearest) [] [("levels", .int 3), ("weights", .ref ((kwAt ("nearest", none) "weights") K))] (He.ga K "nearest") fd := c.def_ 27 rfl
  have a27 : mg "nearest" = some (.ref (He.ga K "nearest")) := He.glo_ok X G (c.fact 23 rfl)
  have o27 : FnOk P w K mg base (L2.CX P w) 7 (He.ga K "nearest") fd27 ["grid", "goal", "levels", "weights"] (spD K mg [false, false, false, false] S_nearest) := f_ofM F27 cs_nearest rfl B_nearest ks_nearest (by simp only [B_nearest, okB, okS, okE, okL, okI, okO, ok1, ok2, Top.kins, Top.mes, Top.atts, and_true, true_and, *] <;> and_intros <;> first | assumption | exact True.intro | exact FnG.up (by assumption) (by decide) | exact FnK.up (by assumption) (by decide) | exact MeG.up (by assumption) (by decide) | exact MeK.up (by assumption) (by decide) | exact MkK.up (by assumption) (by decide) | exact MkG.up (by assumption) (by decide) | exact MkP.up (by assumption) (by decide) | exact SupG.up (by assumption) (by decide) | (intro t ht; cases t <;> first | assumption | (simp at ht; done)) | exact x_BadNumber _ | exact x_BadGrid _ | exact x_BadColour _ | exact g_NOUGHT _ | exact g_LEVELS _ | exact g_MOST_WORTH _ | exact g_WAYS _ | exact g_ONE _ | exact g_MOST_WEIGHT _ | exact t_Grid_knots _ | exact t_Grid_step _ | exact t_Grid_table _ | exact i_Grid _ | exact (i_Grid _).2) vc_nearest
  have h_nearest : FnK P w K mg base 7 "nearest" 2 ["levels", "weights"] [false, false, false, false] S_nearest [] := ⟨_, fd27, ["grid", "goal", "levels", "weights"], _, [], o27, a27, F27.kp, kb_all (ps := ["grid", "goal", "levels", "weights"]) (ks := ["levels", "weights"]) (n := 2) F27 (fun _ _ _ _ _ _ us ws h1 h2 => match us, ws, h1, h2 with | [_, _], [_, _], _, _ => rfl), fun W => .nil⟩
  obtain ⟨d27, v27, b27⟩ := F27.binds0 (ps := ["grid", "goal", "levels", "weights"]) 2 (by simp) rfl (fun _ _ _ _ _ _ us ks h1 h2 => match us, ks, h1, h2 with | [_, _], [_, _], _, _ => ⟨_, _, _, _, _, _, rfl, rfl, ⟨_, _, _, _, _, _, rfl, rfl, rfl⟩⟩)
  have h_nearest1 : FnG P w K mg base 7 "nearest" [false, false, false, false] S_nearest [.int 3, .tup [.int 1, .int 1, .int 1]] := ⟨_, fd27, ["grid", "goal", "levels", "weights"], d27, [.int 3, .ref ((kwAt ("nearest", none) "weights") K)], o27, a27, F27.kp, b27, v27, fun W => .cons (.int 3) (.cons (flatA_one cx.1.2 W) (.nil))⟩
  obtain ⟨fd28, F28⟩ : ∃ fd, FunD K "shown_worth" "shown_worth" (defArgs s_shown_worth) (defBody s_shown_worth) (defScope s_shown_worth) [] [("levels", .int 3), ("weights", .ref ((kwAt ("shown_worth", none) "weights") K))] (He.ga K "shown_worth") fd := c.def_ 28 rfl
  have a28 : mg "shown_worth" = some (.ref (He.ga K "shown_worth")) := He.glo_ok X G (c.fact 24 rfl)
  have o28 : FnOk P w K mg base (L2.CX P w) 8 (He.ga K "shown_worth") fd28 ["grid", "goal", "levels", "weights"] (spD K mg [false, false, false, false] S_shown_worth) := f_ofM F28 cs_shown_worth rfl B_shown_worth ks_shown_worth (by simp only [B_shown_worth, okB, okS, okE, okL, okI, okO, ok1, ok2, Top.kins, Top.mes, Top.atts, and_true, true_and, *] <;> and_intros <;> first | assumption | exact True.intro | exact FnG.up (by assumption) (by decide) | exact FnK.up (by assumption) (by decide) | exact MeG.up (by assumption) (by decide) | exact MeK.up (by assumption) (by decide) | exact MkK.up (by assumption) (by decide) | exact MkG.up (by assumption) (by decide) | exact MkP.up (by assumption) (by decide) | exact SupG.up (by assumption) (by decide) | (intro t ht; cases t <;> first | assumption | (simp at ht; done)) | exact x_BadNumber _ | exact x_BadGrid _ | exact x_BadColour _ | exact g_NOUGHT _ | exact g_LEVELS _ | exact g_MOST_WORTH _ | exact g_WAYS _ | exact g_ONE _ | exact g_MOST_WEIGHT _ | exact t_Grid_knots _ | exact t_Grid_step _ | exact t_Grid_table _ | exact i_Grid _ | exact (i_Grid _).2) vc_shown_worth
  have h_shown_worth : FnK P w K mg base 8 "shown_worth" 2 ["levels", "weights"] [false, false, false, false] S_shown_worth [] := ⟨_, fd28, ["grid", "goal", "levels", "weights"], _, [], o28, a28, F28.kp, kb_all (ps := ["grid", "goal", "levels", "weights"]) (ks := ["levels", "weights"]) (n := 2) F28 (fun _ _ _ _ _ _ us ws h1 h2 => match us, ws, h1, h2 with | [_, _], [_, _], _, _ => rfl), fun W => .nil⟩
  obtain ⟨d28, v28, b28⟩ := F28.binds0 (ps := ["grid", "goal", "levels", "weights"]) 2 (by simp) rfl (fun _ _ _ _ _ _ us ks h1 h2 => match us, ks, h1, h2 with | [_, _], [_, _], _, _ => ⟨_, _, _, _, _, _, rfl, rfl, ⟨_, _, _, _, _, _, rfl, rfl, rfl⟩⟩)
  have h_shown_worth1 : FnG P w K mg base 8 "shown_worth" [false, false, false, false] S_shown_worth [.int 3, .tup [.int 1, .int 1, .int 1]] := ⟨_, fd28, ["grid", "goal", "levels", "weights"], d28, [.int 3, .ref ((kwAt ("shown_worth", none) "weights") K)], o28, a28, F28.kp, b28, v28, fun W => .cons (.int 3) (.cons (flatA_one cx.2 W) (.nil))⟩
  exact law_of (lv := 8) (got_of (dfl := []) X G c 35 31 rfl rfl) (fun _ _ _ _ _ _ us hl => match us, hl with | [_], _ => rfl) rfl rfl cs_law rfl rfl (by decide +kernel) (by decide +kernel) (by decide +kernel) (by decide +kernel) (by decide +kernel) (FnOk.mono (okTown (lv := 0) FT n_list) (by decide)) (got_of (x := "_law_town") (st := sTown) (dfl := []) X G c 0 0 rfl rfl).at_ kT bT B_law ks_law (by simp only [B_law, okB, okS, okE, okL, okI, okO, ok1, ok2, Top.kins, Top.mes, Top.atts, and_true, true_and, *] <;> and_intros <;> first | assumption | exact True.intro | exact FnG.up (by assumption) (by decide) | exact FnK.up (by assumption) (by decide) | exact MeG.up (by assumption) (by decide) | exact MeK.up (by assumption) (by decide) | exact MkK.up (by assumption) (by decide) | exact MkG.up (by assumption) (by decide) | exact MkP.up (by assumption) (by decide) | exact SupG.up (by assumption) (by decide) | (intro t ht; cases t <;> first | assumption | (simp at ht; done)) | exact x_BadNumber _ | exact x_BadGrid _ | exact x_BadColour _ | exact g_NOUGHT _ | exact g_LEVELS _ | exact g_MOST_WORTH _ | exact g_WAYS _ | exact g_ONE _ | exact g_MOST_WEIGHT _ | exact t_Grid_knots _ | exact t_Grid_step _ | exact t_Grid_table _ | exact i_Grid _ | exact (i_Grid _).2) vc_law
theorem tailL {l : PySem.W.OpenLaw} (hl : l = PySem.Challenge.rw_tintroads_k32_whole_finer) {q : Program} {loose : List Str} {XP : (Str → Option Value) → Heap → Prop} {d : DefRec} (hdf : d.params.defaults = []) (hnm : d.name = ("law" : Str)) : PySem.W.WalkO q loose XP (hkL.says) l.row.toRowW d [] (fun f vs => PySem.call f vs) := by
  subst hl
  refine walkW (n := 63) (k := 9) (x := "_law_script") rfl (by decide) (by decide) hdf ⟨rfl, by decide, by decide⟩ ?_
  intro w mg fa h Y G hm
  obtain ⟨K, KX, cX⟩ := Y
  have c := He.SaysT.d cX.t
  rw [hnm] at hm
  have gl := got_of (x := "law") (st := s_law) (dfl := []) KX G c 35 31 rfl rfl
  cases hm.symm.trans gl.at_
  obtain ⟨fd, F⟩ := gl.fn
  have b := FunD.bindsA (ps := ["_law_script"]) F (fun _ _ _ _ _ _ us hl => match us, hl with | [_], _ => rfl)
  exact ⟨K, KX, fd, fun s v => b s [v] rfl, fun base _ _ => chain KX G c cX.more base fd F⟩
end TT
theorem PySem.Challenge.cw_tintroads_k32_whole_finer_holds : PySem.Challenge.rw_tintroads_k32_whole_finer.Holds :=
  TT.earlyL TT.tailL
