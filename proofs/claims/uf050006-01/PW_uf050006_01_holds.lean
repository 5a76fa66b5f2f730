import PyProof.Rows.All
import PyProof.RulesRaise
import PyProof.Comp
import PyProof.AutoListH
import PyProof.FactsAll.range_1
import PyProof.Cells
import PyProof.PlainList
import PyProof.ConsumeWalk
import PyProof.CompFree
import PyProof.Conv_int_bool
import PyProof.MeetsSeq
import PyProof.DictList
import PyProof.DictIter
import PyProof.EqAt
import PyProof.Rows.EqNone
import PyProof.EqKinds
import PyProof.EqLayable
import PyProof.IsiBase
import PyProof.ExcClass2
import PyProof.ExcQuiet
import PyProof.ExcArgsOwn
import PyProof.ExcBaseAll.ValueError
import PyProof.ExcAttrAll.ValueError
import PyProof.RaisesMany
import PyProof.StrOps2
import PyProof.StrBlock
import PyProof.RangeFor
import PyProof.IsInstance
import PyProof.IsiHeapPairs
import PyProof.IsiNone
import PyProof.IsiPairs
import PyProof.ListCopy
import PyProof.ListMulRoad
import PyProof.ListRange
import PyProof.WalkInts
import PyProof.RulesAs
import PyProof.NsDelKeeps
import PyProof.Rows.Tup
import PyProof.Rows.TupSub
import PyProof.Rows.TupIn
import PyProof.Rows.Chain
import PyProof.Rows.RuleU_int
import PyProof.Rows.RuleB_pow
import PyProof.Rows.RuleB_floordiv
import PyProof.Rows.RuleC_int
import PyProof.TupleOps
import PyProof.Rows.TupMore
import PyProof.SliceMore
import PyProof.Rows.StrRules
import PyProof.Rows.SeqMore
import PyProof.TupleOfSeq
import PyProof.Rows.SortWalk
import PyProof.SetRoads
import PyProof.Rows.SetFrom
import Open.Head
import Open.Line
import Wide.All
import PySem.Challenge.RW_uf050006_01
set_option Elab.async false
set_option maxRecDepth 100000
set_option maxHeartbeats 8000000
set_option linter.all false
set_option genSizeOf false
set_option genInjectivity false
set_option tactic.hygienic false

namespace Mine
section
open PySem PySem.Calls PyProof.Rows
inductive V where
  | none
  | bool (b : Bool)
  | int (i : Int)
  | str (s : Str)
  | tup (vs : List V)
  | lst (a : Addr)
  | dct (a : Addr)
  | rng (lo hi : Int)
  | scr
  | exc (a : Addr) (c : Nat)

inductive Cell where
  | list (vs : List V)
  | dict (kvs : List (Int × V)) (ep : Nat)

noncomputable abbrev AHeap := Addr → Option Cell

noncomputable def AHeap.upd (H : AHeap) (a : Addr) (c : Cell) : AHeap := fun b => if b = a then some c else H b
theorem upd_self {H : AHeap} {a : Addr} {c : Cell} : AHeap.upd H a c a = some c := by simp [AHeap.upd]
theorem upd_ne {H : AHeap} {a b : Addr} {c : Cell} (h : b ≠ a) : AHeap.upd H a c b = H b := by simp [AHeap.upd, h]

structure Gl where
  fs : List String
  cs : List (String × Int)
  xs : List String

structure Cx where
  gl : Gl
  prog : Program
  w : World
  hb : Heap
  os : OsState
  mg : Str → Option Value
  mb : Str → Option Value
  scr : Addr
  ns : List Int
  xc : Nat → Addr

noncomputable def Imm (o : Obj) : Prop := (o.cls = .type "tuple" ∧ ∃ xs n, o.data = .seq xs n) ∨ (o.cls = .type "range" ∧ ∃ vs, o.data = .fields vs)
noncomputable def XObj (C : Addr) (o : Obj) : Prop := o.cls = .ref C ∧ ∃ vs, o.data = .fields vs
structure ImmK (h h' : Heap) : Prop where
  im : ∀ b o, h.get? b = some o → Imm o → h'.get? b = some o
  cl : ∀ b o C, h.get? b = some o → XObj C o → ∃ o', h'.get? b = some o' ∧ XObj C o'
theorem ImmK.tup {h h' : Heap} (k : ImmK h h') {b : Addr} {xs : Array Value} (t : IsTup h b xs) : IsTup h' b xs :=
  let ⟨o, e, c, n, r⟩ := t; ⟨o, k.im b o e (.inl ⟨c, _, n, r⟩), c, n, r⟩
theorem ImmK.rng {h h' : Heap} (k : ImmK h h') {r : Addr} {a b c : Int} {t u v : Tok} (x : IsRange h r a b c t u v) : IsRange h' r a b c t u v := k.im _ _ x (.inr ⟨rfl, _, rfl⟩)
theorem ImmK.keeps {h h' : Heap} (k : ∀ b o, h.get? b = some o → h'.get? b = some o) : ImmK h h' := ⟨fun b o e zz => k b o e, fun b o zz e x => ⟨o, k b o e, x⟩⟩
noncomputable def Dull (o : Obj) : Prop := ¬ Imm o ∧ ∀ C, ¬ XObj C o
theorem Dull.dict {o : Obj} {es : Array DictEntry} {n : Nat} (d : o.data = .dict es n) : Dull o := ⟨(by rintro (⟨_, _, _, i⟩ | ⟨_, _, i⟩) <;> rw [i] at d <;> cases d), (by rintro C ⟨_, _, i⟩; rw [i] at d; cases d)⟩
theorem Dull.cell {o : Obj} {v : Option Value} (d : o.data = .cell v) : Dull o := ⟨(by rintro (⟨_, _, _, i⟩ | ⟨_, _, i⟩) <;> rw [i] at d <;> cases d), (by rintro C ⟨_, _, i⟩; rw [i] at d; cases d)⟩
theorem Dull.typ {o : Obj} {T : String} (c : o.cls = .type T) (h1 : T ≠ "tuple") (h2 : T ≠ "range") : Dull o := by
  refine ⟨?_, ?_⟩
  · rintro (⟨i, _⟩ | ⟨i, _⟩) <;> rw [i] at c <;> cases c
    · exact h1 rfl
    · exact h2 rfl
  · rintro C ⟨i, _⟩; rw [i] at c; cases c
theorem ImmK.but {h h' : Heap} {a : Addr} (k : ∀ b o, b ≠ a → h.get? b = some o → h'.get? b = some o) (ha : ∀ o, h.get? a = some o → Dull o) : ImmK h h' :=
  ⟨fun b o e i => k b o (by rintro rfl; exact (ha o e).1 i) e, fun b o C e x => ⟨o, k b o (by rintro rfl; exact (ha o e).2 C x) e, x⟩⟩

mutual
inductive Rep (P : Cx) (h : Heap) : Value → V → Prop where
  | none : Rep P h .none .none
  | bool (b : Bool) : Rep P h (.bool b) (.bool b)
  | int (i : Int) (t : Tok) : Rep P h (.int i t) (.int i)
  | str (s : Str) (t : Tok) : Rep P h (.str s t) (.str s)
  | tup {a : Addr} {xs : List Value} {vs : List V} : IsTup h a xs.toArray → Reps P h xs vs → Rep P h (.ref a) (.tup vs)
  | lst (a : Addr) : Rep P h (.ref a) (.lst a)
  | dct (a : Addr) : Rep P h (.ref a) (.dct a)
  | rng {r : Addr} {lo hi : Int} {t u v : Tok} : IsRange h r lo hi 1 t u v → Rep P h (.ref r) (.rng lo hi)
  | scr : Rep P h (.ref P.scr) .scr
  | exc {a : Addr} {c : Nat} {o : Obj} : c < P.gl.xs.length ∧ h.get? a = some o → XObj (P.xc c) o → Rep P h (.ref a) (.exc a c)
inductive Reps (P : Cx) (h : Heap) : List Value → List V → Prop where
  | nil : Reps P h [] []
  | cons {w : Value} {v : V} {ws : List Value} {vs : List V} : Rep P h w v → Reps P h ws vs → Reps P h (w :: ws) (v :: vs)
end

theorem Rep.elim {P : Cx} {h : Heap} {motive : (w : Value) → (v : V) → Rep P h w v → Prop} (none : motive .none .none .none) (bool : ∀ b, motive (.bool b) (.bool b) (.bool b)) (int : ∀ i t, motive (.int i t) (.int i) (.int i t)) (str : ∀ s t, motive (.str s t) (.str s) (.str s t))
    (tup : ∀ {a : Addr} {xs : List Value} {vs : List V} (ht : IsTup h a xs.toArray) (hr : Reps P h xs vs), motive (.ref a) (.tup vs) (.tup ht hr)) (lst : ∀ a, motive (.ref a) (.lst a) (.lst a)) (dct : ∀ a, motive (.ref a) (.dct a) (.dct a))
    (rng : ∀ {r : Addr} {lo hi : Int} {t u v : Tok} (x : IsRange h r lo hi 1 t u v), motive (.ref r) (.rng lo hi) (.rng x)) (scr : motive (.ref P.scr) .scr .scr) (exc : ∀ {a : Addr} {c : Nat} {o : Obj} (e : c < P.gl.xs.length ∧ h.get? a = some o) (x : XObj (P.xc c) o), motive (.ref a) (.exc a c) (.exc e x)) (w : Value) (v : V) (r : Rep P h w v) : motive w v r :=
  Rep.casesOn (motive_1 := motive) r none bool int str tup lst dct rng scr exc
theorem Reps.ind {P : Cx} {h : Heap} {motive : (ws : List Value) → (vs : List V) → Reps P h ws vs → Prop} (nil : motive [] [] .nil) (cons : ∀ {w : Value} {v : V} {ws : List Value} {vs : List V} (r : Rep P h w v) (rs : Reps P h ws vs), motive ws vs rs → motive (w :: ws) (v :: vs) (.cons r rs)) {ws : List Value} {vs : List V} (r : Reps P h ws vs) : motive ws vs r :=
  Reps.rec (motive_1 := fun zz zz zz => True) (motive_2 := motive) .intro (fun zz => .intro) (fun zz zz => .intro) (fun zz zz => .intro) (fun zz zz zz => .intro) (fun zz => .intro) (fun zz => .intro) (fun zz => .intro) .intro (fun zz zz => .intro) nil (fun r rs zz ih => cons r rs ih) r
theorem Rep.mono {P : Cx} {h h' : Heap} (hk : ImmK h h') {w : Value} {v : V} (r : Rep P h w v) : Rep P h' w v :=
  Rep.rec (motive_1 := fun w v zz => Rep P h' w v) (motive_2 := fun ws vs zz => Reps P h' ws vs) .none .bool .int .str (fun ht zz hr => .tup (hk.tup ht) hr) .lst .dct (fun x => .rng (hk.rng x)) .scr (fun e x => let ⟨_, e', x'⟩ := hk.cl _ _ _ e.2 x; .exc ⟨e.1, e'⟩ x') .nil (fun zz zz hr hrs => .cons hr hrs) r
theorem Reps.mono {P : Cx} {h h' : Heap} (hk : ImmK h h') {ws : List Value} {vs : List V} (r : Reps P h ws vs) : Reps P h' ws vs :=
  r.ind (motive := fun ws vs zz => Reps P h' ws vs) .nil (fun r zz ih => .cons (r.mono hk) ih)

theorem Reps.length {P : Cx} {h : Heap} {ws : List Value} {vs : List V} (r : Reps P h ws vs) : ws.length = vs.length :=
  r.ind (motive := fun ws vs zz => ws.length = vs.length) rfl (fun zz zz ih => congrArg (· + 1) ih)

theorem Reps.get {P : Cx} {h : Heap} {ws : List Value} {vs : List V} (r : Reps P h ws vs) : ∀ {i : Nat} {v : V}, vs[i]? = some v → ∃ w, ws[i]? = some w ∧ Rep P h w v :=
  r.ind (motive := fun ws vs zz => ∀ {i : Nat} {v : V}, vs[i]? = some v → ∃ w, ws[i]? = some w ∧ Rep P h w v) (fun e => nomatch e) (fun {w v ws vs} r _ ih {i u} e => by
    cases i with
    | zero => cases Option.some.inj e; exact ⟨_, rfl, r⟩
    | succ i => exact ih (i := i) e)

theorem Reps.append {P : Cx} {h : Heap} {ws ws' : List Value} {vs vs' : List V} (r : Reps P h ws vs) (r' : Reps P h ws' vs') : Reps P h (ws ++ ws') (vs ++ vs') :=
  r.ind (motive := fun ws vs zz => Reps P h (ws ++ ws') (vs ++ vs')) r' (fun r zz ih => .cons r ih)

theorem Reps.drop {P : Cx} {h : Heap} {ws : List Value} {vs : List V} (i : Nat) (r : Reps P h ws vs) : Reps P h (ws.drop i) (vs.drop i) :=
  r.ind (motive := fun ws vs zz => ∀ i, Reps P h (ws.drop i) (vs.drop i)) (fun i => by cases i <;> exact .nil) (fun r rs ih i => match i with | 0 => .cons r rs | i + 1 => ih i) i

theorem Reps.take {P : Cx} {h : Heap} {ws : List Value} {vs : List V} (i : Nat) (r : Reps P h ws vs) : Reps P h (ws.take i) (vs.take i) :=
  r.ind (motive := fun ws vs zz => ∀ i, Reps P h (ws.take i) (vs.take i)) (fun i => by cases i <;> exact .nil) (fun r rs ih i => match i with | 0 => .nil | i + 1 => .cons r (ih i)) i

theorem Reps.eraseIdx {P : Cx} {h : Heap} {ws : List Value} {vs : List V} (i : Nat) (r : Reps P h ws vs) : Reps P h (ws.eraseIdx i) (vs.eraseIdx i) :=
  r.ind (motive := fun ws vs zz => ∀ i, Reps P h (ws.eraseIdx i) (vs.eraseIdx i)) (fun zz => .nil) (fun r rs ih i => match i with | 0 => rs | i + 1 => .cons r (ih i)) i

noncomputable def RepInv (P : Cx) (h : Heap) (w : Value) : V → Prop
  | .none => w = .none
  | .bool b => w = .bool b
  | .int i => ∃ t, w = .int i t
  | .str s => ∃ t, w = .str s t
  | .tup vs => ∃ a xs, w = .ref a ∧ IsTup h a (List.toArray xs) ∧ Reps P h xs vs
  | .lst a => w = .ref a
  | .dct a => w = .ref a
  | .rng lo hi => ∃ r t u v, w = .ref r ∧ IsRange h r lo hi 1 t u v
  | .scr => w = .ref P.scr
  | .exc a c => w = .ref a ∧ ∃ o, (c < P.gl.xs.length ∧ h.get? a = some o) ∧ XObj (P.xc c) o
theorem Rep.inv {P : Cx} {h : Heap} {w : Value} {v : V} (r : Rep P h w v) : RepInv P h w v :=
  Rep.elim (motive := fun w v zz => RepInv P h w v) rfl (fun zz => rfl) (fun zz t => ⟨t, rfl⟩) (fun zz t => ⟨t, rfl⟩) (fun ht hr => ⟨_, _, rfl, ht, hr⟩) (fun zz => rfl) (fun zz => rfl) (fun x => ⟨_, _, _, _, rfl, x⟩) rfl (fun e x => ⟨rfl, _, e, x⟩) w v r
noncomputable def RepsInv (P : Cx) (h : Heap) (ws : List Value) : List V → Prop
  | [] => ws = []
  | v :: vs => ∃ w ws', ws = w :: ws' ∧ Rep P h w v ∧ Reps P h ws' vs
theorem Reps.inv {P : Cx} {h : Heap} {ws : List Value} {vs : List V} (r : Reps P h ws vs) : RepsInv P h ws vs :=
  r.ind (motive := fun ws vs zz => RepsInv P h ws vs) rfl (fun r rs zz => ⟨_, _, rfl, r, rs⟩)

noncomputable def Lim : Nat := 2 ^ 23

noncomputable def CellAt (P : Cx) (h : Heap) (a : Addr) : Cell → Prop
  | .list vs => ∃ xs : List Value, h.PlainList a xs.toArray ∧ Reps P h xs vs ∧ vs.length ≤ Lim
  | .dict kvs ep => ∃ ws : List (Int × Value), h.DictAt (intKind P.prog P.w) a ws ep ∧ ws.map (·.1) = kvs.map (·.1) ∧ Reps P h (ws.map (·.2)) (kvs.map (·.2)) ∧ kvs.length ≤ Lim

noncomputable def XLike (o : Obj) : Prop := (o.cls = .type "traceback" ∨ ∃ C, o.cls = .ref C) ∧ ∃ vs, o.data = .fields vs
theorem XLike.nodict {o : Obj} {es : Array DictEntry} {n : Nat} (d : o.data = .dict es n) : ¬ XLike o := by rintro ⟨_, _, e⟩; rw [e] at d; cases d
theorem XLike.noseq {o : Obj} {xs : Array Value} {n : Nat} (d : o.data = .seq xs n) : ¬ XLike o := by rintro ⟨_, _, e⟩; rw [e] at d; cases d
theorem XLike.nocell {o : Obj} {v : Option Value} (d : o.data = .cell v) : ¬ XLike o := by rintro ⟨_, _, e⟩; rw [e] at d; cases d
theorem XLike.notyp {o : Obj} {T : String} (c : o.cls = .type T) (h : T ≠ "traceback") : ¬ XLike o := by
  rintro ⟨e | ⟨_, e⟩, _⟩ <;> rw [e] at c <;> cases c
  exact h rfl
noncomputable def KeepO (o o' : Obj) : Prop := o' = o ∨ ((∃ es n, o.data = .dict es n) ∧ ∃ sl, o' = { o with slots := sl }) ∨ (XLike o ∧ o'.cls = o.cls ∧ ∃ vs, o'.data = .fields vs)
theorem KeepO.refl (o : Obj) : KeepO o o := .inl rfl
theorem XLike.of {o o' : Obj} (x : XLike o) (c : o'.cls = o.cls) (d : ∃ vs, o'.data = .fields vs) : XLike o' := ⟨by rw [c]; exact x.1, d⟩
theorem KeepO.trans {o o' o'' : Obj} (x : KeepO o o') (y : KeepO o' o'') : KeepO o o'' := by
  rcases x with rfl | ⟨hc, sl, rfl⟩ | ⟨hx, hc, hd⟩
  · exact y
  · rcases y with rfl | ⟨_, sl', rfl⟩ | ⟨hx, _⟩
    · exact .inr (.inl ⟨hc, sl, rfl⟩)
    · exact .inr (.inl ⟨hc, sl', rfl⟩)
    · obtain ⟨es, n, hc⟩ := hc; exact absurd hx (XLike.nodict (o := { o with slots := sl }) hc)
  · rcases y with rfl | ⟨⟨es, n, he⟩, _⟩ | ⟨_, hc', hd'⟩
    · exact .inr (.inr ⟨hx, hc, hd⟩)
    · exact absurd (hx.of hc hd) (XLike.nodict he)
    · exact .inr (.inr ⟨hx, hc'.trans hc, hd'⟩)
theorem KeepO.eq {o o' : Obj} (k : KeepO o o') (h1 : ∀ es n, o.data ≠ .dict es n) (h2 : ¬ XLike o) : o' = o := by
  rcases k with rfl | ⟨⟨es, n, k⟩, _⟩ | ⟨k, _⟩
  · rfl
  · exact absurd k (h1 es n)
  · exact absurd k h2

structure Fm (H : AHeap) (h : Heap) (H' : AHeap) (h' : Heap) : Prop where
  keep : ∀ b o, h.get? b = some o → H b = none → ∃ o', h'.get? b = some o' ∧ KeepO o o'
  dom : ∀ b o, h.get? b = some o → H b = none → H' b = none
  ex : ∀ b o, h.get? b = some o → ∃ o', h'.get? b = some o'

theorem Fm.refl (H : AHeap) (h : Heap) : Fm H h H h := ⟨fun zz o e zz => ⟨o, e, .refl o⟩, fun zz zz zz e => e, fun zz o e => ⟨o, e⟩⟩
theorem Fm.trans {H H' H'' : AHeap} {h h' h'' : Heap} (x : Fm H h H' h') (y : Fm H' h' H'' h'') : Fm H h H'' h'' :=
  ⟨fun b o e n => by
      obtain ⟨o', e', k'⟩ := x.keep b o e n
      obtain ⟨o'', e'', k''⟩ := y.keep b o' e' (x.dom b o e n)
      exact ⟨o'', e'', k'.trans k''⟩,
    fun b o e n => let ⟨o', e', _⟩ := x.keep b o e n; y.dom b o' e' (x.dom b o e n), fun b o e => let ⟨o', e'⟩ := x.ex b o e; y.ex b o' e'⟩

structure Wd (P : Cx) (H : AHeap) (s : Shared) : Prop where
  hs : ∀ a c, H a = some c → CellAt P s.heap a c
  base : ∀ b o, P.hb.get? b = some o → s.heap.get? b = some o
  lo : ∀ b o, P.hb.get? b = some o → H b = none
  gens : s.gens = #[]
  os : s.os = P.os

theorem CellAt.obj {P : Cx} {h : Heap} {a : Addr} {c : Cell} (x : CellAt P h a c) : ∃ o, h.get? a = some o ∧ (o.cls = .type "list" ∨ o.cls = .type "dict") := by
  cases c with
  | list vs => obtain ⟨_, ⟨n, ho'⟩, _⟩ := x; exact ⟨_, ho', .inl rfl⟩
  | dict kvs ep => obtain ⟨_, ⟨o', _, ho', hc', _⟩, _⟩ := x; exact ⟨o', ho', .inr hc'.1⟩
theorem CellAt.dull {P : Cx} {h : Heap} {a : Addr} {c : Cell} (x : CellAt P h a c) {o : Obj} (e : h.get? a = some o) : Dull o := by
  obtain ⟨o', e', c'⟩ := x.obj
  rw [e] at e'; cases e'
  exact c'.elim (fun c => .typ c (by decide) (by decide)) fun c => .typ c (by decide) (by decide)

theorem KeepO.xobj {o o' : Obj} (k : KeepO o o') {C : Addr} (x : XObj C o) : XObj C o' := by
  rcases k with rfl | ⟨⟨es, n, hf⟩, _⟩ | ⟨_, hc, hd⟩
  · exact x
  · obtain ⟨_, vs, d⟩ := x; rw [d] at hf; cases hf
  · exact ⟨hc.trans x.1, hd⟩
theorem KeepO.imm {o o' : Obj} (k : KeepO o o') (i : Imm o) : o' = o := k.eq (fun es n hf => by rcases i with ⟨_, _, _, i⟩ | ⟨_, _, i⟩ <;> rw [i] at hf <;> cases hf) (by
  rcases i with ⟨i, _⟩ | ⟨i, _⟩
  · exact XLike.notyp i (by decide)
  · exact XLike.notyp i (by decide))
theorem Fm.imm {P : Cx} {H H' : AHeap} {h h' : Heap} (x : Fm H h H' h') (hs : ∀ a c, H a = some c → CellAt P h a c) : ImmK h h' := by
  refine ⟨fun b o e i => ?_, fun b o C e i => ?_⟩
  · have hn : H b = none := by
      cases hb : H b with
      | none => rfl
      | some c => exact absurd i ((hs b c hb).dull e).1
    obtain ⟨o', ho', k⟩ := x.keep b o e hn
    rw [← k.imm i]; exact ho'
  · have hn : H b = none := by
      cases hb : H b with
      | none => rfl
      | some c => exact absurd i (((hs b c hb).dull e).2 C)
    obtain ⟨o', ho', k⟩ := x.keep b o e hn
    exact ⟨o', ho', k.xobj i⟩

theorem Rep.step {P : Cx} {H H' : AHeap} {s : Shared} {h' : Heap} {w : Value} {v : V} (r : Rep P s.heap w v) (W : Wd P H s) (x : Fm H s.heap H' h') : Rep P h' w v := r.mono (x.imm W.hs)
theorem Reps.step {P : Cx} {H H' : AHeap} {s : Shared} {h' : Heap} {w : List Value} {v : List V} (r : Reps P s.heap w v) (W : Wd P H s) (x : Fm H s.heap H' h') : Reps P h' w v := r.mono (x.imm W.hs)

inductive Post (P : Cx) (H : AHeap) (h : Heap) (Q : V → AHeap → Prop) (w : Value) (s' : Shared) : Prop where
  | mk (r : V) (H' : AHeap) (hr : Rep P s'.heap w r) (W : Wd P H' s') (f : Fm H h H' s'.heap) (q : Q r H') : Post P H h Q w s'

theorem Post.trans {P : Cx} {H H1 : AHeap} {h h1 : Heap} {Q : V → AHeap → Prop} {w : Value} {s' : Shared} (x : Fm H h H1 h1) (y : Post P H1 h1 Q w s') : Post P H h Q w s' :=
  let ⟨r, H', a, b, c, d⟩ := y; ⟨r, H', a, b, x.trans c, d⟩

theorem CellAt.step {P : Cx} {h h' : Heap} {a : Addr} {c : Cell} (x : CellAt P h a c) (ho : h'.get? a = h.get? a) (hk : ImmK h h') : CellAt P h' a c := by
  cases c with
  | list vs =>
    obtain ⟨xs, ⟨n, e⟩, q, z⟩ := x
    exact ⟨xs, ⟨n, ho.trans e⟩, q.mono hk, z⟩
  | dict kvs ep =>
    obtain ⟨ws, ⟨o, es, e, r⟩, q1, q, z⟩ := x
    exact ⟨ws, ⟨o, es, ho.trans e, r⟩, q1, q.mono hk, z⟩

theorem Wd.grow {P : Cx} {H : AHeap} {s s' : Shared} (W : Wd P H s) (hk : ∀ b o, s.heap.get? b = some o → s'.heap.get? b = some o) (hg : s'.gens = s.gens) (ho : s'.os = s.os) : Wd P H s' where
  hs := fun a c e => by
    have x := W.hs a c e
    have ⟨o, eo, _⟩ := x.obj
    exact x.step ((hk _ _ eo).trans eo.symm) (.keeps hk)
  base := fun b o e => hk _ _ (W.base b o e)
  lo := W.lo
  gens := hg.trans W.gens
  os := ho.trans W.os
theorem Fm.grow {H : AHeap} {h h' : Heap} (hk : ∀ b o, h.get? b = some o → h'.get? b = some o) : Fm H h H h' :=
  ⟨fun b o e zz => ⟨o, hk b o e, .refl o⟩, fun zz zz zz e => e, fun b o e => ⟨o, hk b o e⟩⟩
theorem Wd.toks {P : Cx} {H : AHeap} {s : Shared} (W : Wd P H s) (t : Nat) : Wd P H { s with toks := t } := W.grow (fun zz zz e => e) rfl rfl

theorem Wd.dom {P : Cx} {H : AHeap} {s : Shared} (W : Wd P H s) {a : Addr} {c : Cell} (e : H a = some c) : a < s.heap.objs.size := by
  have ⟨o, eo, _⟩ := (W.hs _ c e).obj
  exact Heap.lt_size eo
theorem Wd.newBase {P : Cx} {H : AHeap} {s : Shared} (W : Wd P H s) {a : Addr} (hn : s.heap.get? a = none) : P.hb.get? a = none := by
  cases e : P.hb.get? a with
  | none => rfl
  | some o => rw [W.base a o e] at hn; cases hn
theorem get?_size (h : Heap) : h.get? h.objs.size = none := by
  cases e : h.get? h.objs.size with
  | none => rfl
  | some o => exact absurd (Heap.lt_size e) (Nat.lt_irrefl _)
theorem Wd.noneOf {P : Cx} {H : AHeap} {s : Shared} (W : Wd P H s) {a : Addr} (hn : s.heap.get? a = none) : H a = none := by
  cases e : H a with
  | none => rfl
  | some c => obtain ⟨o, eo, _⟩ := (W.hs a c e).obj; rw [hn] at eo; cases eo

theorem Wd.put {P : Cx} {H : AHeap} {s : Shared} {c : Cell} (W : Wd P H s) (a : Addr) (hb : P.hb.get? a = none) (hc : CellAt P s.heap a c) : Wd P (H.upd a c) s where
  hs := fun b d e => by
    by_cases h : b = a
    · subst h; rw [upd_self] at e; cases e; exact hc
    · rw [upd_ne h] at e; exact W.hs b d e
  base := W.base
  lo := fun b o e => by
    rw [upd_ne (by rintro rfl; rw [hb] at e; cases e)]; exact W.lo b o e
  gens := W.gens
  os := W.os
theorem Fm.put {H H' : AHeap} {h h' : Heap} (x : Fm H h H' h') {a : Addr} {c : Cell} (ha : h.get? a = none) : Fm H h (H'.upd a c) h' :=
  ⟨x.keep, fun b o e n => by rw [upd_ne (by rintro rfl; rw [ha] at e; cases e)]; exact x.dom b o e n, x.ex⟩

theorem Wd.turn {P : Cx} {H : AHeap} {s s' : Shared} {a : Addr} {c c' : Cell} (W : Wd P H s) (e : H a = some c) (hk : ∀ b, b ≠ a → s'.heap.get? b = s.heap.get? b) (hc : CellAt P s'.heap a c')
    (hg : s'.gens = s.gens) (ho : s'.os = s.os) : Wd P (H.upd a c') s' := by
  have ht : ImmK s.heap s'.heap := .but (fun b o hb eo => (hk b hb).trans eo) fun o eo => (W.hs _ _ e).dull eo
  refine ⟨fun b d eb => ?_, fun b o eb => ?_, fun b o eb => ?_, hg.trans W.gens, ho.trans W.os⟩
  · by_cases h : b = a
    · subst h; rw [upd_self] at eb; cases eb; exact hc
    · rw [upd_ne h] at eb; exact (W.hs b d eb).step (hk b h) ht
  · have hba : b ≠ a := by rintro rfl; have := W.lo _ _ eb; rw [e] at this; cases this
    exact (hk b hba).trans (W.base b o eb)
  · have hba : b ≠ a := by rintro rfl; have := W.lo _ _ eb; rw [e] at this; cases this
    rw [upd_ne hba]; exact W.lo b o eb
theorem Fm.turn {H : AHeap} {h h' : Heap} {a : Addr} {c c' : Cell} (e : H a = some c) (hk : ∀ b, b ≠ a → h'.get? b = h.get? b) (hx : ∃ o, h'.get? a = some o) : Fm H h (H.upd a c') h' :=
  ⟨fun b o eb n => by
      have hba : b ≠ a := by rintro rfl; rw [e] at n; cases n
      exact ⟨o, (hk b hba).trans eb, .refl o⟩,
    fun b zz zz n => by
      have hba : b ≠ a := by rintro rfl; rw [e] at n; cases n
      rw [upd_ne hba]; exact n,
    fun b o eb => by
      by_cases hba : b = a
      · rw [hba]; exact hx
      · exact ⟨o, (hk b hba).trans eb⟩⟩

structure Tch (H : AHeap) (a : Addr) (h h' : Heap) : Prop where
  same : ∀ b, b ≠ a → h'.get? b = h.get? b
  own : H a = none
  obj : ∃ o o', h.get? a = some o ∧ h'.get? a = some o' ∧ (((∃ es n, o.data = .dict es n) ∧ (∃ es n, o'.data = .dict es n)) ∨ ((∃ v, o.data = .cell v) ∧ (∃ v, o'.data = .cell v)))

theorem Tch.imm {H : AHeap} {a : Addr} {h h' : Heap} (t : Tch H a h h') : ImmK h h' := .but (fun b o hb e => (t.same b hb).trans e) fun o e => by
  obtain ⟨o', _, e', _, k⟩ := t.obj
  rw [e] at e'; cases e'
  rcases k with ⟨⟨_, _, k⟩, _⟩ | ⟨⟨_, k⟩, _⟩
  · exact .dict k
  · exact .cell k
theorem Tch.wd {P : Cx} {H : AHeap} {a : Addr} {s : Shared} {h' : Heap} (t : Tch H a s.heap h') (W : Wd P H s) (hb : P.hb.get? a = none) (k : Nat) : Wd P H { s with heap := h', toks := k } where
  hs := fun b c e => by
    have hba : b ≠ a := by rintro rfl; rw [t.own] at e; cases e
    exact (W.hs b c e).step (t.same b hba) t.imm
  base := fun b o e => (t.same b (by rintro rfl; rw [hb] at e; cases e)).trans (W.base b o e)
  lo := W.lo
  gens := W.gens
  os := W.os
theorem Tch.fm {H₀ H : AHeap} {a : Addr} {h₀ h h' : Heap} (t : Tch H a h h') (x : Fm H₀ h₀ H h) (hb : h₀.get? a = none) : Fm H₀ h₀ H h' :=
  ⟨fun b o e n => by
      obtain ⟨o', e', k⟩ := x.keep b o e n
      exact ⟨o', (t.same b (by rintro rfl; rw [hb] at e; cases e)).trans e', k⟩, x.dom, fun b o e => by
      obtain ⟨o', e'⟩ := x.ex b o e
      exact ⟨o', (t.same b (by rintro rfl; rw [hb] at e; cases e)).trans e'⟩⟩
end
end Mine

namespace Mine
section
open PySem PySem.Calls PyProof.Rows
inductive Ty where
  | int | bool | str | list | tuple | dict
  deriving DecidableEq

inductive Op1 where
  | len | isI (t : Ty) | isX (c : Nat) | isV | neg | intOf | listOf | tupleOf | sorted | sortP | lenSet | all | maxL | rev | range
  deriving DecidableEq

inductive Op2 where
  | add | sub | mul | fdiv | mod | pow
  | eq | ne | lt | le | gt | ge | is | isNot | inn | notIn
  | item | sliceTo | sliceFrom
  | max2 | min2 | maxD | range2
  | append | remove | pop | extend | dget
  deriving DecidableEq

mutual
inductive E where
  | none
  | bool (b : Bool)
  | int (i : Int)
  | str (s : String)
  | var (i : Nat)
  | glb (x : String) (i : Int)
  | op1 (o : Op1) (e : E)
  | op2 (o : Op2) (a b : E)
  | meth (o : Op2) (a b : E)
  | not (e : E)
  | and (a b : E)
  | or (a b : E)
  | chain (o₁ o₂ : Op2) (a b c : E)
  | tup (es : Es)
  | lst (es : Es)
  | dict0
  | call (f : String) (es : Es)
  | comp (j : Nat) (elt src cond : E)
inductive Es where
  | nil
  | cons (e : E) (es : Es)
end

mutual
inductive S where
  | asg (i : Nat) (e : E)
  | unp (is : List Nat) (e : E)
  | sto (o i e : E)
  | ex (e : E)
  | ite (c : E) (a b : Ss)
  | for (j : Nat) (src : E) (body : Ss)
  | whl (c : E) (body : Ss)
  | ret (e : E)
  | cont
  | dead
  | raise (c : Nat)
  | tryE (body : Ss) (hs : Hs)
inductive Ss where
  | nil
  | cons (s : S) (ss : Ss)
inductive Hs where
  | nil
  | cons (c : Nat) (v : Option Nat) (body : Ss) (hs : Hs)
end

inductive Fl where
  | next | brk | cont
  | ret (v : V)

noncomputable abbrev Ro := Nat → Option V
noncomputable def br (t : Bool) (A B : Prop) : Prop := (t = true → A) ∧ (t = false → B)
theorem br.yes {A B : Prop} (h : br true A B) : A := h.1 rfl
theorem br.no {A B : Prop} (h : br false A B) : B := h.2 rfl
noncomputable def Ro.upd (ρ : Ro) (i : Nat) (v : V) : Ro := fun j => if j = i then some v else ρ j
noncomputable def Ro.del (ρ : Ro) (i : Nat) : Ro := fun j => if j = i then none else ρ j
noncomputable def Ro.delO (ρ : Ro) : Option Nat → Ro
  | some i => ρ.del i
  | none => ρ
noncomputable def Ro.updO (ρ : Ro) (o : Option Nat) (v : V) : Ro := match o with | some i => ρ.upd i v | none => ρ
noncomputable def isSub (c k : Nat) : Bool := k == 0 || c == k

noncomputable def newL (vs : List V) (Q : V → AHeap → Prop) (H : AHeap) : Prop := vs.length ≤ Lim ∧ ∀ a, H a = none → Q (.lst a) (H.upd a (.list vs))

-- what a value tells, lists read
mutual
inductive RD (H : AHeap) : V → PyData → Prop where
  | none : RD H .none .none
  | bool (b : Bool) : RD H (.bool b) (.bool b)
  | int (i : Int) : RD H (.int i) (.int i)
  | str (x : Str) : RD H (.str x) (.str x)
  | tup {vs : List V} {ds : List PyData} : RDs H vs ds → RD H (.tup vs) (.tuple ds)
  | lst {a : Addr} {vs : List V} {ds : List PyData} : H a = some (.list vs) → RDs H vs ds → RD H (.lst a) (.list ds)
inductive RDs (H : AHeap) : List V → List PyData → Prop where
  | nil : RDs H [] []
  | cons {v : V} {d : PyData} {vs : List V} {ds : List PyData} : RD H v d → RDs H vs ds → RDs H (v :: vs) (d :: ds)
end

noncomputable def eqF : V → V → Option Bool
  | .none, .none => some true
  | .int i, .int j => some (i == j)
  | .str x, .str y => some (x == y)
  | .none, .int _ => some false
  | .int _, .none => some false
  | _, _ => none

noncomputable def inF (v : V) : List V → Option Bool
  | [] => some false
  | x :: xs => match eqF x v, inF v xs with
    | some a, some b => some (a || b)
    | _, _ => none

noncomputable def eqV (H : AHeap) (v w : V) (r : Bool) : Prop :=
  eqF v w = some r ∨ ∃ d e, RD H v d ∧ RD H w e ∧ SeqAt.shaped d = true ∧ SeqAt.shaped e = true ∧ r = PyData.eqv d e

noncomputable def isTy (H : AHeap) : Ty → V → Bool → Prop
  | _, .none, r => r = false
  | t, .bool _, r => r = (t == .bool || t == .int)
  | t, .int _, r => r = (t == .int)
  | t, .str _, r => r = (t == .str)
  | t, .tup _, r => r = (t == .tuple)
  | t, .lst a, r => (∃ xs, H a = some (.list xs)) ∧ r = (t == .list)
  | t, .dct a, r => (∃ xs ep, H a = some (.dict xs ep)) ∧ r = (t == .dict)
  | _, _, _ => False

noncomputable def idx (i : Int) (n : Nat) : Option Nat := if 0 ≤ i then (if i < n then some i.toNat else none) else if 0 ≤ i + n then some (i + n).toNat else none

noncomputable def getD (kvs : List (Int × V)) (i : Int) : Option V := (kvs.find? fun kv => kv.1 = i).map (·.2)

noncomputable def bitOk (i : Int) : Prop := -(2 ^ 64) < i ∧ i < 2 ^ 64

noncomputable def items (H : AHeap) : V → List V → Prop
  | .lst a, xs => H a = some (.list xs)
  | .rng lo hi, xs => lo = 0 ∧ 0 ≤ hi ∧ hi ≤ Lim ∧ xs = (List.range hi.toNat).map fun (i : Nat) => V.int i
  | .dct a, xs => ∃ kvs ep, H a = some (.dict kvs ep) ∧ xs = kvs.map fun p => V.int p.1
  | _, _ => False

-- what the operators ask, each in one piece
inductive SLen (Q : V → AHeap → Prop) (H : AHeap) (a : Addr) : Prop where
  | mk (xs : List V) (h : H a = some (.list xs)) (q : Q (.int xs.length) H) : SLen Q H a
inductive SIsI (Q : V → AHeap → Prop) (H : AHeap) (t : Ty) (v : V) : Prop where
  | mk (r : Bool) (h : isTy H t v r) (q : Q (.bool r) H) : SIsI Q H t v
inductive SListOf (Q : V → AHeap → Prop) (H : AHeap) (a : Addr) : Prop where
  | mk (xs : List V) (h : H a = some (.list xs)) (q : newL xs Q H) : SListOf Q H a
inductive SRev (Q : V → AHeap → Prop) (H : AHeap) (a : Addr) : Prop where
  | mk (xs : List V) (h : H a = some (.list xs)) (q : newL xs.reverse Q H) : SRev Q H a
inductive SAddL (Q : V → AHeap → Prop) (H : AHeap) (a : Addr) (b : Addr) : Prop where
  | mk (xs : List V) (ys : List V) (h : H a = some (.list xs)) (h' : H b = some (.list ys)) (q : newL (xs ++ ys) Q H) : SAddL Q H a b
inductive SEq (Q : V → AHeap → Prop) (H : AHeap) (v : V) (w : V) : Prop where
  | mk (r : Bool) (h : eqV H v w r) (q : Q (.bool r) H) : SEq Q H v w
inductive SNe (Q : V → AHeap → Prop) (H : AHeap) (v : V) (w : V) : Prop where
  | mk (r : Bool) (h : eqV H v w r) (q : Q (.bool (!r)) H) : SNe Q H v w
inductive SInL (Q : V → AHeap → Prop) (H : AHeap) (v : V) (a : Addr) : Prop where
  | mk (xs : List V) (r : Bool) (h : H a = some (.list xs)) (h' : inF v xs = some r) (q : Q (.bool r) H) : SInL Q H v a
inductive SNotInL (Q : V → AHeap → Prop) (H : AHeap) (v : V) (a : Addr) : Prop where
  | mk (xs : List V) (r : Bool) (h : H a = some (.list xs)) (h' : inF v xs = some r) (q : Q (.bool (!r)) H) : SNotInL Q H v a
inductive SItemL (Q : V → AHeap → Prop) (H : AHeap) (a : Addr) (i : Int) : Prop where
  | mk (xs : List V) (k : Nat) (v : V) (h : H a = some (.list xs)) (h1 : idx i xs.length = some k) (h2 : xs[k]? = some v) (q : Q v H) : SItemL Q H a i
inductive SItemT (Q : V → AHeap → Prop) (H : AHeap) (xs : List V) (i : Int) : Prop where
  | mk (k : Nat) (v : V) (h1 : idx i xs.length = some k) (h2 : xs[k]? = some v) (hl : xs.length ≤ Lim) (q : Q v H) : SItemT Q H xs i
inductive SItemD (Q : V → AHeap → Prop) (H : AHeap) (a : Addr) (i : Int) : Prop where
  | mk (kvs : List (Int × V)) (ep : Nat) (v : V) (h : H a = some (.dict kvs ep)) (h1 : getD kvs i = some v) (q : Q v H) : SItemD Q H a i
inductive SSlTo (Q : V → AHeap → Prop) (H : AHeap) (a : Addr) (i : Int) : Prop where
  | mk (xs : List V) (h : H a = some (.list xs)) (h0 : 0 ≤ i) (q : newL (xs.take i.toNat) Q H) : SSlTo Q H a i
inductive SSlFrom (Q : V → AHeap → Prop) (H : AHeap) (a : Addr) (i : Int) : Prop where
  | mk (xs : List V) (h : H a = some (.list xs)) (h0 : 0 ≤ i) (q : newL (xs.drop i.toNat) Q H) : SSlFrom Q H a i
inductive SAppend (Q : V → AHeap → Prop) (H : AHeap) (a : Addr) (v : V) : Prop where
  | mk (xs : List V) (h : H a = some (.list xs)) (hl : xs.length + 1 ≤ Lim) (q : Q .none (H.upd a (.list (xs ++ [v])))) : SAppend Q H a v
inductive SRemove (Q : V → AHeap → Prop) (H : AHeap) (a : Addr) (i : Int) : Prop where
  | mk (ns : List Int) (h : H a = some (.list (ns.map V.int))) (hi : i ∈ ns) (q : Q .none (H.upd a (.list ((ns.erase i).map V.int)))) : SRemove Q H a i
inductive SPop (Q : V → AHeap → Prop) (H : AHeap) (a : Addr) (i : Int) : Prop where
  | mk (xs : List V) (v : V) (h : H a = some (.list xs)) (h0 : 0 ≤ i) (h1 : xs[i.toNat]? = some v) (q : Q v (H.upd a (.list (xs.eraseIdx i.toNat)))) : SPop Q H a i
inductive SExtend (Q : V → AHeap → Prop) (H : AHeap) (a : Addr) (b : Addr) : Prop where
  | mk (xs : List V) (ys : List V) (hab : a ≠ b) (h : H a = some (.list xs)) (h' : H b = some (.list ys)) (hl : xs.length + ys.length ≤ Lim) (q : Q .none (H.upd a (.list (xs ++ ys)))) : SExtend Q H a b
inductive SDget (Q : V → AHeap → Prop) (H : AHeap) (a : Addr) (i : Int) : Prop where
  | mk (kvs : List (Int × V)) (ep : Nat) (h : H a = some (.dict kvs ep)) (q : Q ((getD kvs i).getD .none) H) : SDget Q H a i
inductive ExI (d : Nat) (H : AHeap) (v : V) (K : List V → Prop) : Prop where
  | mk (xs : List V) (hi : items H v xs) (hd : 0 < d) (k : K xs) : ExI d H v K
inductive ExW (d : Nat) (K : Nat → Prop) : Prop where
  | mk (hd : 0 < d) (n : Nat) (k : K n) : ExW d K

section
variable (P : Cx) (d : Nat)

noncomputable def sem1 (o : Op1) (v : V) (Q : V → AHeap → Prop) (H : AHeap) : Prop :=
  match o, v with
  | .len, .lst a => SLen Q H a
  | .len, .tup vs => vs.length ≤ Lim ∧ Q (.int vs.length) H
  | .len, .scr => Q (.int P.ns.length) H
  | .isI t, v => SIsI Q H t v
  | .isX k, .exc _ c => Q (.bool (isSub c k)) H
  | .neg, .int i => Q (.int (-i)) H
  | .intOf, .bool b => Q (.int (if b then 1 else 0)) H
  | .listOf, .lst a => SListOf Q H a
  | .listOf, .tup vs => newL vs Q H
  | .tupleOf, .lst a => ∃ xs, H a = some (.list xs) ∧ Q (.tup xs) H
  | .sorted, .lst a => 0 < d ∧ ∃ ns : List Int, ns.length < 64 ∧ H a = some (.list (ns.map V.int)) ∧ newL ((ns.mergeSort (fun a b => decide (a ≤ b))).map V.int) Q H
  | .all, .lst a => 0 < d ∧ ∃ bs : List Bool, H a = some (.list (bs.map V.bool)) ∧ Q (.bool (bs.all id)) H
  | .rev, .lst a => SRev Q H a
  | .range, .int n => (-(2 ^ 62) ≤ n ∧ n < 2 ^ 62) ∧ Q (.rng 0 n) H
  | _, _ => False

noncomputable def sem2 (o : Op2) (v w : V) (Q : V → AHeap → Prop) (H : AHeap) : Prop :=
  match o, v, w with
  | .add, .int i, .int j => Q (.int (i + j)) H
  | .add, .lst a, .lst b => SAddL Q H a b
  | .add, .tup xs, .tup ys => (xs ≠ [] ∧ ys ≠ [] ∧ xs.length + ys.length ≤ 100) ∧ Q (.tup (xs ++ ys)) H
  | .add, .str x, .str y => x.length + y.length ≤ 1000 ∧ Q (.str (x ++ y)) H
  | .sub, .int i, .int j => Q (.int (i - j)) H
  | .mul, .int i, .int j => (bitOk i ∨ bitOk j) ∧ Q (.int (i * j)) H
  | .mul, .str x, .int j => (j = 0 ∨ j = 1) ∧ Q (.str (if j = 0 then Str.empty else x)) H
  | .mul, .lst a, .int j => ∃ xs, H a = some (.list xs) ∧ (0 ≤ j ∧ j ≤ 100) ∧ newL (List.replicate j.toNat xs).flatten Q H
  | .fdiv, .int i, .int j => j ≠ 0 ∧ j.natAbs < 1073741824 ∧ Q (.int (i.fdiv j)) H
  | .mod, .int i, .int j => j ≠ 0 ∧ Q (.int (i.fmod j)) H
  | .pow, .int i, .int j => (i = 10 ∧ 0 ≤ j ∧ j ≤ 20) ∧ Q (.int (i ^ j.toNat)) H
  | .eq, v, w => SEq Q H v w
  | .ne, v, w => SNe Q H v w
  | .lt, .int i, .int j => Q (.bool (decide (i < j))) H
  | .le, .int i, .int j => Q (.bool (decide (i ≤ j))) H
  | .gt, .int i, .int j => Q (.bool (decide (j < i))) H
  | .ge, .int i, .int j => Q (.bool (decide (j ≤ i))) H
  | .is, v, .none => Q (.bool (match v with | .none => true | _ => false)) H
  | .inn, v, .lst a => SInL Q H v a
  | .inn, v, .tup xs => ∃ r, inF v xs = some r ∧ Q (.bool r) H
  | .inn, .int i, .rng lo hi => Q (.bool (decide (lo ≤ i) && decide (i < hi))) H
  | .notIn, v, .lst a => SNotInL Q H v a
  | .notIn, .int i, .rng lo hi => Q (.bool (!(decide (lo ≤ i) && decide (i < hi)))) H
  | .item, .lst a, .int i => SItemL Q H a i
  | .item, .tup xs, .int i => SItemT Q H xs i
  | .item, .scr, .int i => ∃ n, 0 ≤ i ∧ P.ns[i.toNat]? = some n ∧ Q (.int n) H
  | .item, .dct a, .int i => SItemD Q H a i
  | .sliceTo, .lst a, .int i => SSlTo Q H a i
  | .sliceTo, .tup xs, .int i => (i = 2 ∧ xs.length = 3) ∧ Q (.tup (xs.take 2)) H
  | .sliceFrom, .lst a, .int i => SSlFrom Q H a i
  | .range2, .int i, .int j => Q (.rng i j) H
  | .min2, .int i, .int j => 0 < d ∧ Q (.int (if j < i then j else i)) H
  | .maxD, .lst a, .int i => 0 < d ∧ ∃ (ns : List Int) (m : Int), H a = some (.list (ns.map V.int)) ∧ (ns = [] → m = i) ∧ (ns ≠ [] → m ∈ ns ∧ ∀ x ∈ ns, x ≤ m) ∧ Q (.int m) H
  | .append, .lst a, v => SAppend Q H a v
  | .remove, .lst a, .int i => SRemove Q H a i
  | .pop, .lst a, .int i => SPop Q H a i
  | .extend, .lst a, .lst b => SExtend Q H a b
  | .dget, .dct a, .int i => SDget Q H a i
  | _, _, _ => False

noncomputable def recv : Op2 → V → AHeap → Prop
  | .dget, .dct a, H => ∃ kvs ep, H a = some (.dict kvs ep)
  | .dget, _, _ => False
  | _, .lst a, H => ∃ xs, H a = some (.list xs)
  | _, _, _ => False

noncomputable def truthV : V → (Bool → Prop) → Prop
  | .bool b, Q => Q b
  | _, _ => False

noncomputable def stays (H0 : AHeap) (v : V) (xs : List V) (H : AHeap) : Prop := items H v xs ∧ ∀ a, v = .dct a → H a = H0 a

noncomputable def compLoop (inv : AHeap → Prop) (cond : V → (Bool → AHeap → Prop) → AHeap → Prop) (elt : V → (V → AHeap → Prop) → AHeap → Prop) (Q : V → AHeap → Prop) : List V → List V → AHeap → Prop
  | [], acc, H => inv H ∧ newL acc Q H
  | x :: rest, acc, H => inv H ∧ acc.length + 1 ≤ Lim ∧ cond x (fun b H1 => br b (inv H1 ∧ elt x (fun v H2 => compLoop inv cond elt Q rest (acc ++ [v]) H2) H1) (compLoop inv cond elt Q rest acc H1)) H

noncomputable def forLoop (inv : AHeap → Prop) (j : Nat) (body : (Fl → Ro → AHeap → Prop) → Ro → AHeap → Prop) (Q : Fl → Ro → AHeap → Prop) : List V → Ro → AHeap → Prop
  | [], ρ, H => inv H ∧ Q .next ρ H
  | x :: rest, ρ, H => inv H ∧ body (fun f ρ' H' => match f with
      | .next | .cont => forLoop inv j body Q rest ρ' H'
      | .brk => Q .next ρ' H'
      | .ret v => Q (.ret v) ρ' H') (ρ.upd j x) H

noncomputable def whileLoop (test : (Bool → AHeap → Prop) → Ro → AHeap → Prop) (body : (Fl → Ro → AHeap → Prop) → Ro → AHeap → Prop) (Q : Fl → Ro → AHeap → Prop) : Nat → Ro → AHeap → Prop
  | 0, _, _ => False
  | n + 1, ρ, H => test (fun b H1 => br b (body (fun f ρ' H' => match f with
      | .next | .cont => whileLoop test body Q n ρ' H'
      | .brk => Q .next ρ' H'
      | .ret v => Q (.ret v) ρ' H') ρ H1) (Q .next ρ H1)) ρ H

end
end
end Mine

namespace Mine
section
open PySem PySem.Calls PyProof.Rows
inductive FrameAt (P : Cx) (H : AHeap) (h : Heap) (env : Env) : Prop where
  | mk (k : env.scope.kind ≠ .module) (L : Addr) (o : Obj) (es : Array DictEntry) (n : Nat) (e : env.frame = some L) (g : h.get? L = some o) (d : o.data = .dict es n) (hn : H L = none) (b : P.hb.get? L = none) : FrameAt P H h env

structure Room (P : Cx) (d : Nat) (A : Around) (H : AHeap) (h : Heap) : Prop where
  units : A.units + 100 + 10 * d ≤ cLine
  hd : 0 < d → A.handled = none
  depth : A.depth + d ≤ 900
  frames : ∃ l, A.frames = some l ∧ ∀ env ∈ l, FrameAt P H h env

inductive TbAt (P : Cx) (h0 h : Heap) (a : Addr) (hd : Value) : Prop where
  | mk (T : Addr) (oT : Obj) (ts : Array Value) (e : hd = .ref T) (n : h0.get? T = none ∧ P.hb.get? T = none) (ne : T ≠ a) (g : h.get? T = some oT) (c : oT.cls = .type "traceback") (d : oT.data = .fields ts) (z : 3 < ts.size) : TbAt P h0 h a hd
inductive ExAt (P : Cx) (c : Nat) (h0 h : Heap) (e : Value) : Prop where
  | mk (a : Addr) (oe : Obj) (vs : Array Value) (hd : Value) (e1 : e = .ref a) (n : h0.get? a = none ∧ P.hb.get? a = none) (g : h.get? a = some oe) (k : c < P.gl.xs.length ∧ oe.cls = .ref (P.xc c)) (d : oe.data = .fields vs) (h1 : vs[1]? = some hd) (t : hd = .none ∨ TbAt P h0 h a hd) : ExAt P c h0 h e
theorem ExAt.back {P : Cx} {c : Nat} {h0 h1 h : Heap} {e : Value} (x : ∀ b o, h0.get? b = some o → ∃ o', h1.get? b = some o') (y : ExAt P c h1 h e) : ExAt P c h0 h e := by
  have k : ∀ b, h1.get? b = none → h0.get? b = none := fun b n => by
    cases q : h0.get? b with
    | none => rfl
    | some o => obtain ⟨o', e'⟩ := x b o q; rw [n] at e'; cases e'
  obtain ⟨a, oe, vs, hd, e1, ⟨e2, e2'⟩, e3, e4, e5, e6, z⟩ := y
  refine ⟨a, oe, vs, hd, e1, ⟨k a e2, e2'⟩, e3, e4, e5, e6, z.imp id fun ⟨T, oT, ts, t1, ⟨t2, t2'⟩, r1, r2, r3, r4, r5⟩ => ⟨T, oT, ts, t1, ⟨k T t2, t2'⟩, r1, r2, r3, r4, r5⟩⟩

inductive PostX (P : Cx) (H : AHeap) (h : Heap) (X : Nat → AHeap → Prop) (e : Value) (s' : Shared) : Prop where
  | mk (c : Nat) (H' : AHeap) (x : ExAt P c h s'.heap e) (W : Wd P H' s') (f : Fm H h H' s'.heap) (q : X c H') : PostX P H h X e s'
theorem PostX.trans {P : Cx} {H H1 : AHeap} {h h1 : Heap} {X : Nat → AHeap → Prop} {w : Value} {s' : Shared} (x : Fm H h H1 h1) (y : PostX P H1 h1 X w s') : PostX P H h X w s' :=
  let ⟨r, H', a, b, c, d⟩ := y; ⟨r, H', a.back x.ex, b, x.trans c, d⟩

structure Call (P : Cx) (d : Nat) (f : String) (args : List V) (Q : V → AHeap → Prop) (X : Nat → AHeap → Prop) (H : AHeap) : Prop where
  go : ∀ (A : Around) (s : Shared) (ws : List Value), Room P (d + 1) A H s.heap → Wd P H s → Reps P s.heap ws args →
    ∀ fa, P.mg (Str.ofString f) = some (.ref fa) →
      wpAny (model P.prog P.w) A (call (.ref fa) ws) (Post P H s.heap Q) (PostX P H s.heap X) s

noncomputable def getR (o : Option V) (K : V → Prop) : Prop := match o with | some v => K v | none => False
theorem getR_ex {o : Option V} {K : V → Prop} (h : getR o K) : ∃ v, o = some v ∧ K v := by
  cases o with
  | none => exact h.elim
  | some v => exact ⟨v, rfl, h⟩

noncomputable def NoX : Nat → AHeap → Prop := fun zz zz => False
section
variable (P : Cx) (d : Nat)

noncomputable def callV (X : Nat → AHeap → Prop) (f : String) (vs : List V) (Q : V → AHeap → Prop) (H : AHeap) : Prop :=
  match d with
  | 0 => False
  | d + 1 => Call P d f vs Q X H

mutual
noncomputable def vE : (Nat → AHeap → Prop) → E → Ro → (V → AHeap → Prop) → AHeap → Prop
  | X, .none, _, Q, H => Q .none H
  | X, .bool b, _, Q, H => Q (.bool b) H
  | X, .int i, _, Q, H => Q (.int i) H
  | X, .str s, _, Q, H => Q (.str (Str.ofString s)) H
  | X, .var i, ρ, Q, H => getR (ρ i) fun v => Q v H
  | X, .glb _ i, _, Q, H => Q (.int i) H
  | X, .op1 o e, ρ, Q, H => vE X e ρ (fun v H => sem1 P d o v Q H) H
  | X, .op2 o a b, ρ, Q, H => vE X a ρ (fun v H => vE X b ρ (fun w H => sem2 P d o v w Q H) H) H
  | X, .meth o a b, ρ, Q, H => vE X a ρ (fun v H => recv o v H ∧ vE X b ρ (fun w H => sem2 P d o v w Q H) H) H
  | X, .not e, ρ, Q, H => vE X e ρ (fun v H => truthV v fun b => Q (.bool (!b)) H) H
  | X, .and a b, ρ, Q, H => vE X a ρ (fun v H => truthV v fun t => br t (vE X b ρ Q H) (Q (.bool false) H)) H
  | X, .or a b, ρ, Q, H => vE X a ρ (fun v H => truthV v fun t => br t (Q (.bool true) H) (vE X b ρ Q H)) H
  | X, .chain o₁ o₂ a b c, ρ, Q, H => vE X a ρ (fun x H => vE X b ρ (fun y H => sem2 P d o₁ x y (fun r H => truthV r fun t => br t (vE X c ρ (fun z H => sem2 P d o₂ y z Q H) H) (Q (.bool false) H)) H) H) H
  | X, .tup es, ρ, Q, H => vEs X es ρ (fun vs H => vs.length ≤ Lim ∧ Q (.tup vs) H) H
  | X, .lst es, ρ, Q, H => vEs X es ρ (fun vs H => newL vs Q H) H
  | X, .dict0, _, Q, H => ∀ a, H a = none → Q (.dct a) (H.upd a (.dict [] 0))
  | X, .call f es, ρ, Q, H => vEs X es ρ (fun vs H => callV P d X f vs Q H) H
  | X, .comp j elt src cond, ρ, Q, H => vE X src ρ (fun v H => ExI d H v fun xs =>
      compLoop (stays H v xs) (fun x R H => vE NoX cond (ρ.upd j x) (fun v H => truthV v (R · H)) H) (fun x R H => vE NoX elt (ρ.upd j x) R H) Q xs [] H) H
noncomputable def vEs : (Nat → AHeap → Prop) → Es → Ro → (List V → AHeap → Prop) → AHeap → Prop
  | X, .nil, _, Q, H => Q [] H
  | X, .cons e es, ρ, Q, H => vE X e ρ (fun v H => vEs X es ρ (fun vs H => Q (v :: vs) H) H) H
end

noncomputable def stoV (x k v : V) (Q : AHeap → Prop) (H : AHeap) : Prop :=
  False

end

section
variable (P : Cx)
mutual
noncomputable def vS : Nat → (Nat → Ro → AHeap → Prop) → S → (Fl → Ro → AHeap → Prop) → Ro → AHeap → Prop
  | d, X, .asg i e, Q, ρ, H => vE P d (fun c => X c ρ) e ρ (fun v H => Q .next (ρ.upd i v) H) H
  | _, _, .unp _ _, _, _, _ => False
  | d, X, .sto o i e, Q, ρ, H => vE P d (fun c => X c ρ) e ρ (fun v H => vE P d (fun c => X c ρ) o ρ (fun x H => vE P d (fun c => X c ρ) i ρ (fun k H => stoV x k v (fun H => Q .next ρ H) H) H) H) H
  | d, X, .ex e, Q, ρ, H => vE P d (fun c => X c ρ) e ρ (fun zz H => Q .next ρ H) H
  | d, X, .ite c a b, Q, ρ, H => vE P d (fun c => X c ρ) c ρ (fun v H => truthV v fun t => br t (vSs d X a Q ρ H) (vSs d X b Q ρ H)) H
  | d, X, .for j src body, Q, ρ, H => vE P d (fun c => X c ρ) src ρ (fun v H => ExI d H v fun xs => forLoop (stays H v xs) j (fun R ρ H => vSs d X body R ρ H) Q xs ρ H) H
  | d, X, .whl c body, Q, ρ, H => ExW d fun n => whileLoop (fun R ρ H => vE P d (fun c => X c ρ) c ρ (fun v H => truthV v (R · H)) H) (fun R ρ H => vSs d X body R ρ H) Q n ρ H
  | d, X, .ret e, Q, ρ, H => vE P d (fun c => X c ρ) e ρ (fun v H => Q (.ret v) ρ H) H
  | _, _, .cont, Q, ρ, H => Q .cont ρ H
  | _, _, .dead, _, _, _ => False
  | d, X, .raise c, _, ρ, H => 0 < d ∧ X c ρ H
  | d, X, .tryE body hs, Q, ρ, H => 0 < d ∧ vSs d (fun c ρ H => vHs c X hs Q ρ H) body Q ρ H
noncomputable def vSs : Nat → (Nat → Ro → AHeap → Prop) → Ss → (Fl → Ro → AHeap → Prop) → Ro → AHeap → Prop
  | _, _, .nil, Q, ρ, H => Q .next ρ H
  | d, X, .cons s ss, Q, ρ, H => vS d X s (fun f ρ H => match f with | .next => vSs d X ss Q ρ H | f => Q f ρ H) ρ H
noncomputable def vHs : Nat → (Nat → Ro → AHeap → Prop) → Hs → (Fl → Ro → AHeap → Prop) → Ro → AHeap → Prop
  | c, X, .nil, _, ρ, H => X c ρ H
  | c, X, .cons k v body hs, Q, ρ, H => br (isSub c k) (∀ a, vSs 0 (fun zz zz zz => False) body (fun f ρ H => Q f (ρ.delO v) H) (ρ.updO v (.exc a c)) H) (vHs c X hs Q ρ H)
end
end

noncomputable abbrev Tab := List (Str × Nat)

noncomputable def cGlob (sc : Scope) (g : String) : Expr → Bool
  | .Name x _ => x == Str.ofString g && sc.names.lookup x == some .globalImplicit
  | _ => false

noncomputable def cVar (sc : Scope) (tab : Tab) (i : Nat) (x : Str) : Bool :=
  tab.lookup x == some i && (sc.names.lookup x == some .local || sc.names.lookup x == some .cell || sc.names.lookup x == some .free) && !(x == ("__debug__" : Str)) && !(x == ("__classdict__" : Str))

noncomputable def tyName : Ty → String
  | .int => "int" | .bool => "bool" | .str => "str" | .list => "list" | .tuple => "tuple" | .dict => "dict"

noncomputable def fun1 : Op1 → Option String
  | .len => some "len" | .intOf => some "int" | .listOf => some "list" | .tupleOf => some "tuple" | .sorted => some "sorted" | .sortP => some "sorted"
  | .all => some "all" | .maxL => some "max" | .range => some "range"
  | _ => none
noncomputable def fun2 : Op2 → Option String
  | .max2 => some "max" | .min2 => some "min" | .range2 => some "range"
  | _ => none
noncomputable def bin2 : Op2 → Option Operator
  | .add => some .Add | .sub => some .Sub | .mul => some .Mult | .fdiv => some .FloorDiv | .mod => some .Mod | .pow => some .Pow
  | _ => none
noncomputable def cmp2 : Op2 → Option CmpOp
  | .eq => some .Eq | .ne => some .NotEq | .lt => some .Lt | .le => some .LtE | .gt => some .Gt | .ge => some .GtE
  | .is => some .Is | .isNot => some .IsNot | .inn => some .In | .notIn => some .NotIn
  | _ => none
noncomputable def meth2 : Op2 → Option String
  | .append => some "append" | .remove => some "remove" | .pop => some "pop" | .extend => some "extend" | .dget => some "get"
  | _ => none

noncomputable def isSet (x : Expr) : Bool := x.ctorIdx == 7
noncomputable def isSlice (x : Expr) : Bool := x.ctorIdx == 26
noncomputable def notSuper : Expr → Bool
  | .Call (.Name _ _) [] [] _ => false
  | _ => true
noncomputable def isStar (x : Expr) : Bool := x.ctorIdx == 22

noncomputable def subTab (sc : Scope) (tab : Tab) : Tab := tab.filter fun p => sc.names.lookup p.1 == some .free

noncomputable def compScopeOk (sc out : Scope) (y : Str) : Bool :=
  sc.kind == .function && sc.names.all (fun p => p.2 == .local || p.2 == .free || p.2 == .globalImplicit) &&
  sc.names.all (fun p => p.2 != .local || sc.names.lookup p.1 == some .local) && sc.names.lookup y == some .local &&
  sc.names.all (fun p => p.2 != .free || out.names.lookup p.1 == some .cell)

theorem nc {α : Prop} (h : false = true) : α := Bool.noConfusion h
theorem nc' {α : Prop} (h : true = false) : α := Bool.noConfusion h
theorem noneAny {α : Prop} {β : Type} {x : β} (h : (none : Option β) = some x) : α := nomatch h
noncomputable def oB {α : Type} (o : Option α) (k : α → Bool) : Bool := match o with | some a => k a | none => false
theorem oB_true {α : Type} {o : Option α} {k : α → Bool} (h : oB o k = true) : ∃ a, o = some a ∧ k a = true := by
  cases o with
  | none => cases h
  | some a => exact ⟨a, rfl, h⟩
theorem andB {a b : Bool} (h : (a && b) = true) : a = true ∧ b = true := by cases a <;> cases b <;> first | exact ⟨rfl, rfl⟩ | cases h
theorem orB {a b : Bool} (h : (a || b) = true) : a = true ∨ b = true := by cases a <;> cases b <;> first | exact .inl rfl | exact .inr rfl | cases h
theorem notB {a : Bool} (h : (!a) = true) : a = false := by cases a <;> first | rfl | cases h

noncomputable def asConst (x : Expr) : Option { y : Const × Nat × Pos // x = .Constant y.1 y.2.1 y.2.2 } :=
  if h : x.ctorIdx = 19 then Expr.Constant.elim (motive_1 := fun x => Option { y : Const × Nat × Pos // x = .Constant y.1 y.2.1 y.2.2 }) x h fun c k p => some ⟨(c, k, p), rfl⟩ else none
noncomputable def asName (x : Expr) : Option { y : Str × Pos // x = .Name y.1 y.2 } :=
  if h : x.ctorIdx = 23 then Expr.Name.elim (motive_1 := fun x => Option { y : Str × Pos // x = .Name y.1 y.2 }) x h fun x p => some ⟨(x, p), rfl⟩ else none
noncomputable def asUn (x : Expr) : Option { y : UnaryOp × Expr × Pos // x = .UnaryOp y.1 y.2.1 y.2.2 } :=
  if h : x.ctorIdx = 3 then Expr.UnaryOp.elim (motive_1 := fun x => Option { y : UnaryOp × Expr × Pos // x = .UnaryOp y.1 y.2.1 y.2.2 }) x h fun o x p => some ⟨(o, x, p), rfl⟩ else none
noncomputable def asSub (x : Expr) : Option { y : Expr × Expr × Pos // x = .Subscript y.1 y.2.1 y.2.2 } :=
  if h : x.ctorIdx = 21 then Expr.Subscript.elim (motive_1 := fun x => Option { y : Expr × Expr × Pos // x = .Subscript y.1 y.2.1 y.2.2 }) x h fun x y p => some ⟨(x, y, p), rfl⟩ else none
noncomputable def asSlice (x : Expr) : Option { y : Option Expr × Option Expr × Option Expr × Pos // x = .Slice y.1 y.2.1 y.2.2.1 y.2.2.2 } :=
  if h : x.ctorIdx = 26 then Expr.Slice.elim (motive_1 := fun x => Option { y : Option Expr × Option Expr × Option Expr × Pos // x = .Slice y.1 y.2.1 y.2.2.1 y.2.2.2 }) x h fun x y z p => some ⟨(x, y, z, p), rfl⟩ else none
noncomputable def asBin (x : Expr) : Option { y : Expr × Operator × Expr × Pos // x = .BinOp y.1 y.2.1 y.2.2.1 y.2.2.2 } :=
  if h : x.ctorIdx = 2 then Expr.BinOp.elim (motive_1 := fun x => Option { y : Expr × Operator × Expr × Pos // x = .BinOp y.1 y.2.1 y.2.2.1 y.2.2.2 }) x h fun x o y p => some ⟨(x, o, y, p), rfl⟩ else none
noncomputable def asCmp (x : Expr) : Option { y : Expr × List CmpOp × List Expr × Pos // x = .Compare y.1 y.2.1 y.2.2.1 y.2.2.2 } :=
  if h : x.ctorIdx = 15 then Expr.Compare.elim (motive_1 := fun x => Option { y : Expr × List CmpOp × List Expr × Pos // x = .Compare y.1 y.2.1 y.2.2.1 y.2.2.2 }) x h fun x o y p => some ⟨(x, o, y, p), rfl⟩ else none
noncomputable def asCall (x : Expr) : Option { y : Expr × List Expr × List Keyword × Pos // x = .Call y.1 y.2.1 y.2.2.1 y.2.2.2 } :=
  if h : x.ctorIdx = 16 then Expr.Call.elim (motive_1 := fun x => Option { y : Expr × List Expr × List Keyword × Pos // x = .Call y.1 y.2.1 y.2.2.1 y.2.2.2 }) x h fun f xs ks p => some ⟨(f, xs, ks, p), rfl⟩ else none
noncomputable def asAttr (x : Expr) : Option { y : Expr × Str × Pos // x = .Attribute y.1 y.2.1 y.2.2 } :=
  if h : x.ctorIdx = 20 then Expr.Attribute.elim (motive_1 := fun x => Option { y : Expr × Str × Pos // x = .Attribute y.1 y.2.1 y.2.2 }) x h fun x a p => some ⟨(x, a, p), rfl⟩ else none
noncomputable def asBoolOp (x : Expr) : Option { y : BoolOp × List Expr × Pos // x = .BoolOp y.1 y.2.1 y.2.2 } :=
  if h : x.ctorIdx = 0 then Expr.BoolOp.elim (motive_1 := fun x => Option { y : BoolOp × List Expr × Pos // x = .BoolOp y.1 y.2.1 y.2.2 }) x h fun o xs p => some ⟨(o, xs, p), rfl⟩ else none
noncomputable def asTup (x : Expr) : Option { y : List Expr × Nat × Pos // x = .Tuple y.1 y.2.1 y.2.2 } :=
  if h : x.ctorIdx = 25 then Expr.Tuple.elim (motive_1 := fun x => Option { y : List Expr × Nat × Pos // x = .Tuple y.1 y.2.1 y.2.2 }) x h fun xs k p => some ⟨(xs, k, p), rfl⟩ else none
noncomputable def asLst (x : Expr) : Option { y : List Expr × Pos // x = .List y.1 y.2 } :=
  if h : x.ctorIdx = 24 then Expr.List.elim (motive_1 := fun x => Option { y : List Expr × Pos // x = .List y.1 y.2 }) x h fun xs p => some ⟨(xs, p), rfl⟩ else none
noncomputable def asDict (x : Expr) : Option { y : List (Option Expr) × List Expr × Pos // x = .Dict y.1 y.2.1 y.2.2 } :=
  if h : x.ctorIdx = 6 then Expr.Dict.elim (motive_1 := fun x => Option { y : List (Option Expr) × List Expr × Pos // x = .Dict y.1 y.2.1 y.2.2 }) x h fun xs ys p => some ⟨(xs, ys, p), rfl⟩ else none
noncomputable def asLComp (x : Expr) : Option { y : Expr × List Comprehension × Scope × Pos // x = .ListComp y.1 y.2.1 y.2.2.1 y.2.2.2 } :=
  if h : x.ctorIdx = 8 then Expr.ListComp.elim (motive_1 := fun x => Option { y : Expr × List Comprehension × Scope × Pos // x = .ListComp y.1 y.2.1 y.2.2.1 y.2.2.2 }) x h fun x gs sc p => some ⟨(x, gs, sc, p), rfl⟩ else none
noncomputable def lOne {α : Type} : (l : List α) → Option { a : α // l = [a] }
  | [a] => some ⟨a, rfl⟩
  | _ => none
noncomputable def lTwo {α : Type} : (l : List α) → Option { a : α × α // l = [a.1, a.2] }
  | [a, b] => some ⟨(a, b), rfl⟩
  | _ => none
noncomputable def lMore {α : Type} : (l : List α) → Option { a : α × α × α × List α // l = a.1 :: a.2.1 :: a.2.2.1 :: a.2.2.2 }
  | a :: b :: c :: r => some ⟨(a, b, c, r), rfl⟩
  | _ => none
noncomputable def oSome {α : Type} : (o : Option α) → Option { a : α // o = some a }
  | some a => some ⟨a, rfl⟩
  | none => none
noncomputable def asIsI : (o : Op1) → Option { t : Ty // o = .isI t }
  | .isI t => some ⟨t, rfl⟩
  | _ => none
noncomputable def xName (G : Gl) : Op1 → Option String
  | .isX c => G.xs[c]?
  | .isV => some "ValueError"
  | _ => none
noncomputable def cBool : (c : Const) → Option { b : Bool // c = .bool b }
  | .bool b => some ⟨b, rfl⟩
  | _ => none
noncomputable def cInt : (c : Const) → Option { b : Int // c = .int b }
  | .int b => some ⟨b, rfl⟩
  | _ => none
noncomputable def cStr : (c : Const) → Option { b : Str // c = .str b }
  | .str b => some ⟨b, rfl⟩
  | _ => none
noncomputable def cNoneD : (c : Const) → Option { _u : Unit // c = .none }
  | .none => some ⟨(), rfl⟩
  | _ => none

noncomputable def call1P (k : Expr → Expr → Bool) (x : Expr) : Bool := oB (asCall x) fun y => oB (lOne y.1.2.1) fun a => y.1.2.2.1.isEmpty && !isStar a.1 && k y.1.1 a.1
noncomputable def call2P (k : Expr → Expr → Expr → Bool) (x : Expr) : Bool := oB (asCall x) fun y => oB (lTwo y.1.2.1) fun a => y.1.2.2.1.isEmpty && !isStar a.1.1 && !isStar a.1.2 && k y.1.1 a.1.1 a.1.2
theorem isNil {α : Type} {l : List α} (h : l.isEmpty = true) : l = [] := by cases l with | nil => rfl | cons => cases h
theorem call1P_eq {k : Expr → Expr → Bool} {x : Expr} (h : call1P k x = true) : ∃ f a p, x = .Call f [a] [] p ∧ isStar a = false ∧ k f a = true := by
  obtain ⟨⟨y, h'y⟩, -, h⟩ := oB_true h
  obtain ⟨⟨a, h'a⟩, -, h⟩ := oB_true h
  exact ⟨y.1, a, y.2.2.2, h'y.trans (by rw [h'a, isNil (andB (andB h).1).1]), notB (andB (andB h).1).2, (andB h).2⟩
theorem call2P_eq {k : Expr → Expr → Expr → Bool} {x : Expr} (h : call2P k x = true) : ∃ f a b p, x = .Call f [a, b] [] p ∧ isStar a = false ∧ isStar b = false ∧ k f a b = true := by
  obtain ⟨⟨y, h'y⟩, -, h⟩ := oB_true h
  obtain ⟨⟨a, h'a⟩, -, h⟩ := oB_true h
  have h0 := (andB h).1
  exact ⟨y.1, a.1, a.2, y.2.2.2, h'y.trans (by rw [h'a, isNil (andB (andB h0).1).1]), notB (andB (andB h0).1).2, notB (andB h0).2, (andB h).2⟩

noncomputable def isNegOne (x : Expr) : Bool := oB (asUn x) fun y => y.1.1 == .USub && oB (asConst y.1.2.1) fun c => oB (cInt c.1.1) fun i => i.1 == 1
noncomputable def isRev (s : Expr) : Bool := oB (asSlice s) fun y => y.1.1.isNone && y.1.2.1.isNone && oB (oSome y.1.2.2.1) fun z => isNegOne z.1

noncomputable def cOp1 (G : Gl) (sc : Scope) (o : Op1) (k : Expr → Bool) (x : Expr) : Bool :=
  oB (asIsI o) (fun t => call2P (fun f a b => cGlob sc "isinstance" f && cGlob sc (tyName t.1) b && k a) x) ||
  ((o == .lenSet) && call1P (fun f a => cGlob sc "len" f && call1P (fun g b => cGlob sc "set" g && k b) a) x) ||
  ((o == .neg) && oB (asUn x) fun y => y.1.1 == .USub && k y.1.2.1) ||
  ((o == .rev) && oB (asSub x) fun y => isRev y.1.2.1 && k y.1.1) ||
  (oB (fun1 o) fun g => call1P (fun f a => cGlob sc g f && k a) x) ||
  oB (xName G o) fun g => call2P (fun f a b => cGlob sc "isinstance" f && cGlob sc g b && k a) x
noncomputable def cOp2 (sc : Scope) (o : Op2) (ka kb : Expr → Bool) (x : Expr) : Bool :=
  (oB (asBin x) fun y => bin2 o == some y.1.2.1 && ka y.1.1 && kb y.1.2.2.1) ||
  (oB (asCmp x) fun y => oB (lOne y.1.2.1) fun op => oB (lOne y.1.2.2.1) fun v => cmp2 o == some op.1 && !isSet v.1 && ka y.1.1 && kb v.1) ||
  ((o == .sliceTo) && oB (asSub x) fun y => oB (asSlice y.1.2.1) fun z => z.1.1.isNone && z.1.2.2.1.isNone && oB (oSome z.1.2.1) fun v => ka y.1.1 && kb v.1) ||
  ((o == .sliceFrom) && oB (asSub x) fun y => oB (asSlice y.1.2.1) fun z => z.1.2.1.isNone && z.1.2.2.1.isNone && oB (oSome z.1.1) fun v => ka y.1.1 && kb v.1) ||
  ((o == .item) && oB (asSub x) fun y => !isSlice y.1.2.1 && ka y.1.1 && kb y.1.2.1) ||
  ((o == .maxD) && oB (asCall x) fun y => oB (lOne y.1.2.1) fun u => oB (lOne y.1.2.2.1) fun w => w.1.arg == some (Str.ofString "default") && cGlob sc "max" y.1.1 && !isStar u.1 && ka u.1 && kb w.1.value) ||
  (oB (fun2 o) fun g => call2P (fun f a b => cGlob sc g f && ka a && kb b) x)
noncomputable def cMeth (o : Op2) (ka kb : Expr → Bool) (x : Expr) : Bool :=
  oB (asCall x) fun y => oB (lOne y.1.2.1) fun b => y.1.2.2.1.isEmpty && oB (asAttr y.1.1) fun z => oB (meth2 o) fun g => z.1.2.1 == Str.ofString g && !isStar b.1 && notSuper z.1.1 && z.1.2.2.endLine == y.1.2.2.2.line && ka z.1.1 && kb b.1
noncomputable def cBoolOp (op : BoolOp) (ka kb : Expr → Bool) (x : Expr) : Bool :=
  oB (asBoolOp x) fun y => y.1.1 == op && ((oB (lTwo y.1.2.1) fun a => ka a.1.1 && kb a.1.2) || (oB (lMore y.1.2.1) fun a => ka a.1.1 && kb (.BoolOp op (a.1.2.1 :: a.1.2.2.1 :: a.1.2.2.2) y.1.2.2)))
noncomputable def cChain (o₁ o₂ : Op2) (ka kb kc : Expr → Bool) (x : Expr) : Bool :=
  oB (asCmp x) fun y => oB (lTwo y.1.2.1) fun p => oB (lTwo y.1.2.2.1) fun z => cmp2 o₁ == some p.1.1 && cmp2 o₂ == some p.1.2 && !isSet z.1.1 && !isSet z.1.2 && ka y.1.1 && kb z.1.1 && kc z.1.2
noncomputable def isTrueE : (e : E) → Option { _u : Unit // e = .bool true }
  | .bool true => some ⟨(), rfl⟩
  | _ => none

mutual
noncomputable def cE (G : Gl) (sc : Scope) (tab : Tab) : E → Expr → Bool
  | .none, x => oB (asConst x) fun y => oB (cNoneD y.1.1) fun zz => true
  | .bool b, x => oB (asConst x) fun y => oB (cBool y.1.1) fun c => b == c.1
  | .int i, x => oB (asConst x) fun y => oB (cInt y.1.1) fun c => i == c.1
  | .str s, x => oB (asConst x) fun y => oB (cStr y.1.1) fun c => Str.ofString s == c.1
  | .var i, x => oB (asName x) fun y => cVar sc tab i y.1.1
  | .glb g i, x => oB (asName x) fun zz => G.cs.contains (g, i) && cGlob sc g x
  | .op1 o e, x => cOp1 G sc o (cE G sc tab e) x
  | .op2 o a b, x => cOp2 sc o (cE G sc tab a) (cE G sc tab b) x
  | .meth o a b, x => cMeth o (cE G sc tab a) (cE G sc tab b) x
  | .not e, x => oB (asUn x) fun y => y.1.1 == .Not && cE G sc tab e y.1.2.1
  | .and a b, x => cBoolOp .And (cE G sc tab a) (cE G sc tab b) x
  | .or a b, x => cBoolOp .Or (cE G sc tab a) (cE G sc tab b) x
  | .chain o₁ o₂ a b c, x => cChain o₁ o₂ (cE G sc tab a) (cE G sc tab b) (cE G sc tab c) x
  | .tup es, x => oB (asTup x) fun y => cEs G sc tab es y.1.1
  | .lst es, x => oB (asLst x) fun y => cEs G sc tab es y.1.1
  | .dict0, x => oB (asDict x) fun y => y.1.1.isEmpty && y.1.2.1.isEmpty
  | .call g es, x => oB (asCall x) fun y => y.1.2.2.1.isEmpty && G.fs.contains g && cGlob sc g y.1.1 && !y.1.2.1.isEmpty && decide (y.1.2.1.length < 20) && cEs G sc tab es y.1.2.1
  | .comp j elt src cond, x => oB (asLComp x) fun y => oB (lOne y.1.2.1) fun g => oB (asName g.1.target) fun n =>
      compScopeOk y.1.2.2.1 sc n.1.1 && !isSet g.1.iter && !(n.1.1 == ("__debug__" : Str)) && !(n.1.1 == ("__classdict__" : Str)) && !(tab.any fun p => p.2 == j) && g.1.is_async == 0 && cE G sc tab src g.1.iter && cE G y.1.2.2.1 ((n.1.1, j) :: subTab y.1.2.2.1 tab) elt y.1.1 &&
        ((g.1.ifs.isEmpty && oB (isTrueE cond) fun zz => true) || oB (lOne g.1.ifs) fun t => cE G y.1.2.2.1 ((n.1.1, j) :: subTab y.1.2.2.1 tab) cond t.1)
noncomputable def cEs (G : Gl) (sc : Scope) (tab : Tab) : Es → List Expr → Bool
  | .nil, xs => xs.isEmpty
  | .cons e es, xs => (match xs with | x :: xs => !isStar x && cE G sc tab e x && cEs G sc tab es xs | [] => false)
end

noncomputable def isComp (x : Expr) : Bool := x.ctorIdx == 8 || x.ctorIdx == 9 || x.ctorIdx == 10
noncomputable def isCompE : E → Bool
  | .comp .. => true
  | _ => false
noncomputable def asAssign (x : Stmt) : Option { y : Expr × Expr × Pos // x = .Assign [y.1] y.2.1 y.2.2 } :=
  if h : x.ctorIdx = 5 then Stmt.Assign.elim (motive_2 := fun x => Option { y : Expr × Expr × Pos // x = .Assign [y.1] y.2.1 y.2.2 }) x h fun ts v p => (lOne ts).map fun t => ⟨(t.1, v, p), congrArg (fun l => Stmt.Assign l v p) t.2⟩ else none
noncomputable def asExpr (x : Stmt) : Option { y : Expr × Pos // x = .Expr y.1 y.2 } :=
  if h : x.ctorIdx = 24 then Stmt.Expr.elim (motive_2 := fun x => Option { y : Expr × Pos // x = .Expr y.1 y.2 }) x h fun v p => some ⟨(v, p), rfl⟩ else none
noncomputable def asIf (x : Stmt) : Option { y : Expr × List Stmt × List Stmt × Pos // x = .If y.1 y.2.1 y.2.2.1 y.2.2.2 } :=
  if h : x.ctorIdx = 12 then Stmt.If.elim (motive_2 := fun x => Option { y : Expr × List Stmt × List Stmt × Pos // x = .If y.1 y.2.1 y.2.2.1 y.2.2.2 }) x h fun t a b p => some ⟨(t, a, b, p), rfl⟩ else none
noncomputable def asFor (x : Stmt) : Option { y : Expr × Expr × List Stmt × Pos // x = .For y.1 y.2.1 y.2.2.1 [] y.2.2.2 } :=
  if h : x.ctorIdx = 9 then Stmt.For.elim (motive_2 := fun x => Option { y : Expr × Expr × List Stmt × Pos // x = .For y.1 y.2.1 y.2.2.1 [] y.2.2.2 }) x h fun t i b o p => if e : o.isEmpty = true then some ⟨(t, i, b, p), congrArg (fun o => Stmt.For t i b o p) (isNil e)⟩ else none else none
noncomputable def asWhile (x : Stmt) : Option { y : Expr × List Stmt × Pos // x = .While y.1 y.2.1 [] y.2.2 } :=
  if h : x.ctorIdx = 11 then Stmt.While.elim (motive_2 := fun x => Option { y : Expr × List Stmt × Pos // x = .While y.1 y.2.1 [] y.2.2 }) x h fun t b o p => if e : o.isEmpty = true then some ⟨(t, b, p), congrArg (fun o => Stmt.While t b o p) (isNil e)⟩ else none else none
noncomputable def asRet (x : Stmt) : Option { y : Expr × Pos // x = .Return (some y.1) y.2 } :=
  if h : x.ctorIdx = 3 then Stmt.Return.elim (motive_2 := fun x => Option { y : Expr × Pos // x = .Return (some y.1) y.2 }) x h fun v p => (oSome v).map fun t => ⟨(t.1, p), congrArg (fun v => Stmt.Return v p) t.2⟩ else none
noncomputable def asCont (x : Stmt) : Option { y : Pos // x = .Continue y } :=
  if h : x.ctorIdx = 27 then Stmt.Continue.elim (motive_2 := fun x => Option { y : Pos // x = .Continue y }) x h fun p => some ⟨p, rfl⟩ else none

theorem call1_eq {x f a : Expr} {as : List Expr} {ks : List Keyword} {p : Pos} (h : x = .Call f as ks p) (ha : as = [a]) (hk : ks.isEmpty = true) : x = .Call f [a] [] p := by rw [h, ha, isNil hk]
noncomputable def asCall1 (x : Expr) : Option { y : Expr × Expr × Pos // x = .Call y.1 [y.2.1] [] y.2.2 } :=
  (asCall x).bind fun y => (lOne y.1.2.1).bind fun a => if hk : y.1.2.2.1.isEmpty = true then some ⟨(y.1.1, a.1, y.1.2.2.2), call1_eq y.2 a.2 hk⟩ else none
theorem raise_eq {e c : Option Expr} {e' f a : Expr} {p p' : Pos} (h : e = some e') (h' : e' = .Call f [a] [] p) (hc : c.isNone = true) : Stmt.Raise e c p' = .Raise (some (.Call f [a] [] p)) none p' := by rw [h, h', Option.isNone_iff_eq_none.mp hc]
noncomputable def asRaise (x : Stmt) : Option { y : Expr × Expr × Pos × Pos // x = .Raise (some (.Call y.1 [y.2.1] [] y.2.2.1)) none y.2.2.2 } :=
  if h : x.ctorIdx = 16 then Stmt.Raise.elim (motive_2 := fun x => Option { y : Expr × Expr × Pos × Pos // x = .Raise (some (.Call y.1 [y.2.1] [] y.2.2.1)) none y.2.2.2 }) x h fun e c p =>
    (oSome e).bind fun e' => (asCall1 e'.1).bind fun y => if hc : c.isNone = true then some ⟨(y.1.1, y.1.2.1, y.1.2.2, p), raise_eq e'.2 y.2 hc⟩ else none
  else none
theorem hand_eq {t : Option Expr} {t' : Expr} {x : Str} {px p : Pos} {n : Option Str} {b : List Stmt} {b₀ : Stmt} {r : List Stmt} (h : t = some t') (h' : t' = .Name x px) (hb : b = b₀ :: r) : ExceptHandler.ExceptHandler t n b p = .ExceptHandler (some (.Name x px)) n (b₀ :: r) p := by rw [h, h', hb]
noncomputable def lCons {α : Type} : (l : List α) → Option { a : α × List α // l = a.1 :: a.2 }
  | [] => none
  | a :: r => some ⟨(a, r), rfl⟩
noncomputable def asHand : (x : ExceptHandler) → Option { y : (Str × Pos) × Option Str × Stmt × List Stmt × Pos // x = .ExceptHandler (some (.Name y.1.1 y.1.2)) y.2.1 (y.2.2.1 :: y.2.2.2.1) y.2.2.2.2 }
  | .ExceptHandler t n b p => (oSome t).bind fun t' => (asName t'.1).bind fun y => (lCons b).bind fun z => some ⟨(y.1, n, z.1.1, z.1.2, p), hand_eq t'.2 y.2 z.2⟩
noncomputable def asTry (x : Stmt) : Option { y : List Stmt × List ExceptHandler × Pos // x = .Try y.1 y.2.1 [] [] y.2.2 } :=
  if h : x.ctorIdx = 17 then Stmt.Try.elim (motive_2 := fun x => Option { y : List Stmt × List ExceptHandler × Pos // x = .Try y.1 y.2.1 [] [] y.2.2 }) x h fun b hs o f p =>
    if e : o.isEmpty = true then if e' : f.isEmpty = true then some ⟨(b, hs, p), by rw [isNil e, isNil e']⟩ else none else none
  else none
noncomputable def cName (sc : Scope) (tab : Tab) : Option Nat → Option Str → Bool
  | none, none => true
  | some i, some y => cVar sc tab i y && sc.names.lookup y == some .local
  | _, _ => false

mutual
noncomputable def cS (G : Gl) (sc : Scope) (tab : Tab) : S → Stmt → Bool
  | .asg i e, x => oB (asAssign x) fun y => oB (asName y.1.1) fun n => cVar sc tab i n.1.1 && sc.names.lookup n.1.1 != some .free && (!isComp y.1.2.1 || isCompE e) && cE G sc tab e y.1.2.1
  | .unp _ _, _ => false
  | .sto o i e, x => oB (asAssign x) fun y => oB (asSub y.1.1) fun u => !isComp y.1.2.1 && !isSlice u.1.2.1 && cE G sc tab o u.1.1 && cE G sc tab i u.1.2.1 && cE G sc tab e y.1.2.1
  | .ex e, x => oB (asExpr x) fun y => !isComp y.1.1 && cE G sc tab e y.1.1
  | .ite c a b, x => oB (asIf x) fun y => cE G sc tab c y.1.1 && cSs G sc tab a y.1.2.1 && cSs G sc tab b y.1.2.2.1
  | .for j src body, x => oB (asFor x) fun y => oB (asName y.1.1) fun n => cVar sc tab j n.1.1 && sc.names.lookup n.1.1 != some .free && !isSet y.1.2.1 && cE G sc tab src y.1.2.1 && cSs G sc tab body y.1.2.2.1
  | .whl c body, x => oB (asWhile x) fun y => cE G sc tab c y.1.1 && cSs G sc tab body y.1.2.1
  | .ret e, x => oB (asRet x) fun y => cE G sc tab e y.1.1
  | .cont, x => oB (asCont x) fun zz => true
  | .dead, _ => true
  | .raise c, x => oB (asRaise x) fun y => oB (G.xs[c]?) fun g => oB (asConst y.1.2.1) fun z => oB (cStr z.1.1) fun zz => oB (asName y.1.1) fun zz => cGlob sc g y.1.1
  | .tryE body hs, x => oB (asTry x) fun y => !y.1.2.1.isEmpty && cSs G sc tab body y.1.1 && cHs G sc tab hs y.1.2.1
noncomputable def cSs (G : Gl) (sc : Scope) (tab : Tab) : Ss → List Stmt → Bool
  | .nil, xs => xs.isEmpty
  | .cons s ss, xs => (match xs with | x :: xs => cS G sc tab s x && cSs G sc tab ss xs | [] => false)
noncomputable def cHs (G : Gl) (sc : Scope) (tab : Tab) : Hs → List ExceptHandler → Bool
  | .nil, xs => xs.isEmpty
  | .cons c v body hs, xs => (match xs with | x :: xs => oB (asHand x) (fun y => oB (G.xs[c]?) (fun g => cGlob sc g (.Name y.1.1.1 y.1.1.2)) && cName sc tab v y.1.2.1 && cSs G sc tab body (y.1.2.2.1 :: y.1.2.2.2.1) && cHs G sc tab hs xs) | [] => false)
end
end
end Mine

namespace Mine
section
open PySem PySem.Calls PyProof.Rows
noncomputable def bNames : List String := ["len", "isinstance", "int", "bool", "str", "list", "tuple", "dict", "set", "sorted", "all", "max", "min", "range", "ValueError"]

noncomputable def Fn (P : Cx) (f : String) : Prop := (∃ fa o fd, P.mg (Str.ofString f) = some (.ref fa) ∧ P.hb.get? fa = some o ∧ o.data = .func fd) ∧ (Str.ofString f == ("__debug__" : Str)) = false

noncomputable def bmV : List Value := [.type "ValueError", .type "Exception", .type "BaseException", .type "object"]
noncomputable def xtailA (xc : Nat → Addr) : Nat → List Value
  | 0 => bmV
  | _ + 1 => .ref (xc 0) :: bmV
noncomputable def xtail (P : Cx) (c : Nat) : List Value := xtailA P.xc c
structure ClsR where
  nm : Str
  q : Str
  N : Addr
  bs : List Value
  hdct : Bool
  sn : List Str
  sub : List Value
  ab : Bool
  col : Option Bool
  dd : Option Addr
  k0 : Option Value
  k1 : Option Value
  k2 : Option Value
  k3 : Option Value
  k5 : Option Value
  mN : Str → Option Value
noncomputable abbrev ClsR.obj (r : ClsR) (C : Addr) (bm : List Value) : Obj := excClassObj r.nm r.q C r.N r.bs bm r.hdct r.sn r.sub r.ab r.col r.dd r.k0 r.k1 r.k2 r.k3 r.k5 "ValueError.__new__"
structure ClsF (h : Heap) (C : Addr) (bm : List Value) (r : ClsR) : Prop where
  at_ : h.get? C = some (r.obj C bm)
  ns : h.Ns r.N r.mN
  quiet : ∀ n ∈ quietNames, r.mN n = none
  cls : r.mN "__class__" = none
  tail : OwnTailQ h bmV bm
noncomputable def ClsAt (h : Heap) (C : Addr) (bm : List Value) : Prop := ∃ r, ClsF h C bm r
theorem ClsAt.keeps {h h' : Heap} {C : Addr} {bm : List Value} (x : ClsAt h C bm) (k : ∀ b o, h.get? b = some o → h'.get? b = some o) : ClsAt h' C bm :=
  let ⟨r, f⟩ := x; ⟨r, k _ _ f.at_, f.ns.keeps k, f.quiet, f.cls, f.tail.keeps k⟩
structure XCls (P : Cx) (c : Nat) (x : String) : Prop where
  at_ : P.mg (Str.ofString x) = some (.ref (P.xc c)) ∧ (Str.ofString x == ("__debug__" : Str)) = false
  obj : ClsAt P.hb (P.xc c) (xtail P c)

structure Facts (P : Cx) : Prop where
  fns : ∀ f ∈ P.gl.fs, Fn P f
  cons : ∀ c ∈ P.gl.cs, (∃ t, P.mg (Str.ofString c.1) = some (.int c.2 t)) ∧ (Str.ofString c.1 == ("__debug__" : Str)) = false
  g : P.hb.Ns mainGlobals P.mg
  b : P.hb.Ns builtinsNs P.mb
  nolimit : P.hb.NoLimit
  builtins : ∀ x : Str, x ≠ "__name__" → P.mb x = bootBuiltins x
  free : ∀ x ∈ bNames, P.mg (Str.ofString x) = none
  scr : ∃ xs : List Value, P.hb.IsList P.scr xs.toArray ∧ IntsAre xs P.ns ∧ xs.length ≤ Lim
  sm : ∃ o, P.hb.get? sysModules = some o
  cls : ∀ (c : Nat) (x : String), P.gl.xs[c]? = some x → XCls P c x
  xinj : ∀ c k, c < P.gl.xs.length → k < P.gl.xs.length → P.xc c = P.xc k → c = k

noncomputable def VarAt (P : Cx) (h : Heap) (env : Env) (m : Str → Option Value) (x : Str) (v : V) : Prop :=
  (env.kindOf x = some .local ∧ ∃ w, m x = some w ∧ Rep P h w v) ∨
  ((env.kindOf x = some .cell ∨ env.kindOf x = some .free) ∧ ∃ c w, env.cells.lookup x = some c ∧ h.IsCell c (some w) ∧ Rep P h w v)

structure EnvOk (P : Cx) (sc : Scope) (tab : Tab) (env : Env) (ρ : Ro) (H : AHeap) (h : Heap) : Prop where
  kind : env.scope.kind = .function
  names : ∀ x k, sc.names.lookup x = some k → env.kindOf x = some k ∨ (k = .free ∧ env.kindOf x = some .cell)
  globals : env.globals = mainGlobals
  builtins : env.builtins = builtinsNs
  inj : ∀ x y i, tab.lookup x = some i → tab.lookup y = some i → x = y
  tok : ∀ x i, (x, i) ∈ tab → tab.lookup x = some i
  vars : ∃ m, h.Ns env.locals m ∧ ∀ x i v, tab.lookup x = some i → ρ i = some v → VarAt P h env m x v
  own : H env.locals = none
  hasCell : ∀ x, env.kindOf x = some .cell → ∃ c, env.cells.lookup x = some c
  cells : ∀ x c, env.cells.lookup x = some c → H c = none ∧ ∃ v, h.IsCell c v
  apart : ∀ x y c, env.cells.lookup x = some c → env.cells.lookup y = some c → x = y

theorem KeepO.data {o o' : Obj} (k : KeepO o o') (h : ¬ XLike o) : o'.data = o.data := by
  rcases k with rfl | ⟨_, _, rfl⟩ | ⟨k, _⟩
  · rfl
  · rfl
  · exact absurd k h

theorem Fm.ns {H H' : AHeap} {h h' : Heap} (x : Fm H h H' h') {a : Addr} {m : Str → Option Value} (n : h.Ns a m) (hn : H a = none) : h'.Ns a m := by
  obtain ⟨o, es, ep, ho, hd, r⟩ := n
  obtain ⟨o', ho', k⟩ := x.keep a o ho hn
  exact ⟨o', es, ep, ho', (k.data (XLike.nodict hd)).trans hd, r⟩
theorem Fm.cell {H H' : AHeap} {h h' : Heap} (x : Fm H h H' h') {c : Addr} {v : Option Value} (n : h.IsCell c v) (hn : H c = none) : h'.IsCell c v := by
  obtain ⟨o, ho, hd⟩ := n
  obtain ⟨o', ho', k⟩ := x.keep c o ho hn
  exact ⟨o', ho', (k.data (XLike.nocell hd)).trans hd⟩

theorem EnvOk.step {P : Cx} {sc : Scope} {tab : Tab} {env : Env} {ρ : Ro} {H H' : AHeap} {s : Shared} {h' : Heap} (K : EnvOk P sc tab env ρ H s.heap) (W : Wd P H s) (x : Fm H s.heap H' h') : EnvOk P sc tab env ρ H' h' where
  kind := K.kind
  names := K.names
  globals := K.globals
  builtins := K.builtins
  inj := K.inj
  tok := K.tok
  vars := by
    obtain ⟨m, hn, hv⟩ := K.vars
    refine ⟨m, x.ns hn K.own, fun y i v e1 e2 => ?_⟩
    rcases hv y i v e1 e2 with ⟨hk, w, e, r⟩ | ⟨hk, c, w, e, hc, r⟩
    · exact .inl ⟨hk, w, e, r.step W x⟩
    · exact .inr ⟨hk, c, w, e, x.cell hc (K.cells _ _ e).1, r.step W x⟩
  own := by
    obtain ⟨m, hn, _⟩ := K.vars
    obtain ⟨o, _, _, e, _⟩ := hn
    exact x.dom _ _ e K.own
  hasCell := K.hasCell
  cells := fun y c e => by
    obtain ⟨hn, v, hc⟩ := K.cells y c e
    have ⟨o, e', _⟩ := hc
    exact ⟨x.dom _ _ e' hn, v, x.cell hc hn⟩
  apart := K.apart

theorem FrameAt.step {P : Cx} {H H' : AHeap} {h h' : Heap} {env : Env} (k : FrameAt P H h env) (x : Fm H h H' h') : FrameAt P H' h' env := by
  obtain ⟨a, L, o, es, n, b, c, d, f, g⟩ := k
  obtain ⟨o', ho', k⟩ := x.keep L o c f
  exact ⟨a, L, o', es, n, b, ho', (k.data (XLike.nodict d)).trans d, x.dom _ _ c f, g⟩
theorem FrameAt.tch {P : Cx} {H : AHeap} {a : Addr} {h h' : Heap} {env : Env} (k : FrameAt P H h env) (t : Tch H a h h') : FrameAt P H h' env := by
  obtain ⟨m, L, o, es, n, b, c, d, f, g⟩ := k
  by_cases e : L = a
  · subst e
    obtain ⟨o₁, o₂, e1, e2, k⟩ := t.obj
    rw [c] at e1; cases e1
    rcases k with ⟨_, es', n', k⟩ | ⟨⟨_, k⟩, _⟩
    · exact ⟨m, L, o₂, es', n', b, e2, k, f, g⟩
    · rw [d] at k; cases k
  · exact ⟨m, L, o, es, n, b, (t.same L e).trans c, d, f, g⟩
theorem Room.step {P : Cx} {d : Nat} {A : Around} {H H' : AHeap} {h h' : Heap} (R : Room P d A H h) (x : Fm H h H' h') : Room P d A H' h' :=
  ⟨R.units, R.hd, R.depth, let ⟨l, e, k⟩ := R.frames; ⟨l, e, fun env m => (k env m).step x⟩⟩

theorem Room.tch {P : Cx} {d : Nat} {A : Around} {H : AHeap} {a : Addr} {h h' : Heap} (R : Room P d A H h) (t : Tch H a h h') : Room P d A H h' :=
  ⟨R.units, R.hd, R.depth, let ⟨l, e, k⟩ := R.frames; ⟨l, e, fun env m => (k env m).tch t⟩⟩

section
variable {P : Cx} {A : Around} {E : Value → Shared → Prop} {s : Shared} {env : Env} {sc : Scope} {tab : Tab} {ρ : Ro} {H : AHeap}

theorem cVar_spec {i : Nat} {x : Str} (c : cVar sc tab i x = true) : tab.lookup x = some i ∧ (sc.names.lookup x = some .local ∨ sc.names.lookup x = some .cell ∨ sc.names.lookup x = some .free) ∧ (x == ("__debug__" : Str)) = false ∧ (x == ("__classdict__" : Str)) = false := by
  simp only [cVar, Bool.and_eq_true, Bool.or_eq_true, Bool.not_eq_true', beq_iff_eq] at c
  obtain ⟨⟨⟨a, b⟩, e⟩, f⟩ := c
  refine ⟨a, ?_, e, f⟩
  rcases b with (b | b) | b
  · exact .inl b
  · exact .inr (.inl b)
  · exact .inr (.inr b)

theorem loadVar {M : Model} {i : Nat} {x : Str} {pos : Pos} {v : V} {Q : Value → Shared → Prop} (K : EnvOk P sc tab env ρ H s.heap) (c : cVar sc tab i x = true) (hv : ρ i = some v)
    (h : ∀ w, Rep P s.heap w v → Q w s) : wpAny M A (eval (.Name x pos) env) Q E s := by
  obtain ⟨e, _, hd, hc⟩ := cVar_spec c
  obtain ⟨m, hn, hm⟩ := K.vars
  refine wpAny_Name ?_ hd
  rcases hm x i v e hv with ⟨hk, w, e, r⟩ | ⟨hk | hk, cc, w, e, hcc, r⟩
  · exact wpAny_loadName_local K.kind hk hn e (h w r)
  · exact wpAny_loadName_cell K.kind hk e hcc (h w r)
  · exact wpAny_loadName_free K.kind hk e hcc (h w r) hc

theorem loadGlob {M : Model} {g : String} {x : Str} {pos : Pos} {w : Value} {Q : Value → Shared → Prop} (F : Facts P) (W : Wd P H s) (K : EnvOk P sc tab env ρ H s.heap) (c : cGlob sc g (.Name x pos) = true)
    (hv : P.mg (Str.ofString g) = some w) (hd : (Str.ofString g == ("__debug__" : Str)) = false) (h : Q w s) : wpAny M A (eval (.Name x pos) env) Q E s := by
  simp only [cGlob, Bool.and_eq_true, beq_iff_eq] at c
  obtain ⟨rfl, e⟩ := c
  have hk : env.kindOf (Str.ofString g) = some .globalImplicit := (K.names _ _ e).resolve_right (fun q => by cases q.1)
  exact Name_function_global K.kind hk (loadGlobal_global (K.globals ▸ F.g.keeps W.base) hv h) hd

theorem loadBlt {M : Model} {g : String} {x : Str} {pos : Pos} {w : Value} {Q : Value → Shared → Prop} (F : Facts P) (W : Wd P H s) (K : EnvOk P sc tab env ρ H s.heap) (c : cGlob sc g (.Name x pos) = true)
    (hg : g ∈ bNames) (hv : bootBuiltins (Str.ofString g) = some w) (h : Q w s) : wpAny M A (eval (.Name x pos) env) Q E s := by
  simp only [cGlob, Bool.and_eq_true, beq_iff_eq] at c
  obtain ⟨rfl, e⟩ := c
  have hk : env.kindOf (Str.ofString g) = some .globalImplicit := (K.names _ _ e).resolve_right (fun q => by cases q.1)
  have hd : (Str.ofString g == ("__debug__" : Str)) = false ∧ Str.ofString g ≠ "__name__" := by
    have : ∀ g ∈ bNames, (Str.ofString g == ("__debug__" : Str)) = false ∧ Str.ofString g ≠ "__name__" := by decide +kernel
    exact this g hg
  exact Name_function_global K.kind hk (loadGlobal_builtin (K.globals ▸ F.g.keeps W.base) (F.free g hg) (K.builtins ▸ F.b.keeps W.base) ((F.builtins _ hd.2).trans hv) h) hd.1

theorem storeVar {M : Model} {i : Nat} {x : Str} {v : V} {w : Value} {Q : Unit → Shared → Prop} (K : EnvOk P sc tab env ρ H s.heap) (c : cVar sc tab i x = true) (hf : (sc.names.lookup x != some .free) = true)
    (r : Rep P s.heap w v)
    (h : ∀ h' t a, Tch H a s.heap h' → (a = env.locals ∨ ∃ y, env.cells.lookup y = some a) → (sc.names.lookup x = some .local → a = env.locals) → EnvOk P sc tab env (ρ.upd i v) H h' → Q () { s with heap := h', toks := t }) :
    wpAny M A (storeName env x w) Q E s := by
  obtain ⟨e, hk, _, _⟩ := cVar_spec c
  obtain ⟨m, hn, hm⟩ := K.vars
  have hk' : env.kindOf x = some .local ∨ env.kindOf x = some .cell := by
    rcases hk with hk | hk | hk
    · exact .inl ((K.names _ _ hk).resolve_right fun q => by cases q.1)
    · exact .inr ((K.names _ _ hk).resolve_right fun q => by cases q.1)
    · rw [hk] at hf; simp at hf
  rcases hk' with hk' | hk'
  · refine wpAny_storeName_local hk' hn (fun h' hn' hs' => ?_) (by rw [K.kind]; rfl)
    have hns := hn
    obtain ⟨o, es, ep, eo, ed, _⟩ := hn
    have hn2 := hn'
    obtain ⟨o', es', ep', eo', ed', _⟩ := hn'
    have t : Tch H env.locals s.heap h' := ⟨hs'.2, K.own, o, o', eo, eo', .inl ⟨⟨_, _, ed⟩, ⟨_, _, ed'⟩⟩⟩
    have nc : ∀ y cc, env.cells.lookup y = some cc → cc ≠ env.locals := fun y cc ec q => by
      obtain ⟨_, v, o₂, e2, d2⟩ := K.cells y cc ec
      rw [q, eo] at e2; cases e2; rw [ed] at d2; cases d2
    refine h h' _ _ t (.inl rfl) (fun zz => rfl) ⟨K.kind, K.names, K.globals, K.builtins, K.inj, K.tok, ⟨_, hn2, fun y j u e1 e2 => ?_⟩, K.own, K.hasCell, fun y cc ec => ?_, K.apart⟩
    · by_cases hj : j = i
      · subst hj
        have : y = x := K.inj _ _ _ e1 e
        subst this
        simp only [Ro.upd, if_true] at e2; cases e2
        exact .inl ⟨hk', w, by simp, r.mono t.imm⟩
      · have hyx : y ≠ x := by rintro rfl; rw [e] at e1; cases e1; exact hj rfl
        simp only [Ro.upd, hj, if_false] at e2
        rcases hm y j u e1 e2 with ⟨q, w', e', r'⟩ | ⟨q, cc, w', e', hc, r'⟩
        · exact .inl ⟨q, w', by simp [hyx, e'], r'.mono t.imm⟩
        · exact .inr ⟨q, cc, w', e', hc.sameBut hs' (nc _ _ e'), r'.mono t.imm⟩
    · obtain ⟨q, v', hv'⟩ := K.cells y cc ec
      exact ⟨q, v', hv'.sameBut hs' (nc _ _ ec)⟩
  · obtain ⟨cc, ec⟩ := K.hasCell x hk'
    obtain ⟨hnc, v₀, hc₀⟩ := K.cells x cc ec
    refine wpAny_storeName_cell K.kind hk' ec hc₀ fun h' hc' hs' => ?_
    have hc2 := hc'
    obtain ⟨o, eo, ed⟩ := hc₀
    obtain ⟨o', eo', ed'⟩ := hc'
    have t : Tch H cc s.heap h' := ⟨hs'.2, hnc, o, o', eo, eo', .inr ⟨⟨_, ed⟩, ⟨_, ed'⟩⟩⟩
    have nl : env.locals ≠ cc := fun q => by
      obtain ⟨o₂, _, _, e2, d2, _⟩ := hn
      rw [q, eo] at e2; cases e2; rw [ed] at d2; cases d2
    refine h h' _ _ t (.inr ⟨x, ec⟩) (fun hl => by rw [(K.names _ _ hl).resolve_right fun q => by cases q.1] at hk'; cases hk') ⟨K.kind, K.names, K.globals, K.builtins, K.inj, K.tok, ⟨m, hn.sameBut hs' nl, fun y j u e1 e2 => ?_⟩, K.own, K.hasCell, fun y c2 ec2 => ?_, K.apart⟩
    · by_cases hj : j = i
      · subst hj
        have : y = x := K.inj _ _ _ e1 e
        subst this
        simp only [Ro.upd, if_true] at e2; cases e2
        exact .inr ⟨.inl hk', cc, w, ec, hc2, r.mono t.imm⟩
      · have hyx : y ≠ x := by rintro rfl; rw [e] at e1; cases e1; exact hj rfl
        simp only [Ro.upd, hj, if_false] at e2
        rcases hm y j u e1 e2 with ⟨q, w', e', r'⟩ | ⟨q, c2, w', e', hc, r'⟩
        · exact .inl ⟨q, w', e', r'.mono t.imm⟩
        · exact .inr ⟨q, c2, w', e', hc.sameBut hs' (fun q' => hyx (K.apart _ _ _ e' (q' ▸ ec))), r'.mono t.imm⟩
    · obtain ⟨q, v', hv'⟩ := K.cells y c2 ec2
      by_cases hcc : c2 = cc
      · subst hcc; exact ⟨q, _, hc2⟩
      · exact ⟨q, v', hv'.sameBut hs' hcc⟩
end
end
end Mine

namespace Mine
section
open PySem PySem.Calls PyProof.Rows
section
variable {P : Cx} {d : Nat} {A : Around} {E : Value → Shared → Prop} {s : Shared} {H : AHeap} {Q : V → AHeap → Prop}

theorem postHere {w : Value} {v : V} (W : Wd P H s) (r : Rep P s.heap w v) (q : Q v H) (t : Nat) : Post P H s.heap Q w { s with toks := t } :=
  ⟨v, H, r, W.toks t, .refl _ _, q⟩
theorem postHere' {w : Value} {v : V} (W : Wd P H s) (r : Rep P s.heap w v) (q : Q v H) : Post P H s.heap Q w s := ⟨v, H, r, W, .refl _ _, q⟩
theorem postGrow {w : Value} {v : V} {h' : Heap} {t : Nat} (W : Wd P H s) (hk : ∀ b o, s.heap.get? b = some o → h'.get? b = some o) (r : Rep P h' w v) (q : Q v H) : Post P H s.heap Q w { s with heap := h', toks := t } :=
  ⟨v, H, r, W.grow hk rfl rfl, .grow hk, q⟩

theorem ImmK.of_keeps {h h' : Heap} (hk : ∀ b o, h.get? b = some o → h'.get? b = some o) : ImmK h h' := .keeps hk

theorem postNewL {xs : List Value} {vs : List V} {h' : Heap} {a : Addr} {t : Nat} (W : Wd P H s) (q : newL vs Q H) (r : Reps P s.heap xs vs) (hk : ∀ b o, s.heap.get? b = some o → h'.get? b = some o)
    (ha : s.heap.get? a = none) (hl : h'.PlainList a xs.toArray) : Post P H s.heap Q (.ref a) { s with heap := h', toks := t } := by
  have hn := W.noneOf ha
  have W' : Wd P H { s with heap := h', toks := t } := W.grow hk rfl rfl
  refine ⟨.lst a, H.upd a (.list vs), .lst a, W'.put a (W.newBase ha) ⟨xs, hl, r.mono (.of_keeps hk), q.1⟩, (Fm.grow hk).put ha, q.2 a hn⟩

theorem plain_of {a : Addr} {xs : List V} (W : Wd P H s) (e : H a = some (.list xs)) : ∃ ws : List Value, s.heap.PlainList a ws.toArray ∧ Reps P s.heap ws xs ∧ xs.length ≤ Lim := W.hs a _ e
theorem isList_of {a : Addr} {xs : List V} (W : Wd P H s) (e : H a = some (.list xs)) : ∃ ws : List Value, s.heap.IsList a ws.toArray ∧ Reps P s.heap ws xs ∧ xs.length ≤ Lim :=
  let ⟨ws, h, r⟩ := plain_of W e; ⟨ws, h.isList, r⟩

theorem Lim_fit {n : Nat} (h : n ≤ Lim) : (n : Int) < 2 ^ 63 := by unfold Lim at h; omega
theorem Lim_size {n : Nat} (h : n ≤ Lim) : n ≤ sizeLine := by rw [sizeLine_eq]; unfold Lim at h; omega

theorem intsAre {ws : List Value} {ns : List Int} : Reps P s.heap ws (ns.map V.int) → IntsAre ws ns := by
  induction ns generalizing ws with
  | nil => intro h; cases h; exact .nil
  | cons n ns ih => intro h; cases h with | cons hr hrs => cases hr; exact .cons _ _ (ih hrs)
theorem repsInts {h : Heap} {ws : List Value} {ns : List Int} (x : IntsAre ws ns) : Reps P h ws (ns.map V.int) := by
  induction x with
  | nil => exact .nil
  | cons n t _ ih => exact .cons (.int _ _) ih

theorem snd_len {w : Value} {v : V} (F : Facts P) (W : Wd P H s) (r : Rep P s.heap w v) (q : sem1 P d .len v Q H) : wpAny (model P.prog P.w) A (call (.builtin "len") [w]) (Post P H s.heap Q) E s := by
  induction w, v, r using Rep.elim with
  | lst a =>
    obtain ⟨xs, e, q⟩ := q
    obtain ⟨ws, hl, hr, hz⟩ := isList_of W e
    have hlen := hr.length
    refine call_len_list hl (by rw [List.size_toArray, hlen]; exact Lim_fit hz) ?_
    exact postHere W (by rw [List.size_toArray, hlen]; exact .int _ _) q _
  | @tup a ws vs ht hr =>
    have q : vs.length ≤ Lim ∧ Q (.int vs.length) H := q
    have hlen := hr.length
    refine len_tuple ht (by rw [List.size_toArray, hlen]; exact Lim_fit q.1) ?_
    exact postHere W (by rw [List.size_toArray, hlen]; exact .int _ _) q.2 _
  | scr =>
    have q : Q (.int P.ns.length) H := q
    obtain ⟨ws, hl, hi, hz⟩ := F.scr
    have hlen : ws.length = P.ns.length := hi.length
    have hl' : s.heap.IsList P.scr ws.toArray := by obtain ⟨o, e, x⟩ := hl; exact ⟨o, W.base _ _ e, x⟩
    refine call_len_list hl' (by rw [List.size_toArray]; exact Lim_fit hz) ?_
    exact postHere W (by rw [List.size_toArray, hlen]; exact .int _ _) q _
  | _ => exact False.elim q

theorem snd_isI {w : Value} {v : V} {t : Ty} (W : Wd P H s) (r : Rep P s.heap w v) (q : sem1 P d (.isI t) v Q H) : wpAny (model P.prog P.w) A (call (.builtin "isinstance") [w, .type (tyName t)]) (Post P H s.heap Q) E s := by
  obtain ⟨b, hb, q⟩ := q
  induction w, v, r using Rep.elim with
  | none =>
    obtain rfl : b = false := hb
    have p := fun t => postHere W (.bool false) q t
    cases t
    · exact IsiPair.NoneType_int (p _)
    · exact IsiPair.NoneType_bool (p _)
    · exact IsiPair.NoneType_str (p _)
    · exact IsiPair.NoneType_list (p _)
    · exact IsiPair.NoneType_tuple (p _)
    · exact IsiPair.NoneType_dict (p _)
  | bool c =>
    obtain rfl := hb
    cases t
    · exact IsiPair.bool_int (postHere' W (.bool _) q)
    · exact IsiPair.bool_bool (postHere' W (.bool _) q)
    · exact IsiPair.bool_str (postHere W (.bool _) q _)
    · exact IsiPair.bool_list (postHere W (.bool _) q _)
    · exact IsiPair.bool_tuple (postHere W (.bool _) q _)
    · exact IsiPair.bool_dict (postHere W (.bool _) q _)
  | int i tk =>
    obtain rfl := hb
    cases t
    · exact IsiPair.int_int (postHere' W (.bool _) q)
    · exact IsiPair.int_bool (postHere W (.bool _) q _)
    · exact IsiPair.int_str (postHere W (.bool _) q _)
    · exact IsiPair.int_list (postHere W (.bool _) q _)
    · exact IsiPair.int_tuple (postHere W (.bool _) q _)
    · exact IsiPair.int_dict (postHere W (.bool _) q _)
  | str x tk =>
    obtain rfl := hb
    cases t
    · exact IsiPair.str_int (postHere W (.bool _) q _)
    · exact IsiPair.str_bool (postHere W (.bool _) q _)
    · exact IsiPair.str_str (postHere' W (.bool _) q)
    · exact IsiPair.str_list (postHere W (.bool _) q _)
    · exact IsiPair.str_tuple (postHere W (.bool _) q _)
    · exact IsiPair.str_dict (postHere W (.bool _) q _)
  | tup ht hr =>
    obtain rfl := hb
    obtain ⟨o, e, hc, _⟩ := ht
    cases t
    · exact IsiPair.tuple_int e hc (postHere W (.bool _) q _)
    · exact IsiPair.tuple_bool e hc (postHere W (.bool _) q _)
    · exact IsiPair.tuple_str e hc (postHere W (.bool _) q _)
    · exact IsiPair.tuple_list e hc (postHere W (.bool _) q _)
    · exact IsiPair.tuple_tuple e hc (postHere' W (.bool _) q)
    · exact IsiPair.tuple_dict e hc (postHere W (.bool _) q _)
  | lst a =>
    obtain ⟨⟨xs, e⟩, rfl⟩ := hb
    obtain ⟨ws, ⟨o, e, hc, _⟩, _⟩ := isList_of W e
    cases t
    · exact IsiPair.list_int e hc (postHere W (.bool _) q _)
    · exact IsiPair.list_bool e hc (postHere W (.bool _) q _)
    · exact IsiPair.list_str e hc (postHere W (.bool _) q _)
    · exact IsiPair.list_list e hc (postHere' W (.bool _) q)
    · exact IsiPair.list_tuple e hc (postHere W (.bool _) q _)
    · exact IsiPair.list_dict e hc (postHere W (.bool _) q _)
  | dct a =>
    obtain ⟨⟨xs, ep, e⟩, rfl⟩ := hb
    obtain ⟨ws, ⟨o, es, e, hc, _⟩, _⟩ := W.hs a _ e
    cases t
    · exact IsiPair.dict_int e hc.1 (postHere W (.bool _) q _)
    · exact IsiPair.dict_bool e hc.1 (postHere W (.bool _) q _)
    · exact IsiPair.dict_str e hc.1 (postHere W (.bool _) q _)
    · exact IsiPair.dict_list e hc.1 (postHere W (.bool _) q _)
    · exact IsiPair.dict_tuple e hc.1 (postHere W (.bool _) q _)
    · exact IsiPair.dict_dict e hc.1 (postHere' W (.bool _) q)
  | _ => exact False.elim hb

theorem snd_neg {w : Value} {v : V} (W : Wd P H s) (r : Rep P s.heap w v) (q : sem1 P d .neg v Q H) : wpAny (model P.prog P.w) A (unaryOp .USub w) (Post P H s.heap Q) E s := by
  induction w, v, r using Rep.elim with
  | int i t => exact PyProof.Rows.neg_int (postHere W (.int _ _) q _)
  | _ => exact False.elim q

theorem snd_intOf {w : Value} {v : V} (W : Wd P H s) (r : Rep P s.heap w v) (q : sem1 P d .intOf v Q H) : wpAny (model P.prog P.w) A (call (.type "int") [w]) (Post P H s.heap Q) E s := by
  induction w, v, r using Rep.elim with
  | bool b => exact call_int_bool (postHere W (.int _ _) q _)
  | _ => exact False.elim q

theorem snd_listOf {w : Value} {v : V} (W : Wd P H s) (r : Rep P s.heap w v) (q : sem1 P d .listOf v Q H) : wpAny (model P.prog P.w) A (call (.type "list") [w]) (Post P H s.heap Q) E s := by
  induction w, v, r using Rep.elim with
  | lst a =>
    obtain ⟨xs, e, q⟩ := q
    obtain ⟨ws, ⟨o, eo, hc, n, hd⟩, hr, hz⟩ := isList_of W e
    have hlen := hr.length
    exact call_list_seq (hsz := by rw [List.size_toArray, hlen]; exact Lim_size hz) a (.inl rfl) eo hc hd fun h' c' hk hD =>
      postNewL W q hr hk (get?_size _) ⟨c', hD⟩
  | @tup a ws vs ht hr =>
    have q : newL vs Q H := q
    obtain ⟨o, eo, hc, n, hd⟩ := ht
    have hlen := hr.length
    exact call_list_seq (hsz := by rw [List.size_toArray, hlen]; exact Lim_size q.1) a (.inr rfl) eo hc hd fun h' c' hk hD =>
      postNewL W q hr hk (get?_size _) ⟨c', hD⟩
  | _ => exact False.elim q

theorem snd_tupleOf {w : Value} {v : V} (W : Wd P H s) (r : Rep P s.heap w v) (q : sem1 P d .tupleOf v Q H) : wpAny (model P.prog P.w) A (call (.type "tuple") [w]) (Post P H s.heap Q) E s := by
  induction w, v, r using Rep.elim with
  | lst a =>
    obtain ⟨xs, e, q⟩ := q
    obtain ⟨ws, hl, hr, hz⟩ := isList_of W e
    have hlen := hr.length
    refine call_tuple_list hl (fun h' hk => ?_) (by rw [List.size_toArray, hlen]; exact Lim_size hz)
    have hk' : ∀ b o, s.heap.get? b = some o → (h'.push { cls := .type "tuple", data := .seq ws.toArray }).get? b = some o := fun b o e => Heap.get?_push_of_some _ (hk b o e)
    exact postGrow (t := s.toks) W hk' (.tup ⟨_, Heap.get?_push_size _ rfl, rfl, 0, rfl⟩ (hr.mono (.of_keeps hk'))) q
  | _ => exact False.elim q

theorem snd_range {w : Value} {v : V} (W : Wd P H s) (r : Rep P s.heap w v) (q : sem1 P d .range v Q H) : wpAny (model P.prog P.w) A (call (.type "range") [w]) (Post P H s.heap Q) E s := by
  induction w, v, r using Rep.elim with
  | int i t =>
    obtain ⟨_, q⟩ := q
    exact call_range_1 (postGrow W (fun b o e => Heap.get?_push_of_some _ e) (.rng (IsRange.new _ _ _ _ _ _ _)) q)
  | _ => exact False.elim q

theorem snd_range2 {w w' : Value} {v v' : V} (W : Wd P H s) (r : Rep P s.heap w v) (r' : Rep P s.heap w' v') (q : sem2 P d .range2 v v' Q H) : wpAny (model P.prog P.w) A (call (.type "range") [w, w']) (Post P H s.heap Q) E s := by
  induction w, v, r using Rep.elim with
  | int i t =>
    induction w', v', r' using Rep.elim with
    | int j u => exact call_range_2 (postGrow W (fun b o e => Heap.get?_push_of_some _ e) (.rng (IsRange.new _ _ _ _ _ _ _)) q)
    | _ => exact False.elim q
  | _ => exact False.elim (by cases v' <;> exact q)

theorem snd_sorted {w : Value} {v : V} (W : Wd P H s) (r : Rep P s.heap w v) (q : sem1 P d .sorted v Q H) : wpAny (model P.prog P.w) A (call (.builtin "sorted") [w]) (Post P H s.heap Q) E s := by
  induction w, v, r using Rep.elim with
  | lst a =>
    obtain ⟨_, ns, h64, e, q⟩ := q
    obtain ⟨ws, hl, hr, hz⟩ := isList_of W e
    have hI := intsAre hr
    refine sorted_ints hl hI (by rw [hI.length]; exact h64) fun out ns' a1 a2 a3 => ?_
    obtain ⟨ep, he⟩ := sortedAll_at s.heap ws out
    have hns : ns' = ns.mergeSort (fun a b => decide (a ≤ b)) := by
      refine List.Perm.eq_of_pairwise (le := fun a b : Int => a ≤ b) (fun a b zz zz h1 h2 => Int.le_antisymm h1 h2) a3 ?_ (a2.trans (List.mergeSort_perm _ _).symm)
      have := List.pairwise_mergeSort (le := fun a b : Int => decide (a ≤ b)) (fun a b c h1 h2 => by simp at h1 h2 ⊢; omega) (fun a b => by simp; omega) ns
      exact this.imp (by intro a b h; simpa using h)
    subst hns
    refine postNewL (xs := out.toList) (t := s.toks) W q (repsInts a1) (fun zz zz e => sortedAll_old e) ?_ ⟨ep, he⟩
    cases e2 : s.heap.get? (s.heap.objs.size + 1) with
    | none => rfl
    | some o => exact absurd (Heap.lt_size e2) (Nat.not_lt.mpr (Nat.le_succ _))
  | _ => exact False.elim q

theorem intsItems {ws : List Value} {ns : List Int} (h : IntsAre ws ns) : ∃ xs : Array (Int × Tok), ws.toArray = intItems xs ∧ xs.toList.map (·.1) = ns := by
  induction h with
  | nil => exact ⟨#[], by simp [intItems], rfl⟩
  | @cons n t vs ns _ ih =>
    obtain ⟨xs, e1, e2⟩ := ih
    refine ⟨((n, t) :: xs.toList).toArray, ?_, by simp [e2]⟩
    have : vs = (intItems xs).toList := by rw [← e1]
    rw [this]
    simp [intItems]

theorem snd_maxL {w : Value} {v : V} (R : Room P d A H s.heap) (W : Wd P H s) (r : Rep P s.heap w v) (q : sem1 P d .maxL v Q H) : wpAny (model P.prog P.w) A (call (.builtin "max") [w]) (Post P H s.heap Q) E s := by
  exact False.elim q
theorem snd_max2 {w w' : Value} {v v' : V} (R : Room P d A H s.heap) (W : Wd P H s) (r : Rep P s.heap w v) (r' : Rep P s.heap w' v') (q : sem2 P d .max2 v v' Q H) : wpAny (model P.prog P.w) A (call (.builtin "max") [w, w']) (Post P H s.heap Q) E s := by
  exact False.elim q
theorem snd_min2 {w w' : Value} {v v' : V} (R : Room P d A H s.heap) (W : Wd P H s) (r : Rep P s.heap w v) (r' : Rep P s.heap w' v') (q : sem2 P d .min2 v v' Q H) : wpAny (model P.prog P.w) A (call (.builtin "min") [w, w']) (Post P H s.heap Q) E s := by
  induction w, v, r using Rep.elim with
  | int i t =>
    induction w', v', r' using Rep.elim with
    | int j u =>
      obtain ⟨hd, q⟩ := q
      refine min_two_ints (R.hd hd) fun h' tk hk => ?_
      split
      · rename_i hc; rw [if_pos hc] at q; exact postGrow W hk (.int _ _) q
      · rename_i hc; rw [if_neg hc] at q; exact postGrow W hk (.int _ _) q
    | _ => exact False.elim q
  | _ => exact False.elim q

theorem boolAt {ws : List Value} {bs : List Bool} (h : Reps P s.heap ws (bs.map V.bool)) {i : Nat} {v : Value} (e : ws[i]? = some v) : v = .bool (bs.getD i false) := by
  induction bs generalizing ws i with
  | nil => cases h; simp at e
  | cons b bs ih =>
    cases h with
    | cons hr hrs =>
      cases hr
      cases i with
      | zero => simp at e; simp [e]
      | succ i => simp at e; simpa using ih hrs e

theorem range_all (bs : List Bool) : (List.range bs.length).all (fun i => bs.getD i false) = bs.all id := by
  rw [Bool.eq_iff_iff, List.all_eq_true, List.all_eq_true]
  constructor
  · intro h x hx
    obtain ⟨k, hk, rfl⟩ := List.mem_iff_getElem.mp hx
    have := h k (List.mem_range.mpr hk)
    simpa [hk] using this
  · intro h i hi
    have hi' := List.mem_range.mp hi
    have := h bs[i] (by simp)
    simpa [hi'] using this

theorem snd_all {w : Value} {v : V} (R : Room P d A H s.heap) (W : Wd P H s) (r : Rep P s.heap w v) (q : sem1 P d .all v Q H) : wpAny (model P.prog P.w) A (call (.builtin "all") [w]) (Post P H s.heap Q) E s := by
  induction w, v, r using Rep.elim with
  | lst a =>
    obtain ⟨hd, bs, e, q⟩ := q
    obtain ⟨ws, hl, hr, hz⟩ := isList_of W e
    have hlt : a < s.heap.objs.size := W.dom e
    refine call_all_walk (wpAny_pyIter_list hl ?_)
    have hlen : ws.toArray.size = bs.length := by rw [List.size_toArray, hr.length]; simp
    refine ⟨_, _, _, _, _, _, fun i => bs.getD i false, rfl, Walks.list (A := A.in1) (R.hd hd) _ a (Nat.ne_of_lt hlt) ws.toArray, ⟨⟨_, Heap.get?_push_size _ rfl, rfl, rfl⟩, hl.push _⟩, ?_, fun h' tk hk => ?_⟩
    · intro i v s' Q' E' hv hq
      have := boolAt hr (i := i) (v := v) (by simpa using hv)
      subst this
      exact wpAny_truthy_bool hq
    · rw [hlen, range_all]
      refine postGrow (t := tk) W (fun b o e => hk b o (fun hm => ?_) (Heap.get?_push_of_some _ e)) (.bool _) q
      simp at hm
      exact absurd (Heap.lt_size e) (by rw [hm]; exact Nat.lt_irrefl _)
  | _ => exact False.elim q
end
end
end Mine

namespace Mine
section
open PySem PySem.Calls PyProof.Rows
section
variable {prog : Program} {w : World} {A : Around} {E : Value → Shared → Prop} {s : Shared}
theorem place_one (a b x : Int) : (Builtin.Range.rangePlace? a b 1 x).isSome = (decide (a ≤ x) && decide (x < b)) := by
  unfold Builtin.Range.rangePlace?
  rw [if_pos (by decide : (1 : Int) > 0), Int.emod_one]
  by_cases h1 : a ≤ x <;> by_cases h2 : x < b <;> simp [h1, h2]
theorem call_in_range {r : Addr} {a b i : Int} {t u v z : Tok} {Q : Value → Shared → Prop} (hr : IsRange s.heap r a b 1 t u v) (h : Q (.bool (decide (a ≤ i) && decide (i < b))) s) : wpAny (model prog w) A (call (.builtin "range.__contains__") [.ref r, .int i z]) Q E s := by
  have hT : s.TypeIs (.ref r) "range" := ⟨_, hr, rfl⟩
  refine wpAny_call_entry F.slot_range_contains hT F.entry_range_contains ?_ (F.args_range_contains_2 _ _)
  obtain ⟨hp, g, d, tk, os⟩ := s
  wp_walk using wpAny_loadPart' hr
  rw [place_one]
  exact ⟨_, rfl, h⟩
theorem in_range {r : Addr} {a b i : Int} {t u v z : Tok} {Q : Value → Shared → Prop} (hr : IsRange s.heap r a b 1 t u v) (h : Q (.bool (decide (a ≤ i) && decide (i < b))) s) : wpAny (model prog w) A (compareOp .In (.int i z) (.ref r)) Q E s := by
  show wpAny _ _ (do return .bool (← contains (.ref r) (.int i z))) Q E s
  exact wpAny_bind (wpAny_contains_slot ⟨_, hr, rfl⟩ F.slot_range_contains (call_in_range hr (wpAny_pure (wpAny_pure h))))
theorem notIn_range {r : Addr} {a b i : Int} {t u v z : Tok} {Q : Value → Shared → Prop} (hr : IsRange s.heap r a b 1 t u v) (h : Q (.bool (!(decide (a ≤ i) && decide (i < b)))) s) : wpAny (model prog w) A (compareOp .NotIn (.int i z) (.ref r)) Q E s := by
  show wpAny _ _ (do return .bool (!(← contains (.ref r) (.int i z)))) Q E s
  exact wpAny_bind (wpAny_contains_slot ⟨_, hr, rfl⟩ F.slot_range_contains (call_in_range hr (wpAny_pure (wpAny_pure h))))
theorem slice_two {t sl : Addr} {x y z : Value} {u : Tok} {Q : Value → Shared → Prop} (ht : IsTup s.heap t #[x, y, z]) (hs : s.heap.IsSliceOf sl .none (.int 2 u) .none)
    (h : Q (.ref s.heap.objs.size) { s with heap := s.heap.push { cls := .type "tuple", data := .seq #[x, y] } }) : wpAny (model prog w) A (getItem (.ref t) (.ref sl)) Q E s := by
  obtain ⟨os, hos, hcs, hds⟩ := id hs
  have hTs : s.TypeIs (.ref sl) "slice" := ⟨os, hos, hcs⟩
  have hok : sizeOk (.seq #[x, y]) := by show (2 : Nat) ≤ sizeLine; rw [sizeLine_eq]; decide
  unfold getItem
  try with_reducible refine wpAny_holding ?_
  first | refine wpAny_bind (wpAny_pure ?_) | skip
  refine wpAny_bind (wpAny_sequenceKey ht.typeIs (by decide) ?_)
  refine wpAny_bind (wpAny_callSpecial?_slot (name := Str.ofString "__getitem__") ht.typeIs slot_tuple_getitem
    (wpAny_call_entry slot_tuple_getitem ht.typeIs entry_tuple_getitem ?_ (args_tuple_getitem _ _)))
  show wpAny _ _ (Builtin.Tuple.tupleItemsOf (.ref t) >>= _) _ _ s
  refine wpAny_bind (tupleItemsOf_ ht (wpAny_bind (wpAny_typeOf hTs ?_)))
  rw [if_pos (by decide)]
  have ap : ∀ {A : Around} {E : Value → Shared → Prop} {R : Int × Int × Nat → Shared → Prop}, R (0, 1, 2) s → wpAny (model prog w) A (Builtin.Slice.sliceApplied (.ref sl) (pure ((3 : Nat) : Int))) R E s := fun {A E R} hR => by
    unfold Builtin.Slice.sliceApplied Builtin.Slice.sliceFields
    refine wpAny_bind (wpAny_bind (wpAny_field hos hds (x := .none) rfl (wpAny_bind (wpAny_field hos hds (x := .int 2 u) rfl (wpAny_bind (wpAny_field hos hds (x := .none) rfl (wpAny_pure ?_)))))))
    refine wpAny_bind (slicePart_none ?_)
    show wpAny _ _ (if ((1 : Int) == 0) = true then _ else _) _ _ s
    rw [if_neg (by decide)]
    refine wpAny_bind (slicePart_none (wpAny_bind (slicePart_int (wpAny_bind (wpAny_pure ?_)))))
    exact wpAny_pure hR
  refine wpAny_bind (ap ?_)
  show wpAny _ _ (if ((0 : Int) == 0 && (1 : Int) == 1 && 2 == (3 : Nat)) = true then _ else _) _ _ s
  rw [if_neg (by decide)]
  first
    | exact wpAny_bind (m := Builtin.Tuple.tupleExact _) (wpAny_newObj_type (wpAny_pure ⟨_, rfl, wpAny_pure h⟩) hok)
    | exact wpAny_bind (m := Builtin.Tuple.tupleExact _) (wpAny_newObj_type (wpAny_bind (wpAny_pure (wpAny_pure ⟨_, rfl, wpAny_pure h⟩))) hok)
    | exact wpAny_bind (wpAny_bind (m := Builtin.Tuple.tupleExact _) (wpAny_newObj_type (wpAny_pure (wpAny_pure ⟨_, rfl, wpAny_pure h⟩)) hok))
    | exact wpAny_bind (wpAny_bind (m := Builtin.Tuple.tupleExact _) (wpAny_newObj_type (wpAny_pure ⟨_, rfl, wpAny_pure h⟩) hok))
theorem add_tups {t b : Addr} {vs ws : List Value} {Q : Value → Shared → Prop} (ht : IsTup s.heap t vs.toArray) (hb : IsTup s.heap b ws.toArray) (h1 : vs ≠ []) (h2 : ws ≠ []) (hsz : vs.length + ws.length ≤ sizeLine)
    (h : Q (.ref s.heap.objs.size) { s with heap := s.heap.push { cls := .type "tuple", data := .seq (vs ++ ws).toArray } }) : wpAny (model prog w) A (binaryOp .Add (.ref t) (.ref b)) Q E s := by
  obtain ⟨⟨cls, dd, data, sl⟩, ho, hc, n, hd⟩ := id ht
  obtain ⟨⟨cls2, dd2, data2, sl2⟩, ho2, hc2, n2, hd2⟩ := id hb
  simp only at hc hd hc2 hd2
  subst hc hd hc2 hd2
  refine concat_meets ⟨_, ho, rfl⟩ ⟨_, ho2, rfl⟩ noFill_tuple_add seq_tuple_add PySem.F.slot_tuple_add PySem.F.entry_tuple_add (PySem.F.args_tuple_add_2 _ _)
    (tuple_addW2 t b vs.toArray ws.toArray n n2 dd dd2 sl sl2 (by simpa using h1) (by simpa using h2) (by rw [List.size_toArray, List.size_toArray]; exact hsz)) ⟨ho, ho2, ?_⟩
  rw [show vs.toArray ++ ws.toArray = (vs ++ ws).toArray by simp]
  exact h
theorem mul_str01 {x : Str} {n : Int} {t u : Tok} {Q : Value → Shared → Prop} (hn : n = 0 ∨ n = 1) (h : ∀ t' k, Q (.str (if n = 0 then Str.empty else x) t') { s with toks := k }) : wpAny (model prog w) A (binaryOp .Mult (.str x t) (.int n u)) Q E s := by
  rcases hn with rfl | rfl
  · exact P.mul_str_none (by decide) (by decide) (h _ _)
  · refine P.mul_str (by decide) (fun zz e => by cases e) (fun zz e => by cases e) ?_
    rw [if_neg (by decide), if_pos (by rfl)]
    exact h t s.toks
end
end
end Mine

namespace Mine
section
open PySem PySem.Calls PyProof.Rows
section
variable {P : Cx} {H : AHeap} {Q : V → AHeap → Prop} {A : Around} {E : Value → Shared → Prop} {s : Shared} {d : Nat}
theorem snd_sortP {w : Value} {v : V} (W : Wd P H s) (r : Rep P s.heap w v) (q : sem1 P d .sortP v Q H) : wpAny (model P.prog P.w) A (call (.builtin "sorted") [w]) (Post P H s.heap Q) E s := by
  exact False.elim q
end
end
end Mine

namespace Mine
section
open PySem PySem.Calls PyProof.Rows
theorem lk_V_class : typeLookup (.type "ValueError") "__class__" = pure (some (.builtin "object.__class__")) := by rw [typeLookup_type, builtinLookup_eq_fast]; kernel_rfl
theorem ga_V : Slot "ValueError" "__getattribute__" "BaseException.__getattribute__" := PySem.F.attr_ValueError.ga

section
variable {prog : Program} {w : World} {A : Around} {E : Value → Shared → Prop} {h : Heap} {g : Array GenState} {d : Drawn} {t : Nat} {os : OsState} {a C K : Addr} {o : Obj} {bm bm' : List Value} {r r' : ClsR}

structure Thru (h : Heap) (bm : List Value) : Prop where
  go : ∀ {M : Model} {A : Around} {E : Value → Shared → Prop} {g : Array GenState} {d : Drawn} {t : Nat} {os : OsState} {Q : Option Value → Shared → Prop}, Q (some (.builtin "object.__class__")) ⟨h, g, d, t, os⟩ → wpAny M A (lookupAlong bm "__class__") Q E ⟨h, g, d, t, os⟩
theorem Thru.base (h : Heap) : Thru h bmV := .mk fun hq => by
  have e : lookupAlong bmV "__class__" = pure (some (.builtin "object.__class__")) := by
    have := lk_V_class
    rw [typeLookup_eq, PySem.F.attrBase_ValueError.mro] at this; exact this
  rw [e]; exact wpAny_pure hq
theorem Thru.cons (f : ClsF h C bm r) {tl : List Value} (T : Thru h tl) : Thru h (.ref C :: tl) := .mk fun hq => by
  rw [lookupAlong_cons]
  refine wpAny_bind (wpAny_classOwn_exc f.at_ f.ns ?_)
  rw [f.cls]
  exact T.go hq

theorem lk_class {M : Model} {Q : Option Value → Shared → Prop} (f : ClsF h C bm r) (T : Thru h bm) (hq : Q (some (.builtin "object.__class__")) ⟨h, g, d, t, os⟩) : wpAny M A (typeLookup (.ref C) "__class__") Q E ⟨h, g, d, t, os⟩ := by
  rw [typeLookup_eq]
  exact wpAny_bind (wpAny_mroOf_exc f.at_ ((Thru.cons f T).go hq))

theorem class_get_x {R : Result → Shared → Prop} (f : ClsF h C bm r) (hx : h.get? a = some o) (hc : o.cls = .ref C) (hq : R (.ok (.ret (.ref C))) ⟨h, g, d, t, os⟩) :
    codeAny (model prog w) A (.call (.builtin "getset_descriptor.__get__") ⟨[.builtin "object.__class__", .ref a, .ref C], []⟩) R ⟨h, g, d, t, os⟩ := by
  have hT5 : (⟨h, g, d, t, os⟩ : Shared).TypeIs (.builtin "object.__class__") "getset_descriptor" := F.typeOf_object_class
  have hcB : (Value.ref C :: bm).contains (.type (".".intercalate ("object.__class__".cutAt '.').dropLast)) = true := by
    rw [F.owner_object_class, List.contains_cons, f.tail.tail.hasType (X := "object") (b := true) (by decide +kernel)]; rfl
  refine codeAny_call_builtin F.slot_gs_get.plain F.entry_gs_get (F.slot_gs_get.check _ _ _ _ _ _ _ _ hT5 (F.args_gs_get _ _ _) ?_)
  repeat (any_goals (first | assumption | (with_reducible refine wpAny_loadPart_at hx ?_; rw [hc]) | (with_reducible refine wpAny_isSubtype_exc f.at_ ?_; rw [hcB]) | wp_step))
  refine ⟨Code.quiet_builtin _ (by decide +kernel), codeAny_builtin F.entry_object_class ?_⟩
  repeat (any_goals (first | assumption | (with_reducible refine wpAny_loadPart_at hx ?_; rw [hc]) | wp_step))

theorem class_entry_x {tk : Tok} {Q : Fin → Shared → Prop} (f : ClsF h C bm r) (Th : Thru h bm) (hx : h.get? a = some o) (hc : o.cls = .ref C) (hq : Q (.done (.ret (.ref C))) ⟨h, g, d, t, os⟩) :
    wpAny (model prog w) A (Builtin.«object.__getattribute__» ⟨[.ref a, .str "__class__" tk], []⟩) Q E ⟨h, g, d, t, os⟩ := by
  have hT5 : (⟨h, g, d, t, os⟩ : Shared).TypeIs (.builtin "object.__class__") "getset_descriptor" := F.typeOf_object_class
  have f5 := F.typeOf_object_class
  have f6 := F.slot_gs_get.lookup
  have f7 := F.slot_gs_set.lookup
  repeat (any_goals (first | assumption | (with_reducible refine wpAny_loadPart_at hx ?_; rw [hc]) | with_reducible refine lk_class f Th ?_ | wp_step))
  refine class_get_x f hx hc ?_
  repeat (any_goals (first | assumption | wp_step))

theorem class_call_x {tk : Tok} {R : Result → Shared → Prop} (f : ClsF h C bm r) (Th : Thru h bm) (hx : h.get? a = some o) (hc : o.cls = .ref C) (hq : R (.ok (.ret (.ref C))) ⟨h, g, d, t, os⟩) :
    codeAny (model prog w) A (.call (.builtin "BaseException.__getattribute__") ⟨[.ref a, .str "__class__" tk], []⟩) R ⟨h, g, d, t, os⟩ :=
  codeAny_call_builtin ga_V.plain F.entry_bexc_ga (wpAny_check_ga_own PySem.F.attrBase_ValueError f.at_ f.tail hx hc (class_entry_x f Th hx hc hq))

theorem class_by_x {tk : Tok} {Q : Value → Shared → Prop} (f : ClsF h C bm r) (Th : Thru h bm) (hx : h.get? a = some o) (hc : o.cls = .ref C) (hq : Q (.ref C) ⟨h, g, d, t, os⟩) : wpAny (model prog w) A (getAttrBy (.ref a) (.str "__class__" tk) false) Q E ⟨h, g, d, t, os⟩ := by
  have f3 := ga_V.bind (.ref a)
  have hx2 : (Value.builtin "BaseException.__getattribute__" == Value.builtin "object.__getattribute__") = false := by decide +kernel
  have hx1 : (onTheHeap (Value.ref C) && Value.builtin "BaseException.__getattribute__" == Value.builtin "object.__getattribute__") = false := by rw [hx2]; rfl
  have hm1 : ("__getattribute__" : Str) ∈ quietNames := .tail _ (.head _)
  have hm2 : ("__getattr__" : Str) ∈ quietNames := .tail _ (.tail _ (.head _))
  repeat (any_goals (first | assumption | (with_reducible refine wpAny_loadPart_at hx ?_; rw [hc]) | with_reducible refine wpAny_typeLookup_tailQ hm1 f.at_ f.ns f.quiet f.tail PySem.F.attrBase_ValueError.mro ga_V.lookup ?_ | with_reducible refine wpAny_typeLookup_tailQ hm2 f.at_ f.ns f.quiet f.tail PySem.F.attrBase_ValueError.mro PySem.F.attrBase_ValueError.noGetattr ?_ | wp_step))
  refine class_call_x f Th hx hc ?_
  repeat (any_goals (first | assumption | wp_step))

theorem class_attr_x {Q : Option Value → Shared → Prop} (f : ClsF h C bm r) (Th : Thru h bm) (hx : h.get? a = some o) (hc : o.cls = .ref C) (hq : Q (some (.ref C)) ⟨h, g, d, t + 1, os⟩) : wpAny (model prog w) A (getAttr? (.ref a) "__class__") Q E ⟨h, g, d, t, os⟩ := by
  unfold getAttr? getAttrBy?
  repeat (any_goals (first | assumption | with_reducible apply class_by_x f Th hx hc | wp_step))

theorem isi_nested_ref {b : Bool} {dep : Int} {tk : Tok} {Q : Fin → Shared → Prop} (f : ClsF h C bm r) (f' : ClsF h K bm' r') (Th : Thru h bm)
    (hx : h.get? a = some o) (hc : o.cls = .ref C) (hb : (Value.ref C :: bm).contains (.ref K) = b) (hq : ∀ t', Q (.done (.ret (.bool b))) ⟨h, g, d, t', os⟩) :
    wpAny (model prog w) A (Builtin.«isinstance.nested» ⟨[.ref a, .ref K, .int dep tk], []⟩) Q E ⟨h, g, d, t, os⟩ := by
  have hq0 := hq t
  have hq1 := hq (t + 1)
  by_cases he : (Value.ref C == Value.ref K) = true
  · have hb1 : b = true := by
      rw [← hb, List.contains_cons, BEq.comm, he]; rfl
    subst hb1
    repeat (any_goals (first | assumption | (with_reducible refine wpAny_loadPart_at hx ?_; rw [hc]) | wp_step))
  · have he' : (Value.ref C == Value.ref K) = false := by simpa using he
    cases b with
    | true => repeat (any_goals (first | assumption | (with_reducible refine wpAny_loadPart_at hx ?_; rw [hc]) | with_reducible refine wpAny_loadPart_at f'.at_ ?_ | (with_reducible refine wpAny_isSubtype_exc f.at_ ?_; rw [hb]) | wp_step))
    | false => repeat (any_goals (first | assumption | (with_reducible refine wpAny_loadPart_at hx ?_; rw [hc]) | with_reducible refine wpAny_loadPart_at f'.at_ ?_ | with_reducible refine wpAny_loadPart_at f.at_ ?_ | (with_reducible refine wpAny_isSubtype_exc f.at_ ?_; rw [hb]) | with_reducible refine class_attr_x f Th hx hc ?_ | wp_step))

end

section
variable {P : Cx} {d : Nat} {A : Around} {E : Value → Shared → Prop} {s : Shared} {H : AHeap} {Q : V → AHeap → Prop} {w : Value} {v : V}
theorem sub_x (F : Facts P) {c k : Nat} (hc : c < P.gl.xs.length) (hk : k < P.gl.xs.length) : (Value.ref (P.xc c) :: xtail P c).contains (.ref (P.xc k)) = isSub c k := by
  have r : ∀ a b : Nat, a < P.gl.xs.length → b < P.gl.xs.length → ((Value.ref (P.xc a) == Value.ref (P.xc b)) = (a == b)) := fun a b ha hb => by
    by_cases e : a = b
    · subst e; rw [beq_self_eq_true, beq_self_eq_true]
    · have : ¬ P.xc a = P.xc b := fun q => e (F.xinj a b ha hb q)
      rw [beq_eq_false_iff_ne.mpr fun q => this (by injection q), beq_eq_false_iff_ne.mpr e]
  have hb : bmV.contains (.ref (P.xc k)) = false := rfl
  have h0 : 0 < P.gl.xs.length := Nat.lt_of_le_of_lt (Nat.zero_le _) hc
  unfold isSub
  cases c with
  | zero =>
    show List.contains (_ :: bmV) _ = _
    rw [List.contains_cons, hb, r k 0 hk hc, Bool.or_false]
    cases k <;> rfl
  | succ c =>
    show List.contains (_ :: .ref (P.xc 0) :: bmV) _ = _
    rw [List.contains_cons, List.contains_cons, hb, r k (c + 1) hk hc, r k 0 hk h0, Bool.or_false, Bool.or_comm]
    congr 1
    exact Bool.beq_comm
theorem cls_at {h' : Heap} (F : Facts P) (k : ∀ b o, P.hb.get? b = some o → h'.get? b = some o) {c : Nat} (hc : c < P.gl.xs.length) : ClsAt h' (P.xc c) (xtail P c) := (F.cls c _ (List.getElem?_eq_getElem hc)).obj.keeps k
theorem thru_keeps {h' : Heap} (F : Facts P) (k : ∀ b o, P.hb.get? b = some o → h'.get? b = some o) {c : Nat} (hc : c < P.gl.xs.length) : Thru h' (xtail P c) := by
  cases c with
  | zero => exact Thru.base _
  | succ c =>
    obtain ⟨r, f⟩ := cls_at F k (c := 0) (Nat.lt_of_le_of_lt (Nat.zero_le _) hc)
    exact Thru.cons f (Thru.base _)
theorem isi_meets {a C K : Addr} {bm bm' : List Value} {b : Bool} : Meets (Builtin.«isinstance» ⟨[.ref a, .ref K], []⟩) (fun zz R s => (ClsAt s.heap C bm ∧ ClsAt s.heap K bm' ∧ Thru s.heap bm ∧ (∃ o, s.heap.get? a = some o ∧ o.cls = .ref C) ∧ (Value.ref C :: bm).contains (.ref K) = b) ∧ ∀ t', R (.ok (.ret (.bool b))) { s with toks := t' }) := fun zz zz zz zz s hs => by
  obtain ⟨h, g, d, t, os⟩ := s
  obtain ⟨⟨⟨r, f⟩, ⟨r', f'⟩, Th, ⟨o, hx, hc⟩, hb⟩, hq⟩ := hs
  exact isinstance_outer (isi_nested_ref f f' Th hx hc hb hq)
theorem snd_isX {k : Nat} {x : String} (F : Facts P) (hk : P.gl.xs[k]? = some x) (W : Wd P H s) (r : Rep P s.heap w v) (q : sem1 P d (.isX k) v Q H) : wpAny (model P.prog P.w) A (call (.builtin "isinstance") [w, .ref (P.xc k)]) (Post P H s.heap Q) E s := by
  induction w, v, r using Rep.elim with
  | @exc a c o e xo =>
    have hk := (List.getElem?_eq_some_iff.mp hk).1
    exact call_isinstance isi_meets ⟨⟨cls_at F W.base e.1, cls_at F W.base hk, thru_keeps F W.base e.1, ⟨o, e.2, xo.1⟩, sub_x F e.1 hk⟩, fun t => postHere W (.bool _) q t⟩
  | _ => exact False.elim q
theorem snd_isV (F : Facts P) (W : Wd P H s) (r : Rep P s.heap w v) (q : sem1 P d .isV v Q H) : wpAny (model P.prog P.w) A (call (.builtin "isinstance") [w, .type "ValueError"]) (Post P H s.heap Q) E s := by
  exact False.elim q
end
end
end Mine

namespace Mine
section
open PySem PySem.Calls PyProof.Rows
noncomputable def nameX (xs : List String) (c : Nat) : Str := Str.ofString (xs.getD c "")
noncomputable def chainX (xs : List String) : Nat → List Str
  | 0 => []
  | _ + 1 => [nameX xs 0]
noncomputable def clsQ (h : Heap) (x : Str) : Bool :=
  match h.clsAt mainGlobals x with
  | some (_, _, cd) => (h.nsMap cd.ns "__class__").isNone
  | none => false
noncomputable def adrX (xs : List String) (h : Heap) (c : Nat) : Addr :=
  match h.nsMap mainGlobals (nameX xs c) with
  | some (.ref C) => C
  | _ => 0
noncomputable def xchk (xs : List String) (h : Heap) : Bool :=
  h.isNs mainGlobals && (List.range xs.length).all (fun c => h.ownExcOk (nameX xs c) (chainX xs c) bmV "ValueError.__new__" && h.quietOk (nameX xs c) && clsQ h (nameX xs c)) &&
    (List.range xs.length).all (fun c => (List.range xs.length).all fun k => c == k || adrX xs h c != adrX xs h k)
noncomputable def XSays (xs : List String) (h : Heap) : Prop := ∃ (xc : Nat → Addr) (mg : Str → Option Value), h.Ns mainGlobals mg ∧
  (∀ c x, xs[c]? = some x → mg (Str.ofString x) = some (.ref (xc c)) ∧ ClsAt h (xc c) (xtailA xc c)) ∧ ∀ c k, c < xs.length → k < xs.length → xc c = xc k → c = k

theorem XSays.keeps {xs : List String} {h h' : Heap} (x : XSays xs h) (k : ∀ b o, h.get? b = some o → h'.get? b = some o) : XSays xs h' :=
  let ⟨xc, mg, hn, hc, hi⟩ := x; ⟨xc, mg, hn.keeps k, fun c x e => ⟨(hc c x e).1, (hc c x e).2.keeps k⟩, hi⟩

theorem xsays_of {xs : List String} {h : Heap} (x : xchk xs h = true) : XSays xs h := by
  obtain ⟨x, x3⟩ := andB x
  obtain ⟨x1, x2⟩ := andB x
  have ok : ∀ c, c < xs.length → h.ownExcOk (nameX xs c) (chainX xs c) bmV "ValueError.__new__" = true ∧ h.quietOk (nameX xs c) = true ∧ clsQ h (nameX xs c) = true := fun c hc => by
    obtain ⟨a, b⟩ := andB (List.all_eq_true.mp x2 c (List.mem_range.mpr hc))
    obtain ⟨a, d⟩ := andB a
    exact ⟨a, d, b⟩
  have at_ : ∀ c, c < xs.length → h.nsMap mainGlobals (nameX xs c) = some (.ref (adrX xs h c)) ∧ ∃ r : ClsR, h.get? (adrX xs h c) = some (r.obj (adrX xs h c) (((chainX xs c).map fun n => (h.nsMap mainGlobals n).getD .none) ++ bmV)) ∧ h.Ns r.N r.mN ∧ (∀ n ∈ quietNames, r.mN n = none) ∧ r.mN "__class__" = none := fun c hc => by
    obtain ⟨o1, o2, o3⟩ := ok c hc
    obtain ⟨C, N, nm, q, bs, hdct, sn, sub, ab, col, dd, k0, k1, k2, k3, k5, hb, hC, hN, hq⟩ := Heap.ownExcQ_of_ok o1 o2
    have e : adrX xs h c = C := by unfold adrX; rw [hb]
    rw [e]
    refine ⟨hb, ⟨nm, q, N, bs, hdct, sn, sub, ab, col, dd, k0, k1, k2, k3, k5, h.nsMap N⟩, hC, hN, hq, ?_⟩
    unfold clsQ at o3
    cases hf : h.clsAt mainGlobals (nameX xs c) with
    | none => rw [hf] at o3; cases o3
    | some z =>
      obtain ⟨C', o', cd'⟩ := z
      rw [hf] at o3
      obtain ⟨hn', ho', hd'⟩ := Heap.clsAt_spec hf
      rw [hb] at hn'; cases hn'
      rw [hC] at ho'; cases ho'
      cases hd'
      exact Option.isNone_iff_eq_none.mp o3
  refine ⟨adrX xs h, h.nsMap mainGlobals, .of_isNs x1, fun c x e => ?_, fun c k hc hk e => ?_⟩
  · obtain ⟨hc, ex⟩ := List.getElem?_eq_some_iff.mp e
    have en : nameX xs c = Str.ofString x := by unfold nameX; rw [List.getD, e]; rfl
    obtain ⟨hb, rr, hC, hN, hq, hcl⟩ := at_ c hc
    rw [← en]
    refine ⟨hb, ?_⟩
    have et : ((chainX xs c).map fun n => (h.nsMap mainGlobals n).getD .none) ++ bmV = xtailA (adrX xs h) c := by
      cases c with
      | zero => rfl
      | succ c =>
        obtain ⟨hb0, _⟩ := at_ 0 (Nat.lt_of_le_of_lt (Nat.zero_le _) hc)
        show [(h.nsMap mainGlobals (nameX xs 0)).getD .none] ++ bmV = _
        rw [hb0]; rfl
    rw [et] at hC
    refine ⟨rr, hC, hN, hq, hcl, ?_⟩
    rw [← et]
    refine OwnTailQ.of_chain _ fun n hn => ?_
    cases c with
    | zero => cases hn
    | succ c =>
      have h0 := ok 0 (Nat.lt_of_le_of_lt (Nat.zero_le _) hc)
      have : n = nameX xs 0 := by simpa [chainX] using hn
      subst this
      exact ⟨⟨_, _, _, h0.1⟩, h0.2.1⟩
  · have := List.all_eq_true.mp (List.all_eq_true.mp x3 c (List.mem_range.mpr hc)) k (List.mem_range.mpr hk)
    rcases orB this with q | q
    · exact beq_iff_eq.mp q
    · rw [e] at q; simp at q

noncomputable def xHook (xs : List String) : PySem.W.Hook := ⟨Bool, fun s => xchk xs s.heap, fun zz => true, fun zz h => XSays xs h, fun zz zz e => xsays_of e, fun zz zz zz x k => x.keeps k⟩
end
end Mine

namespace Mine
section
open PySem PySem.Calls PyProof.Rows
section
variable {P : Cx} {d : Nat} {A : Around} {E : Value → Shared → Prop} {s : Shared} {H : AHeap} {Q : V → AHeap → Prop} {w w' : Value} {v v' : V}

theorem postTurn {a : Addr} {xs : List V} {ys : List V} {ws : List Value} {h' : Heap} {t : Nat} {rv : Value} {r : V} (W : Wd P H s) (e : H a = some (.list xs)) (hs : Heap.SameBut a s.heap h') (hl : h'.PlainList a ws.toArray)
    (hr : Reps P s.heap ws ys) (hz : ys.length ≤ Lim) (hv : Rep P s.heap rv r) (q : Q r (H.upd a (.list ys))) : Post P H s.heap Q rv { s with heap := h', toks := t } := by
  have im : ImmK s.heap h' := .but (fun b o hb eo => (hs.2 b hb).trans eo) fun o eo => (W.hs _ _ e).dull eo
  exact ⟨r, H.upd a (.list ys), hv.mono im, W.turn (c' := .list ys) e hs.2 ⟨ws, hl, hr.mono im, hz⟩ rfl rfl, .turn e hs.2 (let ⟨_, e⟩ := hl; ⟨_, e⟩), q⟩

theorem snd_arith {o : Op2} {op : Operator} (ho : bin2 o = some op) (W : Wd P H s) (r : Rep P s.heap w v) (r' : Rep P s.heap w' v') (q : sem2 P d o v v' Q H) :
    wpAny (model P.prog P.w) A (binaryOp op w w') (Post P H s.heap Q) E s := by
  cases o <;> first | exact noneAny ho | cases Option.some.inj ho
  · -- add
    induction w, v, r using Rep.elim with
    | int i t =>
      induction w', v', r' using Rep.elim with
      | int j u => exact PyProof.Rows.add_int (postHere W (.int _ _) q _)
      | _ => exact False.elim q
    | lst a =>
      induction w', v', r' using Rep.elim with
      | lst b =>
        obtain ⟨xs, ys, e1, e2, q⟩ := q
        obtain ⟨ws, hl, hr, hz⟩ := plain_of W e1
        obtain ⟨us, hl', hr', hz'⟩ := plain_of W e2
        obtain ⟨n, ho⟩ := hl
        obtain ⟨n', ho'⟩ := hl'
        have hsz : ws.toArray.size + us.toArray.size ≤ sizeLine := by
          have h1 := hr.length; have h2 := hr'.length; have h3 := q.1
          rw [List.size_toArray, List.size_toArray, sizeLine_eq]; rw [List.length_append] at h3; unfold Lim at h3; omega
        refine concat_meets ⟨_, ho, rfl⟩ ⟨_, ho', rfl⟩ noFill_list_add seq_list_add PySem.F.slot_list_add PySem.F.entry_list_add (PySem.F.args_list_add_2 _ _) (list_addW a b ws.toArray us.toArray n n' none none #[] #[] hsz) ⟨ho, ho', ?_⟩
        have e : ws.toArray ++ us.toArray = (ws ++ us).toArray := by simp
        rw [e]
        exact postNewL (t := s.toks) W q (hr.append hr') (fun b o e => Heap.get?_push_of_some _ e) (get?_size _) ⟨0, Heap.get?_push_size _ rfl⟩
      | _ => exact False.elim q
    | @tup a ws xs ht hr =>
      induction w', v', r' using Rep.elim with
      | @tup b us ys ht' hr' =>
        obtain ⟨⟨n1, n2, hz⟩, q⟩ := q
        have h1 := hr.length; have h2 := hr'.length
        refine add_tups ht ht' (by rintro rfl; exact n1 (List.length_eq_zero_iff.mp h1.symm)) (by rintro rfl; exact n2 (List.length_eq_zero_iff.mp h2.symm)) (by rw [sizeLine_eq]; omega) ?_
        have hk : ∀ b o, s.heap.get? b = some o → (s.heap.push { cls := .type "tuple", data := .seq (ws ++ us).toArray }).get? b = some o := fun b o e => Heap.get?_push_of_some _ e
        exact postGrow (t := s.toks) W hk (.tup ⟨_, Heap.get?_push_size _ rfl, rfl, 0, rfl⟩ ((hr.append hr').mono (.of_keeps hk))) q
      | _ => exact False.elim q
    | str x t =>
      induction w', v', r' using Rep.elim with
      | str y u => exact SB.add (fun t' k => postHere W (.str _ _) q.2 _) (by have := q.1; rw [sizeLine_eq]; omega)
      | _ => exact False.elim q
    | _ => exact False.elim q
  · induction w, v, r using Rep.elim with
    | int i t =>
      induction w', v', r' using Rep.elim with
      | int j u => exact PyProof.Rows.sub_int (postHere W (.int _ _) q _)
      | _ => exact False.elim q
    | _ => exact False.elim q
  · -- mul
    induction w, v, r using Rep.elim with
    | int i t =>
      induction w', v', r' using Rep.elim with
      | int j u =>
        obtain ⟨hb, q⟩ := q
        refine PyProof.Rows.mul_int (postHere W (.int _ _) q _) ?_
        rcases hb with hb | hb
        · exact IntMulOk.of_left (intBits_le_64 hb.1 hb.2)
        · exact IntMulOk.of_right (intBits_le_64 hb.1 hb.2)
      | _ => exact False.elim q
    | str x t =>
      induction w', v', r' using Rep.elim with
      | int j u => exact mul_str01 q.1 fun t' k => postHere W (.str _ _) q.2 _
      | _ => exact False.elim q
    | lst a =>
      induction w', v', r' using Rep.elim with
      | int j u =>
        obtain ⟨xs, e1, ⟨h0, h1⟩, q⟩ := q
        obtain ⟨ws, hl, hr, hz⟩ := plain_of W e1
        obtain ⟨n, ho⟩ := hl
        have hlen := hr.length
        have hsz : ws.toArray.size * j.toNat ≤ 2 ^ 24 := by
          have h3 := q.1
          have : (List.replicate j.toNat xs).flatten.length = j.toNat * xs.length := by simp
          rw [this] at h3
          rw [List.size_toArray, hlen, Nat.mul_comm]
          unfold Lim at h3; omega
        refine wpAny_binaryOp_repeat_ref (T := "list") (U := "int") (by decide) ⟨_, ho, rfl⟩ (fun s' => typeIs_int s' j u) noFill_list_mul F.fills_int_mul F.slot_int_rmul repeat_list F.slot_int_index.lookup
          (call_meets F.slot_int_rmul (typeIs_int s j u) F.entry_int_rmul (F.args_int_rmul_2 _ _) (int___rmul___int_list j u a ws.toArray n)
            ⟨ho, rfl, ⟨_, ho, rfl⟩, call_meets F.slot_list_mul ⟨_, ho, rfl⟩ F.entry_list_mul (F.args_list_mul_2 _ _)
              (AutoListH.list___mul___list_int_3 a ws.toArray n j u (by simp [Builtin.List.listFitsIndex]; omega) (by omega) (by simp only [Builtin.List.listTooLong, sizeLine]; simp; omega))
              ⟨ho, ?_⟩⟩)
        have key : (List.foldl (fun x1 x2 : Array Value => x1 ++ x2) #[] (List.replicate (if ws.toArray.isEmpty = true then 0 else j.toNat) ws.toArray)) = (List.replicate j.toNat ws).flatten.toArray := by
          have gen : ∀ (k : Nat) (acc : List Value), List.foldl (fun x1 x2 : Array Value => x1 ++ x2) acc.toArray (List.replicate k ws.toArray) = (acc ++ (List.replicate k ws).flatten).toArray := by
            intro k
            induction k with
            | zero => intro acc; simp
            | succ k ih => intro acc; rw [List.replicate_succ, List.foldl_cons, List.append_toArray, ih]; simp [List.replicate_succ]
          by_cases hw : ws = []
          · subst hw; simp
          · have : ws.toArray.isEmpty = false := by simp [hw]
            rw [this]
            simpa using gen j.toNat []
        rw [key]
        have hrr : ∀ k : Nat, Reps P s.heap (List.replicate k ws).flatten (List.replicate k xs).flatten := fun k => by
          induction k with
          | zero => exact .nil
          | succ k ih => rw [List.replicate_succ, List.replicate_succ, List.flatten_cons, List.flatten_cons]; exact hr.append ih
        exact postNewL (t := s.toks) W q (hrr _) (fun b o e => Heap.get?_push_of_some _ e) (get?_size _) ⟨0, Heap.get?_push_size _ rfl⟩
      | _ => exact False.elim q
    | _ => exact False.elim q
  · induction w, v, r using Rep.elim with
    | int i t =>
      induction w', v', r' using Rep.elim with
      | int j u =>
        obtain ⟨h0, h1, q⟩ := q
        exact PyProof.Rows.floordiv_int h0 (postHere W (.int _ _) q _) (.inl (PyProof.noPylong_small h1))
      | _ => exact False.elim q
    | _ => exact False.elim q
  · induction w, v, r using Rep.elim with
    | int i t =>
      induction w', v', r' using Rep.elim with
      | int j u =>
        obtain ⟨h0, q⟩ := q
        exact PyProof.Rows.mod_int' h0 (postHere W (.int _ _) q _)
      | _ => exact False.elim q
    | _ => exact False.elim q
  · induction w, v, r using Rep.elim with
    | int i t =>
      induction w', v', r' using Rep.elim with
      | int j u =>
        obtain ⟨⟨rfl, h0, h1⟩, q⟩ := q
        exact PyProof.Rows.pow_int h0 (by
          have : Builtin.Int.intBits 10 ≤ 64 := intBits_le_64 (by decide) (by decide)
          have : (Builtin.Int.intBits 10 : Int) ≤ 64 := by omega
          have := Int.mul_le_mul this h1 h0 (by omega)
          omega) (postHere W (.int _ _) q _)
      | _ => exact False.elim q
    | _ => exact False.elim q
end
end
end Mine

namespace Mine
section
open PySem PySem.Calls PyProof.Rows
section
variable {P : Cx} {d : Nat} {A : Around} {E : Value → Shared → Prop} {s : Shared} {H : AHeap} {Q : V → AHeap → Prop} {w w' : Value} {v v' : V}

theorem idx_eq (i : Int) (n : Nat) : idx i n = seqIndex? i n := by
  unfold idx seqIndex?
  by_cases h : 0 ≤ i
  · have h' : ¬ i < 0 := by omega
    simp only [h, h', if_true, if_false, decide_true, Bool.true_and, decide_eq_true_eq]
  · have h' : i < 0 := by omega
    simp only [h, h', if_true, if_false]
    by_cases h2 : 0 ≤ i + n
    · have : i + n < n := by omega
      simp [h2, this]
    · simp [h2]

theorem RD.reads {v : V} {dd : PyData} (x : RD H v dd) (W : Wd P H s) {w : Value} (r : Rep P s.heap w v) : ∃ as, Reads s.heap w dd as :=
  RD.rec (motive_1 := fun v dd zz => ∀ w, Rep P s.heap w v → ∃ as, Reads s.heap w dd as) (motive_2 := fun vs ds zz => ∀ ws, Reps P s.heap ws vs → ∃ as, ReadsAll s.heap ws ds as)
    (fun w r => by obtain rfl : w = _ := r.inv; exact ⟨_, .none⟩) (fun b w r => by obtain rfl : w = _ := r.inv; exact ⟨_, .bool _⟩) (fun i w r => by obtain ⟨t, rfl⟩ := r.inv; exact ⟨_, .int _ _⟩) (fun i w r => by obtain ⟨t, rfl⟩ := r.inv; exact ⟨_, .str _ _⟩)
    (fun zz ih w r => by
      obtain ⟨a, xs, rfl, ⟨o, e, c, n, dt⟩, hr⟩ := r.inv
      obtain ⟨as, ha⟩ := ih _ hr
      exact ⟨_, .tuple e c dt ha⟩)
    (fun e zz ih w r => by
      obtain rfl : w = _ := r.inv
      obtain ⟨ws, ⟨o, e, c, n, dt⟩, hr, _⟩ := isList_of W e
      obtain ⟨as, ha⟩ := ih _ hr
      exact ⟨_, .list e c dt ha⟩)
    (fun ws r => by obtain rfl : ws = _ := r.inv; exact ⟨_, .nil⟩)
    (fun zz zz i1 i2 ws r => by
      obtain ⟨w, ws', rfl, hr, hrs⟩ := r.inv
      obtain ⟨as, ha⟩ := i1 _ hr
      obtain ⟨bs, hb⟩ := i2 _ hrs
      exact ⟨_, .cons ha hb⟩) x w r

theorem noneSome {α : Prop} {r : Bool} (h : (none : Option Bool) = some r) : α := nomatch h
theorem eqF_at {h : Heap} {b : Bool} (e : eqF v v' = some b) (r : Rep P h w v) (r' : Rep P h w' v') : SeqAt.EqAt A s w w' b := by
  induction w, v, r using Rep.elim with
  | none =>
    induction w', v', r' using Rep.elim with
    | none => cases Option.some.inj e; exact SeqAt.EqAt.same _
    | int j u => cases Option.some.inj e; exact SeqAt.EqAt.none_int _ _
    | _ => exact noneSome e
  | int i t =>
    induction w', v', r' using Rep.elim with
    | none => cases Option.some.inj e; exact SeqAt.EqAt.int_none _ _
    | int j u => cases Option.some.inj e; exact SeqAt.EqAt.int_int _ _ _ _
    | _ => exact noneSome e
  | str x t =>
    induction w', v', r' using Rep.elim with
    | str y u => cases Option.some.inj e; exact SeqAt.EqAt.str_str _ _ _ _
    | _ => exact noneSome e
  | _ => exact noneSome e
theorem snd_eq (R : Room P d A H s.heap) (W : Wd P H s) (r : Rep P s.heap w v) (r' : Rep P s.heap w' v') (q : sem2 P d .eq v v' Q H) :
    wpAny (model P.prog P.w) A (compareOp .Eq w w') (Post P H s.heap Q) E s := by
  obtain ⟨b, hb, q⟩ : SEq Q H v v' := by cases v <;> exact q
  have p := postHere' (Q := Q) W (.bool b) q
  have hu : A.units + 64 < cLine := by have := R.units; omega
  rcases hb with e | ⟨d1, d2, h1, h2, s1, s2, rfl⟩
  · induction w, v, r using Rep.elim with
    | none =>
      induction w', v', r' using Rep.elim with
      | none => cases Option.some.inj e; exact EqNone.eq_none_none p
      | int j u => cases Option.some.inj e; exact EqNone.eq_none_int p
      | _ => exact noneSome e
    | int i t =>
      induction w', v', r' using Rep.elim with
      | none => cases Option.some.inj e; exact EqNone.eq_int_none p
      | int j u => cases Option.some.inj e; exact PyProof.Rows.eq_int p
      | _ => exact noneSome e
    | str x t =>
      induction w', v', r' using Rep.elim with
      | str y u => cases Option.some.inj e; exact PyProof.Rows.eq_str p
      | _ => exact noneSome e
    | _ => exact noneSome e
  · obtain ⟨as, ra⟩ := h1.reads W r
    obtain ⟨bs, rb⟩ := h2.reads W r'
    exact SeqAt.compareEq_shaped ra rb s1 s2 hu p

theorem snd_ne (R : Room P d A H s.heap) (W : Wd P H s) (r : Rep P s.heap w v) (r' : Rep P s.heap w' v') (q : sem2 P d .ne v v' Q H) :
    wpAny (model P.prog P.w) A (compareOp .NotEq w w') (Post P H s.heap Q) E s := by
  obtain ⟨b, hb, q⟩ : SNe Q H v v' := by cases v <;> exact q
  have p := postHere' (Q := Q) W (.bool (!b)) q
  have hu : A.units + 64 < cLine := by have := R.units; omega
  rcases hb with e | ⟨d1, d2, h1, h2, s1, s2, rfl⟩
  · induction w, v, r using Rep.elim with
    | none =>
      induction w', v', r' using Rep.elim with
      | none => cases Option.some.inj e; exact EqNone.ne_none_none p
      | int j u => cases Option.some.inj e; exact EqNone.ne_none_int p
      | _ => exact noneSome e
    | int i t =>
      induction w', v', r' using Rep.elim with
      | none => cases Option.some.inj e; exact EqNone.ne_int_none p
      | int j u => cases Option.some.inj e; exact PyProof.Rows.ne_int p
      | _ => exact noneSome e
    | str x t =>
      induction w', v', r' using Rep.elim with
      | str y u => cases Option.some.inj e; exact PyProof.Rows.ne_str p
      | _ => exact noneSome e
    | _ => exact noneSome e
  · obtain ⟨as, ra⟩ := h1.reads W r
    obtain ⟨bs, rb⟩ := h2.reads W r'
    exact SeqAt.compareNe_shaped ra rb s1 s2 hu p

noncomputable def eqVal : Value → Value → Bool
  | .none, .none => true
  | .int i _, .int j _ => i == j
  | .str x _, .str y _ => x == y
  | _, _ => false
theorem eqVal_of {h : Heap} {b : Bool} (e : eqF v v' = some b) (r : Rep P h w v) (r' : Rep P h w' v') : eqVal w w' = b := by
  induction w, v, r using Rep.elim with
  | none => induction w', v', r' using Rep.elim with
    | none => cases Option.some.inj e; rfl
    | int j u => cases Option.some.inj e; rfl
    | _ => exact noneSome e
  | int i t => induction w', v', r' using Rep.elim with
    | none => cases Option.some.inj e; rfl
    | int j u => cases Option.some.inj e; rfl
    | _ => exact noneSome e
  | str x t => induction w', v', r' using Rep.elim with
    | str y u => cases Option.some.inj e; rfl
    | _ => exact noneSome e
  | _ => exact noneSome e
theorem inF_spec {h : Heap} (r' : Rep P h w' v') : ∀ {ws : List Value} {xs : List V} {b : Bool}, inF v' xs = some b → Reps P h ws xs →
    ws.any (fun y => eqVal y w') = b ∧ ∀ y ∈ ws, SeqAt.EqAt A s y w' (eqVal y w')
  | _, _, b, e, .nil => by simp [inF] at e; subst e; simp
  | y :: ws, x :: xs, b, e, .cons hr hrs => by
    simp only [inF] at e
    cases e1 : eqF x v' with
    | none => rw [e1] at e; cases e
    | some b1 =>
      cases e2 : inF v' xs with
      | none => rw [e1, e2] at e; cases e
      | some b2 =>
        rw [e1, e2] at e; cases e
        obtain ⟨i1, i2⟩ := inF_spec r' e2 hrs
        have hv := eqVal_of e1 hr r'
        refine ⟨by simp [hv, i1], fun z hz => ?_⟩
        rcases List.mem_cons.mp hz with rfl | hz
        · rw [hv]; exact eqF_at e1 hr r'
        · exact i2 z hz

theorem snd_in (W : Wd P H s) (r : Rep P s.heap w v) (r' : Rep P s.heap w' v') (q : sem2 P d .inn v v' Q H) :
    wpAny (model P.prog P.w) A (compareOp .In w w') (Post P H s.heap Q) E s := by
  induction w', v', r' using Rep.elim with
  | lst a =>
    obtain ⟨xs, b, e, hb, q⟩ : SInL Q H v a := by cases v <;> exact q
    obtain ⟨ws, hl, hr, _⟩ := isList_of W e
    obtain ⟨h1, h2⟩ := inF_spec (A := A.in1) (s := s) r hb hr
    refine SeqAt.in_listAt (fun y => eqVal y w) hl (fun y hy => h2 y (by simpa using hy)) ?_
    rw [List.any_toArray, h1]; exact postHere' W (.bool _) q
  | @tup a ws xs ht hr =>
    obtain ⟨b, hb, q⟩ : ∃ b, inF v xs = some b ∧ Q (.bool b) H := by cases v <;> exact q
    obtain ⟨h1, h2⟩ := inF_spec (A := A.in1) (s := s) r hb hr
    refine SeqAt.in_tupleAt (fun y => eqVal y w) ht (fun y hy => h2 y (by simpa using hy)) ?_
    rw [List.any_toArray, h1]; exact postHere' W (.bool _) q
  | rng x =>
    induction w, v, r using Rep.elim with
    | int i t => exact in_range x (postHere' W (.bool _) q)
    | _ => exact False.elim q
  | _ => exact False.elim (by cases v <;> exact q)
theorem snd_notIn (W : Wd P H s) (r : Rep P s.heap w v) (r' : Rep P s.heap w' v') (q : sem2 P d .notIn v v' Q H) :
    wpAny (model P.prog P.w) A (compareOp .NotIn w w') (Post P H s.heap Q) E s := by
  induction w', v', r' using Rep.elim with
  | lst a =>
    obtain ⟨xs, b, e, hb, q⟩ : SNotInL Q H v a := by cases v <;> exact q
    obtain ⟨ws, hl, hr, _⟩ := isList_of W e
    obtain ⟨h1, h2⟩ := inF_spec (A := A.in1) (s := s) r hb hr
    refine SeqAt.notIn_listAt (fun y => eqVal y w) hl (fun y hy => h2 y (by simpa using hy)) ?_
    rw [List.any_toArray, h1]; exact postHere' W (.bool _) q
  | rng x =>
    induction w, v, r using Rep.elim with
    | int i t => exact notIn_range x (postHere' W (.bool _) q)
    | _ => exact False.elim q
  | _ => exact False.elim (by cases v <;> exact q)

theorem Rep.notNone {h : Heap} (r : Rep P h w v) (hv : v ≠ .none) : w ≠ .none := by
  rintro rfl; cases r; exact hv rfl
theorem Rep.plainIs {h : Heap} (r : Rep P h w v) : PySem.plainIs w .none = true := by cases r <;> rfl

theorem snd_is (W : Wd P H s) (r : Rep P s.heap w v) (r' : Rep P s.heap w' v') (q : sem2 P d .is v v' Q H) :
    wpAny (model P.prog P.w) A (compareOp .Is w w') (Post P H s.heap Q) E s := by
  induction w', v', r' using Rep.elim with
  | none =>
    by_cases hv : v = .none
    · subst hv; cases r; exact wpAny_is_self rfl (postHere' W (.bool _) q)
    · have q : Q (.bool false) H := by cases v <;> first | exact q | exact absurd rfl hv
      exact wpAny_is_other r.plainIs (r.notNone hv) (postHere' W (.bool _) q)
  | _ => exact False.elim (by cases v <;> exact q)
theorem snd_isNot (W : Wd P H s) (r : Rep P s.heap w v) (r' : Rep P s.heap w' v') (q : sem2 P d .isNot v v' Q H) :
    wpAny (model P.prog P.w) A (compareOp .IsNot w w') (Post P H s.heap Q) E s := by
  exact False.elim q
theorem snd_cmp {o : Op2} {op : CmpOp} (ho : cmp2 o = some op) (R : Room P d A H s.heap) (W : Wd P H s) (r : Rep P s.heap w v) (r' : Rep P s.heap w' v') (q : sem2 P d o v v' Q H) :
    wpAny (model P.prog P.w) A (compareOp op w w') (Post P H s.heap Q) E s := by
  cases o <;> first | exact noneAny ho | cases Option.some.inj ho
  · exact snd_eq R W r r' q
  · exact snd_ne R W r r' q
  · induction w, v, r using Rep.elim with
    | int i t =>
      induction w', v', r' using Rep.elim with
      | int j u => exact PyProof.Rows.lt_int (postHere' W (.bool _) q)
      | _ => exact False.elim q
    | _ => exact False.elim q
  · induction w, v, r using Rep.elim with
    | int i t =>
      induction w', v', r' using Rep.elim with
      | int j u => exact PyProof.Rows.le_int (postHere' W (.bool _) q)
      | _ => exact False.elim q
    | _ => exact False.elim q
  · induction w, v, r using Rep.elim with
    | int i t =>
      induction w', v', r' using Rep.elim with
      | int j u => exact PyProof.Rows.gt_int (postHere' W (.bool _) q)
      | _ => exact False.elim q
    | _ => exact False.elim q
  · induction w, v, r using Rep.elim with
    | int i t =>
      induction w', v', r' using Rep.elim with
      | int j u => exact PyProof.Rows.ge_int (postHere' W (.bool _) q)
      | _ => exact False.elim q
    | _ => exact False.elim q
  · exact snd_is W r r' q
  · exact snd_isNot W r r' q
  · exact snd_in W r r' q
  · exact snd_notIn W r r' q

theorem pairs_get {h : Heap} {i : Int} (ws : List (Int × Value)) : ∀ {kvs : List (Int × V)}, ws.map (·.1) = kvs.map (·.1) → Reps P h (ws.map (·.2)) (kvs.map (·.2)) →
    (∀ v, getD kvs i = some v → ∃ w, valueAt ws i = some w ∧ Rep P h w v) ∧ (getD kvs i = none → valueAt ws i = none) := by
  induction ws with
  | nil =>
    intro kvs e r
    cases kvs with
    | nil => exact ⟨fun zz e => (nomatch e), fun zz => rfl⟩
    | cons _ _ => cases e
  | cons p ws ih =>
    intro kvs e r
    cases kvs with
    | nil => cases e
    | cons q kvs =>
      obtain ⟨e1, e2⟩ := List.cons.inj e
      obtain ⟨w, ws', ew, hr, hrs⟩ := r.inv
      obtain ⟨rfl, rfl⟩ := List.cons.inj ew
      have e1 : p.1 = q.1 := e1
      have ih := ih e2 hrs
      unfold getD valueAt at ih ⊢
      rw [List.find?_cons, List.find?_cons, e1]
      cases decide (q.1 = i) with
      | true => exact ⟨fun v e => by cases Option.some.inj e; exact ⟨_, rfl, hr⟩, fun e => nomatch e⟩
      | false => exact ih
theorem dict_ne {a : Addr} {c : Cell} (F : Facts P) (W : Wd P H s) (e : H a = some c) : (a == sysModules) = false := by
  obtain ⟨o, eo⟩ := F.sm
  have := W.lo _ _ eo
  refine beq_eq_false_iff_ne.mpr ?_
  rintro rfl
  rw [e] at this; cases this

theorem snd_item {value slice : Expr} (F : Facts P) (W : Wd P H s) (r : Rep P s.heap w v) (r' : Rep P s.heap w' v') (q : sem2 P d .item v v' Q H)
    (hs : ∀ a b : Value, subscripted slice false a b = operate [a, b] (getItem a b)) :
    wpAny (model P.prog P.w) A (subscriptTail value slice w w') (Post P H s.heap Q) E s := by
  induction w, v, r using Rep.elim with
  | lst a =>
    induction w', v', r' using Rep.elim with
    | int i u =>
      obtain ⟨xs, k, y, e, hk, hy, q⟩ := q
      obtain ⟨ws, hl, hr, hz⟩ := isList_of W e
      obtain ⟨wy, ey, ry⟩ := hr.get hy
      have hlen := hr.length
      have hz' := Lim_fit hz
      by_cases h0 : 0 ≤ i
      · simp only [idx, h0, if_true] at hk
        split at hk <;> cases hk
        rename_i hlt
        exact tail_any hl.typeIs slot_list_getitem.lookup (wpAny_getItem_list hl h0 (by omega) (by simpa using ey) (postHere' W ry q)) (hs _ _)
      · simp only [idx, h0, if_false] at hk
        split at hk <;> cases hk
        rename_i hge
        exact tail_any hl.typeIs slot_list_getitem.lookup (wpAny_getItem_list_neg hl (by omega) (by rw [List.size_toArray, hlen]; omega) (by omega) (by rw [List.size_toArray, hlen]; simpa using ey) (postHere' W ry q)) (hs _ _)
    | _ => exact False.elim q
  | @tup a ws xs ht hr =>
    induction w', v', r' using Rep.elim with
    | int i u =>
      obtain ⟨k, y, hk, hy, hz, q⟩ := q
      obtain ⟨wy, ey, ry⟩ := hr.get hy
      have hlen := hr.length
      have hz' := Lim_fit hz
      have hb : -(xs.length : Int) ≤ i ∧ i < xs.length := by
        unfold idx at hk
        split at hk
        · split at hk
          · omega
          · cases hk
        · split at hk
          · omega
          · cases hk
      rw [idx_eq] at hk
      exact tail_any ht.typeIs slot_tuple_getitem.lookup (getItem_tuple ht (by omega) (by omega) (by rw [List.size_toArray, hlen]; exact hk) (by simpa using ey) (postHere' W ry q)) (hs _ _)
    | _ => exact False.elim q
  | scr =>
    induction w', v', r' using Rep.elim with
    | int i u =>
      obtain ⟨n, h0, hn, q⟩ := q
      obtain ⟨ws, hl, hi, hz⟩ := F.scr
      have hl' : s.heap.IsList P.scr ws.toArray := by obtain ⟨o, e, x⟩ := hl; exact ⟨o, W.base _ _ e, x⟩
      obtain ⟨wy, ey, ry⟩ := (repsInts (P := P) (h := s.heap) hi).get (i := i.toNat) (v := .int n) (by simp [hn])
      have hlt : i.toNat < ws.length := (List.getElem?_eq_some_iff.mp ey).1
      have := Lim_fit hz
      exact tail_any hl'.typeIs slot_list_getitem.lookup (wpAny_getItem_list hl' h0 (by omega) (by simpa using ey) (postHere' W ry q)) (hs _ _)
    | _ => exact False.elim q
  | dct a =>
    induction w', v', r' using Rep.elim with
    | int i u =>
      obtain ⟨kvs, ep, y, e, hy, q⟩ := q
      obtain ⟨ws, hd, h1, h2, _⟩ := W.hs a _ e
      obtain ⟨wy, ey, ry⟩ := (pairs_get (i := i) _ h1 h2).1 y hy
      have hm := hd.dictOf.mapOf
      exact tail_any hd.dictOf.typeIs slot_dict_getitem.lookup (wpAny_getItem_of (intKind_is P.prog P.w i u) hm ey (postHere W ry q _)) (hs _ _)
    | _ => exact False.elim q
  | _ => exact False.elim q

theorem eraseIdx_arr (ws : List Value) (k : Nat) : ws.toArray.eraseIdxIfInBounds k = (ws.eraseIdx k).toArray := by
  apply Array.toList_inj.mp
  simp [Array.toList_eraseIdxIfInBounds]

theorem upd_plain {a : Addr} {ws us : List Value} {n : Nat} (f : Array Value → Array Value) (ho : s.heap.get? a = some { cls := .type "list", data := .seq ws.toArray n }) (hf : f ws.toArray = us.toArray) :
    (s.heap.update a (Obj.mapSeq f)).PlainList a us.toArray := by
  refine ⟨if us.toArray.size == ws.toArray.size then n else n + 1, ?_⟩
  rw [Heap.get?_update_self _ ho (by simp only [Obj.mapSeq]; rfl)]
  simp only [Obj.mapSeq, hf]

noncomputable def methId : Op2 → String
  | .append => "list.append" | .remove => "list.remove" | .pop => "list.pop" | .extend => "list.extend" | _ => "dict.get"
theorem meth_slot {o : Op2} {g : String} (ho : meth2 o = some g) : (o = .dget ∧ Slot "dict" (Str.ofString g) (methId o) ∧ typeOf (.builtin (methId o)) = pure (.type "method_descriptor")) ∨
    (o ≠ .dget ∧ Slot "list" (Str.ofString g) (methId o) ∧ typeOf (.builtin (methId o)) = pure (.type "method_descriptor")) := by
  cases o <;> first | exact noneAny ho | cases Option.some.inj ho
  · exact .inr ⟨by simp, PySem.F.slot_list_append, PySem.F.type_list_append⟩
  · exact .inr ⟨by simp, PySem.F.slot_list_remove, PySem.F.type_list_remove⟩
  · exact .inr ⟨by simp, PySem.F.slot_list_pop, PySem.F.type_list_pop⟩
  · exact .inr ⟨by simp, PySem.F.slot_list_extend, PySem.F.type_list_extend⟩
  · exact .inl ⟨rfl, PySem.F.slot_dict_get, PySem.F.type_dict_get⟩

theorem snd_meth {o : Op2} {g : String} (ho : meth2 o = some g) (F : Facts P) (W : Wd P H s) (r : Rep P s.heap w v) (r' : Rep P s.heap w' v') (q : sem2 P d o v v' Q H) :
    wpAny (model P.prog P.w) A (call (.builtin (methId o)) [w, w']) (Post P H s.heap Q) E s := by
  cases o <;> first | exact noneAny ho | cases Option.some.inj ho
  · -- append
    induction w, v, r using Rep.elim with
    | lst a =>
      obtain ⟨xs, e, hz', q⟩ : SAppend Q H a v' := by cases v' <;> exact q
      obtain ⟨ws, hl, hr, hz⟩ := plain_of W e
      refine wpAny_list_append_plain hl (fun h' hl' hs' => ?_) (by rw [List.size_toArray, hr.length]; exact Lim_size hz)
      refine postTurn (t := s.toks) (ws := ws ++ [w']) W e hs' (by simpa using hl') (hr.append (.cons r' .nil)) (by simpa using hz') .none q
    | _ => exact False.elim (by cases v' <;> exact q)
  · -- remove
    induction w, v, r using Rep.elim with
    | lst a =>
      induction w', v', r' using Rep.elim with
      | int i u =>
        obtain ⟨ns, e, hi, q⟩ := q
        obtain ⟨ws, ⟨n, ho⟩, hr, hz⟩ := plain_of W e
        have hI := intsAre hr
        have hlen : ws.length = ns.length := hI.length
        have hj : ns.idxOf i < ns.length := List.idxOf_lt_length_iff.mpr hi
        have hat : ∀ m (hm : m < ws.length), ∃ t, ws[m] = .int (ns[m]'(by omega)) t := fun m hm => by
          obtain ⟨wx, ex, rx⟩ := hr.get (i := m) (v := .int (ns[m]'(by omega))) (by rw [List.getElem?_map, List.getElem?_eq_getElem (by omega)]; rfl)
          cases rx with
          | int _ t =>
            refine ⟨t, ?_⟩
            have := List.getElem?_eq_getElem hm
            rw [ex] at this; exact (Option.some.inj this).symm
        refine call_meets PySem.F.slot_list_remove ⟨_, ho, rfl⟩ PySem.F.entry_list_remove (PySem.F.args_list_remove_2 _ _)
          (MeetsSeq.list_remove a ws.toArray n (.int i u) (fun y => eqVal y (.int i u)) (fun y hy => ?_) (ns.idxOf i) (by rw [List.size_toArray, hlen]; exact hj) ?_ (fun m hm hlt => ?_)
            (by rw [List.size_toArray, hr.length]; exact Lim_size hz)) ⟨ho, ?_⟩
        · obtain ⟨m, hm, rfl⟩ := List.mem_iff_getElem.mp (show y ∈ ws by simpa using hy)
          obtain ⟨t, et⟩ := hat m hm
          rw [et]; exact MeetsSeq.EqGives.int _ _ _ _
        · obtain ⟨t, et⟩ := hat (ns.idxOf i) (by omega)
          rw [List.getElem_toArray, et]
          show (ns[ns.idxOf i] == i) = true
          rw [List.getElem_idxOf hj, beq_self_eq_true]
        · obtain ⟨t, et⟩ := hat m (by simpa using hm)
          rw [List.getElem_toArray, et]
          have := List.not_of_lt_findIdx (p := fun x => x == i) (xs := ns) hlt
          exact this
        · refine postTurn (t := s.toks) (ws := ws.eraseIdx (ns.idxOf i)) W e (Heap.SameBut.update ..) (upd_plain _ ho (eraseIdx_arr _ _)) ?_ ?_ .none q
          · rw [List.erase_eq_eraseIdx_of_idxOf rfl]
            refine repsInts ?_
            have : Reps P s.heap (ws.eraseIdx (ns.idxOf i)) ((ns.map V.int).eraseIdx (ns.idxOf i)) := hr.eraseIdx _
            have e2 : (ns.map V.int).eraseIdx (ns.idxOf i) = (ns.eraseIdx (ns.idxOf i)).map V.int := by
              apply List.ext_getElem?
              intro k
              simp only [List.getElem?_eraseIdx, List.getElem?_map]
              split <;> rfl
            rw [e2] at this
            exact intsAre this
          · rw [List.length_map]
            refine Nat.le_trans List.length_erase_le ?_
            simpa using hz
      | _ => exact False.elim q
    | _ => exact False.elim (by cases v' <;> exact q)
  · -- pop
    induction w, v, r using Rep.elim with
    | lst a =>
      induction w', v', r' using Rep.elim with
      | int i u =>
        obtain ⟨xs, x, e, h0, hx, q⟩ := q
        obtain ⟨ws, hl, hr, hz⟩ := plain_of W e
        obtain ⟨n, ho⟩ := hl
        obtain ⟨wx, ex, rx⟩ := hr.get hx
        have hlt : i.toNat < ws.length := (List.getElem?_eq_some_iff.mp ex).1
        have hlen := hr.length
        have hz2 := Lim_fit hz
        refine call_meets PySem.F.slot_list_pop ⟨_, ho, rfl⟩ PySem.F.entry_list_pop (PySem.F.args_list_pop_2 _ _)
          (PySem.MeetsSeq.list_pop_at a ws.toArray n i u i.toNat wx (by simp [Builtin.List.listFitsIndex]; omega) (by rw [← idx_eq]; simp only [idx, h0, if_true, List.size_toArray]; rw [if_pos (by omega)]) (by simpa using ex)
            (by rw [List.size_toArray, hlen]; exact Lim_size hz)) ⟨ho, ?_⟩
        refine postTurn (t := s.toks) (ws := ws.eraseIdx i.toNat) W e (Heap.SameBut.update ..) (upd_plain _ ho (eraseIdx_arr _ _)) (hr.eraseIdx _) ?_ rx q
        exact Nat.le_trans (List.length_eraseIdx_le _ _) hz
      | _ => exact False.elim q
    | _ => exact False.elim q
  · -- extend
    induction w, v, r using Rep.elim with
    | lst a =>
      induction w', v', r' using Rep.elim with
      | lst b =>
        obtain ⟨xs, ys, hab, e1, e2, hz', q⟩ := q
        obtain ⟨ws, ⟨n, ho⟩, hr, hz⟩ := plain_of W e1
        obtain ⟨us, ⟨n', ho'⟩, hr', hz2⟩ := plain_of W e2
        have hsz : ws.toArray.size + us.toArray.size ≤ sizeLine := by
          rw [List.size_toArray, List.size_toArray, hr.length, hr'.length]; exact Lim_size hz'
        refine call_meets PySem.F.slot_list_extend ⟨_, ho, rfl⟩ PySem.F.entry_list_extend (PySem.F.args_list_extend_2 _ _) (AutoSeq1.list_extend_list_list_0 a ws.toArray n b us.toArray n' (extend_door hsz) (Nat.le_trans (Nat.le_add_right _ _) hsz)) ⟨ho, ho', ?_⟩
        refine postTurn (t := s.toks) (ws := ws ++ us) W e1 (Heap.SameBut.update ..) (upd_plain _ ho (by simp)) (hr.append hr') (by simpa using hz') .none q
      | _ => exact False.elim q
    | _ => exact False.elim q
  · -- get
    induction w, v, r using Rep.elim with
    | dct a =>
      induction w', v', r' using Rep.elim with
      | int i u =>
        obtain ⟨kvs, ep, e, q⟩ := q
        obtain ⟨ws, hd, h1, h2, _⟩ := W.hs a _ e
        have hm := hd.dictOf.mapOf
        refine call_meetsIn PySem.F.slot_dict_get hd.dictOf.typeIs PySem.F.entry_dict_get (PySem.F.args_dict_get_2 _ _) (meets_dict_get (intKind P.prog P.w) a (intKind_is P.prog P.w i u) (dict_ne F W e)) ⟨_, hm, ?_⟩
        have pg := pairs_get (i := i) _ h1 h2
        cases hg : getD kvs i with
        | none =>
          rw [pg.2 hg]; rw [hg] at q
          exact postHere W .none q _
        | some y =>
          obtain ⟨wy, ey, ry⟩ := pg.1 y hg
          rw [ey]; rw [hg] at q
          exact postHere W ry q _
      | _ => exact False.elim q
    | _ => exact False.elim (by cases v' <;> exact q)
end
end
end Mine

namespace Mine
section
open PySem PySem.Calls PyProof.Rows
section
variable {prog : Program} {w : World} {A : Around} {E : Value → Shared → Prop} {s : Shared}

theorem tree_kw {id : String} {b : Builtin} {args : List Value} {kw : List (Str × Value)} {Q : Value → Shared → Prop} (hk : builtinKind id = none) (hp : plainId id = true)
    (hb : entryFor table id = some b) (ha : argsOk id ⟨args, kw⟩)
    (hc : wpAny (model prog w) A.in1 (b ⟨args, kw⟩) (fun fin s' => match fin with
      | .done f => (match (Except.ok f : Result) with | .ok (.ret v) => Q v s' | .ok _ => False | .error e => E e s')
      | .again c' => c'.quiet = true ∧ codeAny (model prog w) A c' (fun r s' => match r with | .ok (.ret v) => Q v s' | .ok _ => False | .error e => E e s') s') E s) :
    wpAny (model prog w) A (call (.builtin id) args kw) Q E s := by
  refine wpAny_call (codeAny_call_builtin hp hb ?_)
  simp only [checkBuiltinCall, hk]
  cases hsig : Manifest.signature? id with
  | none => exact wpAny_pure hc
  | some sig =>
    have h2 : Bind.checkArgs id sig ⟨args, kw⟩ = pure () := by simpa only [argsOk, hsig] using ha
    simp only [h2]
    exact wpAny_pure hc

theorem args_max_default (a v : Value) : argsOk "max" ⟨[a], [(Str.ofString "default", v)]⟩ := by unfold argsOk; kernel_rfl
end

section
variable {prog : Program} {w : World} {A : Around} {R : Result → Shared → Prop} {I l S : Addr} {xs : Array (Int × Tok)} {kw : List (Str × Value)}

theorem loopName : (toString "max" ++ toString ".loop" : String) = "max.loop" := by decide

theorem maxD_loop (hh : A.handled = none) (hlI : l ≠ I) (hSI : S ≠ I) (hSl : S ≠ l) :
    ∀ (k j : Nat) (s : Shared) (i : Int) (t : Tok) (c : Nat), xs.size - (j + 1) = k → j + 1 ≤ xs.size → s.heap.IsListIter I l (j + 1) → s.heap.IsList l (intItems xs) →
    (∃ m, m ≤ j ∧ numAt xs m = i) → (∀ m, m ≤ j → numAt xs m ≤ i) →
    s.heap.get? S = some { cls := .type "list", dict := none, data := .seq #[.int i t, .int i t] c, slots := #[] } →
    (∀ i t h' tk, (∃ m, m < xs.size ∧ numAt xs m = i) → (∀ m, m < xs.size → numAt xs m ≤ i) → (∀ b o, b ≠ I → b ≠ S → s.heap.get? b = some o → h'.get? b = some o) → R (.ok (.ret (.int i t))) { s with heap := h', toks := tk }) →
    codeAny (model prog w) A (.builtin "max.loop" ⟨[.ref I, .none, .ref S], kw⟩) R s := by
  have hsz : (intItems xs).size = xs.size := by simp [intItems]
  have Wk := Walks.list (prog := prog) (w := w) (A := A.in1) hh I l hlI (intItems xs)
  intro k
  induction k with
  | zero =>
    intro j s i t c hk hj hit hl hex hmax hS hR
    have hin : j + 1 = xs.size := by omega
    refine codeAny_builtin F.entry_max_loop ?_
    rw [Around.under_plainId F.plain_max_loop _]
    show wpAny _ A.in1 (seqItems? (.ref S) >>= _) _ _ s
    refine wpAny_bind (wpAny_seqItems hS rfl ?_)
    show wpAny _ A.in1 (tryCatch (pyNext (.ref I)) _ >>= _) _ _ s
    refine wpAny_bind (wpAny_tryCatch (Wk.done s _ _ (by rw [hsz, ← hin]; exact ⟨hit, hl⟩) fun h' tk hk' => ?_))
    have hS' := hk' S _ (by simpa using hSI) hS
    show wpAny _ A.in1 (updateSeq S (fun zz => #[]) >>= _) _ _ _
    refine wpAny_bind ?_
    refine wpAny_updateSeq hS' rfl (wpAny_bind (wpAny_letGo (wpAny_pure ?_)))
    obtain ⟨m, hm, e⟩ := hex
    exact hR i t _ tk ⟨m, by omega, e⟩ (fun m hm => hmax m (by omega)) fun b o hbI hbS e => (Heap.get?_update_other _ _ (Ne.symm hbS)).trans (hk' b o (by simpa using hbI) e)
  | succ k ih =>
    intro j s i t c hk hj hit hl hex hmax hS hR
    have hlt : j + 1 < xs.size := by omega
    refine codeAny_builtin F.entry_max_loop ?_
    rw [Around.under_plainId F.plain_max_loop _]
    show wpAny _ A.in1 (seqItems? (.ref S) >>= _) _ _ s
    refine wpAny_bind (wpAny_seqItems hS rfl ?_)
    show wpAny _ A.in1 (tryCatch (pyNext (.ref I)) _ >>= _) _ _ s
    refine wpAny_bind (wpAny_tryCatch (Wk.item (j + 1) s _ _ (by rw [hsz]; exact hlt) ⟨hit, hl⟩ fun v h' tk hP hst' hk' => ?_))
    have hS' := hk' S _ (by simpa using hSI) hS
    obtain ⟨u, rfl⟩ := intItems_at hP
    show wpAny _ A.in1 (tryCatch (holding [_, _] (richCompare .Gt (.int (numAt xs (j + 1)) u) (.int i t) >>= _)) _ >>= _) _ _ _
    refine wpAny_bind (wpAny_tryCatch (wpAny_holding (wpAny_bind (m := richCompare .Gt (.int (numAt xs (j + 1)) u) (.int i t)) (PyProof.Rows.gt_int ?_))))
    refine wpAny_bind (wpAny_holding (wpAny_truthy_bool ?_))
    refine wpAny_bind (wpAny_letGo (wpAny_pure ?_))
    by_cases hb : i < numAt xs (j + 1)
    · simp only [hb, decide_true, if_true]
      refine wpAny_bind ?_
      refine wpAny_updateSeq hS' rfl (wpAny_bind (wpAny_letGo ?_))
      rw [loopName]
      have old : ∀ b o, b ≠ S → h'.get? b = some o → (h'.update S (Obj.mapSeq fun zz => #[Value.int (numAt xs (j + 1)) u, Value.int (numAt xs (j + 1)) u])).get? b = some o := fun b o hbS e => (Heap.get?_update_other _ _ (Ne.symm hbS)).trans e
      refine wpAny_pure ⟨plainId_quiet F.plain_max_loop _, ih (j + 1) _ (numAt xs (j + 1)) u _ (by omega) hlt (hst'.1.at fun o e => old I o (Ne.symm hSI) e) (hst'.2.at fun o e => old l o (Ne.symm hSl) e)
        ⟨j + 1, Nat.le_refl _, rfl⟩ (fun m hm => ?_) (Heap.get?_update_self _ hS' rfl) fun i' t' h'' tk'' a1 a2 a3 => ?_⟩
      · rcases Nat.lt_or_ge j m with h | h
        · obtain rfl : m = j + 1 := by omega
          exact Int.le_refl _
        · have := hmax m h; omega
      · exact hR i' t' h'' tk'' a1 a2 fun b o hbI hbS e => a3 b o hbI hbS (old b o hbS (hk' b o (by simpa using hbI) e))
    · simp only [hb, decide_false, Bool.false_eq_true, if_false]
      refine wpAny_bind (wpAny_letGo ?_)
      rw [loopName]
      refine wpAny_pure ⟨plainId_quiet F.plain_max_loop _, ih (j + 1) _ i t c (by omega) hlt hst'.1 hst'.2 (by obtain ⟨m, hm, e⟩ := hex; exact ⟨m, by omega, e⟩) (fun m hm => ?_) hS' fun i' t' h'' tk'' a1 a2 a3 => ?_⟩
      · rcases Nat.lt_or_ge j m with h | h
        · obtain rfl : m = j + 1 := by omega
          omega
        · exact hmax m h
      · exact hR i' t' h'' tk'' a1 a2 fun b o hbI hbS e => a3 b o hbI hbS (hk' b o (by simpa using hbI) e)
end

section
variable {prog : Program} {w : World} {A : Around} {E : Value → Shared → Prop} {s : Shared}
theorem call_maxD {l : Addr} {xs : Array (Int × Tok)} {dv : Value} {Q : Value → Shared → Prop} (hh : A.handled = none) (hl : s.heap.IsList l (intItems xs))
    (h0 : xs.size = 0 → ∀ h' tk, (∀ b o, s.heap.get? b = some o → h'.get? b = some o) → Q dv { s with heap := h', toks := tk })
    (h1 : ∀ i t h' tk, (∃ m, m < xs.size ∧ numAt xs m = i) → (∀ m, m < xs.size → numAt xs m ≤ i) → (∀ b o, s.heap.get? b = some o → h'.get? b = some o) → Q (.int i t) { s with heap := h', toks := tk }) :
    wpAny (model prog w) A (call (.builtin "max") [.ref l] [(Str.ofString "default", dv)]) Q E s := by
  have hsz : (intItems xs).size = xs.size := by simp [intItems]
  have hlt : l < s.heap.objs.size := by obtain ⟨_, e, _⟩ := hl; exact Heap.lt_size e
  refine tree_kw F.kind_max F.plain_max F.entry_max (args_max_default _ _) ?_
  show wpAny _ A.in1 (Builtin.Builtins.bindParams "max" ["key", "default"] 0 ⟨[], [(Str.ofString "default", dv)]⟩ >>= _) _ _ s
  refine wpAny_bind (wpAny_of_eq (show Builtin.Builtins.bindParams "max" ["key", "default"] 0 ⟨[], [(Str.ofString "default", dv)]⟩ = pure [none, some dv] from rfl) ?_)
  refine wpAny_bind (wpAny_pure ?_)
  refine wpAny_bind (wpAny_pyIter_list hl ?_)
  refine wpAny_bind (wpAny_newList ?_ (Nat.zero_le _))
  rw [loopName]
  generalize hI : s.heap.objs.size = I at *
  have hS : (s.heap.push { cls := .type "list_iterator", data := .fields #[.ref l, .int 0 0] }).objs.size = I + 1 := by rw [Heap.size_push, hI]
  have gI : ((s.heap.push { cls := .type "list_iterator", data := .fields #[.ref l, .int 0 0] }).push { cls := .type "list", data := .seq #[] }).IsListIter I l 0 :=
    ⟨_, Heap.get?_push_of_some _ (hI ▸ Heap.get?_push_size _ rfl), rfl, rfl⟩
  have gL : ((s.heap.push { cls := .type "list_iterator", data := .fields #[.ref l, .int 0 0] }).push { cls := .type "list", data := .seq #[] }).IsList l (intItems xs) := (hl.push _).push _
  have gS : ((s.heap.push { cls := .type "list_iterator", data := .fields #[.ref l, .int 0 0] }).push { cls := .type "list", data := .seq #[] }).get? (I + 1) = some { cls := .type "list", data := .seq #[] } := hS ▸ Heap.get?_push_size _ rfl
  have old : ∀ b o, s.heap.get? b = some o → ((s.heap.push { cls := .type "list_iterator", data := .fields #[.ref l, .int 0 0] }).push { cls := .type "list", data := .seq #[] }).get? b = some o := fun b o e => Heap.get?_push_of_some _ (Heap.get?_push_of_some _ e)
  have ltb : ∀ b o, s.heap.get? b = some o → b < I := fun b o e => hI ▸ Heap.lt_size e
  have Wk := Walks.list (prog := prog) (w := w) (A := A.in1) hh I l (Nat.ne_of_lt hlt) (intItems xs)
  rw [hS]
  generalize ((s.heap.push { cls := .type "list_iterator", data := .fields #[.ref l, .int 0 0] }).push { cls := .type "list", data := .seq #[] }) = H2 at gI gL gS old ⊢
  refine wpAny_pure ⟨plainId_quiet F.plain_max_loop _, ?_⟩
  refine codeAny_builtin F.entry_max_loop ?_
  rw [Around.under_plainId F.plain_max_loop _]
  show wpAny _ A.in1 (seqItems? (.ref (I + 1)) >>= _) _ _ _
  refine wpAny_bind (wpAny_seqItems gS rfl ?_)
  show wpAny _ A.in1 (tryCatch (pyNext (.ref I)) _ >>= _) _ _ _
  rcases Nat.eq_zero_or_pos xs.size with hz | hz
  · refine wpAny_bind (wpAny_tryCatch (Wk.done _ _ _ (by rw [hsz, hz]; exact ⟨gI, gL⟩) fun h' tk hk' => ?_))
    refine wpAny_bind (wpAny_rule (wpAny_pure ?_))
    exact h0 hz h' tk fun b o e => hk' b o (by simpa using Nat.ne_of_lt (ltb b o e)) (old b o e)
  · refine wpAny_bind (wpAny_tryCatch (Wk.item 0 _ _ _ (by rw [hsz]; exact hz) ⟨gI, gL⟩ fun v h' tk hP hst' hk' => ?_))
    obtain ⟨u, rfl⟩ := intItems_at hP
    have hS' := hk' (I + 1) _ (by simp) gS
    show wpAny _ A.in1 (updateSeq (I + 1) (fun zz => #[_, _]) >>= _) _ _ _
    refine wpAny_bind ?_
    refine wpAny_updateSeq hS' rfl ?_
    rw [loopName]
    have old2 : ∀ b o, b ≠ I + 1 → h'.get? b = some o → (h'.update (I + 1) (Obj.mapSeq fun zz => #[Value.int (numAt xs 0) u, Value.int (numAt xs 0) u])).get? b = some o := fun b o hbS e => (Heap.get?_update_other _ _ (Ne.symm hbS)).trans e
    have hne1 : I + 1 ≠ I := Nat.succ_ne_self I
    have hne2 : I + 1 ≠ l := Nat.ne_of_gt (Nat.lt_succ_of_lt hlt)
    refine wpAny_pure ⟨plainId_quiet F.plain_max_loop _, maxD_loop (xs := xs) hh (Nat.ne_of_lt hlt) hne1 hne2 _ 0 _ (numAt xs 0) u _ rfl hz (hst'.1.at fun o e => old2 I o hne1.symm e) (hst'.2.at fun o e => old2 l o hne2.symm e)
      ⟨0, Nat.le_refl _, rfl⟩ (fun m hm => (Nat.le_zero.mp hm) ▸ Int.le_refl _) (Heap.get?_update_self _ hS' rfl) fun i t h'' tk'' a1 a2 a3 => ?_⟩
    refine h1 i t h'' tk'' a1 a2 fun b o e => a3 b o (Nat.ne_of_lt (ltb b o e)) (Nat.ne_of_lt (Nat.lt_succ_of_lt (ltb b o e))) (old2 b o (Nat.ne_of_lt (Nat.lt_succ_of_lt (ltb b o e))) (hk' b o (by simpa using Nat.ne_of_lt (ltb b o e)) (old b o e)))
end

section
variable {P : Cx} {d : Nat} {A : Around} {E : Value → Shared → Prop} {s : Shared} {H : AHeap} {Q : V → AHeap → Prop} {w w' : Value} {v v' : V}

theorem numAt_mem {xs : Array (Int × Tok)} {k : Nat} (hk : k < xs.size) : numAt xs k ∈ xs.toList.map (·.1) := by
  simp only [numAt, Array.getElem?_eq_getElem hk, Option.map_some, Option.getD_some]
  exact List.mem_map.mpr ⟨xs[k], by simp, rfl⟩
theorem numAt_of_mem {xs : Array (Int × Tok)} {x : Int} (hx : x ∈ xs.toList.map (·.1)) : ∃ k, k < xs.size ∧ numAt xs k = x := by
  obtain ⟨p, hp, rfl⟩ := List.mem_map.mp hx
  obtain ⟨k, hk, rfl⟩ := List.mem_iff_getElem.mp hp
  have hk' : k < xs.size := by simpa using hk
  exact ⟨k, hk', by simp [numAt, hk']⟩

theorem snd_maxD (R : Room P d A H s.heap) (W : Wd P H s) (r : Rep P s.heap w v) (r' : Rep P s.heap w' v') (q : sem2 P d .maxD v v' Q H) :
    wpAny (model P.prog P.w) A (call (.builtin "max") [w] [(Str.ofString "default", w')]) (Post P H s.heap Q) E s := by
  induction w, v, r using Rep.elim with
  | lst a =>
    induction w', v', r' using Rep.elim with
    | int i t =>
      obtain ⟨hd, ns, m0, e, q0', q1', q⟩ := q
      have q0 : ns = [] → Q (.int i) H := fun h => by rw [← q0' h]; exact q
      have q1 : ∀ m, m ∈ ns → (∀ x ∈ ns, x ≤ m) → Q (.int m) H := fun m h1 h2 => by
        have hm := q1' (fun h => by rw [h] at h1; simp at h1)
        have : m0 = m := Int.le_antisymm (h2 _ hm.1) (hm.2 _ h1)
        rw [← this]; exact q
      obtain ⟨ws, hl, hr, hz⟩ := isList_of W e
      obtain ⟨xs, e1, e2⟩ := intsItems (intsAre hr)
      rw [e1] at hl
      refine call_maxD (R.hd hd) hl (fun h0 h' tk hk => postGrow W hk (.int _ _) (q0 ?_)) (fun m u h' tk h1 h2 hk => postGrow W hk (.int _ _) (q1 m ?_ ?_))
      · rw [← e2]; have : xs = #[] := Array.eq_empty_of_size_eq_zero h0; simp [this]
      · obtain ⟨k, hk, rfl⟩ := h1; rw [← e2]; exact numAt_mem hk
      · intro x hx; rw [← e2] at hx; obtain ⟨k, hk, rfl⟩ := numAt_of_mem hx; exact h2 k hk
    | _ => exact False.elim q
  | _ => exact False.elim (by cases v' <;> exact q)

theorem snd_lenSet (R : Room P d A H s.heap) (W : Wd P H s) (r : Rep P s.heap w v) (q : sem1 P d .lenSet v Q H) :
    wpAny (model P.prog P.w) A (call (.type "set") [w]) (fun x s1 => wpAny (model P.prog P.w) A (call (.builtin "len") [x]) (Post P H s.heap Q) E s1) E s := by
  exact False.elim q
theorem size_succ (h : Heap) : h.get? (h.objs.size + 1) = none := by
  cases e : h.get? (h.objs.size + 1) with
  | none => rfl
  | some o => exact absurd (Heap.lt_size e) (Nat.not_lt.mpr (Nat.le_succ _))

theorem slice_list {value slice : Expr} {a : Addr} {xs ys : List V} {ws us : List Value} {vl vu vs : Value} {lo hi st : Option Int} (W : Wd P H s) (e : H a = some (.list xs)) (hl : s.heap.PlainList a ws.toArray) (hz : ws.length ≤ sizeLine)
    (pl : IsPart vl lo) (pu : IsPart vu hi) (ps : IsPart vs st) (h0 : st ≠ some 0) (hp : slicePick ws.toArray lo hi st = us.toArray) (hr : Reps P s.heap us ys) (q : newL ys Q H)
    (hs : ∀ x y : Value, ∃ ops, subscripted slice false x y = operate ops (getItem x y)) :
    wpAny (model P.prog P.w) A (subscriptTail value slice (.ref a) (.ref s.heap.objs.size)) (Post P H s.heap Q) E { s with heap := s.heap.push { cls := .type "slice", data := .fields #[vl, vu, vs] } } := by
  obtain ⟨ops, hs⟩ := hs (.ref a) (.ref s.heap.objs.size)
  have hl1 : (s.heap.push { cls := .type "slice", data := .fields #[vl, vu, vs] }).IsList a ws.toArray := hl.isList.push _
  refine tail_any (s := { s with heap := s.heap.push { cls := .type "slice", data := .fields #[vl, vu, vs] } }) hl1.typeIs slot_list_getitem.lookup (wpAny_getItem_list_slice hl1 (Heap.IsSliceOf.new ..) pl pu ps h0 ?_ (by rw [List.size_toArray]; exact hz)) hs
  show Post P H s.heap Q (.ref (s.heap.push { cls := .type "slice", data := .fields #[vl, vu, vs] }).objs.size) _
  rw [Heap.size_push, hp]
  refine postNewL (xs := us) (t := s.toks) W q hr (fun b o e => Heap.get?_push_of_some _ (Heap.get?_push_of_some _ e)) (size_succ _) ⟨0, ?_⟩
  rw [← Heap.size_push s.heap { cls := .type "slice", data := .fields #[vl, vu, vs] }]
  exact Heap.get?_push_size _ rfl

theorem snd_sliceTo {value slice : Expr} (W : Wd P H s) (r : Rep P s.heap w v) (r' : Rep P s.heap w' v') (q : sem2 P d .sliceTo v v' Q H) (hs : ∀ x y : Value, ∃ ops, subscripted slice false x y = operate ops (getItem x y)) :
    wpAny (model P.prog P.w) A (subscriptTail value slice w (.ref s.heap.objs.size)) (Post P H s.heap Q) E { s with heap := s.heap.push { cls := .type "slice", data := .fields #[.none, w', .none] } } := by
  induction w, v, r using Rep.elim with
  | lst a =>
    induction w', v', r' using Rep.elim with
    | int i t =>
      obtain ⟨xs, e, h0, q⟩ := q
      obtain ⟨ws, hl, hr, hz⟩ := plain_of W e
      have hi : i = ((i.toNat : Nat) : Int) := by omega
      exact slice_list W e hl (by rw [hr.length]; exact Lim_size hz) .none (.int i t) .none (by simp) (by rw [hi, slicePick_upto']) (by simpa using hr.take i.toNat) q hs
    | _ => exact False.elim q
  | @tup a ws xs ht hr =>
    induction w', v', r' using Rep.elim with
    | int i t =>
      obtain ⟨⟨rfl, h3⟩, q⟩ := q
      match xs, h3 with
      | [v1, v2, v3], _ =>
        obtain ⟨w1, ws1, rfl, q1, hr1⟩ := hr.inv
        obtain ⟨w2, ws2, rfl, q2, hr2⟩ := hr1.inv
        obtain ⟨w3, ws3, rfl, q3, hr3⟩ := hr2.inv
        have e : ws3 = [] := hr3.inv
        subst e
        obtain ⟨ops, hs⟩ := hs (.ref a) (.ref s.heap.objs.size)
        have ht1 : IsTup (s.heap.push { cls := .type "slice", data := .fields #[.none, .int 2 t, .none] }) a #[w1, w2, w3] := ht.keeps fun zz zz e => Heap.get?_push_of_some _ e
        have hk : ∀ b o, s.heap.get? b = some o → ((s.heap.push { cls := .type "slice", data := .fields #[.none, .int 2 t, .none] }).push { cls := .type "tuple", data := .seq #[w1, w2] }).get? b = some o := fun b o e => Heap.get?_push_of_some _ (Heap.get?_push_of_some _ e)
        refine tail_any (s := { s with heap := s.heap.push { cls := .type "slice", data := .fields #[.none, .int 2 t, .none] } }) ht1.typeIs slot_tuple_getitem.lookup (slice_two ht1 (Heap.IsSliceOf.new ..) ?_) hs
        exact postGrow (t := s.toks) W hk (.tup (xs := [w1, w2]) ⟨_, Heap.get?_push_size _ rfl, rfl, 0, rfl⟩ (Reps.mono (.of_keeps hk) (.cons q1 (.cons q2 .nil)))) q
    | _ => exact False.elim q
  | _ => exact False.elim (by cases v' <;> exact q)
theorem snd_sliceFrom {value slice : Expr} (W : Wd P H s) (r : Rep P s.heap w v) (r' : Rep P s.heap w' v') (q : sem2 P d .sliceFrom v v' Q H) (hs : ∀ x y : Value, ∃ ops, subscripted slice false x y = operate ops (getItem x y)) :
    wpAny (model P.prog P.w) A (subscriptTail value slice w (.ref s.heap.objs.size)) (Post P H s.heap Q) E { s with heap := s.heap.push { cls := .type "slice", data := .fields #[w', .none, .none] } } := by
  induction w, v, r using Rep.elim with
  | lst a =>
    induction w', v', r' using Rep.elim with
    | int i t =>
      obtain ⟨xs, e, h0, q⟩ := q
      obtain ⟨ws, hl, hr, hz⟩ := plain_of W e
      have hi : i = ((i.toNat : Nat) : Int) := by omega
      exact slice_list W e hl (by rw [hr.length]; exact Lim_size hz) (.int i t) .none .none (by simp) (by rw [hi, slicePick_from']) (by simpa using hr.drop i.toNat) q hs
    | _ => exact False.elim q
  | _ => exact False.elim (by cases v' <;> exact q)
end
end
end Mine

namespace Mine
section
open PySem PySem.Calls PyProof.Rows
noncomputable def ItAt (H : AHeap) (h : Heap) (it : Addr) : V → Nat → Prop
  | .lst a, i => h.IsListIter it a i
  | .rng lo hi, i => IsRangeIter h it (lo + i) (hi.toNat - i) 1
  | .dct a, i => ∃ kvs ep, h.IsKeyIter it a i kvs.length ep ∧ H a = some (.dict kvs ep)
  | _, _ => False

section
variable {P : Cx} {d : Nat} {A : Around} {E : Value → Shared → Prop} {s : Shared} {H : AHeap} {w : Value} {v : V} {xs : List V}

theorem ItAt.fields {h : Heap} {it : Addr} {i : Nat} (x : ItAt H h it v i) : ∃ o vs, h.get? it = some o ∧ o.data = .fields vs := by
  cases v with
  | lst a => obtain ⟨o, e, _, d⟩ := x; exact ⟨o, _, e, d⟩
  | rng lo hi => exact ⟨_, _, x, rfl⟩
  | dct a => obtain ⟨_, _, ⟨o, e, _, d⟩, _⟩ := x; exact ⟨o, _, e, d⟩
  | _ => exact x.elim
theorem ItAt.dull {h : Heap} {it : Addr} {i : Nat} (x : ItAt H h it v i) {o : Obj} (e : h.get? it = some o) : Dull o := by
  cases v with
  | lst a => obtain ⟨o, e', c, _⟩ := x; rw [e] at e'; cases e'; exact .typ c (by decide) (by decide)
  | rng lo hi => have x : h.get? it = _ := x; rw [e] at x; cases x; exact .typ rfl (by decide) (by decide)
  | dct a => obtain ⟨_, _, ⟨o, e', c, _⟩, _⟩ := x; rw [e] at e'; cases e'; exact .typ c (by decide) (by decide)
  | _ => exact x.elim
theorem ItAt.nx {h : Heap} {it : Addr} {i : Nat} (x : ItAt H h it v i) {o : Obj} (e : h.get? it = some o) : ¬ XLike o := by
  cases v with
  | lst a => obtain ⟨o, e', c, _⟩ := x; rw [e] at e'; cases e'; exact XLike.notyp c (by decide)
  | rng lo hi => have x : h.get? it = _ := x; rw [e] at x; cases x; exact XLike.notyp rfl (by decide)
  | dct a => obtain ⟨_, _, ⟨o, e', c, _⟩, _⟩ := x; rw [e] at e'; cases e'; exact XLike.notyp c (by decide)
  | _ => exact x.elim
theorem ItAt.at {H' : AHeap} {h h' : Heap} {it : Addr} {i : Nat} (x : ItAt H h it v i) (hk : ∀ o, h.get? it = some o → h'.get? it = some o) (hi : items H v xs) (hi' : items H' v xs) (he : ∀ a, v = .dct a → H' a = H a) : ItAt H' h' it v i := by
  cases v with
  | lst a => obtain ⟨o, e, r⟩ := x; exact ⟨o, hk _ e, r⟩
  | rng lo hi => exact hk _ x
  | dct a => obtain ⟨kvs, ep, ⟨o, e, r⟩, eh⟩ := x; exact ⟨kvs, ep, ⟨o, hk _ e, r⟩, (he a rfl).trans eh⟩
  | _ => exact x.elim

theorem iterStart {Q : Value → Shared → Prop} (F : Facts P) (W : Wd P H s) (r : Rep P s.heap w v) (hi : items H v xs)
    (hQ : ∀ it h', s.heap.get? it = none → ItAt H h' it v 0 → (∀ b o, s.heap.get? b = some o → h'.get? b = some o) → Q (.ref it) { s with heap := h' }) : wpAny (model P.prog P.w) A (pyIter w) Q E s := by
  induction w, v, r using Rep.elim with
  | lst a =>
    obtain ⟨ws, hl, hr, hz⟩ := isList_of W hi
    exact wpAny_pyIter_list hl (hQ _ _ (get?_size _) ⟨_, Heap.get?_push_size _ rfl, rfl, rfl⟩ fun b o e => Heap.get?_push_of_some _ e)
  | @rng a lo hi' t u v hr =>
    obtain ⟨rfl, hp, hz, rfl⟩ := hi
    have hzz : hi' ≤ 8388608 := by have := hz; unfold Lim at this; exact this
    refine wpAny_pyIter_range hr (small_one (by decide) (by decide) (by omega) (by omega)) (hQ _ _ (get?_size _) ?_ fun b o e => Heap.get?_push_of_some _ e)
    show IsRangeIter _ _ _ _ _
    rw [rangeSize_one]
    have e1 : (if 0 < hi' then hi' - 0 else 0) = ((hi'.toNat : Nat) : Int) - ((0 : Nat) : Int) := by split <;> omega
    have e2 : (0 : Int) = 0 + ((0 : Nat) : Int) := rfl
    rw [e1, ← e2]
    exact Heap.get?_push_size _ rfl
  | dct a =>
    obtain ⟨kvs, ep, e, rfl⟩ := hi
    obtain ⟨ws, hd, h1, h2, _⟩ := W.hs a _ e
    have hlen : ws.length = kvs.length := by have := congrArg List.length h1; simpa using this
    refine wpAny_pyIter_dict (dict_ne F W e) hd (hQ _ _ (get?_size _) ⟨kvs, ep, ⟨_, Heap.get?_push_size _ rfl, rfl, ?_⟩, e⟩ fun b o e => Heap.get?_push_of_some _ e)
    rw [hlen]; rfl
  | _ => exact hi.elim

set_option maxHeartbeats 1000000 in
theorem iterNext {Q : Option Value → Shared → Prop} {it : Addr} {i : Nat} (hh : A.handled = none) (W : Wd P H s) (x : ItAt H s.heap it v i) (hi : items H v xs) (hn : H it = none)
    (hend : xs[i]? = none → ∀ h' t, (∀ b o, b ≠ it → s.heap.get? b = some o → h'.get? b = some o) → Q none { s with heap := h', toks := t })
    (hitem : ∀ y, xs[i]? = some y → ∀ wy h' t, Rep P h' wy y → ItAt H h' it v (i + 1) → (∀ b, b ≠ it → h'.get? b = s.heap.get? b) → Q (some wy) { s with heap := h', toks := t }) :
    wpAny (model P.prog P.w) A (pyNext (.ref it)) Q E s := by
  obtain ⟨oit, vit, eit, dit⟩ := x.fields
  have im : ∀ h', Heap.SameBut it s.heap h' → ImmK s.heap h' := fun h' hs => .but (fun b o hb e => (hs.2 b hb).trans e) fun o e => x.dull e
  cases v with
  | lst a =>
    obtain ⟨ws, hl, hr, hz⟩ := isList_of W hi
    cases ey : xs[i]? with
    | none =>
      have : ws[i]? = none := by
        rw [List.getElem?_eq_none_iff] at ey ⊢; rw [hr.length]; exact ey
      exact wpAny_pyNext_list_end hh x hl (by simpa using this) fun h' hs => hend ey h' _ fun b o hb e => hs b o hb e
    | some y =>
      obtain ⟨wy, ew, ry⟩ := hr.get ey
      exact wpAny_pyNext_list_item x hl (by simpa using ew) fun h' hx hs => hitem y ey wy h' _ (ry.mono (im h' hs)) hx hs.2
  | rng lo hi' =>
    obtain ⟨rfl, _, hz, rfl⟩ := hi
    by_cases hlt : i < hi'.toNat
    · have ey : ((List.range hi'.toNat).map fun (i : Nat) => V.int i)[i]? = some (.int i) := by simp [hlt]
      refine wpAny_pyNext_range_item x (by omega) fun h' hx hs => hitem _ ey _ h' _ ?_ ?_ hs.2
      · have : (0 : Int) + (i : Int) = (i : Int) := by omega
        rw [this]; exact .int _ _
      · show IsRangeIter _ _ _ _ _
        have e1 : (0 : Int) + ((i + 1 : Nat) : Int) = 0 + (i : Int) + 1 := by omega
        have e2 : (hi'.toNat : Int) - ((i + 1 : Nat) : Int) = hi'.toNat - (i : Int) - 1 := by omega
        rw [e1, e2]; exact hx
    · have ey : ((List.range hi'.toNat).map fun (i : Nat) => V.int i)[i]? = none := by simp; omega
      exact wpAny_pyNext_range_end hh x (by omega) fun h' hs => hend ey h' _ fun b o hb e => hs b o hb e
  | dct a =>
    obtain ⟨kvs, ep, e, rfl⟩ := hi
    obtain ⟨kvs', ep', hk, e'⟩ := x
    rw [e] at e'; cases e'
    obtain ⟨ws, hd, h1, h2, _⟩ := W.hs a _ e
    have hlen : ws.length = kvs.length := by have := congrArg List.length h1; simpa using this
    rw [← hlen] at hk
    by_cases hlt : i < kvs.length
    · have hlt' : i < ws.length := by omega
      have ew : ws[i]? = some (ws[i].1, ws[i].2) := List.getElem?_eq_getElem hlt'
      have ek : ws[i].1 = kvs[i].1 := by
        have : (ws.map (·.1))[i]? = (kvs.map (·.1))[i]? := by rw [h1]
        simp [hlt, hlt'] at this; exact this
      have ey : (kvs.map fun p => V.int p.1)[i]? = some (.int kvs[i].1) := by simp [hlt]
      refine wpAny_pyNext_dict_item hk hd ew fun key h' hkey hx hs => hitem _ ey _ h' _ ?_ ⟨kvs, ep, hlen ▸ hx, e⟩ hs.2
      cases key with
      | int k t =>
        have h : Value.isInt ws[i].1 (.int k t) = true := hkey
        have : k = ws[i].1 := by simpa [Value.isInt] using h
        rw [this, ek]; exact .int _ _
      | _ =>
        exact absurd (show false = true from hkey) (by decide)
    · have ew : ws[i]? = none := by simp; omega
      have ey : (kvs.map fun p => V.int p.1)[i]? = none := by simp; omega
      exact wpAny_pyNext_dict_end hh hk hd ew fun h' hs => hend ey h' _ fun b o hb e => hs b o hb e
  | _ => exact x.elim

theorem iterSelf {Q : Value → Shared → Prop} {it : Addr} {i : Nat} (x : ItAt H s.heap it v i) (hQ : Q (.ref it) s) : wpAny (model P.prog P.w) A (pyIter (.ref it)) Q E s := by
  cases v with
  | lst a => exact wpAny_pyIter_listiter x hQ
  | rng lo hi => exact wpAny_pyIter_rangeiter x hQ
  | dct a => obtain ⟨_, _, x, _⟩ := x; exact wpAny_pyIter_keyiter x hQ
  | _ => exact x.elim
end
end
end Mine

namespace Mine
section
open PySem PySem.Calls PyProof.Rows
theorem boot_len : bootBuiltins (Str.ofString "len") = some (.builtin "len") := by kernel_rfl
theorem boot_isinstance : bootBuiltins (Str.ofString "isinstance") = some (.builtin "isinstance") := by kernel_rfl
theorem boot_int : bootBuiltins (Str.ofString "int") = some (.type "int") := by kernel_rfl
theorem boot_bool : bootBuiltins (Str.ofString "bool") = some (.type "bool") := by kernel_rfl
theorem boot_str : bootBuiltins (Str.ofString "str") = some (.type "str") := by kernel_rfl
theorem boot_list : bootBuiltins (Str.ofString "list") = some (.type "list") := by kernel_rfl
theorem boot_tuple : bootBuiltins (Str.ofString "tuple") = some (.type "tuple") := by kernel_rfl
theorem boot_dict : bootBuiltins (Str.ofString "dict") = some (.type "dict") := by kernel_rfl
theorem boot_set : bootBuiltins (Str.ofString "set") = some (.type "set") := by kernel_rfl
theorem boot_sorted : bootBuiltins (Str.ofString "sorted") = some (.builtin "sorted") := by kernel_rfl
theorem boot_all : bootBuiltins (Str.ofString "all") = some (.builtin "all") := by kernel_rfl
theorem boot_max : bootBuiltins (Str.ofString "max") = some (.builtin "max") := by kernel_rfl
theorem boot_min : bootBuiltins (Str.ofString "min") = some (.builtin "min") := by kernel_rfl
theorem boot_range : bootBuiltins (Str.ofString "range") = some (.type "range") := by kernel_rfl
theorem boot_ty (t : Ty) : bootBuiltins (Str.ofString (tyName t)) = some (.type (tyName t)) := by
  cases t
  · exact boot_int
  · exact boot_bool
  · exact boot_str
  · exact boot_list
  · exact boot_tuple
  · exact boot_dict
theorem ty_mem (t : Ty) : tyName t ∈ bNames := by cases t <;> decide

section
variable {M : Model} {A : Around} {E : Value → Shared → Prop} {s : Shared} {env : Env} {Q : Value → Shared → Prop}

theorem starEach1 {x : Expr} (h : isStar x = false) (xs : List Expr) : starEach (x :: xs) env = (false, eval x env) :: starEach xs env := by
  cases x <;> first | rfl | exact nc' h

noncomputable def byMachine : Value → Bool
  | .builtin _ => true
  | .type _ => true
  | _ => false

theorem callWith_machine {pos : Pos} {f : Value} {args : List (Bool × Sem Value)} {kws : List (Option Str × Sem Value)} (hf : byMachine f = true) (hp : args.any (·.1) = false) (hk : kws.any (·.1.isNone) = false)
    (h : wpAny M A (evalArgs f true args kws) (fun a s₁ => wpAny M A (call f a.pos a.kw) Q E s₁) E s) : wpAny M A (callWith pos f [] args kws) Q E s := by
  unfold callWith
  refine wpAny_bind (wpAny_holding (wpAny_mono h (fun a s₁ h₁ => wpAny_bind (wpAny_standAt ?_)) fun zz zz x => x))
  simp only [hp, hk, Bool.or_false, List.nil_append]
  cases f with
  | builtin id => exact wpAny_bind (wpAny_pure (wpAny_bind (wpAny_mono h₁ (fun r s₂ hr => wpAny_bind (wpAny_holding (wpAny_point (wpAny_pure hr)))) fun zz zz x => x)))
  | type t => exact wpAny_bind (wpAny_pure (wpAny_bind (wpAny_mono h₁ (fun r s₂ hr => wpAny_bind (wpAny_holding (wpAny_point (wpAny_pure hr)))) fun zz zz x => x)))
  | _ => exact nc hf

theorem call1 {pos : Pos} {f : Value} {x : Expr} (hf : byMachine f = true) (hx : isStar x = false)
    (h : wpAny M A (eval x env) (fun v s₁ => wpAny M A (call f [v]) Q E s₁) E s) : wpAny M A (callWith pos f [] (backTo pos (starEach [x] env)) []) Q E s := by
  rw [starEach1 hx]
  refine callWith_machine hf rfl rfl (evalArgs_plain (spliced_cons ?_))
  exact wpAny_mono h (fun v s₁ h₁ => spliced_nil h₁) fun zz zz e => e
theorem call2 {pos : Pos} {f : Value} {x y : Expr} (hf : byMachine f = true) (hx : isStar x = false) (hy : isStar y = false)
    (h : wpAny M A (eval x env) (fun v s₁ => wpAny M A (eval y env) (fun u s₂ => wpAny M A (call f [v, u]) Q E s₂) E s₁) E s) : wpAny M A (callWith pos f [] (backTo pos (starEach [x, y] env)) []) Q E s := by
  rw [starEach1 hx, starEach1 hy]
  refine callWith_machine hf rfl rfl (evalArgs_plain (spliced_cons ?_))
  exact wpAny_mono h (fun v s₁ h₁ => spliced_cons (wpAny_mono h₁ (fun u s₂ h₂ => spliced_nil h₂) fun zz zz e => e)) fun zz zz e => e
end
end
end Mine

namespace Mine
section
open PySem PySem.Calls PyProof.Rows
section
variable {P : Cx} {d : Nat} {X : Nat → AHeap → Prop} {A : Around} {s : Shared} {H : AHeap} {h : Heap} {Q : V → AHeap → Prop}

theorem thenV {M : Model} {m : Sem Value} {E : Value → Shared → Prop} {Q1 : V → AHeap → Prop} {R : Value → Shared → Prop} (x : wpAny M A m (Post P H h Q1) E s)
    (k : ∀ w r H1 s1, Rep P s1.heap w r → Wd P H1 s1 → Fm H h H1 s1.heap → Q1 r H1 → R w s1) : wpAny M A m R E s :=
  wpAny_mono x (fun w s1 ⟨r, H1, a, b, c, q⟩ => k w r H1 s1 a b c q) fun zz zz e => e
theorem liftE {α : Type} {M : Model} {m : Sem α} {H1 : AHeap} {h1 : Heap} {R : α → Shared → Prop} (f : Fm H h H1 h1) (x : wpAny M A m R (PostX P H1 h1 X) s) : wpAny M A m R (PostX P H h X) s :=
  wpAny_mono x (fun zz zz y => y) fun zz zz y => y.trans f
theorem liftP {M : Model} {m : Sem Value} {H1 : AHeap} {h1 : Heap} (f : Fm H h H1 h1) (x : wpAny M A m (Post P H1 h1 Q) (PostX P H1 h1 X) s) : wpAny M A m (Post P H h Q) (PostX P H h X) s :=
  wpAny_mono x (fun zz zz y => y.trans f) fun zz zz y => y.trans f

structure SoundE (P : Cx) (d : Nat) (X : Nat → AHeap → Prop) (e : E) : Prop where
  go : ∀ {x : Expr} {sc : Scope} {tab : Tab} {env : Env} {ρ : Ro} {Q : V → AHeap → Prop} {H : AHeap} {A : Around} {s : Shared},
    cE P.gl sc tab e x = true → EnvOk P sc tab env ρ H s.heap → Room P d A H s.heap → Wd P H s → vE P d X e ρ Q H →
    wpAny (model P.prog P.w) A (eval x env) (Post P H s.heap Q) (PostX P H s.heap X) s

theorem two {a b : E} {x y : Expr} {sc : Scope} {tab : Tab} {env : Env} {ρ : Ro} {tree : Value → Value → Sem Value} {S : V → V → (V → AHeap → Prop) → AHeap → Prop}
    (ia : SoundE P d X a) (ib : SoundE P d X b) (ca : cE P.gl sc tab a x = true) (cb : cE P.gl sc tab b y = true) (K : EnvOk P sc tab env ρ H s.heap) (R : Room P d A H s.heap) (W : Wd P H s)
    (q : vE P d X a ρ (fun v H => vE P d X b ρ (fun w H => S v w Q H) H) H)
    (hc : ∀ H2 s2 w v w' v', Wd P H2 s2 → Room P d A H2 s2.heap → EnvOk P sc tab env ρ H2 s2.heap → Rep P s2.heap w v → Rep P s2.heap w' v' → S v v' Q H2 → wpAny (model P.prog P.w) A (tree w w') (Post P H2 s2.heap Q) (PostX P H2 s2.heap X) s2) :
    wpAny (model P.prog P.w) A (eval x env) (fun u s1 => wpAny (model P.prog P.w) A (eval y env) (fun v s2 => wpAny (model P.prog P.w) A (tree u v) (Post P H s.heap Q) (PostX P H s.heap X) s2) (PostX P H s.heap X) s1) (PostX P H s.heap X) s :=
  thenV (ia.go ca K R W q) fun w r H1 s1 hr W1 f1 q1 => liftE f1 (thenV (ib.go cb (K.step W f1) (R.step f1) W1 q1) fun w' r' H2 s2 hr' W2 f2 q2 =>
    have f := f1.trans f2
    have y := hc H2 s2 w r w' r' W2 (R.step f) (K.step W f) (hr.step W1 f2) hr' q2
    liftP f y)

theorem one {a : E} {x : Expr} {sc : Scope} {tab : Tab} {env : Env} {ρ : Ro} {tree : Value → Sem Value} {S : V → (V → AHeap → Prop) → AHeap → Prop}
    (ia : SoundE P d X a) (ca : cE P.gl sc tab a x = true) (K : EnvOk P sc tab env ρ H s.heap) (R : Room P d A H s.heap) (W : Wd P H s)
    (q : vE P d X a ρ (fun v H => S v Q H) H)
    (hc : ∀ H2 s2 w v, Wd P H2 s2 → Room P d A H2 s2.heap → EnvOk P sc tab env ρ H2 s2.heap → Rep P s2.heap w v → S v Q H2 → wpAny (model P.prog P.w) A (tree w) (Post P H2 s2.heap Q) (PostX P H2 s2.heap X) s2) :
    wpAny (model P.prog P.w) A (eval x env) (fun u s1 => wpAny (model P.prog P.w) A (tree u) (Post P H s.heap Q) (PostX P H s.heap X) s1) (PostX P H s.heap X) s :=
  thenV (ia.go ca K R W q) fun w r H1 s1 hr W1 f1 q1 => liftP f1 (hc H1 s1 w r W1 (R.step f1) (K.step W f1) hr q1)

theorem fun1_snd {o : Op1} {g : String} (hg : fun1 o = some g) (F : Facts P) : g ∈ bNames ∧ ∃ fv, bootBuiltins (Str.ofString g) = some fv ∧ byMachine fv = true ∧
    ∀ {H2 : AHeap} {s2 : Shared} {w : Value} {v : V} {Q : V → AHeap → Prop} {E : Value → Shared → Prop} {A : Around}, Wd P H2 s2 → Room P d A H2 s2.heap → Rep P s2.heap w v → sem1 P d o v Q H2 → wpAny (model P.prog P.w) A (call fv [w]) (Post P H2 s2.heap Q) E s2 := by
  cases o <;> first | exact noneAny hg | cases Option.some.inj hg
  · exact ⟨by decide, _, boot_len, rfl, fun W R r q => snd_len F W r q⟩
  · exact ⟨by decide, _, boot_int, rfl, fun W R r q => snd_intOf W r q⟩
  · exact ⟨by decide, _, boot_list, rfl, fun W R r q => snd_listOf W r q⟩
  · exact ⟨by decide, _, boot_tuple, rfl, fun W R r q => snd_tupleOf W r q⟩
  · exact ⟨by decide, _, boot_sorted, rfl, fun W R r q => snd_sorted W r q⟩
  · exact ⟨by decide, _, boot_sorted, rfl, fun W R r q => snd_sortP W r q⟩
  · exact ⟨by decide, _, boot_all, rfl, fun W R r q => snd_all R W r q⟩
  · exact ⟨by decide, _, boot_max, rfl, fun W R r q => snd_maxL R W r q⟩
  · exact ⟨by decide, _, boot_range, rfl, fun W R r q => snd_range W r q⟩

theorem fun2_snd {o : Op2} {g : String} (hg : fun2 o = some g) : g ∈ bNames ∧ ∃ fv, bootBuiltins (Str.ofString g) = some fv ∧ byMachine fv = true ∧
    ∀ {H2 : AHeap} {s2 : Shared} {w w' : Value} {v v' : V} {Q : V → AHeap → Prop} {E : Value → Shared → Prop} {A : Around}, Wd P H2 s2 → Room P d A H2 s2.heap → Rep P s2.heap w v → Rep P s2.heap w' v' → sem2 P d o v v' Q H2 → wpAny (model P.prog P.w) A (call fv [w, w']) (Post P H2 s2.heap Q) E s2 := by
  cases o <;> first | exact noneAny hg | cases Option.some.inj hg
  · exact ⟨by decide, _, boot_max, rfl, fun W R r r' q => snd_max2 R W r r' q⟩
  · exact ⟨by decide, _, boot_min, rfl, fun W R r r' q => snd_min2 R W r r' q⟩
  · exact ⟨by decide, _, boot_range, rfl, fun W R r r' q => snd_range2 W r r' q⟩

theorem callName {g : String} {f : Expr} {args : List Expr} {kws : List Keyword} {pos : Pos} {sc : Scope} {tab : Tab} {env : Env} {ρ : Ro} {fv : Value} {R : Value → Shared → Prop} {E : Value → Shared → Prop}
    (F : Facts P) (W : Wd P H s) (K : EnvOk P sc tab env ρ H s.heap) (c : cGlob sc g f = true) (hg : g ∈ bNames) (hv : bootBuiltins (Str.ofString g) = some fv)
    (h : wpAny (model P.prog P.w) A (callWith pos fv [] (backTo pos (starEach args env)) (backToKw pos (keywordEach kws env))) R E s) : wpAny (model P.prog P.w) A (eval (.Call f args kws pos) env) R E s := by
  cases f with
  | Name x p => exact wpAny_Call_ofName (loadBlt F W K c hg hv h)
  | _ => simp [cGlob] at c
end
end
end Mine

namespace Mine
section
open PySem PySem.Calls PyProof.Rows
theorem kw_eta (w : Keyword) : w = ⟨w.arg, w.value, w.pos⟩ := by cases w; rfl
theorem gen_eta (g : Comprehension) : g = ⟨g.target, g.iter, g.ifs, g.is_async⟩ := by cases g; rfl
theorem isNoneO {α : Type} {o : Option α} (h : o.isNone = true) : o = none := by cases o with | none => rfl | some => cases h
theorem isNegOne_eq {x : Expr} (h : isNegOne x = true) : ∃ k p p', x = .UnaryOp .USub (.Constant (.int 1) k p) p' := by
  obtain ⟨⟨y, h'y⟩, -, h⟩ := oB_true h
  have h0 := beq_iff_eq.mp (andB h).1
  obtain ⟨⟨c, h'c⟩, -, h⟩ := oB_true (andB h).2
  obtain ⟨⟨i, h'i⟩, -, h⟩ := oB_true h
  have h1 : i = 1 := beq_iff_eq.mp h
  exact ⟨c.2.1, c.2.2, y.2.2, h'y.trans (by rw [h0, h'c, h'i, h1])⟩
theorem isRev_eq {x : Expr} (h : isRev x = true) : ∃ k p p' p'', x = .Slice none none (some (.UnaryOp .USub (.Constant (.int 1) k p) p')) p'' := by
  obtain ⟨⟨y, h'y⟩, -, h⟩ := oB_true h
  have h1 := isNoneO (andB (andB h).1).1
  have h2 := isNoneO (andB (andB h).1).2
  obtain ⟨⟨z, h'z⟩, -, h⟩ := oB_true (andB h).2
  obtain ⟨k, p, p', hz⟩ := isNegOne_eq (x := z) h
  exact ⟨k, p, p', y.2.2.2, h'y.trans (by rw [h1, h2, h'z, hz])⟩

inductive CMeth (G : Gl) (sc : Scope) (tab : Tab) (o : Op2) (a b : E) (x : Expr) : Prop where
  | mk (g : _) (u : _) (v : _) (ap : _) (p : _) (z0 : meth2 o = some g) (z1 : x = .Call (.Attribute u (Str.ofString g) ap) [v] [] p) (z2 : isStar v = false) (z3 : notSuper u = true) (z4 : (ap.endLine == p.line) = true) (z5 : cE G sc tab a u = true) (z6 : cE G sc tab b v = true) : CMeth G sc tab o a b x
inductive CAnd (G : Gl) (sc : Scope) (tab : Tab) (a b : E) (x : Expr) : Prop where
  | mk (u : _) (rest : _) (p : _) (y : _) (z0 : x = .BoolOp .And (u :: rest) p) (z1 : cE G sc tab a u = true) (z2 : cE G sc tab b y = true) (z3 : ((rest = [y]) ∨ (∃ v w r, rest = v :: w :: r ∧ y = .BoolOp .And rest p))) : CAnd G sc tab a b x
inductive COr (G : Gl) (sc : Scope) (tab : Tab) (a b : E) (x : Expr) : Prop where
  | mk (u : _) (rest : _) (p : _) (y : _) (z0 : x = .BoolOp .Or (u :: rest) p) (z1 : cE G sc tab a u = true) (z2 : cE G sc tab b y = true) (z3 : ((rest = [y]) ∨ (∃ v w r, rest = v :: w :: r ∧ y = .BoolOp .Or rest p))) : COr G sc tab a b x
inductive CChain (G : Gl) (sc : Scope) (tab : Tab) (o₁ o₂ : Op2) (a b e : E) (x : Expr) : Prop where
  | mk (u : _) (v : _) (w : _) (p : _) (q : _) (pos : _) (z0 : cmp2 o₁ = some p) (z1 : cmp2 o₂ = some q) (z2 : x = .Compare u [p, q] [v, w] pos) (z3 : isSet v = false) (z4 : isSet w = false) (z5 : cE G sc tab a u = true) (z6 : cE G sc tab b v = true) (z7 : cE G sc tab e w = true) : CChain G sc tab o₁ o₂ a b e x
inductive CCall (G : Gl) (sc : Scope) (tab : Tab) (g : String) (es : Es) (x : Expr) : Prop where
  | mk (f : _) (y : _) (xs : _) (p : _) (z0 : x = .Call f (y :: xs) [] p) (z1 : g ∈ G.fs) (z2 : cGlob sc g f = true) (z3 : (y :: xs).length < 20) (z4 : cEs G sc tab es (y :: xs) = true) : CCall G sc tab g es x
inductive CComp (G : Gl) (sc : Scope) (tab : Tab) (j : Nat) (elt src cond : E) (x : Expr) : Prop where
  | mk (y : _) (p : _) (i : _) (ifs : _) (sc' : _) (px : _) (pos : _) (z0 : x = .ListComp y [⟨.Name p px, i, ifs, 0⟩] sc' pos) (z1 : compScopeOk sc' sc p = true) (z2 : isSet i = false) (z3 : (p == ("__debug__" : Str)) = false) (z4 : (p == ("__classdict__" : Str)) = false) (z5 : (tab.any fun q => q.2 == j) = false) (z6 : cE G sc tab src i = true) (z7 : cE G sc' ((p, j) :: subTab sc' tab) elt y = true) (z8 : ((cond = .bool true ∧ ifs = []) ∨ ∃ t, ifs = [t] ∧ cE G sc' ((p, j) :: subTab sc' tab) cond t = true)) : CComp G sc tab j elt src cond x
inductive COp1 (G : Gl) (sc : Scope) (tab : Tab) (o : Op1) (e : E) (x : Expr) : Prop where
  | isi (t : _) (f : _) (a : _) (b : _) (p : _) (z0 : o = .isI t) (z1 : x = .Call f [a, b] [] p) (z2 : isStar a = false) (z3 : cGlob sc "isinstance" f = true) (z4 : cGlob sc (tyName t) b = true) (z5 : cE G sc tab e a = true) : COp1 G sc tab o e x
  | lens (f : _) (g : _) (a : _) (p : _) (p' : _) (z0 : o = .lenSet) (z1 : x = .Call f [.Call g [a] [] p'] [] p) (z2 : isStar a = false) (z3 : cGlob sc "len" f = true) (z4 : cGlob sc "set" g = true) (z5 : cE G sc tab e a = true) : COp1 G sc tab o e x
  | neg (a : _) (p : _) (z0 : o = .neg) (z1 : x = .UnaryOp .USub a p) (z2 : cE G sc tab e a = true) : COp1 G sc tab o e x
  | rev (a : _) (k : _) (p1 : _) (p2 : _) (p3 : _) (p4 : _) (z0 : o = .rev) (z1 : x = .Subscript a (.Slice none none (some (.UnaryOp .USub (.Constant (.int 1) k p1) p2)) p3) p4) (z2 : cE G sc tab e a = true) : COp1 G sc tab o e x
  | fn (g : _) (f : _) (a : _) (p : _) (z0 : fun1 o = some g) (z1 : x = .Call f [a] [] p) (z2 : isStar a = false) (z3 : cGlob sc g f = true) (z4 : cE G sc tab e a = true) : COp1 G sc tab o e x
  | isx (g : _) (f : _) (a : _) (b : _) (p : _) (z0 : xName G o = some g) (z1 : x = .Call f [a, b] [] p) (z2 : isStar a = false) (z3 : cGlob sc "isinstance" f = true) (z4 : cGlob sc g b = true) (z5 : cE G sc tab e a = true) : COp1 G sc tab o e x
inductive COp2 (G : Gl) (sc : Scope) (tab : Tab) (o : Op2) (a b : E) (x : Expr) : Prop where
  | bin (u : _) (op : _) (v : _) (p : _) (z0 : bin2 o = some op) (z1 : x = .BinOp u op v p) (z2 : cE G sc tab a u = true) (z3 : cE G sc tab b v = true) : COp2 G sc tab o a b x
  | cmp (u : _) (op : _) (v : _) (p : _) (z0 : cmp2 o = some op) (z1 : x = .Compare u [op] [v] p) (z2 : isSet v = false) (z3 : cE G sc tab a u = true) (z4 : cE G sc tab b v = true) : COp2 G sc tab o a b x
  | slt (u : _) (v : _) (p : _) (p' : _) (z0 : o = .sliceTo) (z1 : x = .Subscript u (.Slice none (some v) none p) p') (z2 : cE G sc tab a u = true) (z3 : cE G sc tab b v = true) : COp2 G sc tab o a b x
  | slf (u : _) (v : _) (p : _) (p' : _) (z0 : o = .sliceFrom) (z1 : x = .Subscript u (.Slice (some v) none none p) p') (z2 : cE G sc tab a u = true) (z3 : cE G sc tab b v = true) : COp2 G sc tab o a b x
  | itm (u : _) (v : _) (p : _) (z0 : o = .item) (z1 : x = .Subscript u v p) (z2 : isSlice v = false) (z3 : cE G sc tab a u = true) (z4 : cE G sc tab b v = true) : COp2 G sc tab o a b x
  | mxd (f : _) (u : _) (v : _) (p : _) (p' : _) (z0 : o = .maxD) (z1 : x = .Call f [u] [⟨some (Str.ofString "default"), v, p'⟩] p) (z2 : isStar u = false) (z3 : cGlob sc "max" f = true) (z4 : cE G sc tab a u = true) (z5 : cE G sc tab b v = true) : COp2 G sc tab o a b x
  | fn (g : _) (f : _) (u : _) (v : _) (p : _) (z0 : fun2 o = some g) (z1 : x = .Call f [u, v] [] p) (z2 : isStar u = false) (z3 : isStar v = false) (z4 : cGlob sc g f = true) (z5 : cE G sc tab a u = true) (z6 : cE G sc tab b v = true) : COp2 G sc tab o a b x
section
variable {G : Gl} {sc : Scope} {tab : Tab} {x : Expr}
theorem cE_op1 {o : Op1} {e : E} (c : cE G sc tab (.op1 o e) x = true) : COp1 G sc tab o e x := by
  have c : cOp1 G sc o (cE G sc tab e) x = true := c
  rcases orB c with c | cx
  rcases orB c with c | c
  · rcases orB c with c | c
    · rcases orB c with c | c
      · rcases orB c with c | c
        · obtain ⟨⟨t, h't⟩, -, c⟩ := oB_true c
          obtain ⟨f, a, b, p, hx, hs, -, c⟩ := call2P_eq c
          exact .isi (t) (f) (a) (b) (p) (h't) (hx) (hs) ((andB (andB c).1).1) ((andB (andB c).1).2) ((andB c).2)
        · have ho := beq_iff_eq.mp (andB c).1
          obtain ⟨f, a, p, hx, -, c⟩ := call1P_eq (andB c).2
          obtain ⟨g, b, p', ha, hs, c'⟩ := call1P_eq (andB c).2
          exact .lens (f) (g) (b) (p) (p') (ho) (hx.trans (by rw [ha])) (hs) ((andB c).1) ((andB c').1) ((andB c').2)
      · have ho := beq_iff_eq.mp (andB c).1
        obtain ⟨⟨y, h'y⟩, -, c⟩ := oB_true (andB c).2
        exact .neg (y.2.1) (y.2.2) (ho) (h'y.trans (by rw [beq_iff_eq.mp (andB c).1])) ((andB c).2)
    · have ho := beq_iff_eq.mp (andB c).1
      obtain ⟨⟨y, h'y⟩, -, c⟩ := oB_true (andB c).2
      obtain ⟨k, p1, p2, p3, hs⟩ := isRev_eq (andB c).1
      exact .rev (y.1) (k) (p1) (p2) (p3) (y.2.2) (ho) (h'y.trans (by rw [hs])) ((andB c).2)
  · obtain ⟨g, hg, c⟩ := oB_true c
    obtain ⟨f, a, p, hx, hs, c⟩ := call1P_eq c
    exact .fn (g) (f) (a) (p) (hg) (hx) (hs) ((andB c).1) ((andB c).2)
  · obtain ⟨g, hg, c⟩ := oB_true cx
    obtain ⟨f, a, b, p, hx, hs, -, c⟩ := call2P_eq c
    exact .isx (g) (f) (a) (b) (p) (hg) (hx) (hs) ((andB (andB c).1).1) ((andB (andB c).1).2) ((andB c).2)
theorem cE_op2 {o : Op2} {a b : E} (c : cE G sc tab (.op2 o a b) x = true) : COp2 G sc tab o a b x := by
  have c : cOp2 sc o (cE G sc tab a) (cE G sc tab b) x = true := c
  rcases orB c with c | c
  · rcases orB c with c | c
    · rcases orB c with c | c
      · rcases orB c with c | c
        · rcases orB c with c | c
          · rcases orB c with c | c
            · obtain ⟨⟨y, h'y⟩, -, c⟩ := oB_true c
              exact .bin (y.1) (y.2.1) (y.2.2.1) (y.2.2.2) (beq_iff_eq.mp (andB (andB c).1).1) (h'y) ((andB (andB c).1).2) ((andB c).2)
            · obtain ⟨⟨y, h'y⟩, -, c⟩ := oB_true c
              obtain ⟨⟨op, h'op⟩, -, c⟩ := oB_true c
              obtain ⟨⟨v, h'v⟩, -, c⟩ := oB_true c
              have c1 := (andB (andB c).1).1
              exact .cmp (y.1) (op) (v) (y.2.2.2) (beq_iff_eq.mp (andB c1).1) (h'y.trans (by rw [h'op, h'v])) (notB (andB c1).2) ((andB (andB c).1).2) ((andB c).2)
          · have ho := beq_iff_eq.mp (andB c).1
            obtain ⟨⟨y, h'y⟩, -, c⟩ := oB_true (andB c).2
            obtain ⟨⟨z, h'z⟩, -, c⟩ := oB_true c
            have h1 := isNoneO (andB (andB c).1).1
            have h2 := isNoneO (andB (andB c).1).2
            obtain ⟨⟨v, h'v⟩, -, c⟩ := oB_true (andB c).2
            exact .slt (y.1) (v) (z.2.2.2) (y.2.2) (ho) (h'y.trans (by rw [h'z, h1, h2, h'v])) ((andB c).1) ((andB c).2)
        · have ho := beq_iff_eq.mp (andB c).1
          obtain ⟨⟨y, h'y⟩, -, c⟩ := oB_true (andB c).2
          obtain ⟨⟨z, h'z⟩, -, c⟩ := oB_true c
          have h1 := isNoneO (andB (andB c).1).1
          have h2 := isNoneO (andB (andB c).1).2
          obtain ⟨⟨v, h'v⟩, -, c⟩ := oB_true (andB c).2
          exact .slf (y.1) (v) (z.2.2.2) (y.2.2) (ho) (h'y.trans (by rw [h'z, h1, h2, h'v])) ((andB c).1) ((andB c).2)
      · have ho := beq_iff_eq.mp (andB c).1
        obtain ⟨⟨y, h'y⟩, -, c⟩ := oB_true (andB c).2
        exact .itm (y.1) (y.2.1) (y.2.2) (ho) (h'y) (notB (andB (andB c).1).1) ((andB (andB c).1).2) ((andB c).2)
    · have ho := beq_iff_eq.mp (andB c).1
      obtain ⟨⟨y, h'y⟩, -, c⟩ := oB_true (andB c).2
      obtain ⟨⟨u, h'u⟩, -, c⟩ := oB_true c
      obtain ⟨⟨w, h'w⟩, -, c⟩ := oB_true c
      have c2 := andB (andB c).1
      have c1 := (andB c2.1).1
      have hw : w = ⟨some (Str.ofString "default"), w.value, w.pos⟩ := by
        have h0 : w.arg = some (Str.ofString "default") := beq_iff_eq.mp (andB c1).1
        exact (kw_eta w).trans (by rw [h0])
      exact .mxd (y.1) (u) (w.value) (y.2.2.2) (w.pos) (ho) (h'y.trans (by rw [h'u, h'w]; exact congrArg (fun w => Expr.Call y.1 [u] [w] y.2.2.2) hw)) (notB (andB c2.1).2) ((andB c1).2) (c2.2) ((andB c).2)
  · obtain ⟨g, hg, c⟩ := oB_true c
    obtain ⟨f, u, v, p, hx, hs1, hs2, c⟩ := call2P_eq c
    exact .fn (g) (f) (u) (v) (p) (hg) (hx) (hs1) (hs2) ((andB (andB c).1).1) ((andB (andB c).1).2) ((andB c).2)
theorem cE_meth {o : Op2} {a b : E} (c : cE G sc tab (.meth o a b) x = true) : CMeth G sc tab o a b x := by
  have c : cMeth o (cE G sc tab a) (cE G sc tab b) x = true := c
  obtain ⟨⟨y, h'y⟩, -, c⟩ := oB_true c
  obtain ⟨⟨v, h'v⟩, -, c⟩ := oB_true c
  have c0 := isNil (andB c).1
  obtain ⟨⟨z, h'z⟩, -, c⟩ := oB_true (andB c).2
  obtain ⟨g, hg, c⟩ := oB_true c
  obtain ⟨c, c6⟩ := andB c
  obtain ⟨c, c5⟩ := andB c
  obtain ⟨c, c4⟩ := andB c
  obtain ⟨c, c3⟩ := andB c
  exact ⟨g, z.1, v, z.2.2, y.2.2.2, hg, h'y.trans (by rw [h'v, c0, h'z, beq_iff_eq.mp (andB c).1]), notB (andB c).2, c3, c4, c5, c6⟩
theorem cE_and {a b : E} (c : cE G sc tab (.and a b) x = true) : CAnd G sc tab a b x := by
  have c : cBoolOp .And (cE G sc tab a) (cE G sc tab b) x = true := c
  obtain ⟨⟨y, h'y⟩, -, c⟩ := oB_true c
  have c0 := beq_iff_eq.mp (andB c).1
  rcases orB (andB c).2 with c | c
  · obtain ⟨⟨w, h'w⟩, -, c⟩ := oB_true c
    exact ⟨w.1, [w.2], y.2.2, w.2, h'y.trans (by rw [c0, h'w]), (andB c).1, (andB c).2, .inl rfl⟩
  · obtain ⟨⟨w, h'w⟩, -, c⟩ := oB_true c
    exact ⟨w.1, w.2.1 :: w.2.2.1 :: w.2.2.2, y.2.2, _, h'y.trans (by rw [c0, h'w]), (andB c).1, (andB c).2, .inr ⟨_, _, _, rfl, rfl⟩⟩
theorem cE_or {a b : E} (c : cE G sc tab (.or a b) x = true) : COr G sc tab a b x := by
  have c : cBoolOp .Or (cE G sc tab a) (cE G sc tab b) x = true := c
  obtain ⟨⟨y, h'y⟩, -, c⟩ := oB_true c
  have c0 := beq_iff_eq.mp (andB c).1
  rcases orB (andB c).2 with c | c
  · obtain ⟨⟨w, h'w⟩, -, c⟩ := oB_true c
    exact ⟨w.1, [w.2], y.2.2, w.2, h'y.trans (by rw [c0, h'w]), (andB c).1, (andB c).2, .inl rfl⟩
  · obtain ⟨⟨w, h'w⟩, -, c⟩ := oB_true c
    exact ⟨w.1, w.2.1 :: w.2.2.1 :: w.2.2.2, y.2.2, _, h'y.trans (by rw [c0, h'w]), (andB c).1, (andB c).2, .inr ⟨_, _, _, rfl, rfl⟩⟩
theorem cE_chain {o₁ o₂ : Op2} {a b e : E} (c : cE G sc tab (.chain o₁ o₂ a b e) x = true) : CChain G sc tab o₁ o₂ a b e x := by
  have c : cChain o₁ o₂ (cE G sc tab a) (cE G sc tab b) (cE G sc tab e) x = true := c
  obtain ⟨⟨y, h'y⟩, -, c⟩ := oB_true c
  obtain ⟨⟨p, h'p⟩, -, c⟩ := oB_true c
  obtain ⟨⟨z, h'z⟩, -, c⟩ := oB_true c
  obtain ⟨c, c7⟩ := andB c
  obtain ⟨c, c6⟩ := andB c
  obtain ⟨c, c5⟩ := andB c
  obtain ⟨c, c4⟩ := andB c
  obtain ⟨c, c3⟩ := andB c
  exact ⟨y.1, z.1, z.2, p.1, p.2, y.2.2.2, beq_iff_eq.mp (andB c).1, beq_iff_eq.mp (andB c).2, h'y.trans (by rw [h'p, h'z]), notB c3, notB c4, c5, c6, c7⟩
theorem cE_call {g : String} {es : Es} (c : cE G sc tab (.call g es) x = true) : CCall G sc tab g es x := by
  obtain ⟨⟨y, h'y⟩, -, c⟩ := oB_true (o := asCall x) c
  obtain ⟨c, c5⟩ := andB c
  obtain ⟨c, c4⟩ := andB c
  obtain ⟨c, c3⟩ := andB c
  obtain ⟨c, c2⟩ := andB c
  have c0 : y.2.2.1 = [] := isNil (andB c).1
  obtain ⟨z, xs, hz⟩ : ∃ z xs, y.2.1 = z :: xs := List.exists_cons_of_ne_nil fun e => by
    have c3 : (!y.2.1.isEmpty) = true := c3
    rw [e] at c3; cases c3
  have c4 : decide (y.2.1.length < 20) = true := c4
  have c5 : cEs G sc tab es y.2.1 = true := c5
  rw [hz] at c4 c5
  exact ⟨y.1, z, xs, y.2.2.2, h'y.trans (by rw [hz, c0]), List.contains_iff_mem.mp (andB c).2, c2, of_decide_eq_true c4, c5⟩
theorem cE_tup {es : Es} (c : cE G sc tab (.tup es) x = true) : ∃ xs k p, x = .Tuple xs k p ∧ cEs G sc tab es xs = true := by
  obtain ⟨⟨y, h'y⟩, -, c⟩ := oB_true (o := asTup x) c
  exact ⟨_, _, _, h'y, c⟩
theorem cE_lst {es : Es} (c : cE G sc tab (.lst es) x = true) : ∃ xs p, x = .List xs p ∧ cEs G sc tab es xs = true := by
  obtain ⟨⟨y, h'y⟩, -, c⟩ := oB_true (o := asLst x) c
  exact ⟨_, _, h'y, c⟩
theorem cE_not {e : E} (c : cE G sc tab (.not e) x = true) : ∃ u p, x = .UnaryOp .Not u p ∧ cE G sc tab e u = true := by
  obtain ⟨⟨y, h'y⟩, -, c⟩ := oB_true (o := asUn x) c
  exact ⟨y.2.1, y.2.2, h'y.trans (by rw [beq_iff_eq.mp (andB c).1]), (andB c).2⟩
theorem cE_var {i : Nat} (c : cE G sc tab (.var i) x = true) : ∃ n p, x = .Name n p ∧ cVar sc tab i n = true := by
  obtain ⟨⟨y, h'y⟩, -, c⟩ := oB_true (o := asName x) c
  exact ⟨_, _, h'y, c⟩
theorem cE_glb {g : String} {i : Int} (c : cE G sc tab (.glb g i) x = true) : ∃ n p, x = .Name n p ∧ (g, i) ∈ G.cs ∧ cGlob sc g (.Name n p) = true := by
  obtain ⟨⟨y, h'y⟩, -, c⟩ := oB_true (o := asName x) c
  exact ⟨y.1, y.2, h'y, List.contains_iff_mem.mp (andB c).1, by rw [← h'y]; exact (andB c).2⟩
theorem cE_none (c : cE G sc tab .none x = true) : ∃ k p, x = .Constant .none k p := by
  obtain ⟨⟨y, h'y⟩, -, c⟩ := oB_true (o := asConst x) c
  obtain ⟨⟨v, h'v⟩, -, -⟩ := oB_true c
  exact ⟨_, _, h'y.trans (by rw [h'v])⟩
theorem cE_bool {b : Bool} (c : cE G sc tab (.bool b) x = true) : ∃ k p, x = .Constant (.bool b) k p := by
  obtain ⟨⟨y, h'y⟩, -, c⟩ := oB_true (o := asConst x) c
  obtain ⟨⟨v, h'v⟩, -, c⟩ := oB_true c
  exact ⟨_, _, h'y.trans (by rw [h'v, beq_iff_eq.mp c])⟩
theorem cE_int {i : Int} (c : cE G sc tab (.int i) x = true) : ∃ k p, x = .Constant (.int i) k p := by
  obtain ⟨⟨y, h'y⟩, -, c⟩ := oB_true (o := asConst x) c
  obtain ⟨⟨v, h'v⟩, -, c⟩ := oB_true c
  exact ⟨_, _, h'y.trans (by rw [h'v, beq_iff_eq.mp c])⟩
theorem cE_str {y : String} (c : cE G sc tab (.str y) x = true) : ∃ k p, x = .Constant (.str (Str.ofString y)) k p := by
  obtain ⟨⟨y, h'y⟩, -, c⟩ := oB_true (o := asConst x) c
  obtain ⟨⟨v, h'v⟩, -, c⟩ := oB_true c
  exact ⟨_, _, h'y.trans (by rw [h'v, beq_iff_eq.mp c])⟩
theorem cE_dict0 (c : cE G sc tab .dict0 x = true) : ∃ p, x = .Dict [] [] p := by
  obtain ⟨⟨y, h'y⟩, -, c⟩ := oB_true (o := asDict x) c
  exact ⟨y.2.2, h'y.trans (by rw [isNil (andB c).1, isNil (andB c).2])⟩
theorem cE_comp {j : Nat} {elt src cond : E} (c : cE G sc tab (.comp j elt src cond) x = true) : CComp G sc tab j elt src cond x := by
  obtain ⟨⟨y, h'y⟩, -, c⟩ := oB_true (o := asLComp x) c
  obtain ⟨⟨g, h'g⟩, -, c⟩ := oB_true c
  obtain ⟨⟨n, h'n⟩, -, c⟩ := oB_true c
  obtain ⟨c, c9⟩ := andB c
  obtain ⟨c, c8⟩ := andB c
  obtain ⟨c, c7⟩ := andB c
  obtain ⟨c, c6⟩ := andB c
  obtain ⟨c, c5⟩ := andB c
  obtain ⟨c, c4⟩ := andB c
  obtain ⟨c, c3⟩ := andB c
  have hg : g = ⟨.Name n.1 n.2, g.iter, g.ifs, 0⟩ := (gen_eta g).trans (by rw [h'n, (beq_iff_eq.mp c6 : g.is_async = 0)])
  refine ⟨y.1, n.1, g.iter, g.ifs, y.2.2.1, n.2, y.2.2.2, h'y.trans (by rw [h'g]; exact congrArg (fun g => Expr.ListComp y.1 [g] y.2.2.1 y.2.2.2) hg), (andB c).1, notB (andB c).2, notB c3, notB c4, notB c5, c7, c8, ?_⟩
  rcases orB c9 with c9 | c9
  · obtain ⟨⟨w, h'w⟩, -, -⟩ := oB_true (andB c9).2
    exact .inl ⟨h'w, isNil (andB c9).1⟩
  · obtain ⟨⟨w, h'w⟩, -, c9⟩ := oB_true c9
    exact .inr ⟨w, h'w, c9⟩

end
end
end Mine

namespace Mine
section
open PySem PySem.Calls PyProof.Rows
section
variable {P : Cx} {d : Nat} {X : Nat → AHeap → Prop}

theorem Reps.rev {h : Heap} : ∀ {ws : List Value} {vs : List V}, Reps P h ws vs → Reps P h ws.reverse vs.reverse
  | _, _, .nil => .nil
  | _, _, .cons hr hrs => by rw [List.reverse_cons, List.reverse_cons]; exact (Reps.rev hrs).append (.cons hr .nil)

inductive PostL (P : Cx) (H : AHeap) (h : Heap) (Q : List V → AHeap → Prop) (ws : List Value) (s' : Shared) : Prop where
  | mk (vs : List V) (H' : AHeap) (hr : Reps P s'.heap ws vs) (W : Wd P H' s') (f : Fm H h H' s'.heap) (q : Q vs H') : PostL P H h Q ws s'

structure SoundEs (P : Cx) (d : Nat) (X : Nat → AHeap → Prop) (es : Es) : Prop where
  go : ∀ {xs : List Expr} {sc : Scope} {tab : Tab} {env : Env} {ρ : Ro} {Q : List V → AHeap → Prop} {H : AHeap} {A : Around} {s : Shared},
    cEs P.gl sc tab es xs = true → EnvOk P sc tab env ρ H s.heap → Room P d A H s.heap → Wd P H s → vEs P d X es ρ Q H →
    wpAny (model P.prog P.w) A (spliced (starEach xs env)) (PostL P H s.heap Q) (PostX P H s.heap X) s

theorem cEs_cons {G : Gl} {sc : Scope} {tab : Tab} {e : E} {es : Es} {xs : List Expr} (c : cEs G sc tab (.cons e es) xs = true) : ∃ y ys, xs = y :: ys ∧ isStar y = false ∧ cE G sc tab e y = true ∧ cEs G sc tab es ys = true := by
  cases xs with
  | nil => exact nc c
  | cons y ys =>
    simp only [cEs, Bool.and_eq_true, Bool.not_eq_true'] at c
    exact ⟨y, ys, rfl, c.1.1, c.1.2, c.2⟩
theorem cEs_nil {G : Gl} {sc : Scope} {tab : Tab} {xs : List Expr} (c : cEs G sc tab .nil xs = true) : xs = [] := by
  cases xs with
  | nil => rfl
  | cons y ys => exact nc c

theorem backTo_plain {G : Gl} {sc : Scope} {tab : Tab} {env : Env} {pos : Pos} : ∀ {es : Es} {xs : List Expr}, cEs G sc tab es xs = true → backTo pos (starEach xs env) = starEach xs env ∧ (starEach xs env).any (·.1) = false
  | .nil, xs, c => by rw [cEs_nil c]; exact ⟨rfl, rfl⟩
  | .cons e es, xs, c => by
    obtain ⟨y, ys, rfl, hy, _, c⟩ := cEs_cons c
    obtain ⟨i1, i2⟩ := backTo_plain (env := env) (pos := pos) c
    rw [starEach1 hy]
    refine ⟨?_, by simp [i2]⟩
    show (false, eval y env) :: backTo pos (starEach ys env) = _
    rw [i1]

theorem subscripted_plain {y : Expr} (h : isSlice y = false) (a b : Value) : subscripted y false a b = operate [a, b] (getItem a b) := by
  cases y <;> first | rfl | exact nc' h

theorem attrBase {o : Expr} {name : Str} {env : Env} (h : notSuper o = true) : attributeBase o name env (eval o env) = eval o env := by
  cases o with
  | Call f xs ks p =>
    cases f with
    | Name n q =>
      cases xs with
      | nil =>
        cases ks with
        | nil => exact nc h
        | cons => rfl
      | cons => rfl
    | _ => rfl
  | _ => rfl

theorem sndCallV {g : String} {vs : List V} {ws : List Value} {Q : V → AHeap → Prop} {H : AHeap} {A : Around} {s : Shared} {fa : Addr} (R : Room P d A H s.heap) (W : Wd P H s) (r : Reps P s.heap ws vs) (hf : P.mg (Str.ofString g) = some (.ref fa))
    (q : callV P d X g vs Q H) : wpAny (model P.prog P.w) A (call (.ref fa) ws) (Post P H s.heap Q) (PostX P H s.heap X) s := by
  cases d with
  | zero => exact False.elim q
  | succ d =>
    have q : Call P d g vs Q X H := q
    exact q.go A s ws R W r fa hf

theorem evalArgs_kw1 {M : Model} {A : Around} {E : Value → Shared → Prop} {s : Shared} {f : Value} {k : Str} {x y : Sem Value} {Q : Args → Shared → Prop}
    (h : wpAny M A x (fun v s₁ => wpAny M A y (fun u s₂ => Q ⟨[v], [(k, u)]⟩ s₂) E s₁) E s) : wpAny M A (evalArgs f true [(false, x)] [(some k, y)]) Q E s := by
  unfold evalArgs
  show wpAny M A (spliced [(false, x)] >>= _) Q E s
  refine wpAny_bind (spliced_cons (wpAny_mono h (fun v s₁ h₁ => spliced_nil ?_) fun zz zz e => e))
  refine wpAny_bind (wpAny_pure (wpAny_holding ?_))
  show wpAny M A (evalAll [y] >>= _) Q E _
  refine wpAny_bind ?_
  rw [evalAll]
  refine wpAny_bind (wpAny_mono h₁ (fun u s₂ h₂ => ?_) fun zz zz e => e)
  refine wpAny_bind (wpAny_holding (wpAny_pure (wpAny_pure ?_)))
  exact wpAny_bind (wpAny_pure (wpAny_pure h₂))

section
variable {M : Model} {A : Around} {E : Value → Shared → Prop} {s : Shared} {env : Env}
theorem eval_BoolOp (op : BoolOp) (vs : List Expr) (pos : Pos) : eval (.BoolOp op vs pos) env = boolOp pos op (evalEach vs env) := rfl
theorem boolOp_and {u y : Expr} {rest : List Expr} {p : Pos} {Q : Value → Shared → Prop} (hr : rest = [y] ∨ ∃ v w r, rest = v :: w :: r ∧ y = .BoolOp .And rest p)
    (h : wpAny M A (eval u env) (fun v s₁ => wpAny M A (truthy v) (fun t s₂ => if t then wpAny M A (eval y env) Q E s₂ else Q v s₂) E s₁) E s) : wpAny M A (eval (.BoolOp .And (u :: rest) p) env) Q E s := by
  have key : ∃ r0 rr, evalEach rest env = r0 :: rr ∧ boolOp p .And (r0 :: rr) = eval y env := by
    rcases hr with rfl | ⟨v, w, r, rfl, rfl⟩
    · exact ⟨_, _, rfl, rfl⟩
    · exact ⟨_, _, rfl, rfl⟩
  obtain ⟨r0, rr, e1, e2⟩ := key
  rw [eval_BoolOp]
  show wpAny M A (boolOp p .And (eval u env :: evalEach rest env)) Q E s
  rw [e1, boolOp, e2]
  · refine wpAny_bind (wpAny_mono h (fun v s₁ h₁ => wpAny_bind (wpAny_standAt (wpAny_bind (wpAny_holding (wpAny_mono h₁ (fun t s₂ h₂ => ?_) fun zz zz x => x))))) fun zz zz x => x)
    cases t with
    | false => exact wpAny_pure h₂
    | true => exact h₂
  · simp
theorem boolOp_or {u y : Expr} {rest : List Expr} {p : Pos} {Q : Value → Shared → Prop} (hr : rest = [y] ∨ ∃ v w r, rest = v :: w :: r ∧ y = .BoolOp .Or rest p)
    (h : wpAny M A (eval u env) (fun v s₁ => wpAny M A (truthy v) (fun t s₂ => if t then Q v s₂ else wpAny M A (eval y env) Q E s₂) E s₁) E s) : wpAny M A (eval (.BoolOp .Or (u :: rest) p) env) Q E s := by
  have key : ∃ r0 rr, evalEach rest env = r0 :: rr ∧ boolOp p .Or (r0 :: rr) = eval y env := by
    rcases hr with rfl | ⟨v, w, r, rfl, rfl⟩
    · exact ⟨_, _, rfl, rfl⟩
    · exact ⟨_, _, rfl, rfl⟩
  obtain ⟨r0, rr, e1, e2⟩ := key
  rw [eval_BoolOp]
  show wpAny M A (boolOp p .Or (eval u env :: evalEach rest env)) Q E s
  rw [e1, boolOp, e2]
  · refine wpAny_bind (wpAny_mono h (fun v s₁ h₁ => wpAny_bind (wpAny_standAt (wpAny_bind (wpAny_holding (wpAny_mono h₁ (fun t s₂ h₂ => ?_) fun zz zz x => x))))) fun zz zz x => x)
    cases t with
    | true => exact wpAny_pure h₂
    | false => exact h₂
  · simp
end
end
end
end Mine

namespace Mine
section
open PySem PySem.Calls PyProof.Rows
section
variable {P : Cx} {d : Nat} {X : Nat → AHeap → Prop}

set_option maxHeartbeats 1000000 in
theorem sE_none (F : Facts P)  : SoundE P d X (.none) := .mk fun {x sc tab env ρ Q H A s} c K R W q => by
    obtain ⟨k, p, rfl⟩ := cE_none c
    exact wpAny_Constant_none (postHere' W .none q)

set_option maxHeartbeats 1000000 in
theorem sE_bool (F : Facts P) {b : Bool} : SoundE P d X (.bool b) := .mk fun {x sc tab env ρ Q H A s} c K R W q => by
    obtain ⟨k, p, rfl⟩ := cE_bool c
    exact wpAny_Constant_bool (postHere' W (.bool b) q)

set_option maxHeartbeats 1000000 in
theorem sE_int (F : Facts P) {i : Int} : SoundE P d X (.int i) := .mk fun {x sc tab env ρ Q H A s} c K R W q => by
    obtain ⟨k, p, rfl⟩ := cE_int c
    exact wpAny_Constant_int (postHere W (.int i _) q _)

set_option maxHeartbeats 1000000 in
theorem sE_str (F : Facts P) {y : String} : SoundE P d X (.str y) := .mk fun {x sc tab env ρ Q H A s} c K R W q => by
    obtain ⟨k, p, rfl⟩ := cE_str c
    exact Constant_str (postHere W (.str _ _) q _)

set_option maxHeartbeats 1000000 in
theorem sE_var (F : Facts P) {i : Nat} : SoundE P d X (.var i) := .mk fun {x sc tab env ρ Q H A s} c K R W q => by
    obtain ⟨n, p, rfl, c⟩ := cE_var c
    obtain ⟨v, e, q⟩ := getR_ex q
    exact loadVar K c e fun w r => postHere' W r q

set_option maxHeartbeats 1000000 in
theorem sE_glb (F : Facts P) {g : String} {i : Int} : SoundE P d X (.glb g i) := .mk fun {x sc tab env ρ Q H A s} c K R W q => by
    obtain ⟨n, p, rfl, hm, c⟩ := cE_glb c
    obtain ⟨⟨t, e⟩, hd⟩ := F.cons _ hm
    exact loadGlob F W K c e hd (postHere' W (.int i t) q)

theorem pick_back {α : Type} (l : List α) : ∀ m, m ≤ l.length → (List.range m).filterMap (fun k => l[m - 1 - k]?) = (l.take m).reverse
  | 0, _ => rfl
  | m + 1, h => by
    have hm : m < l.length := h
    rw [List.range_succ_eq_map, List.filterMap_cons, List.filterMap_map, List.take_add_one, List.reverse_append]
    have e : ((fun k => l[m + 1 - 1 - k]?) ∘ Nat.succ) = fun k => l[m - 1 - k]? := by
      funext k
      show l[m + 1 - 1 - (k + 1)]? = _
      rw [show m + 1 - 1 - (k + 1) = m - 1 - k by omega]
    rw [e, pick_back l m (by omega)]
    simp [hm]
theorem pick_rev (items : Array Value) : slicePick items none none (some (-1)) = items.toList.reverse.toArray := by
  have hb : sliceBounds none none (some (-1)) items.size = ((items.size : Int) - 1, -1, -1) := rfl
  have hr : sliceRange ((items.size : Int) - 1) (-1) (-1) = (List.range items.size).map fun k => items.size - 1 - k := by
    unfold sliceRange
    have hc : (if (-1 : Int) > 0 then (if (items.size : Int) - 1 < -1 then (-1 - ((items.size : Int) - 1) + -1 - 1) / -1 else 0) else (if (items.size : Int) - 1 > -1 then ((items.size : Int) - 1 - -1 - -1 - 1) / (- -1) else 0)) = (items.size : Int) := by
      rw [if_neg (by decide)]
      rw [show (- -1 : Int) = 1 from rfl, Int.ediv_one]
      split <;> omega
    dsimp only
    rw [hc, Int.toNat_natCast]
    refine List.map_congr_left fun k hk => ?_
    have := List.mem_range.mp hk
    omega
  unfold slicePick
  rw [hb]
  show ((sliceRange ((items.size : Int) - 1) (-1) (-1)).filterMap (items[·]?)).toArray = _
  rw [hr, List.filterMap_map]
  congr 1
  have := pick_back items.toList items.toList.length (Nat.le_refl _)
  rw [List.take_length] at this
  rw [← this]
  simp [Function.comp_def]

theorem boot_V : bootBuiltins (Str.ofString "ValueError") = some (.type "ValueError") := by kernel_rfl
set_option maxHeartbeats 1000000 in
theorem sE_op1 (F : Facts P) {o : Op1} {e : E} (ih : SoundE P d X e) : SoundE P d X (.op1 o e) := .mk fun {x sc tab env ρ Q H A s} c K R W q => by
    rcases cE_op1 c with ⟨t, f, a, b, p, rfl, rfl, hst, c1, c2, c3⟩ | ⟨f, g, a, p, p', rfl, rfl, hst, c1, c2, c3⟩ | ⟨a, p, rfl, rfl, c3⟩ | ⟨a, k, p1, p2, p3, p4, rfl, rfl, c3⟩ | ⟨g, f, a, p, hg, rfl, hst, c1, c3⟩ | ⟨g, f, a, b, p, hg, rfl, hst, c1, c2, c3⟩
    rotate_left 5
    · cases b with
      | Name nb pb =>
        refine callName F W K c1 (by decide) boot_isinstance (call2 rfl hst rfl ?_)
        refine thenV (ih.go c3 K R W q) fun w r H1 s1 hr W1 f1 q1 => ?_
        cases o with
        | isX k =>
          have hg : P.gl.xs[k]? = some g := hg
          obtain ⟨m1, m2⟩ := (F.cls k g hg).at_
          exact loadGlob F W1 (K.step W f1) c2 m1 m2 (liftP f1 (snd_isX F hg W1 hr q1))
        | isV =>
          obtain rfl : "ValueError" = g := Option.some.inj hg
          exact loadBlt F W1 (K.step W f1) c2 (by decide) boot_V (liftP f1 (snd_isV F W1 hr q1))
        | _ => exact noneAny hg
      | _ => exact nc c2
    · cases b with
      | Name nb pb =>
        refine callName F W K c1 (by decide) boot_isinstance (call2 rfl hst rfl ?_)
        refine thenV (ih.go c3 K R W q) fun w r H1 s1 hr W1 f1 q1 => ?_
        exact loadBlt F W1 (K.step W f1) c2 (ty_mem t) (boot_ty t) (liftP f1 (snd_isI W1 hr q1))
      | _ => simp [cGlob] at c2
    · refine callName F W K c1 (by decide) boot_len (call1 rfl rfl ?_)
      refine callName F W K c2 (by decide) boot_set (call1 rfl hst ?_)
      refine thenV (ih.go c3 K R W q) fun w r H1 s1 hr W1 f1 q1 => ?_
      refine wpAny_mono (snd_lenSet (E := PostX P H1 s1.heap X) (R.step f1) W1 hr q1) (fun x s2 h2 => liftP f1 h2) fun zz zz y => y.trans f1
    · exact wpAny_UnaryOp (one (S := fun v Q H => sem1 P d .neg v Q H) ih c3 K R W q fun H2 s2 w v W2 zz zz r2 q2 => snd_neg W2 r2 q2)
    · refine Subscript_ (thenV (ih.go c3 K R W q) fun w r H1 s1 hr W1 f1 q1 => ?_)
      refine wpAny_Slice (wpAny_evalPart_none (wpAny_evalPart_none (wpAny_evalPart_some (wpAny_UnaryOp (wpAny_Constant_int (PyProof.Rows.neg_int ?_))))))
      induction w, r, hr using Rep.elim with
      | lst a =>
        obtain ⟨xs, e1, q1⟩ := q1
        have W1' := W1.toks (s1.toks + 1 + 1)
        obtain ⟨ws, hl, hr, hz⟩ := plain_of W1' e1
        refine liftP f1 ?_
        refine slice_list (s := { s1 with toks := s1.toks + 1 + 1 }) (us := ws.reverse) W1' e1 hl (by rw [hr.length]; exact Lim_size hz) .none .none (.int (-1) _) (by simp) (by rw [pick_rev]) ?_ q1 (fun x y => ⟨_, rfl⟩)
        exact Reps.rev hr
      | _ => exact False.elim q1
    · obtain ⟨hb, fv, hv, hm, hs⟩ := fun1_snd (P := P) (d := d) hg F
      exact callName F W K c1 hb hv (call1 hm hst (one (S := fun v Q H => sem1 P d o v Q H) ih c3 K R W q fun H2 s2 w v W2 R2 zz r2 q2 => hs W2 R2 r2 q2))

set_option maxHeartbeats 1000000 in
theorem sE_op2 (F : Facts P) {o : Op2} {a b : E} (ia : SoundE P d X a) (ib : SoundE P d X b) : SoundE P d X (.op2 o a b) := .mk fun {x sc tab env ρ Q H A s} c K R W q => by
    rcases cE_op2 c with ⟨u, op, v, p, ho, rfl, c1, c2⟩ | ⟨u, op, v, p, ho, rfl, hs, c1, c2⟩ | ⟨u, v, p, p', rfl, rfl, c1, c2⟩ | ⟨u, v, p, p', rfl, rfl, c1, c2⟩ | ⟨u, v, p, rfl, rfl, hs, c1, c2⟩ | ⟨f, u, v, p, p', rfl, rfl, hst, c0, c1, c2⟩ | ⟨g, f, u, v, p, hg, rfl, hst, hst2, c0, c1, c2⟩
    · exact wpAny_BinOp (two (S := sem2 P d o) ia ib c1 c2 K R W q fun H2 s2 w v w' v' W2 R2 zz r2 r2' q2 => snd_arith ho W2 r2 r2' q2)
    · refine wpAny_Compare1 (two (S := sem2 P d o) ia ib c1 c2 K R W q fun H2 s2 w v w' v' W2 R2 zz r2 r2' q2 => snd_cmp ho R2 W2 r2 r2' q2) ?_
      cases v <;> first | rfl | exact nc' hs
    · refine Subscript_ (thenV (ia.go c1 K R W q) fun w r H1 s1 hr W1 f1 q1 => ?_)
      refine wpAny_Slice (wpAny_evalPart_none (wpAny_evalPart_some ?_))
      refine liftE f1 (thenV (ib.go c2 (K.step W f1) (R.step f1) W1 q1) fun w' r' H2 s2 hr' W2 f2 q2 => wpAny_evalPart_none ?_)
      exact liftP (f1.trans f2) (snd_sliceTo W2 (hr.step W1 f2) hr' q2 fun x y => ⟨_, rfl⟩)
    · refine Subscript_ (thenV (ia.go c1 K R W q) fun w r H1 s1 hr W1 f1 q1 => ?_)
      refine wpAny_Slice (wpAny_evalPart_some ?_)
      refine liftE f1 (thenV (ib.go c2 (K.step W f1) (R.step f1) W1 q1) fun w' r' H2 s2 hr' W2 f2 q2 => wpAny_evalPart_none (wpAny_evalPart_none ?_))
      exact liftP (f1.trans f2) (snd_sliceFrom W2 (hr.step W1 f2) hr' q2 fun x y => ⟨_, rfl⟩)
    · exact Subscript_ (two (S := sem2 P d .item) ia ib c1 c2 K R W q fun H2 s2 w v' w' v'' W2 R2 zz r2 r2' q2 => snd_item F W2 r2 r2' q2 (subscripted_plain hs))
    · refine callName F W K c0 (by decide) boot_max ?_
      rw [starEach1 hst]
      refine callWith_machine rfl rfl rfl (evalArgs_kw1 ?_)
      have y := two (tree := fun w w' => call (.builtin "max") [w] [(Str.ofString "default", w')]) (S := sem2 P d .maxD) ia ib c1 c2 K R W q fun H2 s2 w v w' v' W2 R2 zz r2 r2' q2 => snd_maxD R2 W2 r2 r2' q2
      exact wpAny_mono y (fun w s1 h1 => wpAny_bind (wpAny_mono h1 (fun w' s2 h2 => wpAny_bind (wpAny_standAt (wpAny_pure h2))) fun zz zz e => e)) fun zz zz e => e
    · obtain ⟨hb, fv, hv, hm, hs⟩ := fun2_snd (P := P) (d := d) hg
      exact callName F W K c0 hb hv (call2 hm hst hst2 (two (S := sem2 P d o) ia ib c1 c2 K R W q fun H2 s2 w v w' v' W2 R2 zz r2 r2' q2 => hs W2 R2 r2 r2' q2))

theorem recv_lst {o : Op2} {v : V} {H : AHeap} (hne : o ≠ .dget) (h : recv o v H) : ∃ a xs, v = .lst a ∧ H a = some (.list xs) := by
  cases v with
  | lst a => exact ⟨a, let ⟨xs, e⟩ := (by cases o <;> first | exact h | exact absurd rfl hne : ∃ xs, H a = some (.list xs)); ⟨xs, rfl, e⟩⟩
  | _ => exact False.elim (by cases o <;> first | exact h | exact absurd rfl hne)

set_option maxHeartbeats 1000000 in
theorem sE_meth (F : Facts P) {o : Op2} {a b : E} (ia : SoundE P d X a) (ib : SoundE P d X b) : SoundE P d X (.meth o a b) := .mk fun {x sc tab env ρ Q H A s} c K R W q => by
    obtain ⟨g, u, v, ap, p, hg, rfl, hv, hu, hln, c1, c2⟩ := cE_meth c
    refine wpAny_Call_method1_late (attrBase hu) hln (by rw [starEach1 hv]; rfl) (thenV (ia.go c1 K R W q) fun w r H1 s1 hr W1 f1 ⟨hrc, q1⟩ => ?_)
    have tail : wpAny (model P.prog P.w) A (callWith p (.builtin (methId o)) [w] [(false, eval v env)] []) (Post P H s.heap Q) (PostX P H s.heap X) s1 := by
      refine callWith_builtin rfl (evalArgs_plain (spliced_cons ?_))
      refine liftE f1 (thenV (ib.go c2 (K.step W f1) (R.step f1) W1 q1) fun w' r' H2 s2 hr' W2 f2 q2 => spliced_nil ?_)
      exact liftP (f1.trans f2) (snd_meth hg F W2 (hr.step W1 f2) hr' q2)
    rcases meth_slot hg with ⟨rfl, sl, ty⟩ | ⟨hne, sl, ty⟩
    · induction w, r, hr using Rep.elim with
      | dct a =>
        obtain ⟨kvs, ep, e1⟩ := hrc
        obtain ⟨ws, hd, _⟩ := W1.hs a _ e1
        exact ⟨"dict", _, PySem.F.plainAttrs_dict, sl, ty, hd.dictOf.typeIs, hd.dictOf.mapOf.noDict, tail⟩
      | _ => exact False.elim hrc
    · obtain ⟨a, xs, rfl, e1⟩ := recv_lst hne hrc
      obtain rfl : w = _ := hr.inv
      · obtain ⟨ws, ⟨n, ho⟩, _⟩ := plain_of W1 e1
        exact ⟨"list", _, PySem.F.plainAttrs_list, sl, ty, ⟨_, ho, rfl⟩, fun b e => by cases e; exact ⟨_, ho, rfl⟩, tail⟩

set_option maxHeartbeats 1000000 in
theorem sE_not (F : Facts P) {e : E} (ih : SoundE P d X e) : SoundE P d X (.not e) := .mk fun {x sc tab env ρ Q H A s} c K R W q => by
    obtain ⟨u, p, rfl, c1⟩ := cE_not c
    refine wpAny_UnaryOp (thenV (ih.go c1 K R W q) fun w r H1 s1 hr W1 f1 q1 => ?_)
    induction w, r, hr using Rep.elim with
    | bool b => exact not_of (wpAny_truthy_bool ((postHere' W1 (.bool _) q1).trans f1))
    | _ => exact False.elim q1

set_option maxHeartbeats 1000000 in
theorem sE_and (F : Facts P) {a b : E} (ia : SoundE P d X a) (ib : SoundE P d X b) : SoundE P d X (.and a b) := .mk fun {x sc tab env ρ Q H A s} c K R W q => by
    obtain ⟨u, rest, p, y, rfl, c1, c2, hrest⟩ := cE_and c
    refine boolOp_and hrest (thenV (ia.go c1 K R W q) fun w r H1 s1 hr W1 f1 q1 => ?_)
    induction w, r, hr using Rep.elim with
    | bool t =>
      refine wpAny_truthy_bool ?_
      cases t with
      | false => exact (postHere' W1 (.bool false) (br.no q1)).trans f1
      | true => exact liftP f1 (ib.go c2 (K.step W f1) (R.step f1) W1 (br.yes q1))
    | _ => exact False.elim q1

set_option maxHeartbeats 1000000 in
theorem sE_or (F : Facts P) {a b : E} (ia : SoundE P d X a) (ib : SoundE P d X b) : SoundE P d X (.or a b) := .mk fun {x sc tab env ρ Q H A s} c K R W q => by
    obtain ⟨u, rest, p, y, rfl, c1, c2, hrest⟩ := cE_or c
    refine boolOp_or hrest (thenV (ia.go c1 K R W q) fun w r H1 s1 hr W1 f1 q1 => ?_)
    induction w, r, hr using Rep.elim with
    | bool t =>
      refine wpAny_truthy_bool ?_
      cases t with
      | true => exact (postHere' W1 (.bool true) (br.yes q1)).trans f1
      | false => exact liftP f1 (ib.go c2 (K.step W f1) (R.step f1) W1 (br.no q1))
    | _ => exact False.elim q1

set_option maxHeartbeats 1000000 in
theorem sE_chain (F : Facts P) {o₁ o₂ : Op2} {a b e : E} (ia : SoundE P d X a) (ib : SoundE P d X b) (ie : SoundE P d X e) : SoundE P d X (.chain o₁ o₂ a b e) := .mk fun {x sc tab env ρ Q H A s} c K R W q => by
    obtain ⟨u, v, z, p, q', pos, ho1, ho2, rfl, hs1, hs2, c1, c2, c3⟩ := cE_chain c
    refine Compare_chain (thenV (ia.go c1 K R W q) fun w r H1 s1 hr W1 f1 q1 => chain_link ?_) ?_
    · refine liftE f1 (thenV (ib.go c2 (K.step W f1) (R.step f1) W1 q1) fun w' r' H2 s2 hr' W2 f2 q2 => ?_)
      have f12 := f1.trans f2
      refine liftE f12 (thenV (snd_cmp (E := PostX P H2 s2.heap X) ho1 (R.step f12) W2 (hr.step W1 f2) hr' q2) fun w3 r3 H3 s3 hr3 W3 f3 q3 => ?_)
      have f13 := f12.trans f3
      cases hr3 with
      | bool t =>
        refine wpAny_truthy_bool ?_
        cases t with
        | false => exact (postHere' W3 (.bool false) (br.no q3)).trans f13
        | true =>
          refine chain_last ?_
          refine liftE f13 (thenV (ie.go c3 (K.step W f13) (R.step f13) W3 (br.yes q3)) fun w4 r4 H4 s4 hr4 W4 f4 q4 => ?_)
          have f14 := f13.trans f4
          exact liftP f14 (snd_cmp ho2 (R.step f14) W4 (hr'.step W2 (f3.trans f4)) hr4 q4)
      | _ => exact False.elim q3
    · show behindInMarks q' z = false
      cases z <;> first | rfl | exact nc' hs2

set_option maxHeartbeats 1000000 in
theorem sE_tup (F : Facts P) {es : Es} (ih : SoundEs P d X es) : SoundE P d X (.tup es) := .mk fun {x sc tab env ρ Q H A s} c K R W q => by
    obtain ⟨xs, k, p, rfl, c1⟩ := cE_tup c
    obtain ⟨hb, _⟩ := backTo_plain (env := _) (pos := p) c1
    refine Tuple_ ?_
    rw [hb]
    refine wpAny_mono (ih.go c1 K R W q) (fun ws s1 ⟨vs, H1, hr, W1, f1, hz, q1⟩ => ?_) fun zz zz e => e
    refine wpAny_newTuple ?_ (by rw [hr.length]; exact Lim_size hz)
    have hk : ∀ b o, s1.heap.get? b = some o → (s1.heap.push { cls := .type "tuple", data := .seq ws.toArray }).get? b = some o := fun b o e => Heap.get?_push_of_some _ e
    exact (postGrow (t := s1.toks) W1 hk (.tup ⟨_, Heap.get?_push_size _ rfl, rfl, 0, rfl⟩ (hr.mono (.of_keeps hk))) q1).trans f1

set_option maxHeartbeats 1000000 in
theorem sE_lst (F : Facts P) {es : Es} (ih : SoundEs P d X es) : SoundE P d X (.lst es) := .mk fun {x sc tab env ρ Q H A s} c K R W q => by
    obtain ⟨xs, p, rfl, c1⟩ := cE_lst c
    obtain ⟨hb, _⟩ := backTo_plain (env := _) (pos := p) c1
    refine List_ ?_
    rw [hb]
    refine wpAny_mono (ih.go c1 K R W q) (fun ws s1 ⟨vs, H1, hr, W1, f1, q1⟩ => ?_) fun zz zz e => e
    refine wpAny_newList ?_ (by rw [hr.length]; exact Lim_size q1.1)
    exact (postNewL (t := s1.toks) W1 q1 hr (fun b o e => Heap.get?_push_of_some _ e) (get?_size _) ⟨0, Heap.get?_push_size _ rfl⟩).trans f1

set_option maxHeartbeats 1000000 in
theorem sE_dict0 (F : Facts P)  : SoundE P d X (.dict0) := .mk fun {x sc tab env ρ Q H A s} c K R W q => by
    obtain ⟨p, rfl⟩ := cE_dict0 c
    refine wpAny_Dict_empty ?_
    have hk : ∀ b o, s.heap.get? b = some o → (s.heap.push { cls := .type "dict", data := .dict #[] }).get? b = some o := fun b o e => Heap.get?_push_of_some _ e
    have ha := get?_size s.heap
    exact ⟨.dct _, H.upd s.heap.objs.size (.dict [] 0), .dct _, ((W.grow (s' := { s with heap := s.heap.push { cls := .type "dict", data := .dict #[] } }) hk rfl rfl).put (c := .dict [] 0) _ (W.newBase ha) ⟨[], ⟨_, #[], Heap.get?_push_size _ rfl, ⟨rfl, rfl, rfl⟩, rfl, fun zz he => by simp at he, Pairs.nil, List.nodup_nil⟩, rfl, .nil, Nat.zero_le _⟩), (Fm.grow hk).put ha, q _ (W.noneOf ha)⟩

set_option maxHeartbeats 1000000 in
theorem sE_call (F : Facts P) {g : String} {es : Es} (ih : SoundEs P d X es) : SoundE P d X (.call g es) := .mk fun {x sc tab env ρ Q H A s} c K R W q => by
    obtain ⟨f, y, xs, p, rfl, hg, c0, hlen, c1⟩ := cE_call c
    obtain ⟨⟨fa, o, fd, hf, ho, hd⟩, hdb⟩ := F.fns g hg
    cases f with
    | Name n pn =>
      obtain ⟨hb, _⟩ := backTo_plain (env := _) (pos := p) c1
      refine wpAny_Call_NameR (loadGlob F W K c0 hf hdb ?_)
      rw [hb]
      obtain ⟨y', ys', e', hy, _, _⟩ : ∃ y' ys', y :: xs = y' :: ys' ∧ isStar y' = false ∧ True ∧ True := by
        cases es with
        | nil => exact nc c1
        | cons e es => obtain ⟨y', ys', e', hy, _⟩ := cEs_cons c1; exact ⟨y', ys', e', hy, trivial, trivial⟩
      cases e'
      have hh := ih.go c1 K R W q
      rw [starEach1 hy] at hh ⊢
      refine callWith_function (o := o) (fd := fd) (evalArgs_plain (wpAny_mono hh (fun ws s1 ⟨vs, H1, hr, W1, f1, q1⟩ => ?_) fun zz zz e => e))
      exact ⟨⟨W1.base _ _ ho, hd⟩, liftP f1 (sndCallV (R.step f1) W1 hr hf q1)⟩
    | _ => simp [cGlob] at c0

theorem sEs_nil : SoundEs P d X .nil := .mk fun {x sc tab env ρ Q H A s} c K R W q => by
    rw [cEs_nil c]
    exact spliced_nil ⟨[], _, .nil, W, .refl _ _, q⟩
theorem sEs_cons {e : E} {es : Es} (ih : SoundE P d X e) (ihs : SoundEs P d X es) : SoundEs P d X (.cons e es) := .mk fun {x sc tab env ρ Q H A s} c K R W q => by
    obtain ⟨y, ys, rfl, hy, c1, c2⟩ := cEs_cons c
    rw [starEach1 hy]
    refine spliced_cons (thenV (ih.go c1 K R W q) fun w r H1 s1 hr W1 f1 q1 => ?_)
    refine liftE f1 (wpAny_mono (ihs.go c2 (K.step W f1) (R.step f1) W1 q1) (fun ws s2 ⟨vs, H2, hrs, W2, f2, q2⟩ => ?_) fun zz zz e => e)
    exact ⟨_, H2, .cons (hr.step W1 f2) hrs, W2, f1.trans f2, q2⟩
end
end
end Mine

namespace Mine
section
open PySem PySem.Calls PyProof.Rows
section
variable {P : Cx} {d : Nat} {X : Nat → AHeap → Prop}

inductive PostB (P : Cx) (H : AHeap) (h : Heap) (Q : Bool → AHeap → Prop) (b : Bool) (s' : Shared) : Prop where
  | mk (H' : AHeap) (W : Wd P H' s') (f : Fm H h H' s'.heap) (q : Q b H') : PostB P H h Q b s'
theorem PostB.trans {H H1 : AHeap} {h h1 : Heap} {Q : Bool → AHeap → Prop} {b : Bool} {s' : Shared} (x : Fm H h H1 h1) (y : PostB P H1 h1 Q b s') : PostB P H h Q b s' :=
  let ⟨H', a, c, q⟩ := y; ⟨H', a, x.trans c, q⟩
theorem liftB {H H1 : AHeap} {h h1 : Heap} {Q : Bool → AHeap → Prop} {M : Model} {A : Around} {s : Shared} {m : Sem Bool} (f : Fm H h H1 h1) (x : wpAny M A m (PostB P H1 h1 Q) (PostX P H1 h1 X) s) : wpAny M A m (PostB P H h Q) (PostX P H h X) s :=
  wpAny_mono x (fun zz zz y => y.trans f) fun zz zz y => y.trans f

structure SoundT (P : Cx) (d : Nat) (X : Nat → AHeap → Prop) (e : E) : Prop where
  go : ∀ {x : Expr} {sc : Scope} {tab : Tab} {env : Env} {ρ : Ro} {Q : Bool → AHeap → Prop} {H : AHeap} {A : Around} {s : Shared},
    cE P.gl sc tab e x = true → EnvOk P sc tab env ρ H s.heap → Room P d A H s.heap → Wd P H s → vE P d X e ρ (fun v H => truthV v (Q · H)) H →
    wpAny (model P.prog P.w) A (isTrue x env (eval x env)) (PostB P H s.heap Q) (PostX P H s.heap X) s

noncomputable def plainX : Expr → Bool
  | .UnaryOp .Not _ _ => false
  | .BoolOp .. => false
  | .IfExp .. => false
  | .Compare .. => false
  | _ => true

theorem isTrue_plainX {x : Expr} {env : Env} {whole : Sem Value} (h : plainX x = true) : isTrue x env whole = (do let v ← whole; standAt x.pos; holding [v] (truthy v)) := by
  cases x with
  | UnaryOp op y p => cases op <;> first | rfl | exact nc h
  | BoolOp => exact nc h
  | IfExp => exact nc h
  | Compare => exact nc h
  | _ => rfl

theorem sndT_plain {e : E} (ih : SoundE P d X e) {x : Expr} {sc : Scope} {tab : Tab} {env : Env} {ρ : Ro} {Q : Bool → AHeap → Prop} {H : AHeap} {A : Around} {s : Shared} (hx : plainX x = true)
    (c : cE P.gl sc tab e x = true) (K : EnvOk P sc tab env ρ H s.heap) (R : Room P d A H s.heap) (W : Wd P H s) (q : vE P d X e ρ (fun v H => truthV v (Q · H)) H) :
    wpAny (model P.prog P.w) A (isTrue x env (eval x env)) (PostB P H s.heap Q) (PostX P H s.heap X) s := by
  refine wpAny_isTrue_value (thenV (ih.go c K R W q) fun w r H1 s1 hr W1 f1 q1 => ?_) (isTrue_plainX hx)
  induction w, r, hr using Rep.elim with
  | bool b => exact wpAny_truthy_bool ⟨H1, W1, f1, q1⟩
  | _ => exact False.elim q1

theorem sT_not {e : E} (it : SoundT P d X e) : SoundT P d X (.not e) := .mk fun {x sc tab env ρ Q H A s} c K R W q => by
    obtain ⟨u, p, rfl, c1⟩ := cE_not c
    have q : vE P d X e ρ (fun v H => truthV v fun b => Q (!b) H) H := q
    exact wpAny_isTrue_Not (wpAny_mono (it.go (Q := fun b H => Q (!b) H) c1 K R W q) (fun b s1 ⟨H1, W1, f1, q1⟩ => ⟨H1, W1, f1, q1⟩) fun zz zz y => y)

theorem sT_and {a b : E} (ita : SoundT P d X a) (itb : SoundT P d X b) : SoundT P d X (.and a b) := .mk fun {x sc tab env ρ Q H A s} c K R W q => by
    obtain ⟨u, rest, p, y, rfl, c1, c2, hrest⟩ := cE_and c
    have q : vE P d X a ρ (fun v H => truthV v fun t => br t (vE P d X b ρ (fun v H => truthV v (Q · H)) H) (Q false H)) H := q
    refine wpAny_isTrue_BoolOp (wpAny_allTrue_And_cons ?_)
    refine wpAny_mono (ita.go (Q := fun t H => br t (vE P d X b ρ (fun v H => truthV v (Q · H)) H) (Q false H)) c1 K R W q) (fun t s1 ⟨H1, W1, f1, q1⟩ => ?_) fun zz zz e => e
    cases t with
    | false => exact ⟨H1, W1, f1, br.no q1⟩
    | true =>
      have h2 := liftB f1 (itb.go (Q := Q) c2 (K.step W f1) (R.step f1) W1 (br.yes q1))
      rcases hrest with rfl | ⟨v, w, r, rfl, rfl⟩
      · refine wpAny_allTrue_And_cons (wpAny_mono h2 (fun t s2 h => ?_) fun zz zz e => e)
        cases t with
        | false => exact h
        | true => exact wpAny_allTrue_And_nil h
      · exact h2

theorem sT_or {a b : E} (ita : SoundT P d X a) (itb : SoundT P d X b) : SoundT P d X (.or a b) := .mk fun {x sc tab env ρ Q H A s} c K R W q => by
    obtain ⟨u, rest, p, y, rfl, c1, c2, hrest⟩ := cE_or c
    have q : vE P d X a ρ (fun v H => truthV v fun t => br t (Q true H) (vE P d X b ρ (fun v H => truthV v (Q · H)) H)) H := q
    refine wpAny_isTrue_BoolOp (wpAny_allTrue_Or_cons ?_)
    refine wpAny_mono (ita.go (Q := fun t H => br t (Q true H) (vE P d X b ρ (fun v H => truthV v (Q · H)) H)) c1 K R W q) (fun t s1 ⟨H1, W1, f1, q1⟩ => ?_) fun zz zz e => e
    cases t with
    | true => exact ⟨H1, W1, f1, br.yes q1⟩
    | false =>
      have h2 := liftB f1 (itb.go (Q := Q) c2 (K.step W f1) (R.step f1) W1 (br.no q1))
      rcases hrest with rfl | ⟨v, w, r, rfl, rfl⟩
      · refine wpAny_allTrue_Or_cons (wpAny_mono h2 (fun t s2 h => ?_) fun zz zz e => e)
        cases t with
        | true => exact h
        | false => exact wpAny_allTrue_Or_nil h
      · exact h2

theorem sT_chain {o₁ o₂ : Op2} {a b e : E} (ia : SoundE P d X a) (ib : SoundE P d X b) (ie : SoundE P d X e) : SoundT P d X (.chain o₁ o₂ a b e) := .mk fun {x sc tab env ρ Q H A s} c K R W q => by
    obtain ⟨u, v, z, p, q', pos, ho1, ho2, rfl, hs1, hs2, c1, c2, c3⟩ := cE_chain c
    refine isTrue_chain (thenV (ia.go c1 K R W q) fun w r H1 s1 hr W1 f1 q1 => test_link ?_) ?_
    · refine liftE f1 (thenV (ib.go c2 (K.step W f1) (R.step f1) W1 q1) fun w' r' H2 s2 hr' W2 f2 q2 => ?_)
      have f12 := f1.trans f2
      refine liftE f12 (thenV (snd_cmp (E := PostX P H2 s2.heap X) ho1 (R.step f12) W2 (hr.step W1 f2) hr' q2) fun w3 r3 H3 s3 hr3 W3 f3 q3 => ?_)
      have f13 := f12.trans f3
      cases hr3 with
      | bool t =>
        refine wpAny_truthy_bool ?_
        cases t with
        | false => exact ⟨H3, W3, f13, br.no q3⟩
        | true =>
          refine test_last ?_
          refine liftE f13 (thenV (ie.go c3 (K.step W f13) (R.step f13) W3 (br.yes q3)) fun w4 r4 H4 s4 hr4 W4 f4 q4 => ?_)
          have f14 := f13.trans f4
          refine liftE f14 (thenV (snd_cmp (E := PostX P H4 s4.heap X) ho2 (R.step f14) W4 (hr'.step W2 (f3.trans f4)) hr4 q4) fun w5 r5 H5 s5 hr5 W5 f5 q5 => ?_)
          cases hr5 with
          | bool b => exact wpAny_truthy_bool ⟨H5, W5, f14.trans f5, q5⟩
          | _ => exact False.elim q5
      | _ => exact False.elim q3
    · show behindInMarks q' z = false
      cases z <;> first | rfl | exact nc' hs2

theorem sT_op2 {o : Op2} {a b : E} (ia : SoundE P d X a) (ib : SoundE P d X b) (iw : SoundE P d X (.op2 o a b)) : SoundT P d X (.op2 o a b) := .mk fun {x sc tab env ρ Q H A s} c K R W q => by
    have hp := fun h => sndT_plain (x := x) iw h c K R W q
    rcases cE_op2 c with ⟨u, op, v, p, ho, rfl, c1, c2⟩ | ⟨u, op, v, p, ho, rfl, hs, c1, c2⟩ | ⟨u, v, p, p', rfl, rfl, c1, c2⟩ | ⟨u, v, p, p', rfl, rfl, c1, c2⟩ | ⟨u, v, p, rfl, rfl, hs, c1, c2⟩ | ⟨f, u, v, p, p', rfl, rfl, hst, c0, c1, c2⟩ | ⟨g, f, u, v, p, hg, rfl, hst, hst2, c0, c1, c2⟩
    · exact hp rfl
    · refine wpAny_isTrue_Compare1 (thenV (ia.go c1 K R W q) fun w r H1 s1 hr W1 f1 q1 => ?_) ?_
      · refine liftE f1 (thenV (ib.go c2 (K.step W f1) (R.step f1) W1 q1) fun w' r' H2 s2 hr' W2 f2 q2 => ?_)
        have f12 := f1.trans f2
        refine liftE f12 (thenV (snd_cmp (E := PostX P H2 s2.heap X) ho (R.step f12) W2 (hr.step W1 f2) hr' q2) fun w3 r3 H3 s3 hr3 W3 f3 q3 => ?_)
        cases hr3 with
        | bool t => exact wpAny_truthy_bool ⟨H3, W3, f12.trans f3, q3⟩
        | _ => exact False.elim q3
      · cases v <;> first | rfl | exact nc' hs
    · exact hp rfl
    · exact hp rfl
    · exact hp rfl
    · exact hp rfl
    · exact hp rfl

theorem sT_op1 {o : Op1} {e : E} (iw : SoundE P d X (.op1 o e)) : SoundT P d X (.op1 o e) := .mk fun {x sc tab env ρ Q H A s} c K R W q => by
    have hp := fun h => sndT_plain (x := x) iw h c K R W q
    rcases cE_op1 c with ⟨t, f, a, b, p, rfl, rfl, hst, c1, c2, c3⟩ | ⟨f, g, a, p, p', rfl, rfl, hst, c1, c2, c3⟩ | ⟨a, p, rfl, rfl, c3⟩ | ⟨a, k, p1, p2, p3, p4, rfl, rfl, c3⟩ | ⟨g, f, a, p, hg, rfl, hst, c1, c3⟩ | ⟨g, f, a, b, p, hg, rfl, hst, c1, c2, c3⟩
    all_goals exact hp rfl

theorem sT_none  (iw : SoundE P d X (.none)) : SoundT P d X (.none) := .mk fun {x sc tab env ρ Q H A s} c K R W q => False.elim q

theorem sT_bool {b : Bool} (iw : SoundE P d X (.bool b)) : SoundT P d X (.bool b) := .mk fun {x sc tab env ρ Q H A s} c K R W q => by
    obtain ⟨k, p, rfl⟩ := cE_bool c
    exact sndT_plain iw rfl c K R W q

theorem sT_int {i : Int} (iw : SoundE P d X (.int i)) : SoundT P d X (.int i) := .mk fun {x sc tab env ρ Q H A s} c K R W q => False.elim q

theorem sT_str {y : String} (iw : SoundE P d X (.str y)) : SoundT P d X (.str y) := .mk fun {x sc tab env ρ Q H A s} c K R W q => False.elim q

theorem sT_var {i : Nat} (iw : SoundE P d X (.var i)) : SoundT P d X (.var i) := .mk fun {x sc tab env ρ Q H A s} c K R W q => by
    have c' := c
    obtain ⟨n, p, rfl, _⟩ := cE_var c'
    exact sndT_plain iw rfl c K R W q

theorem sT_glb {g : String} {i : Int} (iw : SoundE P d X (.glb g i)) : SoundT P d X (.glb g i) := .mk fun {x sc tab env ρ Q H A s} c K R W q => False.elim q

theorem sT_meth {o : Op2} {a b : E} (iw : SoundE P d X (.meth o a b)) : SoundT P d X (.meth o a b) := .mk fun {x sc tab env ρ Q H A s} c K R W q => by
    have c' := c
    obtain ⟨g, u, v, ap, p, hg, rfl, _⟩ := cE_meth c'
    exact sndT_plain iw rfl c K R W q

theorem sT_tup {es : Es} (iw : SoundE P d X (.tup es)) : SoundT P d X (.tup es) := .mk fun {x sc tab env ρ Q H A s} c K R W q => by
    have c' := c
    obtain ⟨xs, k, p, rfl, _⟩ := cE_tup c'
    exact sndT_plain iw rfl c K R W q

theorem sT_lst {es : Es} (iw : SoundE P d X (.lst es)) : SoundT P d X (.lst es) := .mk fun {x sc tab env ρ Q H A s} c K R W q => by
    have c' := c
    obtain ⟨xs, p, rfl, _⟩ := cE_lst c'
    exact sndT_plain iw rfl c K R W q

theorem sT_dict0  (iw : SoundE P d X (.dict0)) : SoundT P d X (.dict0) := .mk fun {x sc tab env ρ Q H A s} c K R W q => by
    have c' := c
    obtain ⟨p, rfl⟩ := cE_dict0 c'
    exact sndT_plain iw rfl c K R W q

theorem sT_call {g : String} {es : Es} (iw : SoundE P d X (.call g es)) : SoundT P d X (.call g es) := .mk fun {x sc tab env ρ Q H A s} c K R W q => by
    have c' := c
    obtain ⟨f, y, xs, p, rfl, _⟩ := cE_call c'
    exact sndT_plain iw rfl c K R W q

theorem sT_comp {j : Nat} {elt src cond : E} (iw : SoundE P d X (.comp j elt src cond)) : SoundT P d X (.comp j elt src cond) := .mk fun {x sc tab env ρ Q H A s} c K R W q => by
    have c' := c
    obtain ⟨y, p, i, ifs, sc', px, pos, rfl, _⟩ := cE_comp c'
    exact sndT_plain iw rfl c K R W q
end
end
end Mine

namespace Mine
section
open PySem PySem.Calls PyProof.Rows
theorem closure_spec (env : Env) : ∀ (names : List (Str × NameKind)) (acc : List (Str × Addr)), (∀ p ∈ names, p.2 = .free → ∃ c, env.cells.lookup p.1 = some c) →
    ∃ cl, (forIn names acc (fun (p : Str × NameKind) (cs : List (Str × Addr)) => if p.2 == .free then (do let a ← cellOf env p.1; pure (ForInStep.yield ((p.1, a) :: cs)) : Sem (ForInStep (List (Str × Addr)))) else pure (.yield cs))) = (pure cl : Sem (List (Str × Addr))) ∧
      ∀ n, cl.lookup n = if (∃ p ∈ names, p.1 = n ∧ p.2 = .free) then env.cells.lookup n else acc.lookup n := by
  classical
  intro names
  induction names with
  | nil => intro acc _; exact ⟨acc, rfl, fun n => by simp⟩
  | cons p r ih =>
    intro acc h
    obtain ⟨n0, k⟩ := p
    rw [List.forIn_cons]
    by_cases hk : k = .free
    · subst hk
      obtain ⟨c, hc⟩ := h (n0, .free) (by simp) rfl
      have hc' : env.cells.lookup n0 = some c := hc
      obtain ⟨cl, e1, e2⟩ := ih ((n0, c) :: acc) fun q hq => h q (List.mem_cons_of_mem _ hq)
      have e0 : cellOf env n0 = pure c := by unfold cellOf; rw [hc']
      refine ⟨cl, ?_, fun n => ?_⟩
      · simp only [beq_self_eq_true, if_true, e0]
        exact e1
      · rw [e2 n]
        by_cases hn : ∃ q ∈ r, q.1 = n ∧ q.2 = .free
        · rw [if_pos hn, if_pos (by obtain ⟨q, a, b⟩ := hn; exact ⟨q, List.mem_cons_of_mem _ a, b⟩)]
        · rw [if_neg hn]
          by_cases hnn : n = n0
          · subst hnn
            rw [if_pos ⟨_, List.mem_cons_self, rfl, rfl⟩, hc']
            simp [List.lookup_cons]
          · rw [if_neg]
            · have : (n == n0) = false := by simpa using hnn
              simp [List.lookup_cons, this]
            · rintro ⟨q, hq, h1, h2⟩
              rcases List.mem_cons.mp hq with rfl | hq
              · exact hnn h1.symm
              · exact hn ⟨q, hq, h1, h2⟩
    · obtain ⟨cl, e1, e2⟩ := ih acc fun q hq => h q (List.mem_cons_of_mem _ hq)
      have hk' : (k == NameKind.free) = false := by simpa using hk
      refine ⟨cl, ?_, fun n => ?_⟩
      · simp only [hk', Bool.false_eq_true, if_false]
        exact e1
      · rw [e2 n]
        by_cases hn : ∃ q ∈ r, q.1 = n ∧ q.2 = .free
        · rw [if_pos hn, if_pos (by obtain ⟨q, a, b⟩ := hn; exact ⟨q, List.mem_cons_of_mem _ a, b⟩)]
        · rw [if_neg hn, if_neg]
          rintro ⟨q, hq, h1, h2⟩
          rcases List.mem_cons.mp hq with rfl | hq
          · exact hk h2
          · exact hn ⟨q, hq, h1, h2⟩

theorem closureFor_has {sc : Scope} {env : Env} (h : ∀ p ∈ sc.names, p.2 = .free → ∃ c, env.cells.lookup p.1 = some c) :
    ∃ cl, closureFor sc env = pure cl ∧ (∀ n c, cl.lookup n = some c → env.cells.lookup n = some c) ∧ ∀ n, (∃ p ∈ sc.names, p.1 = n ∧ p.2 = .free) → cl.lookup n = env.cells.lookup n := by
  classical
  obtain ⟨cl, e1, e2⟩ := closure_spec env sc.names [] h
  refine ⟨cl, ?_, fun n c hc => ?_, fun n hn => ?_⟩
  · unfold closureFor
    show (forIn sc.names ([] : List (Str × Addr)) _ >>= fun cs => pure cs) = _
    rw [show (forIn sc.names ([] : List (Str × Addr)) _) = (pure cl : Sem _) from e1]
    rfl
  · rw [e2 n] at hc
    split at hc
    · exact hc
    · simp at hc
  · rw [e2 n, if_pos hn]

theorem lookup_relabel (env : Env) : ∀ (names : List (Str × NameKind)) (x : Str) (k : NameKind), names.lookup x = some k →
    ∃ k', (names.map fun (n, k) => if (k == NameKind.free && env.scope.kind == .function && env.kindOf n == some .cell) then (n, NameKind.cell) else (n, k)).lookup x = some k' ∧ (k' = k ∨ (k = .free ∧ k' = .cell))
  | [], _, _, h => by simp at h
  | (n, kk) :: r, x, k, h => by
    show ∃ k', List.lookup x ((if (kk == NameKind.free && env.scope.kind == .function && env.kindOf n == some .cell) = true then (n, NameKind.cell) else (n, kk)) :: _) = some k' ∧ _
    cases hx : x == n with
    | true =>
      simp only [List.lookup_cons, hx] at h
      cases h
      by_cases hc : (kk == NameKind.free && env.scope.kind == .function && env.kindOf n == some .cell) = true
      · rw [if_pos hc]
        simp only [List.lookup_cons, hx]
        simp only [Bool.and_eq_true, beq_iff_eq] at hc
        exact ⟨_, rfl, .inr ⟨hc.1.1, rfl⟩⟩
      · rw [if_neg hc]; simp only [List.lookup_cons, hx]; exact ⟨_, rfl, .inl rfl⟩
    | false =>
      simp only [List.lookup_cons, hx] at h
      obtain ⟨k', e, hk⟩ := lookup_relabel env r x k h
      by_cases hc : (kk == NameKind.free && env.scope.kind == .function && env.kindOf n == some .cell) = true
      · rw [if_pos hc]; simp only [List.lookup_cons, hx]; exact ⟨k', e, hk⟩
      · rw [if_neg hc]; simp only [List.lookup_cons, hx]; exact ⟨k', e, hk⟩
theorem relabel_back (env : Env) : ∀ (names : List (Str × NameKind)) (x : Str) (k' : NameKind), (names.map fun (n, k) => if (k == NameKind.free && env.scope.kind == .function && env.kindOf n == some .cell) then (n, NameKind.cell) else (n, k)).lookup x = some k' →
    ∃ k, names.lookup x = some k ∧ (k' = k ∨ (k = .free ∧ k' = .cell))
  | [], _, _, h => by simp at h
  | (n, kk) :: r, x, k', h => by
    have h : List.lookup x ((if (kk == NameKind.free && env.scope.kind == .function && env.kindOf n == some .cell) = true then (n, NameKind.cell) else (n, kk)) :: _) = some k' := h
    cases hx : x == n with
    | true =>
      by_cases hc : (kk == NameKind.free && env.scope.kind == .function && env.kindOf n == some .cell) = true
      · rw [if_pos hc] at h
        simp only [List.lookup_cons, hx] at h ⊢
        cases h
        simp only [Bool.and_eq_true, beq_iff_eq] at hc
        exact ⟨_, rfl, .inr ⟨hc.1.1, rfl⟩⟩
      · rw [if_neg hc] at h; simp only [List.lookup_cons, hx] at h ⊢; cases h; exact ⟨_, rfl, .inl rfl⟩
    | false =>
      by_cases hc : (kk == NameKind.free && env.scope.kind == .function && env.kindOf n == some .cell) = true
      · rw [if_pos hc] at h; simp only [List.lookup_cons, hx] at h ⊢; exact relabel_back env r x k' h
      · rw [if_neg hc] at h; simp only [List.lookup_cons, hx] at h ⊢; exact relabel_back env r x k' h

noncomputable def cenvOf (sc : Scope) (cl : List (Str × Addr)) (C : Addr) (env : Env) : Env :=
  { (newEnv sc C env.globals cl env.qual none .none (some env) 0) with scope := relabel sc env }

noncomputable def Ro.erase (ρ : Ro) (j : Nat) : Ro := fun i => if i = j then none else ρ i
theorem erase_upd (ρ : Ro) (j : Nat) (v : V) : (ρ.erase j).upd j v = ρ.upd j v := by
  funext i; by_cases h : i = j <;> simp [Ro.erase, Ro.upd, h]

theorem lookup_filter_free {sc : Scope} : ∀ {tab : Tab} {x : Str} {i : Nat}, (subTab sc tab).lookup x = some i → sc.names.lookup x = some .free ∧ (x, i) ∈ tab
  | [], x, i, h => by simp [subTab] at h
  | (y, k) :: r, x, i, h => by
    unfold subTab at h
    rw [List.filter_cons] at h
    by_cases hy : (sc.names.lookup y == some NameKind.free) = true
    · simp only [hy, if_true] at h
      rw [List.lookup_cons] at h
      cases hx : x == y with
      | true =>
        rw [hx] at h
        simp only at h
        cases h
        have : x = y := by simpa using hx
        subst this
        exact ⟨by simpa using hy, List.mem_cons_self⟩
      | false =>
        rw [hx] at h
        have ⟨a, b⟩ := lookup_filter_free (sc := sc) (tab := r) (x := x) (i := i) h
        exact ⟨a, List.mem_cons_of_mem _ b⟩
    · have hy' : (sc.names.lookup y == some NameKind.free) = false := by simpa using hy
      simp only [hy', Bool.false_eq_true, if_false] at h
      have ⟨a, b⟩ := lookup_filter_free (sc := sc) (tab := r) (x := x) (i := i) h
      exact ⟨a, List.mem_cons_of_mem _ b⟩

theorem lookup_filter_of {sc : Scope} : ∀ {tab : Tab} {x : Str} {i : Nat}, tab.lookup x = some i → sc.names.lookup x = some .free → (subTab sc tab).lookup x = some i
  | [], x, i, h, _ => by simp at h
  | (y, k) :: r, x, i, h, hf => by
    rw [List.lookup_cons] at h
    unfold subTab
    rw [List.filter_cons]
    cases hx : x == y with
    | true =>
      rw [hx] at h
      cases h
      have e : x = y := by simpa using hx
      subst e
      have : (sc.names.lookup x == some NameKind.free) = true := by simpa using hf
      simp [this]
    | false =>
      rw [hx] at h
      have ih := lookup_filter_of (sc := sc) (tab := r) h hf
      by_cases hy : (sc.names.lookup y == some NameKind.free) = true
      · simp only [hy, if_true]; rw [List.lookup_cons, hx]; exact ih
      · have hy' : (sc.names.lookup y == some NameKind.free) = false := by simpa using hy
        simp only [hy', Bool.false_eq_true, if_false]; exact ih

structure CompOk (sc out : Scope) (y : Str) : Prop where
  kind : sc.kind = .function
  kinds : ∀ p ∈ sc.names, p.2 = .local ∨ p.2 = .free ∨ p.2 = .globalImplicit
  locals : ∀ p ∈ sc.names, p.2 = .local → sc.names.lookup p.1 = some .local
  var : sc.names.lookup y = some .local
  free : ∀ p ∈ sc.names, p.2 = .free → out.names.lookup p.1 = some .cell
theorem compOk_of {sc out : Scope} {y : Str} (h : compScopeOk sc out y = true) : CompOk sc out y := by
  simp only [compScopeOk, Bool.and_eq_true, List.all_eq_true, beq_iff_eq, Bool.or_eq_true, bne_iff_ne, ne_eq] at h
  obtain ⟨⟨⟨⟨h1, h2⟩, h3⟩, h4⟩, h5⟩ := h
  refine ⟨h1, fun p hp => ?_, fun p hp hl => ?_, h4, fun p hp hl => ?_⟩
  · rcases h2 p hp with (a | a) | a
    · exact .inl a
    · exact .inr (.inl a)
    · exact .inr (.inr a)
  · exact (h3 p hp).resolve_left fun q => q hl
  · exact (h5 p hp).resolve_left fun q => q hl

theorem mem_lookup {α : Type} {l : List (Str × α)} {n : Str} {c : α} (h : l.lookup n = some c) : (n, c) ∈ l := PySem.mem_of_lookup h

section
variable {P : Cx}

theorem compEnvOk {sc out : Scope} {tab : Tab} {env : Env} {ρ : Ro} {H : AHeap} {h : Heap} {y : Str} {j : Nat} {cl : List (Str × Addr)} {C : Addr} {m : Str → Option Value} (K : EnvOk P out tab env ρ H h) (ok : CompOk sc out y)
    (hj : (tab.any fun q => q.2 == j) = false) (hcl : ∀ n c, cl.lookup n = some c → env.cells.lookup n = some c) (hcl2 : ∀ n, (∃ p ∈ sc.names, p.1 = n ∧ p.2 = .free) → cl.lookup n = env.cells.lookup n) (hn : h.Ns C m) (hC : H C = none) :
    EnvOk P sc ((y, j) :: subTab sc tab) (cenvOf sc cl C env) (ρ.erase j) H h := by
  have tok := K.tok
  have hjt : ∀ x i, (x, i) ∈ tab → i ≠ j := fun x i hm e => by
    have := (List.any_eq_false.mp hj) (x, i) hm
    simp [e] at this
  have look : ∀ x i, ((y, j) :: subTab sc tab).lookup x = some i → (x = y ∧ i = j) ∨ (x ≠ y ∧ sc.names.lookup x = some .free ∧ (x, i) ∈ tab ∧ i ≠ j) := fun x i e => by
    rw [List.lookup_cons] at e
    cases hx : x == y with
    | true => rw [hx] at e; cases e; exact .inl ⟨by simpa using hx, rfl⟩
    | false =>
      rw [hx] at e
      obtain ⟨a, b⟩ := lookup_filter_free e
      exact .inr ⟨by simpa using hx, a, b, hjt x i b⟩
  refine ⟨ok.kind, fun x k e => ?_, K.globals, K.builtins, fun x x' i e e' => ?_, fun x i hm => ?_, ⟨m, hn, fun x i v e e2 => ?_⟩, hC, fun x hk => ?_, fun x c e => K.cells x c (hcl x c e), fun x x' c e e' => K.apart x x' c (hcl _ _ e) (hcl _ _ e')⟩
  · obtain ⟨k', e', hk⟩ := lookup_relabel env sc.names x k e
    rcases hk with rfl | ⟨rfl, rfl⟩
    · exact .inl e'
    · exact .inr ⟨rfl, e'⟩
  · rcases look x i e with ⟨rfl, rfl⟩ | ⟨_, _, hm, hi⟩ <;> rcases look x' i e' with ⟨rfl, h2⟩ | ⟨_, _, hm', hi'⟩
    · rfl
    · exact absurd rfl hi'
    · exact absurd h2 hi
    · exact K.inj _ _ _ (tok _ _ hm) (tok _ _ hm')
  · rw [List.lookup_cons]
    rcases List.mem_cons.mp hm with e | hm
    · cases e; simp
    · have hm' := List.mem_filter.mp hm
      have hf : sc.names.lookup x = some .free := by simpa using hm'.2
      have hxy : (x == y) = false := by
        refine beq_eq_false_iff_ne.mpr ?_
        rintro rfl
        rw [ok.var] at hf; cases hf
      rw [hxy]
      exact lookup_filter_of (tok x i hm'.1) hf
  · rcases look x i e with ⟨rfl, rfl⟩ | ⟨_, hf, hm, hi⟩
    · simp [Ro.erase] at e2
    · simp only [Ro.erase, hi, if_false] at e2
      obtain ⟨m', hn', hv'⟩ := K.vars
      have hcell : out.names.lookup x = some .cell := ok.free (x, .free) (mem_lookup hf) rfl
      have hk : env.kindOf x = some .cell := (K.names _ _ hcell).resolve_right fun q => by cases q.1
      rcases hv' x i v (tok _ _ hm) e2 with ⟨hl, _⟩ | ⟨_, c, w, ec, hc, r⟩
      · rw [hk] at hl; cases hl
      · refine .inr ⟨?_, c, w, (hcl2 x ⟨_, mem_lookup hf, rfl, rfl⟩).trans ec, hc, r⟩
        obtain ⟨k', e', hk'⟩ := lookup_relabel env sc.names x .free hf
        rcases hk' with rfl | ⟨_, rfl⟩
        · exact .inr e'
        · exact .inl e'
  · obtain ⟨k, e, hk'⟩ := relabel_back env sc.names x .cell hk
    rcases hk' with rfl | ⟨rfl, _⟩
    · rcases ok.kinds _ (mem_lookup e) with q | q | q <;> cases q
    · have hcell : out.names.lookup x = some .cell := ok.free (x, .free) (mem_lookup e) rfl
      have hk : env.kindOf x = some .cell := (K.names _ _ hcell).resolve_right fun q => by cases q.1
      obtain ⟨c, ec⟩ := K.hasCell x hk
      exact ⟨c, (hcl2 x ⟨_, mem_lookup e, rfl, rfl⟩).trans ec⟩
end
end
end Mine

namespace Mine
section
open PySem PySem.Calls PyProof.Rows
section
variable {P : Cx}

theorem Wd.but {H : AHeap} {s : Shared} {it : Addr} {h' : Heap} {t : Nat} (W : Wd P H s) (hn : H it = none) (hb : P.hb.get? it = none) (hi : ∀ o, s.heap.get? it = some o → Dull o)
    (hk : ∀ b o, b ≠ it → s.heap.get? b = some o → h'.get? b = some o) : Wd P H { s with heap := h', toks := t } where
  hs := fun a c e => by
    have x := W.hs a c e
    obtain ⟨o, eo, _⟩ := x.obj
    have hne : a ≠ it := by rintro rfl; rw [hn] at e; cases e
    exact x.step ((hk a o hne eo).trans eo.symm) (.but hk hi)
  base := fun b o e => hk b o (by rintro rfl; rw [hb] at e; cases e) (W.base b o e)
  lo := W.lo
  gens := W.gens
  os := W.os
theorem Fm.but {H1 H : AHeap} {h1 h h' : Heap} {it : Addr} (x : Fm H1 h1 H h) (hn : h1.get? it = none) (hk : ∀ b o, b ≠ it → h.get? b = some o → h'.get? b = some o) : Fm H1 h1 H h' :=
  ⟨fun b o e n => by
      obtain ⟨o', e', k⟩ := x.keep b o e n
      exact ⟨o', hk b o' (by rintro rfl; rw [hn] at e; cases e) e', k⟩, x.dom, fun b o e => let ⟨o', e'⟩ := x.ex b o e; ⟨o', hk b o' (by rintro rfl; rw [hn] at e; cases e) e'⟩⟩

structure CLoop (P : Cx) (H1 : AHeap) (h1 : Heap) (it D C : Addr) (v : V) (i : Nat) (vs : List V) (H : AHeap) (s : Shared) : Prop where
  itr : ItAt H s.heap it v i
  acc : ∃ ws : List Value, s.heap.PlainList D ws.toArray ∧ Reps P s.heap ws vs
  W : Wd P H s
  fm : Fm H1 h1 H s.heap
  ns : ∃ m, s.heap.Ns C m
  hD : H D = none
  hC : H C = none
  hI : H it = none

theorem keepSeq {H H' : AHeap} {h h' : Heap} (f : Fm H h H' h') {a : Addr} {o : Obj} (e : h.get? a = some o) (hn : H a = none) (hd : ∀ es n, o.data ≠ .dict es n) (hx : ¬ XLike o) : h'.get? a = some o := by
  obtain ⟨o', e', k⟩ := f.keep a o e hn
  rw [← k.eq hd hx]; exact e'

theorem CLoop.step {H1 H H' : AHeap} {h1 : Heap} {it D C : Addr} {v : V} {i : Nat} {vs xs : List V} {H0 : AHeap} {s s' : Shared} (L : CLoop P H1 h1 it D C v i vs H s) (f : Fm H s.heap H' s'.heap) (W' : Wd P H' s')
    (hi : stays H0 v xs H) (hi' : stays H0 v xs H') : CLoop P H1 h1 it D C v i vs H' s' := by
  obtain ⟨ws, ⟨n, hl⟩, hr⟩ := L.acc
  obtain ⟨o, fs, e, d⟩ := L.itr.fields
  obtain ⟨m, hns⟩ := L.ns
  have hns' := hns
  obtain ⟨oc, _, _, ec, _⟩ := hns'
  refine ⟨L.itr.at (fun o' e' => ?_) hi.1 hi'.1 (fun a ha => (hi'.2 a ha).trans (hi.2 a ha).symm), ⟨ws, ⟨n, keepSeq f hl L.hD (by simp) (XLike.noseq rfl)⟩, hr.step L.W f⟩, W', L.fm.trans f, ⟨m, f.ns hns L.hC⟩, f.dom _ _ hl L.hD, f.dom _ _ ec L.hC, f.dom _ _ e L.hI⟩
  rw [e] at e'; cases e'
  exact keepSeq f e L.hI (by rw [d]; simp) (L.itr.nx e)

theorem CLoop.ne {H1 H : AHeap} {h1 : Heap} {it D C : Addr} {v : V} {i : Nat} {vs : List V} {s : Shared} (L : CLoop P H1 h1 it D C v i vs H s) : D ≠ C ∧ D ≠ it ∧ C ≠ it := by
  obtain ⟨ws, ⟨n, hl⟩, hr⟩ := L.acc
  obtain ⟨o, fs, e, d⟩ := L.itr.fields
  obtain ⟨m, oc, es, ep, ec, dc, _⟩ := L.ns
  refine ⟨?_, ?_, ?_⟩
  · rintro rfl; rw [hl] at ec; cases ec; cases dc
  · rintro rfl; rw [hl] at e; cases e; cases d
  · rintro rfl; rw [e] at ec; cases ec; rw [d] at dc; cases dc

variable {d : Nat} {X : Nat → AHeap → Prop}

inductive CEnd (P : Cx) (H1 : AHeap) (h1 : Heap) (D C : Addr) (Q : V → AHeap → Prop) (s : Shared) : Prop where
  | mk (H : AHeap) (vs : List V) (ws : List Value) (l : s.heap.PlainList D ws.toArray) (r : Reps P s.heap ws vs) (W : Wd P H s) (f : Fm H1 h1 H s.heap) (n : ∃ m, s.heap.Ns C m) (d : H D = none) (c : H C = none) (q : newL vs Q H) : CEnd P H1 h1 D C Q s

set_option maxHeartbeats 1000000 in
theorem comp_loop {elt cond : E} {y i : Expr} {ifs : List Expr} {p : Str} {px pos : Pos} {sc' sc : Scope} {tab : Tab} {env : Env} {ρ : Ro} {j : Nat} {Q : V → AHeap → Prop} {H1 H0 : AHeap} {s1 : Shared} {A : Around} {v : V} {xs : List V}
    {it D C : Addr} {cl : List (Str × Addr)} {RR : Result → Shared → Prop}
    (F : Facts P) (ielt : SoundE P d NoX elt) (icond : SoundT P d NoX cond) (hd : 0 < d) (K1 : EnvOk P sc tab env ρ H1 s1.heap) (R1 : Room P d A H1 s1.heap) (W1 : Wd P H1 s1) (ok : CompOk sc' sc p)
    (hdb : (p == ("__debug__" : Str)) = false) (hcd : (p == ("__classdict__" : Str)) = false) (hj : (tab.any fun q => q.2 == j) = false) (ce : cE P.gl sc' ((p, j) :: subTab sc' tab) elt y = true)
    (cc : (cond = .bool true ∧ ifs = []) ∨ ∃ t, ifs = [t] ∧ cE P.gl sc' ((p, j) :: subTab sc' tab) cond t = true)
    (hcl : ∀ n c, cl.lookup n = some c → env.cells.lookup n = some c) (hcl2 : ∀ n, (∃ q ∈ sc'.names, q.1 = n ∧ q.2 = .free) → cl.lookup n = env.cells.lookup n)
    (nD : s1.heap.get? D = none) (nC : s1.heap.get? C = none) (nI : s1.heap.get? it = none)
    (hend : ∀ s, CEnd P H1 s1.heap D C Q s → RR (.ok .next) s) :
    ∀ (s : Shared) (H : AHeap), CLoop P H1 s1.heap it D C v 0 [] H s →
      compLoop (stays H0 v xs) (fun x R H => vE P d NoX cond (ρ.upd j x) (fun v H => truthV v (R · H)) H) (fun x R H => vE P d NoX elt (ρ.upd j x) R H) Q xs [] H →
      codeAny (model P.prog P.w) A (.compLoop (.ListComp y [⟨.Name p px, i, ifs, 0⟩] sc' pos) 0 (.ref it) (.ref D) (cenvOf sc' cl C env)) RR s := by
  intro s H L0 q0
  refine codeAny_compLoop_tests (I := fun n s => ∃ k vs H, n = xs.length - k ∧ k ≤ xs.length ∧ CLoop P H1 s1.heap it D C v k vs H s ∧ vs.length ≤ Lim ∧
      compLoop (stays H0 v xs) (fun x R H => vE P d NoX cond (ρ.upd j x) (fun v H => truthV v (R · H)) H) (fun x R H => vE P d NoX elt (ρ.upd j x) R H) Q (xs.drop k) vs H) ?_ (xs.length - 0) ⟨0, [], H, rfl, Nat.zero_le _, L0, Nat.zero_le _, q0⟩
  rintro n s ⟨k, vs, H, rfl, hk, L, hlim, q⟩
  have hst : stays H0 v xs H := by
    cases hx : xs.drop k with
    | nil => rw [hx] at q; exact q.1
    | cons x r => rw [hx] at q; exact q.1
  obtain ⟨neDC, neDI, neCI⟩ := L.ne
  have bI : P.hb.get? it = none := W1.newBase nI
  have bC : P.hb.get? C = none := W1.newBase nC
  have bD : P.hb.get? D = none := W1.newBase nD
  refine iterNext (R1.hd hd) L.W L.itr hst.1 L.hI (fun hx h' t hkk => ?_) (fun x hx wy h' t rx hit' hsame => ?_)
  · -- the end
    have hx' : xs.drop k = [] := by
      rw [List.getElem?_eq_none_iff] at hx
      exact List.drop_eq_nil_of_le hx
    rw [hx'] at q
    obtain ⟨ws, hl, hr⟩ := L.acc
    obtain ⟨m, hns⟩ := L.ns
    have him : ImmK s.heap h' := .but hkk fun o e => L.itr.dull e
    exact hend _ ⟨H, vs, ws, hl.at fun o e => hkk D o neDI e, hr.mono him, L.W.but L.hI bI (fun o e => L.itr.dull e) hkk, L.fm.but nI hkk, ⟨m, (let ⟨o, es, ep, e, r⟩ := hns; ⟨o, es, ep, hkk C o neCI e, r⟩)⟩, L.hD, L.hC, q.2⟩
  · -- an item
    have hlt : k < xs.length := (List.getElem?_eq_some_iff.mp hx).1
    have hx' : xs.drop k = x :: xs.drop (k + 1) := by
      rw [List.drop_eq_getElem_cons hlt]
      have := (List.getElem?_eq_some_iff.mp hx).2
      rw [this]
    rw [hx'] at q
    obtain ⟨_, hgrow, q⟩ := q
    have hkk : ∀ b o, b ≠ it → s.heap.get? b = some o → h'.get? b = some o := fun b o hb e => (hsame b hb).trans e
    have him : ImmK s.heap h' := .but hkk fun o e => L.itr.dull e
    have La : CLoop P H1 s1.heap it D C v (k + 1) vs H { s with heap := h', toks := t } := by
      obtain ⟨ws, hl, hr⟩ := L.acc
      obtain ⟨m, hns⟩ := L.ns
      exact ⟨hit', ⟨ws, hl.at fun o e => hkk D o neDI e, hr.mono him⟩, L.W.but L.hI bI (fun o e => L.itr.dull e) hkk, L.fm.but nI hkk, ⟨m, (let ⟨o, es, ep, e, r⟩ := hns; ⟨o, es, ep, hkk C o neCI e, r⟩)⟩, L.hD, L.hC, L.hI⟩
    obtain ⟨m, hns⟩ := La.ns
    have Ka := compEnvOk (m := m) (cl := cl) (K1.step W1 La.fm) ok hj hcl hcl2 hns La.hC
    have cv : cVar sc' ((p, j) :: subTab sc' tab) j p = true := by
      simp only [cVar, List.lookup_cons, beq_self_eq_true, ok.var, Bool.true_or, Bool.true_and, hdb, hcd, Bool.not_false]
    refine wpAny_assign_Name (storeVar Ka cv (by rw [ok.var]; rfl) rx fun h2 t2 a tch ha haC Kb => ?_)
    rw [erase_upd] at Kb
    obtain rfl : a = C := haC ok.var
    have Lb : CLoop P H1 s1.heap it D a v (k + 1) vs H { s with heap := h2, toks := t2 } := by
      obtain ⟨ws, hl, hr⟩ := La.acc
      obtain ⟨m', hns', _⟩ := Kb.vars
      have Wb := tch.wd La.W bC t2
      obtain ⟨o, fs, eo, od⟩ := La.itr.fields
      exact ⟨La.itr.at (fun o e => (tch.same it neCI.symm).trans e) hst.1 hst.1 (fun zz zz => rfl), ⟨ws, hl.at fun o e => (tch.same D neDC).trans e, hr.mono tch.imm⟩, Wb, tch.fm La.fm nC, ⟨m', hns'⟩, La.hD, La.hC, La.hI⟩
    have Rb : Room P d A H h2 := R1.step Lb.fm
    -- the element and what follows
    have tail : ∀ (s3 : Shared) (H3 : AHeap), CLoop P H1 s1.heap it D a v (k + 1) vs H3 s3 → EnvOk P sc' ((p, j) :: subTab sc' tab) (cenvOf sc' cl a env) (ρ.upd j x) H3 s3.heap →
        vE P d NoX elt (ρ.upd j x) (fun v' H2 => compLoop (stays H0 v xs) (fun x R H => vE P d NoX cond (ρ.upd j x) (fun v H => truthV v (R · H)) H) (fun x R H => vE P d NoX elt (ρ.upd j x) R H) Q (xs.drop (k + 1)) (vs ++ [v']) H2) H3 → stays H0 v xs H3 →
        wpAny (model P.prog P.w) A (eval y (cenvOf sc' cl a env)) (fun x' s4 => wpAny (model P.prog P.w) A (call (.builtin "list.append") [.ref D, x']) (fun zz s5 => ∃ m, m < xs.length - k ∧ ∃ k' vs' H', m = xs.length - k' ∧ k' ≤ xs.length ∧ CLoop P H1 s1.heap it D a v k' vs' H' s5 ∧ vs'.length ≤ Lim ∧
          compLoop (stays H0 v xs) (fun x R H => vE P d NoX cond (ρ.upd j x) (fun v H => truthV v (R · H)) H) (fun x R H => vE P d NoX elt (ρ.upd j x) R H) Q (xs.drop k') vs' H') (notedBy (model P.prog P.w) A (cenvOf sc' cl a env) fun e s' => RR (.error e) s') s4)
          (notedBy (model P.prog P.w) A (cenvOf sc' cl a env) fun e s' => RR (.error e) s') s3 := by
      intro s3 H3 L3 K3 q3 hst3
      have hh := ielt.go ce K3 (R1.step L3.fm) L3.W q3
      refine wpAny_mono hh (fun x' s4 ⟨r4, H4, hr4, W4, f4, q4⟩ => ?_) fun e s' ⟨c, H', _, _, _, ex⟩ => ex.elim
      have hst4 : stays H0 v xs H4 := by
        cases hx : xs.drop (k + 1) with
        | nil => rw [hx] at q4; exact q4.1
        | cons x r => rw [hx] at q4; exact q4.1
      have L4 := L3.step f4 W4 hst3 hst4
      obtain ⟨ws, hl, hr⟩ := L4.acc
      refine wpAny_list_append_plain hl (fun h5 hl5 hs5 => ?_) (by rw [List.size_toArray, hr.length]; exact Lim_size hlim)
      have nimD : ∀ o, s4.heap.get? D = some o → Dull o := fun o e => by
        obtain ⟨n, hn⟩ := hl
        rw [e] at hn; cases hn
        exact .typ rfl (by decide) (by decide)
      have hk5 : ∀ b o, b ≠ D → s4.heap.get? b = some o → h5.get? b = some o := fun b o hb e => (hs5.2 b hb).trans e
      have im5 : ImmK s4.heap h5 := .but hk5 nimD
      refine ⟨xs.length - (k + 1), by omega, k + 1, vs ++ [r4], H4, rfl, hlt, ⟨L4.itr.at (fun o e => hk5 it o neDI.symm e) hst4.1 hst4.1 (fun zz zz => rfl), ⟨ws ++ [x'], by simpa using hl5, (hr.mono im5).append (.cons (hr4.mono im5) .nil)⟩,
        L4.W.but (t := s4.toks) L4.hD bD nimD hk5, L4.fm.but nD hk5, (let ⟨m, o, es, ep, e, r⟩ := L4.ns; ⟨m, o, es, ep, hk5 a o neDC.symm e, r⟩), L4.hD, L4.hC, L4.hI⟩, by simpa using hgrow, q4⟩
    rcases cc with ⟨rfl, rfl⟩ | ⟨tt, rfl, ct⟩
    · refine wpAny_tests_nil ?_
      rw [if_pos rfl]
      have q := br.yes q
      exact tail _ H Lb Kb q.2 hst
    · refine wpAny_tests_one ?_
      have hh := icond.go (Q := fun b H1 => br b (stays H0 v xs H1 ∧ vE P d NoX elt (ρ.upd j x) (fun v' H2 => compLoop (stays H0 v xs) (fun x R H => vE P d NoX cond (ρ.upd j x) (fun v H => truthV v (R · H)) H) (fun x R H => vE P d NoX elt (ρ.upd j x) R H) Q (xs.drop (k + 1)) (vs ++ [v']) H2) H1)
        (compLoop (stays H0 v xs) (fun x R H => vE P d NoX cond (ρ.upd j x) (fun v H => truthV v (R · H)) H) (fun x R H => vE P d NoX elt (ρ.upd j x) R H) Q (xs.drop (k + 1)) vs H1)) (s := { s with heap := h2, toks := t2 }) ct Kb Rb Lb.W q
      refine wpAny_mono hh (fun b s3 ⟨H3, W3, f3, q3⟩ => ?_) fun e s' ⟨c, H', _, _, _, ex⟩ => ex.elim
      cases b with
      | true =>
        rw [if_pos rfl]
        have q3 := br.yes q3
        exact tail s3 H3 (Lb.step f3 W3 hst q3.1) (Kb.step Lb.W f3) q3.2 q3.1
      | false =>
        rw [if_neg Bool.false_ne_true]
        have q3 := br.no q3
        have hst3 : stays H0 v xs H3 := by
          cases hx : xs.drop (k + 1) with
          | nil => rw [hx] at q3; exact q3.1
          | cons x r => rw [hx] at q3; exact q3.1
        exact ⟨xs.length - (k + 1), by omega, k + 1, vs, H3, rfl, hlt, Lb.step f3 W3 hst hst3, hlim, q3⟩
end
end
end Mine

namespace Mine
section
open PySem PySem.Calls PyProof.Rows
section
variable {P : Cx} {d : Nat} {X : Nat → AHeap → Prop}

theorem CEnd.post {H1 : AHeap} {h1 : Heap} {D C : Addr} {Q : V → AHeap → Prop} {s : Shared} (x : CEnd P H1 h1 D C Q s) (nD : h1.get? D = none) (nC : h1.get? C = none) (bD : P.hb.get? D = none) (bC : P.hb.get? C = none) :
    ∀ h', Heap.SameBut C s.heap h' → Post P H1 h1 Q (.ref D) { s with heap := h' } := by
  intro h' hs
  obtain ⟨H, vs, ws, hl, hr, W, f, ⟨m, hns⟩, hD, hC, q⟩ := x
  have hl' := hl
  obtain ⟨n, hl'⟩ := hl'
  obtain ⟨oc, es, ep, ec, dc, _⟩ := hns
  have neDC : D ≠ C := by rintro rfl; rw [hl'] at ec; cases ec; cases dc
  have nim : ∀ o, s.heap.get? C = some o → Dull o := fun o e => by rw [ec] at e; cases e; exact .dict dc
  have hk : ∀ b o, b ≠ C → s.heap.get? b = some o → h'.get? b = some o := fun b o hb e => (hs.2 b hb).trans e
  have im : ImmK s.heap h' := .but hk nim
  have W' : Wd P H { s with heap := h', toks := s.toks } := W.but hC bC nim hk
  exact ⟨.lst D, H.upd D (.list vs), .lst D, W'.put (c := .list vs) D bD ⟨ws, hl.at fun o e => hk D o neDC e, hr.mono im, q.1⟩, (f.but nC hk).put nD, q.2 D hD⟩

theorem comp_all {elt cond : E} {y i : Expr} {ifs : List Expr} {p : Str} {px pos : Pos} {sc' sc : Scope} {tab : Tab} {env : Env} {ρ : Ro} {j : Nat} {Q : V → AHeap → Prop} {H1 : AHeap} {s1 : Shared} {A : Around} {v : V} {w : Value} {xs : List V}
    {cl : List (Str × Addr)} {RR : Value → Addr → Result → Shared → Prop} {E : Value → Shared → Prop}
    (F : Facts P) (ielt : SoundE P d NoX elt) (icond : SoundT P d NoX cond) (hd : 0 < d) (K1 : EnvOk P sc tab env ρ H1 s1.heap) (R1 : Room P d A H1 s1.heap) (W1 : Wd P H1 s1) (ok : CompOk sc' sc p)
    (hdb : (p == ("__debug__" : Str)) = false) (hcd : (p == ("__classdict__" : Str)) = false) (hj : (tab.any fun q => q.2 == j) = false) (ce : cE P.gl sc' ((p, j) :: subTab sc' tab) elt y = true)
    (cc : (cond = .bool true ∧ ifs = []) ∨ ∃ t, ifs = [t] ∧ cE P.gl sc' ((p, j) :: subTab sc' tab) cond t = true)
    (hcl : ∀ n c, cl.lookup n = some c → env.cells.lookup n = some c) (hcl2 : ∀ n, (∃ q ∈ sc'.names, q.1 = n ∧ q.2 = .free) → cl.lookup n = env.cells.lookup n)
    (r : Rep P s1.heap w v) (hi : items H1 v xs)
    (q : compLoop (stays H1 v xs) (fun x R H => vE P d NoX cond (ρ.upd j x) (fun v H => truthV v (R · H)) H) (fun x R H => vE P d NoX elt (ρ.upd j x) R H) Q xs [] H1)
    (hend : ∀ D C s, s1.heap.get? D = none → s1.heap.get? C = none → CEnd P H1 s1.heap D C Q s → RR (.ref D) C (.ok .next) s) :
    wpAny (model P.prog P.w) A (pyIter w) (fun it s₂ => wpAny (model P.prog P.w) A (newList []) (fun acc s₃ =>
      wpAny (model P.prog P.w) A (newFunctionEnv sc' env.globals cl [] env.qual none .none (some env)) (fun cenv s₄ =>
        codeAny (model P.prog P.w) A (.compStart (.ListComp y [⟨.Name p px, i, ifs, 0⟩] sc' pos) 0 it acc { cenv with scope := relabel sc' env }) (RR acc cenv.locals) s₄) E s₃) E s₂) E s1 := by
  refine iterStart F W1 r hi fun it h2 nI hit hk2 => wpAny_newList ?_ (Nat.zero_le _)
  refine wpAny_newFunctionEnv (fun z hz hc => ?_) (by intro z hz; simp at hz) (fun h4 hns hsb => ?_) ok.kind
  · rcases ok.kinds z hz with e | e | e <;> rw [e] at hc <;> cases hc
  · dsimp only at hns hsb ⊢
    generalize hH3 : h2.push { cls := .type "list", data := .seq ([] : List Value).toArray } = h3 at hns hsb ⊢
    have hD : h3.get? h2.objs.size = some { cls := .type "list", data := .seq ([] : List Value).toArray } := by rw [← hH3]; exact Heap.get?_push_size _ rfl
    have hk3 : ∀ b o, h2.get? b = some o → h3.get? b = some o := fun b o e => by rw [← hH3]; exact Heap.get?_push_of_some _ e
    have hk4 : ∀ b o, h3.get? b = some o → h4.get? b = some o := fun b o e => hsb.extBut b o (Nat.ne_of_lt (Heap.lt_size e)) (Heap.get?_push_of_some _ e)
    have hk : ∀ b o, s1.heap.get? b = some o → h4.get? b = some o := fun b o e => hk4 b o (hk3 b o (hk2 b o e))
    have nD : s1.heap.get? h2.objs.size = none := by
      cases e : s1.heap.get? h2.objs.size with
      | none => rfl
      | some o => exact absurd (Heap.lt_size (hk2 _ _ e)) (Nat.lt_irrefl _)
    have nC : s1.heap.get? h3.objs.size = none := by
      cases e : s1.heap.get? h3.objs.size with
      | none => rfl
      | some o => exact absurd (Heap.lt_size (hk3 _ _ (hk2 _ _ e))) (Nat.lt_irrefl _)
    have L : CLoop P H1 s1.heap it h2.objs.size h3.objs.size v 0 [] H1 { s1 with heap := h4, toks := s1.toks + ([] : List (Str × Value)).length } :=
      ⟨hit.at (fun o e => hk4 it o (hk3 it o e)) hi hi (fun zz zz => rfl), ⟨[], ⟨0, hk4 _ _ hD⟩, .nil⟩, W1.grow hk rfl rfl, .grow hk, ⟨_, hns⟩, W1.noneOf nD, W1.noneOf nC, W1.noneOf nI⟩
    have loop := comp_loop (y := y) (i := i) (px := px) (pos := pos) (RR := RR (.ref h2.objs.size) h3.objs.size) F ielt icond hd K1 R1 W1 ok hdb hcd hj ce cc hcl hcl2 nD nC nI (fun s x => hend _ _ s nD nC x) _ H1 L q
    exact codeAny_compStart_list loop (iterSelf L.itr loop)

theorem foldedSet {i : Expr} {env : Env} (h : isSet i = false) : ∀ x, foldedSetIterable i env x = pure x := by
  intro x
  cases i <;> first | rfl | exact nc' h

theorem sE_comp (F : Facts P) {j : Nat} {elt src cond : E} (ielt : SoundE P d NoX elt) (isrc : SoundE P d X src) (icond : SoundT P d NoX cond) : SoundE P d X (.comp j elt src cond) := .mk fun {x sc tab env ρ Q H A s} c K R W q => by
  obtain ⟨y, p, i, ifs, sc', px, pos, rfl, ok, hset, hdb, hcd, hj, ci, ce, cc⟩ := cE_comp c
  have ok := compOk_of ok
  have hfree : ∀ z ∈ sc'.names, z.2 = .free → ∃ c, env.cells.lookup z.1 = some c := fun z hz hf => by
    have hcell := ok.free z hz hf
    exact K.hasCell _ ((K.names _ _ hcell).resolve_right fun q => by cases q.1)
  obtain ⟨cl, hclos, hcl, hcl2⟩ := closureFor_has hfree
  rw [eval_ListComp]
  refine wpAny_comprehension_free (use := none) rfl (foldedSet hset) hclos ok.kind ok.locals (thenV (isrc.go ci K R W q) fun w r H1 s1 hr W1 f1 q1 => ?_)
  obtain ⟨xs, hi, hd, q1⟩ := q1
  refine comp_all F ielt icond hd (K.step W f1) (R.step f1) W1 ok hdb hcd hj ce cc hcl hcl2 hr hi q1 fun D C s' nD nC x => ?_
  have hns : ∃ m, s'.heap.Ns C m := by obtain ⟨_, _, _, _, _, _, _, h, _⟩ := x; exact h
  obtain ⟨m, hns⟩ := hns
  exact ⟨m, hns, fun h' hs => (x.post nD nC (W1.newBase nD) (W1.newBase nC) h' hs).trans f1⟩
end

section
variable {P : Cx} {d : Nat}
mutual
theorem sndET (F : Facts P) : ∀ (e : E) {X : Nat → AHeap → Prop}, SoundE P d X e ∧ SoundT P d X e
  | .none, _ => let h := sE_none F; ⟨h, sT_none h⟩
  | .bool b, _ => let h := sE_bool F; ⟨h, sT_bool h⟩
  | .int i, _ => let h := sE_int F; ⟨h, sT_int h⟩
  | .str y, _ => let h := sE_str F; ⟨h, sT_str h⟩
  | .var i, _ => let h := sE_var F; ⟨h, sT_var h⟩
  | .glb g i, _ => let h := sE_glb F; ⟨h, sT_glb h⟩
  | .op1 o e, _ => let h := sE_op1 F (sndET F e).1; ⟨h, sT_op1 h⟩
  | .op2 o a b, _ => let h := sE_op2 F (sndET F a).1 (sndET F b).1; ⟨h, sT_op2 (sndET F a).1 (sndET F b).1 h⟩
  | .meth o a b, _ => let h := sE_meth F (sndET F a).1 (sndET F b).1; ⟨h, sT_meth h⟩
  | .not e, _ => let h := sE_not F (sndET F e).1; ⟨h, sT_not (sndET F e).2⟩
  | .and a b, _ => let h := sE_and F (sndET F a).1 (sndET F b).1; ⟨h, sT_and (sndET F a).2 (sndET F b).2⟩
  | .or a b, _ => let h := sE_or F (sndET F a).1 (sndET F b).1; ⟨h, sT_or (sndET F a).2 (sndET F b).2⟩
  | .chain o₁ o₂ a b e, _ => let h := sE_chain F (sndET F a).1 (sndET F b).1 (sndET F e).1; ⟨h, sT_chain (sndET F a).1 (sndET F b).1 (sndET F e).1⟩
  | .tup es, _ => let h := sE_tup F (sndEs F es); ⟨h, sT_tup h⟩
  | .lst es, _ => let h := sE_lst F (sndEs F es); ⟨h, sT_lst h⟩
  | .dict0, _ => let h := sE_dict0 F; ⟨h, sT_dict0 h⟩
  | .call g es, _ => let h := sE_call F (sndEs F es); ⟨h, sT_call h⟩
  | .comp j elt src cond, _ => let h := sE_comp F (sndET F elt).1 (sndET F src).1 (sndET F cond).2; ⟨h, sT_comp h⟩
theorem sndEs (F : Facts P) : ∀ (es : Es) {X : Nat → AHeap → Prop}, SoundEs P d X es
  | .nil, _ => sEs_nil
  | .cons e es, _ => sEs_cons (sndET F e).1 (sndEs F es)
end
end
end
end Mine

namespace Mine
section
open PySem PySem.Calls PyProof.Rows
noncomputable def XStep (P : Cx) (S : List Addr) (h h' : Heap) : Prop :=
  ∀ b o, h.get? b = some o → h'.get? b = some o ∨ (b ∈ S ∧ ∃ sl, h'.get? b = some { o with slots := sl }) ∨ (XLike o ∧ P.hb.get? b = none ∧ ∃ o', h'.get? b = some o' ∧ o'.cls = o.cls ∧ ∃ vs, o'.data = .fields vs)
theorem XStep.refl (P : Cx) (S : List Addr) (h : Heap) : XStep P S h h := fun zz zz e => .inl e
theorem XStep.trans {P : Cx} {S : List Addr} {h h' h'' : Heap} (nx : ∀ b ∈ S, ∀ o, h.get? b = some o → ¬ XLike o) (x : XStep P S h h') (y : XStep P S h' h'') : XStep P S h h'' := fun b o e => by
  rcases x b o e with e1 | ⟨m, sl, e1⟩ | ⟨xl, n, o1, e1, c1, d1⟩
  · exact y b o e1
  · rcases y b _ e1 with e2 | ⟨_, sl', e2⟩ | ⟨xl, _⟩
    · exact .inr (.inl ⟨m, sl, e2⟩)
    · exact .inr (.inl ⟨m, sl', e2⟩)
    · exact absurd (show XLike o from xl) (nx b m o e)
  · rcases y b _ e1 with e2 | ⟨m, sl', e2⟩ | ⟨_, _, o2, e2, c2, d2⟩
    · exact .inr (.inr ⟨xl, n, o1, e2, c1, d1⟩)
    · exact absurd xl (nx b m o e)
    · exact .inr (.inr ⟨xl, n, o2, e2, c2.trans c1, d2⟩)

noncomputable def frs (l : List Env) : List Addr := l.filterMap (·.frame)

section
variable {P : Cx} {H : AHeap} {A : Around} {E : Value → Shared → Prop} {s : Shared} {M : Model}

theorem FrameAt.fun : ∀ {l : List Env} {h : Heap}, (∀ env ∈ l, FrameAt P H h env) → h.FunFrames P.hb l
  | [], _, _ => trivial
  | env :: l, h, k => by
    obtain ⟨a, L, o, es, n, b, c, d, f, g⟩ := k env (List.mem_cons_self ..)
    exact ⟨a, ⟨L, o, b, g, c, fun vs e => by rw [d] at e; cases e⟩, FrameAt.fun fun e m => k e (List.mem_cons_of_mem _ m)⟩
theorem frs_at {l : List Env} {h : Heap} (k : ∀ env ∈ l, FrameAt P H h env) {b : Addr} (hb : b ∈ frs l) : ∃ o es n, h.get? b = some o ∧ o.data = .dict es n ∧ H b = none ∧ P.hb.get? b = none := by
  obtain ⟨env, m, e⟩ := List.mem_filterMap.mp hb
  obtain ⟨_, L, o, es, n, b, c, d, f, g⟩ := k env m
  rw [b] at e; cases e
  exact ⟨o, es, n, c, d, f, g⟩

structure Noted (P : Cx) (S : List Addr) (h h' : Heap) (a : Addr) (cls hd : Value) : Prop where
  step : XStep P S h h'
  obj : ∃ oe vs T oT ts, h'.get? a = some oe ∧ oe.cls = cls ∧ oe.data = .fields vs ∧ vs[1]? = some (.ref T) ∧ (h.get? T = none ∨ hd = .ref T) ∧ T ≠ a ∧ h'.get? T = some oT ∧ oT.cls = .type "traceback" ∧ oT.data = .fields ts ∧ 3 < ts.size

theorem entry_spec {env : Env} {outer : List Env} {L a C : Addr} {oe : Obj} {vs : Array Value} {head : Value} {hadNext : Bool} {Q : Unit → Shared → Prop} (hfr : A.frames = some (env :: outer)) (hl : ∀ env' ∈ env :: outer, FrameAt P H s.heap env') (hf : env.frame = some L)
    (he : s.heap.get? a = some oe) (hc : oe.cls = .ref C) (hd : oe.data = .fields vs) (hsz : 1 < vs.size) (hn : P.hb.get? a = none)
    (h : ∀ h' T, XStep P (frs (env :: outer)) s.heap h' → s.heap.get? T = none → (∃ oe' vs' oT ts, h'.get? a = some oe' ∧ oe'.cls = .ref C ∧ oe'.data = .fields vs' ∧ vs'[1]? = some (.ref T) ∧ T ≠ a ∧ h'.get? T = some oT ∧ oT.cls = .type "traceback" ∧ oT.data = .fields ts ∧ 3 < ts.size) → Q () { s with heap := h' }) :
    wpAny M A (do let x ← frameOf env; let pl ← entryPlaceOf L hadNext; let b ← EntryCells.newEntry head x .none (rawInt L) .none pl; setField (.ref a) 1 b) Q E s := by
  have xl : XLike oe := ⟨.inr ⟨C, hc⟩, vs, hd⟩
  have nS : ∀ {b o}, b ∈ frs (env :: outer) → s.heap.get? b = some o → ¬ XLike o := fun {b o} m e => by
    obtain ⟨o', es, n, e', d, _⟩ := frs_at hl m
    rw [e] at e'; cases e'; exact XLike.nodict d
  have na : a ∉ frs (env :: outer) := fun m => nS m he xl
  refine wpAny_bind (wpAny_frameOf_fun hfr (FrameAt.fun hl) hf fun h₁ hs₁ => ?_)
  refine wpAny_bind (wpAny_entryPlaceOf fun pl hpl => ?_)
  unfold EntryCells.newEntry newFields
  refine wpAny_bind (wpAny_newObj_type ?_ (hpl.sizeOk5 _ _ _ _ _))
  have he₁ : h₁.get? a = some oe := (hs₁.2.1 a na).trans he
  have hT : h₁.objs.size ≠ a := Nat.ne_of_gt (Heap.lt_size he₁)
  generalize hob : ({ cls := .type "traceback", dict := none, data := .fields ([head, .ref L, .none, rawInt L, .none] ++ (if pl.isEmpty then List.replicate 6 Value.none else pl)).toArray } : Obj) = ob
  have hcls : ob.cls = .type "traceback" := by rw [← hob]
  obtain ⟨ts, hdat, hts⟩ : ∃ ts, ob.data = .fields ts ∧ 3 < ts.size := ⟨_, by rw [← hob], by simp only [List.size_toArray, List.length_append, List.length_cons, List.length_nil]; omega⟩
  have he₂ := Heap.get?_push_of_some (h := h₁) ob he₁
  have hfree : ob.isFreed = false := Obj.isFreed_of_fields hdat
  refine wpAny_setField he₂ hd hsz ?_
  have hd₃ := Obj.data_mapFields hd (·.setIfInBounds 1 (Value.ref h₁.objs.size))
  have he₃ := Heap.get?_update_self (Obj.mapFields (·.setIfInBounds 1 (Value.ref h₁.objs.size))) he₂ (Obj.isFreed_of_fields hd₃)
  have hT₃ := (Heap.get?_update_other (h₁.push ob) (Obj.mapFields (·.setIfInBounds 1 (Value.ref h₁.objs.size))) (Ne.symm hT)).trans (Heap.get?_push_size h₁ hfree)
  refine h _ h₁.objs.size (fun b o e => ?_) ?_ ⟨_, _, ob, ts, he₃, (Obj.cls_mapFields _ _).trans hc, hd₃, by simp [hsz], hT, hT₃, hcls, hdat, hts⟩
  · by_cases hb : b = a
    · subst hb
      rw [he] at e; cases e
      exact .inr (.inr ⟨xl, hn, _, he₃, Obj.cls_mapFields _ _, _, hd₃⟩)
    · have put : ∀ o', h₁.get? b = some o' → ((h₁.push ob).update a (Obj.mapFields (·.setIfInBounds 1 (Value.ref h₁.objs.size)))).get? b = some o' := fun o' e' => by
        rw [Heap.get?_update_other _ _ (Ne.symm hb)]; exact Heap.get?_push_of_some _ e'
      by_cases m : b ∈ frs (env :: outer)
      · obtain ⟨sl, e'⟩ := hs₁.2.2 b o e
        exact .inr (.inl ⟨m, sl, put _ e'⟩)
      · exact .inl (put _ ((hs₁.2.1 b m).trans e))
  · rw [hs₁.1]; exact get?_size _

theorem note_spec {env : Env} {outer : List Env} {a C : Addr} {oe : Obj} {vs : Array Value} {hd : Value} {h0 : Heap} {Q : Unit → Shared → Prop} (hfr : A.frames = some (env :: outer)) (hl : ∀ env' ∈ env :: outer, FrameAt P H s.heap env')
    (he : s.heap.get? a = some oe) (hc : oe.cls = .ref C) (hda : oe.data = .fields vs) (h1 : vs[1]? = some hd) (hn : P.hb.get? a = none) (ht : hd = .none ∨ TbAt P h0 s.heap a hd)
    (h : ∀ h', Noted P (frs (env :: outer)) s.heap h' a (.ref C) hd → Q () { s with heap := h' }) : wpAny M A (noteFrame (.ref a) env) Q E s := by
  obtain ⟨_, L, oL, es, n, hf, _⟩ := hl env (List.mem_cons_self ..)
  have nS : ∀ {b o}, b ∈ frs (env :: outer) → s.heap.get? b = some o → ¬ XLike o := fun {b o} m e => by
    obtain ⟨o', es, n, e', d, _⟩ := frs_at hl m
    rw [e] at e'; cases e'; exact XLike.nodict d
  have hsz : 1 < vs.size := (Array.getElem?_eq_some_iff.mp h1).1
  unfold noteFrame
  simp only [hf]
  refine wpAny_bind (wpAny_field he hda h1 ?_)
  rcases ht with rfl | ⟨T, oT, ts, rfl, ⟨-, nT⟩, hTa, hT, cT, dT, z⟩
  · rw [if_neg (by decide)]
    exact entry_spec hfr hl hf he hc hda hsz hn fun h' T x nT ⟨oe', vs', oT, ts, r1, r2, r3, r4, r5, r6, r7, r8, r9⟩ => h h' ⟨x, oe', vs', T, oT, ts, r1, r2, r3, r4, .inl nT, r5, r6, r7, r8, r9⟩
  · have xT : XLike oT := ⟨.inl cT, ts, dT⟩
    rw [if_pos (show (Value.ref T != Value.none) = true from by simp)]
    obtain ⟨y, hy⟩ : ∃ y, ts[3]? = some y := ⟨_, Array.getElem?_eq_getElem z⟩
    refine wpAny_bind (wpAny_field hT dT hy ?_)
    by_cases q : (y == rawInt L) = true
    · rw [if_pos q]
      exact wpAny_pure (h _ ⟨XStep.refl P _ _, oe, vs, T, oT, ts, he, hc, hda, h1, .inr rfl, hTa, hT, cT, dT, z⟩)
    · rw [if_neg q]
      refine wpAny_bind (wpAny_setField hT dT z ?_)
      have other : ∀ b, b ≠ T → (s.heap.update T (Obj.mapFields (·.setIfInBounds 3 Value.none))).get? b = s.heap.get? b := fun b hb => Heap.get?_update_other _ _ (Ne.symm hb)
      have dT' := Obj.data_mapFields dT (·.setIfInBounds 3 Value.none)
      have hT' := Heap.get?_update_self (Obj.mapFields (·.setIfInBounds 3 Value.none)) hT (Obj.isFreed_of_fields dT')
      have x1 : XStep P (frs (env :: outer)) s.heap (s.heap.update T (Obj.mapFields (·.setIfInBounds 3 Value.none))) := fun b o e => by
        by_cases hb : b = T
        · subst hb
          rw [hT] at e; cases e
          exact .inr (.inr ⟨xT, nT, _, hT', Obj.cls_mapFields _ _, _, dT'⟩)
        · exact .inl ((other b hb).trans e)
      refine entry_spec (H := H) (s := { s with heap := s.heap.update T (Obj.mapFields (·.setIfInBounds 3 Value.none)) }) hfr (fun env' m => ?_) hf ((other a (Ne.symm hTa)).trans he) hc hda hsz hn fun h' T' x nT' ⟨oe', vs', oT', ts', r1, r2, r3, r4, r5, r6, r7, r8, r9⟩ => h h' ⟨x1.trans (fun b m o e => nS m e) x, oe', vs', T', oT', ts', r1, r2, r3, r4, ?_, r5, r6, r7, r8, r9⟩
      · obtain ⟨i1, L', o', es', n', i2, i3, i4, r1, r2⟩ := hl env' m
        exact ⟨i1, L', o', es', n', i2, (other L' (by rintro rfl; rw [hT] at i3; cases i3; exact XLike.nodict i4 xT)).trans i3, i4, r1, r2⟩
      · by_cases e : T' = T
        · subst e; exact .inr rfl
        · exact .inl ((other T' e).symm.trans nT')

theorem flight_spec {S : List Addr} {f : Option Addr} {a : Addr} {oe : Obj} {vs : Array Value} {hd : Value} {h0 : Heap} {Q : Unit → Shared → Prop}
    (he : s.heap.get? a = some oe) (hda : oe.data = .fields vs) (h1 : vs[1]? = some hd) (ht : TbAt P h0 s.heap a hd)
    (h : ∀ h', XStep P S s.heap h' → h'.get? a = some oe → TbAt P h0 h' a hd → Q () { s with heap := h' }) : wpAny M A (setFlight (.ref a) f) Q E s := by
  obtain ⟨T, oT, ts, rfl, nn, hTa, hT, cT, dT, z⟩ := ht
  unfold setFlight
  refine wpAny_bind (wpAny_field he hda h1 ?_)
  rw [if_pos (show (Value.ref T != Value.none) = true from by simp)]
  refine wpAny_setField hT dT z ?_
  have other : ∀ b, b ≠ T → (s.heap.update T (Obj.mapFields (·.setIfInBounds 3 (f.elim Value.none fun f => rawInt f)))).get? b = s.heap.get? b := fun b hb => Heap.get?_update_other _ _ (Ne.symm hb)
  have dT' := Obj.data_mapFields dT (·.setIfInBounds 3 (f.elim Value.none fun f => rawInt f))
  have hT' := Heap.get?_update_self (Obj.mapFields (·.setIfInBounds 3 (f.elim Value.none fun f => rawInt f))) hT (Obj.isFreed_of_fields dT')
  refine h _ (fun b o e => ?_) ((other a (Ne.symm hTa)).trans he) ⟨T, _, _, rfl, nn, hTa, hT', (Obj.cls_mapFields _ _).trans cT, dT', by simpa using z⟩
  by_cases hb : b = T
  · subst hb
    rw [hT] at e; cases e
    exact .inr (.inr ⟨⟨.inl cT, ts, dT⟩, nn.2, _, hT', Obj.cls_mapFields _ _, _, dT'⟩)
  · exact .inl ((other b hb).trans e)
end
end
end Mine

namespace Mine
section
open PySem PySem.Calls PyProof.Rows
inductive CAsg (G : Gl) (sc : Scope) (tab : Tab) (i : Nat) (e : E) (x : Stmt) : Prop where
  | mk (y : _) (v : _) (p : _) (p' : _) (z0 : x = .Assign [.Name y p] v p') (z1 : cVar sc tab i y = true) (z2 : (sc.names.lookup y != some .free) = true) (z3 : (isComp v = false ∨ isCompE e = true)) (z4 : cE G sc tab e v = true) : CAsg G sc tab i e x
inductive CSto (G : Gl) (sc : Scope) (tab : Tab) (o i e : E) (x : Stmt) : Prop where
  | mk (u : _) (y : _) (v : _) (p : _) (p' : _) (z0 : x = .Assign [.Subscript u y p] v p') (z1 : isComp v = false) (z2 : isSlice y = false) (z3 : cE G sc tab o u = true) (z4 : cE G sc tab i y = true) (z5 : cE G sc tab e v = true) : CSto G sc tab o i e x
inductive CIte (G : Gl) (sc : Scope) (tab : Tab) (e : E) (a b : Ss) (x : Stmt) : Prop where
  | mk (t : _) (u : _) (v : _) (p : _) (z0 : x = .If t u v p) (z1 : cE G sc tab e t = true) (z2 : cSs G sc tab a u = true) (z3 : cSs G sc tab b v = true) : CIte G sc tab e a b x
inductive CFor (G : Gl) (sc : Scope) (tab : Tab) (j : Nat) (src : E) (body : Ss) (x : Stmt) : Prop where
  | mk (y : _) (p : _) (i : _) (b : _) (p' : _) (z0 : x = .For (.Name y p) i b [] p') (z1 : cVar sc tab j y = true) (z2 : (sc.names.lookup y != some .free) = true) (z3 : isSet i = false) (z4 : cE G sc tab src i = true) (z5 : cSs G sc tab body b = true) : CFor G sc tab j src body x
inductive CWhl (G : Gl) (sc : Scope) (tab : Tab) (e : E) (body : Ss) (x : Stmt) : Prop where
  | mk (t : _) (b : _) (p : _) (z0 : x = .While t b [] p) (z1 : cE G sc tab e t = true) (z2 : cSs G sc tab body b = true) : CWhl G sc tab e body x
section
variable {G : Gl} {sc : Scope} {tab : Tab} {x : Stmt}
theorem cS_asg {i : Nat} {e : E} (c : cS G sc tab (.asg i e) x = true) : CAsg G sc tab i e x := by
  obtain ⟨⟨y, h'y⟩, -, c⟩ := oB_true (o := asAssign x) c
  obtain ⟨⟨n, h'n⟩, -, c⟩ := oB_true c
  obtain ⟨c, c4⟩ := andB c
  obtain ⟨c, c3⟩ := andB c
  exact ⟨n.1, y.2.1, n.2, y.2.2, h'y.trans (by rw [h'n]), (andB c).1, (andB c).2, (orB c3).imp notB id, c4⟩
theorem cS_sto {o i e : E} (c : cS G sc tab (.sto o i e) x = true) : CSto G sc tab o i e x := by
  obtain ⟨⟨y, h'y⟩, -, c⟩ := oB_true (o := asAssign x) c
  obtain ⟨⟨n, h'n⟩, -, c⟩ := oB_true c
  obtain ⟨c, c5⟩ := andB c
  obtain ⟨c, c4⟩ := andB c
  obtain ⟨c, c3⟩ := andB c
  exact ⟨n.1, n.2.1, y.2.1, n.2.2, y.2.2, h'y.trans (by rw [h'n]), notB (andB c).1, notB (andB c).2, c3, c4, c5⟩
theorem cS_ex {e : E} (c : cS G sc tab (.ex e) x = true) : ∃ v p, x = .Expr v p ∧ isComp v = false ∧ cE G sc tab e v = true := by
  obtain ⟨⟨y, h'y⟩, -, c⟩ := oB_true (o := asExpr x) c
  exact ⟨_, _, h'y, notB (andB c).1, (andB c).2⟩
theorem cS_ite {e : E} {a b : Ss} (c : cS G sc tab (.ite e a b) x = true) : CIte G sc tab e a b x := by
  obtain ⟨⟨y, h'y⟩, -, c⟩ := oB_true (o := asIf x) c
  exact ⟨_, _, _, _, h'y, (andB (andB c).1).1, (andB (andB c).1).2, (andB c).2⟩
theorem cS_for {j : Nat} {src : E} {body : Ss} (c : cS G sc tab (.for j src body) x = true) : CFor G sc tab j src body x := by
  obtain ⟨⟨y, h'y⟩, -, c⟩ := oB_true (o := asFor x) c
  obtain ⟨⟨n, h'n⟩, -, c⟩ := oB_true c
  obtain ⟨c, c5⟩ := andB c
  obtain ⟨c, c4⟩ := andB c
  obtain ⟨c, c3⟩ := andB c
  exact ⟨n.1, n.2, y.2.1, y.2.2.1, y.2.2.2, h'y.trans (by rw [h'n]), (andB c).1, (andB c).2, notB c3, c4, c5⟩
theorem cS_whl {e : E} {body : Ss} (c : cS G sc tab (.whl e body) x = true) : CWhl G sc tab e body x := by
  obtain ⟨⟨y, h'y⟩, -, c⟩ := oB_true (o := asWhile x) c
  exact ⟨_, _, _, h'y, (andB c).1, (andB c).2⟩
theorem cS_ret {e : E} (c : cS G sc tab (.ret e) x = true) : ∃ v p, x = .Return (some v) p ∧ cE G sc tab e v = true := by
  obtain ⟨⟨y, h'y⟩, -, c⟩ := oB_true (o := asRet x) c
  exact ⟨_, _, h'y, c⟩
theorem cS_cont (c : cS G sc tab .cont x = true) : ∃ p, x = .Continue p := by
  obtain ⟨⟨y, h'y⟩, -, -⟩ := oB_true (o := asCont x) c
  exact ⟨_, h'y⟩
end

noncomputable def Own (env : Env) (a : Addr) : Prop := a = env.locals ∨ ∃ y, env.cells.lookup y = some a

structure Here (P : Cx) (d : Nat) (sc : Scope) (tab : Tab) (env : Env) (A : Around) (ρ : Ro) (H : AHeap) (s : Shared) : Prop where
  K : EnvOk P sc tab env ρ H s.heap
  R : Room P d A H s.heap
  W : Wd P H s
  ob : ∀ a, Own env a → P.hb.get? a = none
  fr : ∃ l, A.frames = some (env :: l)

structure Fo (env : Env) (H : AHeap) (h : Heap) (H' : AHeap) (h' : Heap) : Prop where
  keep : ∀ b o, ¬ Own env b → h.get? b = some o → H b = none → ∃ o', h'.get? b = some o' ∧ KeepO o o'
  dom : ∀ b o, h.get? b = some o → H b = none → H' b = none
  ex : ∀ b o, h.get? b = some o → ∃ o', h'.get? b = some o'

theorem Fo.refl {env : Env} (H : AHeap) (h : Heap) : Fo env H h H h := ⟨fun zz o zz e zz => ⟨o, e, .refl o⟩, fun zz zz zz e => e, fun zz o e => ⟨o, e⟩⟩

section
variable {P : Cx} {d : Nat} {sc : Scope} {tab : Tab} {env : Env} {A : Around} {ρ : Ro} {H H' H'' : AHeap} {h h' h'' : Heap} {s : Shared}

theorem Fo.trans (x : Fo env H h H' h') (y : Fo env H' h' H'' h'') : Fo env H h H'' h'' := by
  refine ⟨fun b o c e n => ?_, fun b o e n => ?_, fun b o e => ?_⟩
  · obtain ⟨o', e', k'⟩ := x.keep b o c e n
    obtain ⟨o'', e'', k''⟩ := y.keep b o' c e' (x.dom b o e n)
    exact ⟨o'', e'', k'.trans k''⟩
  · obtain ⟨o', e'⟩ := x.ex b o e; exact y.dom b o' e' (x.dom b o e n)
  · obtain ⟨o', e'⟩ := x.ex b o e; exact y.ex b o' e'

theorem Here.owns (K : EnvOk P sc tab env ρ H h) {b : Addr} (c : Own env b) : H b = none := by
  rcases c with rfl | ⟨y, e⟩
  · exact K.own
  · exact (K.cells y b e).1
theorem Fo.of (_K : EnvOk P sc tab env ρ H h) (f : Fm H h H' h') : Fo env H h H' h' := ⟨fun b o zz e n => f.keep b o e n, f.dom, f.ex⟩
theorem Fo.tch {a : Addr} (t : Tch H a h h') (c : Own env a) : Fo env H h H h' :=
  ⟨fun b o n e zz => ⟨o, (t.same b (by rintro rfl; exact n c)).trans e, .refl o⟩, fun zz zz zz e => e, fun b o e => by
    by_cases q : b = a
    · subst q; obtain ⟨_, o', _, e', _⟩ := t.obj; exact ⟨o', e'⟩
    · exact ⟨o, (t.same b q).trans e⟩⟩

noncomputable def FlRep (P : Cx) (h : Heap) : Flow → Fl → Prop
  | .next, .next => True
  | .brk, .brk => True
  | .cont, .cont => True
  | .ret w, .ret v => Rep P h w v
  | _, _ => False

inductive PostF (P : Cx) (d : Nat) (sc : Scope) (tab : Tab) (env : Env) (A : Around) (H : AHeap) (h : Heap) (Q : Fl → Ro → AHeap → Prop) (f : Flow) (s' : Shared) : Prop where
  | mk (fl : Fl) (ρ' : Ro) (H' : AHeap) (r : FlRep P s'.heap f fl) (T : Here P d sc tab env A ρ' H' s') (fo : Fo env H h H' s'.heap) (q : Q fl ρ' H') : PostF P d sc tab env A H h Q f s'
inductive PostXF (P : Cx) (d : Nat) (sc : Scope) (tab : Tab) (env : Env) (A : Around) (H : AHeap) (h : Heap) (X : Nat → Ro → AHeap → Prop) (e : Value) (s' : Shared) : Prop where
  | mk (c : Nat) (ρ' : Ro) (H' : AHeap) (x : ExAt P c h s'.heap e) (T : Here P d sc tab env A ρ' H' s') (fo : Fo env H h H' s'.heap) (q : X c ρ' H') : PostXF P d sc tab env A H h X e s'

theorem PostF.trans {Q : Fl → Ro → AHeap → Prop} {f : Flow} {s' : Shared} (x : Fo env H h H' h') (y : PostF P d sc tab env A H' h' Q f s') : PostF P d sc tab env A H h Q f s' :=
  let ⟨fl, ρ', H', a, b, c, d⟩ := y; ⟨fl, ρ', H', a, b, x.trans c, d⟩
theorem PostXF.trans {X : Nat → Ro → AHeap → Prop} {e : Value} {s' : Shared} (x : Fo env H h H' h') (y : PostXF P d sc tab env A H' h' X e s') : PostXF P d sc tab env A H h X e s' :=
  let ⟨fl, ρ', H', a, b, c, d⟩ := y; ⟨fl, ρ', H', a.back x.ex, b, x.trans c, d⟩

theorem Here.step {s s' : Shared} (T : Here P d sc tab env A ρ H s) (W' : Wd P H' s') (f : Fm H s.heap H' s'.heap) : Here P d sc tab env A ρ H' s' := ⟨T.K.step T.W f, T.R.step f, W', T.ob, T.fr⟩

theorem PostX.here {X : Nat → Ro → AHeap → Prop} {e : Value} {s s' : Shared} (T : Here P d sc tab env A ρ H s) (y : PostX P H s.heap (fun c => X c ρ) e s') : PostXF P d sc tab env A H s.heap X e s' :=
  let ⟨c, H', a, W, f, x⟩ := y; ⟨c, ρ, H', a, T.step W f, .of T.K f, x⟩
theorem hereX {α : Type} {X : Nat → Ro → AHeap → Prop} {M : Model} {m : Sem α} {R : α → Shared → Prop} (T : Here P d sc tab env A ρ H s) (x : wpAny M A m R (PostX P H s.heap (fun c => X c ρ)) s) : wpAny M A m R (PostXF P d sc tab env A H s.heap X) s :=
  wpAny_mono x (fun zz zz y => y) fun zz zz y => y.here T
theorem liftF {X : Nat → Ro → AHeap → Prop} {Q : Fl → Ro → AHeap → Prop} {M : Model} {m : Sem Flow} (f : Fo env H h H' h') (x : wpAny M A m (PostF P d sc tab env A H' h' Q) (PostXF P d sc tab env A H' h' X) s) : wpAny M A m (PostF P d sc tab env A H h Q) (PostXF P d sc tab env A H h X) s :=
  wpAny_mono x (fun zz zz y => y.trans f) fun zz zz y => y.trans f
theorem liftFX {α : Type} {X : Nat → Ro → AHeap → Prop} {R : α → Shared → Prop} {M : Model} {m : Sem α} (f : Fo env H h H' h') (x : wpAny M A m R (PostXF P d sc tab env A H' h' X) s) : wpAny M A m R (PostXF P d sc tab env A H h X) s :=
  wpAny_mono x (fun zz zz y => y) fun zz zz y => y.trans f

theorem Here.xstep {l : List Env} {h' : Heap} (T : Here P d sc tab env A ρ H s) (hfr : A.frames = some l) (x : XStep P (frs l) s.heap h') : Here P d sc tab env A ρ H { s with heap := h' } ∧ Fm H s.heap H h' := by
  obtain ⟨l', el, kl⟩ := T.R.frames
  rw [hfr] at el; cases el
  have f : Fm H s.heap H h' := by
    refine ⟨fun b o e n => ?_, fun zz zz zz e => e, fun b o e => ?_⟩
    · rcases x b o e with e' | ⟨m, sl, e'⟩ | ⟨xl, _, o', e', c, dd⟩
      · exact ⟨o, e', .refl o⟩
      · obtain ⟨o₂, es, n, e2, d2, _⟩ := frs_at kl m
        rw [e] at e2; cases e2
        exact ⟨_, e', .inr (.inl ⟨⟨es, n, d2⟩, sl, rfl⟩)⟩
      · exact ⟨o', e', .inr (.inr ⟨xl, c, dd⟩)⟩
    · rcases x b o e with e' | ⟨_, sl, e'⟩ | ⟨_, _, o', e', _⟩ <;> exact ⟨_, e'⟩
  have W' : Wd P H { s with heap := h' } := by
    refine ⟨fun a c e => ?_, fun b o e => ?_, T.W.lo, T.W.gens, T.W.os⟩
    · obtain ⟨o, eo, co⟩ := (T.W.hs a c e).obj
      refine (T.W.hs a c e).step ?_ (f.imm T.W.hs)
      rcases x a o eo with e' | ⟨m, _⟩ | ⟨xl, _⟩
      · exact e'.trans eo.symm
      · obtain ⟨_, _, _, _, _, n, _⟩ := frs_at kl m
        rw [e] at n; cases n
      · rcases co with co | co
        · exact absurd xl (XLike.notyp co (by decide))
        · exact absurd xl (XLike.notyp co (by decide))
    · rcases x b o (T.W.base b o e) with e' | ⟨m, _⟩ | ⟨_, n, _⟩
      · exact e'
      · obtain ⟨_, _, _, _, _, _, n⟩ := frs_at kl m
        rw [e] at n; cases n
      · rw [e] at n; cases n
  exact ⟨T.step W' f, f⟩

inductive ExNt (P : Cx) (c : Nat) (h0 h : Heap) (e : Value) : Prop where
  | mk (a : Addr) (oe : Obj) (vs : Array Value) (hd : Value) (e1 : e = .ref a) (n : h0.get? a = none ∧ P.hb.get? a = none) (g : h.get? a = some oe) (k : c < P.gl.xs.length ∧ oe.cls = .ref (P.xc c)) (d : oe.data = .fields vs) (h1 : vs[1]? = some hd) (t : TbAt P h0 h a hd) : ExNt P c h0 h e
theorem ExNt.at {c : Nat} {h0 h : Heap} {e : Value} (x : ExNt P c h0 h e) : ExAt P c h0 h e :=
  let ⟨a, oe, vs, hd, r1, r2, r3, r4, r5, r6, r7⟩ := x; ⟨a, oe, vs, hd, r1, r2, r3, r4, r5, r6, .inr r7⟩
inductive PostXN (P : Cx) (d : Nat) (sc : Scope) (tab : Tab) (env : Env) (A : Around) (H : AHeap) (h : Heap) (X : Nat → Ro → AHeap → Prop) (e : Value) (s' : Shared) : Prop where
  | mk (c : Nat) (ρ' : Ro) (H' : AHeap) (x : ExNt P c h s'.heap e) (T : Here P d sc tab env A ρ' H' s') (fo : Fo env H h H' s'.heap) (q : X c ρ' H') : PostXN P d sc tab env A H h X e s'
theorem back_none {h0 h1 : Heap} (x : ∀ b o, h0.get? b = some o → ∃ o', h1.get? b = some o') {b : Addr} (n : h1.get? b = none) : h0.get? b = none := by
  cases q : h0.get? b with
  | none => rfl
  | some o => obtain ⟨o', e'⟩ := x b o q; rw [n] at e'; cases e'
theorem TbAt.back {h0 h1 h : Heap} {a : Addr} {hd : Value} (x : ∀ b o, h0.get? b = some o → ∃ o', h1.get? b = some o') (y : TbAt P h1 h a hd) : TbAt P h0 h a hd :=
  let ⟨T, oT, ts, t1, ⟨t2, t2'⟩, r1, r2, r3, r4, r5⟩ := y; ⟨T, oT, ts, t1, ⟨back_none x t2, t2'⟩, r1, r2, r3, r4, r5⟩
theorem PostXN.trans {X : Nat → Ro → AHeap → Prop} {e : Value} {s' : Shared} (x : Fo env H h H' h') (y : PostXN P d sc tab env A H' h' X e s') : PostXN P d sc tab env A H h X e s' :=
  let ⟨c, ρ', H', ⟨a, oe, vs, hd, r1, ⟨r2, r2'⟩, r3, r4, r5, r6, r7⟩, T, f, q⟩ := y; ⟨c, ρ', H', ⟨a, oe, vs, hd, r1, ⟨back_none x.ex r2, r2'⟩, r3, r4, r5, r6, r7.back x.ex⟩, T, x.trans f, q⟩

theorem noting {X : Nat → Ro → AHeap → Prop} {M : Model} {e : Value} {s' : Shared} {E : Value → Shared → Prop} (x : PostXF P d sc tab env A H h X e s') : wpAny M A (noteFrame e env) (fun zz s'' => PostXN P d sc tab env A H h X e s'') E s' := by
  obtain ⟨c, ρ', H', ⟨a, oe, vs, hd, rfl, ⟨n1, n2⟩, he, ⟨hc, hcl⟩, hdat, h1, ht⟩, T, f, q⟩ := x
  obtain ⟨l, hfr⟩ := T.fr
  obtain ⟨l', el, kl⟩ := T.R.frames
  rw [hfr] at el; cases el
  refine note_spec hfr kl he hcl hdat h1 n2 ht fun h' N => ?_
  obtain ⟨T', f'⟩ := T.xstep hfr N.step
  obtain ⟨oe', vs', T2, oT, ts, r1, r2, r3, r4, r5, r6, r7, r8, r9, r10⟩ := N.obj
  refine ⟨c, ρ', H', ⟨a, oe', vs', .ref T2, rfl, ⟨n1, n2⟩, r1, ⟨hc, r2⟩, r3, r4, T2, oT, ts, rfl, ?_, r6, r7, r8, r9, r10⟩, T', f.trans (.of T.K f'), q⟩
  rcases r5 with r5 | r5
  · exact ⟨back_none f.ex r5, T.W.newBase r5⟩
  · subst r5
    rcases ht with ht | ⟨T3, _, _, e3, nn, _⟩
    · cases ht
    · cases e3; exact nn
theorem noted {X : Nat → Ro → AHeap → Prop} {M : Model} {e : Value} {s' : Shared} (x : PostXF P d sc tab env A H h X e s') : notedBy M A env (PostXN P d sc tab env A H h X) e s' := noting x
theorem flown {A' : Around} {X : Nat → Ro → AHeap → Prop} {M : Model} {e : Value} {s' : Shared} {fr : Option Addr} {E : Value → Shared → Prop} {Q : Unit → Shared → Prop} (x : PostXN P d sc tab env A H h X e s') (k : ∀ s'', PostXN P d sc tab env A H h X e s'' → Q () s'') : wpAny M A' (setFlight e fr) Q E s' := by
  obtain ⟨c, ρ', H', ⟨a, oe, vs, hd, rfl, n1, he, hcl, hdat, h1, ht⟩, T, f, q⟩ := x
  obtain ⟨l, hfr⟩ := T.fr
  refine flight_spec (S := frs (env :: l)) he hdat h1 ht fun h' x he' ht' => k _ ?_
  obtain ⟨T', f'⟩ := T.xstep hfr x
  exact ⟨c, ρ', H', ⟨a, oe, vs, hd, rfl, n1, he', hcl, hdat, h1, ht'⟩, T', f.trans (.of T.K f'), q⟩
theorem PostXN.at {X : Nat → Ro → AHeap → Prop} {e : Value} {s' : Shared} (x : PostXN P d sc tab env A H h X e s') : PostXF P d sc tab env A H h X e s' :=
  let ⟨c, ρ', H', a, b, f, q⟩ := x; ⟨c, ρ', H', a.at, b, f, q⟩
theorem cameBack {X : Nat → Ro → AHeap → Prop} {M : Model} {e : Value} {s' : Shared} (x : PostXN P d sc tab env A H h X e s') : cameBackBy M A env (PostXF P d sc tab env A H h X) e s' := by
  obtain ⟨c, ρ', H', ⟨a, oe, vs, hd, rfl, n1, he, hcl, hdat, h1, ht⟩, r⟩ := id x
  refine wpAny_bind (wpAny_field he hdat h1 ?_)
  obtain ⟨T, oT, ts, rfl, _⟩ := ht
  show wpAny M A (setFlight (.ref a) env.frame) _ _ _
  exact flown x fun s'' y => y.at

theorem EnvOk.same (K : EnvOk P sc tab env ρ H h) (im : ImmK h h') (ho : ∀ a, Own env a → h'.get? a = h.get? a) (hn : ∀ a, Own env a → H' a = none) : EnvOk P sc tab env ρ H' h' where
  kind := K.kind
  names := K.names
  globals := K.globals
  builtins := K.builtins
  inj := K.inj
  tok := K.tok
  vars := by
    obtain ⟨m, ⟨o, es, ep, e, r⟩, hv⟩ := K.vars
    refine ⟨m, ⟨o, es, ep, (ho _ (.inl rfl)).trans e, r⟩, fun y i v e1 e2 => ?_⟩
    rcases hv y i v e1 e2 with ⟨hk, w, e, r⟩ | ⟨hk, c, w, e, ⟨o', e', r'⟩, r⟩
    · exact .inl ⟨hk, w, e, r.mono im⟩
    · exact .inr ⟨hk, c, w, e, ⟨o', (ho _ (.inr ⟨_, e⟩)).trans e', r'⟩, r.mono im⟩
  own := hn _ (.inl rfl)
  hasCell := K.hasCell
  cells := fun y c e => by
    obtain ⟨_, v, o', e', r'⟩ := K.cells y c e
    exact ⟨hn _ (.inr ⟨_, e⟩), v, o', (ho _ (.inr ⟨_, e⟩)).trans e', r'⟩
  apart := K.apart

theorem storeHere {M : Model} {i : Nat} {x : Str} {v : V} {w : Value} {Q : Unit → Shared → Prop} {E : Value → Shared → Prop} (T : Here P d sc tab env A ρ H s) (c : cVar sc tab i x = true) (hf : (sc.names.lookup x != some .free) = true)
    (r : Rep P s.heap w v) (h : ∀ h' t a, Tch H a s.heap h' → Own env a → Here P d sc tab env A (ρ.upd i v) H { s with heap := h', toks := t } → Fo env H s.heap H h' → Q () { s with heap := h', toks := t }) :
    wpAny M A (storeName env x w) Q E s :=
  storeVar T.K c hf r fun h' t a tc ho zz K' => h h' t a tc ho ⟨K', T.R.tch tc, tc.wd T.W (T.ob a ho) t, T.ob, T.fr⟩ (.tch tc ho)

structure SoundS (P : Cx) (d : Nat) (X : Nat → Ro → AHeap → Prop) (st : S) : Prop where
  go : ∀ {x : Stmt} {sc : Scope} {tab : Tab} {env : Env} {ρ : Ro} {Q : Fl → Ro → AHeap → Prop} {H : AHeap} {A : Around} {s : Shared},
    cS P.gl sc tab st x = true → Here P d sc tab env A ρ H s → vS P d X st Q ρ H →
    wpAny (model P.prog P.w) A (exec x env) (PostF P d sc tab env A H s.heap Q) (PostXF P d sc tab env A H s.heap X) s
structure SoundSs (P : Cx) (d : Nat) (X : Nat → Ro → AHeap → Prop) (st : Ss) : Prop where
  go : ∀ {x : List Stmt} {sc : Scope} {tab : Tab} {env : Env} {ρ : Ro} {Q : Fl → Ro → AHeap → Prop} {H : AHeap} {A : Around} {s : Shared},
    cSs P.gl sc tab st x = true → Here P d sc tab env A ρ H s → vSs P d X st Q ρ H →
    wpAny (model P.prog P.w) A (execs x env) (PostF P d sc tab env A H s.heap Q) (PostXF P d sc tab env A H s.heap X) s

variable {X : Nat → Ro → AHeap → Prop}

theorem here0 {Q : Fl → Ro → AHeap → Prop} {f : Flow} {fl : Fl} (T : Here P d sc tab env A ρ H s) (r : FlRep P s.heap f fl) (q : Q fl ρ H) : PostF P d sc tab env A H s.heap Q f s := ⟨fl, ρ, H, r, T, .refl _ _, q⟩

theorem sS_cont : SoundS P d X .cont := .mk fun {x sc tab env ρ Q H A s} c T q => by
  obtain ⟨p, rfl⟩ := cS_cont c
  have q : Q .cont ρ H := q
  exact wpAny_Continue (here0 (fl := .cont) T trivial q)

theorem sS_ret {e : E} (F : Facts P) : SoundS P d X (.ret e) := .mk fun {x sc tab env ρ Q H A s} c T q => by
  obtain ⟨v, p, rfl, c⟩ := cS_ret c
  exact wpAny_Return_some (hereX T (thenV ((sndET F e).1.go c T.K T.R T.W q) fun w r H1 s1 hr W1 f1 q1 => ⟨.ret r, ρ, H1, hr, T.step W1 f1, .of T.K f1, q1⟩))

theorem sS_ex {e : E} (F : Facts P) : SoundS P d X (.ex e) := .mk fun {x sc tab env ρ Q H A s} c T q => by
  obtain ⟨v, p, rfl, hc, c⟩ := cS_ex c
  refine wpAny_Expr_any (hereX T (thenV ((sndET F e).1.go c T.K T.R T.W q) fun w r H1 s1 hr W1 f1 q1 => ⟨.next, ρ, H1, trivial, T.step W1 f1, .of T.K f1, q1⟩)) ?_ ?_
  · unfold interactive; rw [T.K.kind]; rfl
  · cases v <;> first | rfl | exact nc' hc

theorem sS_ite {e : E} {a b : Ss} (F : Facts P) (ia : SoundSs P d X a) (ib : SoundSs P d X b) : SoundS P d X (.ite e a b) := .mk fun {x sc tab env ρ Q H A s} c T q => by
  have cx := cS_ite c
  clear c
  obtain ⟨t, u, v, p, rfl, c, ca, cb⟩ := cx
  refine wpAny_If (wpAny_mono ((sndET F e).2.go (Q := fun t H => br t (vSs P d X a Q ρ H) (vSs P d X b Q ρ H)) c T.K T.R T.W q) (fun t s1 y => ?_) fun zz zz y => y.here T)
  obtain ⟨H1, W1, f1, q1⟩ := y
  cases t with
  | true => exact liftF (.of T.K f1) (ia.go ca (T.step W1 f1) (br.yes q1))
  | false => exact liftF (.of T.K f1) (ib.go cb (T.step W1 f1) (br.no q1))

theorem sSs_nil : SoundSs P d X .nil := .mk fun {x sc tab env ρ Q H A s} c T q => by
  cases x with
  | nil =>
    exact wpAny_execs_nil (here0 (fl := .next) T trivial q)
  | cons _ _ => exact nc c
theorem sSs_cons {st : S} {ss : Ss} (i1 : SoundS P d X st) (i2 : SoundSs P d X ss) : SoundSs P d X (.cons st ss) := .mk fun {x sc tab env ρ Q H A s} c T q => by
  cases x with
  | nil => exact nc c
  | cons x xs =>
    simp only [cSs, Bool.and_eq_true] at c
    refine wpAny_execs_cons (wpAny_mono (i1.go c.1 T q) (fun f s1 y => ?_) fun zz zz y => y)
    obtain ⟨fl, ρ1, H1, r, T1, f1, q1⟩ := y
    cases f <;> cases fl <;> first | exact False.elim r | skip
    · exact liftF f1 (i2.go c.2 T1 q1)
    · exact ⟨.brk, ρ1, H1, r, T1, f1, q1⟩
    · exact ⟨.cont, ρ1, H1, r, T1, f1, q1⟩
    · exact ⟨.ret _, ρ1, H1, r, T1, f1, q1⟩

set_option tactic.hygienic true in
theorem sS_asg {i : Nat} {e : E} (F : Facts P) : SoundS P d X (.asg i e) := .mk fun {x sc tab env ρ Q H A s} c T q => by
  have cx := cS_asg c
  clear c
  obtain ⟨y, v, p, p', rfl, cv, hf, hcomp, c⟩ := cx
  have plain : swapsWith v (some (.Name y p)) p'.line env = pure false → wpAny (model P.prog P.w) A (exec (.Assign [.Name y p] v p') env) (PostF P d sc tab env A H s.heap Q) (PostXF P d sc tab env A H s.heap X) s := fun hs =>
    wpAny_Assign_Name (hereX T (thenV ((sndET F e).1.go c T.K T.R T.W q) fun w r H1 s1 hr W1 f1 q1 =>
      storeHere (T.step W1 f1) cv hf hr fun h' t a tc ho T2 f2 => ⟨.next, _, H1, trivial, T2, (Fo.of T.K f1).trans f2, q1⟩)) hs
  rcases hcomp with hc | hc
  · refine plain ?_
    cases v <;> first | rfl | exact nc' hc
  · cases e <;> first | exact nc hc | skip
    rename_i j elt src cond
    have c' := c
    obtain ⟨z, pz, it, ifs, sc', px, pos, rfl, ok, hset, hdb, hcd, hj, ci, ce, cc⟩ := cE_comp c'
    obtain ⟨b, hb⟩ : ∃ b, swapsWith (.ListComp z [⟨.Name pz px, it, ifs, 0⟩] sc' pos) (some (.Name y p)) p'.line env = pure b := ⟨_, rfl⟩
    cases b with
    | false => exact plain hb
    | true =>
      rw [exec_Assign_Name_used _ _ _ _ hb]
      have ok := compOk_of ok
      have hfree : ∀ z ∈ sc'.names, z.2 = .free → ∃ c, env.cells.lookup z.1 = some c := fun z hz hf => by
        have hcell := ok.free z hz hf
        exact T.K.hasCell _ ((T.K.names _ _ hcell).resolve_right fun q => by cases q.1)
      obtain ⟨cl, hclos, hcl, hcl2⟩ := closureFor_has hfree
      refine wpAny_bind (wpAny_standAt (wpAny_bind ?_))
      refine wpAny_bind (wpAny_comprehension_free (use := some (assign (.Name y p) env)) (Q := fun zz s' => wpAny (model P.prog P.w) A (pure ()) (fun zz s'' => wpAny (model P.prog P.w) A (pure Flow.next) (PostF P d sc tab env A H s.heap Q) (PostXF P d sc tab env A H s.heap X) s'') (PostXF P d sc tab env A H s.heap X) s') rfl (foldedSet hset) hclos ok.kind ok.locals
        (hereX T (thenV ((sndET F src).1.go ci T.K T.R T.W q) fun w r H1 s1 hr W1 f1 q1 => ?_)))
      obtain ⟨xs, hi, hd, q1⟩ := q1
      have T1 := T.step W1 f1
      refine comp_all F (sndET F elt).1 (sndET F cond).2 hd T1.K T1.R W1 ok hdb hcd hj ce cc hcl hcl2 hr hi q1 fun D C s' nD nC x => ?_
      show wpAny _ _ (assign (.Name y p) env (.ref D)) _ _ _
      obtain ⟨H2, vs, ws, hl, hrs, W2, f2, ⟨m, hns⟩, hD, hC, q2⟩ := x
      have T2 : Here P d sc tab env A ρ H2 s' := T1.step W2 f2
      refine wpAny_assign_Name (storeHere (v := .lst D) T2 cv hf (.lst D) fun h3 t a tc ho T3 f3 => ?_)
      have hns' := hns
      obtain ⟨oc, es, ep, ec, dc, _⟩ := hns'
      have hl' := hl
      obtain ⟨n, hl'⟩ := hl'
      have neDC : D ≠ C := by rintro rfl; rw [hl'] at ec; cases ec; cases dc
      have old : ∀ b o, s1.heap.get? b = some o → b ≠ C ∧ b ≠ D := fun b o e => ⟨(by rintro rfl; rw [nC] at e; cases e), (by rintro rfl; rw [nD] at e; cases e)⟩
      have own1 : ∀ b, Own env b → ∃ o, s1.heap.get? b = some o := fun b c => by
        rcases c with rfl | ⟨y, e⟩
        · obtain ⟨_, ⟨o, _, _, e, _⟩, _⟩ := T1.K.vars; exact ⟨o, e⟩
        · obtain ⟨_, _, o, e, _⟩ := T1.K.cells y b e; exact ⟨o, e⟩
      obtain ⟨oa, hoa⟩ := own1 a ho
      have naC := (old a oa hoa).1
      have naD := (old a oa hoa).2
      refine ⟨m, ?_, fun h4 hs4 => wpAny_pure (wpAny_pure ?_)⟩
      · obtain ⟨o, es, ep, e, r⟩ := hns; exact ⟨o, es, ep, (tc.same C (Ne.symm naC)).trans e, r⟩
      have k4 : ∀ b o, b ≠ C → h3.get? b = some o → h4.get? b = some o := fun b o hb e => (hs4.2 b hb).trans e
      have ec3 : h3.get? C = some oc := (tc.same C (Ne.symm naC)).trans ec
      have nim : ∀ o, h3.get? C = some o → Dull o := fun o e => by rw [ec3] at e; cases e; exact .dict dc
      have im : ImmK h3 h4 := .but k4 nim
      have W4 := (T3.W.but (h' := h4) (t := t) hC (W1.newBase nC) nim k4).put (c := .list vs) D (W1.newBase nD) ⟨ws, ⟨n, (k4 D _ neDC ((tc.same D (Ne.symm naD)).trans hl'))⟩, (hrs.mono tc.imm).mono im, q2.1⟩
      have dom2 : ∀ b o, s1.heap.get? b = some o → H2 b = none → (H2.upd D (.list vs)) b = none := fun b o e n => by rw [upd_ne (old b o e).2]; exact n
      have K4 : EnvOk P sc tab env (ρ.upd i (.lst D)) (H2.upd D (.list vs)) h4 := T3.K.same im (fun b c => let ⟨o, e⟩ := own1 b c; hs4.2 b (old b o e).1) (fun b c => let ⟨o, e⟩ := own1 b c; dom2 b o e (Here.owns T3.K c))
      have R4 : Room P d A (H2.upd D (.list vs)) h4 := ⟨T.R.units, T.R.hd, T.R.depth, by
        obtain ⟨l, el, kl⟩ := T1.R.frames
        refine ⟨l, el, fun env' m' => ?_⟩
        obtain ⟨kn, L, o, es, n, eL, e, _, hn⟩ := kl env' m'
        obtain ⟨kn', L', o', es', n', eL', e', d', hn', hb'⟩ := ((kl env' m').step f2).tch tc
        rw [eL] at eL'; cases eL'
        exact ⟨kn, L, o', es', n', eL, k4 L o' (old L o e).1 e', d', dom2 L o e hn', hb'⟩⟩
      refine ⟨.next, _, _, trivial, ⟨K4, R4, W4, T.ob, T.fr⟩, (Fo.of T.K f1).trans ⟨fun b o c e n => ?_, fun b o e n => dom2 b o e (f2.dom b o e n), fun b o e => ?_⟩, q2.2 D hD⟩
      · obtain ⟨o2, e2, kk⟩ := f2.keep b o e n
        exact ⟨o2, k4 b o2 (old b o e).1 ((tc.same b (by rintro rfl; exact c ho)).trans e2), kk⟩
      · obtain ⟨o2, e2⟩ := f2.ex b o e
        obtain ⟨o3, e3⟩ := f3.ex b o2 e2
        exact ⟨o3, k4 b o3 (old b o e).1 e3⟩
end
end
end Mine

namespace Mine
section
open PySem PySem.Calls PyProof.Rows
section
variable {P : Cx} {d : Nat} {sc : Scope} {tab : Tab} {env : Env} {A : Around} {ρ : Ro} {H H' H'' : AHeap} {h h' h'' : Heap} {s : Shared} {X : Nat → Ro → AHeap → Prop}

theorem sS_unp {is : List Nat} {e : E} (F : Facts P) : SoundS P d X (.unp is e) := .mk fun zz zz q => False.elim q
theorem snd_sto {x k v : V} {wx wk w : Value} {Q : AHeap → Prop} {E : Value → Shared → Prop} (F : Facts P) (W : Wd P H s) (rx : Rep P s.heap wx x) (rk : Rep P s.heap wk k) (r : Rep P s.heap w v) (q : stoV x k v Q H) :
    wpAny (model P.prog P.w) A (setItem wx wk w) (fun zz s' => ∃ H', Wd P H' s' ∧ Fm H s.heap H' s'.heap ∧ Q H') E s := by
  exact False.elim q
theorem sS_sto {o i e : E} (F : Facts P) : SoundS P d X (.sto o i e) := .mk fun {x sc tab env ρ Q H A s} c T q => by
  have cx := cS_sto c
  clear c
  obtain ⟨u, y, v, p, p', rfl, hc, hsl, co, ci, ce⟩ := cx
  refine wpAny_Assign_Subscript (hereX T (thenV ((sndET F e).1.go ce T.K T.R T.W q) fun w r H1 s1 hr W1 f1 q1 => ?_)) ?_
  · have T1 := T.step W1 f1
    refine liftFX (.of T.K f1) (hereX T1 (thenV ((sndET F o).1.go co T1.K T1.R W1 q1) fun wo ro H2 s2 hro W2 f2 q2 => ?_))
    have T2 := T1.step W2 f2
    refine liftFX (.of T.K (f1.trans f2)) (hereX T2 (thenV ((sndET F i).1.go ci T2.K T2.R W2 q2) fun wi ri H3 s3 hri W3 f3 q3 => ?_))
    have T3 := T2.step W3 f3
    refine wpAny_mono (snd_sto F W3 (hro.step W2 f3) hri (hr.step W1 (f2.trans f3)) q3) (fun zz s4 y => ?_) fun zz zz y => y
    obtain ⟨H4, W4, f4, q4⟩ := y
    have f := ((f1.trans f2).trans f3).trans f4
    exact ⟨.next, ρ, H4, trivial, T.step W4 f, .of T.K f, q4⟩
  · cases v <;> first | rfl | exact nc' hc

structure FLoop (P : Cx) (d : Nat) (sc : Scope) (tab : Tab) (env : Env) (A : Around) (H1 : AHeap) (h1 : Heap) (it : Addr) (v : V) (i : Nat) (ρ : Ro) (H : AHeap) (s : Shared) : Prop where
  T : Here P d sc tab env A ρ H s
  itr : ItAt H s.heap it v i
  fm : Fo env H1 h1 H s.heap
  hI : H it = none
  nO : ¬ Own env it
  bI : P.hb.get? it = none
  nB : h1.get? it = none

theorem FLoop.step {H1 : AHeap} {h1 : Heap} {it : Addr} {v : V} {i : Nat} {xs : List V} {H0 : AHeap} {s s' : Shared} {ρ' : Ro} (L : FLoop P d sc tab env A H1 h1 it v i ρ H s) (T' : Here P d sc tab env A ρ' H' s') (f : Fo env H s.heap H' s'.heap)
    (hi : stays H0 v xs H) (hi' : stays H0 v xs H') : FLoop P d sc tab env A H1 h1 it v i ρ' H' s' := by
  obtain ⟨o, fs, e, dd⟩ := L.itr.fields
  refine ⟨T', L.itr.at (fun o' e' => ?_) hi.1 hi'.1 (fun a ha => (hi'.2 a ha).trans (hi.2 a ha).symm), L.fm.trans f, f.dom _ _ e L.hI, L.nO, L.bI, L.nB⟩
  rw [e] at e'; cases e'
  obtain ⟨o', e', k⟩ := f.keep it o L.nO e L.hI
  rw [← k.eq (by rw [dd]; simp) (L.itr.nx e)]; exact e'

theorem FLoop.turn {H1 : AHeap} {h1 : Heap} {it : Addr} {v : V} {i : Nat} {t : Nat} (L : FLoop P d sc tab env A H1 h1 it v i ρ H s) (hkk : ∀ b o, b ≠ it → s.heap.get? b = some o → h'.get? b = some o) :
    Here P d sc tab env A ρ H { s with heap := h', toks := t } ∧ Fo env H1 h1 H h' := by
  obtain ⟨oi, fs, ei, di⟩ := L.itr.fields
  have im : ImmK s.heap h' := .but hkk fun o e => L.itr.dull e
  have own3 : ∀ a, Own env a → ∃ o, s.heap.get? a = some o := fun b c => by
    rcases c with rfl | ⟨y, e⟩
    · obtain ⟨_, ⟨o, _, _, e, _⟩, _⟩ := L.T.K.vars; exact ⟨o, e⟩
    · obtain ⟨_, _, o, e, _⟩ := L.T.K.cells y b e; exact ⟨o, e⟩
  have ko : ∀ a, Own env a → h'.get? a = s.heap.get? a := fun a c => by
    obtain ⟨o, e⟩ := own3 a c
    rw [e]; exact hkk a o (by rintro rfl; exact L.nO c) e
  refine ⟨⟨L.T.K.same im ko fun a c => Here.owns L.T.K c, ⟨L.T.R.units, L.T.R.hd, L.T.R.depth, ?_⟩, L.T.W.but L.hI L.bI (fun o e => L.itr.dull e) hkk, L.T.ob, L.T.fr⟩, ⟨fun b o c e n => ?_, L.fm.dom, fun b o e => ?_⟩⟩
  · obtain ⟨l, el, kl⟩ := L.T.R.frames
    refine ⟨l, el, fun env' m' => ?_⟩
    obtain ⟨kn, L', o, es, n, eL, e, dd, hn, hb⟩ := kl env' m'
    exact ⟨kn, L', o, es, n, eL, hkk L' o (by rintro rfl; rw [ei] at e; cases e; rw [di] at dd; cases dd) e, dd, hn, hb⟩
  · obtain ⟨o', e', k⟩ := L.fm.keep b o c e n
    exact ⟨o', hkk b o' (by rintro rfl; rw [L.nB] at e; cases e) e', k⟩
  · obtain ⟨o', e'⟩ := L.fm.ex b o e
    exact ⟨o', hkk b o' (by rintro rfl; rw [L.nB] at e; cases e) e'⟩

set_option maxHeartbeats 1000000 in
theorem sS_for {j : Nat} {src : E} {body : Ss} (F : Facts P) (ib : SoundSs P d X body) : SoundS P d X (.for j src body) := .mk fun {x sc tab env ρ Q H A s} c T q => by
  have cx := cS_for c
  clear c
  obtain ⟨y, p, i, b, p', rfl, cv, hf, hset, ci, cb⟩ := cx
  refine wpAny_For (hereX T (thenV ((sndET F src).1.go ci T.K T.R T.W q) fun w v H1 s1 hr W1 f1 q1 => ?_)) (foldedSet hset)
  obtain ⟨xs, hi, hd, q1⟩ := q1
  have T1 := T.step W1 f1
  refine iterStart F W1 hr hi fun it h2 nI hit hk2 => ?_
  have f2 : Fm H1 s1.heap H1 h2 := .grow hk2
  have T2 : Here P d sc tab env A ρ H1 { s1 with heap := h2 } := T1.step (W1.grow hk2 rfl rfl) f2
  have nO : ¬ Own env it := fun c => by
    rcases c with rfl | ⟨y, e⟩
    · obtain ⟨_, ⟨o, _, _, e, _⟩, _⟩ := T1.K.vars; rw [nI] at e; cases e
    · obtain ⟨_, _, o, e, _⟩ := T1.K.cells y it e; rw [nI] at e; cases e
  have L2 : FLoop P d sc tab env A H1 s1.heap it v 0 ρ H1 { s1 with heap := h2 } := ⟨T2, hit, .of T1.K f2, W1.noneOf nI, nO, W1.newBase nI, nI⟩
  refine codeAny_mono (R := fun r s' => match r with | .ok f => PostF P d sc tab env A H1 s1.heap Q f s' | .error e => PostXN P d sc tab env A H1 s1.heap X e s') ?_ (fun r s' z => ?_)
  · refine codeAny_forLoop (I := fun n s' => ∃ k ρ' H', n = xs.length - k ∧ k ≤ xs.length ∧ FLoop P d sc tab env A H1 s1.heap it v k ρ' H' s' ∧ forLoop (stays H1 v xs) j (fun R ρ H => vSs P d X body R ρ H) Q (xs.drop k) ρ' H') ?_ (xs.length - 0) ⟨0, ρ, H1, rfl, Nat.zero_le _, L2, q1⟩
    rintro n s3 ⟨k, ρ3, H3, rfl, hk, L, q3⟩
    have hst : stays H1 v xs H3 := by
      cases hx : xs.drop k with
      | nil => rw [hx] at q3; exact q3.1
      | cons x r => rw [hx] at q3; exact q3.1
    refine iterNext (T.R.hd hd) L.T.W L.itr hst.1 L.hI (fun hx h' t hkk => ?_) (fun x hx wy h' t rx hit' hsame => ?_)
    · have hx' : xs.drop k = [] := by
        rw [List.getElem?_eq_none_iff] at hx
        exact List.drop_eq_nil_of_le hx
      rw [hx'] at q3
      obtain ⟨T4, f4⟩ := L.turn (t := t) hkk
      exact wpAny_execs_nil ⟨.next, ρ3, H3, trivial, T4, f4, q3.2⟩
    · obtain ⟨hlt, hxk⟩ := List.getElem?_eq_some_iff.mp hx
      have hx' : xs.drop k = x :: xs.drop (k + 1) := by rw [← hxk]; exact List.drop_eq_getElem_cons hlt
      rw [hx'] at q3
      obtain ⟨T4, f4⟩ := L.turn (t := t) (h' := h') fun b o hb e => (hsame b hb).trans e
      have L4 : FLoop P d sc tab env A H1 s1.heap it v (k + 1) ρ3 H3 { s3 with heap := h', toks := t } := ⟨T4, hit', f4, L.hI, L.nO, L.bI, L.nB⟩
      refine wpAny_assign_Name (storeHere T4 cv hf rx fun h5 t5 a tc ho T5 f5 => ?_)
      have L5 : FLoop P d sc tab env A H1 s1.heap it v (k + 1) (ρ3.upd j x) H3 { s3 with heap := h5, toks := t5 } := L4.step (s' := { s3 with heap := h5, toks := t5 }) T5 f5 hst hst
      refine wpAny_mono (ib.go cb T5 q3.2) (fun f s6 z => ?_) fun e s6 z => noted (z.trans L5.fm)
      obtain ⟨fl, ρ6, H6, r6, T6, f6, q6⟩ := z
      have again : forLoop (stays H1 v xs) j (fun R ρ H => vSs P d X body R ρ H) Q (xs.drop (k + 1)) ρ6 H6 → ∃ m, m < xs.length - k ∧ ∃ k' ρ' H', m = xs.length - k' ∧ k' ≤ xs.length ∧ FLoop P d sc tab env A H1 s1.heap it v k' ρ' H' s6 ∧ forLoop (stays H1 v xs) j (fun R ρ H => vSs P d X body R ρ H) Q (xs.drop k') ρ' H' := fun z => by
        have hst6 : stays H1 v xs H6 := by
          cases hx : xs.drop (k + 1) with
          | nil => rw [hx] at z; exact z.1
          | cons x r => rw [hx] at z; exact z.1
        exact ⟨xs.length - (k + 1), by omega, k + 1, ρ6, H6, rfl, hlt, L5.step T6 f6 hst hst6, z⟩
      cases f <;> cases fl <;> first | exact False.elim r6 | skip
      · exact again q6
      · exact ⟨.next, ρ6, H6, trivial, T6, L5.fm.trans f6, q6⟩
      · exact again q6
      · exact ⟨.ret _, ρ6, H6, r6, T6, L5.fm.trans f6, q6⟩
  · cases r with
    | ok f => exact PostF.trans (.of T.K f1) z
    | error e => exact cameBack (PostXN.trans (.of T.K f1) z)

set_option maxHeartbeats 1000000 in
theorem sS_whl {e : E} {body : Ss} (F : Facts P) (ib : SoundSs P d X body) : SoundS P d X (.whl e body) := .mk fun {x sc tab env ρ Q H A s} c T q => by
  have cx := cS_whl c
  clear c
  obtain ⟨t, b, p, rfl, c, cb⟩ := cx
  obtain ⟨hd, n, q⟩ := q
  refine wpAny_While (codeAny_mono (R := fun r s' => match r with | .ok f => PostF P d sc tab env A H s.heap Q f s' | .error e => PostXN P d sc tab env A H s.heap X e s') ?_ (fun r s' z => ?_))
  · refine codeAny_whileLoop (I := fun n s' => ∃ ρ' H', Here P d sc tab env A ρ' H' s' ∧ Fo env H s.heap H' s'.heap ∧
      whileLoop (fun R ρ H => vE P d (fun c => X c ρ) e ρ (fun v H => truthV v (R · H)) H) (fun R ρ H => vSs P d X body R ρ H) Q n ρ' H') ?_ n ⟨ρ, H, T, .refl _ _, q⟩
    rintro n s1 ⟨ρ1, H1, T1, f1, q1⟩
    cases n with
    | zero => exact False.elim q1
    | succ n =>
      refine wpAny_mono ((sndET F e).2.go c T1.K T1.R T1.W q1) (fun tb s2 y => ?_) fun zz zz y => noted ((y.here T1).trans f1)
      obtain ⟨H2, W2, f2, q2⟩ := y
      have T2 := T1.step W2 f2
      have fo2 : Fo env H s.heap H2 s2.heap := f1.trans (.of T1.K f2)
      cases tb with
      | false =>
        rw [if_neg (by simp)]
        exact wpAny_execs_nil ⟨.next, ρ1, H2, trivial, T2, fo2, br.no q2⟩
      | true =>
        rw [if_pos rfl]
        refine wpAny_mono (ib.go cb T2 (br.yes q2)) (fun f s3 z => ?_) fun e s3 z => noted (z.trans fo2)
        obtain ⟨fl, ρ3, H3, r3, T3, f3, q3⟩ := z
        cases f <;> cases fl <;> first | exact False.elim r3 | skip
        · exact ⟨n, Nat.lt_succ_self n, ρ3, H3, T3, fo2.trans f3, q3⟩
        · exact ⟨.next, ρ3, H3, trivial, T3, fo2.trans f3, q3⟩
        · exact ⟨n, Nat.lt_succ_self n, ρ3, H3, T3, fo2.trans f3, q3⟩
        · exact ⟨.ret _, ρ3, H3, r3, T3, fo2.trans f3, q3⟩
  · cases r with
    | ok f => exact z
    | error e => exact cameBack z

end
end
end Mine

namespace Mine
section
open PySem PySem.Calls PyProof.Rows
section
variable {G : Gl} {sc : Scope} {tab : Tab} {x : Stmt}
theorem cS_raise {c : Nat} (h : cS G sc tab (.raise c) x = true) : ∃ n p t k p2 p3 p4 g, x = .Raise (some (.Call (.Name n p) [.Constant (.str t) k p2] [] p3)) none p4 ∧ G.xs[c]? = some g ∧ cGlob sc g (.Name n p) = true := by
  obtain ⟨⟨y, h'y⟩, -, h⟩ := oB_true (o := asRaise x) h
  obtain ⟨g, hg, h⟩ := oB_true h
  obtain ⟨⟨z, h'z⟩, -, h⟩ := oB_true h
  obtain ⟨⟨t, h't⟩, -, h⟩ := oB_true h
  obtain ⟨⟨n, h'n⟩, -, h⟩ := oB_true h
  exact ⟨n.1, n.2, t, z.2.1, z.2.2, y.2.2.1, y.2.2.2, g, h'y.trans (by rw [h'n, h'z, h't]), hg, by rw [← h'n]; exact h⟩
theorem cS_try {body : Ss} {hs : Hs} (h : cS G sc tab (.tryE body hs) x = true) : ∃ b h₀ r p, x = .Try b (h₀ :: r) [] [] p ∧ cSs G sc tab body b = true ∧ cHs G sc tab hs (h₀ :: r) = true := by
  obtain ⟨⟨y, h'y⟩, -, h⟩ := oB_true (o := asTry x) h
  obtain ⟨b, hh, p⟩ := y
  have h1 := (andB (andB h).1).1
  cases hh with
  | nil => exact nc h1
  | cons h₀ r => exact ⟨b, h₀, r, p, h'y, (andB (andB h).1).2, (andB h).2⟩
end

theorem excm_ref {M : Model} {A : Around} {E : Value → Shared → Prop} {s : Shared} {a C K : Addr} {bm bm' : List Value} {oe : Obj} {b : Bool} {Q : Bool → Shared → Prop} (hC : ClsAt s.heap C bm) (hK : ClsAt s.heap K bm') (he : s.heap.get? a = some oe) (hcls : oe.cls = .ref C) (hb : (Value.ref C :: bm).contains (.ref K) = b)
    (hq : Q b s) : wpAny M A (excMatches (.ref a) (.ref K)) Q E s := by
  obtain ⟨r, f1⟩ := hC
  obtain ⟨r', f2⟩ := hK
  have hC := f1.at_
  have hK := f2.at_
  have T := f2.tail
  obtain ⟨h, g, d, t, os⟩ := s
  have hcB : (Value.ref K :: bm').contains (.type "BaseException") = true := by rw [List.contains_cons, T.tail.hasType (X := "BaseException") (b := true) (by decide +kernel)]; rfl
  have f := tc_notTuple
  unfold excMatches
  repeat (first | (with_reducible refine wpAny_loadPart_at he ?_; rw [hcls]) | with_reducible refine wpAny_loadPart_at hK ?_ | (with_reducible refine wpAny_isSubtype_exc hK ?_; rw [hcB]) | (with_reducible refine wpAny_isSubtype_exc hC ?_; rw [hb]) | wp_step)
  cases b <;> (repeat (first | assumption | wp_step))

section
variable {P : Cx} {d : Nat} {sc : Scope} {tab : Tab} {env : Env} {A : Around} {ρ : Ro} {H H' : AHeap} {h h' : Heap} {s : Shared} {X : Nat → Ro → AHeap → Prop}

theorem sS_raise {c : Nat} (F : Facts P) : SoundS P d X (.raise c) := .mk fun {x sc tab env ρ Q H A s} cc T q => by
  obtain ⟨n, p, t, k, p2, p3, p4, g, rfl, hg, c1⟩ := cS_raise cc
  obtain ⟨hd, q⟩ := q
  have hc := (List.getElem?_eq_some_iff.mp hg).1
  obtain ⟨m1, m2⟩ := (F.cls c g hg).at_
  obtain ⟨r, f0⟩ := cls_at F T.W.base hc
  refine wpAny_Raise_call_subT (C := P.xc c) (nm := r.nm) (q := r.q) (N := r.N) (bs := r.bs) (hdct := r.hdct) (sn := r.sn) (sub := r.sub) (ab := r.ab) (col := r.col) (dd := r.dd) (k0 := r.k0) (k1 := r.k1) (k2 := r.k2) (k3 := r.k3) (k5 := r.k5) PySem.F.excBase_ValueError (f0.tail.tail.hasType (by decide +kernel)) (T.R.hd hd) rfl (f0.quiet _ (.head _)) (loadGlob F T.W T.K c1 m1 m2 ⟨rfl, ?_⟩)
  refine evalArgs_plain (spliced_cons (wpAny_Constant_str (k := k) (pos := p2) (spliced_nil ⟨rfl, show 1 ≤ sizeLine by decide, f0.at_, f0.ns, f0.tail.tail, fun h' e hm => ?_⟩)))
  obtain ⟨tt, he, ht, _⟩ := hm.there
  have f : Fm H s.heap H h' := .grow hm.keeps
  exact ⟨c, ρ, H, ⟨e, _, _, .none, rfl, ⟨hm.new, T.W.newBase hm.new⟩, he, ⟨hc, rfl⟩, rfl, rfl, .inl rfl⟩, T.step ((T.W.toks (s.toks + 1)).grow hm.keeps rfl rfl) f, .of T.K f, q⟩

theorem Here.mark (T : Here P d sc tab env A ρ H s) (e : Value) : Here P 0 sc tab env (A.mark (some e)) ρ H s :=
  ⟨T.K, ⟨Nat.le_trans (Nat.add_le_add_left (Nat.zero_le (10 * d)) (A.units + 100)) T.R.units, fun h => absurd h (Nat.lt_irrefl 0), Nat.le_trans (Nat.le_add_right _ d) T.R.depth, T.R.frames⟩, T.W, T.ob, T.fr⟩
theorem Here.unmark {ρ' : Ro} {s' : Shared} {e : Value} (T : Here P d sc tab env A ρ H s) (T' : Here P 0 sc tab env (A.mark (some e)) ρ' H' s') : Here P d sc tab env A ρ' H' s' :=
  ⟨T'.K, ⟨T.R.units, T.R.hd, T.R.depth, T'.R.frames⟩, T'.W, T'.ob, T.fr⟩

theorem nameGone {M : Model} {i : Nat} {n : Str} {pos : Pos} {Q : Unit → Shared → Prop} {E : Value → Shared → Prop} (T : Here P d sc tab env A ρ H s) (c : cVar sc tab i n = true) (hl : sc.names.lookup n = some .local)
    (k : ∀ h' t, ImmK s.heap h' → Here P d sc tab env A (ρ.del i) H { s with heap := h', toks := t } → Fo env H s.heap H h' → Q () { s with heap := h', toks := t }) : wpAny M A (do bindName env n .none; unbindBehindTheSuite env n pos) Q E s := by
  obtain ⟨et, _, _, _⟩ := cVar_spec c
  have K := T.K
  obtain ⟨m, hn, hm⟩ := K.vars
  have hk : env.kindOf n = some .local := (K.names _ _ hl).resolve_right fun q => by cases q.1
  refine wpAny_nameGoes_keeps hk hn (by rw [K.kind]; rfl) fun h' v hn' hs' => ?_
  have hn0 := hn
  obtain ⟨o, es, ep, eo, ed, _⟩ := hn0
  have hn2 := hn'
  obtain ⟨o', es', ep', eo', ed', _⟩ := hn2
  have t : Tch H env.locals s.heap h' := ⟨hs'.2, K.own, o, o', eo, eo', .inl ⟨⟨_, _, ed⟩, ⟨_, _, ed'⟩⟩⟩
  have ncell : ∀ y cc, env.cells.lookup y = some cc → cc ≠ env.locals := fun y cc ec q => by
    obtain ⟨_, v, o₂, e2, d2⟩ := K.cells y cc ec
    rw [q, eo] at e2; cases e2; rw [ed] at d2; cases d2
  have K' : EnvOk P sc tab env (ρ.del i) H h' := by
    refine ⟨K.kind, K.names, K.globals, K.builtins, K.inj, K.tok, ⟨_, hn', fun y j u e1 e2 => ?_⟩, K.own, K.hasCell, fun y cc ec => ?_, K.apart⟩
    · have hj : j ≠ i := by
        rintro rfl
        rw [Ro.del, if_pos rfl] at e2; cases e2
      have hyx : y ≠ n := by rintro rfl; rw [et] at e1; cases e1; exact hj rfl
      rw [Ro.del, if_neg hj] at e2
      rcases hm y j u e1 e2 with ⟨q, w', e', r'⟩ | ⟨q, cc, w', e', hc, r'⟩
      · exact .inl ⟨q, w', (if_neg hyx).trans e', r'.mono t.imm⟩
      · exact .inr ⟨q, cc, w', e', hc.sameBut hs' (ncell _ _ e'), r'.mono t.imm⟩
    · obtain ⟨q, v', hv'⟩ := K.cells y cc ec
      exact ⟨q, v', hv'.sameBut hs' (ncell _ _ ec)⟩
  exact k h' _ t.imm ⟨K', T.R.tch t, t.wd T.W (T.ob _ (.inl rfl)) _, T.ob, T.fr⟩ (.tch t (.inl rfl))

structure SoundHs (P : Cx) (d : Nat) (X : Nat → Ro → AHeap → Prop) (hs : Hs) : Prop where
  go : ∀ {xs : List ExceptHandler} {sc : Scope} {tab : Tab} {env : Env} {Q : Fl → Ro → AHeap → Prop} {H : AHeap} {h : Heap} {A : Around} {e : Value} {s : Shared}, cHs P.gl sc tab hs xs = true →
    PostXN P d sc tab env A H h (fun c ρ H => vHs P c X hs Q ρ H) e s → wpAny (model P.prog P.w) A (handleBy e env xs) (PostF P d sc tab env A H h Q) (PostXF P d sc tab env A H h X) s

theorem sH_nil : SoundHs P d X .nil := .mk fun {xs sc tab env Q H h A e s} c x => by
  cases xs with
  | cons _ _ => exact nc c
  | nil =>
    refine wpAny_handleBy_nil ?_
    obtain ⟨cc, ρ', H', ⟨a, oe, vs, hd, rfl, n1, he, hcl, hdat, h1, ht⟩, r⟩ := id x
    unfold PySem.passOn
    refine wpAny_bind (wpAny_field he hdat h1 ?_)
    obtain ⟨T, oT, ts, rfl, _⟩ := ht
    show wpAny _ _ (setFlight (.ref a) env.frame >>= fun zz => throw (.ref a)) _ _ _
    exact wpAny_bind (flown x fun s'' y => wpAny_throw (PostXN.at y))

theorem cHs_cons {G : Gl} {sc : Scope} {tab : Tab} {k : Nat} {v : Option Nat} {body : Ss} {hs : Hs} {xs : List ExceptHandler} (c : cHs G sc tab (.cons k v body hs) xs = true) :
    ∃ nt pt n b₀ suite p r g, xs = .ExceptHandler (some (.Name nt pt)) n (b₀ :: suite) p :: r ∧ G.xs[k]? = some g ∧ cGlob sc g (.Name nt pt) = true ∧ cName sc tab v n = true ∧ cSs G sc tab body (b₀ :: suite) = true ∧ cHs G sc tab hs r = true := by
  cases xs with
  | nil => exact nc c
  | cons x r =>
    obtain ⟨⟨y, h'y⟩, -, c⟩ := oB_true (o := asHand x) c
    obtain ⟨c, c5⟩ := andB c
    obtain ⟨c, c4⟩ := andB c
    obtain ⟨c, c2⟩ := andB c
    obtain ⟨g, hg, c1⟩ := oB_true c
    exact ⟨y.1.1, y.1.2, y.2.1, y.2.2.1, y.2.2.2.1, y.2.2.2.2, r, g, by rw [h'y], hg, c1, c2, c4, c5⟩

theorem sH_cons {k : Nat} {v : Option Nat} {body : Ss} {hs : Hs} (F : Facts P) (ib : SoundSs P 0 (fun zz zz zz => False) body) (ih : SoundHs P d X hs) : SoundHs P d X (.cons k v body hs) := .mk fun {xs sc tab env Q H h A e s} c x => by
  obtain ⟨nt, pt, n, b₀, suite, p, r, g, rfl, hg, c1, cn, cb, cr⟩ := cHs_cons c
  obtain ⟨cc, ρ', H', ⟨a, oe, vs, hd, rfl, n1, he, ⟨hc, hcl⟩, hdat, h1, ht⟩, T, f, q⟩ := id x
  obtain ⟨m1, m2⟩ := (F.cls k g hg).at_
  have hk := (List.getElem?_eq_some_iff.mp hg).1
  refine wpAny_handleBy_cons (codeAny_handlers_test (loadGlob F T.W T.K c1 m1 m2 (excm_ref (cls_at F T.W.base hc) (cls_at F T.W.base hk) he hcl (sub_x F hc hk) ?_))) (by intro q; cases q)
  cases hb : isSub cc k with
  | false => exact ih.go cr ⟨cc, ρ', H', ⟨a, oe, vs, hd, rfl, n1, he, ⟨hc, hcl⟩, hdat, h1, ht⟩, T, f, q.2 hb⟩
  | true =>
    have x' : PostXN P d sc tab env A H h (fun c ρ H => c = cc ∧ ∀ a, vSs P 0 (fun zz zz zz => False) body (fun f ρ H => Q f (ρ.delO v) H) (ρ.updO v (.exc a cc)) H) (.ref a) s := ⟨cc, ρ', H', ⟨a, oe, vs, hd, rfl, n1, he, ⟨hc, hcl⟩, hdat, h1, ht⟩, T, f, rfl, q.1 hb⟩
    cases v with
    | none =>
      cases n with
      | some _ => exact nc cn
      | none =>
        refine codeAny_handlers_suite (flown x' fun s2 y => ?_)
        obtain ⟨_, ρ2, H2, ⟨a2, oe2, vs2, hd2, e2, n12, he2, ⟨hc2, hcl2⟩, hdat2, r2⟩, T2, f2, rfl, q2⟩ := y
        refine wpAny_mono (ib.go cb (T2.mark (.ref a)) (q2 a)) (fun fl s4 z => ?_) fun zz zz z => ?_
        · obtain ⟨fl', ρ4, H4, rr, T4, f4, q4⟩ := z
          exact ⟨fl', ρ4, H4, rr, T2.unmark T4, f2.trans f4, q4⟩
        · obtain ⟨_, _, _, _, _, _, z⟩ := z; exact z.elim
    | some i =>
      cases n with
      | none => exact nc cn
      | some n =>
        obtain ⟨cv, cl⟩ := andB (show (cVar sc tab i n && sc.names.lookup n == some .local) = true from cn)
        have cl : sc.names.lookup n = some .local := beq_iff_eq.mp cl
        refine codeAny_handlers_suite_as (flown x' fun s2 y => ?_)
        obtain ⟨_, ρ2, H2, ⟨a2, oe2, vs2, hd2, e2, n12, he2, ⟨hc2, hcl2⟩, hdat2, r2⟩, T2, f2, rfl, q2⟩ := y
        cases e2
        refine storeHere (v := .exc a _) (T2.mark (.ref a)) cv (by rw [cl]; rfl) (.exc ⟨hc2, he2⟩ ⟨hcl2, vs2, hdat2⟩) fun h3 t3 b3 tc3 ho3 T3 f3 => ?_
        refine wpAny_mono (ib.go cb T3 (q2 a)) (fun fl s4 z => ?_) fun zz zz z => ?_
        · obtain ⟨fl', ρ4, H4, rr, T4, f4, q4⟩ := z
          refine nameGone (T2.unmark T4) cv cl fun h5 t5 im5 T5 f5 => ⟨fl', _, H4, ?_, T5, ((f2.trans f3).trans f4).trans f5, q4⟩
          cases fl <;> cases fl' <;> first | exact False.elim rr | exact trivial | exact Rep.mono im5 rr
        · obtain ⟨_, _, _, _, _, _, z⟩ := z; exact z.elim

theorem sS_try {body : Ss} {hs : Hs} (ib' : ∀ {X' : Nat → Ro → AHeap → Prop}, SoundSs P d X' body) (ih : SoundHs P d X hs) : SoundS P d X (.tryE body hs) := .mk fun {x sc tab env ρ Q H A s} c T q => by
  obtain ⟨b, h₀, r, p, rfl, cb, ch⟩ := cS_try c
  refine wpAny_Try_except (wpAny_mono (ib'.go cb T q.2) (fun f s1 z => ?_) fun e s1 z => ?_)
  · cases f with
    | next => exact wpAny_execs_nil z
    | _ => exact z
  · exact wpAny_mono (noting z) (fun zz s2 y => flown y fun s3 y3 => ih.go ch y3) fun zz zz y => y

mutual
theorem sndS (F : Facts P) : ∀ (st : S) {d : Nat} {X : Nat → Ro → AHeap → Prop}, SoundS P d X st
  | .asg i e, _, _ => sS_asg F
  | .unp is e, _, _ => sS_unp F
  | .sto o i e, _, _ => sS_sto F
  | .ex e, _, _ => sS_ex F
  | .ite c a b, _, _ => sS_ite F (sndSs F a) (sndSs F b)
  | .for j src body, _, _ => sS_for F (sndSs F body)
  | .whl c body, _, _ => sS_whl F (sndSs F body)
  | .ret e, _, _ => sS_ret F
  | .cont, _, _ => sS_cont
  | .dead, _, _ => .mk fun zz zz q => False.elim q
  | .raise c, _, _ => sS_raise F
  | .tryE body hs, _, _ => sS_try (sndSs F body) (sndHs F hs)
theorem sndSs (F : Facts P) : ∀ (ss : Ss) {d : Nat} {X : Nat → Ro → AHeap → Prop}, SoundSs P d X ss
  | .nil, _, _ => sSs_nil
  | .cons st ss, _, _ => sSs_cons (sndS F st) (sndSs F ss)
theorem sndHs (F : Facts P) : ∀ (hs : Hs) {d : Nat} {X : Nat → Ro → AHeap → Prop}, SoundHs P d X hs
  | .nil, _, _ => sH_nil
  | .cons k v body hs, _, _ => sH_cons F (sndSs F body) (sndHs F hs)
end
end
end
end Mine

namespace Mine
section
open PySem PySem.Calls PyProof.Rows
noncomputable def locOf (sc : Scope) : List Str := (sc.names.filter fun p => p.2 == .local || p.2 == .cell).map (·.1)
noncomputable def tabOf (sc : Scope) : Tab := (locOf sc).zipIdx

noncomputable def isPre : List Str → List Str → Bool
  | [], _ => true
  | x :: xs, y :: ys => x == y && isPre xs ys
  | _, _ => false
noncomputable def nodupB : List Str → Bool
  | [] => true
  | x :: xs => !xs.contains x && nodupB xs
noncomputable def okScope (sc : Scope) (names : List Str) : Bool :=
  sc.kind == .function && !sc.isGenerator && !sc.isCoroutine && isPre names (locOf sc) && nodupB (locOf sc) && names.all (fun x => sc.names.lookup x == some .local || sc.names.lookup x == some .cell)

theorem isPre_get : ∀ {xs ys : List Str} {i : Nat} {x : Str}, isPre xs ys = true → ys[i]? = some x → i < xs.length → xs[i]? = some x
  | [], _, _, _, _, _, h => by simp at h
  | a :: xs, [], _, _, c, _, _ => by simp [isPre] at c
  | a :: xs, b :: ys, 0, x, c, e, _ => by simp only [isPre, Bool.and_eq_true, beq_iff_eq] at c; simp at e ⊢; exact c.1.trans e
  | a :: xs, b :: ys, i + 1, x, c, e, h => by
    simp only [isPre, Bool.and_eq_true, beq_iff_eq] at c; simp at e ⊢
    exact isPre_get c.2 e (by simpa using h)
theorem isPre_nodup : ∀ {xs ys : List Str}, isPre xs ys = true → nodupB ys = true → xs.Nodup
  | [], _, _, _ => .nil
  | a :: xs, [], c, _ => by simp [isPre] at c
  | a :: xs, b :: ys, c, n => by
    simp only [isPre, Bool.and_eq_true, beq_iff_eq] at c
    simp only [nodupB, Bool.and_eq_true, Bool.not_eq_true'] at n
    have : ∀ {xs ys : List Str}, isPre xs ys = true → ∀ z ∈ xs, z ∈ ys := by
      intro xs
      induction xs with
      | nil => intro _ _ z hz; simp at hz
      | cons x xs ih =>
        intro ys c z hz
        cases ys with
        | nil => simp [isPre] at c
        | cons y ys =>
          simp only [isPre, Bool.and_eq_true, beq_iff_eq] at c
          rcases List.mem_cons.mp hz with rfl | hz
          · rw [c.1]; exact List.mem_cons_self ..
          · exact List.mem_cons_of_mem _ (ih c.2 z hz)
    refine List.nodup_cons.mpr ⟨fun h => ?_, isPre_nodup c.2 n.2⟩
    have h' := this c.2 a h
    rw [c.1] at h'
    have := n.1
    simp [h'] at this
theorem nodupB_spec : ∀ {xs : List Str}, nodupB xs = true → xs.Nodup
  | [], _ => .nil
  | x :: xs, n => by
    simp only [nodupB, Bool.and_eq_true, Bool.not_eq_true'] at n
    exact List.nodup_cons.mpr ⟨fun h => by have := n.1; simp [h] at this, nodupB_spec n.2⟩

theorem lookup_zipIdx : ∀ {l : List Str} {k i : Nat} {x : Str}, (l.zipIdx k).lookup x = some i → k ≤ i ∧ l[i - k]? = some x
  | [], _, _, _, h => by simp at h
  | y :: l, k, i, x, h => by
    rw [List.zipIdx_cons, List.lookup_cons] at h
    cases hx : x == y with
    | true => rw [hx] at h; simp at h; subst h; exact ⟨Nat.le_refl _, by simp [beq_iff_eq.mp hx]⟩
    | false =>
      rw [hx] at h
      obtain ⟨a, b⟩ := lookup_zipIdx h
      refine ⟨by omega, ?_⟩
      rw [show i - k = (i - (k + 1)) + 1 by omega]
      simpa using b
theorem mem_zipIdx_lookup : ∀ {l : List Str} {k i : Nat} {x : Str}, l.Nodup → (x, i) ∈ l.zipIdx k → (l.zipIdx k).lookup x = some i
  | [], _, _, _, _, h => by simp at h
  | y :: l, k, i, x, n, h => by
    rw [List.zipIdx_cons] at h ⊢
    rw [List.lookup_cons]
    rcases List.mem_cons.mp h with h | h
    · cases h; simp
    · have hm : x ∈ l := List.fst_mem_of_mem_zipIdx h
      have hy : x ≠ y := by
        rintro rfl
        exact (List.nodup_cons.mp n).1 hm
      rw [beq_eq_false_iff_ne.mpr hy]
      exact mem_zipIdx_lookup (List.nodup_cons.mp n).2 h

theorem bindL_get {kindOf : Str → Option NameKind} : ∀ {names : List Str} {ws : List Value} {m : Str → Option Value} {i : Nat} {x : Str} {w : Value}, names.Nodup → names[i]? = some x → ws[i]? = some w → kindOf x = some .local → bindL kindOf (names.zip ws) m x = some w
  | [], _, _, _, _, _, _, h, _, _ => by simp at h
  | _ :: _, [], _, _, _, _, _, _, h, _ => by simp at h
  | y :: names, v :: ws, m, i, x, w, n, h1, h2, hk => by
    have keep : ∀ (names : List Str) (ws : List Value) (m : Str → Option Value) (x : Str), x ∉ names → bindL kindOf (names.zip ws) m x = m x := by
      intro names
      induction names with
      | nil => intro ws m x _; rfl
      | cons z names ih =>
        intro ws m x hx
        cases ws with
        | nil => rfl
        | cons u ws =>
          simp only [List.zip_cons_cons, bindL]
          rw [ih _ _ _ (fun h => hx (List.mem_cons_of_mem _ h))]
          split
          · exact if_neg (show ¬ x = z from fun h => hx (h ▸ List.mem_cons_self ..))
          · rfl
    simp only [List.zip_cons_cons, bindL]
    cases i with
    | zero =>
      simp at h1 h2; subst h1 h2
      rw [keep _ _ _ _ (List.nodup_cons.mp n).1, if_pos hk]; simp
    | succ i => exact bindL_get (List.nodup_cons.mp n).2 (by simpa using h1) (by simpa using h2) hk
theorem bindC_get {kindOf : Str → Option NameKind} : ∀ {names : List Str} {ws : List Value} {m : Str → Option Value} {i : Nat} {x : Str} {w : Value}, names.Nodup → names[i]? = some x → ws[i]? = some w → kindOf x = some .cell → bindC kindOf (names.zip ws) m x = some w
  | [], _, _, _, _, _, _, h, _, _ => by simp at h
  | _ :: _, [], _, _, _, _, _, _, h, _ => by simp at h
  | y :: names, v :: ws, m, i, x, w, n, h1, h2, hk => by
    have keep : ∀ (names : List Str) (ws : List Value) (m : Str → Option Value) (x : Str), x ∉ names → bindC kindOf (names.zip ws) m x = m x := by
      intro names
      induction names with
      | nil => intro ws m x _; rfl
      | cons z names ih =>
        intro ws m x hx
        cases ws with
        | nil => rfl
        | cons u ws =>
          simp only [List.zip_cons_cons, bindC]
          rw [ih _ _ _ (fun h => hx (List.mem_cons_of_mem _ h))]
          split
          · rfl
          · exact if_neg (show ¬ x = z from fun h => hx (h ▸ List.mem_cons_self ..))
    simp only [List.zip_cons_cons, bindC]
    cases i with
    | zero =>
      simp at h1 h2; subst h1 h2
      rw [keep _ _ _ _ (List.nodup_cons.mp n).1, if_neg (by rw [hk]; simp)]; simp
    | succ i => exact bindC_get (List.nodup_cons.mp n).2 (by simpa using h1) (by simpa using h2) hk

theorem cellsFrom_acc : ∀ {names : List (Str × NameKind)} {n : Nat} {acc : List (Str × Addr)} {x : Str}, (acc.lookup x).isSome = true → ((cellsFrom n names acc).lookup x).isSome = true
  | [], _, _, _, h => h
  | (y, k) :: r, n, acc, x, h => by
    unfold cellsFrom
    split
    · refine cellsFrom_acc ?_
      rw [List.lookup_cons]
      cases x == y <;> simp [h]
    · exact cellsFrom_acc h
theorem cellsFrom_has : ∀ {names : List (Str × NameKind)} {n : Nat} {acc : List (Str × Addr)} {x : Str}, names.lookup x = some .cell → ((cellsFrom n names acc).lookup x).isSome = true
  | [], _, _, _, h => by simp at h
  | (y, k) :: r, n, acc, x, h => by
    unfold cellsFrom
    rw [List.lookup_cons] at h
    cases hx : x == y with
    | true =>
      rw [hx] at h; simp at h; subst h
      rw [if_pos (by decide)]
      exact cellsFrom_acc (by rw [List.lookup_cons, hx]; rfl)
    | false =>
      rw [hx] at h
      split
      · exact cellsFrom_has h
      · exact cellsFrom_has h
theorem lookup_mem' {α : Type} : ∀ {l : List (Str × α)} {x : Str} {c : α}, l.lookup x = some c → (x, c) ∈ l
  | [], _, _, h => by simp at h
  | (y, k) :: r, x, c, h => by
    rw [List.lookup_cons] at h
    cases hx : x == y with
    | true => rw [hx] at h; simp at h; subst h; rw [beq_iff_eq.mp hx]; exact List.mem_cons_self ..
    | false => rw [hx] at h; exact List.mem_cons_of_mem _ (lookup_mem' h)
theorem apart_eq : ∀ {l : List (Str × Addr)} {x y : Str} {c : Addr}, l.Pairwise (fun x y => x.2 ≠ y.2) → (x, c) ∈ l → (y, c) ∈ l → x = y
  | [], _, _, _, _, h, _ => by simp at h
  | p :: l, x, y, c, n, h1, h2 => by
    rw [List.pairwise_cons] at n
    rcases List.mem_cons.mp h1 with e1 | h1 <;> rcases List.mem_cons.mp h2 with e2 | h2
    · rw [← e1] at e2; cases e2; rfl
    · exact absurd (by rw [← e1]) (n.1 _ h2)
    · exact absurd (by rw [← e2]) (n.1 _ h1)
    · exact apart_eq n.2 h1 h2

structure FnAt (P : Cx) (f : String) (names : List Str) (body : List Stmt) (sc : Scope) : Prop where
  at_ : ∃ fa o fd, P.mg (Str.ofString f) = some (.ref fa) ∧ P.hb.get? fa = some o ∧ o.data = .func fd ∧ P.hb.CodeRec fd.code fd.qualname ∧ fd.body = .stmts body ∧ fd.closure = [] ∧ fd.scope = sc ∧ fd.globals = mainGlobals ∧ fd.builtins = builtinsNs ∧
    ∀ ws : List Value, ws.length = names.length → bindArgs fd ⟨ws, []⟩ = pure (names.zip ws)
  ok : okScope sc names = true

noncomputable def retQ (Q : V → AHeap → Prop) (fl : Fl) (_ : Ro) (H : AHeap) : Prop :=
  match fl with
  | .ret v => Q v H
  | .next => Q .none H
  | _ => False

section
variable {P : Cx} {d : Nat} {X : Nat → AHeap → Prop}

theorem leave {sc : Scope} {tab : Tab} {env : Env} {A : Around} {H : AHeap} {h : Heap} {e : Value} {s' : Shared} {R E : Value → Shared → Prop} {X : Nat → Ro → AHeap → Prop} {M : Model} (x : PostXF P d sc tab env A H h X e s') (k : ∀ s'', PostXN P d sc tab env A H h X e s'' → R e s'') : wpAny M A (leaving env e) (fun zz => R e) E s' := by
  unfold leaving
  exact wpAny_bind (wpAny_mono (noting x) (fun zz s2 y => flown y k) fun zz zz y => y)

set_option maxHeartbeats 1000000 in
theorem callFn {f : String} {names : List Str} {body : List Stmt} {sc : Scope} {args : List V} {ir : Ss} {Q : V → AHeap → Prop} {H : AHeap} (F : Facts P) (fn : FnAt P f names body sc) (hl : args.length = names.length)
    (c : cSs P.gl sc (tabOf sc) ir body = true) (v : vSs P d (fun c zz H => X c H) ir (retQ Q) (fun i => args[i]?) H) : Call P d f args Q X H := by
  refine ⟨fun A s ws R W hr fa hfa => ?_⟩
  obtain ⟨fa', o, fd, e1, ho, hd, hcd, hb, hclo, rfl, hgl, hbt, hbind⟩ := fn.at_
  rw [hfa] at e1; cases e1
  have ok := fn.ok
  simp only [okScope, Bool.and_eq_true, beq_iff_eq, Bool.not_eq_true', List.all_eq_true, Bool.or_eq_true] at ok
  obtain ⟨⟨⟨⟨⟨hk, hgen⟩, hco⟩, hpre⟩, hnd⟩, hkinds⟩ := ok
  have hlen : ws.length = names.length := hr.length.trans hl
  refine wpAny_call (codeAny_call_cells (by have := R.depth; unfold recursionLimit; omega) (W.base _ _ ho) hd (F.nolimit.keeps W.base) (hcd.keeps W.base) hb (hbind ws hlen) hclo (fun x hx => ?_) (fun s₁ I => ?_) hco hgen hk)
  · have : x.1 ∈ names := (List.of_mem_zip hx).1
    rcases hkinds _ this with q | q
    · exact .inl q
    · exact .inr ⟨q, cellsFrom_has q⟩
  · generalize henv : callEnvC fd s.heap.objs.size fa = env at I ⊢
    have eL : env.locals = s.heap.objs.size := by rw [← henv]; rfl
    have esc : env.scope = fd.scope := by rw [← henv]; rfl
    have ekind : ∀ x, env.kindOf x = fd.scope.names.lookup x := fun x => by unfold Env.kindOf; rw [esc]
    have ecells : env.cells = cellsFrom (s.heap.objs.size + 1) fd.scope.names [] := by rw [← henv]; rfl
    obtain ⟨h1, tk, es1⟩ := I.toInCall.same
    have hkeep := I.toInCall.keep
    have nL : s.heap.get? env.locals = none := by rw [eL]; exact get?_size _
    have nC : ∀ y cc, env.cells.lookup y = some cc → s.heap.get? cc = none := fun y cc e => by
      have := I.above _ _ (lookup_mem' e)
      rw [eL] at this
      cases q : s.heap.get? cc with
      | none => rfl
      | some o => exact absurd (Heap.lt_size q) (Nat.not_lt.mpr (Nat.le_of_lt this))
    have W1 : Wd P H s₁ := W.grow hkeep (by rw [es1]) (by rw [es1])
    have im : ImmK s.heap s₁.heap := .keeps hkeep
    have K1 : EnvOk P fd.scope (tabOf fd.scope) env (fun i => args[i]?) H s₁.heap := by
      refine ⟨by rw [esc]; exact hk, fun x k e => .inl ((ekind x).trans e), by rw [← henv]; exact hgl, by rw [← henv]; exact hbt, fun x y i e1 e2 => ?_, fun x i m => mem_zipIdx_lookup (nodupB_spec hnd) m, ⟨_, I.toInCall.ns, fun x i v e1 e2 => ?_⟩, W.noneOf nL, fun x e => ?_, fun x cc e => ?_, fun x y cc e1 e2 => ?_⟩
      · have a := (lookup_zipIdx e1).2
        have b := (lookup_zipIdx e2).2
        rw [a] at b; cases b; rfl
      · have a := (lookup_zipIdx e1).2
        simp only [Nat.sub_zero] at a
        have hi : i < names.length := by rw [← hl]; exact (List.getElem?_eq_some_iff.mp e2).1
        have a := isPre_get hpre a hi
        obtain ⟨w, ew, rw'⟩ := hr.get e2
        rcases hkinds x (List.mem_of_getElem? a) with q | q
        · exact .inl ⟨(ekind x).trans q, w, bindL_get (isPre_nodup hpre hnd) a ew ((ekind x).trans q), rw'.mono im⟩
        · have hs := cellsFrom_has (n := s.heap.objs.size + 1) (acc := []) q
          rw [← ecells] at hs
          obtain ⟨cc, ec⟩ := Option.isSome_iff_exists.mp hs
          have hc := I.cell x cc ec
          rw [bindC_get (isPre_nodup hpre hnd) a ew ((ekind x).trans q)] at hc
          exact .inr ⟨.inl ((ekind x).trans q), cc, w, ec, hc, rw'.mono im⟩
      · rw [ekind] at e
        have hs := cellsFrom_has (n := s.heap.objs.size + 1) (acc := []) e
        rw [← ecells] at hs
        exact Option.isSome_iff_exists.mp hs
      · exact ⟨W.noneOf (nC x cc e), _, I.cell x cc e⟩
      · exact apart_eq I.apart (lookup_mem' e1) (lookup_mem' e2)
    have R1 : Room P d (A.deeper env) H s₁.heap := by
      refine ⟨by have := R.units; show A.units + 3 + 100 + 10 * d ≤ cLine; omega, fun zz => R.hd (Nat.succ_pos d), by have := R.depth; show A.depth + 1 + d ≤ 900; omega, ?_⟩
      obtain ⟨l, el, kl⟩ := R.frames
      refine ⟨env :: l, by show A.frames.map (env :: ·) = _; rw [el]; rfl, fun env' m => ?_⟩
      rcases List.mem_cons.mp m with rfl | m
      · obtain ⟨oo, es, ep, eo, ed, _⟩ := I.toInCall.ns
        refine ⟨by rw [esc, hk]; simp, env'.locals, oo, es, ep, ?_, eo, ed, W.noneOf nL, W.newBase nL⟩
        rw [← henv]; rfl
      · exact (kl env' m).step (.grow hkeep)
    have T1 : Here P d fd.scope (tabOf fd.scope) env (A.deeper env) (fun i => args[i]?) H s₁ := ⟨K1, R1, W1, fun a c => by
      rcases c with rfl | ⟨y, e⟩
      · exact W.newBase nL
      · exact W.newBase (nC y a e), let ⟨l, el, _⟩ := R.frames; ⟨l, by show A.frames.map (env :: ·) = _; rw [el]; rfl⟩⟩
    have noOwn : ∀ b o, s.heap.get? b = some o → ¬ Own env b := fun b o e c => by
      rcases c with rfl | ⟨y, ey⟩
      · rw [nL] at e; cases e
      · rw [nC y b ey] at e; cases e
    have back : ∀ {H2 : AHeap} {h2 : Heap}, Fo env H s₁.heap H2 h2 → Fm H s.heap H2 h2 := fun f2 => ⟨fun b o e n => f2.keep b o (noOwn b o e) (hkeep b o e) n, fun b o e n => f2.dom b o (hkeep b o e) n, fun b o e => f2.ex b o (hkeep b o e)⟩
    refine wpAny_mono ((sndSs F ir).go c T1 v) (fun fl s2 z => ?_) fun e s2 z => leave (R := PostX P H s.heap X) z fun s3 ⟨cc, _, H3, ex, T3, f3, q3⟩ => ⟨cc, H3, ex.at.back fun b o e => ⟨o, hkeep b o e⟩, T3.W, back f3, q3⟩
    obtain ⟨fl', ρ2, H2, r2, T2, f2, q2⟩ := z
    have f := back f2
    cases fl <;> cases fl' <;> first | exact False.elim r2 | skip
    · exact ⟨.none, H2, .none, T2.W, f, q2⟩
    · exact False.elim q2
    · exact False.elim q2
    · exact ⟨_, H2, r2, T2.W, f, q2⟩
end
end
end Mine

namespace Mine
section
open PySem PySem.Calls PyProof.Rows
theorem lookup_zip : ∀ {names : List Str} {ws : List Value} {x : Str}, ws.length = names.length → x ∈ names → ((names.zip ws).lookup x).isSome = true := by
  intro names
  induction names with
  | nil => intro ws x _ h; simp at h
  | cons n names ih =>
    intro ws x hl hx
    cases ws with
    | nil => simp at hl
    | cons w ws =>
      rw [List.zip_cons_cons, List.lookup_cons]
      cases hxn : x == n with
      | true => rfl
      | false =>
        rcases List.mem_cons.mp hx with rfl | hx
        · simp at hxn
        · exact ih (by simpa using hl) hx
theorem filterMap_zip : ∀ {names : List Str} {ws : List Value}, names.Nodup → ws.length = names.length → (names.filterMap fun n => ((names.zip ws).lookup n).map (n, ·)) = names.zip ws := by
  intro names
  induction names with
  | nil => intro ws _ _; rfl
  | cons n names ih =>
    intro ws hn hl
    cases ws with
    | nil => simp at hl
    | cons w ws =>
      obtain ⟨h1, h2⟩ := List.nodup_cons.mp hn
      have e : (names.filterMap fun m => ((((n, w) :: names.zip ws)).lookup m).map (m, ·)) = names.filterMap fun m => ((names.zip ws).lookup m).map (m, ·) := by
        have : ∀ (l : List Str) (f g : Str → Option (Str × Value)), (∀ m ∈ l, f m = g m) → l.filterMap f = l.filterMap g := by
          intro l f g h
          induction l with
          | nil => rfl
          | cons a l ih => rw [List.filterMap_cons, List.filterMap_cons, h a (List.mem_cons_self ..), ih fun m hm => h m (List.mem_cons_of_mem _ hm)]
        refine this _ _ _ fun m hm => ?_
        rw [List.lookup_cons, beq_eq_false_iff_ne.mpr (by rintro rfl; exact h1 hm)]
      rw [List.zip_cons_cons, List.filterMap_cons]
      simp only [List.lookup_cons, beq_self_eq_true, Option.map_some]
      simp only [List.lookup_cons] at e
      rw [e, ih h2 (by simpa using hl)]
theorem bind_simple {fd : FuncData} {names : List Str} {ws : List Value} (hp : fd.params.posonlyargs = []) (ha : fd.params.args.map (·.arg) = names) (hv : fd.params.vararg = none) (hk : fd.params.kwonlyargs = []) (hkw : fd.params.kwarg = none)
    (hd : fd.defaults = .none) (hnd : names.Nodup) (hlen : ws.length = names.length) : bindArgs fd ⟨ws, []⟩ = pure (names.zip ws) := by
  have hmiss : (names.filter fun n => ((names.zip ws).lookup n).isNone) = [] := by
    rw [List.filter_eq_nil_iff]
    intro x hx
    have := lookup_zip hlen hx
    cases h : (names.zip ws).lookup x with
    | none => rw [h] at this; cases this
    | some v => simp
  have e : ∀ {α β : Type} (a : α) (f : α → Sem β), (pure a >>= f) = f a := fun zz zz => rfl
  have e2 : seqItems? Value.none = pure none := rfl
  unfold bindArgs
  simp only [hp, ha, hv, hk, hkw, hd, List.map_nil, List.nil_append, List.append_nil, List.forIn_nil, e, e2, hlen, gt_iff_lt, Nat.lt_irrefl, decide_false, Bool.false_and, Bool.false_eq_true, if_false, Option.getD_none, List.drop_nil, List.length_nil, Nat.sub_zero, Nat.zero_sub, List.take_length, hmiss, List.isEmpty_nil, Bool.not_true, List.drop_length, List.zip_nil_left, List.zip_nil_right, filterMap_zip hnd hlen]

structure FnI where
  name : String
  params : List String
  ir : Ss

noncomputable def FnI.ns (x : FnI) : List Str := x.params.map Str.ofString

noncomputable def simpleP (a : Arguments) (names : List Str) : Bool := a.posonlyargs.isEmpty && a.vararg.isNone && a.kwonlyargs.isEmpty && a.kwarg.isNone && (a.args.map (·.arg)) == names

noncomputable def chkFn (p : Program) (G : Gl) (x : FnI) : Bool :=
  match (recsOf p).find? (fun d => d.name == Str.ofString x.name) with
  | some d => simpleP d.params x.ns && okScope d.scope x.ns && cSs G d.scope (tabOf d.scope) x.ir d.body
  | none => false
noncomputable def chkGl (p : Program) (G : Gl) : Bool :=
  G.fs.all (fun f => (recsOf p).any (fun d => d.name == Str.ofString f) && !(Str.ofString f == ("__debug__" : Str))) &&
  G.cs.all (fun c => (match valOf p (Str.ofString c.1) with | some (.int i) => i == c.2 | _ => false) && !(Str.ofString c.1 == ("__debug__" : Str))) &&
  G.xs.all (fun x => !(Str.ofString x == ("__debug__" : Str)))
noncomputable def chkFree (p : Program) (loose : List Str) : Bool := importsNone p && bNames.all fun x =>
  !startupNames.contains (Str.ofString x) && !loose.contains (Str.ofString x) && !((recsOf p).map (·.name)).contains (Str.ofString x) && !((litsOf p).map (·.1)).contains (Str.ofString x) && !((clssOf p loose).map (·.name)).contains (Str.ofString x)

section
variable {P : Cx} {p : Program} {loose : List Str} {mean : ExcName → Option Value}

set_option tactic.hygienic true in
theorem facts_of (T : Top p loose mean P.mg P.mb P.hb) (c1 : chkGl p P.gl = true) (c2 : chkFree p loose = true) (scr : ∃ xs : List Value, P.hb.IsList P.scr xs.toArray ∧ IntsAre xs P.ns ∧ xs.length ≤ Lim)
    (xs1 : ∀ c x, P.gl.xs[c]? = some x → P.mg (Str.ofString x) = some (.ref (P.xc c)) ∧ ClsAt P.hb (P.xc c) (xtail P c)) (xs2 : ∀ c k, c < P.gl.xs.length → k < P.gl.xs.length → P.xc c = P.xc k → c = k) : Facts P := by
  simp only [chkGl, Bool.and_eq_true, List.all_eq_true, Bool.not_eq_true', List.any_eq_true, beq_iff_eq] at c1
  simp only [chkFree, Bool.and_eq_true, List.all_eq_true, Bool.not_eq_true'] at c2
  obtain ⟨⟨cf, cc⟩, cx⟩ := c1
  obtain ⟨ci, cb⟩ := c2
  refine ⟨fun f hf => ?_, fun c hc => ?_, T.g, T.b, T.nolimit, T.builtins, fun x hx => ?_, scr, ?_, fun c x e => ⟨⟨(xs1 c x e).1, cx x (List.mem_of_getElem? e)⟩, (xs1 c x e).2⟩, xs2⟩
  · obtain ⟨⟨d, hd, e⟩, hb⟩ := cf f hf
    obtain ⟨a, o, pm, code, doc, h1, h2, h3, _⟩ := T.fn d hd
    exact ⟨⟨a, o, _, e ▸ h1, h2, h3⟩, hb⟩
  · obtain ⟨hv, hb⟩ := cc c hc
    refine ⟨?_, hb⟩
    split at hv
    · rename_i i e
      obtain ⟨v, h1, h2⟩ := T.const _ _ e
      have h2 := h2 P.hb
      cases h2 with
      | int i t => simp at hv; subst hv; exact ⟨t, h1⟩
    · cases hv
  · obtain ⟨⟨⟨⟨h1, h2⟩, h3⟩, h4⟩, h5⟩ := cb x hx
    have nc : ∀ (l : List Str), l.contains (Str.ofString x) = false → Str.ofString x ∉ l := fun l h m => by simp [m] at h
    exact T.free _ (nc _ h1) (nc _ h2) (nc _ h3) (nc _ h4) (nc _ h5)
  · obtain ⟨mm, ⟨o, _, _, e, _⟩, _⟩ := (T.seer ci).mods
    exact ⟨o, e⟩

set_option tactic.hygienic true in
theorem fn_of (T : Top p loose mean P.mg P.mb P.hb) {x : FnI} (c : chkFn p P.gl x = true) : ∃ body sc, FnAt P x.name x.ns body sc ∧ cSs P.gl sc (tabOf sc) x.ir body = true := by
  unfold chkFn at c
  split at c
  · rename_i d e
    simp only [Bool.and_eq_true] at c
    obtain ⟨⟨c1, c2⟩, c3⟩ := c
    simp only [simpleP, Bool.and_eq_true, List.isEmpty_iff, Option.isNone_iff_eq_none, beq_iff_eq] at c1
    obtain ⟨⟨⟨⟨p1, p2⟩, p3⟩, p4⟩, p5⟩ := c1
    have hn : d.name = Str.ofString x.name := by have := List.find?_some e; simpa using this
    obtain ⟨a, o, pm, code, doc, h1, h2, h3, h4⟩ := T.fn d (List.mem_of_find?_eq_some e)
    have c2' := c2
    simp only [okScope, Bool.and_eq_true] at c2'
    exact ⟨d.body, d.scope, ⟨⟨a, o, _, hn ▸ h1, h2, h3, h4, rfl, rfl, rfl, rfl, rfl, fun ws hw => bind_simple (fd := docDef d.name d.params d.body d.scope pm code doc) p1 p5 p2 p3 p4 rfl (isPre_nodup c2'.1.1.2 c2'.1.2) hw⟩, c2⟩, c3⟩
  · cases c

theorem call_of {d : Nat} {X : Nat → AHeap → Prop} {args : List V} {Q : V → AHeap → Prop} {H : AHeap} (F : Facts P) (T : Top p loose mean P.mg P.mb P.hb) {x : FnI} (c : chkFn p P.gl x = true) (hl : args.length = x.params.length)
    (v : vSs P d (fun c zz H => X c H) x.ir (retQ Q) (fun i => args[i]?) H) : Call P d x.name args Q X H := by
  obtain ⟨body, sc, fn, cc⟩ := fn_of T c
  exact callFn F fn (by rw [hl]; simp [FnI.ns]) cc v
end
end
end Mine

namespace Mine
section
open PySem PySem.Calls PyProof.Rows PySem.W
theorem law_end {p : Program} {loose : List Str} {mean : ExcName → Option Value} {G : Gl} {prog : Program} {w : World} {s₁ : Shared} {mg mb : Str → Option Value} {xs : List Value} {ns : List Int} {a fa : Addr} {c : ClaimW} {cl : Str → Option Addr} {args : List WData}
    (T : Top p loose mean mg mb s₁.heap) (Y : XSays G.xs s₁.heap) (hg : s₁.gens = #[]) (hmg : mg (Str.ofString "law") = some (.ref fa)) (hL : s₁.heap.IsList a xs.toArray) (hI : IntsAre xs ns) (hn : ¬ (63 : Int) < ns.length)
    (c1 : chkGl p G = true) (c2 : chkFree p loose = true) (hr : ∀ cls, c.raises args cls = false) (hp : c.post args (.bool true) args = true)
    (law : ∀ P : Cx, P.gl = G → Facts P → Top p loose mean P.mg P.mb P.hb → P.ns.length ≤ 63 → Call P 60 "law" [.scr] (fun v zz => v = .bool true) (fun zz zz => False) (fun zz => none)) :
    wpAny (model prog w) callerA (call (.ref fa) [.ref a]) (fun v s' => GoodWG c cl mean args s₁ (.ok (.ret v)) s') (fun e s' => GoodWG c cl mean args s₁ (.error e) s') s₁ := by
  have hlen : xs.length = ns.length := hI.length
  obtain ⟨xc, mg', hn', hc', hi'⟩ := Y
  obtain rfl : mg = mg' := T.g.eq_nsMap.trans hn'.eq_nsMap.symm
  let P : Cx := { gl := G, prog := prog, w := w, hb := s₁.heap, os := s₁.os, mg := mg, mb := mb, scr := a, ns := ns, xc := xc }
  have F : Facts P := facts_of (P := P) T c1 c2 ⟨xs, hL, hI, by unfold Lim; omega⟩ hc' hi'
  have L := (law P rfl F T (by show ns.length ≤ 63; omega)).go callerA s₁ [.ref a] ⟨by show 4 + 100 + 10 * (60 + 1) ≤ cLine; decide, fun zz => rfl, by show 1 + claimMargin + (60 + 1) ≤ 900; decide, [], rfl, fun zz h => by simp at h⟩
    ⟨fun zz zz h => by simp at h, fun zz zz e => e, fun zz zz zz => rfl, hg, rfl⟩ (.cons .scr .nil) fa hmg
  refine wpAny_mono L (fun v s' z => ?_) fun e s' z => ?_
  · obtain ⟨r, H', hr', W, f, rfl⟩ := z
    cases hr' with
    | bool b => exact GoodW.toG ⟨.inl ⟨_, .bool true, [], rfl, hr, .bool true, hp, fun zz => ⟨.nil, fun zz h => by simp at h⟩⟩, W.base, W.os, W.gens⟩
  · obtain ⟨_, _, _, _, _, z⟩ := z; exact z.elim
end
end Mine

namespace Mine
section
open PySem PySem.Calls PyProof.Rows
/- 0 _law_script, 1 _law_k -/
noncomputable def f_law_cell_at : FnI := ⟨"_law_cell_at", ["_law_script", "_law_k"], (.cons (.ite (.op2 .lt (.var 1) (.op1 .len (.var 0))) (.cons (.ret (.op2 .item (.var 0) (.var 1))) .nil) .nil) (.cons (.ret (.int 0)) .nil))⟩
/- 0 _law_cell, 1 _law_k, 2 _law_number -/
noncomputable def f_law_mixed : FnI := ⟨"_law_mixed", ["_law_cell", "_law_k"], (.cons (.asg 2 (.op2 .mod (.op2 .add (.op2 .add (.op2 .mul (.var 0) (.int 48271)) (.op2 .mul (.var 1) (.int 7919))) (.int 1)) (.int 1000003))) (.cons (.ret (.op2 .mod (.op2 .mul (.var 2) (.op2 .add (.op2 .add (.var 2) (.op2 .mul (.int 2) (.var 1))) (.int 5))) (.int 999983))) .nil))⟩
/- 0 _law_found, 1 _law_due -/
noncomputable def f_law_alike : FnI := ⟨"_law_alike", ["_law_found", "_law_due_here"], (.cons (.ite (.or (.op1 (.isI .list) (.var 1)) (.op1 (.isI .tuple) (.var 1))) (.cons (.ite (.and (.not (.op1 (.isI .list) (.var 0))) (.not (.op1 (.isI .tuple) (.var 0)))) (.cons (.ret (.bool false)) .nil) .nil) (.cons (.ite (.or (.op2 .ne (.op1 (.isI .list) (.var 0)) (.op1 (.isI .list) (.var 1))) (.op2 .ne (.op1 .len (.var 0)) (.op1 .len (.var 1)))) (.cons (.ret (.bool false)) .nil) .nil) (.cons (.ret (.op1 .all (.comp 2 (.call "_law_alike" (.cons (.op2 .item (.var 0) (.var 2)) (.cons (.op2 .item (.var 1) (.var 2)) .nil))) (.op1 .range (.op1 .len (.var 1))) (.bool true)))) .nil))) .nil) (.cons (.ite (.op1 (.isI .int) (.var 1)) (.cons (.ret (.and (.op1 (.isI .int) (.var 0)) (.and (.op2 .eq (.op1 (.isI .bool) (.var 0)) (.op1 (.isI .bool) (.var 1))) (.op2 .eq (.var 0) (.var 1))))) .nil) .nil) (.cons (.ite (.op2 .is (.var 1) .none) (.cons (.ret (.op2 .is (.var 0) .none)) .nil) .nil) (.cons (.ret (.and (.op1 (.isI .str) (.var 0)) (.op2 .eq (.var 0) (.var 1)))) .nil))))⟩
/- 0 _law_number, 1 _law_most, 2 _law_steps, 3 _law_tools_here, 4 _law_k, 5 _law_more, 6 _law_low, 7 _law_tool -/
noncomputable def f_law_plan : FnI := ⟨"_law_plan", ["_law_number", "_law_most"], (.cons (.asg 2 (.lst .nil)) (.cons (.asg 3 (.lst .nil)) (.cons (.for 4 (.op1 .range (.op2 .add (.int 1) (.op2 .mod (.var 0) (.var 1)))) (.cons (.asg 5 (.call "_law_mixed" (.cons (.var 0) (.cons (.op2 .add (.int 10) (.var 4)) .nil)))) (.cons (.asg 6 (.op2 .add (.op2 .maxD (.var 3) (.op1 .neg (.int 1))) (.int 1))) (.cons (.ite (.and (.op2 .lt (.op2 .mod (.var 5) (.int 5)) (.int 2)) (.op2 .lt (.var 6) (.int 10))) (.cons (.asg 7 (.op2 .add (.op2 .add (.var 6) (.op2 .mod (.op2 .fdiv (.var 5) (.int 5)) (.int 2))) (.op2 .mul (.int 5) (.op1 .intOf (.op2 .eq (.op2 .mod (.op2 .fdiv (.var 5) (.int 10)) (.int 9)) (.int 1)))))) (.cons (.ex (.meth .append (.var 3) (.op2 .min2 (.int 9) (.var 7)))) (.cons (.ex (.meth .append (.var 2) (.tup (.cons (.str "hold") (.cons (.op2 .item (.var 3) (.op1 .neg (.int 1))) .nil))))) .nil))) (.cons (.ite (.and (.op2 .eq (.op2 .mod (.var 5) (.int 5)) (.int 2)) (.op2 .ne (.var 3) (.lst .nil))) (.cons (.ex (.meth .append (.var 2) (.tup (.cons (.str "free") (.cons (.meth .pop (.var 3) (.op2 .mod (.op2 .fdiv (.var 5) (.int 5)) (.op1 .len (.var 3)))) .nil))))) .nil) (.cons (.ex (.meth .append (.var 2) (.tup (.cons (.str "work") (.cons (.op2 .add (.op2 .add (.int 1) (.op2 .mod (.op2 .fdiv (.var 5) (.int 5)) (.int 3))) (.op2 .mul (.int 97) (.op1 .intOf (.op2 .eq (.op2 .mod (.op2 .fdiv (.var 5) (.int 15)) (.int 40)) (.int 7))))) .nil))))) .nil)) .nil)) .nil)))) (.cons (.whl (.op2 .ne (.var 3) (.lst .nil)) (.cons (.ex (.meth .append (.var 2) (.tup (.cons (.str "free") (.cons (.meth .pop (.var 3) (.op2 .mod (.op2 .fdiv (.var 0) (.int 7)) (.op1 .len (.var 3)))) .nil))))) .nil)) (.cons (.ret (.var 2)) .nil)))))⟩
/- 0 _law_number, 1 _law_many, 2 _law_found, 3 _law_k, 4 _law_more, 5 _law_rank -/
noncomputable def f_law_ranks : FnI := ⟨"_law_ranks", ["_law_number", "_law_many"], (.cons (.asg 2 (.lst .nil)) (.cons (.for 3 (.op1 .range (.var 1)) (.cons (.asg 4 (.call "_law_mixed" (.cons (.var 0) (.cons (.op2 .add (.int 40) (.var 3)) .nil)))) (.cons (.asg 5 (.op2 .add (.int 1) (.op2 .item (.lst (.cons (.op2 .mod (.var 4) (.int 9)) (.cons (.op2 .mod (.var 4) (.op2 .pow (.int 10) (.int 6))) .nil))) (.op2 .mod (.var 0) (.int 2))))) (.cons (.whl (.op2 .inn (.var 5) (.var 2)) (.cons (.asg 5 (.op2 .add (.op2 .mod (.var 5) (.op2 .pow (.int 10) (.int 6))) (.int 1))) .nil)) (.cons (.ex (.meth .append (.var 2) (.var 5))) .nil))))) (.cons (.ret (.var 2)) .nil)))⟩
/- 0 _law_k, 1 _law_many, 2 _law_number, 3 _law_steps -/
noncomputable def f_law_ladder : FnI := ⟨"_law_ladder", ["_law_k", "_law_many", "_law_number"], (.cons (.asg 3 (.op2 .add (.op2 .mul (.lst (.cons (.tup (.cons (.str "work") (.cons (.op2 .add (.int 1) (.op2 .mod (.var 2) (.int 2))) .nil))) .nil)) (.op2 .mod (.op2 .fdiv (.var 2) (.int 2)) (.int 2))) (.lst (.cons (.tup (.cons (.str "hold") (.cons (.var 0) .nil))) (.cons (.tup (.cons (.str "work") (.cons (.op2 .add (.int 1) (.op2 .mod (.op2 .fdiv (.var 2) (.int 4)) (.int 3))) .nil))) .nil))))) (.cons (.ite (.op2 .lt (.op2 .add (.var 0) (.int 1)) (.var 1)) (.cons (.asg 3 (.op2 .add (.var 3) (.lst (.cons (.tup (.cons (.str "hold") (.cons (.op2 .add (.var 0) (.int 1)) .nil))) (.cons (.tup (.cons (.str "work") (.cons (.op2 .add (.int 1) (.op2 .mod (.op2 .fdiv (.var 2) (.int 12)) (.int 3))) .nil))) .nil))))) (.cons (.ite (.op2 .eq (.op2 .mod (.op2 .fdiv (.var 2) (.int 36)) (.int 2)) (.int 1)) (.cons (.asg 3 (.op2 .add (.op2 .add (.op2 .add (.var 3) (.lst (.cons (.tup (.cons (.str "free") (.cons (.op2 .add (.var 0) (.int 1)) .nil))) .nil))) (.op2 .mul (.lst (.cons (.tup (.cons (.str "work") (.cons (.int 2) .nil))) .nil)) (.op2 .mod (.op2 .fdiv (.var 2) (.int 72)) (.int 2)))) (.lst (.cons (.tup (.cons (.str "free") (.cons (.var 0) .nil))) .nil)))) .nil) (.cons (.asg 3 (.op2 .add (.op2 .add (.op2 .add (.var 3) (.lst (.cons (.tup (.cons (.str "free") (.cons (.var 0) .nil))) .nil))) (.op2 .mul (.lst (.cons (.tup (.cons (.str "work") (.cons (.int 1) .nil))) .nil)) (.op2 .mod (.op2 .fdiv (.var 2) (.int 72)) (.int 2)))) (.lst (.cons (.tup (.cons (.str "free") (.cons (.op2 .add (.var 0) (.int 1)) .nil))) .nil)))) .nil)) .nil)) (.cons (.asg 3 (.op2 .add (.var 3) (.lst (.cons (.tup (.cons (.str "work") (.cons (.op2 .add (.int 1) (.op2 .mod (.op2 .fdiv (.var 2) (.int 12)) (.int 5))) .nil))) (.cons (.tup (.cons (.str "free") (.cons (.var 0) .nil))) .nil))))) .nil)) (.cons (.ret (.op2 .add (.var 3) (.op2 .mul (.lst (.cons (.tup (.cons (.str "work") (.cons (.op2 .add (.int 1) (.op2 .mod (.op2 .fdiv (.var 2) (.int 144)) (.int 2))) .nil))) .nil)) (.op2 .mod (.op2 .fdiv (.var 2) (.int 288)) (.int 2))))) .nil)))⟩
/- 0 _law_script, 1 _law_most, 2 _law_late, 3 _law_many, 4 _law_first, 5 _law_degrees, 6 _law_workers_here, 7 _law_k, 8 _law_start, 9 _law_number, 10 _law_plan_here -/
noncomputable def f_law_workers : FnI := ⟨"_law_workers", ["_law_script", "_law_most", "_law_late"], (.cons (.asg 3 (.op2 .add (.int 1) (.op2 .mod (.call "_law_cell_at" (.cons (.var 0) (.cons (.int 0) .nil))) (.int 5)))) (.cons (.ite (.op2 .eq (.op2 .mod (.op2 .fdiv (.call "_law_cell_at" (.cons (.var 0) (.cons (.int 0) .nil))) (.int 5)) (.int 8)) (.int 1)) (.cons (.asg 3 (.op2 .add (.int 1) (.op2 .mod (.op2 .fdiv (.call "_law_cell_at" (.cons (.var 0) (.cons (.int 0) .nil))) (.int 40)) (.int 8)))) .nil) .nil) (.cons (.asg 4 (.call "_law_cell_at" (.cons (.var 0) (.cons (.int 1) .nil)))) (.cons (.asg 5 (.call "_law_ranks" (.cons (.call "_law_mixed" (.cons (.var 4) (.cons (.int 1) .nil))) (.cons (.var 3) .nil)))) (.cons (.ite (.op2 .eq (.op2 .mod (.var 4) (.int 3)) (.int 1)) (.cons (.asg 5 (.op1 .rev (.op1 .sorted (.var 5)))) .nil) .nil) (.cons (.asg 6 (.lst .nil)) (.cons (.for 7 (.op1 .range (.var 3)) (.cons (.asg 8 (.op2 .mod (.call "_law_mixed" (.cons (.call "_law_cell_at" (.cons (.var 0) (.cons (.op2 .add (.int 2) (.op2 .mul (.int 2) (.var 7))) .nil))) (.cons (.op2 .add (.int 60) (.var 7)) .nil))) (.var 2))) (.cons (.asg 9 (.call "_law_mixed" (.cons (.call "_law_cell_at" (.cons (.var 0) (.cons (.op2 .add (.int 3) (.op2 .mul (.int 2) (.var 7))) .nil))) (.cons (.op2 .add (.int 80) (.var 7)) .nil)))) (.cons (.asg 10 (.call "_law_plan" (.cons (.var 9) (.cons (.var 1) .nil)))) (.cons (.ite (.op2 .eq (.op2 .mod (.var 4) (.int 3)) (.int 1)) (.cons (.asg 8 (.op2 .add (.op2 .mul (.op2 .sub (.op2 .sub (.var 3) (.int 1)) (.var 7)) (.op2 .add (.int 1) (.op2 .mod (.op2 .fdiv (.var 4) (.int 3)) (.int 3)))) (.op2 .mod (.var 8) (.int 2)))) (.cons (.asg 10 (.call "_law_ladder" (.cons (.var 7) (.cons (.var 3) (.cons (.var 9) .nil))))) .nil)) .nil) (.cons (.ex (.meth .append (.var 6) (.tup (.cons (.op2 .item (.var 5) (.var 7)) (.cons (.var 8) (.cons (.var 10) .nil)))))) .nil)))))) (.cons (.ret (.var 6)) .nil))))))))⟩
/- 0 _law_plan_here, 1 _law_place, 2 _law_tools_here, 3 _law_step -/
/- 0 _law_shop, 1 _law_k -/
/- 0 _law_shop, 1 _law_k, 2 _law_step, 3 _law_one -/
/- 0 _law_shop, 1 _law_k, 2 _law_found, 3 _law_after_here -/
/- 0 _law_worker, 1 _law_number, 2 _law_taken, 3 _law_plan_here, 4 _law_place, 5 _law_holds, 6 _law_tools_here, 7 _law_gone -/
/- 0 _law_script, 1 _law_most, 2 _law_workers_here, 3 _law_now, 4 _law_spots, 5 _law_taken, 6 _law_k, 7 _law_spot_here -/
theorem eq_bool {H : AHeap} (a b : Bool) : eqV H (.bool a) (.bool b) (a == b) := .inr ⟨_, _, .bool a, .bool b, rfl, rfl, rfl⟩
theorem rds_ints {H : AHeap} : ∀ ts : List Int, RDs H (ts.map V.int) (ts.map PyData.int)
  | [] => .nil
  | t :: ts => .cons (.int t) (rds_ints ts)
theorem lay_ints : ∀ ts : List Int, PyData.canLayAll0 (ts.map PyData.int) = true
  | [] => rfl
  | t :: ts => by rw [List.map_cons, PyData.canLayAll0, lay_ints ts]; rfl
theorem depth_ints : ∀ ts : List Int, PyData.depthAll (ts.map PyData.int) = 0
  | [] => rfl
  | t :: ts => by rw [List.map_cons, PyData.depthAll, depth_ints ts]; rfl
theorem shaped_ints (ts : List Int) : SeqAt.shaped (.list (ts.map PyData.int)) = true := by
  unfold SeqAt.shaped PyData.canLay0 PyData.depth
  rw [lay_ints, depth_ints]; rfl
theorem eqv_ints : ∀ ts us : List Int, PyData.eqvAll (ts.map PyData.int) (us.map PyData.int) = decide (ts = us)
  | [], [] => rfl
  | [], u :: us => rfl
  | t :: ts, [] => rfl
  | t :: ts, u :: us => by
    rw [List.map_cons, List.map_cons, PyData.eqvAll, eqv_ints ts us]
    show ((t == u) && decide (ts = us)) = _
    by_cases h : t = u <;> by_cases h' : ts = us <;> simp [h, h']
theorem eq_ints {H : AHeap} {a b : Addr} {ts us : List Int} (ha : H a = some (.list (ts.map V.int))) (hb : H b = some (.list (us.map V.int))) : eqV H (.lst a) (.lst b) (decide (ts = us)) :=
  .inr ⟨_, _, .lst ha (rds_ints ts), .lst hb (rds_ints us), shaped_ints ts, shaped_ints us, (eqv_ints ts us).symm⟩
theorem eq_nil {H : AHeap} {a b : Addr} {ts : List Int} (ha : H a = some (.list (ts.map V.int))) (hb : H b = some (.list [])) : eqV H (.lst a) (.lst b) (decide (ts = [])) := eq_ints (us := []) ha hb
noncomputable def Has (P : Cx) (x : FnI) : Prop := ∀ {d : Nat} {args : List V} {Q : V → AHeap → Prop} {X : Nat → AHeap → Prop} {H : AHeap},
  args.length = x.params.length → vSs P d (fun c zz H => X c H) x.ir (retQ Q) (fun i => args[i]?) H → Call P d x.name args Q X H

noncomputable def Ext (H H' : AHeap) : Prop := ∀ a c, H a = some c → H' a = some c
theorem Ext.refl (H : AHeap) : Ext H H := fun zz zz h => h
theorem Ext.trans {H H1 H2 : AHeap} (x : Ext H H1) (y : Ext H1 H2) : Ext H H2 := fun a c h => y a c (x a c h)
theorem Ext.upd {H H1 : AHeap} {a : Addr} {c : Cell} (x : Ext H H1) (h : H a = none) : Ext H (H1.upd a c) := fun b c' e => by
  have : b ≠ a := by rintro rfl; rw [h] at e; cases e
  rw [upd_ne this]; exact x b c' e
theorem Ext.new {H : AHeap} {a : Addr} {c : Cell} (h : H a = none) : Ext H (H.upd a c) := (Ext.refl H).upd h
theorem Ext.none {H H1 : AHeap} {a : Addr} (x : Ext H H1) (h : H1 a = none) : H a = none := by
  cases e : H a with
  | none => rfl
  | some c => rw [x a c e] at h; cases h
theorem ne_of {H : AHeap} {a b : Addr} {c : Cell} (h : H a = some c) (h' : H b = none) : a ≠ b := by rintro rfl; rw [h] at h'; cases h'
theorem upd_get {H : AHeap} {a b : Addr} {c c' : Cell} (h : H a = some c) (h' : a ≠ b) : H.upd b c' a = some c := by rw [upd_ne h']; exact h

theorem fmod_pos {a b : Int} (h : 0 < b) : a.fmod b = a % b := Int.fmod_eq_emod_of_nonneg a (by omega)
theorem fdiv_pos {a b : Int} (h : 0 < b) : a.fdiv b = a / b := Int.fdiv_eq_ediv_of_nonneg a (by omega)

theorem idx_nat {k n : Nat} (h : k < n) : idx (k : Int) n = some k := by
  unfold idx; rw [if_pos (by omega), if_pos (by omega)]; simp

theorem forLoop_inv {inv : AHeap → Prop} {j : Nat} {body : (Fl → Ro → AHeap → Prop) → Ro → AHeap → Prop} {Q : Fl → Ro → AHeap → Prop} {xs : List V} (I : Nat → Ro → AHeap → Prop)
    (hi : ∀ k ρ H, I k ρ H → inv H) (hb : ∀ k x ρ H (K : Fl → Ro → AHeap → Prop), xs[k]? = some x → I k ρ H → (∀ ρ' H', I (k + 1) ρ' H' → K .next ρ' H') → (∀ ρ' H', I (k + 1) ρ' H' → K .cont ρ' H') → (∀ v ρ' H', Q (.ret v) ρ' H' → K (.ret v) ρ' H') → body K (ρ.upd j x) H)
    (he : ∀ ρ H, I xs.length ρ H → Q .next ρ H) {ρ : Ro} {H : AHeap} (h0 : I 0 ρ H) : forLoop inv j body Q xs ρ H := by
  have go : ∀ (rest : List V) (k : Nat) (ρ : Ro) (H : AHeap), xs.drop k = rest → k ≤ xs.length → I k ρ H → forLoop inv j body Q rest ρ H := by
    intro rest
    induction rest with
    | nil =>
      intro k ρ H hd hk hI
      have : k = xs.length := by
        have := congrArg List.length hd
        simp at this; omega
      subst this
      exact ⟨hi _ _ _ hI, he _ _ hI⟩
    | cons x rest ih =>
      intro k ρ H hd hk hI
      have hx : xs[k]? = some x := by
        have := congrArg (·[0]?) hd
        simpa using this
      have hlt : k < xs.length := (List.getElem?_eq_some_iff.mp hx).1
      have hr : xs.drop (k + 1) = rest := by
        have := congrArg List.tail hd
        simpa using this
      refine ⟨hi _ _ _ hI, hb k x ρ H _ hx hI (fun ρ' H' h => ih (k + 1) ρ' H' hr hlt h) (fun ρ' H' h => ih (k + 1) ρ' H' hr hlt h) fun v ρ' H' h => h⟩
  exact go xs 0 ρ H rfl (Nat.zero_le _) h0

theorem whileLoop_inv {test : (Bool → AHeap → Prop) → Ro → AHeap → Prop} {body : (Fl → Ro → AHeap → Prop) → Ro → AHeap → Prop} {Q : Fl → Ro → AHeap → Prop} (I : Nat → Ro → AHeap → Prop)
    (ht : ∀ n ρ H (K : Bool → AHeap → Prop), I n ρ H → (∀ b H1, (b = true → ∀ (R : Fl → Ro → AHeap → Prop), (∀ m ρ' H', m < n → I m ρ' H' → R .next ρ' H') → (∀ v ρ' H', Q (.ret v) ρ' H' → R (.ret v) ρ' H') → body R ρ H1) → (b = false → Q .next ρ H1) → K b H1) → test K ρ H)
    {n : Nat} {ρ : Ro} {H : AHeap} (h0 : I n ρ H) : whileLoop test body Q (n + 1) ρ H := by
  have go : ∀ n k ρ H, n ≤ k → I n ρ H → whileLoop test body Q (k + 1) ρ H := by
    intro n
    induction n using Nat.strongRecOn with
    | _ n ih =>
      intro k ρ H hk hI
      refine ht n ρ H _ hI fun b H1 hb hq => ⟨fun hbt => hb hbt _ (fun m ρ' H' hm hI' => ?_) fun v ρ' H' h => h, hq⟩
      cases k with
      | zero => omega
      | succ k => exact ih m hm k ρ' H' (by omega) hI'
  exact go n n ρ H (Nat.le_refl _) h0

theorem ro_eq {ρ : Ro} {i : Nat} {v : V} (h : ρ i = some v) : ρ.upd i v = ρ := by
  funext j
  unfold Ro.upd
  split
  · rename_i e; rw [e, h]
  · rfl

theorem ro_cons {ρ ρ' : Ro} {i : Nat} {v : V} (h : ρ i = some v) (e : ρ' = ρ) : ρ'.upd i v = ρ := by subst e; exact ro_eq h
theorem itI {H : AHeap} {n : Int} (h0 : 0 ≤ n) (h1 : n ≤ Lim) : items H (.rng 0 n) ((List.range n.toNat).map fun (i : Nat) => V.int i) := ⟨rfl, h0, h1, rfl⟩
theorem stI {H0 H : AHeap} {n : Int} (h0 : 0 ≤ n) (h1 : n ≤ Lim) : stays H0 (.rng 0 n) ((List.range n.toNat).map fun (i : Nat) => V.int i) H := ⟨itI h0 h1, fun zz x => by cases x⟩
theorem stL {H0 H : AHeap} {a : Addr} {xs : List V} (h : H a = some (.list xs)) : stays H0 (.lst a) xs H := ⟨h, fun zz x => by cases x⟩
theorem rgI {n : Int} (h0 : 0 ≤ n) (h1 : n ≤ Lim) : -(2 ^ 62) ≤ n ∧ n < 2 ^ 62 := by unfold Lim at h1; omega
theorem lmap {α : Type} {f : α → V} {l : List α} {n : Nat} (h : l.length ≤ n) (hn : n ≤ 900 := by decide) : (l.map f).length ≤ Lim := by rw [List.length_map]; unfold Lim; omega
theorem lmap1 {α : Type} {f : α → V} {l : List α} {n : Nat} (h : l.length ≤ n) (hn : n ≤ 900 := by decide) : (l.map f).length + 1 ≤ Lim := by rw [List.length_map]; unfold Lim; omega
theorem lmapA {α β : Type} {f : α → V} {g : β → V} {l : List α} {m : List β} {n n' : Nat} (h : l.length ≤ n) (h' : m.length ≤ n') (hn : n + n' ≤ 900 := by decide) : (l.map f ++ m.map g).length ≤ Lim := by rw [List.length_append, List.length_map, List.length_map]; unfold Lim; omega
theorem nn (n : Nat) : (0 : Int) ≤ n := Int.natCast_nonneg n
theorem lmapC {α : Type} {f : α → V} {l : List α} {m : List V} {n : Nat} (h : l.length ≤ n) (hm : m.length ≤ 10 := by decide) (hn : n ≤ 800 := by decide) : (l.map f ++ m).length ≤ Lim := by rw [List.length_append, List.length_map]; unfold Lim; omega
theorem lapp {l m : List V} {n n' : Nat} (h : l.length ≤ n) (h' : m.length ≤ n') (hn : n + n' ≤ 900 := by decide) : (l ++ m).length ≤ Lim := by rw [List.length_append]; unfold Lim; omega
theorem lapL {l m : List V} {n n' : Nat} (h : l.length ≤ n) (h' : m.length ≤ n') : (l ++ m).length ≤ n + n' := by rw [List.length_append]; omega
theorem mapL {α : Type} {f : α → V} {l : List α} {n : Nat} (h : l.length ≤ n) : (l.map f).length ≤ n := by rw [List.length_map]; exact h
theorem modw (x : Int) {b : Int} (h0 : 0 < b) (h1 : b ≤ 90) : 1 ≤ 1 + x % b ∧ 1 + x % b ≤ 100 := by
  have := Int.emod_nonneg x (b := b) (by omega); have := Int.emod_lt_of_pos x h0; omega
theorem emin (x y : Int) : (if y < x then y else x) = min x y := by split <;> omega
theorem idxL {n : Nat} (h : 0 < n) : idx (-1) n = some (n - 1) := by unfold idx; rw [if_neg (by decide), if_pos (by omega)]; congr 1; omega
theorem pred_add {p n m : Nat} (h : p + n = m) (hp : p < m) : n - 1 < n ∧ p + 1 + (n - 1) = m := by omega
theorem predS {n : Nat} (h : n - 1 < n) : ∃ n', n = n' + 1 := ⟨n - 1, by omega⟩
inductive Kd where
  | work | hold | free
  deriving DecidableEq
noncomputable def Kd.nm : Kd → String
  | .work => "work" | .hold => "hold" | .free => "free"
structure St where
  k : Kd
  n : Int
noncomputable def St.v (s : St) : V := .tup [.str (Str.ofString s.k.nm), .int s.n]
theorem eq_kd {H : AHeap} (k m : Kd) : eqV H (.str (Str.ofString k.nm)) (.str (Str.ofString m.nm)) (k == m) := .inl (by cases k <;> cases m <;> rfl)

variable {P : Cx}

noncomputable def cellAt (ns : List Int) (k : Nat) : Int := (ns[k]?).getD 0
theorem cell_at_spec (h : Has P f_law_cell_at) {d : Nat} {Q : V → AHeap → Prop} {X : Nat → AHeap → Prop} {H : AHeap} {k : Nat} (q : Q (.int (cellAt P.ns k)) H) : Call P d "_law_cell_at" [.scr, .int k] Q X H := by
  refine h rfl ⟨fun hb => ?_, fun hb => ?_⟩
  · have hk : k < P.ns.length := by have := of_decide_eq_true hb; omega
    refine ⟨P.ns[k], by omega, by simp [hk], ?_⟩
    have e : cellAt P.ns k = P.ns[k] := by simp [cellAt, hk]
    rw [e] at q; exact q
  · have hk : ¬ k < P.ns.length := by have := of_decide_eq_false hb; omega
    have e : cellAt P.ns k = 0 := by simp [cellAt]; rw [List.getElem?_eq_none (by omega)]; rfl
    rw [e] at q; exact q

noncomputable def mixI (c k : Int) : Int := let n := (c * 48271 + k * 7919 + 1) % 1000003; n * (n + 2 * k + 5) % 999983
theorem mixI_nonneg (c k : Int) : 0 ≤ mixI c k := Int.emod_nonneg _ (by decide)
theorem bitOk_of {i : Int} (h : -1000000000 < i) (h' : i < 1000000000) : bitOk i := by unfold bitOk; omega
theorem mixed_spec (h : Has P f_law_mixed) {d : Nat} {Q : V → AHeap → Prop} {X : Nat → AHeap → Prop} {H : AHeap} {c k : Int} (q : Q (.int (mixI c k)) H) : Call P d "_law_mixed" [.int c, .int k] Q X H := by
  refine h rfl ⟨.inr (bitOk_of (by decide) (by decide)), .inr (bitOk_of (by decide) (by decide)), by decide, .inl (bitOk_of (by decide) (by decide)), .inl ?_, by decide, ?_⟩
  · rw [fmod_pos (by decide)]
    have h1 := Int.emod_nonneg (c * 48271 + k * 7919 + 1) (b := 1000003) (by decide)
    have h2 := Int.emod_lt_of_pos (c * 48271 + k * 7919 + 1) (b := 1000003) (by decide)
    exact bitOk_of (by omega) (by omega)
  · rw [fmod_pos (by decide), fmod_pos (by decide)]
    exact q
theorem lim2 : 2 ≤ Lim := by decide
theorem lim3 : 3 ≤ Lim := by decide
noncomputable def stepT (s : St) (ts : List Int) : List Int :=
  match s.k with
  | .work => ts
  | .hold => ts ++ [s.n]
  | .free => ts.erase s.n
noncomputable def toolsAt (plan : List St) (i : Nat) : List Int := (plan.take i).foldl (fun ts s => stepT s ts) []
theorem toolsAt_zero (plan : List St) : toolsAt plan 0 = [] := rfl
theorem toolsAt_succ {plan : List St} {i : Nat} {s : St} (h : plan[i]? = some s) : toolsAt plan (i + 1) = stepT s (toolsAt plan i) := by
  unfold toolsAt
  rw [List.take_add_one, h, Option.toList_some, List.foldl_append]; rfl
theorem toolsAt_over {plan : List St} {i : Nat} (h : plan.length ≤ i) : toolsAt plan i = toolsAt plan plan.length := by
  unfold toolsAt; rw [List.take_of_length_le h, List.take_length]
noncomputable def OkStep (s : St) (ts : List Int) : Prop :=
  match s.k with
  | .work => 1 ≤ s.n ∧ s.n ≤ 100
  | .hold => 0 ≤ s.n ∧ s.n ≤ 9 ∧ ∀ t ∈ ts, t < s.n
  | .free => s.n ∈ ts
noncomputable def OkSteps (plan : List St) : Prop := ∀ i s, plan[i]? = some s → OkStep s (toolsAt plan i)
structure OkPlan (plan : List St) : Prop where
  ok : OkSteps plan
  fin : toolsAt plan plan.length = []
  ne : plan ≠ []
  len : plan.length ≤ 40

theorem OkSteps.sorted {plan : List St} (h : OkSteps plan) : ∀ i, (toolsAt plan i).Pairwise (· < ·) ∧ ∀ t ∈ toolsAt plan i, 0 ≤ t ∧ t ≤ 9 := by
  intro i
  induction i with
  | zero => simp [toolsAt_zero]
  | succ i ih =>
    cases e : plan[i]? with
    | none =>
      have hl : plan.length ≤ i := List.getElem?_eq_none_iff.mp e
      rw [toolsAt_over (by omega), ← toolsAt_over hl]; exact ih
    | some s =>
      rw [toolsAt_succ e]
      have hs := h i s e
      unfold OkStep at hs; unfold stepT
      split at hs
      · exact ih
      · refine ⟨List.pairwise_append.mpr ⟨ih.1, by simp, fun a ha b hb => ?_⟩, fun t ht => ?_⟩
        · simp at hb; subst hb; exact hs.2.2 a ha
        · rcases List.mem_append.mp ht with q | q
          · exact ih.2 t q
          · simp at q; subst q; exact ⟨hs.1, hs.2.1⟩
      · exact ⟨ih.1.sublist (List.erase_sublist), fun t ht => ih.2 t (List.mem_of_mem_erase ht)⟩
theorem OkSteps.nodup {plan : List St} (h : OkSteps plan) (i : Nat) : (toolsAt plan i).Nodup := (h.sorted i).1.imp (fun h => by omega)

noncomputable def intsC (ns : List Int) : Cell := .list (ns.map V.int)
noncomputable def steps (ss : List St) : Cell := .list (ss.map St.v)

theorem OkSteps.len {plan : List St} (h : OkSteps plan) (i : Nat) : (toolsAt plan i).length ≤ 10 := by
  obtain ⟨h1, h2⟩ := h.sorted i
  generalize toolsAt plan i = l at h1 h2
  have key : ∀ (l : List Int) (a : Int), l.Pairwise (· < ·) → (∀ t ∈ l, a ≤ t ∧ t ≤ 9) → (l.length : Int) ≤ max 0 (10 - a) := by
    intro l
    induction l with
    | nil => intro a _ _; simp; omega
    | cons x l ih =>
      intro a hp hb
      obtain ⟨p1, p2⟩ := List.pairwise_cons.mp hp
      have hx := hb x (List.mem_cons_self ..)
      have := ih (x + 1) p2 fun t ht => ⟨by have := p1 t ht; omega, (hb t (List.mem_cons_of_mem _ ht)).2⟩
      simp only [List.length_cons]; omega
  have := key l 0 h1 h2
  omega

theorem Lim_le {n : Nat} (h : n ≤ 50000) : n ≤ Lim := by unfold Lim; omega

theorem eq_int {H : AHeap} (i j : Int) : eqV H (.int i) (.int j) (decide (i = j)) := .inl (by unfold eqF; by_cases h : i = j <;> simp [h])
theorem erase_at : ∀ {l : List Int} {i : Nat} (hi : i < l.length), l.Nodup → l.erase l[i] = l.eraseIdx i
  | [], _, hi, _ => by simp at hi
  | x :: l, 0, _, _ => by simp
  | x :: l, i + 1, hi, hn => by
    obtain ⟨h1, h2⟩ := List.nodup_cons.mp hn
    have hi' : i < l.length := by simpa using hi
    have : x ≠ l[i] := fun e => h1 (e ▸ List.getElem_mem hi')
    simp only [List.getElem_cons_succ, List.eraseIdx_cons_succ]
    rw [List.erase_cons_tail (by simpa using this), erase_at hi' h2]
noncomputable def maxT (ts : List Int) : Int := ts.foldl max (-1)
theorem maxT_ge (ts : List Int) : ∀ t ∈ ts, t ≤ maxT ts := by
  have key : ∀ (ts : List Int) (a : Int), a ≤ ts.foldl max a ∧ ∀ t ∈ ts, t ≤ ts.foldl max a := by
    intro ts
    induction ts with
    | nil => intro a; simp
    | cons x ts ih =>
      intro a
      obtain ⟨h1, h2⟩ := ih (max a x)
      refine ⟨by simp only [List.foldl_cons]; omega, fun t ht => ?_⟩
      rcases List.mem_cons.mp ht with rfl | ht
      · simp only [List.foldl_cons]; omega
      · exact h2 t ht
  exact (key ts (-1)).2
theorem maxT_mem {ts : List Int} : maxT ts = -1 ∨ maxT ts ∈ ts := by
  have key : ∀ (ts : List Int) (a : Int), ts.foldl max a = a ∨ ts.foldl max a ∈ ts := by
    intro ts
    induction ts with
    | nil => intro a; simp
    | cons x ts ih =>
      intro a
      rcases ih (max a x) with h | h
      · simp only [List.foldl_cons, h, List.mem_cons]; omega
      · exact .inr (List.mem_cons_of_mem _ h)
  exact key ts (-1)
noncomputable def ifT (p : Prop) [Decidable p] : Int := if p then 1 else 0
theorem ifT_01 (p : Prop) [Decidable p] : 0 ≤ ifT p ∧ ifT p ≤ 1 := by unfold ifT; split <;> omega
noncomputable def pickI (m : Int) (n : Nat) : Nat := (m % n).toNat
theorem pickI_lt {m : Int} {n : Nat} (h : 0 < n) : pickI m n < n := by
  unfold pickI
  have h1 := Int.emod_nonneg m (b := n) (by omega)
  have h2 := Int.emod_lt_of_pos m (b := n) (by omega)
  omega
noncomputable abbrev PZ := List St × List Int
noncomputable def zHold (z : PZ) (t : Int) : PZ := (z.1 ++ [⟨.hold, t⟩], z.2 ++ [t])
noncomputable def zWork (z : PZ) (t : Int) : PZ := (z.1 ++ [⟨.work, t⟩], z.2)
noncomputable def zFree (z : PZ) (i : Nat) : PZ := (z.1 ++ [⟨.free, z.2.getD i 0⟩], z.2.eraseIdx i)
structure ZOk (z : PZ) : Prop where
  ok : OkSteps z.1
  at_ : toolsAt z.1 z.1.length = z.2

theorem toolsAt_app {p q : List St} {i : Nat} (h : i ≤ p.length) : toolsAt (p ++ q) i = toolsAt p i := by
  unfold toolsAt; rw [List.take_append_of_le_length h]
theorem OkSteps.snoc {p : List St} {s : St} (h : OkSteps p) (hs : OkStep s (toolsAt p p.length)) : OkSteps (p ++ [s]) := by
  intro i s' e
  by_cases hi : i < p.length
  · rw [List.getElem?_append_left hi] at e
    rw [toolsAt_app (by omega)]; exact h i s' e
  · have : i < (p ++ [s]).length := (List.getElem?_eq_some_iff.mp e).1
    have hi : i = p.length := by simp at this; omega
    subst hi
    rw [List.getElem?_append_right (Nat.le_refl _)] at e
    simp at e; subst e
    rw [toolsAt_app (Nat.le_refl _)]; exact hs
theorem toolsAt_snoc {p : List St} {s : St} : toolsAt (p ++ [s]) (p ++ [s]).length = stepT s (toolsAt p p.length) := by
  rw [show (p ++ [s]).length = p.length + 1 by simp, toolsAt_succ (s := s) (by simp), toolsAt_app (Nat.le_refl _)]
theorem ZOk.add {z : PZ} {s : St} (h : ZOk z) (hs : OkStep s z.2) : ZOk (z.1 ++ [s], stepT s z.2) :=
  ⟨h.ok.snoc (by rw [h.at_]; exact hs), by show toolsAt (z.1 ++ [s]) _ = _; rw [toolsAt_snoc, h.at_]⟩
theorem ZOk.hold {z : PZ} {t : Int} (h : ZOk z) (h0 : maxT z.2 < t) (h1 : 0 ≤ t) (h9 : t ≤ 9) : ZOk (zHold z t) :=
  h.add (s := ⟨.hold, t⟩) ⟨h1, h9, fun x hx => by have := maxT_ge _ x hx; show x < t; omega⟩
theorem ZOk.work {z : PZ} {t : Int} (h : ZOk z) (h0 : 1 ≤ t) (h1 : t ≤ 100) : ZOk (zWork z t) := h.add (s := ⟨.work, t⟩) ⟨h0, h1⟩
theorem ZOk.nodup {z : PZ} (h : ZOk z) : z.2.Nodup := by rw [← h.at_]; exact h.ok.nodup _
theorem ZOk.len {z : PZ} (h : ZOk z) : z.2.length ≤ 10 := by rw [← h.at_]; exact h.ok.len _
theorem ZOk.rng {z : PZ} (h : ZOk z) : ∀ t ∈ z.2, 0 ≤ t ∧ t ≤ 9 := by rw [← h.at_]; exact (h.ok.sorted _).2
theorem ZOk.free {z : PZ} {i : Nat} (h : ZOk z) (hi : i < z.2.length) : ZOk (zFree z i) := by
  have e : z.2.getD i 0 = z.2[i] := by simp [List.getD, hi]
  have := h.add (s := ⟨.free, z.2[i]⟩) (List.getElem_mem hi)
  unfold zFree
  rw [e]
  have e2 : z.2.erase z.2[i] = z.2.eraseIdx i := erase_at hi h.nodup
  rw [← e2]; exact this
theorem ZOk.nil : ZOk ([], []) := ⟨fun i s e => by simp at e, rfl⟩

noncomputable def planStep (number : Int) (k : Nat) (z : PZ) : PZ :=
  let more := mixI number (10 + k)
  if more % 5 < 2 ∧ maxT z.2 + 1 < 10 then zHold z (min 9 (maxT z.2 + 1 + more / 5 % 2 + 5 * ifT (more / 10 % 9 = 1)))
  else if more % 5 = 2 ∧ z.2 ≠ [] then zFree z (pickI (more / 5) z.2.length)
  else zWork z (1 + more / 5 % 3 + 97 * ifT (more / 15 % 40 = 7))
noncomputable def planRun (number : Int) : Nat → PZ
  | 0 => ([], [])
  | k + 1 => planStep number k (planRun number k)
noncomputable def drain (number : Int) : Nat → PZ → PZ
  | 0, z => z
  | n + 1, z => drain number n (zFree z (pickI (number / 7) z.2.length))
noncomputable def planOf (number most : Int) : List St := let z := planRun number (1 + number % most).toNat; (drain number z.2.length z).1

theorem planStep_ok {number : Int} {k : Nat} {z : PZ} (h : ZOk z) : ZOk (planStep number k z) := by
  unfold planStep
  have hm := mixI_nonneg number (10 + k)
  have h01 : -1 ≤ maxT z.2 := by
    rcases maxT_mem (ts := z.2) with b | b
    · omega
    · have := (h.rng _ b).1; omega
  generalize mixI number (10 + ↑k) = m at *
  dsimp only
  split
  · have := ifT_01 (m / 10 % 9 = 1)
    exact h.hold (by omega) (by omega) (by omega)
  · split
    · rename_i hn
      exact h.free (pickI_lt (List.length_pos_iff.mpr hn.2))
    · have := ifT_01 (m / 15 % 40 = 7)
      exact h.work (by omega) (by omega)
theorem planRun_ok (number : Int) : ∀ k, ZOk (planRun number k)
  | 0 => .nil
  | k + 1 => planStep_ok (planRun_ok number k)
theorem planStep_len (number : Int) (k : Nat) (z : PZ) : (planStep number k z).1.length = z.1.length + 1 := by
  unfold planStep; dsimp only; split
  · simp [zHold]
  · split <;> simp [zFree, zWork]
theorem planRun_len (number : Int) : ∀ k, (planRun number k).1.length = k
  | 0 => rfl
  | k + 1 => by rw [planRun, planStep_len, planRun_len]
theorem drain_ok {number : Int} : ∀ {n : Nat} {z : PZ}, ZOk z → z.2.length = n → ZOk (drain number n z) ∧ (drain number n z).2 = [] ∧ (drain number n z).1.length = z.1.length + n
  | 0, z, h, e => ⟨h, List.length_eq_zero_iff.mp e, rfl⟩
  | n + 1, z, h, e => by
    have hi : pickI (number / 7) z.2.length < z.2.length := pickI_lt (by omega)
    have := drain_ok (number := number) (n := n) (h.free hi) (by show (z.2.eraseIdx _).length = n; rw [List.length_eraseIdx, if_pos hi]; omega)
    refine ⟨this.1, this.2.1, ?_⟩
    rw [drain, this.2.2]; simp [zFree]; omega
theorem planOf_ok (number most : Int) (h0 : 0 < most) (h1 : most ≤ 20) : OkPlan (planOf number most) := by
  have e0 := Int.emod_nonneg number (b := most) (by omega)
  have e1 := Int.emod_lt_of_pos number h0
  have hz := planRun_ok number (1 + number % most).toNat
  have hl := planRun_len number (1 + number % most).toNat
  obtain ⟨a, b, c⟩ := drain_ok (number := number) hz rfl
  have := hz.len
  refine ⟨a.ok, by have := a.at_; rw [b] at this; exact this, fun e => ?_, by unfold planOf; dsimp only; omega⟩
  have : (planOf number most).length = 0 := by rw [e]; rfl
  unfold planOf at this; dsimp only at this; omega
theorem maxT_nil {ts : List Int} (h : ts = []) : maxT ts = -1 := by rw [h]; rfl
theorem maxT_ne {ts : List Int} (h0 : ∀ t ∈ ts, 0 ≤ t) (h : ts ≠ []) : maxT ts ∈ ts ∧ ∀ x ∈ ts, x ≤ maxT ts := by
  refine ⟨?_, maxT_ge ts⟩
  rcases maxT_mem (ts := ts) with b | b
  · obtain ⟨x, hx⟩ := List.exists_mem_of_ne_nil _ h
    have := maxT_ge ts x hx; have := h0 x hx; omega
  · exact b
theorem ints_app (ts : List Int) (t : Int) : Cell.list (ts.map V.int ++ [.int t]) = intsC (ts ++ [t]) := by rw [intsC, List.map_append]; rfl
theorem steps_app (ss : List St) (s : St) : Cell.list (ss.map St.v ++ [s.v]) = steps (ss ++ [s]) := by rw [steps, List.map_append]; rfl
theorem ints_erase (ts : List Int) (i : Nat) : Cell.list ((ts.map V.int).eraseIdx i) = intsC (ts.eraseIdx i) := by
  unfold intsC
  congr 1
  induction ts generalizing i with
  | nil => rfl
  | cons x ts ih =>
    cases i with
    | zero => rfl
    | succ i => simp only [List.map_cons, List.eraseIdx_cons_succ, ih]

theorem rng_get {n : Int} {k : Nat} {x : V} (h : ((List.range n.toNat).map fun (i : Nat) => V.int i)[k]? = some x) : x = .int k ∧ k < n.toNat := by
  rw [List.getElem?_map] at h
  obtain ⟨i, hi, rfl⟩ := Option.map_eq_some_iff.mp h
  obtain ⟨h1, h2⟩ := List.getElem?_eq_some_iff.mp hi
  simp only [List.length_range] at h1
  simp at h2; subst h2; exact ⟨rfl, h1⟩
theorem rng_len {n : Int} : ((List.range n.toNat).map fun (i : Nat) => V.int i).length = n.toNat := by simp


theorem ifT_eq (p : Prop) [Decidable p] : (if decide p = true then (1 : Int) else 0) = ifT p := by unfold ifT; by_cases h : p <;> simp [h]
theorem plan_work {d : Nat} {X : Nat → Ro → AHeap → Prop} {K : Fl → Ro → AHeap → Prop} {ρ : Ro} {H H0 : AHeap} {a b : Addr} {z : PZ} {m : Int} (h2 : ρ 2 = some (.lst a)) (h5 : ρ 5 = some (.int m)) (hE : Ext H0 H) (ha : H0 a = none) (hab : a ≠ b)
    (hA : H a = some (steps z.1)) (hB : H b = some (intsC z.2)) (hl : z.1.length ≤ 100) (q : ∀ H', Ext H0 H' → H' a = some (steps (zWork z (1 + m / 5 % 3 + 97 * ifT (m / 15 % 40 = 7))).1) → H' b = some (intsC z.2) → K .next ρ H') :
    vSs P d X (.cons (.ex (.meth .append (.var 2) (.tup (.cons (.str "work") (.cons (.op2 .add (.op2 .add (.int 1) (.op2 .mod (.op2 .fdiv (.var 5) (.int 5)) (.int 3))) (.op2 .mul (.int 97) (.op1 .intOf (.op2 .eq (.op2 .mod (.op2 .fdiv (.var 5) (.int 15)) (.int 40)) (.int 7))))) .nil))))) .nil) K ρ H := by
  rw [← ro_cons h2 (ro_eq h5)] at q ⊢
  refine ⟨⟨_, hA⟩, by decide, by decide, by decide, by decide, by decide, by decide, _, eq_int _ _, .inl (bitOk_of (by decide) (by decide)), lim2, _, hA, lmap1 hl, ?_⟩
  rw [fdiv_pos (by decide), fdiv_pos (by decide), fmod_pos (by decide), fmod_pos (by decide), ifT_eq]
  exact q _ (hE.upd ha) (by rw [upd_self]; exact congrArg some (steps_app z.1 ⟨.work, _⟩)) (upd_get hB hab.symm)

theorem plan_free {d : Nat} {X : Nat → Ro → AHeap → Prop} {K : Fl → Ro → AHeap → Prop} {ρ : Ro} {H H0 : AHeap} {a b : Addr} {z : PZ} {m g : Int} {j : Nat} (h2 : ρ 2 = some (.lst a)) (h3 : ρ 3 = some (.lst b)) (h5 : ρ j = some (.int m)) (hE : Ext H0 H) (ha : H0 a = none) (hb : H0 b = none) (hab : a ≠ b)
    (hA : H a = some (steps z.1)) (hB : H b = some (intsC z.2)) (hl : z.1.length ≤ 100) (hl2 : z.2.length ≤ 100) (hn : z.2 ≠ []) (hg : 0 < g) (hg2 : g < 100) (q : ∀ H', Ext H0 H' → H' a = some (steps (zFree z (pickI (m / g) z.2.length)).1) → H' b = some (intsC (zFree z (pickI (m / g) z.2.length)).2) → K .next ρ H') :
    vSs P d X (.cons (.ex (.meth .append (.var 2) (.tup (.cons (.str "free") (.cons (.meth .pop (.var 3) (.op2 .mod (.op2 .fdiv (.var j) (.int g)) (.op1 .len (.var 3)))) .nil))))) .nil) K ρ H := by
  have hpos : 0 < z.2.length := List.length_pos_iff.mpr hn
  have hg2' : g.natAbs < 1073741824 := by omega
  have hpI : (0 : Int) < z.2.length := by omega
  have hlt : pickI (m / g) z.2.length < z.2.length := pickI_lt hpos
  have e2 : ∀ K, getR (ρ 2) K = K (.lst a) := fun K => by rw [h2]; rfl
  show getR (ρ 2) _
  rw [e2]
  refine ⟨⟨_, hA⟩, ?_⟩
  show getR (ρ 3) _
  rw [h3]
  refine ⟨⟨_, hB⟩, ?_⟩
  show getR (ρ j) _
  rw [h5]
  refine ⟨Int.ne_of_gt hg, hg2', ?_⟩
  show getR (ρ 3) _
  rw [h3]
  refine ⟨_, hB, by rw [List.length_map]; exact Int.ne_of_gt hpI, ?_⟩
  rw [fdiv_pos hg, List.length_map, fmod_pos hpI]
  refine ⟨_, .int (z.2.getD (pickI (m / g) z.2.length) 0), hB, Int.emod_nonneg _ (Int.ne_of_gt hpI), ?_, lim2, _, upd_get hA hab, lmap1 hl, ?_⟩
  · show (z.2.map V.int)[pickI (m / g) z.2.length]? = _
    rw [List.getElem?_map, List.getElem?_eq_getElem hlt]
    simp [List.getD, hlt]
  · refine q _ ((hE.upd hb).upd ha) (by rw [upd_self]; exact congrArg some (steps_app z.1 ⟨.free, _⟩)) ?_
    refine upd_get ?_ hab.symm
    rw [upd_self]; exact congrArg some (ints_erase z.2 _)

theorem plan_else {d : Nat} {X : Nat → Ro → AHeap → Prop} {K : Fl → Ro → AHeap → Prop} {ρ : Ro} {H H0 : AHeap} {a b : Addr} {z : PZ} {m : Int} (h2 : ρ 2 = some (.lst a)) (h3 : ρ 3 = some (.lst b)) (h5 : ρ 5 = some (.int m)) (hE : Ext H0 H) (ha : H0 a = none) (hb : H0 b = none) (hab : a ≠ b)
    (hA : H a = some (steps z.1)) (hB : H b = some (intsC z.2)) (hl : z.1.length ≤ 100) (hl2 : z.2.length ≤ 100)
    (q : ∀ w, w = (if m % 5 = 2 ∧ z.2 ≠ [] then zFree z (pickI (m / 5) z.2.length) else zWork z (1 + m / 5 % 3 + 97 * ifT (m / 15 % 40 = 7))) → ∀ H', Ext H0 H' → H' a = some (steps w.1) → H' b = some (intsC w.2) → K .next ρ H') :
    vSs P d X (.cons (.ite (.and (.op2 .eq (.op2 .mod (.var 5) (.int 5)) (.int 2)) (.op2 .ne (.var 3) (.lst .nil))) (.cons (.ex (.meth .append (.var 2) (.tup (.cons (.str "free") (.cons (.meth .pop (.var 3) (.op2 .mod (.op2 .fdiv (.var 5) (.int 5)) (.op1 .len (.var 3)))) .nil))))) .nil) (.cons (.ex (.meth .append (.var 2) (.tup (.cons (.str "work") (.cons (.op2 .add (.op2 .add (.int 1) (.op2 .mod (.op2 .fdiv (.var 5) (.int 5)) (.int 3))) (.op2 .mul (.int 97) (.op1 .intOf (.op2 .eq (.op2 .mod (.op2 .fdiv (.var 5) (.int 15)) (.int 40)) (.int 7))))) .nil))))) .nil)) .nil) K ρ H := by
  show getR (ρ 5) _
  rw [h5]
  refine ⟨by decide, _, eq_int _ _, fun c1 => ?_, fun c1 => ?_⟩
  · have c1 := of_decide_eq_true c1
    rw [fmod_pos (by decide)] at c1
    show getR (ρ 3) _
    rw [h3]
    refine ⟨by decide, fun e he => ?_⟩
    have hE' : Ext H0 (H.upd e (.list [])) := hE.trans (Ext.new he)
    have hA' : (H.upd e (.list [])) a = some (steps z.1) := upd_get hA (ne_of hA he)
    have hB' : (H.upd e (.list [])) b = some (intsC z.2) := upd_get hB (ne_of hB he)
    refine ⟨_, eq_nil hB' upd_self, fun c2 => ?_, fun c2 => ?_⟩
    · have c2 : z.2 ≠ [] := by simpa using c2
      rw [if_pos ⟨c1, c2⟩] at q
      exact plan_free h2 h3 h5 hE' ha hb hab hA' hB' hl hl2 c2 (by decide) (by decide) (q _ rfl)
    · have c2 : z.2 = [] := by simpa using c2
      rw [if_neg (fun h => h.2 c2)] at q
      exact plan_work h2 h5 hE' ha hab hA' hB' hl (q _ rfl)
  · have c1 := of_decide_eq_false c1
    rw [fmod_pos (by decide)] at c1
    rw [if_neg (fun h => c1 h.1)] at q
    exact ⟨fun h => (Bool.noConfusion h), fun zz => plan_work h2 h5 hE ha hab hA hB hl (q _ rfl)⟩

theorem plan_spec (h : Has P f_law_plan) (hm : Has P f_law_mixed) {d : Nat} {Q : V → AHeap → Prop} {X : Nat → AHeap → Prop} {H : AHeap} {number most : Int} (m0 : 0 < most) (m1 : most ≤ 20)
    (q : ∀ a H', Ext H H' → H a = none → H' a = some (steps (planOf number most)) → Q (.lst a) H') : Call P (d + 1) "_law_plan" [.int number, .int most] Q X H := by
  have e0 := Int.emod_nonneg number (b := most) (by omega)
  have e1 := Int.emod_lt_of_pos number m0
  refine h rfl ⟨by decide, fun a ha => ⟨by decide, fun b hb => ⟨by omega, ?_⟩⟩⟩
  rw [fmod_pos m0]
  have hab : a ≠ b := ne_of upd_self hb
  have hb' : H b = none := by rw [upd_ne hab.symm] at hb; exact hb
  have hge : 0 ≤ 1 + number % most := by omega
  have hlim : 1 + number % most ≤ Lim := Int.le_trans (by omega) (show (21 : Int) ≤ Lim by decide)
  refine ⟨rgI hge hlim, _, itI hge hlim, Nat.succ_pos _, ?_⟩
  refine forLoop_inv (fun k ρ H' => ρ 0 = some (.int number) ∧ ρ 2 = some (.lst a) ∧ ρ 3 = some (.lst b) ∧ Ext H H' ∧ H' a = some (steps (planRun number k).1) ∧ H' b = some (intsC (planRun number k).2)) ?_ ?_ ?_ ?_
  · rintro k ρ H' _
    exact stI hge hlim
  · rintro k x ρ H' K hx ⟨h0, h2, h3, hE, hA, hB⟩ kn kc kr
    obtain ⟨rfl, hk⟩ := rng_get hx
    have hz := planRun_ok number k
    have kn : ∀ ρ' H', ρ' 0 = some (.int number) → ρ' 2 = some (.lst a) → ρ' 3 = some (.lst b) → Ext H H' → H' a = some (steps (planStep number k (planRun number k)).1) → H' b = some (intsC (planStep number k (planRun number k)).2) → K .next ρ' H' :=
      fun ρ' H' a1 a2 a3 a4 a5 a6 => kn ρ' H' ⟨a1, a2, a3, a4, a5, a6⟩
    have hzl : (planRun number k).1.length = k := planRun_len number k
    have hzl' : (planRun number k).1.length ≤ 30 := by omega
    generalize planRun number k = z at *
    rw [← ro_cons h0 (ro_cons h2 (ro_eq h3))]
    refine mixed_spec hm ⟨Nat.succ_pos _, _, maxT z.2, hB, maxT_nil, maxT_ne (fun t ht => (hz.rng t ht).1), ?_⟩
    unfold planStep at kn
    dsimp only at kn
    have hmn := mixI_nonneg number (10 + k)
    generalize mixI number (10 + ↑k) = m at *
    have els : ¬ (m % 5 < 2 ∧ maxT z.2 + 1 < 10) → ∀ {d : Nat} {X : Nat → Ro → AHeap → Prop} {K' : Fl → Ro → AHeap → Prop} {ρ' : Ro}, ρ' 0 = some (.int number) → ρ' 2 = some (.lst a) → ρ' 3 = some (.lst b) → ρ' 5 = some (.int m) → (∀ H', K .next ρ' H' → K' .next ρ' H') → vSs P d X _ K' ρ' H' := fun c d X K' ρ' r0 r2 r3 r5 hK =>
      plan_else (z := z) r2 r3 r5 hE ha hb' hab hA hB (Nat.le_trans hzl' (by decide)) (Nat.le_trans hz.len (by decide)) fun w hw H1 x1 x2 x3 => hK _ (kn _ _ r0 r2 r3 x1 (by rw [if_neg c, ← hw]; exact x2) (by rw [if_neg c, ← hw]; exact x3))
    refine ⟨by decide, fun c1 => ⟨fun c2 => ?_, fun c2 => ?_⟩, fun c1 => ⟨fun h => (Bool.noConfusion h), fun zz => ?_⟩⟩
    · have c1 := of_decide_eq_true c1
      have c2 := of_decide_eq_true c2
      rw [fmod_pos (by decide)] at c1
      rw [if_pos ⟨c1, c2⟩] at kn
      refine ⟨by decide, by decide, by decide, by decide, by decide, by decide, _, eq_int _ _, .inl (bitOk_of (by decide) (by decide)), ⟨_, hB⟩, Nat.succ_pos _, _, hB, lmap1 hz.len, ⟨_, upd_get hA hab⟩, ?_⟩
      rw [fdiv_pos (by decide), fdiv_pos (by decide), fmod_pos (by decide), fmod_pos (by decide), ifT_eq]
      rw [emin, ints_app]
      refine ⟨_, z.2.length, .int (min 9 (maxT z.2 + 1 + m / 5 % 2 + 5 * ifT (m / 10 % 9 = 1))), upd_self, ?_, ?_, lim2, _, upd_get hA hab, lmap1 hzl', ?_⟩
      · rw [List.length_map, List.length_append]; exact idxL (Nat.succ_pos _)
      · simp
      · exact kn _ _ rfl rfl rfl ((hE.upd hb').upd ha) (by rw [upd_self]; exact congrArg some (steps_app z.1 ⟨.hold, _⟩)) (upd_get upd_self hab.symm)
    · exact els (fun h => of_decide_eq_false c2 h.2) rfl rfl rfl rfl fun H' x => x
    · exact els (fun h => of_decide_eq_false c1 (by rw [fmod_pos (by decide)]; exact h.1)) rfl rfl rfl rfl fun H' x => x
  · rintro ρ H' ⟨h0, h2, h3, hE, hA, hB⟩
    rw [rng_len] at hA hB
    have hz := planRun_ok number (1 + number % most).toNat
    have hzl := planRun_len number (1 + number % most).toNat
    have q : ∀ H', Ext H H' → H' a = some (steps (drain number (planRun number (1 + number % most).toNat).2.length (planRun number (1 + number % most).toNat)).1) → Q (.lst a) H' := fun H' x y => q a H' x ha y
    generalize planRun number (1 + number % most).toNat = z at *
    refine ⟨Nat.succ_pos _, z.2.length + 1, ?_⟩
    refine whileLoop_inv (fun n ρ H' => ∃ w, ZOk w ∧ w.2.length = n ∧ w.1.length ≤ 100 - n ∧ drain number n w = drain number z.2.length z ∧ ρ 0 = some (.int number) ∧ ρ 2 = some (.lst a) ∧ ρ 3 = some (.lst b) ∧ Ext H H' ∧ H' a = some (steps w.1) ∧ H' b = some (intsC w.2)) ?_ ⟨z, hz, rfl, by have := hz.len; omega, rfl, h0, h2, h3, hE, hA, hB⟩
    rintro n ρ H1 K ⟨w, hw, rfl, hwl, hdr, r0, r2, r3, x1, x2, x3⟩ hK
    show getR (ρ 3) _
    rw [r3]
    refine ⟨by decide, fun e he => ?_⟩
    have hE' : Ext H (H1.upd e (.list [])) := x1.trans (Ext.new he)
    have hA' : (H1.upd e (.list [])) a = some (steps w.1) := upd_get x2 (ne_of x2 he)
    have hB' : (H1.upd e (.list [])) b = some (intsC w.2) := upd_get x3 (ne_of x3 he)
    refine ⟨_, eq_nil hB' upd_self, hK _ _ (fun hb R rn rr => ?_) fun hb => ?_⟩
    · have hn : w.2 ≠ [] := by simpa using hb
      have hpos : 0 < w.2.length := List.length_pos_iff.mpr hn
      have hlt : pickI (number / 7) w.2.length < w.2.length := pickI_lt hpos
      refine plan_free (z := w) r2 r3 r0 hE' ha hb' hab hA' hB' (Nat.le_trans hwl (Nat.sub_le _ _)) (Nat.le_trans hw.len (by decide)) hn (by decide) (by decide) fun H2 y1 y2 y3 => rn (w.2.length - 1) _ _ (by omega) ⟨_, hw.free hlt, ?_, ?_, ?_, r0, r2, r3, y1, y2, y3⟩
      · show (w.2.eraseIdx _).length = _; rw [List.length_eraseIdx, if_pos hlt]
      · show (w.1 ++ [_]).length ≤ _
        have := hw.len
        rw [List.length_append, List.length_singleton]; omega
      · rw [← hdr]
        obtain ⟨n, hn⟩ : ∃ n, w.2.length = n + 1 := ⟨w.2.length - 1, by omega⟩
        rw [hn, Nat.add_sub_cancel, drain, hn]
    · have hn : w.2 = [] := by simpa using hb
      show getR (ρ 2) _
      rw [r2]
      refine q _ hE' ?_
      rw [← hdr, hn]; exact hA'
  · exact ⟨rfl, rfl, rfl, (Ext.new ha).trans (Ext.new hb), upd_get upd_self hab, upd_self⟩
noncomputable def inn (x : Int) (l : List Int) : Bool := l.any (fun y => y == x)
theorem inn_iff {x : Int} {l : List Int} : inn x l = true ↔ x ∈ l := by
  unfold inn; rw [List.any_eq_true]
  constructor
  · rintro ⟨y, h, e⟩; rw [beq_iff_eq] at e; exact e ▸ h
  · intro h; exact ⟨x, h, by simp⟩
theorem inF_ints {x : Int} : ∀ {l : List Int}, inF (.int x) (l.map V.int) = some (inn x l)
  | [] => rfl
  | y :: l => by
    rw [List.map_cons, inF, inF_ints]
    show some ((y == x) || inn x l) = _
    rfl
theorem nodup_sub_len : ∀ {l m : List Int}, l.Nodup → (∀ x ∈ l, x ∈ m) → l.length ≤ m.length
  | [], _, _, _ => Nat.zero_le _
  | x :: l, m, hn, hs => by
    obtain ⟨h1, h2⟩ := List.nodup_cons.mp hn
    have hx := hs x (List.mem_cons_self ..)
    have := nodup_sub_len (l := l) (m := m.erase x) h2 fun y hy => (List.mem_erase_of_ne (fun e : y = x => h1 (e ▸ hy))).mpr (hs y (List.mem_cons_of_mem _ hy))
    rw [List.length_erase_of_mem hx] at this
    have := List.length_pos_of_mem hx
    simp; omega
noncomputable def nxt (r : Int) : Int := r % 1000000 + 1
noncomputable def rk (r : Int) (i : Nat) : Int := (r - 1 + i) % 1000000 + 1
theorem rk_zero {r : Int} (h1 : 1 ≤ r) (h2 : r ≤ 1000000) : rk r 0 = r := by unfold rk; omega
theorem rk_succ (r : Int) (i : Nat) : nxt (rk r i) = rk r (i + 1) := by unfold rk nxt; omega
theorem rk_inj {r : Int} {i j : Nat} (hi : i < 1000) (hj : j < 1000) (e : rk r i = rk r j) : i = j := by unfold rk at e; omega
theorem rk_rng (r : Int) (i : Nat) : 1 ≤ rk r i ∧ rk r i ≤ 1000000 := by unfold rk; omega
theorem pigeon {r : Int} {f : List Int} {i : Nat} (hi : i < 1000) (h : ∀ j, j < i → rk r j ∈ f) : i ≤ f.length := by
  have hn : ((List.range i).map (rk r)).Nodup := by
    refine List.Pairwise.map _ (R := fun a b => a < b ∧ a < i ∧ b < i) (fun a b hab e => ?_) ?_
    · have := rk_inj (by omega) (by omega) e; omega
    · rw [List.pairwise_iff_getElem]
      intro a b ha hb hab
      simp at ha hb ⊢; omega
  have := nodup_sub_len (m := f) hn fun x hx => by
    obtain ⟨j, hj, rfl⟩ := List.mem_map.mp hx
    exact h j (by simpa using hj)
  simpa using this
noncomputable def bump (f : List Int) : Nat → Int → Int
  | 0, r => r
  | n + 1, r => if inn r f then bump f n (nxt r) else r
noncomputable def rank0 (number more : Int) : Int := 1 + (if number % 2 = 0 then more % 9 else more % 1000000)
theorem rank0_rng (number more : Int) : 1 ≤ rank0 number more ∧ rank0 number more ≤ 1000000 := by unfold rank0; split <;> omega
noncomputable def ranksOf (number : Int) : Nat → List Int
  | 0 => []
  | k + 1 => ranksOf number k ++ [bump (ranksOf number k) (ranksOf number k).length (rank0 number (mixI number (40 + k)))]
theorem ranksOf_len (number : Int) : ∀ k, (ranksOf number k).length = k
  | 0 => rfl
  | k + 1 => by rw [ranksOf, List.length_append, ranksOf_len]; rfl
theorem bump_out {f : List Int} {r0 : Int} (h1 : 1 ≤ r0) (h2 : r0 ≤ 1000000) (hf : f.length < 900) : bump f f.length r0 ∉ f ∧ 1 ≤ bump f f.length r0 ∧ bump f f.length r0 ≤ 1000000 := by
  have key : ∀ n i, i + n = f.length → (∀ j, j < i → rk r0 j ∈ f) → bump f n (rk r0 i) ∉ f ∧ 1 ≤ bump f n (rk r0 i) ∧ bump f n (rk r0 i) ≤ 1000000 := by
    intro n
    induction n with
    | zero =>
      intro i hi hp
      refine ⟨fun hm => ?_, rk_rng r0 i⟩
      have hm : rk r0 i ∈ f := hm
      have := pigeon (r := r0) (f := f) (i := i + 1) (by omega) fun j hj => by
        rcases Nat.lt_succ_iff_lt_or_eq.mp hj with q | rfl
        · exact hp j q
        · exact hm
      omega
    | succ n ih =>
      intro i hi hp
      rw [bump]
      split
      · rename_i hc
        rw [rk_succ]
        exact ih (i + 1) (by omega) fun j hj => by
          rcases Nat.lt_succ_iff_lt_or_eq.mp hj with q | rfl
          · exact hp j q
          · exact inn_iff.mp hc
      · rename_i hc
        exact ⟨fun h => hc (inn_iff.mpr h), rk_rng r0 i⟩
  have := key f.length 0 (by omega) (fun j hj => by omega)
  rwa [rk_zero h1 h2] at this
theorem ranksOf_ok (number : Int) : ∀ k, k ≤ 100 → (ranksOf number k).Nodup ∧ ∀ r ∈ ranksOf number k, 1 ≤ r ∧ r ≤ 1000000
  | 0, _ => by simp [ranksOf]
  | k + 1, hk => by
    obtain ⟨h1, h2⟩ := ranksOf_ok number k (by omega)
    have h0 := rank0_rng number (mixI number (40 + k))
    obtain ⟨b1, b2⟩ := bump_out (f := ranksOf number k) h0.1 h0.2 (by rw [ranksOf_len]; omega)
    rw [ranksOf]
    refine ⟨List.nodup_append.mpr ⟨h1, by simp, fun a ha b hb => ?_⟩, fun r hr => ?_⟩
    · simp at hb; subst hb; rintro rfl; exact b1 ha
    · rcases List.mem_append.mp hr with q | q
      · exact h2 r q
      · simp at q; subst q; exact b2

theorem ranks_spec (h : Has P f_law_ranks) (hm : Has P f_law_mixed) {d : Nat} {Q : V → AHeap → Prop} {X : Nat → AHeap → Prop} {H : AHeap} {number : Int} {many : Nat} (m1 : many ≤ 10)
    (q : ∀ a H', Ext H H' → H a = none → H' a = some (intsC (ranksOf number many)) → Q (.lst a) H') : Call P (d + 1) "_law_ranks" [.int number, .int many] Q X H := by
  have hlim : (many : Int) ≤ Lim := Int.le_trans (b := 10) (by omega) (by decide)
  have hge := nn many
  refine h rfl ⟨by decide, fun a ha => ⟨rgI hge hlim, _, itI hge hlim, Nat.succ_pos _, ?_⟩⟩
  refine forLoop_inv (fun k ρ H' => ρ 0 = some (.int number) ∧ ρ 2 = some (.lst a) ∧ Ext H H' ∧ H' a = some (intsC (ranksOf number k))) ?_ ?_ ?_ ?_
  · rintro k ρ H' _
    exact stI hge hlim
  · rintro k x ρ H' K hx ⟨h0, h2, hE, hA⟩ kn kc kr
    obtain ⟨rfl, hk⟩ := rng_get hx
    have hl := ranksOf_len number k
    have hl' : (ranksOf number k).length ≤ 20 := by omega
    have kn : ∀ ρ' H', ρ' 0 = some (.int number) → ρ' 2 = some (.lst a) → Ext H H' → H' a = some (intsC (ranksOf number k ++ [bump (ranksOf number k) (ranksOf number k).length (rank0 number (mixI number (40 + k)))])) → K .next ρ' H' :=
      fun ρ' H' a1 a2 a3 a4 => kn ρ' H' ⟨a1, a2, a3, a4⟩
    rw [← ro_cons h0 (ro_eq h2)]
    refine mixed_spec hm ?_
    generalize mixI number (40 + ↑k) = m at *
    refine ⟨by decide, ⟨rfl, by decide, by decide⟩, by decide, lim2, fun e he => ⟨by decide, ?_⟩⟩
    rw [fmod_pos (by decide), fmod_pos (by decide), fmod_pos (by decide)]
    have hr0 := rank0_rng number m
    have hE1 : ∀ c, Ext H (H'.upd e c) := fun c => hE.trans (Ext.new he)
    have hA1 : ∀ c, (H'.upd e c) a = some (intsC (ranksOf number k)) := fun c => upd_get hA (ne_of hA he)
    have hix : ∃ j w, rank0 number m = 1 + w ∧ idx (number % 2) 2 = some j ∧ [V.int (m % 9), V.int (m % 10 ^ (6 : Int).toNat)][j]? = some (.int w) := by
      by_cases c : number % 2 = 0
      · exact ⟨0, m % 9, by unfold rank0; rw [if_pos c], by rw [c]; rfl, rfl⟩
      · have c' : number % 2 = 1 := by omega
        exact ⟨1, m % 1000000, by unfold rank0; rw [if_neg c], by rw [c']; rfl, rfl⟩
    obtain ⟨j, w, hw, hj1, hj2⟩ := hix
    refine ⟨_, j, _, upd_self, hj1, hj2, ?_⟩
    rw [hw] at kn hr0
    refine ⟨Nat.succ_pos _, (ranksOf number k).length + 1, ?_⟩
    refine whileLoop_inv (fun n ρ H' => ∃ i r, i + n = (ranksOf number k).length ∧ r = rk (1 + w) i ∧ (∀ j, j < i → rk (1 + w) j ∈ ranksOf number k) ∧ bump (ranksOf number k) n r = bump (ranksOf number k) (ranksOf number k).length (1 + w) ∧ ρ 0 = some (.int number) ∧ ρ 2 = some (.lst a) ∧ ρ 5 = some (.int r) ∧ Ext H H' ∧ H' a = some (intsC (ranksOf number k))) ?_
      ⟨0, 1 + w, Nat.zero_add _, (rk_zero hr0.1 hr0.2).symm, fun j hj => absurd hj (Nat.not_lt_zero j), rfl, rfl, rfl, rfl, hE1 _, hA1 _⟩
    rintro n ρ H1 K' ⟨i, r, hin, hr, hp, hbp, r0, r2, r5, x1, x2⟩ hK
    show getR (ρ 5) _
    rw [r5]
    show getR (ρ 2) _
    rw [r2]
    refine ⟨_, _, x2, inF_ints, hK _ _ (fun hb R rn rr => ?_) fun hb => ?_⟩
    · have hmem := inn_iff.mp hb
      have hp' : ∀ j, j < i + 1 → rk (1 + w) j ∈ ranksOf number k := fun j hj => by
        rcases Nat.lt_succ_iff_lt_or_eq.mp hj with q | rfl
        · exact hp j q
        · exact hr ▸ hmem
      have := pigeon (by omega) hp'
      show getR (ρ 5) _
      rw [r5]
      refine ⟨⟨rfl, by decide, by decide⟩, by decide, ?_⟩
      rw [fmod_pos (by decide)]
      obtain ⟨q1, q2⟩ := pred_add hin this
      refine rn (n - 1) _ _ q1 ⟨i + 1, nxt r, q2, by rw [hr, rk_succ], hp', ?_, r0, r2, rfl, x1, x2⟩
      obtain ⟨n', rfl⟩ := predS q1
      rw [← hbp, Nat.add_sub_cancel, bump, if_pos hb]
    · have hv : bump (ranksOf number k) n r = r := by
        cases n with
        | zero => rfl
        | succ n => rw [bump, if_neg (by simp [hb])]
      rw [hv] at hbp
      show getR (ρ 2) _
      rw [r2]
      refine ⟨⟨_, x2⟩, ?_⟩
      show getR (ρ 5) _
      rw [r5]
      refine ⟨_, x2, lmap1 hl', ?_⟩
      refine kn _ _ r0 r2 (x1.upd ha) ?_
      rw [upd_self, ints_app, ← hbp]
  · rintro ρ H' ⟨h0, h2, hE, hA⟩
    rw [rng_len] at hA
    show getR (ρ 2) _
    rw [h2]
    exact q a H' hE ha hA
  · exact ⟨rfl, rfl, Ext.new ha, upd_self⟩
noncomputable def rep (s : St) (b : Int) : List St := if b = 1 then [s] else []
theorem rep_flat {s : St} {b : Int} (h0 : 0 ≤ b) (h1 : b < 2) : (List.replicate b.toNat [s.v]).flatten = (rep s b).map St.v := by
  rcases (by omega : b = 0 ∨ b = 1) with rfl | rfl <;> rfl
theorem rep_len (s : St) (b : Int) : (rep s b).length ≤ 1 := by unfold rep; split <;> simp
noncomputable def lad1 (k number : Int) : List St := rep ⟨.work, 1 + number % 2⟩ (number / 2 % 2) ++ [⟨.hold, k⟩, ⟨.work, 1 + number / 4 % 3⟩]
noncomputable def lad2 (k many number : Int) : List St :=
  if k + 1 < many then
    let p := lad1 k number ++ [⟨.hold, k + 1⟩, ⟨.work, 1 + number / 12 % 3⟩]
    if number / 36 % 2 = 1 then p ++ [⟨.free, k + 1⟩] ++ rep ⟨.work, 2⟩ (number / 72 % 2) ++ [⟨.free, k⟩]
    else p ++ [⟨.free, k⟩] ++ rep ⟨.work, 1⟩ (number / 72 % 2) ++ [⟨.free, k + 1⟩]
  else lad1 k number ++ [⟨.work, 1 + number / 12 % 5⟩, ⟨.free, k⟩]
noncomputable def ladderOf (k many number : Int) : List St := lad2 k many number ++ rep ⟨.work, 1 + number / 144 % 2⟩ (number / 288 % 2)

theorem ZOk.rep {z : PZ} {n b : Int} (h : ZOk z) (h0 : 1 ≤ n) (h1 : n ≤ 100) : ZOk (z.1 ++ rep ⟨.work, n⟩ b, z.2) := by
  unfold Mine.rep
  split
  · exact h.work h0 h1
  · rw [List.append_nil]; exact h
theorem ZOk.two {z : PZ} {t n : Int} (h : ZOk z) (a : maxT z.2 < t) (b : 0 ≤ t) (c : t ≤ 9) (h0 : 1 ≤ n) (h1 : n ≤ 100) : ZOk (z.1 ++ [⟨.hold, t⟩, ⟨.work, n⟩], z.2 ++ [t]) := by
  have := (h.hold a b c).work h0 h1
  unfold zWork zHold at this
  simpa using this
theorem ZOk.back {z : PZ} {t : Int} (h : ZOk z) (ht : t ∈ z.2) : ZOk (z.1 ++ [⟨.free, t⟩], z.2.erase t) := h.add (s := ⟨.free, t⟩) ht
theorem ladderOf_ok {k many : Int} (number : Int) (h0 : 0 ≤ k) (h1 : k < many) (h2 : many ≤ 9) : OkPlan (ladderOf k many number) := by
  have hk9 : k ≤ 9 := Int.le_trans (Int.le_of_lt h1) h2
  have z1 : ZOk (lad1 k number, [k]) := by
    have a := (ZOk.nil.rep (n := 1 + number % 2) (b := number / 2 % 2) (modw _ (by decide) (by decide)).1 (modw _ (by decide) (by decide)).2).two (t := k) (n := 1 + number / 4 % 3) (show (-1 : Int) < k from Int.lt_of_lt_of_le (by decide) h0) h0 hk9 (modw _ (by decide) (by decide)).1 (modw _ (by decide) (by decide)).2
    simpa [lad1] using a
  have l1 : (lad1 k number).length ≤ 3 := by have := rep_len ⟨.work, 1 + number % 2⟩ (number / 2 % 2); unfold lad1; simp; omega
  have key : ZOk (lad2 k many number, []) ∧ (lad2 k many number).length ≤ 30 ∧ lad2 k many number ≠ [] := by
    have r2 := rep_len ⟨.work, 2⟩ (number / 72 % 2)
    have r1 := rep_len ⟨.work, 1⟩ (number / 72 % 2)
    unfold lad2
    dsimp only
    split
    · have z2 := z1.two (t := k + 1) (n := 1 + number / 12 % 3) (by show max (-1) k < k + 1; omega) (Int.le_trans h0 (Int.le_of_lt (Int.lt_succ k))) (Int.le_trans (Int.le_of_lt ‹k + 1 < many›) h2) (modw _ (by decide) (by decide)).1 (modw _ (by decide) (by decide)).2
      have e1 : ([k] ++ [k + 1]).erase (k + 1) = [k] := by
        have : (k == k + 1) = false := by simp; omega
        simp [List.erase_cons, this]
      have e2 : ([k] ++ [k + 1]).erase k = [k + 1] := by simp
      have e3 : [k].erase k = [] := by simp
      have e4 : [k + 1].erase (k + 1) = [] := by simp
      split
      · have a := z2.back (t := k + 1) (by simp)
        rw [e1] at a
        have a := (a.rep (n := 2) (b := number / 72 % 2) (by decide) (by decide)).back (t := k) (by simp)
        rw [e3] at a
        exact ⟨a, by simp; omega, by simp⟩
      · have a := z2.back (t := k) (by simp)
        rw [e2] at a
        have a := (a.rep (n := 1) (b := number / 72 % 2) (by decide) (by decide)).back (t := k + 1) (by simp)
        rw [e4] at a
        exact ⟨a, by simp; omega, by simp⟩
    · have a := (z1.work (t := 1 + number / 12 % 5) (modw _ (by decide) (by decide)).1 (modw _ (by decide) (by decide)).2).back (t := k) (by simp [zWork])
      unfold zWork at a
      refine ⟨by simpa using a, by simp; omega, by simp⟩
  obtain ⟨a, b, c⟩ := key
  have r3 := rep_len ⟨.work, 1 + number / 144 % 2⟩ (number / 288 % 2)
  have a := a.rep (n := 1 + number / 144 % 2) (b := number / 288 % 2) (modw _ (by decide) (by decide)).1 (modw _ (by decide) (by decide)).2
  refine ⟨a.ok, a.at_, fun e => c ?_, ?_⟩
  · exact (List.append_eq_nil_iff.mp e).1
  · unfold ladderOf; rw [List.length_append]; omega

theorem gen {Q : AHeap → Prop} {H : AHeap} {a : Addr} {c : Cell} (ha : H a = none) (q : ∀ H', Ext H H' → H' a = some c → Q H') : Q (H.upd a c) := q _ (Ext.new ha) upd_self
theorem nil_intro {d : Nat} {X : Nat → Ro → AHeap → Prop} {Q : Fl → Ro → AHeap → Prop} {ρ : Ro} {H : AHeap} (q : Q .next ρ H) : vSs P d X .nil Q ρ H := q
theorem lim1 : 1 ≤ Lim := by decide
theorem ladder_ret {d : Nat} {X : Nat → Ro → AHeap → Prop} {Q : V → AHeap → Prop} {ρ : Ro} {H : AHeap} {number : Int} {a : Addr} {p : List St} (h2 : ρ 2 = some (.int number)) (h3 : ρ 3 = some (.lst a)) (hA : H a = some (steps p)) (hl : p.length ≤ 100)
    (q : ∀ b H', H b = none → Ext H H' → H' b = some (steps (p ++ rep ⟨.work, 1 + number / 144 % 2⟩ (number / 288 % 2))) → Q (.lst b) H') :
    vSs P d X (.cons (.ret (.op2 .add (.var 3) (.op2 .mul (.lst (.cons (.tup (.cons (.str "work") (.cons (.op2 .add (.int 1) (.op2 .mod (.op2 .fdiv (.var 2) (.int 144)) (.int 2))) .nil))) .nil)) (.op2 .mod (.op2 .fdiv (.var 2) (.int 288)) (.int 2))))) .nil) (retQ Q) ρ H := by
  rw [← ro_cons h2 (ro_eq h3)]
  refine ⟨by decide, by decide, by decide, lim2, lim1, fun e1 h1 => ⟨by decide, by decide, by decide, _, upd_self, ?_⟩⟩
  rw [fdiv_pos (by decide), fdiv_pos (by decide), fmod_pos (by decide), fmod_pos (by decide)]
  have hr := rep_len ⟨.work, 1 + number / 144 % 2⟩ (number / 288 % 2)
  have hf := rep_flat (s := ⟨.work, 1 + number / 144 % 2⟩) (b := number / 288 % 2) (by omega) (by omega)
  refine ⟨by omega, ?_⟩
  unfold newL
  have hf' : (List.replicate (number / 288 % 2).toNat [V.tup [V.str (Str.ofString "work"), V.int (1 + number / 144 % 2)]]).flatten = (rep ⟨.work, 1 + number / 144 % 2⟩ (number / 288 % 2)).map St.v := hf
  rw [hf']
  refine ⟨lmap hr, fun e2 h2 => ?_⟩
  have hA' := upd_get (c' := .list ((rep ⟨.work, 1 + number / 144 % 2⟩ (number / 288 % 2)).map St.v)) (upd_get (c' := .list [V.tup [V.str (Str.ofString "work"), V.int (1 + number / 144 % 2)]]) hA (ne_of hA h1)) (ne_of (upd_get hA (ne_of hA h1)) h2)
  refine ⟨_, _, hA', upd_self, lmapA hl hr, fun b hb => ?_⟩
  have E := (Ext.new (c := .list [V.tup [V.str (Str.ofString "work"), V.int (1 + number / 144 % 2)]]) h1).trans (Ext.new (c := .list ((rep ⟨.work, 1 + number / 144 % 2⟩ (number / 288 % 2)).map St.v)) h2)
  refine q b _ (E.none hb) (E.trans (Ext.new hb)) ?_
  rw [upd_self, steps, List.map_append]
theorem ladder_spec (h : Has P f_law_ladder) {d : Nat} {Q : V → AHeap → Prop} {X : Nat → AHeap → Prop} {H : AHeap} {k many number : Int}
    (q : ∀ a H', Ext H H' → H a = none → H' a = some (steps (ladderOf k many number)) → Q (.lst a) H') : Call P d "_law_ladder" [.int k, .int many, .int number] Q X H := by
  have r1 := rep_len ⟨.work, 1 + number % 2⟩ (number / 2 % 2)
  have hf1 := rep_flat (s := ⟨.work, 1 + number % 2⟩) (b := number / 2 % 2) (by omega) (by omega)
  have hfa := rep_flat (s := ⟨.work, 2⟩) (b := number / 72 % 2) (by omega) (by omega)
  have hfb := rep_flat (s := ⟨.work, 1⟩) (b := number / 72 % 2) (by omega) (by omega)
  have ra := rep_len ⟨.work, 2⟩ (number / 72 % 2)
  have rb := rep_len ⟨.work, 1⟩ (number / 72 % 2)
  have l1 : (lad1 k number).length ≤ 3 := by unfold lad1; simp; omega
  have fin : ∀ {X : Nat → Ro → AHeap → Prop} {ρ : Ro} {H1 : AHeap} {a : Addr} {p : List St}, ρ 2 = some (.int number) → ρ 3 = some (.lst a) → Ext H H1 → H1 a = some (steps p) → p = lad2 k many number → p.length ≤ 100 → vSs P d X _ (retQ Q) ρ H1 := fun h2 h3 E hA e hl =>
    ladder_ret h2 h3 hA hl fun b H' hb E' hB => q b H' (E.trans E') (E.none hb) (by rw [hB, e]; rfl)
  refine h rfl ⟨by decide, lim2, lim1, fun e1 h1 => gen h1 fun H1 E1 g1 => ⟨by decide, by decide, by decide, _, g1, ?_⟩⟩
  rw [fdiv_pos (by decide), fmod_pos (by decide), fmod_pos (by decide)]
  refine ⟨by omega, ?_⟩
  unfold newL
  replace hf1 : (List.replicate (number / 2 % 2).toNat [V.tup [V.str (Str.ofString "work"), V.int (1 + number % 2)]]).flatten = (rep ⟨.work, 1 + number % 2⟩ (number / 2 % 2)).map St.v := hf1
  rw [hf1]
  refine ⟨lmap r1, fun e2 h2 => gen h2 fun H2 E2 g2 => ⟨lim2, by decide, by decide, by decide, lim2, lim2, fun e3 h3 => gen h3 fun H3 E3 g3 => ⟨_, _, E3 _ _ g2, g3, lmapC r1 (Nat.le_add_left 2 8), fun e4 h4 => gen h4 fun H4 E4 g4 => ?_⟩⟩⟩
  rw [fdiv_pos (by decide), fmod_pos (by decide)] at g4
  have EE := (E1.trans E2).trans (E3.trans E4)
  replace g4 : H4 e4 = some (steps (lad1 k number)) := by rw [g4]; unfold lad1 steps; rw [List.map_append]; rfl
  clear g1 g2 g3 h1 h2 h3 h4 E1 E2 E3 E4
  refine ⟨fun c => ?_, fun c => ?_⟩
  · have c := of_decide_eq_true c
    refine ⟨lim2, by decide, by decide, by decide, lim2, lim2, fun e5 h5 => gen h5 fun H5 E5 g5 => ⟨_, _, E5 _ _ g4, g5, lmapC l1 (Nat.le_add_left 2 8), fun e6 h6 => gen h6 fun H6 E6 g6 => ⟨by decide, by decide, by decide, _, eq_int _ _, ?_⟩⟩⟩
    rw [fdiv_pos (by decide), fmod_pos (by decide)] at g6
    rw [fdiv_pos (by decide), fmod_pos (by decide)]
    replace g6 : H6 e6 = some (steps (lad1 k number ++ [⟨.hold, k + 1⟩, ⟨.work, 1 + number / 12 % 3⟩])) := by rw [g6]; unfold steps; rw [List.map_append]; rfl
    have E6 := EE.trans (E5.trans E6)
    clear g4 g5 h5 h6
    have hlad : (lad1 k number ++ [(⟨.hold, k + 1⟩ : St), ⟨.work, 1 + number / 12 % 3⟩]).length ≤ 10 := by simp; omega
    have el : lad2 k many number = if number / 36 % 2 = 1 then (lad1 k number ++ [(⟨.hold, k + 1⟩ : St), ⟨.work, 1 + number / 12 % 3⟩]) ++ [⟨.free, k + 1⟩] ++ rep ⟨.work, 2⟩ (number / 72 % 2) ++ [⟨.free, k⟩]
      else (lad1 k number ++ [(⟨.hold, k + 1⟩ : St), ⟨.work, 1 + number / 12 % 3⟩]) ++ [⟨.free, k⟩] ++ rep ⟨.work, 1⟩ (number / 72 % 2) ++ [⟨.free, k + 1⟩] := by unfold lad2; rw [if_pos c]
    generalize lad1 k number ++ [(⟨.hold, k + 1⟩ : St), ⟨.work, 1 + number / 12 % 3⟩] = p at *
    refine ⟨fun c1 => ?_, fun c1 => ?_⟩
    · rw [if_pos (of_decide_eq_true c1)] at el
      refine ⟨lim2, lim1, fun e7 h7 => gen h7 fun H7 E7 g7 => ⟨_, _, E7 _ _ g6, g7, lmapC hlad (Nat.le_add_left 1 9), fun e8 h8 => gen h8 fun H8 E8 g8 => ⟨lim2, lim1, fun e9 h9 => gen h9 fun H9 E9 g9 => ⟨by decide, by decide, by decide, _, g9, ?_⟩⟩⟩⟩
      rw [fdiv_pos (by decide), fmod_pos (by decide)]
      refine ⟨by omega, ?_⟩
      unfold newL
      replace hfa : (List.replicate (number / 72 % 2).toNat [V.tup [V.str (Str.ofString "work"), V.int 2]]).flatten = (rep ⟨.work, 2⟩ (number / 72 % 2)).map St.v := hfa
      rw [hfa]
      refine ⟨lmap ra, fun f1 i1 => gen i1 fun J1 F1 j1 => ⟨_, _, F1 _ _ (E9 _ _ g8), j1, lapp (lapL (mapL hlad) (Nat.le_refl 1)) (mapL ra), fun f2 i2 => gen i2 fun J2 F2 j2 => ⟨lim2, lim1, fun f3 i3 => gen i3 fun J3 F3 j3 => ⟨_, _, F3 _ _ j2, j3, lapp (lapL (lapL (mapL hlad) (Nat.le_refl 1)) (mapL ra)) (Nat.le_refl 1), fun f4 i4 => gen i4 fun J4 F4 j4 => ?_⟩⟩⟩⟩
      refine nil_intro (nil_intro ?_)
      refine fin (p := p ++ [⟨.free, k + 1⟩] ++ rep ⟨.work, 2⟩ (number / 72 % 2) ++ [⟨.free, k⟩]) (by rfl) (by rfl) ((E6.trans (E7.trans E8)).trans ((E9.trans F1).trans (F2.trans (F3.trans F4)))) ?_ el.symm (by simp; omega)
      rw [j4]; unfold steps; rw [List.map_append, List.map_append, List.map_append]; rfl
    · rw [if_neg (of_decide_eq_false c1)] at el
      refine ⟨lim2, lim1, fun e7 h7 => gen h7 fun H7 E7 g7 => ⟨_, _, E7 _ _ g6, g7, lmapC hlad (Nat.le_add_left 1 9), fun e8 h8 => gen h8 fun H8 E8 g8 => ⟨lim2, lim1, fun e9 h9 => gen h9 fun H9 E9 g9 => ⟨by decide, by decide, by decide, _, g9, ?_⟩⟩⟩⟩
      rw [fdiv_pos (by decide), fmod_pos (by decide)]
      refine ⟨by omega, ?_⟩
      unfold newL
      replace hfb : (List.replicate (number / 72 % 2).toNat [V.tup [V.str (Str.ofString "work"), V.int 1]]).flatten = (rep ⟨.work, 1⟩ (number / 72 % 2)).map St.v := hfb
      rw [hfb]
      refine ⟨lmap rb, fun f1 i1 => gen i1 fun J1 F1 j1 => ⟨_, _, F1 _ _ (E9 _ _ g8), j1, lapp (lapL (mapL hlad) (Nat.le_refl 1)) (mapL rb), fun f2 i2 => gen i2 fun J2 F2 j2 => ⟨lim2, lim1, fun f3 i3 => gen i3 fun J3 F3 j3 => ⟨_, _, F3 _ _ j2, j3, lapp (lapL (lapL (mapL hlad) (Nat.le_refl 1)) (mapL rb)) (Nat.le_refl 1), fun f4 i4 => gen i4 fun J4 F4 j4 => ?_⟩⟩⟩⟩
      refine nil_intro (nil_intro ?_)
      refine fin (p := p ++ [⟨.free, k⟩] ++ rep ⟨.work, 1⟩ (number / 72 % 2) ++ [⟨.free, k + 1⟩]) (by rfl) (by rfl) ((E6.trans (E7.trans E8)).trans ((E9.trans F1).trans (F2.trans (F3.trans F4)))) ?_ el.symm (by simp; omega)
      rw [j4]; unfold steps; rw [List.map_append, List.map_append, List.map_append]; rfl
  · have c := of_decide_eq_false c
    refine ⟨by decide, by decide, by decide, lim2, lim2, lim2, fun e5 h5 => gen h5 fun H5 E5 g5 => ⟨_, _, E5 _ _ g4, g5, lmapC l1 (Nat.le_add_left 2 8), fun e6 h6 => gen h6 fun H6 E6 g6 => ?_⟩⟩
    rw [fdiv_pos (by decide), fmod_pos (by decide)] at g6
    refine fin (p := lad2 k many number) rfl rfl (EE.trans (E5.trans E6)) ?_ rfl (by unfold lad2; rw [if_neg c]; simp; omega)
    rw [g6]; unfold lad2 steps; rw [if_neg c, List.map_append]; rfl
end
end Mine

namespace Mine
section
open PySem PySem.Calls PyProof.Rows
variable {P : Cx}
noncomputable def Ss.drop : Nat → Ss → Ss
  | 0, s => s
  | n + 1, .cons _ s => Ss.drop n s
  | _ + 1, .nil => .nil
noncomputable def Ss.nth : Ss → Nat → S
  | .cons s _, 0 => s
  | .cons _ r, n + 1 => Ss.nth r n
  | .nil, _ => .cont
noncomputable def S.body : S → Ss
  | .for _ _ b => b
  | .whl _ b => b
  | _ => .nil
noncomputable def S.thn : S → Ss
  | .ite _ a _ => a
  | _ => .nil
theorem compLoop_inv {inv : AHeap → Prop} {cond : V → (Bool → AHeap → Prop) → AHeap → Prop} {elt : V → (V → AHeap → Prop) → AHeap → Prop} {Q : V → AHeap → Prop} {xs : List V} (I : Nat → List V → AHeap → Prop)
    (hi : ∀ k acc H, I k acc H → inv H ∧ acc.length + 1 ≤ Lim) (hb : ∀ k x acc H (R : V → AHeap → Prop) (S : AHeap → Prop), xs[k]? = some x → I k acc H → (∀ v H', I (k + 1) (acc ++ [v]) H' → R v H') → (∀ H', I (k + 1) acc H' → S H') → cond x (fun b H1 => br b (inv H1 ∧ elt x R H1) (S H1)) H)
    (he : ∀ acc H, I xs.length acc H → newL acc Q H) {H : AHeap} (h0 : I 0 [] H) : compLoop inv cond elt Q xs [] H := by
  have go : ∀ (rest : List V) (k : Nat) (acc : List V) (H : AHeap), xs.drop k = rest → k ≤ xs.length → I k acc H → compLoop inv cond elt Q rest acc H := by
    intro rest
    induction rest with
    | nil =>
      intro k acc H hd hk hI
      have : k = xs.length := by
        have := congrArg List.length hd
        simp at this; omega
      subst this
      exact ⟨(hi _ _ _ hI).1, he _ _ hI⟩
    | cons x rest ih =>
      intro k acc H hd hk hI
      have hx : xs[k]? = some x := by
        have := congrArg (·[0]?) hd
        simpa using this
      have hlt : k < xs.length := (List.getElem?_eq_some_iff.mp hx).1
      have hr : xs.drop (k + 1) = rest := by
        have := congrArg List.tail hd
        simpa using this
      exact ⟨(hi _ _ _ hI).1, (hi _ _ _ hI).2, hb k x acc H _ _ hx hI (fun v H' h => ih (k + 1) _ H' hr hlt h) fun H' h => ih (k + 1) _ H' hr hlt h⟩
  exact go xs 0 [] H rfl (Nat.zero_le _) h0

structure Wk where
  rank : Int
  start : Int
  plan : List St
noncomputable def WkAt (H : AHeap) (v : V) (w : Wk) : Prop := ∃ a, v = .tup [.int w.rank, .int w.start, .lst a] ∧ H a = some (steps w.plan)
theorem WkAt.mono {H H' : AHeap} {v : V} {w : Wk} (E : Ext H H') (h : WkAt H v w) : WkAt H' v w := by
  obtain ⟨a, e, g⟩ := h
  exact ⟨a, e, E _ _ g⟩
inductive WksAt (H : AHeap) : List V → List Wk → Prop where
  | nil : WksAt H [] []
  | cons {v : V} {w : Wk} {vs : List V} {ws : List Wk} : WkAt H v w → WksAt H vs ws → WksAt H (v :: vs) (w :: ws)
theorem WksAt.mono {H H' : AHeap} (E : Ext H H') : ∀ {vs : List V} {ws : List Wk}, WksAt H vs ws → WksAt H' vs ws
  | _, _, .nil => .nil
  | _, _, .cons a b => .cons (a.mono E) (b.mono E)
theorem WksAt.app {H : AHeap} {v : V} {w : Wk} (h : WkAt H v w) : ∀ {vs : List V} {ws : List Wk}, WksAt H vs ws → WksAt H (vs ++ [v]) (ws ++ [w])
  | _, _, .nil => .cons h .nil
  | _, _, .cons a b => .cons a (b.app h)
theorem WksAt.len {H : AHeap} : ∀ {vs : List V} {ws : List Wk}, WksAt H vs ws → vs.length = ws.length
  | _, _, .nil => rfl
  | _, _, .cons _ b => by simp [b.len]
theorem WksAt.get {H : AHeap} : ∀ {vs : List V} {ws : List Wk} {i : Nat} {w : Wk}, WksAt H vs ws → ws[i]? = some w → ∃ v, vs[i]? = some v ∧ WkAt H v w
  | _, _, 0, _, .cons a _, e => by simp at e; subst e; exact ⟨_, rfl, a⟩
  | _, _, i + 1, _, .cons _ b, e => by simp at e; simpa using b.get e
  | _, _, _, _, .nil, e => by simp at e

noncomputable def planAd : V → Option Addr
  | .tup [_, _, .lst a] => some a
  | _ => none
noncomputable def adrs (vs : List V) : List Addr := vs.filterMap planAd
theorem adrs_app (vs : List V) (x y : V) (a : Addr) : adrs (vs ++ [.tup [x, y, .lst a]]) = adrs vs ++ [a] := by
  unfold adrs; rw [List.filterMap_append]; rfl
noncomputable def Live (H : AHeap) (a : Addr) : Prop := ∃ c, H a = some c
theorem Live.mono {H H' : AHeap} {a : Addr} (E : Ext H H') (h : Live H a) : Live H' a := by
  obtain ⟨c, e⟩ := h
  exact ⟨c, E _ _ e⟩
theorem Live.upd {H : AHeap} {a b : Addr} {c : Cell} (h : Live H a) : Live (H.upd b c) a := by
  by_cases e : a = b
  · subst e; exact ⟨c, upd_self⟩
  · obtain ⟨x, hx⟩ := h; exact ⟨x, upd_get hx e⟩
structure Own1 (H : AHeap) (l : List Addr) : Prop where
  nd : l.Nodup
  new : ∀ x ∈ l, H x = none
theorem Own1.app {H H' : AHeap} {l : List Addr} {a : Addr} (o : Own1 H l) (E : Ext H H') (hl : ∀ x ∈ l, Live H' x) (ha : H' a = none) : Own1 H (l ++ [a]) := by
  refine ⟨List.nodup_append.mpr ⟨o.nd, by simp, fun x hx y hy => ?_⟩, fun x hx => ?_⟩
  · simp at hy; subst hy
    obtain ⟨c, e⟩ := hl x hx
    exact ne_of e ha
  · rcases List.mem_append.mp hx with q | q
    · exact o.new x q
    · simp at q; subst q; exact E.none ha

noncomputable def manyI (ns : List Int) : Int := if cellAt ns 0 / 5 % 8 = 1 then 1 + cellAt ns 0 / 40 % 8 else 1 + cellAt ns 0 % 5
noncomputable def manyOf (ns : List Int) : Nat := (manyI ns).toNat
theorem manyI_rng (ns : List Int) : 1 ≤ manyI ns ∧ manyI ns ≤ 8 := by unfold manyI; split <;> omega
theorem manyOf_cast (ns : List Int) : ((manyOf ns : Nat) : Int) = manyI ns := by have := manyI_rng ns; unfold manyOf; omega
theorem manyOf_rng (ns : List Int) : 1 ≤ manyOf ns ∧ manyOf ns ≤ 8 := by have := manyI_rng ns; unfold manyOf; omega
noncomputable def degsOf (ns : List Int) : List Int :=
  let r := ranksOf (mixI (cellAt ns 1) 1) (manyOf ns)
  if cellAt ns 1 % 3 = 1 then (r.mergeSort (fun a b => decide (a ≤ b))).reverse else r
theorem degsOf_len (ns : List Int) : (degsOf ns).length = manyOf ns := by
  unfold degsOf; dsimp only; split <;> simp [ranksOf_len, List.length_mergeSort]
theorem degsOf_ok (ns : List Int) : (degsOf ns).Nodup ∧ ∀ r ∈ degsOf ns, 1 ≤ r ∧ r ≤ 1000000 := by
  have h := ranksOf_ok (mixI (cellAt ns 1) 1) (manyOf ns) (by have := manyOf_rng ns; omega)
  unfold degsOf; dsimp only; split
  · refine ⟨?_, fun r hr => h.2 r ?_⟩
    · exact List.pairwise_reverse.mpr ((((List.mergeSort_perm _ _).nodup_iff).mpr h.1).imp fun h => h.symm)
    · exact List.mem_mergeSort.mp (List.mem_reverse.mp hr)
  · exact h
noncomputable def wkOf (ns : List Int) (most late : Int) (k : Nat) : Wk :=
  let start := mixI (cellAt ns (2 + 2 * k)) (60 + k) % late
  let number := mixI (cellAt ns (3 + 2 * k)) (80 + k)
  let first := cellAt ns 1
  if first % 3 = 1 then ⟨(degsOf ns).getD k 0, (manyI ns - 1 - k) * (1 + first / 3 % 3) + start % 2, ladderOf k (manyI ns) number⟩
  else ⟨(degsOf ns).getD k 0, start, planOf number most⟩
noncomputable def wksTo (ns : List Int) (most late : Int) (k : Nat) : List Wk := (List.range k).map (wkOf ns most late)
noncomputable def workersOf (ns : List Int) (most late : Int) : List Wk := wksTo ns most late (manyOf ns)
theorem wksTo_succ (ns : List Int) (most late : Int) (k : Nat) : wksTo ns most late (k + 1) = wksTo ns most late k ++ [wkOf ns most late k] := by unfold wksTo; rw [List.range_succ, List.map_append]; rfl
theorem wksTo_len (ns : List Int) (most late : Int) (k : Nat) : (wksTo ns most late k).length = k := by simp [wksTo]

structure OkWk (w : Wk) : Prop where
  plan : OkPlan w.plan
  rank : 1 ≤ w.rank ∧ w.rank ≤ 1000000
  start : 0 ≤ w.start ∧ w.start ≤ 1000
theorem wkOf_ok {ns : List Int} {most late : Int} {k : Nat} (hk : k < manyOf ns) (m0 : 0 < most) (m1 : most ≤ 20) (l0 : 0 < late) (l1 : late ≤ 1001) : OkWk (wkOf ns most late k) := by
  have hm := manyI_rng ns
  have hc := manyOf_cast ns
  have hd := degsOf_ok ns
  have hr : 1 ≤ (degsOf ns).getD k 0 ∧ (degsOf ns).getD k 0 ≤ 1000000 := by
    have hl : k < (degsOf ns).length := by rw [degsOf_len]; exact hk
    have e : (degsOf ns).getD k 0 = (degsOf ns)[k] := by simp [List.getD, hl]
    rw [e]; exact hd.2 _ (List.getElem_mem hl)
  have s0 := Int.emod_nonneg (mixI (cellAt ns (2 + 2 * k)) (60 + k)) (b := late) (Int.ne_of_gt l0)
  have hkI : (k : Int) < manyI ns := by omega
  have s1 := Int.emod_lt_of_pos (mixI (cellAt ns (2 + 2 * k)) (60 + k)) l0
  unfold wkOf; dsimp only
  generalize mixI (cellAt ns (2 + 2 * k)) (60 + k) % late = s at *
  split
  · refine ⟨ladderOf_ok _ (nn k) hkI (Int.le_trans hm.2 (by decide)), hr, ?_⟩
    have e1 : 0 ≤ manyI ns - 1 - k ∧ manyI ns - 1 - k ≤ 8 := by omega
    have e2 : 1 ≤ 1 + cellAt ns 1 / 3 % 3 ∧ 1 + cellAt ns 1 / 3 % 3 ≤ 3 := by omega
    dsimp only
    generalize manyI ns - 1 - (k : Int) = x at *
    generalize 1 + cellAt ns 1 / 3 % 3 = y at *
    have h1 : 0 ≤ x * y := Int.mul_nonneg e1.1 (Int.le_trans (by decide) e2.1)
    have h2 : x * y ≤ 8 * 3 := Int.mul_le_mul e1.2 e2.2 (Int.le_trans (by decide) e2.1) (by decide)
    omega
  · exact ⟨planOf_ok _ _ m0 m1, hr, by dsimp only; omega⟩
end
end Mine

namespace Mine
section
open PySem PySem.Calls PyProof.Rows
variable {P : Cx}
theorem sel {ns : List Int} {k : Nat} (h : k < ns.length) : (ns.map V.int)[k]? = some (.int (ns.getD k 0)) := by
  rw [List.getElem?_map, List.getElem?_eq_getElem h]; simp [List.getD, h]
theorem add_i {d : Nat} {Q : V → AHeap → Prop} {H : AHeap} {i j : Int} (q : Q (.int (i + j)) H) : sem2 P d .add (.int i) (.int j) Q H := q
noncomputable def hide (a : Addr) (H : AHeap) : AHeap := fun b => if b = a then none else H b
theorem hide_upd (a : Addr) (H : AHeap) (c : Cell) : hide a (H.upd a c) = hide a H := by funext b; unfold hide AHeap.upd; split <;> simp_all
theorem hide_ext {a : Addr} {H H' : AHeap} (E : Ext H H') : Ext (hide a H) (hide a H') := fun b c e => by
  unfold hide at e ⊢; split at e
  · cases e
  · rename_i n; rw [if_neg n]; exact E b c e
theorem hide_sub (a : Addr) (H : AHeap) : Ext (hide a H) H := fun b c e => by
  unfold hide at e; split at e
  · cases e
  · exact e
theorem hide_get {a b : Addr} {H : AHeap} {c : Cell} (h : H b = some c) (n : b ≠ a) : hide a H b = some c := by unfold hide; rw [if_neg n]; exact h
theorem workers_spec (h : Has P f_law_workers) (hc : Has P f_law_cell_at) (hm : Has P f_law_mixed) (hr : Has P f_law_ranks) (hp : Has P f_law_plan) (hl : Has P f_law_ladder) {d : Nat} {Q : V → AHeap → Prop} {X : Nat → AHeap → Prop} {H : AHeap} {most late : Int}
    (m0 : 0 < most) (m1 : most ≤ 20) (l0 : 0 < late) (l1 : late ≤ 1001)
    (q : ∀ a vs H', Ext H H' → H a = none → H' a = some (.list vs) → WksAt H' vs (workersOf P.ns most late) → Own1 H (adrs vs) → (∀ x ∈ adrs vs, x ≠ a) → Q (.lst a) H') : Call P (d + 2) "_law_workers" [.scr, .int most, .int late] Q X H := by
  have hmr := manyI_rng P.ns
  have hmc := manyOf_cast P.ns
  have hmr' := manyOf_rng P.ns
  have hlim : manyI P.ns ≤ Lim := Int.le_trans (b := 10) (by omega) (by decide)
  have hge : 0 ≤ manyI P.ns := Int.le_trans (by decide) hmr.1
  -- the loop
  have loop : ∀ {ρ : Ro} {H1 : AHeap} {ad : Addr}, ρ 0 = some .scr → ρ 1 = some (.int most) → ρ 2 = some (.int late) → ρ 3 = some (.int (manyI P.ns)) → ρ 4 = some (.int (cellAt P.ns 1)) → ρ 5 = some (.lst ad) → Ext H H1 → H1 ad = some (intsC (degsOf P.ns)) →
      vSs P (d + 2) (fun c zz H => X c H) (f_law_workers.ir.drop 5) (retQ Q) ρ H1 := by
    intro ρ H1 ad r0 r1 r2 r3 r4 r5 hE hD
    rw [← ro_cons r0 (ro_cons r1 (ro_cons r2 (ro_cons r3 (ro_cons r4 (ro_eq r5)))))]
    refine ⟨Nat.zero_le _, fun aw haw => gen haw fun H2 E2 hW => ⟨rgI hge hlim, _, itI hge hlim, Nat.succ_pos _, ?_⟩⟩
    have hHw : H aw = none := hE.none haw
    refine forLoop_inv (fun k ρ H' => (ρ 0 = some .scr ∧ ρ 1 = some (.int most) ∧ ρ 2 = some (.int late) ∧ ρ 3 = some (.int (manyI P.ns)) ∧ ρ 4 = some (.int (cellAt P.ns 1)) ∧ ρ 5 = some (.lst ad) ∧ ρ 6 = some (.lst aw)) ∧
      Ext H1 H' ∧ ∃ vs, H' aw = some (.list vs) ∧ WksAt (hide aw H') vs (wksTo P.ns most late k) ∧ Own1 H1 (adrs vs) ∧ ∀ x ∈ adrs vs, Live H' x ∧ x ≠ aw) ?_ ?_ ?_ ?_
    · rintro k ρ H' _
      exact stI hge hlim
    · rintro k x ρ H' K hx ⟨⟨r0, r1, r2, r3, r4, r5, r6⟩, hE', vs, hV, hWs, hOw, hLv⟩ kn kc kr
      obtain ⟨rfl, hk⟩ := rng_get hx
      have hk : k < manyOf P.ns := hk
      have hvl : vs.length = k := by rw [hWs.len, wksTo_len]
      have hD' := hE' _ _ hD
      have hkd : k < (degsOf P.ns).length := by rw [degsOf_len]; exact hk
      -- the end of a turn
      have fin : ∀ {ρ : Ro} {H2 : AHeap} {ap : Addr} {w : Wk}, ρ 0 = some .scr → ρ 1 = some (.int most) → ρ 2 = some (.int late) → ρ 3 = some (.int (manyI P.ns)) → ρ 4 = some (.int (cellAt P.ns 1)) → ρ 5 = some (.lst ad) → ρ 6 = some (.lst aw) → ρ 7 = some (.int k) → ρ 8 = some (.int w.start) → ρ 10 = some (.lst ap) →
          Ext H' H2 → H2 ap = some (steps w.plan) → H' ap = none → w.rank = (degsOf P.ns).getD k 0 → w = wkOf P.ns most late k → vSs P (d + 2) (fun c zz H => X c H) ((f_law_workers.ir.nth 6).body.drop 4) K ρ H2 := by
        intro ρ H2 ap w r0 r1 r2 r3 r4 r5 r6 r7 r8 r10 E2 hA hfr hrank hw
        have hne : ap ≠ aw := (ne_of hV hfr).symm
        have r0' := r0; have r1' := r1; have r2' := r2; have r3' := r3; have r4' := r4; have r5' := r5; have r6' := r6
        show getR (ρ 6) _
        rw [r6]
        refine ⟨⟨_, E2 _ _ hV⟩, ?_⟩
        show getR (ρ 5) _
        rw [r5]
        show getR (ρ 7) _
        rw [r7]
        refine ⟨_, k, _, E2 _ _ hD', by rw [List.length_map]; exact idx_nat hkd, sel hkd, ?_⟩
        show getR (ρ 8) _
        rw [r8]
        show getR (ρ 10) _
        rw [r10]
        refine ⟨lim3, _, E2 _ _ hV, Lim_le (by omega), ?_⟩
        refine kn _ _ ⟨⟨r0', r1', r2', r3', r4', r5', r6'⟩, (hE'.trans E2).upd haw, _, upd_self, ?_, ?_, fun x hx => ?_⟩
        · rw [wksTo_succ, ← hw, hide_upd]
          exact (hWs.mono (hide_ext E2)).app ⟨ap, by rw [hrank], hide_get hA hne⟩
        · rw [adrs_app]
          exact hOw.app hE' (fun x hx => (hLv x hx).1) hfr
        · rw [adrs_app] at hx
          rcases List.mem_append.mp hx with q | q
          · exact ⟨((hLv x q).1.mono E2).upd, (hLv x q).2⟩
          · simp at q; subst q; exact ⟨Live.upd ⟨_, hA⟩, hne⟩
      rw [← ro_cons r0 (ro_cons r1 (ro_cons r2 (ro_cons r3 (ro_cons r4 (ro_cons r5 (ro_eq r6))))))]
      refine ⟨.inl (bitOk_of (by decide) (by decide)), ?_⟩
      refine cell_at_spec (k := 2 + 2 * k) hc ?_
      refine mixed_spec hm ⟨by omega, ?_⟩
      rw [fmod_pos l0]
      refine ⟨.inl (bitOk_of (by decide) (by decide)), ?_⟩
      refine cell_at_spec (k := 3 + 2 * k) hc ?_
      refine mixed_spec hm ?_
      refine plan_spec hp hm m0 m1 fun ap H2 E2 hap hA => ⟨by decide, _, eq_int _ _, fun c => ?_, fun c => ?_⟩
      · have c := of_decide_eq_true c
        rw [fmod_pos (by decide)] at c
        refine ⟨by decide, by decide, by decide, .inl (bitOk_of (by omega) (by omega)), by decide, ?_⟩
        rw [fmod_pos (by decide), fmod_pos (by decide), fdiv_pos (by decide)]
        refine ladder_spec hl fun ap' H3 E3 hap' hA' => nil_intro ?_
        refine fin (w := wkOf P.ns most late k) (by rfl) (by rfl) (by rfl) (by rfl) (by rfl) (by rfl) (by rfl) (by rfl) ?_ (by rfl) (E2.trans E3) ?_ (E2.none hap') ?_ rfl
        · unfold wkOf; dsimp only; rw [if_pos c]; rfl
        · unfold wkOf; dsimp only; rw [if_pos c]; exact hA'
        · unfold wkOf; dsimp only; rw [if_pos c]
      · have c := of_decide_eq_false c
        rw [fmod_pos (by decide)] at c
        refine nil_intro ?_
        refine fin (w := wkOf P.ns most late k) (by rfl) (by rfl) (by rfl) (by rfl) (by rfl) (by rfl) (by rfl) (by rfl) ?_ (by rfl) E2 ?_ hap ?_ rfl
        · unfold wkOf; dsimp only; rw [if_neg c]; rfl
        · unfold wkOf; dsimp only; rw [if_neg c]; exact hA
        · unfold wkOf; dsimp only; rw [if_neg c]
    · rintro ρ H' ⟨⟨r0, r1, r2, r3, r4, r5, r6⟩, hE', vs, hV, hWs, hOw, hLv⟩
      rw [rng_len] at hWs
      show getR (ρ 6) _
      rw [r6]
      exact q aw vs H' (hE.trans hE') hHw hV (hWs.mono (hide_sub _ _)) ⟨hOw.nd, fun x hx => hE.none (hOw.new x hx)⟩ fun x hx => (hLv x hx).2
    · exact ⟨⟨rfl, rfl, rfl, rfl, rfl, rfl, rfl⟩, E2, [], hW, .nil, ⟨.nil, fun zz h => by simp [adrs] at h⟩, fun zz h => by simp [adrs] at h⟩
  -- the head
  have head : ∀ {ρ : Ro}, ρ 0 = some .scr → ρ 1 = some (.int most) → ρ 2 = some (.int late) → ρ 3 = some (.int (manyI P.ns)) → vSs P (d + 2) (fun c zz H => X c H) (f_law_workers.ir.drop 2) (retQ Q) ρ H := by
    intro ρ r0 r1 r2 r3
    rw [← ro_cons r0 (ro_cons r1 (ro_cons r2 (ro_eq r3)))]
    refine cell_at_spec (k := 1) hc ?_
    refine mixed_spec hm ?_
    rw [← hmc]
    refine ranks_spec hr hm (by omega) fun ad H1 E1 had hD => ⟨by decide, _, eq_int _ _, fun c => ?_, fun c => ?_⟩
    · have c := of_decide_eq_true c
      rw [fmod_pos (by decide)] at c
      refine ⟨Nat.succ_pos _, _, by rw [ranksOf_len]; omega, hD, by simp [List.length_mergeSort, ranksOf_len]; exact Lim_le (by omega), fun e2 h2 => gen h2 fun H2 E2 g2 => ⟨_, g2, by simp [List.length_mergeSort, ranksOf_len]; exact Lim_le (by omega), fun e3 h3 => gen h3 fun H3 E3 g3 => nil_intro ?_⟩⟩
      refine loop (by rfl) (by rfl) (by rfl) (by rw [← hmc]; rfl) (by rfl) (by rfl) (E1.trans (E2.trans E3)) ?_
      rw [g3, ← List.map_reverse]
      unfold degsOf intsC; dsimp only; rw [if_pos c]
    · have c := of_decide_eq_false c
      rw [fmod_pos (by decide)] at c
      refine nil_intro ?_
      refine loop (by rfl) (by rfl) (by rfl) (by rw [← hmc]; rfl) (by rfl) (by rfl) E1 ?_
      rw [hD]
      unfold degsOf; dsimp only; rw [if_neg c]
  refine h rfl (cell_at_spec (k := 0) hc ⟨by decide, cell_at_spec (k := 0) hc ⟨by decide, by decide, by decide, _, eq_int _ _, fun c => ?_, fun c => ?_⟩⟩)
  · have c := of_decide_eq_true c
    rw [fdiv_pos (by decide), fmod_pos (by decide)] at c
    refine cell_at_spec (k := 0) hc ⟨by decide, by decide, by decide, add_i (nil_intro ?_)⟩
    refine head (by rfl) (by rfl) (by rfl) ?_
    unfold manyI; rw [if_pos c, ← fmod_pos (a := cellAt P.ns 0 / 40) (b := 8) (by decide), ← fdiv_pos (a := cellAt P.ns 0) (b := 40) (by decide)]; rfl
  · have c := of_decide_eq_false c
    rw [fdiv_pos (by decide), fmod_pos (by decide)] at c
    refine nil_intro ?_
    refine head (by rfl) (by rfl) (by rfl) ?_
    unfold manyI; rw [if_neg c, fmod_pos (by decide)]; rfl
end
end Mine

namespace Mine
section
open PySem PySem.Calls PyProof.Rows
variable {P : Cx}
structure Sp where
  place : Nat
  gone : Int
noncomputable def Sp.v (s : Sp) : V := .tup [.int s.place, .int s.gone]
end
end Mine

namespace Mine
section
open PySem PySem.Calls PyProof.Rows
variable {P : Cx}
structure Shop where
  ws : List Wk
  now : Int
  sps : List Sp
noncomputable def ShopAt (H : AHeap) (v : V) (sh : Shop) : Prop := ∃ a s vs, v = .tup [.lst a, .int sh.now, .lst s] ∧ H a = some (.list vs) ∧ WksAt H vs sh.ws ∧ H s = some (.list (sh.sps.map Sp.v))
structure OkSp (w : Wk) (now : Int) (s : Sp) : Prop where
  le : s.place ≤ w.plan.length
  nf : ∀ x, w.plan[s.place]? = some x → x.k ≠ .free
  g0 : 0 ≤ s.gone
  gw : ∀ x, w.plan[s.place]? = some x → x.k = .work → s.gone < x.n
  go : (∀ x, w.plan[s.place]? = some x → x.k ≠ .work) → s.gone = 0
  late : now < w.start → s.place = 0 ∧ s.gone = 0
noncomputable def toolsS (w : Wk) (s : Sp) : List Int := toolsAt w.plan s.place
structure OkShop (sh : Shop) : Prop where
  ws : ∀ w ∈ sh.ws, OkWk w
  ranks : (sh.ws.map (·.rank)).Nodup
  len : 1 ≤ sh.ws.length ∧ sh.ws.length ≤ 8
  slen : sh.sps.length = sh.ws.length
  now : 0 ≤ sh.now
  sp : ∀ (i : Nat) w s, sh.ws[i]? = some w → sh.sps[i]? = some s → OkSp w sh.now s
  dis : ∀ (i j : Nat) w s w' s', sh.ws[i]? = some w → sh.sps[i]? = some s → sh.ws[j]? = some w' → sh.sps[j]? = some s' → i ≠ j → ∀ t ∈ toolsS w s, t ∉ toolsS w' s'

theorem OkWk.zero {w : Wk} (h : OkWk w) (now : Int) : OkSp w now ⟨0, 0⟩ := by
  refine ⟨Nat.zero_le _, fun x hx hf => ?_, Int.le_refl _, fun x hx hw => ?_, fun zz => rfl, fun zz => ⟨rfl, rfl⟩⟩
  · have := h.plan.ok 0 x hx
    unfold OkStep at this; rw [hf] at this; simp [toolsAt_zero] at this
  · have := h.plan.ok 0 x hx
    unfold OkStep at this; rw [hw] at this
    show (0 : Int) < x.n; have := this.1; omega
theorem workersOf_len (ns : List Int) (most late : Int) : (workersOf ns most late).length = manyOf ns := wksTo_len _ _ _ _
theorem workersOf_ok {ns : List Int} {most late : Int} (m0 : 0 < most) (m1 : most ≤ 20) (l0 : 0 < late) (l1 : late ≤ 1001) : (∀ w ∈ workersOf ns most late, OkWk w) ∧ ((workersOf ns most late).map (·.rank)).Nodup := by
  have er : (workersOf ns most late).map (·.rank) = degsOf ns := by
    apply List.ext_getElem?
    intro i
    unfold workersOf wksTo
    rw [List.map_map, List.getElem?_map]
    by_cases hi : i < manyOf ns
    · have hl : i < (degsOf ns).length := by rw [degsOf_len]; exact hi
      rw [List.getElem?_eq_getElem (l := List.range _) (by simpa using hi), List.getElem?_eq_getElem hl]
      simp only [List.getElem_range, Option.map_some, Function.comp_apply]
      have : ∀ k, (wkOf ns most late k).rank = (degsOf ns).getD k 0 := fun k => by unfold wkOf; dsimp only; split <;> rfl
      rw [this]; simp [List.getD, hl]
    · rw [List.getElem?_eq_none (by simpa using hi), List.getElem?_eq_none (by rw [degsOf_len]; omega)]; rfl
  refine ⟨fun w hw => ?_, by rw [er]; exact (degsOf_ok ns).1⟩
  obtain ⟨k, hk, rfl⟩ := List.mem_map.mp hw
  exact wkOf_ok (by simpa using hk) m0 m1 l0 l1
end
end Mine

namespace Mine
section
open PySem PySem.Calls PyProof.Rows
variable {P : Cx}
inductive Al (H : AHeap) : Nat → V → V → Prop where
  | none {n : Nat} : Al H n .none .none
  | bool {n : Nat} (b : Bool) : Al H n (.bool b) (.bool b)
  | int {n : Nat} (i : Int) : Al H n (.int i) (.int i)
  | str {n : Nat} (x : Str) : Al H n (.str x) (.str x)
  | tup {n : Nat} {us vs : List V} : us.length = vs.length → us.length ≤ 50000 → (∀ (i : Nat) u v, us[i]? = some u → vs[i]? = some v → Al H n u v) → Al H (n + 1) (.tup us) (.tup vs)
  | lst {n : Nat} {a b : Addr} {us vs : List V} : H a = some (.list us) → H b = some (.list vs) → us.length = vs.length → us.length ≤ 50000 → (∀ (i : Nat) u v, us[i]? = some u → vs[i]? = some v → Al H n u v) → Al H (n + 1) (.lst a) (.lst b)
theorem Al.mono {H H' : AHeap} (E : Ext H H') {n : Nat} {u v : V} (h : Al H n u v) : Al H' n u v := by
  induction h with
  | none => exact .none
  | bool b => exact .bool b
  | int i => exact .int i
  | str x => exact .str x
  | tup h1 h2 _ ih => exact .tup h1 h2 ih
  | lst ha hb h1 h2 _ ih => exact .lst (E _ _ ha) (E _ _ hb) h1 h2 ih


theorem alike_atom (h : Has P f_law_alike) {d : Nat} {u v : V} {Q : V → AHeap → Prop} {X : Nat → AHeap → Prop} {H : AHeap} (hA : Al H 0 u v) (q : Q (.bool true) H) : Call P d "_law_alike" [u, v] Q X H := by
  cases hA with
  | none => exact h rfl ⟨false, rfl, nc, fun zz => ⟨false, rfl, nc, fun zz => ⟨false, rfl, nc, fun zz => ⟨fun zz => q, nc'⟩⟩⟩⟩
  | bool b => exact h rfl ⟨false, rfl, nc, fun zz => ⟨false, rfl, nc, fun zz => ⟨true, rfl, fun zz => ⟨true, rfl, fun zz => ⟨true, rfl, true, rfl, _, eq_bool _ _, fun zz => ⟨_, eq_bool _ _, by rw [beq_self_eq_true]; exact q⟩, nc'⟩, nc'⟩, nc'⟩⟩⟩
  | int i => exact h rfl ⟨false, rfl, nc, fun zz => ⟨false, rfl, nc, fun zz => ⟨true, rfl, fun zz => ⟨true, rfl, fun zz => ⟨false, rfl, false, rfl, _, eq_bool _ _, fun zz => ⟨_, eq_int _ _, by rw [decide_eq_true rfl]; exact q⟩, nc'⟩, nc'⟩, nc'⟩⟩⟩
  | str x => exact h rfl ⟨false, rfl, nc, fun zz => ⟨false, rfl, nc, fun zz => ⟨false, rfl, nc, fun zz => ⟨nc, fun zz => ⟨true, rfl, fun zz => ⟨_, .inl rfl, by rw [beq_self_eq_true]; exact q⟩, nc'⟩⟩⟩⟩⟩
theorem alike_spec (h : Has P f_law_alike) : ∀ (n : Nat) {d : Nat} {u v : V} {Q : V → AHeap → Prop} {X : Nat → AHeap → Prop} {H : AHeap}, Al H n u v → (∀ H', Ext H H' → Q (.bool true) H') → Call P (d + n) "_law_alike" [u, v] Q X H := by
  intro n
  induction n with
  | zero =>
    intro d u v Q X H hA q
    exact alike_atom h hA (q H (Ext.refl _))
  | succ n ih =>
    intro d u v Q X H hA q
    have atom := q H (Ext.refl _)
    cases hA with
    | none => exact alike_atom h .none atom
    | bool b => exact alike_atom h (.bool b) atom
    | int i => exact alike_atom h (.int i) atom
    | str x => exact alike_atom h (.str x) atom
    | @tup _ us vs hl hz hall =>
      have hlim : (vs.length : Int) ≤ Lim := Int.le_trans (b := 50000) (by omega) (by decide)
      have hge := nn vs.length
      refine h rfl ⟨false, rfl, nc, fun zz => ⟨true, rfl, fun zz => ⟨false, rfl, fun zz => ⟨true, rfl, nc, fun zz => nil_intro ⟨false, rfl, false, rfl, _, eq_bool _ _, nc, fun zz => ⟨Lim_le hz, Lim_le (by omega), _, eq_int _ _, fun c => ?_, fun c => nil_intro ⟨Lim_le (by omega), rgI hge hlim, _, itI hge hlim, Nat.succ_pos _, ?_⟩⟩⟩⟩, nc'⟩, nc'⟩⟩
      · simp [hl] at c
      · refine compLoop_inv (fun k acc H' => Ext H H' ∧ acc = (List.replicate k true).map V.bool ∧ k ≤ vs.length) ?_ ?_ ?_ ⟨Ext.refl _, rfl, Nat.zero_le _⟩
        · rintro k acc H' ⟨_, rfl, hk⟩
          exact ⟨stI hge hlim, by simp; unfold Lim; omega⟩
        · rintro k x acc H' R S hx ⟨hE, rfl, hk⟩ kt kf
          obtain ⟨rfl, hk⟩ := rng_get hx
          have hk : k < vs.length := by simpa using hk
          have hku : k < us.length := by omega
          refine ⟨fun zz => ⟨stI hge hlim, k, us[k], idx_nat hku, List.getElem?_eq_getElem hku, Lim_le hz, k, vs[k], idx_nat hk, List.getElem?_eq_getElem hk, Lim_le (by omega), ?_⟩, nc'⟩
          refine ih ((hall k us[k] vs[k] (List.getElem?_eq_getElem hku) (List.getElem?_eq_getElem hk)).mono hE) fun H2 E2 => kt _ _ ⟨hE.trans E2, ?_, hk⟩
          rw [List.replicate_succ', List.map_append]; rfl
        · rintro acc H' ⟨hE, rfl, -⟩
          rw [rng_len, Int.toNat_natCast]
          refine ⟨by simp; exact Lim_le (by omega), fun e he => gen he fun H2 E2 g => ⟨Nat.succ_pos _, _, g, ?_⟩⟩
          have : (List.replicate vs.length true).all id = true := by simp
          rw [this]
          exact q H2 (hE.trans E2)
    | @lst _ a b us vs ha hb hl hz hall =>
      have hlim : (vs.length : Int) ≤ Lim := Int.le_trans (b := 50000) (by omega) (by decide)
      have hge := nn vs.length
      refine h rfl ⟨true, ⟨⟨_, hb⟩, rfl⟩, fun zz => ⟨fun zz => ⟨true, ⟨⟨_, ha⟩, rfl⟩, nc, fun zz => ⟨nc, fun zz => nil_intro ⟨true, ⟨⟨_, ha⟩, rfl⟩, true, ⟨⟨_, hb⟩, rfl⟩, _, eq_bool _ _, nc, fun zz => ⟨_, ha, _, hb, _, eq_int _ _, fun c => ?_, fun c => nil_intro ⟨_, hb, rgI hge hlim, _, itI hge hlim, Nat.succ_pos _, ?_⟩⟩⟩⟩⟩, nc'⟩, nc'⟩
      · simp [hl] at c
      · refine compLoop_inv (fun k acc H' => Ext H H' ∧ acc = (List.replicate k true).map V.bool ∧ k ≤ vs.length) ?_ ?_ ?_ ⟨Ext.refl _, rfl, Nat.zero_le _⟩
        · rintro k acc H' ⟨_, rfl, hk⟩
          exact ⟨stI hge hlim, by simp; unfold Lim; omega⟩
        · rintro k x acc H' R S hx ⟨hE, rfl, hk⟩ kt kf
          obtain ⟨rfl, hk⟩ := rng_get hx
          have hk : k < vs.length := by simpa using hk
          have hku : k < us.length := by omega
          refine ⟨fun zz => ⟨stI hge hlim, _, k, us[k], hE _ _ ha, idx_nat hku, List.getElem?_eq_getElem hku, _, k, vs[k], hE _ _ hb, idx_nat hk, List.getElem?_eq_getElem hk, ?_⟩, nc'⟩
          refine ih ((hall k us[k] vs[k] (List.getElem?_eq_getElem hku) (List.getElem?_eq_getElem hk)).mono hE) fun H2 E2 => kt _ _ ⟨hE.trans E2, ?_, hk⟩
          rw [List.replicate_succ', List.map_append]; rfl
        · rintro acc H' ⟨hE, rfl, -⟩
          rw [rng_len, Int.toNat_natCast]
          refine ⟨by simp; exact Lim_le (by omega), fun e he => gen he fun H2 E2 g => ⟨Nat.succ_pos _, _, g, ?_⟩⟩
          have : (List.replicate vs.length true).all id = true := by simp
          rw [this]
          exact q H2 (hE.trans E2)

theorem al_list {H : AHeap} {α : Type} {f : α → V} {n : Nat} (hf : ∀ x, Al H n (f x) (f x)) (l : List α) : ∀ (i : Nat) u v, (l.map f)[i]? = some u → (l.map f)[i]? = some v → Al H n u v := by
  intro i u v e1 e2
  rw [e1] at e2; cases e2
  rw [List.getElem?_map] at e1
  obtain ⟨x, _, rfl⟩ := Option.map_eq_some_iff.mp e1
  exact hf x
theorem al_two {H : AHeap} {n : Nat} {a b a' b' : V} (h1 : Al H n a a') (h2 : Al H n b b') : Al H (n + 1) (.tup [a, b]) (.tup [a', b']) :=
  .tup rfl (by simp) fun i u v e1 e2 => by
    match i with
    | 0 => simp at e1 e2; subst e1; subst e2; exact h1
    | 1 => simp at e1 e2; subst e1; subst e2; exact h2
    | i + 2 => simp at e1
theorem al_three {H : AHeap} {n : Nat} {a b c a' b' c' : V} (h1 : Al H n a a') (h2 : Al H n b b') (h3 : Al H n c c') : Al H (n + 1) (.tup [a, b, c]) (.tup [a', b', c']) :=
  .tup rfl (by simp) fun i u v e1 e2 => by
    match i with
    | 0 => simp at e1 e2; subst e1; subst e2; exact h1
    | 1 => simp at e1 e2; subst e1; subst e2; exact h2
    | 2 => simp at e1 e2; subst e1; subst e2; exact h3
    | i + 3 => simp at e1
theorem al_steps {H : AHeap} {a b : Addr} {p : List St} (ha : H a = some (steps p)) (hb : H b = some (steps p)) (hl : p.length ≤ 50000) : Al H 2 (.lst a) (.lst b) :=
  .lst ha hb rfl (by simpa using hl) (al_list (fun s => al_two (.str _) (.int _)) p)
theorem al_wks {H : AHeap} {a b : Addr} {us vs : List V} {ws : List Wk} (ha : H a = some (.list us)) (hb : H b = some (.list vs)) (hu : WksAt H us ws) (hv : WksAt H vs ws) (hl : ws.length ≤ 50000) (ok : ∀ w ∈ ws, OkWk w) : Al H 4 (.lst a) (.lst b) := by
  refine .lst ha hb (by rw [hu.len, hv.len]) (by rw [hu.len]; exact hl) fun i u v e1 e2 => ?_
  have hi : i < ws.length := by rw [← hu.len]; exact (List.getElem?_eq_some_iff.mp e1).1
  have hw : ws[i]? = some ws[i] := List.getElem?_eq_getElem hi
  obtain ⟨u', e1', x, rfl, gx⟩ := hu.get hw
  obtain ⟨v', e2', y, rfl, gy⟩ := hv.get hw
  rw [e1] at e1'; rw [e2] at e2'; cases e1'; cases e2'
  exact al_three (.int _) (.int _) (al_steps gx gy (by have := (ok _ (List.getElem_mem hi)).plan.len; omega))
theorem al_shop {H : AHeap} {u v : V} {sh : Shop} (ok : OkShop sh) (hu : ShopAt H u sh) (hv : ShopAt H v sh) : Al H 5 u v := by
  obtain ⟨a, s, us, rfl, h1, h2, h3⟩ := hu
  obtain ⟨b, t, vs, rfl, k1, k2, k3⟩ := hv
  refine al_three (al_wks h1 k1 h2 k2 (by have := ok.len; omega) ok.ws) (.int _) ?_
  exact .lst h3 k3 rfl (by have := ok.len; have := ok.slen; simp; omega) (al_list (fun s => al_two (.int _) (.int _)) sh.sps)
end
end Mine

namespace Mine
section
open PySem PySem.Calls PyProof.Rows
variable {P : Cx}
/- 0 thing, 1 least, 2 most -/
noncomputable def f_is_whole : FnI := ⟨"is_whole", ["thing", "least", "most"], (.cons (.ret (.and (.op1 (.isI .int) (.var 0)) (.and (.not (.op1 (.isI .bool) (.var 0))) (.chain .le .le (.var 1) (.var 0) (.var 2))))) .nil)⟩
/- 0 shop, 1 k -/
/- 0 shop, 1 k, 2 found, 3 step -/
end
end Mine

namespace Mine
section
open PySem PySem.Calls PyProof.Rows
variable {P : Cx}
/- 0 shop, 1 k -/
/- 0 shop, 1 k -/
/- 0 shop, 1 found, 2 k, 3 tool -/
/- 0 shop, 1 k -/
/- 0 shop, 1 holders, 2 found, 3 k, 4 other, 5 step -/
/- 0 wants, 1 k, 2 row -/
noncomputable def Shop.n (sh : Shop) : Nat := sh.ws.length
theorem OkShop.n8 {sh : Shop} (ok : OkShop sh) : 1 ≤ sh.n ∧ sh.n ≤ 8 := ok.len
noncomputable abbrev SV (a s : Addr) (sh : Shop) : V := .tup [.lst a, .int sh.now, .lst s]
end
end Mine

namespace Mine
section
open PySem PySem.Calls PyProof.Rows
variable {P : Cx}
end
end Mine

namespace Mine
section
open PySem PySem.Calls PyProof.Rows
variable {P : Cx}
/- 0 shop, 1 wants, 2 found, 3 k, 4 other -/
/- 0 shop, 1 k -/
end
end Mine

namespace Mine
section
open PySem PySem.Calls PyProof.Rows
variable {P : Cx}
/- 0 shop -/
/- 0 shop, 1 wants, 2 ranks, 3 best, 4 k -/
/- 0 _law_shop, 1 _law_best, 2 _law_k -/
end
end Mine

namespace Mine
section
open PySem PySem.Calls PyProof.Rows
variable {P : Cx}
/- 0 plan, 1 place -/
/- 0 _law_plan_here, 1 _law_place -/
/- 0 workers -/
noncomputable def f_copied : FnI := ⟨"copied", ["workers"], (.cons (.ret (.comp 1 (.tup (.cons (.op2 .item (.var 1) (.int 0)) (.cons (.op2 .item (.var 1) (.int 1)) (.cons (.op1 .listOf (.op2 .item (.var 1) (.int 2))) .nil)))) (.var 0) (.bool true))) .nil)⟩
end
end Mine

namespace Mine
section
open PySem PySem.Calls PyProof.Rows
variable {P : Cx}
end
end Mine

namespace Mine
section
open PySem PySem.Calls PyProof.Rows
variable {P : Cx}
end
end Mine

namespace Mine
section
open PySem PySem.Calls PyProof.Rows
variable {P : Cx}
/- 0 shop, 1 workers, 2 now, 3 spots, 4 here, 5 one, 6 place, 7 gone -/
/- 0 _law_shop, 1 _law_spots, 2 _law_k, 3 _law_place, 4 _law_gone -/
end
end Mine

namespace Mine
section
open PySem PySem.Calls PyProof.Rows
variable {P : Cx}
/- 0 _law_thing, 1 _law_one -/
noncomputable def f_law_spoilt : FnI := ⟨"_law_spoilt", ["_law_thing"], (.cons (.ite (.or (.op1 (.isI .tuple) (.var 0)) (.op1 (.isI .list) (.var 0))) (.cons (.for 1 (.op1 .listOf (.var 0)) (.cons (.ex (.call "_law_spoilt" (.cons (.var 1) .nil))) .nil)) .nil) .nil) (.cons (.ite (.op1 (.isI .list) (.var 0)) (.cons (.ex (.meth .append (.var 0) (.str "more"))) .nil) .nil) .nil))⟩
noncomputable def moV : V := .str (Str.ofString "more")
noncomputable def addM : Cell → Cell
  | .list us => .list (us ++ [moV])
  | c => c
noncomputable def spoil (L : List Addr) (H : AHeap) : AHeap := fun x => if x ∈ L then (H x).map addM else H x
theorem spoil_in {L : List Addr} {H : AHeap} {x : Addr} {us : List V} (h : x ∈ L) (e : H x = some (.list us)) : spoil L H x = some (.list (us ++ [moV])) := by
  unfold spoil; rw [if_pos h, e]; rfl
theorem spoil_out {L : List Addr} {H : AHeap} {x : Addr} (h : x ∉ L) : spoil L H x = H x := if_neg h
theorem spoil_ext {L : List Addr} {H H' : AHeap} (E : Ext H H') : Ext (spoil L H) (spoil L H') := fun x c e => by
  unfold spoil at e ⊢
  by_cases h : x ∈ L
  · rw [if_pos h] at e ⊢
    obtain ⟨c0, h0, rfl⟩ := Option.map_eq_some_iff.mp e
    rw [E _ _ h0]; rfl
  · rw [if_neg h] at e ⊢; exact E _ _ e
theorem spoil_nil (H : AHeap) : spoil [] H = H := by funext x; exact if_neg (by simp)
theorem spoil_app {L M : List Addr} {H : AHeap} (h : ∀ x ∈ L, x ∉ M) : spoil M (spoil L H) = spoil (L ++ M) H := by
  funext x
  unfold spoil
  by_cases h1 : x ∈ M
  · have h2 : x ∉ L := fun q => h x q h1
    simp [h1, h2]
  · simp [h1]
inductive Tr (H : AHeap) : Nat → V → List Addr → Prop where
  | none {n : Nat} : Tr H n .none []
  | int {n : Nat} {i : Int} : Tr H n (.int i) []
  | str {n : Nat} {x : Str} : Tr H n (.str x) []
  | tup {n : Nat} {vs : List V} {L : List Addr} (Ls : List (List Addr)) : vs.length = Ls.length → vs.length ≤ 900 → (∀ (i : Nat) v M, vs[i]? = some v → Ls[i]? = some M → Tr H n v M) → L = Ls.flatten → L.Nodup → Tr H (n + 1) (.tup vs) L
  | lst {n : Nat} {a : Addr} {vs : List V} {L : List Addr} (Ls : List (List Addr)) : H a = some (.list vs) → vs.length = Ls.length → vs.length ≤ 900 → (∀ (i : Nat) v M, vs[i]? = some v → Ls[i]? = some M → Tr H n v M) → L = Ls.flatten → (a :: L).Nodup → Tr H (n + 1) (.lst a) (a :: L)
theorem mem_part {Ls : List (List Addr)} {i : Nat} {M : List Addr} (h : Ls[i]? = some M) {x : Addr} (hx : x ∈ M) : x ∈ Ls.flatten := List.mem_flatten.mpr ⟨M, List.mem_of_getElem? h, hx⟩
theorem part_live {H : AHeap} {vs : List V} {Ls : List (List Addr)} (h1 : vs.length = Ls.length) (ih : ∀ (i : Nat) (v : V) (M : List Addr), vs[i]? = some v → Ls[i]? = some M → ∀ x ∈ M, Live H x) {x : Addr} (hx : x ∈ Ls.flatten) : Live H x := by
  obtain ⟨M, hM, hx⟩ := List.mem_flatten.mp hx
  obtain ⟨i, hi, rfl⟩ := List.mem_iff_getElem.mp hM
  exact ih i (vs[i]'(h1 ▸ hi)) _ (List.getElem?_eq_getElem _) (List.getElem?_eq_getElem hi) x hx
theorem Tr.same {H H' : AHeap} {n : Nat} {v : V} {L : List Addr} (h : Tr H n v L) : (∀ x ∈ L, ∀ c, H x = some c → H' x = some c) → Tr H' n v L := by
  induction h with
  | none => exact fun zz => .none
  | int => exact fun zz => .int
  | str => exact fun zz => .str
  | tup Ls h1 h2 _ h4 h5 ih => exact fun k => .tup Ls h1 h2 (fun i v M e1 e2 => ih i v M e1 e2 fun x hx => k x (h4 ▸ mem_part e2 hx)) h4 h5
  | lst Ls h0 h1 h2 _ h4 h5 ih => exact fun k => .lst Ls (k _ (List.mem_cons_self ..) _ h0) h1 h2 (fun i v M e1 e2 => ih i v M e1 e2 fun x hx => k x (List.mem_cons_of_mem _ (h4 ▸ mem_part e2 hx))) h4 h5
theorem Tr.live {H : AHeap} {n : Nat} {v : V} {L : List Addr} (h : Tr H n v L) : ∀ x ∈ L, Live H x := by
  induction h with
  | none => exact fun x hx => by simp at hx
  | int => exact fun x hx => by simp at hx
  | str => exact fun x hx => by simp at hx
  | tup Ls h1 h2 _ h4 h5 ih =>
    subst h4
    exact fun x hx => part_live h1 ih hx
  | lst Ls h0 h1 h2 _ h4 h5 ih =>
    subst h4
    intro x hx
    rcases List.mem_cons.mp hx with rfl | hx
    · exact ⟨_, h0⟩
    · exact part_live h1 ih hx
theorem spoilt_loop (h : Has P f_law_spoilt) {n : Nat} (ih : ∀ {d : Nat} {v : V} {L : List Addr} {Q : V → AHeap → Prop} {X : Nat → AHeap → Prop} {H : AHeap}, Tr H n v L → (∀ H', Ext (spoil L H) H' → Q .none H') → Call P (d + n) "_law_spoilt" [v] Q X H)
    {d : Nat} {X : Nat → AHeap → Prop} {Q : Fl → Ro → AHeap → Prop} {H0 H : AHeap} {ρ : Ro} {v0 : V} {c : Addr} {vs : List V} {Ls : List (List Addr)} (r0 : ρ 0 = some v0) (hc : H c = some (.list vs)) (hcL : c ∉ Ls.flatten) (hl : vs.length = Ls.length) (hn : Ls.flatten.Nodup)
    (ht : ∀ (i : Nat) v M, vs[i]? = some v → Ls[i]? = some M → Tr H n v M) (q : ∀ ρ' H', ρ' 0 = some v0 → Ext (spoil Ls.flatten H) H' → Q .next ρ' H') :
    forLoop (stays H0 (.lst c) vs) 1 (fun R ρ H => vSs P (d + n + 1) (fun c zz H => X c H) ((f_law_spoilt.ir.nth 0).thn.nth 0).body R ρ H) Q vs ρ H := by
  refine forLoop_inv (fun k ρ H' => ρ 0 = some v0 ∧ Ext (spoil (Ls.take k).flatten H) H') ?_ ?_ ?_ ⟨r0, by rw [List.take_zero]; exact (spoil_nil H).symm ▸ Ext.refl _⟩
  · rintro k ρ H' ⟨-, E⟩
    refine stL (E _ _ ?_)
    rw [spoil_out fun hx => hcL ?_]
    · exact hc
    · obtain ⟨M, h1, h2⟩ := List.mem_flatten.mp hx
      exact List.mem_flatten.mpr ⟨M, List.mem_of_mem_take h1, h2⟩
  · rintro k x ρ H' K hx ⟨r0, E⟩ kn - -
    have hk : k < Ls.length := hl ▸ (List.getElem?_eq_some_iff.mp hx).1
    have hM : Ls[k]? = some Ls[k] := List.getElem?_eq_getElem hk
    have e : (Ls.take (k + 1)).flatten = (Ls.take k).flatten ++ Ls[k] := by rw [List.take_add_one, hM, Option.toList_some, List.flatten_append, List.flatten_singleton]
    have dis : ∀ x ∈ (Ls.take k).flatten, x ∉ Ls[k] := by
      have : (Ls.take (k + 1)).flatten.Nodup := by
        refine hn.sublist ?_
        have := List.take_append_drop (k + 1) Ls
        rw [← this, List.flatten_append, this]
        exact List.sublist_append_left _ _
      rw [e] at this
      exact fun x h1 h2 => (List.nodup_append.mp this).2.2 x h1 x h2 rfl
    refine ih ((ht k x _ hx hM).same fun y hy c hc => E _ _ ?_) fun H2 E2 => ?_
    · rw [spoil_out fun q => dis y q hy]; exact hc
    · refine nil_intro (kn _ _ ⟨r0, ?_⟩)
      rw [e, ← spoil_app dis]
      exact (spoil_ext E).trans E2
  · rintro ρ H' ⟨r0, E⟩
    rw [hl, List.take_length] at E
    exact q ρ H' r0 E
theorem spoilt_atom (h : Has P f_law_spoilt) {d : Nat} {v : V} {Q : V → AHeap → Prop} {X : Nat → AHeap → Prop} {H : AHeap} (h1 : isTy H .tuple v false) (h2 : isTy H .list v false) (q : Q .none H) : Call P d "_law_spoilt" [v] Q X H :=
  h rfl ⟨false, h1, fun c => nc c, fun zz => ⟨false, h2, fun c => nc c, fun zz => nil_intro ⟨false, h2, fun c => nc c, fun zz => nil_intro q⟩⟩⟩
theorem spoilt_spec (h : Has P f_law_spoilt) : ∀ (n : Nat) {d : Nat} {v : V} {L : List Addr} {Q : V → AHeap → Prop} {X : Nat → AHeap → Prop} {H : AHeap}, Tr H n v L → (∀ H', Ext (spoil L H) H' → Q .none H') → Call P (d + n) "_law_spoilt" [v] Q X H := by
  intro n
  induction n with
  | zero =>
    intro d v L Q X H t q
    have q0 : ∀ {L}, L = [] → (∀ H', Ext (spoil L H) H' → Q .none H') → Q .none H := fun e q => by subst e; exact q H ((spoil_nil H).symm ▸ Ext.refl _)
    cases t with
    | none => exact spoilt_atom h rfl rfl (q0 rfl q)
    | int => exact spoilt_atom h rfl rfl (q0 rfl q)
    | str => exact spoilt_atom h rfl rfl (q0 rfl q)
  | succ n ih =>
    intro d v L Q X H t q
    have q0 : ∀ {L}, L = [] → (∀ H', Ext (spoil L H) H' → Q .none H') → Q .none H := fun e q => by subst e; exact q H ((spoil_nil H).symm ▸ Ext.refl _)
    cases t with
    | none => exact spoilt_atom h rfl rfl (q0 rfl q)
    | int => exact spoilt_atom h rfl rfl (q0 rfl q)
    | str => exact spoilt_atom h rfl rfl (q0 rfl q)
    | tup Ls h1 h2 h3 h4 h5 =>
      subst h4
      refine h rfl ⟨true, rfl, fun zz => ⟨fun zz => ⟨Lim_le (Nat.le_trans h2 (by decide)), fun c hc => ⟨_, upd_self, Nat.succ_pos _, ?_⟩⟩, fun c => nc' c⟩, fun c => nc' c⟩
      have liv : ∀ x ∈ Ls.flatten, x ≠ c := fun x hx => by
        obtain ⟨u, hu⟩ := (Tr.tup Ls h1 h2 h3 rfl h5).live x hx
        exact ne_of hu hc
      refine spoilt_loop h ih rfl upd_self (fun hx => liv c hx rfl) h1 h5 (fun i v M e1 e2 => (h3 i v M e1 e2).same fun x zz u hu => Ext.new hc _ _ hu) fun ρ' H' r0 E => ?_
      rw [← ro_eq r0]
      exact nil_intro ⟨false, rfl, fun c => nc c, fun zz => nil_intro (q H' ((spoil_ext (Ext.new hc)).trans E))⟩
    | @lst _ a vs L Ls h0 h1 h2 h3 h4 h5 =>
      subst h4
      refine h rfl ⟨false, ⟨⟨_, h0⟩, rfl⟩, fun c => nc c, fun zz => ⟨true, ⟨⟨_, h0⟩, rfl⟩, fun zz => ⟨_, h0, Lim_le (Nat.le_trans h2 (by decide)), fun c hc => ⟨_, upd_self, Nat.succ_pos _, ?_⟩⟩, fun c => nc' c⟩⟩
      have liv : ∀ x ∈ a :: Ls.flatten, x ≠ c := fun x hx => by
        obtain ⟨u, hu⟩ := (Tr.lst Ls h0 h1 h2 h3 rfl h5).live x hx
        exact ne_of hu hc
      obtain ⟨ha, hnd⟩ := List.nodup_cons.mp h5
      refine spoilt_loop h ih rfl upd_self (fun hx => liv c (List.mem_cons_of_mem _ hx) rfl) h1 hnd (fun i v M e1 e2 => (h3 i v M e1 e2).same fun x zz u hu => Ext.new hc _ _ hu) fun ρ' H' r0 E => ?_
      rw [← ro_eq r0]
      have E := (spoil_ext (Ext.new hc)).trans E
      have hA : H' a = some (.list vs) := E _ _ (by rw [spoil_out ha]; exact h0)
      refine nil_intro ⟨true, ⟨⟨_, hA⟩, rfl⟩, fun zz => ⟨⟨_, hA⟩, _, hA, Nat.le_trans (Nat.succ_le_succ h2) (by decide), nil_intro (nil_intro (q _ fun x u hu => ?_))⟩, fun c => nc' c⟩
      by_cases hx : x = a
      · subst hx
        rw [spoil_in (List.mem_cons_self ..) h0] at hu
        rw [upd_self]; exact hu
      · rw [upd_ne hx]
        refine E _ _ ?_
        unfold spoil at hu ⊢
        by_cases hm : x ∈ Ls.flatten
        · rw [if_pos (List.mem_cons_of_mem _ hm)] at hu; rw [if_pos hm]; exact hu
        · rw [if_neg (fun q => (List.mem_cons.mp q).elim hx hm)] at hu; rw [if_neg hm]; exact hu
end
end Mine

namespace Mine
section
open PySem PySem.Calls PyProof.Rows
variable {P : Cx}
theorem tail_al {H : AHeap} {n : Nat} {t us vs : List V} (ht : ∀ x ∈ t, x = moV) (hl : us.length = vs.length) (h : ∀ (i : Nat) u v, us[i]? = some u → vs[i]? = some v → Al H n u v) : ∀ (i : Nat) u v, (us ++ t)[i]? = some u → (vs ++ t)[i]? = some v → Al H n u v := by
  intro i u v e1 e2
  rw [List.getElem?_append] at e1 e2
  by_cases c : i < us.length
  · rw [if_pos c] at e1; rw [if_pos (hl ▸ c)] at e2; exact h i u v e1 e2
  · rw [if_neg c] at e1; rw [if_neg (hl ▸ c)] at e2
    rw [ht u (List.mem_of_getElem? e1), ht v (List.mem_of_getElem? e2)]; exact .str _
theorem Tr.part {vs : List V} {Ls : List (List Addr)} (h1 : vs.length = Ls.length) {i : Nat} {v : V} (e : vs[i]? = some v) : ∃ M, Ls[i]? = some M :=
  ⟨_, List.getElem?_eq_getElem (h1 ▸ (List.getElem?_eq_some_iff.mp e).1)⟩
theorem Al.turn {H H' : AHeap} {t : List V} (ht : ∀ x ∈ t, x = moV) (htl : t.length ≤ 1) {n : Nat} {u v : V} (h : Al H n u v) : ∀ {m m' : Nat} {L M : List Addr}, Tr H m u L → Tr H m' v M → (∀ x ∈ L, ∀ us, H x = some (.list us) → H' x = some (.list (us ++ t))) → (∀ x ∈ M, ∀ us, H x = some (.list us) → H' x = some (.list (us ++ t))) → Al H' n u v := by
  induction h with
  | none => intros; exact .none
  | bool b => intros; exact .bool b
  | int i => intros; exact .int i
  | str x => intros; exact .str x
  | tup h1 h2 _ ih =>
    intro m m' L M t1 t2 k1 k2
    cases t1 with
    | tup Ls a1 _ a3 a4 _ =>
      cases t2 with
      | tup Ms b1 _ b3 b4 _ =>
        refine .tup h1 h2 fun i u v e1 e2 => ?_
        obtain ⟨A, hA⟩ := Tr.part a1 e1
        obtain ⟨B, hB⟩ := Tr.part b1 e2
        exact ih i u v e1 e2 (a3 _ _ _ e1 hA) (b3 _ _ _ e2 hB) (fun x hx => k1 x (a4 ▸ mem_part hA hx)) fun x hx => k2 x (b4 ▸ mem_part hB hx)
  | lst g1 g2 h1 h2 _ ih =>
    intro m m' L M t1 t2 k1 k2
    cases t1 with
    | lst Ls a0 a1 a2 a3 a4 _ =>
      cases t2 with
      | lst Ms b0 b1 _ b3 b4 _ =>
        rw [g1] at a0; cases a0
        rw [g2] at b0; cases b0
        refine .lst (k1 _ (List.mem_cons_self ..) _ g1) (k2 _ (List.mem_cons_self ..) _ g2) (by rw [List.length_append, List.length_append, h1]) (by rw [List.length_append]; exact Nat.le_trans (Nat.add_le_add a2 htl) (by decide)) (tail_al ht h1 fun i u v e1 e2 => ?_)
        obtain ⟨A, hA⟩ := Tr.part a1 e1
        obtain ⟨B, hB⟩ := Tr.part b1 e2
        exact ih i u v e1 e2 (a3 _ _ _ e1 hA) (b3 _ _ _ e2 hB) (fun x hx => k1 x (List.mem_cons_of_mem _ (a4 ▸ mem_part hA hx))) fun x hx => k2 x (List.mem_cons_of_mem _ (b4 ▸ mem_part hB hx))
theorem flat_nil {Ls : List (List Addr)} (h : ∀ L ∈ Ls, L = []) : Ls.flatten = [] := List.flatten_eq_nil_iff.mpr h
theorem rep_nil (n : Nat) : (List.replicate n ([] : List Addr)).flatten = [] := flat_nil fun zz h => (List.mem_replicate.mp h).2
theorem tr_flat {H : AHeap} {n : Nat} {vs : List V} (h : ∀ v ∈ vs, Tr H n v []) (i : Nat) (v : V) (M : List Addr) (e : vs[i]? = some v) (e' : (List.replicate vs.length ([] : List Addr))[i]? = some M) : Tr H n v M := by
  rw [(List.mem_replicate.mp (List.mem_of_getElem? e')).2]; exact h v (List.mem_of_getElem? e)
theorem tr_tup0 {H : AHeap} {n : Nat} {vs : List V} (hl : vs.length ≤ 900) (h : ∀ v ∈ vs, Tr H n v []) : Tr H (n + 1) (.tup vs) [] :=
  .tup (List.replicate vs.length []) (List.length_replicate ..).symm hl (tr_flat h) (rep_nil _).symm .nil
theorem tr_lst0 {H : AHeap} {n : Nat} {a : Addr} {vs : List V} (ha : H a = some (.list vs)) (hl : vs.length ≤ 900) (h : ∀ v ∈ vs, Tr H n v []) : Tr H (n + 1) (.lst a) [a] :=
  .lst (List.replicate vs.length []) ha (List.length_replicate ..).symm hl (tr_flat h) (rep_nil _).symm (List.nodup_cons.mpr ⟨by simp, .nil⟩)
theorem tr_three {H : AHeap} {n : Nat} {x y z : V} {L M : List Addr} (h1 : Tr H n x L) (h2 : Tr H n y []) (h3 : Tr H n z M) (nd : (L ++ M).Nodup) : Tr H (n + 1) (.tup [x, y, z]) (L ++ M) :=
  .tup [L, [], M] rfl (show 3 ≤ 900 by decide) (fun i v A e1 e2 => match i with
    | 0 => by cases e1; cases e2; exact h1
    | 1 => by cases e1; cases e2; exact h2
    | 2 => by cases e1; cases e2; exact h3
    | i + 3 => nomatch e1) (by simp) nd
theorem tr_sps {H : AHeap} {s : Addr} {sps : List Sp} (h : H s = some (.list (sps.map Sp.v))) (hl : sps.length ≤ 8) : Tr H 2 (.lst s) [s] :=
  tr_lst0 h (by rw [List.length_map]; exact Nat.le_trans hl (by decide)) fun v hv => by
    obtain ⟨x, -, rfl⟩ := List.mem_map.mp hv
    exact tr_tup0 (by simp) fun y hy => by
      rcases List.mem_cons.mp hy with rfl | hy
      · exact .int
      · simp at hy; subst hy; exact .int
theorem tr_plan {H : AHeap} {a : Addr} {p : List St} (h : H a = some (steps p)) (hl : p.length ≤ 40) : Tr H 2 (.lst a) [a] :=
  tr_lst0 h (by rw [List.length_map]; exact Nat.le_trans hl (by decide)) fun v hv => by
    obtain ⟨x, -, rfl⟩ := List.mem_map.mp hv
    exact tr_tup0 (by simp) fun y hy => by
      rcases List.mem_cons.mp hy with rfl | hy
      · exact .str
      · simp at hy; subst hy; exact .int
theorem Tr.up {H : AHeap} {n : Nat} {v : V} {L : List Addr} (h : Tr H n v L) : Tr H (n + 1) v L := by
  induction h with
  | none => exact .none
  | int => exact .int
  | str => exact .str
  | tup Ls h1 h2 _ h4 h5 ih => exact .tup Ls h1 h2 ih h4 h5
  | lst Ls h0 h1 h2 _ h4 h5 ih => exact .lst Ls h0 h1 h2 ih h4 h5
theorem wks_parts {H : AHeap} {vs : List V} {ws : List Wk} (h : WksAt H vs ws) (ok : ∀ w ∈ ws, OkWk w) : ∃ Ls : List (List Addr), vs.length = Ls.length ∧ Ls.flatten = adrs vs ∧ ∀ (i : Nat) v M, vs[i]? = some v → Ls[i]? = some M → Tr H 3 v M := by
  induction h with
  | nil => exact ⟨[], rfl, rfl, fun i v M e zz => nomatch e⟩
  | cons hw _ ih =>
    obtain ⟨Ls, h1, h2, h3⟩ := ih fun w hm => ok w (List.mem_cons_of_mem _ hm)
    obtain ⟨a, rfl, ha⟩ := hw
    refine ⟨[a] :: Ls, congrArg (· + 1) h1, ?_, fun i v M e1 e2 => ?_⟩
    · rw [List.flatten_cons, h2]; rfl
    · cases i with
      | zero => cases e1; cases e2; exact tr_three (L := []) .int .int (tr_plan ha (ok _ (List.mem_cons_self ..)).plan.len) (List.nodup_cons.mpr ⟨by simp, .nil⟩)
      | succ i => exact h3 i v M e1 e2
theorem tr_wks {H : AHeap} {b : Addr} {vs : List V} {ws : List Wk} (hb : H b = some (.list vs)) (h : WksAt H vs ws) (ok : ∀ w ∈ ws, OkWk w) (hl : ws.length ≤ 8) (nd : (b :: adrs vs).Nodup) : Tr H 4 (.lst b) (b :: adrs vs) := by
  obtain ⟨Ls, h1, h2, h3⟩ := wks_parts h ok
  exact .lst Ls hb h1 (by rw [h.len]; exact Nat.le_trans hl (by decide)) h3 h2.symm nd
theorem nd_res {b s : Addr} {l : List Addr} (h1 : l.Nodup) (h2 : ∀ x ∈ l, x ≠ b ∧ x ≠ s) (h3 : b ≠ s) : ((b :: l) ++ [s]).Nodup := by
  refine List.nodup_append.mpr ⟨List.nodup_cons.mpr ⟨fun h => (h2 b h).1 rfl, h1⟩, List.nodup_cons.mpr ⟨by simp, .nil⟩, fun x hx y hy => ?_⟩
  simp at hy; subst hy
  rcases List.mem_cons.mp hx with rfl | hx
  · exact h3
  · exact (h2 x hx).2
theorem mem_res {b s x : Addr} {l : List Addr} (h : x ∈ (b :: l) ++ [s]) : x = b ∨ x = s ∨ x ∈ l := by
  rcases List.mem_append.mp h with h | h
  · rcases List.mem_cons.mp h with h | h
    · exact .inl h
    · exact .inr (.inr h)
  · simp at h; exact .inr (.inl h)
end
end Mine

namespace Mine
section
open PySem PySem.Calls PyProof.Rows
variable {P : Cx}
/- 0 thing -/
noncomputable def f_is_step : FnI := ⟨"is_step", ["thing"], (.cons (.ite (.or (.not (.op1 (.isI .tuple) (.var 0))) (.or (.op2 .ne (.op1 .len (.var 0)) (.int 2)) (.not (.op1 (.isI .str) (.op2 .item (.var 0) (.int 0)))))) (.cons (.ret (.bool false)) .nil) .nil) (.cons (.ite (.op2 .eq (.op2 .item (.var 0) (.int 0)) (.str "work")) (.cons (.ret (.call "is_whole" (.cons (.op2 .item (.var 0) (.int 1)) (.cons (.int 1) (.cons (.glb "MOST_WORK" 100) .nil))))) .nil) .nil) (.cons (.ret (.and (.op2 .inn (.op2 .item (.var 0) (.int 0)) (.tup (.cons (.str "hold") (.cons (.str "free") .nil)))) (.call "is_whole" (.cons (.op2 .item (.var 0) (.int 1)) (.cons (.int 0) (.cons (.glb "MOST_TOOL" 9) .nil)))))) .nil)))⟩
/- 0 thing, 1 tools, 2 step -/
noncomputable def f_is_plan : FnI := ⟨"is_plan", ["thing"], (.cons (.ite (.or (.not (.op1 (.isI .list) (.var 0))) (.not (.chain .le .le (.int 1) (.op1 .len (.var 0)) (.glb "MOST_STEPS" 40)))) (.cons (.ret (.bool false)) .nil) .nil) (.cons (.asg 1 (.lst .nil)) (.cons (.for 2 (.var 0) (.cons (.ite (.not (.call "is_step" (.cons (.var 2) .nil))) (.cons (.ret (.bool false)) .nil) .nil) (.cons (.ite (.op2 .eq (.op2 .item (.var 2) (.int 0)) (.str "hold")) (.cons (.ite (.op2 .gt (.op1 .len (.comp 3 (.var 3) (.var 1) (.op2 .ge (.var 3) (.op2 .item (.var 2) (.int 1))))) (.int 0)) (.cons (.ret (.bool false)) .nil) .nil) (.cons (.ex (.meth .append (.var 1) (.op2 .item (.var 2) (.int 1)))) .nil)) .nil) (.cons (.ite (.op2 .eq (.op2 .item (.var 2) (.int 0)) (.str "free")) (.cons (.ite (.op2 .notIn (.op2 .item (.var 2) (.int 1)) (.var 1)) (.cons (.ret (.bool false)) .nil) .nil) (.cons (.ex (.meth .remove (.var 1) (.op2 .item (.var 2) (.int 1)))) .nil)) .nil) .nil)))) (.cons (.ret (.op2 .eq (.op1 .len (.var 1)) (.int 0))) .nil))))⟩
/- 0 workers, 1 ranks, 2 worker -/
noncomputable def f_need_workers : FnI := ⟨"need_workers", ["workers"], (.cons (.ite (.not (.chain .le .le (.int 1) (.op1 .len (.var 0)) (.glb "MOST_WORKERS" 8))) (.cons (.raise 1) .nil) .nil) (.cons (.asg 1 (.lst .nil)) (.cons (.for 2 (.var 0) (.cons (.ite (.or (.not (.op1 (.isI .tuple) (.var 2))) (.op2 .ne (.op1 .len (.var 2)) (.int 3))) (.cons (.raise 2) .nil) .nil) (.cons (.ite (.or (.not (.call "is_whole" (.cons (.op2 .item (.var 2) (.int 0)) (.cons (.int 1) (.cons (.glb "MOST_RANK" 1000000) .nil))))) (.op2 .inn (.op2 .item (.var 2) (.int 0)) (.var 1))) (.cons (.raise 3) .nil) .nil) (.cons (.ite (.not (.call "is_whole" (.cons (.op2 .item (.var 2) (.int 1)) (.cons (.int 0) (.cons (.glb "MOST_START" 1000) .nil))))) (.cons (.raise 4) .nil) .nil) (.cons (.ite (.not (.call "is_plan" (.cons (.op2 .item (.var 2) (.int 2)) .nil))) (.cons (.raise 5) .nil) .nil) (.cons (.ex (.meth .append (.var 1) (.op2 .item (.var 2) (.int 0)))) .nil)))))) .nil)))⟩
/- 0 workers -/
noncomputable def f_begun : FnI := ⟨"begun", ["workers"], (.cons (.ex (.call "need_workers" (.cons (.var 0) .nil))) (.cons (.ret (.tup (.cons (.call "copied" (.cons (.var 0) .nil)) (.cons (.int 0) (.cons (.comp 1 (.tup (.cons (.int 0) (.cons (.int 0) .nil))) (.var 0) (.bool true)) .nil))))) .nil))⟩
theorem whole_all (h : Has P f_is_whole) {d : Nat} {Q : V → AHeap → Prop} {X : Nat → AHeap → Prop} {H : AHeap} {i lo hi : Int} (q : Q (.bool (decide (lo ≤ i) && decide (i ≤ hi))) H) : Call P d "is_whole" [.int i, .int lo, .int hi] Q X H := by
  refine h rfl ⟨true, rfl, fun zz => ⟨false, rfl, fun zz => ⟨fun c => ?_, fun c => ?_⟩, nc'⟩, nc'⟩
  · rw [c] at q; exact q
  · rw [c] at q; exact q
noncomputable def stepB (s : St) : Bool := if s.k = .work then decide (1 ≤ s.n) && decide (s.n ≤ 100) else decide (0 ≤ s.n) && decide (s.n ≤ 9)
noncomputable def stepG (s : St) (ts : List Int) : Option (List Int) :=
  if !stepB s then none else match s.k with
    | .work => some ts
    | .hold => if ts.any (fun t => decide (s.n ≤ t)) then none else some (ts ++ [s.n])
    | .free => if inn s.n ts then some (ts.erase s.n) else none
noncomputable def runG : List St → List Int → Option (List Int)
  | [], ts => some ts
  | s :: r, ts => (stepG s ts).bind (runG r)
theorem runG_app (p : List St) (s : St) : ∀ ts, runG (p ++ [s]) ts = (runG p ts).bind (stepG s) := by
  induction p with
  | nil => intro ts; show (stepG s ts).bind (runG []) = stepG s ts; cases stepG s ts <;> rfl
  | cons x p ih =>
    intro ts
    show (stepG x ts).bind (runG (p ++ [s])) = ((stepG x ts).bind (runG p)).bind (stepG s)
    cases stepG x ts with
    | none => rfl
    | some us => exact ih us
theorem runG_none {p r : List St} {ts : List Int} (h : runG p ts = none) : runG (p ++ r) ts = none := by
  induction p generalizing ts with
  | nil => cases h
  | cons x p ih =>
    have h : (stepG x ts).bind (runG p) = none := h
    show (stepG x ts).bind (runG (p ++ r)) = none
    cases e : stepG x ts with
    | none => rfl
    | some us => rw [e] at h; exact ih h
theorem stepG_len {s : St} {ts us : List Int} (h : stepG s ts = some us) : us.length ≤ ts.length + 1 := by
  unfold stepG at h
  split at h
  · cases h
  · split at h
    · cases h; exact Nat.le_succ _
    · split at h
      · cases h
      · cases h; rw [List.length_append]; exact Nat.le_refl _
    · split at h
      · cases h; exact Nat.le_trans List.length_erase_le (Nat.le_succ _)
      · cases h
theorem filter_any (ts : List Int) (n : Int) : decide (0 < ((ts.filter fun t => decide (n ≤ t)).length : Int)) = ts.any (fun t => decide (n ≤ t)) := by
  induction ts with
  | nil => rfl
  | cons t ts ih =>
    rw [List.filter_cons, List.any_cons]
    cases decide (n ≤ t) with
    | true => simp
    | false => rw [Bool.false_or, ← ih]; rfl
end
end Mine

namespace Mine
section
open PySem PySem.Calls PyProof.Rows
variable {P : Cx}
noncomputable def zeroV : V := .tup [.int 0, .int 0]
end
end Mine

namespace Mine
section
open PySem PySem.Calls PyProof.Rows
variable {P : Cx}
/- 0 workers, 1 many, 2 shop, 3 row, 4 turn, 5 one -/
noncomputable def shop0 (ws : List Wk) : Shop := ⟨ws, 0, List.replicate ws.length ⟨0, 0⟩⟩
theorem shop0_ok {ws : List Wk} (ok : ∀ w ∈ ws, OkWk w) (hr : (ws.map (·.rank)).Nodup) (hl : 1 ≤ ws.length ∧ ws.length ≤ 8) : OkShop (shop0 ws) := by
  have z : ∀ (i : Nat) s, (shop0 ws).sps[i]? = some s → s = ⟨0, 0⟩ := fun i s e => (List.mem_replicate.mp (List.mem_of_getElem? e)).2
  refine ⟨ok, hr, hl, List.length_replicate .., Int.le_refl _, fun i w s e1 e2 => ?_, fun i j w s w' s' zz e2 zz zz zz t ht => ?_⟩
  · rw [z i s e2]; exact (ok w (List.mem_of_getElem? e1)).zero _
  · rw [z i s e2] at ht
    have ht : t ∈ toolsAt w.plan 0 := ht
    rw [toolsAt_zero] at ht; cases ht
theorem sps0 (ws : List Wk) : List.replicate ws.length zeroV = (shop0 ws).sps.map Sp.v := by
  show _ = (List.replicate ws.length (⟨0, 0⟩ : Sp)).map Sp.v
  rw [List.map_replicate]; rfl
structure RunAt (H0 H' : AHeap) (b s : Addr) (us : List V) (sh : Shop) : Prop where
  ext : Ext H0 H'
  nb : H0 b = none
  ns : H0 s = none
  bs : b ≠ s
  hb : H' b = some (.list us)
  wk : WksAt H' us sh.ws
  own : Own1 H0 (adrs us)
  ne : ∀ x ∈ adrs us, x ≠ b ∧ x ≠ s
  hs : H' s = some (.list (sh.sps.map Sp.v))
end
end Mine

namespace Mine
section
open PySem PySem.Calls PyProof.Rows
variable {P : Cx}
noncomputable def f_law_whole : FnI := ⟨"_law_whole", ["_law_found"], (.cons (.ret (.and (.op1 (.isI .int) (.var 0)) (.not (.op1 (.isI .bool) (.var 0))))) .nil)⟩
noncomputable def f_law_plan_good : FnI := ⟨"_law_plan_good", ["_law_plan_here"], (.cons (.ite (.or (.not (.op1 (.isI .list) (.var 0))) (.op2 .notIn (.op1 .len (.var 0)) (.op2 .range2 (.int 1) (.int 41)))) (.cons (.ret (.bool false)) .nil) .nil) (.cons (.asg 1 (.lst .nil)) (.cons (.for 2 (.var 0) (.cons (.ite (.or (.not (.op1 (.isI .tuple) (.var 2))) (.or (.op2 .ne (.op1 .len (.var 2)) (.int 2)) (.or (.not (.op1 (.isI .str) (.op2 .item (.var 2) (.int 0)))) (.not (.call "_law_whole" (.cons (.op2 .item (.var 2) (.int 1)) .nil)))))) (.cons (.ret (.bool false)) .nil) .nil) (.cons (.ite (.and (.op2 .eq (.op2 .item (.var 2) (.int 0)) (.str "work")) (.op2 .inn (.op2 .item (.var 2) (.int 1)) (.op2 .range2 (.int 1) (.int 101)))) (.cons .cont .nil) .nil) (.cons (.ite (.and (.op2 .eq (.op2 .item (.var 2) (.int 0)) (.str "hold")) (.and (.op2 .inn (.op2 .item (.var 2) (.int 1)) (.op1 .range (.int 10))) (.op2 .eq (.comp 3 (.var 3) (.var 1) (.op2 .ge (.var 3) (.op2 .item (.var 2) (.int 1)))) (.lst .nil)))) (.cons (.ex (.meth .append (.var 1) (.op2 .item (.var 2) (.int 1)))) .nil) (.cons (.ite (.and (.op2 .eq (.op2 .item (.var 2) (.int 0)) (.str "free")) (.op2 .inn (.op2 .item (.var 2) (.int 1)) (.var 1))) (.cons (.ex (.meth .remove (.var 1) (.op2 .item (.var 2) (.int 1)))) .nil) (.cons (.ret (.bool false)) .nil)) .nil)) .nil)))) (.cons (.ret (.op2 .eq (.var 1) (.lst .nil))) .nil))))⟩
noncomputable def Sm (L : Nat) : Nat → PyData → Prop
  | 0, .tuple _ => False
  | 0, .list _ => False
  | n + 1, .tuple ds => ds.length ≤ L ∧ ∀ x ∈ ds, Sm L n x
  | n + 1, .list ds => ds.length ≤ L ∧ ∀ x ∈ ds, Sm L n x
  | _, _ => True
theorem RDs.len {H : AHeap} : ∀ {vs : List V} {ds : List PyData}, RDs H vs ds → vs.length = ds.length
  | _, _, .nil => rfl
  | _, _, .cons _ r => congrArg (· + 1) r.len
theorem RDs.get {H : AHeap} : ∀ {vs : List V} {ds : List PyData}, RDs H vs ds → ∀ {i : Nat} {v : V} {d : PyData}, vs[i]? = some v → ds[i]? = some d → RD H v d
  | _, _, .nil, i, _, _, e, _ => by cases i <;> cases e
  | _, _, .cons r rs, 0, _, _, e1, e2 => by cases e1; cases e2; exact r
  | _, _, .cons r rs, i + 1, _, _, e1, e2 => rs.get (i := i) e1 e2
theorem RDs.app {H : AHeap} : ∀ {vs us : List V} {ds es : List PyData}, RDs H vs ds → RDs H us es → RDs H (vs ++ us) (ds ++ es)
  | _, _, _, _, .nil, r => r
  | _, _, _, _, .cons r rs, r' => .cons r (rs.app r')
theorem RDs.take {H : AHeap} : ∀ {vs : List V} {ds : List PyData} (n : Nat), RDs H vs ds → RDs H (vs.take n) (ds.take n)
  | _, _, 0, _ => .nil
  | _, _, _ + 1, .nil => .nil
  | _, _, n + 1, .cons r rs => .cons r (rs.take n)
theorem RDs.drop {H : AHeap} : ∀ {vs : List V} {ds : List PyData} (n : Nat), RDs H vs ds → RDs H (vs.drop n) (ds.drop n)
  | _, _, 0, r => r
  | _, _, _ + 1, .nil => .nil
  | _, _, n + 1, .cons _ rs => rs.drop n
theorem RD.mono {H H' : AHeap} (E : Ext H H') {v : V} {d : PyData} (r : RD H v d) : RD H' v d :=
  RD.rec (motive_1 := fun v d zz => RD H' v d) (motive_2 := fun vs ds zz => RDs H' vs ds) .none .bool .int .str (fun zz h => .tup h) (fun ha zz h => .lst (E _ _ ha) h) .nil (fun zz zz h1 h2 => .cons h1 h2) r
theorem RDs.mono {H H' : AHeap} (E : Ext H H') {vs : List V} {ds : List PyData} (r : RDs H vs ds) : RDs H' vs ds :=
  RDs.rec (motive_1 := fun v d zz => RD H' v d) (motive_2 := fun vs ds zz => RDs H' vs ds) .none .bool .int .str (fun zz h => .tup h) (fun ha zz h => .lst (E _ _ ha) h) .nil (fun zz zz h1 h2 => .cons h1 h2) r
theorem al_rd {H : AHeap} : ∀ {n : Nat} {u v : V} {d : PyData}, Sm 50000 n d → RD H u d → RD H v d → Al H n u v := by
  intro n
  induction n with
  | zero =>
    intro u v d s r r'
    cases r with
    | none => cases r'; exact .none
    | bool b => cases r'; exact .bool b
    | int i => cases r'; exact .int i
    | str x => cases r'; exact .str x
    | tup _ => exact s.elim
    | lst _ _ => exact s.elim
  | succ n ih =>
    intro u v d s r r'
    cases r with
    | none => cases r'; exact .none
    | bool b => cases r'; exact .bool b
    | int i => cases r'; exact .int i
    | str x => cases r'; exact .str x
    | tup rs =>
      cases r' with
      | tup rs' =>
        refine .tup (by rw [rs.len, rs'.len]) (by rw [rs.len]; exact s.1) fun i x y e1 e2 => ?_
        have hi := (List.getElem?_eq_some_iff.mp e1).1
        rw [rs.len] at hi
        exact ih (s.2 _ (List.getElem_mem hi)) (rs.get e1 (List.getElem?_eq_getElem hi)) (rs'.get e2 (List.getElem?_eq_getElem hi))
    | lst ha rs =>
      cases r' with
      | lst ha' rs' =>
        refine .lst ha ha' (by rw [rs.len, rs'.len]) (by rw [rs.len]; exact s.1) fun i x y e1 e2 => ?_
        have hi := (List.getElem?_eq_some_iff.mp e1).1
        rw [rs.len] at hi
        exact ih (s.2 _ (List.getElem_mem hi)) (rs.get e1 (List.getElem?_eq_getElem hi)) (rs'.get e2 (List.getElem?_eq_getElem hi))
theorem rd_tup {H : AHeap} {v : V} {D : PyData} (r : RD H v D) : (isTy H .tuple v false ∧ ∀ es, D ≠ .tuple es) ∨ ∃ us es, v = .tup us ∧ D = .tuple es ∧ RDs H us es := by
  cases r with
  | tup rs => exact .inr ⟨_, _, rfl, rfl, rs⟩
  | lst ha _ => exact .inl ⟨⟨⟨_, ha⟩, rfl⟩, fun zz e => by cases e⟩
  | _ => exact .inl ⟨rfl, fun zz e => by cases e⟩
theorem rd_str {H : AHeap} {v : V} {D : PyData} (r : RD H v D) : (isTy H .str v false ∧ ∀ x, D ≠ .str x) ∨ ∃ x, v = .str x ∧ D = .str x := by
  cases r with
  | str x => exact .inr ⟨x, rfl, rfl⟩
  | lst ha _ => exact .inl ⟨⟨⟨_, ha⟩, rfl⟩, fun zz e => by cases e⟩
  | _ => exact .inl ⟨rfl, fun zz e => by cases e⟩
theorem rd_int {H : AHeap} {v : V} {D : PyData} (r : RD H v D) : (∀ i, D ≠ .int i) ∨ ∃ i, v = .int i ∧ D = .int i := by
  cases r with
  | int i => exact .inr ⟨i, rfl, rfl⟩
  | _ => exact .inl fun zz e => by cases e
theorem rd_lst {H : AHeap} {v : V} {D : PyData} (r : RD H v D) : (isTy H .list v false ∧ ∀ es, D ≠ .list es) ∨ ∃ a us es, v = .lst a ∧ D = .list es ∧ H a = some (.list us) ∧ RDs H us es := by
  cases r with
  | lst ha rs => exact .inr ⟨_, _, _, rfl, rfl, ha, rs⟩
  | _ => exact .inl ⟨rfl, fun zz e => by cases e⟩
theorem rds_two {H : AHeap} {us : List V} {x y : PyData} (r : RDs H us [x, y]) : ∃ u v, us = [u, v] ∧ RD H u x ∧ RD H v y := by
  cases r with
  | cons r1 r => cases r with
    | cons r2 r => cases r; exact ⟨_, _, rfl, r1, r2⟩
theorem rds_three {H : AHeap} {us : List V} {x y z : PyData} (r : RDs H us [x, y, z]) : ∃ u v w, us = [u, v, w] ∧ RD H u x ∧ RD H v y ∧ RD H w z := by
  cases r with
  | cons r1 r => cases r with
    | cons r2 r => cases r with
      | cons r3 r => cases r; exact ⟨_, _, _, rfl, r1, r2, r3⟩
noncomputable def wholeD (lo hi : Int) : PyData → Bool
  | .int i => decide (lo ≤ i) && decide (i ≤ hi)
  | _ => false
noncomputable def isIntD : PyData → Bool
  | .int _ => true
  | _ => false
theorem whole_any (h : Has P f_is_whole) {d : Nat} {Q : V → AHeap → Prop} {X : Nat → AHeap → Prop} {H : AHeap} {v : V} {D : PyData} {lo hi : Int} (r : RD H v D) (q : Q (.bool (wholeD lo hi D)) H) : Call P d "is_whole" [v, .int lo, .int hi] Q X H := by
  cases r with
  | int i => exact whole_all h q
  | bool b => exact h rfl ⟨true, rfl, fun zz => ⟨true, rfl, nc, fun zz => q⟩, nc'⟩
  | none => exact h rfl ⟨false, rfl, nc, fun zz => q⟩
  | str x => exact h rfl ⟨false, rfl, nc, fun zz => q⟩
  | tup rs => exact h rfl ⟨false, rfl, nc, fun zz => q⟩
  | lst ha rs => exact h rfl ⟨false, ⟨⟨_, ha⟩, rfl⟩, nc, fun zz => q⟩
theorem law_whole_any (h : Has P f_law_whole) {d : Nat} {Q : V → AHeap → Prop} {X : Nat → AHeap → Prop} {H : AHeap} {v : V} {D : PyData} (r : RD H v D) (q : Q (.bool (isIntD D)) H) : Call P d "_law_whole" [v] Q X H := by
  cases r with
  | int i => exact h rfl ⟨true, rfl, fun zz => ⟨false, rfl, q⟩, nc'⟩
  | bool b => exact h rfl ⟨true, rfl, fun zz => ⟨true, rfl, q⟩, nc'⟩
  | none => exact h rfl ⟨false, rfl, nc, fun zz => q⟩
  | str x => exact h rfl ⟨false, rfl, nc, fun zz => q⟩
  | tup rs => exact h rfl ⟨false, rfl, nc, fun zz => q⟩
  | lst ha rs => exact h rfl ⟨false, ⟨⟨_, ha⟩, rfl⟩, nc, fun zz => q⟩
noncomputable def kdOf (x : Str) : Option Kd := if x == Str.ofString "work" then some .work else if Str.ofString "hold" == x then some .hold else if Str.ofString "free" == x then some .free else none
noncomputable def stD : PyData → Option St
  | .tuple [.str x, .int n] => (kdOf x).map fun k => ⟨k, n⟩
  | _ => none
noncomputable def isStepD (D : PyData) : Bool := match stD D with
  | some s => stepB s
  | none => false
theorem kdOf_nm {x : Str} {k : Kd} (h : kdOf x = some k) : x = Str.ofString k.nm := by
  unfold kdOf at h
  split at h
  · rename_i c; cases h; exact eq_of_beq c
  · split at h
    · rename_i c; cases h; exact (eq_of_beq c).symm
    · split at h
      · rename_i c; cases h; exact (eq_of_beq c).symm
      · cases h
theorem stD_some {D : PyData} {s : St} (h : stD D = some s) : D = .tuple [.str (Str.ofString s.k.nm), .int s.n] := by
  unfold stD at h
  split at h
  · obtain ⟨k, hk, rfl⟩ := Option.map_eq_some_iff.mp h
    rw [kdOf_nm hk]
  · cases h
theorem stD_rd {H : AHeap} {v : V} {D : PyData} {s : St} (h : stD D = some s) (r : RD H v D) : v = s.v := by
  rw [stD_some h] at r
  cases r with
  | tup rs =>
    cases rs with
    | cons r1 rs => cases rs with
      | cons r2 rs => cases rs; cases r1; cases r2; rfl
theorem isStep_pair (x : Str) (y : PyData) : isStepD (.tuple [.str x, y]) = if x == Str.ofString "work" then wholeD 1 100 y else ((Str.ofString "hold" == x) || ((Str.ofString "free" == x) || false)) && wholeD 0 9 y := by
  cases y with
  | int n =>
    show (match (kdOf x).map (fun k => (⟨k, n⟩ : St)) with | some s => stepB s | none => false) = _
    unfold kdOf
    cases x == Str.ofString "work" with
    | true => rfl
    | false =>
      cases Str.ofString "hold" == x with
      | true => rfl
      | false => cases Str.ofString "free" == x <;> rfl
  | _ =>
    show false = _
    split
    · rfl
    · exact (Bool.and_false _).symm
theorem stD_not {D : PyData} (h : ∀ es, D ≠ .tuple es) : stD D = none := by
  cases e : stD D with
  | none => rfl
  | some s => exact absurd (stD_some e) (h _)
theorem stD_len {ds : List PyData} (h : ds.length ≠ 2) : stD (.tuple ds) = none := by
  cases es : stD (.tuple ds) with
  | none => rfl
  | some s => have := stD_some es; injection this with this; rw [this] at h; exact absurd rfl h
theorem stD_nstr {x y : PyData} (h : ∀ z, x ≠ .str z) : stD (.tuple [x, y]) = none := by
  cases es : stD (.tuple [x, y]) with
  | none => rfl
  | some s => have := stD_some es; injection this with this; injection this with this _; exact absurd this (h _)
theorem stD_nint {x y : PyData} (h : ∀ z, y ≠ .int z) : stD (.tuple [x, y]) = none := by
  cases es : stD (.tuple [x, y]) with
  | none => rfl
  | some s => have := stD_some es; injection this with this; injection this with _ this; injection this with this _; exact absurd this (h _)
theorem isStep_none {D : PyData} (h : stD D = none) : isStepD D = false := by unfold isStepD; rw [h]
theorem is_step_any (h : Has P f_is_step) (hw : Has P f_is_whole) {d : Nat} {Q : V → AHeap → Prop} {X : Nat → AHeap → Prop} {H : AHeap} {v : V} {D : PyData} {n : Nat} (s : Sm 50000 n D) (r : RD H v D) (q : Q (.bool (isStepD D)) H) : Call P (d + 1) "is_step" [v] Q X H := by
  rcases rd_tup r with ⟨hf, hn⟩ | ⟨us, ds, rfl, rfl, rs⟩
  · rw [isStep_none (stD_not hn)] at q
    exact h rfl ⟨false, hf, fun zz => ⟨fun zz => q, nc'⟩, nc'⟩
  · have hl := rs.len
    by_cases c2 : ds.length = 2
    · match ds, c2 with
      | [x, y], _ =>
        obtain ⟨u, v, rfl, r1, r2⟩ := rds_two rs
        rcases rd_str r1 with ⟨hf, hn⟩ | ⟨x, rfl, rfl⟩
        · rw [isStep_none (stD_nstr hn)] at q
          exact h rfl ⟨true, rfl, nc, fun zz => ⟨lim2, _, eq_int _ _, nc, fun zz => ⟨_, _, rfl, rfl, lim2, false, hf, fun zz => q, nc'⟩⟩⟩
        · rw [isStep_pair] at q
          refine h rfl ⟨true, rfl, nc, fun zz => ⟨lim2, _, eq_int _ _, nc, fun zz => ⟨_, _, rfl, rfl, lim2, true, rfl, nc, fun zz => nil_intro ⟨_, _, rfl, rfl, lim2, _, .inl rfl, fun c => ⟨_, _, rfl, rfl, lim2, whole_any hw r2 ?_⟩, fun c => nil_intro ⟨_, _, rfl, rfl, lim2, lim2, _, rfl, fun c' => ⟨_, _, rfl, rfl, lim2, whole_any hw r2 ?_⟩, fun c' => ?_⟩⟩⟩⟩⟩
          · rw [if_pos c] at q; exact q
          · rw [if_neg (by rw [c]; exact Bool.false_ne_true), show ((Str.ofString "hold" == x) || ((Str.ofString "free" == x) || false)) = true from c', Bool.true_and] at q; exact q
          · rw [if_neg (by rw [c]; exact Bool.false_ne_true), show ((Str.ofString "hold" == x) || ((Str.ofString "free" == x) || false)) = false from c', Bool.false_and] at q; exact q
    · rw [isStep_none (stD_len c2)] at q
      have hlm : us.length ≤ Lim := by
        cases n with
        | zero => exact s.elim
        | succ n => rw [hl]; exact Nat.le_trans s.1 (by decide)
      refine h rfl ⟨true, rfl, nc, fun zz => ⟨hlm, _, eq_int _ _, fun c => ⟨fun zz => q, nc'⟩, fun c => ?_⟩⟩
      have c : decide ((us.length : Int) = 2) = true := by simpa using c
      have := of_decide_eq_true c
      exact absurd (by omega) c2
noncomputable def runD : List PyData → List Int → Option (List Int)
  | [], ts => some ts
  | x :: xs, ts => match stD x with
    | some s => (stepG s ts).bind (runD xs)
    | none => none
noncomputable def stepD (x : PyData) (ts : List Int) : Option (List Int) := match stD x with
  | some s => stepG s ts
  | none => none
theorem runD_cons (x : PyData) (xs : List PyData) (ts : List Int) : runD (x :: xs) ts = (stepD x ts).bind (runD xs) := by
  unfold stepD
  rw [runD]
  cases stD x <;> rfl
theorem runD_app (p : List PyData) (s : PyData) : ∀ ts, runD (p ++ [s]) ts = (runD p ts).bind (stepD s) := by
  induction p with
  | nil =>
    intro ts
    rw [List.nil_append, runD_cons]
    show _ = stepD s ts
    cases stepD s ts <;> rfl
  | cons x p ih =>
    intro ts
    rw [List.cons_append, runD_cons, runD_cons]
    cases stepD x ts with
    | none => rfl
    | some us => exact ih us
theorem runD_none {p r : List PyData} {ts : List Int} (h : runD p ts = none) : runD (p ++ r) ts = none := by
  induction p generalizing ts with
  | nil => cases h
  | cons x p ih =>
    rw [runD_cons] at h
    rw [List.cons_append, runD_cons]
    cases e : stepD x ts with
    | none => rfl
    | some us => rw [e] at h; exact ih h
theorem stepD_len {x : PyData} {ts us : List Int} (h : stepD x ts = some us) : us.length ≤ ts.length + 1 := by
  unfold stepD at h
  cases e : stD x with
  | none => rw [e] at h; cases h
  | some s => rw [e] at h; exact stepG_len h
noncomputable def planD : PyData → Bool
  | .list ds => decide (1 ≤ ds.length) && decide (ds.length ≤ 40) && (match runD ds [] with | some ts => ts.isEmpty | none => false)
  | _ => false
end
end Mine

namespace Mine
section
open PySem PySem.Calls PyProof.Rows
variable {P : Cx}
theorem planD_list (ds : List PyData) : planD (.list ds) = (decide (1 ≤ ds.length) && decide (ds.length ≤ 40) && (match runD ds [] with | some ts => ts.isEmpty | none => false)) := rfl
theorem not_list {D : PyData} (h : ∀ ds, D ≠ .list ds) : planD D = false := by
  cases D with
  | list ds => exact absurd rfl (h ds)
  | _ => rfl
theorem step_cases {H : AHeap} {v : V} {D : PyData} (r : RD H v D) (c : isStepD D = true) : ∃ s, stD D = some s ∧ stepB s = true ∧ v = s.v := by
  unfold isStepD at c
  cases e : stD D with
  | none => rw [e] at c; cases c
  | some s => rw [e] at c; exact ⟨s, rfl, c, stD_rd e r⟩
theorem isStep_no {D : PyData} (c : isStepD D = false) (ts : List Int) : stepD D ts = none := by
  unfold isStepD at c
  unfold stepD
  cases e : stD D with
  | none => rfl
  | some s =>
    rw [e] at c
    have c : stepB s = false := c
    show stepG s ts = none
    unfold stepG; rw [c]; rfl
theorem filt_succ {ts : List Int} {m : Nat} {y n : Int} (hy : ts[m]? = some y) : (ts.take (m + 1)).filter (fun t => decide (n ≤ t)) = (ts.take m).filter (fun t => decide (n ≤ t)) ++ (if decide (n ≤ y) then [y] else []) := by
  rw [List.take_add_one, hy, Option.toList_some, List.filter_append]
  simp only [List.filter_cons, List.filter_nil]
theorem is_plan_any (h : Has P f_is_plan) (hs : Has P f_is_step) (hw : Has P f_is_whole) {d : Nat} {Q : V → AHeap → Prop} {X : Nat → AHeap → Prop} {H : AHeap} {v : V} {D : PyData} {n : Nat} (sm : Sm 50000 n D) (r : RD H v D)
    (q : ∀ H', Ext H H' → Q (.bool (planD D)) H') : Call P (d + 2) "is_plan" [v] Q X H := by
  have no : planD D = false → Q (.bool false) H := fun e => by have := q H (Ext.refl H); rw [e] at this; exact this
  rcases rd_lst r with ⟨hf, hn⟩ | ⟨a, vs, ds, rfl, rfl, hA, rs⟩
  · exact h rfl ⟨false, hf, fun zz => ⟨fun zz => no (not_list hn), nc'⟩, nc'⟩
  · have lenE := rs.len
    refine h rfl ⟨true, ⟨⟨_, hA⟩, rfl⟩, nc, fun zz => ⟨_, hA, fun c1 => ⟨fun c2 => no ?_, fun c2 => nil_intro ?_⟩, fun c1 => ⟨fun zz => no ?_, nc'⟩⟩⟩
    · have c2 : ¬ (vs.length : Int) ≤ 40 := by simpa using c2
      rw [planD_list, decide_eq_false (by omega : ¬ ds.length ≤ 40), Bool.and_false]; rfl
    · have c1 : (1 : Int) ≤ vs.length := of_decide_eq_true c1
      have c2 : (vs.length : Int) ≤ 40 := by simpa using c2
      have pB : planD (.list ds) = (match runD ds [] with | some ts => ts.isEmpty | none => false) := by
        rw [planD_list, decide_eq_true (by omega : 1 ≤ ds.length), decide_eq_true (by omega : ds.length ≤ 40)]; rfl
      refine ⟨Nat.zero_le _, fun b hb => gen hb fun H1 E1 gB => ⟨_, E1 _ _ hA, Nat.succ_pos _, ?_⟩⟩
      refine forLoop_inv (fun k ρ H' => (ρ 0 = some (.lst a) ∧ ρ 1 = some (.lst b)) ∧ Ext H H' ∧ ∃ ts, runD (ds.take k) [] = some ts ∧ ts.length ≤ k ∧ k ≤ ds.length ∧ H' b = some (intsC ts)) ?_ ?_ ?_ ⟨⟨rfl, rfl⟩, E1, [], rfl, Nat.le_refl _, Nat.zero_le _, gB⟩
      · rintro k ρ H' ⟨_, E, _⟩
        exact stL (E _ _ hA)
      · rintro k x ρ H' K hx ⟨⟨r0, r1⟩, E, ts, hr, htl, hkl, hB⟩ kn kc kr
        have hk : k < ds.length := by rw [← lenE]; exact (List.getElem?_eq_some_iff.mp hx).1
        have hdk : ds[k]? = some ds[k] := List.getElem?_eq_getElem hk
        have rx := (rs.get hx hdk).mono E
        have smx : ∃ m, Sm 50000 m ds[k] := by
          cases n with
          | zero => exact sm.elim
          | succ n => exact ⟨n, sm.2 _ (List.getElem_mem hk)⟩
        obtain ⟨m, smx⟩ := smx
        have etake : runD (ds.take (k + 1)) [] = stepD ds[k] ts := by
          rw [List.take_add_one, hdk, Option.toList_some, runD_app, hr]; rfl
        have bad : ∀ {H2}, Ext H' H2 → stepD ds[k] ts = none → K (.ret (.bool false)) (ρ.upd 2 x) H2 := fun E2 e => kr _ _ _ (by
          have e2 : runD ds [] = none := by
            rw [← List.take_append_drop (k + 1) ds]; exact runD_none (etake.trans e)
          have := q _ (E.trans E2)
          rw [pB, e2] at this; exact this)
        have good : ∀ {us ρ' H2}, stepD ds[k] ts = some us → (ρ' 0 = some (.lst a) ∧ ρ' 1 = some (.lst b)) → Ext H H2 → H2 b = some (intsC us) → K .next ρ' H2 := fun {us ρ' H2} e r E2 hB2 => kn _ _ ⟨r, E2, us, etake.trans e, Nat.le_trans (stepD_len e) (Nat.succ_le_succ htl), hk, hB2⟩
        have tl : ts.length ≤ 100 := by omega
        rw [← ro_cons r0 (ro_eq r1)] at bad ⊢
        refine is_step_any hs hw smx rx ⟨fun c => ?_, fun c => nil_intro ?_⟩
        · exact bad (Ext.refl _) (isStep_no (by simpa using c) ts)
        · obtain ⟨s, es, c, rfl⟩ := step_cases rx (by simpa using c)
          have eG : stepD ds[k] ts = (match s.k with
              | .work => some ts
              | .hold => if ts.any (fun t => decide (s.n ≤ t)) then none else some (ts ++ [s.n])
              | .free => if inn s.n ts then some (ts.erase s.n) else none) := by
            unfold stepD; rw [es]
            show stepG s ts = _
            unfold stepG; rw [c]; rfl
          refine ⟨_, _, rfl, rfl, lim2, _, eq_kd s.k .hold, fun ch => ?_, fun ch => nil_intro ?_⟩
          · have ch : s.k = .hold := beq_iff_eq.mp ch
            rw [ch] at eG
            refine ⟨_, hB, Nat.succ_pos _, ?_⟩
            refine compLoop_inv (fun m acc H2 => H2 = H' ∧ acc = ((ts.take m).filter fun t => decide (s.n ≤ t)).map V.int) ?_ ?_ ?_ ⟨rfl, rfl⟩
            · rintro m acc H2 ⟨rfl, rfl⟩
              exact ⟨stL hB, lmap1 (Nat.le_trans (List.length_filter_le _ _) (Nat.le_trans (List.length_take_le' _ _) tl))⟩
            · rintro m x acc H2 R S hx ⟨rfl, rfl⟩ kt kf
              rw [List.getElem?_map] at hx
              obtain ⟨y, hy, rfl⟩ := Option.map_eq_some_iff.mp hx
              refine ⟨_, _, rfl, rfl, lim2, fun c => ⟨stL hB, kt _ _ ⟨rfl, ?_⟩⟩, fun c => kf _ ⟨rfl, ?_⟩⟩
              · rw [filt_succ hy, if_pos c, List.map_append]; rfl
              · rw [filt_succ hy, c]; simp
            · rintro acc H2 ⟨rfl, rfl⟩
              rw [List.length_map, List.take_length]
              refine ⟨lmap (Nat.le_trans (List.length_filter_le _ _) tl), fun e he => gen he fun H3 E3 g3 => ⟨_, g3, fun cc => ?_, fun cc => nil_intro ?_⟩⟩
              · refine bad E3 ?_
                rw [List.length_map, filter_any] at cc
                rw [eG, if_pos cc]
              · rw [List.length_map, filter_any] at cc
                rw [if_neg (by rw [cc]; exact Bool.false_ne_true)] at eG
                have hB3 := E3 _ _ hB
                refine ⟨⟨_, hB3⟩, _, _, rfl, rfl, lim2, _, hB3, lmap1 tl, nil_intro ⟨_, _, rfl, rfl, lim2, _, eq_kd s.k .free, fun cf => ?_, fun zz => nil_intro (nil_intro (good eG ⟨rfl, rfl⟩ ((E.trans E3).upd hb) ?_))⟩⟩
                · rw [ch] at cf; exact nc cf
                · rw [upd_self, ints_app]
          · refine ⟨_, _, rfl, rfl, lim2, _, eq_kd s.k .free, fun cf => ?_, fun cf => nil_intro ?_⟩
            · have cf : s.k = .free := beq_iff_eq.mp cf
              rw [cf] at eG
              refine ⟨_, _, rfl, rfl, lim2, _, _, hB, inF_ints, fun cn => ?_, fun cn => nil_intro ?_⟩
              · refine bad (Ext.refl _) ?_
                have cn : inn s.n ts = false := by simpa using cn
                rw [eG, cn]; rfl
              · have cn : inn s.n ts = true := by simpa using cn
                rw [cn] at eG
                exact ⟨⟨_, hB⟩, _, _, rfl, rfl, lim2, _, hB, inn_iff.mp cn, nil_intro (nil_intro (good eG ⟨rfl, rfl⟩ (E.upd hb) upd_self))⟩
            · have cw : s.k = .work := by
                cases e : s.k with
                | work => rfl
                | hold => rw [e] at ch; exact nc' ch
                | free => rw [e] at cf; exact nc' cf
              rw [cw] at eG
              exact nil_intro (good eG ⟨rfl, rfl⟩ E hB)
      · rintro ρ H' ⟨⟨r0, r1⟩, E, ts, hr, htl, hkl, hB⟩
        rw [lenE, List.take_length] at hr
        rw [← ro_eq r1]
        refine ⟨_, hB, _, eq_int _ _, ?_⟩
        have := q H' E
        rw [pB, hr] at this
        cases ts with
        | nil => exact this
        | cons t ts =>
          have e : decide ((((t :: ts).map V.int).length : Int) = 0) = false := decide_eq_false (by rw [List.length_map, List.length_cons]; omega)
          rw [e]; exact this
    · have c1 : ¬ (1 : Int) ≤ vs.length := of_decide_eq_false c1
      rw [planD_list, decide_eq_false (by omega : ¬ 1 ≤ ds.length), Bool.false_and]; rfl
theorem stepD_low {x : PyData} {ts us : List Int} (h : stepD x ts = some us) (hl : ∀ t ∈ ts, 0 ≤ t ∧ t ≤ 9) : ∀ t ∈ us, 0 ≤ t ∧ t ≤ 9 := by
  unfold stepD at h
  cases e : stD x with
  | none => rw [e] at h; cases h
  | some s =>
    rw [e] at h
    have h : stepG s ts = some us := h
    unfold stepG at h
    cases c : stepB s with
    | false => rw [c] at h; cases h
    | true =>
      rw [c] at h
      cases k : s.k with
      | work => simp only [k] at h; cases h; exact hl
      | hold =>
        simp only [k] at h
        have h : (if ts.any (fun t => decide (s.n ≤ t)) then none else some (ts ++ [s.n])) = some us := h
        split at h
        · cases h
        · cases h
          intro t ht
          rcases List.mem_append.mp ht with q | q
          · exact hl t q
          · rw [List.mem_singleton.mp q]
            unfold stepB at c
            rw [k] at c
            have c : (decide (0 ≤ s.n) && decide (s.n ≤ 9)) = true := c
            exact ⟨of_decide_eq_true (andB c).1, of_decide_eq_true (andB c).2⟩
      | free =>
        simp only [k] at h
        have h : (if inn s.n ts then some (ts.erase s.n) else none) = some us := h
        split at h
        · cases h
          exact fun t ht => hl t (List.mem_of_mem_erase ht)
        · cases h
theorem notInt {D : PyData} (h : ∀ i, D ≠ .int i) : isIntD D = false := by
  cases D with
  | int i => exact absurd rfl (h i)
  | _ => rfl
theorem plan_good_any (h : Has P f_law_plan_good) (hw : Has P f_law_whole) {d : Nat} {Q : V → AHeap → Prop} {X : Nat → AHeap → Prop} {H : AHeap} {v : V} {D : PyData} {n : Nat} (sm : Sm 50000 n D) (r : RD H v D)
    (q : ∀ H', Ext H H' → Q (.bool (planD D)) H') : Call P (d + 2) "_law_plan_good" [v] Q X H := by
  have no : planD D = false → Q (.bool false) H := fun e => by have := q H (Ext.refl H); rw [e] at this; exact this
  rcases rd_lst r with ⟨hf, hn⟩ | ⟨a, vs, ds, rfl, rfl, hA, rs⟩
  · exact h rfl ⟨false, hf, fun zz => ⟨fun zz => no (not_list hn), nc'⟩, nc'⟩
  · have lenE := rs.len
    refine h rfl ⟨true, ⟨⟨_, hA⟩, rfl⟩, nc, fun zz => ⟨_, hA, ⟨fun c1 => no ?_, fun c1 => nil_intro ?_⟩⟩⟩
    · have c1 : (decide ((1 : Int) ≤ vs.length) && decide ((vs.length : Int) < 41)) = false := notB c1
      rw [planD_list]
      by_cases g1 : 1 ≤ ds.length
      · have g2 : ¬ ds.length ≤ 40 := fun g2 => by
          rw [decide_eq_true (by omega : (1 : Int) ≤ vs.length), decide_eq_true (by omega : (vs.length : Int) < 41)] at c1; cases c1
        rw [decide_eq_false g2, Bool.and_false]; rfl
      · rw [decide_eq_false g1]; rfl
    · have c1 : (decide ((1 : Int) ≤ vs.length) && decide ((vs.length : Int) < 41)) = true := by simpa using c1
      have g1 := of_decide_eq_true (andB c1).1
      have g2 := of_decide_eq_true (andB c1).2
      have pB : planD (.list ds) = (match runD ds [] with | some ts => ts.isEmpty | none => false) := by
        rw [planD_list, decide_eq_true (by omega : 1 ≤ ds.length), decide_eq_true (by omega : ds.length ≤ 40)]; rfl
      refine ⟨Nat.zero_le _, fun b hb => gen hb fun H1 E1 gB => ⟨_, E1 _ _ hA, Nat.succ_pos _, ?_⟩⟩
      refine forLoop_inv (fun k ρ H' => (ρ 0 = some (.lst a) ∧ ρ 1 = some (.lst b)) ∧ Ext H H' ∧ ∃ ts, runD (ds.take k) [] = some ts ∧ ts.length ≤ k ∧ k ≤ ds.length ∧ (∀ t ∈ ts, 0 ≤ t ∧ t ≤ 9) ∧ H' b = some (intsC ts)) ?_ ?_ ?_ ⟨⟨rfl, rfl⟩, E1, [], rfl, Nat.le_refl _, Nat.zero_le _, fun zz h => (nomatch h), gB⟩
      · rintro k ρ H' ⟨_, E, _⟩
        exact stL (E _ _ hA)
      · rintro k x ρ H' K hx ⟨⟨r0, r1⟩, E, ts, hr, htl, hkl, hlow, hB⟩ kn kc kr
        have hk : k < ds.length := by rw [← lenE]; exact (List.getElem?_eq_some_iff.mp hx).1
        have hdk : ds[k]? = some ds[k] := List.getElem?_eq_getElem hk
        have rx := (rs.get hx hdk).mono E
        have smx : ∃ m, Sm 50000 m ds[k] := by
          cases n with
          | zero => exact sm.elim
          | succ n => exact ⟨n, sm.2 _ (List.getElem_mem hk)⟩
        obtain ⟨m, smx⟩ := smx
        have etake : runD (ds.take (k + 1)) [] = stepD ds[k] ts := by
          rw [List.take_add_one, hdk, Option.toList_some, runD_app, hr]; rfl
        have bad : ∀ {H2 : AHeap} {ρ' : Ro}, Ext H' H2 → stepD ds[k] ts = none → K (.ret (.bool false)) ρ' H2 := fun E2 e => kr _ _ _ (by
          have e2 : runD ds [] = none := by
            rw [← List.take_append_drop (k + 1) ds]; exact runD_none (etake.trans e)
          have := q _ (E.trans E2)
          rw [pB, e2] at this; exact this)
        have inv : ∀ {us : List Int} {ρ' : Ro} {H2 : AHeap}, stepD ds[k] ts = some us → (ρ' 0 = some (.lst a) ∧ ρ' 1 = some (.lst b)) → Ext H H2 → H2 b = some (intsC us) → (ρ' 0 = some (.lst a) ∧ ρ' 1 = some (.lst b)) ∧ Ext H H2 ∧ ∃ ts, runD (ds.take (k + 1)) [] = some ts ∧ ts.length ≤ k + 1 ∧ k + 1 ≤ ds.length ∧ (∀ t ∈ ts, 0 ≤ t ∧ t ≤ 9) ∧ H2 b = some (intsC ts) := fun {us ρ' H2} e r E2 hB2 => ⟨r, E2, us, etake.trans e, Nat.le_trans (stepD_len e) (Nat.succ_le_succ htl), hk, stepD_low e hlow, hB2⟩
        have tl : ts.length ≤ 100 := by omega
        generalize ds[k] = D at rx smx etake bad inv
        rw [← ro_cons r0 (ro_eq r1)]
        have H0 := Ext.refl H'
        have bd : stD D = none → stepD D ts = none := fun e => by unfold stepD; rw [e]
        rcases rd_tup rx with ⟨hf, hn⟩ | ⟨us, es, rfl, rfl, rs'⟩
        · exact ⟨false, hf, fun zz => ⟨fun zz => bad H0 (bd (stD_not hn)), nc'⟩, nc'⟩
        · have hl' := rs'.len
          by_cases c2 : es.length = 2
          · match es, c2 with
            | [x, y], _ =>
              obtain ⟨u1, u2, rfl, q1, q2⟩ := rds_two rs'
              rcases rd_str q1 with ⟨hf, hn⟩ | ⟨z, rfl, rfl⟩
              · exact ⟨true, rfl, nc, fun zz => ⟨lim2, _, eq_int _ _, nc, fun zz => ⟨_, _, rfl, rfl, lim2, false, hf, fun zz => ⟨fun zz => bad H0 (bd (stD_nstr hn)), nc'⟩, nc'⟩⟩⟩
              · refine ⟨true, rfl, nc, fun zz => ⟨lim2, _, eq_int _ _, nc, fun zz => ⟨_, _, rfl, rfl, lim2, true, rfl, nc, fun zz => ⟨_, _, rfl, rfl, lim2, law_whole_any hw q2 ?_⟩⟩⟩⟩
                rcases rd_int q2 with hn | ⟨g, rfl, rfl⟩
                · rw [notInt hn]
                  exact ⟨fun zz => bad H0 (bd (stD_nint hn)), nc'⟩
                · refine ⟨nc, fun zz => nil_intro ?_⟩
                  have st : ∀ k : Kd, z = Str.ofString k.nm → stepD (.tuple [.str z, .int g]) ts = stepG ⟨k, g⟩ ts := fun k e => by
                    subst e
                    show (match (kdOf (Str.ofString k.nm)).map (fun k => (⟨k, g⟩ : St)) with | some s => stepG s ts | none => none) = _
                    have : kdOf (Str.ofString k.nm) = some k := by cases k <;> rfl
                    rw [this]; rfl
                  by_cases zw : z = Str.ofString "work"
                  · have es := st .work zw
                    subst zw
                    refine ⟨_, _, rfl, rfl, lim2, _, eq_kd .work .work, fun zz => ⟨_, _, rfl, rfl, lim2, fun c => ?_, fun c => nil_intro ⟨_, _, rfl, rfl, lim2, _, eq_kd .work .hold, nc, fun zz => ⟨nc, fun zz => ⟨_, _, rfl, rfl, lim2, _, eq_kd .work .free, nc, fun zz => ⟨nc, fun zz => bad H0 ?_⟩⟩⟩⟩⟩, nc'⟩
                    · have c : (decide (1 ≤ g) && decide (g < 101)) = true := c
                      have c1 := of_decide_eq_true (andB c).1
                      have c2 := of_decide_eq_true (andB c).2
                      refine kc _ _ (inv ?_ ⟨rfl, rfl⟩ E hB)
                      rw [es]
                      show (if !(decide (1 ≤ g) && decide (g ≤ 100)) then none else some ts) = _
                      rw [decide_eq_true c1, decide_eq_true (by omega : g ≤ 100)]; rfl
                    · have c : (decide (1 ≤ g) && decide (g < 101)) = false := c
                      rw [es]
                      show (if !(decide (1 ≤ g) && decide (g ≤ 100)) then none else some ts) = _
                      have : (decide (1 ≤ g) && decide (g ≤ 100)) = false := by
                        rw [show decide (g ≤ 100) = decide (g < 101) from decide_eq_decide.mpr (by omega)]; exact c
                      rw [this]; rfl
                  · by_cases zh : z = Str.ofString "hold"
                    · have es := st .hold zh
                      subst zh
                      have eG : stepG ⟨.hold, g⟩ ts = if !(decide (0 ≤ g) && decide (g ≤ 9)) then none else if ts.any (fun t => decide (g ≤ t)) then none else some (ts ++ [g]) := rfl
                      rw [eG] at es
                      have rest : ∀ {ρ' : Ro} {H2 : AHeap}, ρ' 2 = some (.tup [.str (Str.ofString "hold"), .int g]) → Ext H' H2 → stepD (.tuple [.str (Str.ofString "hold"), .int g]) ts = none → vSs P (d + 2) (fun c zz H => X c H) (.cons (.ite (.and (.op2 .eq (.op2 .item (.var 2) (.int 0)) (.str "free")) (.op2 .inn (.op2 .item (.var 2) (.int 1)) (.var 1))) (.cons (.ex (.meth .remove (.var 1) (.op2 .item (.var 2) (.int 1)))) .nil) (.cons (.ret (.bool false)) .nil)) .nil) K ρ' H2 := fun {ρ' H2} r2 E2 e => by
                        rw [← ro_eq r2]
                        exact ⟨_, _, rfl, rfl, lim2, _, eq_kd .hold .free, nc, fun zz => ⟨nc, fun zz => bad E2 e⟩⟩
                      refine ⟨_, _, rfl, rfl, lim2, _, eq_kd .hold .work, nc, fun zz => ⟨nc, fun zz => nil_intro ⟨_, _, rfl, rfl, lim2, _, eq_kd .hold .hold, fun zz => ⟨_, _, rfl, rfl, lim2, rgI (by decide) (by decide), fun c => ?_, fun c => ⟨nc, fun zz => rest rfl H0 ?_⟩⟩, nc'⟩⟩⟩
                      · have c : (decide (0 ≤ g) && decide (g < 10)) = true := c
                        have c1 := of_decide_eq_true (andB c).1
                        have c2 := of_decide_eq_true (andB c).2
                        rw [decide_eq_true c1, decide_eq_true (by omega : g ≤ 9)] at es
                        have es : stepD (.tuple [.str (Str.ofString "hold"), .int g]) ts = if ts.any (fun t => decide (g ≤ t)) then none else some (ts ++ [g]) := es
                        refine ⟨_, hB, Nat.succ_pos _, ?_⟩
                        refine compLoop_inv (fun m acc H2 => H2 = H' ∧ acc = ((ts.take m).filter fun t => decide (g ≤ t)).map V.int) ?_ ?_ ?_ ⟨rfl, rfl⟩
                        · rintro m acc H2 ⟨rfl, rfl⟩
                          exact ⟨stL hB, lmap1 (Nat.le_trans (List.length_filter_le _ _) (Nat.le_trans (List.length_take_le' _ _) tl))⟩
                        · rintro m x acc H2 R S hx ⟨rfl, rfl⟩ kt kf
                          rw [List.getElem?_map] at hx
                          obtain ⟨y, hy, rfl⟩ := Option.map_eq_some_iff.mp hx
                          refine ⟨_, _, rfl, rfl, lim2, fun c => ⟨stL hB, kt _ _ ⟨rfl, ?_⟩⟩, fun c => kf _ ⟨rfl, ?_⟩⟩
                          · rw [filt_succ hy, if_pos c, List.map_append]; rfl
                          · rw [filt_succ hy, c]; simp
                        · rintro acc H2 ⟨rfl, rfl⟩
                          rw [List.length_map, List.take_length]
                          have fe : decide ((ts.filter fun t => decide (g ≤ t)) = []) = !ts.any (fun t => decide (g ≤ t)) := by
                            rw [← filter_any]
                            cases ts.filter fun t => decide (g ≤ t) with
                            | nil => rfl
                            | cons t l => rw [decide_eq_false (by simp), decide_eq_true (by rw [List.length_cons]; omega)]; rfl
                          refine ⟨lmap (Nat.le_trans (List.length_filter_le _ _) tl), fun e he => gen he fun H3 E3 g3 => ⟨Nat.zero_le _, fun e4 he4 => gen he4 fun H4 E4 g4 => ⟨_, eq_nil (E4 _ _ g3) g4, fun cc => ?_, fun cc => rest rfl (E3.trans E4) ?_⟩⟩⟩
                          · rw [fe] at cc
                            have cc := notB cc
                            have hB4 := E4 _ _ (E3 _ _ hB)
                            refine ⟨⟨_, hB4⟩, _, _, rfl, rfl, lim2, _, hB4, lmap1 tl, nil_intro (nil_intro (kn _ _ (inv (us := ts ++ [g]) ?_ ⟨rfl, rfl⟩ (((E.trans E3).trans E4).upd hb) ?_)))⟩
                            · rw [es, cc]; rfl
                            · rw [upd_self, ints_app]
                          · rw [fe] at cc
                            have cc : ts.any (fun t => decide (g ≤ t)) = true := by simpa using cc
                            rw [es, cc]; rfl
                      · have c : (decide (0 ≤ g) && decide (g < 10)) = false := c
                        have : (decide (0 ≤ g) && decide (g ≤ 9)) = false := by
                          rw [show decide (g ≤ 9) = decide (g < 10) from decide_eq_decide.mpr (by omega)]; exact c
                        rw [es, this]; rfl
                    · by_cases zf : z = Str.ofString "free"
                      · have es := st .free zf
                        subst zf
                        have eG : stepG ⟨.free, g⟩ ts = if !(decide (0 ≤ g) && decide (g ≤ 9)) then none else if inn g ts then some (ts.erase g) else none := rfl
                        rw [eG] at es
                        refine ⟨_, _, rfl, rfl, lim2, _, eq_kd .free .work, nc, fun zz => ⟨nc, fun zz => nil_intro ⟨_, _, rfl, rfl, lim2, _, eq_kd .free .hold, nc, fun zz => ⟨nc, fun zz => ⟨_, _, rfl, rfl, lim2, _, eq_kd .free .free, fun zz => ⟨_, _, rfl, rfl, lim2, _, _, hB, inF_ints, fun c => ?_, fun c => bad H0 ?_⟩, nc'⟩⟩⟩⟩⟩
                        · have hm := inn_iff.mp c
                          have := hlow g hm
                          refine ⟨⟨_, hB⟩, _, _, rfl, rfl, lim2, _, hB, hm, nil_intro (nil_intro (nil_intro (kn _ _ (inv ?_ ⟨rfl, rfl⟩ (E.upd hb) upd_self))))⟩
                          rw [es, decide_eq_true this.1, decide_eq_true this.2, c]; rfl
                        · rw [es, c]; split <;> rfl
                      · have e0 : stepD (.tuple [.str z, .int g]) ts = none := by
                          show (match (kdOf z).map (fun k => (⟨k, g⟩ : St)) with | some s => stepG s ts | none => none) = _
                          have : kdOf z = none := by
                            unfold kdOf
                            rw [if_neg (fun c => zw (eq_of_beq c)), if_neg (fun c => zh (eq_of_beq c).symm), if_neg (fun c => zf (eq_of_beq c).symm)]
                          rw [this]; rfl
                        have ne : ∀ {s : Str}, z ≠ s → (z == s) = false := fun h => beq_eq_false_iff_ne.mpr h
                        refine ⟨_, _, rfl, rfl, lim2, false, .inl (congrArg some (ne zw)), nc, fun zz => ⟨nc, fun zz => nil_intro ⟨_, _, rfl, rfl, lim2, false, .inl (congrArg some (ne zh)), nc, fun zz => ⟨nc, fun zz => ⟨_, _, rfl, rfl, lim2, false, .inl (congrArg some (ne zf)), nc, fun zz => ⟨nc, fun zz => bad H0 e0⟩⟩⟩⟩⟩⟩
          · have e0 := bd (stD_len c2)
            have hlm : us.length ≤ Lim := by
              cases m with
              | zero => exact smx.elim
              | succ m => rw [hl']; exact Nat.le_trans smx.1 (by decide)
            refine ⟨true, rfl, nc, fun zz => ⟨hlm, _, eq_int _ _, fun zz => ⟨fun zz => bad H0 e0, nc'⟩, fun c => ?_⟩⟩
            have c : decide ((us.length : Int) = 2) = true := by simpa using c
            have := of_decide_eq_true c
            exact absurd (by omega) c2
      · rintro ρ H' ⟨⟨r0, r1⟩, E, ts, hr, htl, hkl, -, hB⟩
        rw [lenE, List.take_length] at hr
        rw [← ro_eq r1]
        have := q H' E
        rw [pB, hr] at this
        refine ⟨Nat.zero_le _, fun e he => gen he fun H2 E2 ge => ⟨_, eq_nil (E2 _ _ hB) ge, ?_⟩⟩
        have := q H2 (E.trans E2)
        rw [pB, hr] at this
        cases ts with
        | nil => exact this
        | cons t ts => exact this
end
end Mine

namespace Mine
section
open PySem PySem.Calls PyProof.Rows
variable {P : Cx}
noncomputable def f_law_due : FnI := ⟨"_law_due", ["_law_workers_here"], (.cons (.ite (.op2 .notIn (.op1 .len (.var 0)) (.op2 .range2 (.int 1) (.int 9))) (.cons (.ret (.str "TooMany")) .nil) .nil) (.cons (.asg 1 (.lst .nil)) (.cons (.for 2 (.var 0) (.cons (.ite (.or (.not (.op1 (.isI .tuple) (.var 2))) (.op2 .ne (.op1 .len (.var 2)) (.int 3))) (.cons (.ret (.str "BadWorker")) .nil) .nil) (.cons (.ite (.or (.not (.call "_law_whole" (.cons (.op2 .item (.var 2) (.int 0)) .nil))) (.or (.op2 .lt (.op2 .item (.var 2) (.int 0)) (.int 1)) (.or (.op2 .gt (.op2 .item (.var 2) (.int 0)) (.op2 .pow (.int 10) (.int 6))) (.op2 .inn (.op2 .item (.var 2) (.int 0)) (.var 1))))) (.cons (.ret (.str "BadRank")) .nil) .nil) (.cons (.ite (.or (.not (.call "_law_whole" (.cons (.op2 .item (.var 2) (.int 1)) .nil))) (.or (.op2 .lt (.op2 .item (.var 2) (.int 1)) (.int 0)) (.op2 .gt (.op2 .item (.var 2) (.int 1)) (.int 1000)))) (.cons (.ret (.str "BadStart")) .nil) .nil) (.cons (.ite (.not (.call "_law_plan_good" (.cons (.op2 .item (.var 2) (.int 2)) .nil))) (.cons (.ret (.str "BadPlan")) .nil) .nil) (.cons (.ex (.meth .append (.var 1) (.op2 .item (.var 2) (.int 0)))) .nil)))))) (.cons (.ret (.tup (.cons (.comp 3 (.tup (.cons (.op2 .item (.var 3) (.int 0)) (.cons (.op2 .item (.var 3) (.int 1)) (.cons (.op1 .listOf (.op2 .item (.var 3) (.int 2))) .nil)))) (.var 0) (.bool true)) (.cons (.int 0) (.cons (.comp 4 (.tup (.cons (.int 0) (.cons (.int 0) .nil))) (.var 0) (.bool true)) .nil))))) .nil))))⟩
noncomputable def f_law_told : FnI := ⟨"_law_told", ["_law_workers_here", "_law_way"], (.cons (.ite (.op2 .eq (.var 1) (.int 0)) (.cons (.tryE (.cons (.ret (.call "begun" (.cons (.var 0) .nil))) .nil) (.cons 0 (some 2) (.cons (.asg 3 (.op2 .add (.op2 .mul (.str "TooMany") (.op1 .intOf (.op1 (.isX 1) (.var 2)))) (.op2 .mul (.str "BadWorker") (.op1 .intOf (.op1 (.isX 2) (.var 2)))))) (.cons (.asg 3 (.op2 .add (.op2 .add (.var 3) (.op2 .mul (.str "BadRank") (.op1 .intOf (.op1 (.isX 3) (.var 2))))) (.op2 .mul (.str "BadStart") (.op1 .intOf (.op1 (.isX 4) (.var 2)))))) (.cons (.ret (.op2 .add (.var 3) (.op2 .mul (.str "BadPlan") (.op1 .intOf (.op1 (.isX 5) (.var 2)))))) .nil))) .nil)) .nil) .nil) (.cons (.tryE (.cons (.ret (.call "begun" (.cons (.var 0) .nil))) .nil) (.cons 1 none (.cons (.ret (.str "TooMany")) .nil) (.cons 2 none (.cons (.ret (.str "BadWorker")) .nil) (.cons 3 none (.cons (.ret (.str "BadRank")) .nil) (.cons 4 none (.cons (.ret (.str "BadStart")) .nil) (.cons 5 none (.cons (.ret (.str "BadPlan")) .nil) .nil)))))) .nil))⟩
noncomputable def rankD (rs : List Int) : PyData → Bool
  | .int r => !(decide (1 ≤ r) && decide (r ≤ 1000000)) || inn r rs
  | _ => true
noncomputable def workD (rs : List Int) : PyData → Option Nat
  | .tuple [r, s, p] => if rankD rs r then some 3 else if !wholeD 0 1000 s then some 4 else if !planD p then some 5 else none
  | _ => some 2
noncomputable def frstD : PyData → Int
  | .tuple (.int r :: _) => r
  | _ => 0
noncomputable def needO : List PyData → List Int → Option Nat
  | [], _ => none
  | x :: l, rs => match workD rs x with
    | some c => some c
    | none => needO l (rs ++ [frstD x])
noncomputable def needD (l : List PyData) : Option Nat := if 1 ≤ l.length ∧ l.length ≤ 8 then needO l [] else some 1
theorem workD_len {rs : List Int} {ds : List PyData} (h : ds.length ≠ 3) : workD rs (.tuple ds) = some 2 := by
  match ds, h with
  | [], _ => rfl
  | [_], _ => rfl
  | [_, _], _ => rfl
  | [_, _, _], h => exact absurd rfl h
  | _ :: _ :: _ :: _ :: _, _ => rfl
theorem workD_not {rs : List Int} {D : PyData} (h : ∀ es, D ≠ .tuple es) : workD rs D = some 2 := by
  cases D with
  | tuple es => exact absurd rfl (h es)
  | _ => rfl
theorem rankD_not {rs : List Int} {D : PyData} (h : ∀ i, D ≠ .int i) : rankD rs D = true := by
  cases D with
  | int i => exact absurd rfl (h i)
  | _ => rfl
theorem wholeD_not {lo hi : Int} {D : PyData} (h : ∀ i, D ≠ .int i) : wholeD lo hi D = false := by
  cases D with
  | int i => exact absurd rfl (h i)
  | _ => rfl
theorem workD_three (rs : List Int) (r s p : PyData) : workD rs (.tuple [r, s, p]) = if rankD rs r then some 3 else if !wholeD 0 1000 s then some 4 else if !planD p then some 5 else none := rfl
theorem need_workers_any (h : Has P f_need_workers) (hp : Has P f_is_plan) (hs : Has P f_is_step) (hw : Has P f_is_whole) {d : Nat} {Q : V → AHeap → Prop} {X : Nat → AHeap → Prop} {H : AHeap} {a : Addr} {vs : List V} {ds : List PyData} (hA : H a = some (.list vs)) (hR : RDs H vs ds) (sm : ∀ x ∈ ds, Sm 50000 3 x)
    (q : needD ds = none → ∀ H', Ext H H' → Q .none H') (x : ∀ c, needD ds = some c → ∀ H', Ext H H' → X c H') : Call P (d + 3) "need_workers" [.lst a] Q X H := by
  have hl := hR.len
  have many : ¬ (1 ≤ ds.length ∧ ds.length ≤ 8) → X 1 H := fun c => x 1 (if_neg c) H (Ext.refl H)
  refine h rfl ⟨_, hA, fun c1 => ⟨fun c2 => ⟨Nat.succ_pos _, many ?_⟩, fun c2 => nil_intro ?_⟩, fun c1 => ⟨fun zz => ⟨Nat.succ_pos _, many ?_⟩, nc'⟩⟩
  · have c2 : ¬ (vs.length : Int) ≤ 8 := by simpa using c2
    omega
  · have c1 : (1 : Int) ≤ vs.length := of_decide_eq_true c1
    have c2 : (vs.length : Int) ≤ 8 := by simpa using c2
    have nR : needD ds = needO ds [] := if_pos (by omega)
    refine ⟨Nat.zero_le _, fun b hb => gen hb fun H1 E1 gB => ⟨_, E1 _ _ hA, Nat.succ_pos _, ?_⟩⟩
    refine forLoop_inv (fun k ρ H' => (ρ 0 = some (.lst a) ∧ ρ 1 = some (.lst b)) ∧ Ext H H' ∧ ∃ rk, needO ds [] = needO (ds.drop k) rk ∧ rk.length ≤ k ∧ k ≤ vs.length ∧ H' b = some (intsC rk)) ?_ ?_ ?_ ⟨⟨rfl, rfl⟩, E1, [], rfl, Nat.le_refl _, Nat.zero_le _, gB⟩
    · rintro k ρ H' ⟨_, E, _⟩
      exact stL (E _ _ hA)
    · rintro k v ρ H' K hx ⟨⟨r0, r1⟩, E, rk, hr, hkl, hkv, hB⟩ kn kc kr
      have hk : k < vs.length := (List.getElem?_eq_some_iff.mp hx).1
      have hk' : k < ds.length := hl ▸ hk
      have rx := (hR.get hx (List.getElem?_eq_getElem hk')).mono E
      have smx := sm _ (List.getElem_mem hk')
      have hdrop : ds.drop k = ds[k] :: ds.drop (k + 1) := List.drop_eq_getElem_cons hk'
      generalize ds[k] = D at rx smx hdrop
      have bad : ∀ {c H2}, Ext H' H2 → workD rk D = some c → X c H2 := fun {c H2} E2 e => x c (by rw [nR, hr, hdrop, needO, e]) H2 (E.trans E2)
      have H0 := Ext.refl H'
      rw [← ro_cons r0 (ro_eq r1)]
      rcases rd_tup rx with ⟨hf, hn⟩ | ⟨us, es, rfl, rfl, rs'⟩
      · exact ⟨false, hf, fun zz => ⟨fun zz => ⟨Nat.succ_pos _, bad H0 (workD_not hn)⟩, nc'⟩, nc'⟩
      · have hl' := rs'.len
        by_cases c3 : es.length = 3
        · match es, c3 with
          | [y1, y2, y3], _ =>
            obtain ⟨u1, u2, u3, rfl, q1, q2, q3⟩ := rds_three rs'
            have good : ∀ {ρ' : Ro} {H2 : AHeap} {i : Int}, y1 = .int i → workD rk (.tuple [y1, y2, y3]) = none → (ρ' 0 = some (.lst a) ∧ ρ' 1 = some (.lst b)) → Ext H H2 → H2 b = some (intsC (rk ++ [i])) → K .next ρ' H2 := fun {ρ' H2 i} ei e r E2 hB2 => kn _ _ ⟨r, E2, rk ++ [i], by rw [hr, hdrop, needO, e, ei]; rfl, by rw [List.length_append]; exact Nat.succ_le_succ hkl, hk, hB2⟩
            have sm3 := smx.2 y3 (by simp)
            refine ⟨true, rfl, nc, fun zz => ⟨lim3, _, eq_int _ _, nc, fun zz => nil_intro ⟨_, _, rfl, rfl, lim3, whole_any hw q1 ⟨fun c => ?_, fun c => ?_⟩⟩⟩⟩
            · refine ⟨fun zz => ⟨Nat.succ_pos _, bad H0 ?_⟩, nc'⟩
              have c : wholeD 1 1000000 y1 = false := notB c
              rw [workD_three, if_pos]
              cases y1 with
              | int i =>
                have c : (decide (1 ≤ i) && decide (i ≤ 1000000)) = false := c
                show (!(decide (1 ≤ i) && decide (i ≤ 1000000)) || inn i rk) = true
                rw [c]; rfl
              | _ => rfl
            · have c : wholeD 1 1000000 y1 = true := by simpa using c
              rcases rd_int q1 with hn | ⟨i, rfl, rfl⟩
              · rw [wholeD_not hn] at c; cases c
              · have c : (decide (1 ≤ i) && decide (i ≤ 1000000)) = true := c
                have eR : rankD rk (.int i) = inn i rk := by
                  show (!(decide (1 ≤ i) && decide (i ≤ 1000000)) || inn i rk) = _
                  rw [c]; rfl
                refine ⟨_, _, rfl, rfl, lim3, _, _, hB, inF_ints, fun ci => ⟨Nat.succ_pos _, bad H0 ?_⟩, fun ci => nil_intro ⟨_, _, rfl, rfl, lim3, whole_any hw q2 ⟨fun c3 => ⟨Nat.succ_pos _, bad H0 ?_⟩, fun c3 => nil_intro ⟨_, _, rfl, rfl, lim3, is_plan_any hp hs hw sm3 q3 fun H2 E2 => ⟨fun c4 => ⟨Nat.succ_pos _, bad E2 ?_⟩, fun c4 => nil_intro ?_⟩⟩⟩⟩⟩
                · rw [workD_three, eR, ci]; rfl
                · have c3 : wholeD 0 1000 y2 = false := notB c3
                  rw [workD_three, eR, ci, c3]; rfl
                · have c3 : wholeD 0 1000 y2 = true := by simpa using c3
                  have c4 : planD y3 = false := by simpa using c4
                  rw [workD_three, eR, ci, c3, c4]; rfl
                · have c3 : wholeD 0 1000 y2 = true := by simpa using c3
                  have c4 : planD y3 = true := by simpa using c4
                  have hB2 := E2 _ _ hB
                  refine ⟨⟨_, hB2⟩, _, _, rfl, rfl, lim3, _, hB2, lmap1 (n := 8) (by omega), nil_intro (good rfl ?_ ⟨rfl, rfl⟩ ((E.trans E2).upd hb) ?_)⟩
                  · rw [workD_three, eR, ci, c3, c4]; rfl
                  · rw [upd_self, ints_app]
        · have hlm : us.length ≤ Lim := by rw [hl']; exact Nat.le_trans smx.1 (by decide)
          refine ⟨true, rfl, nc, fun zz => ⟨hlm, _, eq_int _ _, fun zz => ⟨Nat.succ_pos _, bad H0 (workD_len c3)⟩, fun c => ?_⟩⟩
          have c : decide ((us.length : Int) = 3) = true := by simpa using c
          have := of_decide_eq_true c
          exact absurd (by omega) c3
    · rintro ρ H' ⟨_, E, rk, hr, _⟩
      rw [hl, List.drop_length] at hr
      exact nil_intro (q (nR.trans hr) H' E)
  · have c1 := of_decide_eq_false c1
    omega
noncomputable def stT (s : St) : PyData := .tuple [.str (Str.ofString s.k.nm), .int s.n]
noncomputable def wkD (w : Wk) : PyData := .tuple [.int w.rank, .int w.start, .list (w.plan.map stT)]
theorem runD_plan : ∀ {ps : List PyData} {ts us : List Int}, runD ps ts = some us → ∃ plan, ps = plan.map stT ∧ runG plan ts = some us
  | [], ts, us, h => ⟨[], rfl, h⟩
  | x :: ps, ts, us, h => by
    rw [runD_cons] at h
    unfold stepD at h
    cases e : stD x with
    | none => rw [e] at h; cases h
    | some s =>
      rw [e] at h
      have h : (stepG s ts).bind (runD ps) = some us := h
      cases e2 : stepG s ts with
      | none => rw [e2] at h; cases h
      | some ts' =>
        rw [e2] at h
        obtain ⟨plan, rfl, g⟩ := runD_plan (show runD ps ts' = some us from h)
        refine ⟨s :: plan, by rw [List.map_cons, stD_some e]; rfl, ?_⟩
        show (stepG s ts).bind (runG plan) = _
        rw [e2]; exact g
theorem stepG_ok {s : St} {ts us : List Int} (h : stepG s ts = some us) : OkStep s ts ∧ us = stepT s ts := by
  unfold stepG at h
  cases c : stepB s with
  | false => rw [c] at h; cases h
  | true =>
    rw [c] at h
    unfold stepB at c
    unfold OkStep stepT
    cases k : s.k with
    | work =>
      simp only [k] at h
      rw [k] at c
      have c : (decide (1 ≤ s.n) && decide (s.n ≤ 100)) = true := c
      cases h
      exact ⟨⟨of_decide_eq_true (andB c).1, of_decide_eq_true (andB c).2⟩, rfl⟩
    | hold =>
      simp only [k] at h
      rw [k] at c
      have c : (decide (0 ≤ s.n) && decide (s.n ≤ 9)) = true := c
      have h : (if ts.any (fun t => decide (s.n ≤ t)) then none else some (ts ++ [s.n])) = some us := h
      split at h
      · cases h
      · rename_i g
        cases h
        refine ⟨⟨of_decide_eq_true (andB c).1, of_decide_eq_true (andB c).2, fun t ht => ?_⟩, rfl⟩
        apply Decidable.byContradiction
        intro n
        exact g (List.any_eq_true.mpr ⟨t, ht, decide_eq_true (by omega)⟩)
    | free =>
      simp only [k] at h
      have h : (if inn s.n ts then some (ts.erase s.n) else none) = some us := h
      split at h
      · rename_i g; cases h; exact ⟨inn_iff.mp g, rfl⟩
      · cases h
theorem runG_ok {plan : List St} {ts : List Int} (h : runG plan [] = some ts) : OkSteps plan ∧ toolsAt plan plan.length = ts := by
  have pre : ∀ i, i ≤ plan.length → ∃ us, runG (plan.take i) [] = some us := fun i zz => by
    cases e : runG (plan.take i) [] with
    | some us => exact ⟨us, rfl⟩
    | none =>
      have := runG_none (r := plan.drop i) e
      rw [List.take_append_drop, h] at this; cases this
  have go : ∀ i, i ≤ plan.length → runG (plan.take i) [] = some (toolsAt plan i) ∧ ∀ j s, j < i → plan[j]? = some s → OkStep s (toolsAt plan j) := by
    intro i
    induction i with
    | zero => intro _; exact ⟨by rw [List.take_zero, toolsAt_zero]; rfl, fun j s hj => absurd hj (by omega)⟩
    | succ i ih =>
      intro hi
      obtain ⟨i1, i2⟩ := ih (Nat.le_of_succ_le hi)
      have hs : plan[i]? = some plan[i] := List.getElem?_eq_getElem hi
      obtain ⟨us, hu⟩ := pre (i + 1) hi
      have e : runG (plan.take (i + 1)) [] = stepG plan[i] (toolsAt plan i) := by
        rw [List.take_add_one, hs, Option.toList_some, runG_app, i1]; rfl
      rw [e] at hu
      obtain ⟨o1, o2⟩ := stepG_ok hu
      refine ⟨by rw [e, hu, o2, toolsAt_succ hs], fun j s hj hjs => ?_⟩
      by_cases c : j = i
      · subst c; rw [hs] at hjs; cases hjs; exact o1
      · exact i2 j s (by omega) hjs
  obtain ⟨g1, g2⟩ := go plan.length (Nat.le_refl _)
  refine ⟨fun i s hs => g2 i s (List.getElem?_eq_some_iff.mp hs).1 hs, ?_⟩
  rw [List.take_length, h] at g1
  exact (Option.some.inj g1).symm
theorem planD_ok {p : PyData} (h : planD p = true) : ∃ plan, p = .list (plan.map stT) ∧ OkPlan plan := by
  cases p with
  | list ps =>
    rw [planD_list] at h
    obtain ⟨h1, h2⟩ := andB h
    obtain ⟨h0, h1⟩ := andB h1
    have h0 := of_decide_eq_true h0
    have h1 := of_decide_eq_true h1
    cases e : runD ps [] with
    | none => rw [e] at h2; cases h2
    | some ts =>
      rw [e] at h2
      have h2 : ts.isEmpty = true := h2
      obtain ⟨plan, rfl, g⟩ := runD_plan e
      rw [List.length_map] at h0 h1
      obtain ⟨o1, o2⟩ := runG_ok g
      refine ⟨plan, rfl, o1, by rw [o2]; exact List.isEmpty_iff.mp h2, by rintro rfl; exact absurd h0 (by decide), h1⟩
  | _ => cases h
set_option tactic.hygienic true in
theorem workD_ok {rs : List Int} {x : PyData} (h : workD rs x = none) : ∃ w, x = wkD w ∧ OkWk w ∧ w.rank ∉ rs := by
  unfold workD at h
  split at h
  · rename_i r s p
    by_cases c1 : rankD rs r = true
    · rw [if_pos c1] at h; cases h
    · rw [if_neg c1] at h
      have c1 := Bool.eq_false_iff.mpr c1
      cases c2 : wholeD 0 1000 s with
      | false => rw [c2] at h; cases h
      | true =>
        rw [c2] at h
        cases c3 : planD p with
        | false => rw [c3] at h; cases h
        | true =>
          obtain ⟨plan, rfl, okp⟩ := planD_ok c3
          cases r with
          | int r =>
            have c1 : (!(decide (1 ≤ r) && decide (r ≤ 1000000)) || inn r rs) = false := c1
            cases s with
            | int s =>
              have c2 : (decide (0 ≤ s) && decide (s ≤ 1000)) = true := c2
              have d1 : (decide (1 ≤ r) && decide (r ≤ 1000000)) = true := by
                cases e : (decide (1 ≤ r) && decide (r ≤ 1000000)) with
                | true => rfl
                | false => rw [e] at c1; cases c1
              rw [d1] at c1
              refine ⟨⟨r, s, plan⟩, rfl, ⟨okp, ⟨of_decide_eq_true (andB d1).1, of_decide_eq_true (andB d1).2⟩, ⟨of_decide_eq_true (andB c2).1, of_decide_eq_true (andB c2).2⟩⟩, fun hm => ?_⟩
              have := inn_iff.mpr hm
              have c1 : inn r rs = false := c1
              rw [this] at c1; cases c1
            | _ => cases c2
          | _ => cases c1
  · cases h
theorem needO_ok : ∀ {ds : List PyData} {rs : List Int}, needO ds rs = none → ∃ ws : List Wk, ds = ws.map wkD ∧ (∀ w ∈ ws, OkWk w) ∧ (ws.map (·.rank)).Nodup ∧ ∀ w ∈ ws, w.rank ∉ rs
  | [], _, _ => ⟨[], rfl, fun zz h => (nomatch h), .nil, fun zz h => (nomatch h)⟩
  | x :: l, rs, h => by
    rw [needO] at h
    cases e : workD rs x with
    | some c => rw [e] at h; cases h
    | none =>
      rw [e] at h
      obtain ⟨w, rfl, okw, nw⟩ := workD_ok e
      obtain ⟨ws, rfl, ok, nd, nr⟩ := needO_ok (show needO l (rs ++ [w.rank]) = none from h)
      refine ⟨w :: ws, rfl, fun y hy => ?_, List.nodup_cons.mpr ⟨fun hm => ?_, nd⟩, fun y hy => ?_⟩
      · rcases List.mem_cons.mp hy with q | q
        · rw [q]; exact okw
        · exact ok y q
      · obtain ⟨y, hy, e⟩ := List.mem_map.mp hm
        exact nr y hy (by rw [e]; simp)
      · rcases List.mem_cons.mp hy with q | q
        · rw [q]; exact nw
        · exact fun hm => nr y q (List.mem_append_left _ hm)
theorem needD_ok {ds : List PyData} (h : needD ds = none) : ∃ ws : List Wk, ds = ws.map wkD ∧ (∀ w ∈ ws, OkWk w) ∧ (ws.map (·.rank)).Nodup ∧ 1 ≤ ws.length ∧ ws.length ≤ 8 := by
  unfold needD at h
  split at h
  · rename_i c
    obtain ⟨ws, rfl, ok, nd, -⟩ := needO_ok h
    rw [List.length_map] at c
    exact ⟨ws, rfl, ok, nd, c⟩
  · cases h
set_option tactic.hygienic true in
theorem workD_rng {rs : List Int} {x : PyData} {c : Nat} (h : workD rs x = some c) : 1 ≤ c ∧ c ≤ 5 := by
  unfold workD at h
  split at h
  · rename_i r s p
    by_cases c1 : rankD rs r = true
    · rw [if_pos c1] at h; cases h; decide
    · rw [if_neg c1] at h
      by_cases c2 : (!wholeD 0 1000 s) = true
      · rw [if_pos c2] at h; cases h; decide
      · rw [if_neg c2] at h
        by_cases c3 : (!planD p) = true
        · rw [if_pos c3] at h; cases h; decide
        · rw [if_neg c3] at h; cases h
  · cases h; decide
theorem needO_rng : ∀ {ds : List PyData} {rs : List Int} {c : Nat}, needO ds rs = some c → 1 ≤ c ∧ c ≤ 5
  | [], _, _, h => nomatch h
  | x :: l, rs, c, h => by
    rw [needO] at h
    cases e : workD rs x with
    | some c' => rw [e] at h; cases h; exact workD_rng e
    | none => rw [e] at h; exact needO_rng h
theorem needD_rng {ds : List PyData} {c : Nat} (h : needD ds = some c) : 1 ≤ c ∧ c ≤ 5 := by
  unfold needD at h
  split at h
  · exact needO_rng h
  · cases h; decide
theorem rds_steps {H : AHeap} : ∀ {plan : List St} {vs : List V}, RDs H vs (plan.map stT) → vs = plan.map St.v
  | [], _, .nil => rfl
  | s :: plan, _, .cons r rs => by
    cases r with
    | tup rs' =>
      cases rs' with
      | cons r1 rs' => cases rs' with
        | cons r2 rs' => cases rs'; cases r1; cases r2; rw [rds_steps rs]; rfl
theorem rds_wks {H : AHeap} : ∀ {ws : List Wk} {vs : List V}, RDs H vs (ws.map wkD) → WksAt H vs ws
  | [], _, .nil => .nil
  | w :: ws, _, .cons r rs => by
    cases r with
    | tup rs' =>
      cases rs' with
      | cons r1 rs' => cases rs' with
        | cons r2 rs' => cases rs' with
          | cons r3 rs' =>
            cases rs'; cases r1; cases r2
            cases r3 with
            | lst ha r4 => exact .cons ⟨_, rfl, by rw [ha, rds_steps r4]; rfl⟩ (rds_wks rs)
theorem rds_of_steps {H : AHeap} : ∀ plan : List St, RDs H (plan.map St.v) (plan.map stT)
  | [] => .nil
  | s :: plan => .cons (.tup (.cons (.str _) (.cons (.int _) .nil))) (rds_of_steps plan)
theorem wks_rds {H : AHeap} {vs : List V} {ws : List Wk} (h : WksAt H vs ws) : RDs H vs (ws.map wkD) := by
  induction h with
  | nil => exact .nil
  | cons h _ ih =>
    obtain ⟨p, rfl, hp⟩ := h
    exact .cons (.tup (.cons (.int _) (.cons (.int _) (.cons (.lst hp (rds_of_steps _)) .nil)))) ih
end
end Mine

namespace Mine
section
open PySem PySem.Calls PyProof.Rows
variable {P : Cx}
noncomputable def nameC : Nat → String
  | 1 => "TooMany" | 2 => "BadWorker" | 3 => "BadRank" | 4 => "BadStart" | _ => "BadPlan"
theorem copy_loop {cond : V → (Bool → AHeap → Prop) → AHeap → Prop} {elt : V → (V → AHeap → Prop) → AHeap → Prop} {Q : V → AHeap → Prop} {H : AHeap} {a : Addr} {us : List V} {ws : List Wk} (ha : H a = some (.list us)) (hW : WksAt H us ws) (hl : ws.length ≤ 8) (ok : ∀ w ∈ ws, OkWk w)
    (hc : ∀ x R H', R true H' → cond x R H') (he : ∀ x y p ps R H', H' p = some (.list ps) → ps.length ≤ Lim → (∀ e, H' e = none → R (.tup [x, y, .lst e]) (H'.upd e (.list ps))) → elt (.tup [x, y, .lst p]) R H')
    (q : ∀ b vs H', Ext H H' → H b = none → H' b = some (.list vs) → WksAt H' vs ws → Own1 H (adrs vs) → (∀ x ∈ adrs vs, x ≠ b ∧ Live H' x) → Q (.lst b) H') : compLoop (stays H (.lst a) us) cond elt Q us [] H := by
  refine compLoop_inv (fun m acc H' => Ext H H' ∧ WksAt H' acc (ws.take m) ∧ Own1 H (adrs acc) ∧ ∀ x ∈ adrs acc, Live H' x) ?_ ?_ ?_ ⟨Ext.refl _, .nil, ⟨.nil, fun zz h => by simp [adrs] at h⟩, fun zz h => by simp [adrs] at h⟩
  · rintro m acc H' ⟨hE, hA, _⟩
    exact ⟨stL (hE _ _ ha), by rw [hA.len]; exact Nat.le_trans (Nat.succ_le_succ (Nat.le_trans (List.length_take_le' _ _) hl)) (by decide)⟩
  · rintro m x acc H' R T hx ⟨hE, hA, hO, hL⟩ kt kf
    have hi : m < ws.length := by rw [← hW.len]; exact (List.getElem?_eq_some_iff.mp hx).1
    have hw : ws[m]? = some ws[m] := List.getElem?_eq_getElem hi
    obtain ⟨v', hv', ap, rfl, hap⟩ := hW.get hw
    rw [hx] at hv'; cases hv'
    have hpl := (ok _ (List.getElem_mem hi)).plan.len
    refine hc _ _ _ ⟨fun zz => ⟨stL (hE _ _ ha), he _ _ _ _ _ _ (hE _ _ hap) (lmap hpl) fun e he => gen he fun H2 E2 hE2 => kt _ _ ⟨hE.trans E2, ?_, ?_, fun x hx => ?_⟩⟩, fun c => nc' c⟩
    · rw [List.take_add_one, hw, Option.toList_some]
      exact (hA.mono E2).app ⟨e, rfl, hE2⟩
    · rw [adrs_app]; exact hO.app hE hL he
    · rw [adrs_app] at hx
      rcases List.mem_append.mp hx with q | q
      · exact (hL x q).mono E2
      · simp at q; subst q; exact ⟨_, hE2⟩
  · rintro acc H' ⟨hE, hA, hO, hL⟩
    rw [hW.len, List.take_length] at hA
    refine ⟨by rw [hA.len]; exact Lim_le (Nat.le_trans hl (by decide)), fun b hb => q b acc _ (hE.trans (Ext.new hb)) (hE.none hb) upd_self (hA.mono (Ext.new hb)) hO fun x hx => ?_⟩
    obtain ⟨c, hc⟩ := hL x hx
    exact ⟨ne_of hc hb, Live.mono (Ext.new hb) ⟨c, hc⟩⟩
theorem zero_loop {cond : V → (Bool → AHeap → Prop) → AHeap → Prop} {elt : V → (V → AHeap → Prop) → AHeap → Prop} {Q : V → AHeap → Prop} {H : AHeap} {a : Addr} {vs : List V} (hA : H a = some (.list vs)) (hl : vs.length ≤ 8)
    (hc : ∀ x R, R true H → cond x R H) (he : ∀ x R, R zeroV H → elt x R H) (q : newL (List.replicate vs.length zeroV) Q H) : compLoop (stays H (.lst a) vs) cond elt Q vs [] H := by
  refine compLoop_inv (fun m acc H' => H' = H ∧ acc = List.replicate m zeroV ∧ m ≤ vs.length) ?_ ?_ ?_ ⟨rfl, rfl, Nat.zero_le _⟩
  · rintro m acc H' ⟨rfl, rfl, hm⟩
    refine ⟨stL hA, ?_⟩
    rw [List.length_replicate]
    unfold Lim; omega
  · rintro m x acc H' R S hx ⟨rfl, rfl, hm⟩ kt kf
    exact hc _ _ ⟨fun zz => ⟨stL hA, he _ _ (kt _ _ ⟨rfl, by rw [List.replicate_succ'], (List.getElem?_eq_some_iff.mp hx).1⟩)⟩, nc'⟩
  · rintro acc H' ⟨rfl, rfl, -⟩
    exact q
theorem begun_any (h : Has P f_begun) (hn : Has P f_need_workers) (hp : Has P f_is_plan) (hs : Has P f_is_step) (hw : Has P f_is_whole) (hcp : Has P f_copied) {d : Nat} {Q : V → AHeap → Prop} {X : Nat → AHeap → Prop} {H : AHeap} {a : Addr} {vs : List V} {ds : List PyData} (hA : H a = some (.list vs)) (hR : RDs H vs ds) (sm : ∀ x ∈ ds, Sm 50000 3 x)
    (q : ∀ ws, needD ds = none → ds = ws.map wkD → OkShop (shop0 ws) → ∀ b s us H', RunAt H H' b s us (shop0 ws) → Q (SV b s (shop0 ws)) H') (x : ∀ c, needD ds = some c → ∀ H', Ext H H' → X c H') : Call P (d + 4) "begun" [.lst a] Q X H := by
  refine h rfl (need_workers_any hn hp hs hw hA hR sm (fun e H1 E1 => ?_) x)
  obtain ⟨ws, rfl, ok, nd, lw⟩ := needD_ok e
  have hW := rds_wks (hR.mono E1)
  have hA1 := E1 _ _ hA
  refine hcp rfl ⟨_, hA1, Nat.succ_pos _, copy_loop hA1 hW lw.2 ok (fun zz zz zz r => r) (fun x y p ps R H' hp hl k => ⟨_, _, rfl, rfl, lim3, _, _, rfl, rfl, lim3, _, _, rfl, rfl, lim3, _, hp, hl, fun e he => ⟨lim3, k e he⟩⟩) fun b us H2 E2 hb hB hU hO hN => ?_⟩
  have hA2 := E2 _ _ hA1
  have hl8 : vs.length ≤ 8 := by rw [hW.len]; exact lw.2
  refine ⟨_, hA2, Nat.succ_pos _, zero_loop hA2 hl8 (fun zz zz r => r) (fun zz zz r => ⟨lim2, r⟩) ⟨by rw [List.length_replicate]; exact Lim_le (Nat.le_trans hl8 (by decide)), fun s hs' => ⟨lim3, ?_⟩⟩⟩
  have E3 : Ext H2 (H2.upd s (.list (List.replicate vs.length zeroV))) := Ext.new hs'
  refine q ws e rfl (shop0_ok ok nd lw) b s us _ ⟨(E1.trans E2).trans E3, E1.none hb, (E1.trans E2).none hs', ne_of hB hs', E3 _ _ hB, hU.mono E3, ⟨hO.nd, fun x hx => E1.none (hO.new x hx)⟩, fun x hx => ⟨(hN x hx).1, ?_⟩, by rw [upd_self, hW.len, sps0]⟩
  obtain ⟨c, hc⟩ := (hN x hx).2
  exact ne_of hc hs'
theorem due_any (h : Has P f_law_due) (hp : Has P f_law_plan_good) (hw : Has P f_law_whole) {d : Nat} {Q : V → AHeap → Prop} {X : Nat → AHeap → Prop} {H : AHeap} {a : Addr} {vs : List V} {ds : List PyData} (hA : H a = some (.list vs)) (hR : RDs H vs ds) (sm : ∀ x ∈ ds, Sm 50000 3 x)
    (q : ∀ ws, needD ds = none → ds = ws.map wkD → OkShop (shop0 ws) → ∀ b s us H', RunAt H H' b s us (shop0 ws) → Q (SV b s (shop0 ws)) H') (x : ∀ c, needD ds = some c → ∀ H', Ext H H' → Q (.str (Str.ofString (nameC c))) H') : Call P (d + 3) "_law_due" [.lst a] Q X H := by
  have hl := hR.len
  have many : ¬ (1 ≤ ds.length ∧ ds.length ≤ 8) → Q (.str (Str.ofString "TooMany")) H := fun c => x 1 (if_neg c) H (Ext.refl H)
  refine h rfl ⟨_, hA, fun c1 => many ?_, fun c1 => nil_intro ?_⟩
  · have c1 : (decide ((1 : Int) ≤ vs.length) && decide ((vs.length : Int) < 9)) = false := notB c1
    intro g
    rw [decide_eq_true (by omega : (1 : Int) ≤ vs.length), decide_eq_true (by omega : (vs.length : Int) < 9)] at c1
    cases c1
  · have c1 : (decide ((1 : Int) ≤ vs.length) && decide ((vs.length : Int) < 9)) = true := by simpa using c1
    have g1 := of_decide_eq_true (andB c1).1
    have g2 := of_decide_eq_true (andB c1).2
    have nR : needD ds = needO ds [] := if_pos (by omega)
    refine ⟨Nat.zero_le _, fun b hb => gen hb fun H1 E1 gB => ⟨_, E1 _ _ hA, Nat.succ_pos _, ?_⟩⟩
    refine forLoop_inv (fun k ρ H' => (ρ 0 = some (.lst a) ∧ ρ 1 = some (.lst b)) ∧ Ext H H' ∧ ∃ rk, needO ds [] = needO (ds.drop k) rk ∧ rk.length ≤ k ∧ k ≤ vs.length ∧ H' b = some (intsC rk)) ?_ ?_ ?_ ⟨⟨rfl, rfl⟩, E1, [], rfl, Nat.le_refl _, Nat.zero_le _, gB⟩
    · rintro k ρ H' ⟨_, E, _⟩
      exact stL (E _ _ hA)
    · rintro k v ρ H' K hx ⟨⟨r0, r1⟩, E, rk, hr, hkl, hkv, hB⟩ kn kc kr
      have hk : k < vs.length := (List.getElem?_eq_some_iff.mp hx).1
      have hk' : k < ds.length := hl ▸ hk
      have rx := (hR.get hx (List.getElem?_eq_getElem hk')).mono E
      have smx := sm _ (List.getElem_mem hk')
      have hdrop : ds.drop k = ds[k] :: ds.drop (k + 1) := List.drop_eq_getElem_cons hk'
      generalize ds[k] = D at rx smx hdrop
      have bad : ∀ {c : Nat} {ρ' : Ro} {H2 : AHeap}, Ext H' H2 → workD rk D = some c → K (.ret (.str (Str.ofString (nameC c)))) ρ' H2 := fun {c ρ' H2} E2 e => kr _ _ _ (x c (by rw [nR, hr, hdrop, needO, e]) H2 (E.trans E2))
      have H0 := Ext.refl H'
      rw [← ro_cons r0 (ro_eq r1)]
      rcases rd_tup rx with ⟨hf, hn⟩ | ⟨us, es, rfl, rfl, rs'⟩
      · exact ⟨false, hf, fun zz => ⟨fun zz => bad (c := 2) H0 (workD_not hn), nc'⟩, nc'⟩
      · have hl' := rs'.len
        by_cases c3 : es.length = 3
        · match es, c3 with
          | [y1, y2, y3], _ =>
            obtain ⟨u1, u2, u3, rfl, q1, q2, q3⟩ := rds_three rs'
            have good : ∀ {ρ' : Ro} {H2 : AHeap} {i : Int}, y1 = .int i → workD rk (.tuple [y1, y2, y3]) = none → (ρ' 0 = some (.lst a) ∧ ρ' 1 = some (.lst b)) → Ext H H2 → H2 b = some (intsC (rk ++ [i])) → K .next ρ' H2 := fun {ρ' H2 i} ei e r E2 hB2 => kn _ _ ⟨r, E2, rk ++ [i], by rw [hr, hdrop, needO, e, ei]; rfl, by rw [List.length_append]; exact Nat.succ_le_succ hkl, hk, hB2⟩
            have sm3 := smx.2 y3 (by simp)
            refine ⟨true, rfl, nc, fun zz => ⟨lim3, _, eq_int _ _, nc, fun zz => nil_intro ⟨_, _, rfl, rfl, lim3, law_whole_any hw q1 ?_⟩⟩⟩
            rcases rd_int q1 with hn | ⟨i, rfl, rfl⟩
            · rw [notInt hn]
              exact ⟨fun zz => ⟨fun zz => bad (c := 3) H0 (by rw [workD_three, rankD_not hn]; rfl), nc'⟩, nc'⟩
            · have eD : rankD rk (.int i) = (!(decide (1 ≤ i) && decide (i ≤ 1000000)) || inn i rk) := rfl
              refine ⟨nc, fun zz => ⟨_, _, rfl, rfl, lim3, fun c => ⟨fun zz => bad (c := 3) H0 ?_, nc'⟩, fun c => ⟨_, _, rfl, rfl, lim3, ⟨rfl, by decide, by decide⟩, fun c' => ⟨fun zz => bad (c := 3) H0 ?_, nc'⟩, fun c' => ⟨_, _, rfl, rfl, lim3, _, _, hB, inF_ints, fun ci => bad (c := 3) H0 ?_, fun ci => nil_intro ⟨_, _, rfl, rfl, lim3, law_whole_any hw q2 ?_⟩⟩⟩⟩⟩
              · have c := of_decide_eq_true c
                rw [workD_three, eD, decide_eq_false (by omega : ¬ 1 ≤ i)]; rfl
              · have c' : (1000000 : Int) < i := of_decide_eq_true c'
                rw [workD_three, eD, decide_eq_false (by omega : ¬ i ≤ 1000000), Bool.and_false]; rfl
              · rw [workD_three, eD, ci, Bool.or_true]; rfl
              · have c : ¬ i < 1 := of_decide_eq_false c
                have c' : ¬ (1000000 : Int) < i := of_decide_eq_false c'
                have eR : rankD rk (.int i) = false := by rw [eD, decide_eq_true (by omega : 1 ≤ i), decide_eq_true (by omega : i ≤ 1000000), ci]; rfl
                have b4 : wholeD 0 1000 y2 = false → workD rk (.tuple [.int i, y2, y3]) = some 4 := fun e => by rw [workD_three, eR, e]; rfl
                rcases rd_int q2 with hn | ⟨j, rfl, rfl⟩
                · rw [notInt hn]
                  exact ⟨fun zz => ⟨fun zz => bad (c := 4) H0 (b4 (wholeD_not hn)), nc'⟩, nc'⟩
                · have eW : wholeD 0 1000 (.int j) = (decide (0 ≤ j) && decide (j ≤ 1000)) := rfl
                  refine ⟨nc, fun zz => ⟨_, _, rfl, rfl, lim3, fun d1 => ⟨fun zz => bad (c := 4) H0 (b4 ?_), nc'⟩, fun d1 => ⟨_, _, rfl, rfl, lim3, fun d2 => bad (c := 4) H0 (b4 ?_), fun d2 => nil_intro ⟨_, _, rfl, rfl, lim3, plan_good_any hp hw sm3 q3 fun H2 E2 => ⟨fun c4 => bad (c := 5) E2 ?_, fun c4 => nil_intro ?_⟩⟩⟩⟩⟩
                  · have d1 := of_decide_eq_true d1
                    rw [eW, decide_eq_false (by omega : ¬ 0 ≤ j)]; rfl
                  · have d2 := of_decide_eq_true d2
                    rw [eW, decide_eq_false (by omega : ¬ j ≤ 1000), Bool.and_false]
                  · have c4 : planD y3 = false := by simpa using c4
                    have d1 := of_decide_eq_false d1
                    have d2 := of_decide_eq_false d2
                    rw [workD_three, eR, eW, decide_eq_true (by omega : 0 ≤ j), decide_eq_true (by omega : j ≤ 1000), c4]; rfl
                  · have c4 : planD y3 = true := by simpa using c4
                    have d1 := of_decide_eq_false d1
                    have d2 := of_decide_eq_false d2
                    have hB2 := E2 _ _ hB
                    refine ⟨⟨_, hB2⟩, _, _, rfl, rfl, lim3, _, hB2, lmap1 (n := 8) (by omega), nil_intro (good rfl ?_ ⟨rfl, rfl⟩ ((E.trans E2).upd hb) ?_)⟩
                    · rw [workD_three, eR, eW, decide_eq_true (by omega : 0 ≤ j), decide_eq_true (by omega : j ≤ 1000), c4]; rfl
                    · rw [upd_self, ints_app]
        · have hlm : us.length ≤ Lim := by rw [hl']; exact Nat.le_trans smx.1 (by decide)
          refine ⟨true, rfl, nc, fun zz => ⟨hlm, _, eq_int _ _, fun zz => bad (c := 2) H0 (workD_len c3), fun c => ?_⟩⟩
          have c : decide ((us.length : Int) = 3) = true := by simpa using c
          have := of_decide_eq_true c
          exact absurd (by omega) c3
    · rintro ρ H' ⟨⟨r0, r1⟩, E, rk, hr, -, -, hB⟩
      rw [hl, List.drop_length] at hr
      obtain ⟨ws, rfl, ok, nd, lw⟩ := needD_ok (nR.trans hr)
      have q := q ws (nR.trans hr) rfl (shop0_ok ok nd lw)
      have hW := rds_wks (hR.mono E)
      have hA' := E _ _ hA
      rw [← ro_eq r0]
      have hl8 : vs.length ≤ 8 := by rw [hW.len]; exact lw.2
      refine ⟨_, hA', Nat.succ_pos _, copy_loop hA' hW lw.2 ok (fun zz zz zz r => r) (fun x y p ps R H' hp hl k => ⟨_, _, rfl, rfl, lim3, _, _, rfl, rfl, lim3, _, _, rfl, rfl, lim3, _, hp, hl, fun e he => ⟨lim3, k e he⟩⟩) fun b2 us H2 E2 hb2 hB2 hU hO hN => ?_⟩
      have hA2 := E2 _ _ hA'
      refine ⟨_, hA2, Nat.succ_pos _, zero_loop hA2 hl8 (fun zz zz r => r) (fun zz zz r => ⟨lim2, r⟩) ⟨by rw [List.length_replicate]; exact Lim_le (Nat.le_trans hl8 (by decide)), fun s hs' => ⟨lim3, ?_⟩⟩⟩
      have E3 : Ext H2 (H2.upd s (.list (List.replicate vs.length zeroV))) := Ext.new hs'
      refine q b2 s us _ ⟨(E.trans E2).trans E3, E.none hb2, (E.trans E2).none hs', ne_of hB2 hs', E3 _ _ hB2, hU.mono E3, ⟨hO.nd, fun x hx => E.none (hO.new x hx)⟩, fun x hx => ⟨(hN x hx).1, ?_⟩, by rw [upd_self, hW.len, sps0]⟩
      obtain ⟨c, hc⟩ := (hN x hx).2
      exact ne_of hc hs'
theorem told_any (ht : Has P f_law_told) (h : Has P f_begun) (hn : Has P f_need_workers) (hp : Has P f_is_plan) (hs : Has P f_is_step) (hw : Has P f_is_whole) (hcp : Has P f_copied) {d : Nat} {Q : V → AHeap → Prop} {X : Nat → AHeap → Prop} {H : AHeap} {a : Addr} {vs : List V} {ds : List PyData} {way : Int} (hA : H a = some (.list vs)) (hR : RDs H vs ds) (sm : ∀ x ∈ ds, Sm 50000 3 x)
    (q : ∀ ws, needD ds = none → ds = ws.map wkD → OkShop (shop0 ws) → ∀ b s us H', RunAt H H' b s us (shop0 ws) → Q (SV b s (shop0 ws)) H') (x : ∀ c, needD ds = some c → ∀ H', Ext H H' → Q (.str (Str.ofString (nameC c))) H') : Call P (d + 5) "_law_told" [.lst a, .int way] Q X H := by
  refine ht rfl ⟨_, eq_int _ _, fun zz => ⟨Nat.succ_pos _, begun_any h hn hp hs hw hcp hA hR sm q fun c e H' E => ?_⟩, fun zz => nil_intro ⟨Nat.succ_pos _, begun_any h hn hp hs hw hcp hA hR sm q fun c e H' E => ?_⟩⟩
  · have hc := needD_rng e
    have x := x c e H' E
    match c, hc with
    | 1, _ => exact ⟨fun zz a => ⟨.inr rfl, .inl rfl, by decide, .inl rfl, by decide, .inl rfl, by decide, .inl rfl, by decide, x⟩, nc'⟩
    | 2, _ => exact ⟨fun zz a => ⟨.inl rfl, .inr rfl, by decide, .inl rfl, by decide, .inl rfl, by decide, .inl rfl, by decide, x⟩, nc'⟩
    | 3, _ => exact ⟨fun zz a => ⟨.inl rfl, .inl rfl, by decide, .inr rfl, by decide, .inl rfl, by decide, .inl rfl, by decide, x⟩, nc'⟩
    | 4, _ => exact ⟨fun zz a => ⟨.inl rfl, .inl rfl, by decide, .inl rfl, by decide, .inr rfl, by decide, .inl rfl, by decide, x⟩, nc'⟩
    | 5, _ => exact ⟨fun zz a => ⟨.inl rfl, .inl rfl, by decide, .inl rfl, by decide, .inl rfl, by decide, .inr rfl, by decide, x⟩, nc'⟩
    | 0, h => exact absurd h.1 (by decide)
    | c + 6, h => exact absurd h.2 (by omega)
  · have hc := needD_rng e
    have x := x c e H' E
    match c, hc with
    | 1, _ => exact ⟨fun zz zz => x, nc'⟩
    | 2, _ => exact ⟨nc, fun zz => ⟨fun zz zz => x, nc'⟩⟩
    | 3, _ => exact ⟨nc, fun zz => ⟨nc, fun zz => ⟨fun zz zz => x, nc'⟩⟩⟩
    | 4, _ => exact ⟨nc, fun zz => ⟨nc, fun zz => ⟨nc, fun zz => ⟨fun zz zz => x, nc'⟩⟩⟩⟩
    | 5, _ => exact ⟨nc, fun zz => ⟨nc, fun zz => ⟨nc, fun zz => ⟨nc, fun zz => ⟨fun zz zz => x, nc'⟩⟩⟩⟩⟩
    | 0, h => exact absurd h.1 (by decide)
    | c + 6, h => exact absurd h.2 (by omega)
end
end Mine

namespace Mine
section
open PySem PySem.Calls PyProof.Rows
variable {P : Cx}
noncomputable def f_law_bad_step : FnI := ⟨"_law_bad_step", ["_law_number"], (.cons (.asg 1 (.op2 .fdiv (.var 0) (.int 12))) (.cons (.asg 2 (.lst (.cons (.tup (.cons (.str "work") (.cons (.int 0) .nil))) (.cons (.tup (.cons (.str "work") (.cons (.op2 .add (.int 101) (.op2 .mul (.op2 .mod (.var 1) (.int 2)) (.var 1))) .nil))) (.cons (.tup (.cons (.str "hold") (.cons (.op2 .add (.int 10) (.op2 .mul (.op2 .mod (.var 1) (.int 2)) (.var 1))) .nil))) (.cons (.tup (.cons (.str "hold") (.cons (.op1 .neg (.int 1)) .nil))) .nil)))))) (.cons (.asg 2 (.op2 .add (.var 2) (.lst (.cons (.tup (.cons (.str "Work") (.cons (.int 1) .nil))) (.cons (.tup (.cons (.str "works") (.cons (.int 1) .nil))) .nil))))) (.cons (.asg 2 (.op2 .add (.var 2) (.lst (.cons (.tup (.cons (.str "hol") (.cons (.int 1) .nil))) (.cons (.tup (.cons (.str "work") (.cons (.bool true) .nil))) (.cons (.tup (.cons (.str "work") (.cons (.int 1) (.cons (.int 1) .nil)))) (.cons (.lst (.cons (.str "work") (.cons (.int 1) .nil))) (.cons (.str "work") (.cons (.tup (.cons (.str "work") (.cons .none .nil))) (.cons (.tup (.cons (.int 5) (.cons (.int 5) .nil))) .nil)))))))))) (.cons (.ret (.op2 .item (.var 2) (.op2 .mod (.var 0) (.int 13)))) .nil)))))⟩
noncomputable def f_law_bad_plan : FnI := ⟨"_law_bad_plan", ["_law_plan_here", "_law_number"], (.cons (.asg 2 (.op2 .mod (.var 1) (.int 7))) (.cons (.asg 3 (.op2 .fdiv (.var 1) (.int 7))) (.cons (.asg 4 (.op2 .mod (.var 3) (.op2 .add (.op1 .len (.var 0)) (.int 1)))) (.cons (.ite (.op2 .eq (.var 2) (.int 0)) (.cons (.ret (.op2 .item (.lst (.cons (.lst .nil) (.cons (.op1 .tupleOf (.var 0)) (.cons .none (.cons (.str "plan") (.cons (.op2 .add (.var 0) (.op2 .mul (.lst (.cons (.tup (.cons (.str "work") (.cons (.int 1) .nil))) .nil)) (.int 41))) .nil)))))) (.op2 .mod (.var 3) (.int 5)))) .nil) .nil) (.cons (.ite (.op2 .eq (.var 2) (.int 1)) (.cons (.ret (.op2 .add (.op2 .add (.op2 .sliceTo (.var 0) (.var 4)) (.lst (.cons (.call "_law_bad_step" (.cons (.op2 .fdiv (.var 3) (.int 40)) .nil)) .nil))) (.op2 .sliceFrom (.var 0) (.var 4)))) .nil) .nil) (.cons (.ite (.op2 .eq (.var 2) (.int 2)) (.cons (.ret (.op2 .add (.var 0) (.lst (.cons (.tup (.cons (.str "hold") (.cons (.op2 .mod (.op2 .fdiv (.var 3) (.int 40)) (.int 10)) .nil))) .nil)))) .nil) .nil) (.cons (.ite (.op2 .eq (.var 2) (.int 3)) (.cons (.ret (.op2 .add (.op2 .add (.op2 .sliceTo (.var 0) (.var 4)) (.lst (.cons (.tup (.cons (.str "free") (.cons (.op2 .mod (.op2 .fdiv (.var 3) (.int 40)) (.int 10)) .nil))) .nil))) (.op2 .sliceFrom (.var 0) (.var 4)))) .nil) .nil) (.cons (.ite (.op2 .eq (.var 2) (.int 4)) (.cons (.ret (.op2 .add (.op2 .add (.op2 .sliceTo (.var 0) (.var 4)) (.op2 .sliceFrom (.var 0) (.op2 .add (.var 4) (.int 1)))) (.lst (.cons (.tup (.cons (.str "work") (.cons (.int 1) .nil))) .nil)))) .nil) .nil) (.cons (.ite (.op2 .eq (.var 2) (.int 5)) (.cons (.ret (.op2 .add (.op2 .add (.op2 .add (.op2 .sliceTo (.var 0) (.var 4)) (.lst (.cons (.tup (.cons (.str "hold") (.cons (.op2 .mod (.op2 .fdiv (.var 3) (.int 40)) (.int 10)) .nil))) .nil))) (.op2 .sliceFrom (.var 0) (.var 4))) (.lst (.cons (.tup (.cons (.str "free") (.cons (.op2 .mod (.op2 .fdiv (.var 3) (.int 40)) (.int 10)) .nil))) .nil)))) .nil) .nil) (.cons (.ret (.lst (.cons (.tup (.cons (.str "hold") (.cons (.int 5) .nil))) (.cons (.tup (.cons (.str "hold") (.cons (.op2 .item (.lst (.cons (.int 5) (.cons (.int 4) (.cons (.int 0) .nil)))) (.op2 .mod (.var 3) (.int 3))) .nil))) (.cons (.tup (.cons (.str "free") (.cons (.int 5) .nil))) (.cons (.tup (.cons (.str "free") (.cons (.op2 .item (.lst (.cons (.int 5) (.cons (.int 4) (.cons (.int 0) .nil)))) (.op2 .mod (.var 3) (.int 3))) .nil))) .nil)))))) .nil))))))))))⟩
noncomputable def f_law_spoilt_worker : FnI := ⟨"_law_spoilt_worker", ["_law_workers_here", "_law_number"], (.cons (.asg 2 (.op2 .mod (.var 1) (.op1 .len (.var 0)))) (.cons (.asg 3 (.op2 .item (.var 0) (.var 2))) (.cons (.asg 4 (.op2 .mod (.op2 .fdiv (.var 1) (.int 9)) (.int 6))) (.cons (.asg 5 (.op2 .fdiv (.var 1) (.int 54))) (.cons (.ite (.op2 .eq (.var 4) (.int 0)) (.cons (.asg 3 (.op2 .item (.lst (.cons (.op1 .listOf (.var 3)) (.cons (.op2 .sliceTo (.var 3) (.int 2)) (.cons (.op2 .add (.var 3) (.tup (.cons (.int 0) .nil))) (.cons .none (.cons (.int 5) .nil)))))) (.op2 .mod (.var 5) (.int 5)))) .nil) .nil) (.cons (.ite (.op2 .eq (.var 4) (.int 1)) (.cons (.asg 6 (.lst (.cons (.int 0) (.cons (.op1 .neg (.int 5)) (.cons (.op2 .add (.op2 .add (.op2 .pow (.int 10) (.int 6)) (.int 1)) (.op2 .mul (.op2 .mod (.op2 .fdiv (.var 5) (.int 54)) (.int 2)) (.var 5))) (.cons (.bool true) (.cons .none (.cons (.op2 .item (.op2 .item (.var 0) (.op2 .mod (.var 5) (.op1 .len (.var 0)))) (.int 0)) .nil)))))))) (.cons (.asg 3 (.tup (.cons (.op2 .item (.var 6) (.op2 .mod (.op2 .fdiv (.var 5) (.int 9)) (.int 6))) (.cons (.op2 .item (.var 3) (.int 1)) (.cons (.op2 .item (.var 3) (.int 2)) .nil))))) .nil)) .nil) (.cons (.ite (.op2 .eq (.var 4) (.int 2)) (.cons (.asg 3 (.tup (.cons (.op2 .item (.var 3) (.int 0)) (.cons (.op2 .item (.lst (.cons (.op1 .neg (.int 1)) (.cons (.op2 .add (.int 1001) (.op2 .mul (.op2 .mod (.op2 .fdiv (.var 5) (.int 5)) (.int 2)) (.var 5))) (.cons (.bool false) (.cons .none (.cons (.int 1000) .nil)))))) (.op2 .mod (.var 5) (.int 5))) (.cons (.op2 .item (.var 3) (.int 2)) .nil))))) .nil) .nil) (.cons (.ite (.op2 .gt (.var 4) (.int 2)) (.cons (.asg 3 (.tup (.cons (.op2 .item (.var 3) (.int 0)) (.cons (.op2 .item (.var 3) (.int 1)) (.cons (.call "_law_bad_plan" (.cons (.op2 .item (.var 3) (.int 2)) (.cons (.var 5) .nil))) .nil))))) .nil) .nil) (.cons (.ret (.op2 .add (.op2 .add (.op2 .sliceTo (.var 0) (.var 2)) (.lst (.cons (.var 3) .nil))) (.op2 .sliceFrom (.var 0) (.op2 .add (.var 2) (.int 1))))) .nil)))))))))⟩
noncomputable def f_law_built : FnI := ⟨"_law_built", ["_law_script"], (.cons (.asg 1 (.call "_law_workers" (.cons (.var 0) (.cons (.int 20) (.cons (.int 1001) .nil))))) (.cons (.asg 2 (.call "_law_cell_at" (.cons (.var 0) (.cons (.int 18) .nil)))) (.cons (.ite (.op2 .gt (.op2 .mod (.var 2) (.int 4)) (.int 0)) (.cons (.asg 1 (.call "_law_spoilt_worker" (.cons (.var 1) (.cons (.call "_law_mixed" (.cons (.call "_law_cell_at" (.cons (.var 0) (.cons (.int 19) .nil))) (.cons (.int 5) .nil))) .nil)))) .nil) .nil) (.cons (.ite (.and (.op2 .eq (.op2 .mod (.var 2) (.int 4)) (.int 3)) (.op1 .all (.comp 3 (.and (.op1 (.isI .tuple) (.var 3)) (.op2 .eq (.op1 .len (.var 3)) (.int 3))) (.var 1) (.bool true)))) (.cons (.ite (.op1 .all (.comp 4 (.op1 (.isI .list) (.op2 .item (.var 4) (.int 2))) (.var 1) (.bool true))) (.cons (.asg 1 (.call "_law_spoilt_worker" (.cons (.var 1) (.cons (.call "_law_mixed" (.cons (.call "_law_cell_at" (.cons (.var 0) (.cons (.int 20) .nil))) (.cons (.int 6) .nil))) .nil)))) .nil) .nil) .nil) .nil) (.cons (.ite (.op2 .eq (.op2 .mod (.op2 .fdiv (.var 2) (.int 4)) (.int 12)) (.int 1)) (.cons (.asg 1 (.op2 .sliceTo (.op2 .mul (.var 1) (.int 9)) (.int 9))) .nil) .nil) (.cons (.ite (.op2 .eq (.op2 .mod (.op2 .fdiv (.var 2) (.int 4)) (.int 12)) (.int 2)) (.cons (.asg 1 (.lst .nil)) .nil) .nil) (.cons (.ret (.var 1)) .nil)))))))⟩
noncomputable def Ss.rest : Ss → Ss
  | .cons _ ss => ss
  | .nil => .nil
noncomputable def FnI.tail3 (f : FnI) : Ss := f.ir.rest.rest.rest
theorem bit2 (m : Int) : bitOk (m.fmod 2) := by
  rw [fmod_pos (by decide)]
  have := Int.emod_nonneg m (b := 2) (by decide)
  have := Int.emod_lt_of_pos m (b := 2) (by decide)
  exact ⟨by omega, by omega⟩
noncomputable def pairT (x : String) (d : PyData) : PyData := .tuple [.str (Str.ofString x), d]
noncomputable def badL (m : Int) : List PyData := [pairT "work" (.int 0), pairT "work" (.int (101 + m.fmod 2 * m)), pairT "hold" (.int (10 + m.fmod 2 * m)), pairT "hold" (.int (-1)), pairT "Work" (.int 1), pairT "works" (.int 1), pairT "hol" (.int 1), pairT "work" (.bool true), .tuple [.str (Str.ofString "work"), .int 1, .int 1], .list [.str (Str.ofString "work"), .int 1], .str (Str.ofString "work"), pairT "work" .none, .tuple [.int 5, .int 5]]
theorem badL_sm {m : Int} : ∀ x ∈ badL m, Sm 50000 1 x := by
  intro x hx
  simp only [badL, List.mem_cons, List.not_mem_nil, or_false] at hx
  have two : ∀ {a b : PyData}, Sm 50000 0 a → Sm 50000 0 b → ([a, b] : List PyData).length ≤ 50000 ∧ ∀ x ∈ [a, b], Sm 50000 0 x := fun h1 h2 => ⟨show 2 ≤ 50000 by decide, fun x hx => by simp at hx; rcases hx with rfl | rfl; exact h1; exact h2⟩
  rcases hx with rfl | rfl | rfl | rfl | rfl | rfl | rfl | rfl | rfl | rfl | rfl | rfl | rfl
  all_goals first
    | exact two trivial trivial
    | trivial
    | exact ⟨by decide, fun x hx => by simp at hx; rcases hx with rfl | rfl | rfl <;> trivial⟩
    | exact ⟨by decide, fun x hx => by simp at hx; rcases hx with rfl | rfl <;> trivial⟩
theorem pair_rd {H : AHeap} {x : String} {v : V} {d : PyData} (r : RD H v d) : RD H (.tup [.str (Str.ofString x), v]) (pairT x d) := .tup (.cons (.str _) (.cons r .nil))
theorem bad_step_ex (h : Has P f_law_bad_step) (n : Int) : ∃ D, Sm 50000 1 D ∧ ∀ {d : Nat} {Q : V → AHeap → Prop} {X : Nat → AHeap → Prop} {H : AHeap}, (∀ v H', Ext H H' → RD H' v D → Q v H') → Call P d "_law_bad_step" [.int n] Q X H := by
  obtain ⟨k, hk, ek⟩ : ∃ k : Nat, k < 13 ∧ n % 13 = (k : Int) := ⟨(n % 13).toNat, by omega, by omega⟩
  have hkl : k < (badL (n.fdiv 12)).length := hk
  refine ⟨(badL (n.fdiv 12))[k], badL_sm _ (List.getElem_mem hkl), fun {d Q X H} q => ?_⟩
  refine h rfl ⟨by decide, by decide, lim2, by decide, .inl (bit2 _), lim2, by decide, .inl (bit2 _), lim2, lim2, show 4 ≤ Lim by decide, fun l1 k1 => gen k1 fun H1 E1 c1 => ?_⟩
  refine ⟨lim2, lim2, lim2, fun l2 k2 => gen k2 fun H2 E2 c2 => ⟨_, _, E2 _ _ c1, c2, show 6 ≤ Lim by decide, fun l3 k3 => gen k3 fun H3 E3 c3 => ?_⟩⟩
  refine ⟨lim2, lim2, lim3, lim2, fun l4 k4 => gen k4 fun H4 E4 c4 => ⟨lim2, lim2, show 7 ≤ Lim by decide, fun l5 k5 => gen k5 fun H5 E5 c5 => ⟨_, _, E5 _ _ (E4 _ _ c3), c5, show 13 ≤ Lim by decide, fun l6 k6 => gen k6 fun H6 E6 c6 => ⟨by decide, ?_⟩⟩⟩⟩
  rw [fmod_pos (by decide), ek]
  refine ⟨_, k, _, c6, idx_nat hk, List.getElem?_eq_getElem hk, q _ H6 (((((E1.trans E2).trans E3).trans E4).trans E5).trans E6) ?_⟩
  refine RDs.get (vs := _) (ds := badL (n.fdiv 12)) ?_ (List.getElem?_eq_getElem hk) (List.getElem?_eq_getElem hkl)
  have g4 := E6 _ _ (E5 _ _ c4)
  exact .cons (pair_rd (.int _)) (.cons (pair_rd (.int _)) (.cons (pair_rd (.int _)) (.cons (pair_rd (.int _)) (.cons (pair_rd (.int _)) (.cons (pair_rd (.int _)) (.cons (pair_rd (.int _)) (.cons (pair_rd (.bool _)) (.cons (.tup (.cons (.str _) (.cons (.int _) (.cons (.int _) .nil)))) (.cons (.lst g4 (.cons (.str _) (.cons (.int _) .nil))) (.cons (.str _) (.cons (pair_rd .none) (.cons (.tup (.cons (.int _) (.cons (.int _) .nil))) .nil))))))))))))
theorem sm_list {ds : List PyData} {n : Nat} (h : ds.length ≤ 50000) (h2 : ∀ x ∈ ds, Sm 50000 n x) : Sm 50000 (n + 1) (.list ds) := ⟨h, h2⟩
theorem sm_pair (x : String) (i : Int) : Sm 50000 1 (pairT x (.int i)) := ⟨show 2 ≤ 50000 by decide, fun y hy => by simp at hy; rcases hy with rfl | rfl <;> trivial⟩
structure Pl (ps : List PyData) : Prop where
  len : ps.length ≤ 1000
  sm : ∀ x ∈ ps, Sm 50000 1 x
structure PlanOut (ps : List PyData) (D : PyData) : Prop where
  sm : Sm 50000 2 D
  len : ∀ qs, D = .list qs → qs.length ≤ ps.length + 50
theorem plan_out {ps qs : List PyData} (h : Pl ps) (hl : qs.length ≤ ps.length + 50) (hs : ∀ x ∈ qs, Sm 50000 1 x) : PlanOut ps (.list qs) :=
  ⟨sm_list (by have := h.len; omega) hs, fun zz e => by injection e with e; rw [← e]; exact hl⟩
theorem Pl.cut {ps : List PyData} (h : Pl ps) (i : Nat) {ms : List PyData} (hm : ∀ x ∈ ms, Sm 50000 1 x) : ∀ x ∈ ps.take i ++ ms ++ ps.drop i, Sm 50000 1 x := fun x hx => by
  rcases List.mem_append.mp hx with q | q
  · rcases List.mem_append.mp q with q | q
    · exact h.sm x (List.mem_of_mem_take q)
    · exact hm x q
  · exact h.sm x (List.mem_of_mem_drop q)
theorem bad_plan_ex (h : Has P f_law_bad_plan) (hb : Has P f_law_bad_step) {ps : List PyData} (hp : Pl ps) (n : Int) : ∃ D, PlanOut ps D ∧ ∀ {d : Nat} {Q : V → AHeap → Prop} {X : Nat → AHeap → Prop} {H : AHeap} {p : Addr} {vs : List V}, H p = some (.list vs) → RDs H vs ps → (∀ v H', Ext H H' → RD H' v D → Q v H') → Call P (d + 1) "_law_bad_plan" [.lst p, .int n] Q X H := by
  have hl := hp.len
  obtain ⟨m, em⟩ : ∃ m, n.fdiv 7 = m := ⟨_, rfl⟩
  obtain ⟨t, ht, et⟩ : ∃ t : Nat, t ≤ ps.length ∧ m % ((ps.length : Int) + 1) = (t : Int) := by
    have h1 := Int.emod_nonneg m (b := (ps.length : Int) + 1) (by omega)
    have h2 := Int.emod_lt_of_pos m (b := (ps.length : Int) + 1) (by omega)
    exact ⟨(m % ((ps.length : Int) + 1)).toNat, by omega, by omega⟩
  have pre : ∀ {d : Nat} {Q : V → AHeap → Prop} {X : Nat → AHeap → Prop} {H : AHeap} {p : Addr} {vs : List V}, H p = some (.list vs) → RDs H vs ps → vSs P (d + 1) (fun c zz H => X c H) f_law_bad_plan.tail3 (retQ Q) (Ro.upd (Ro.upd (Ro.upd (fun i => [V.lst p, .int n][i]?) 2 (.int (n % 7))) 3 (.int m)) 4 (.int t)) H → Call P (d + 1) "_law_bad_plan" [.lst p, .int n] Q X H := fun {d Q X H p vs} hA hR k => by
    have hl' := hR.len
    refine h rfl ⟨by decide, by decide, by decide, _, hA, by omega, ?_⟩
    have e1 : n.fmod 7 = n % 7 := fmod_pos (by decide)
    have e2 : m.fmod ((vs.length : Int) + 1) = (t : Int) := by rw [fmod_pos (by omega), hl', et]
    rw [e1, em, e2]
    exact k
  have w1 : ∀ {x : String} {i : Int}, ∀ y ∈ [pairT x (.int i)], Sm 50000 1 y := fun {x i} y hy => by rw [List.mem_singleton.mp hy]; exact sm_pair x i
  have lens : ∀ {vs : List V}, vs.length = ps.length → vs.length ≤ Lim := fun e => by rw [e]; exact Nat.le_trans hl (by decide)
  by_cases c0 : n % 7 = 0
  · obtain ⟨k, hk, ek⟩ : ∃ k : Nat, k < 5 ∧ m % 5 = (k : Int) := ⟨(m % 5).toNat, by omega, by omega⟩
    have hk' : k < [PyData.list [], .tuple ps, .none, .str (Str.ofString "plan"), .list (ps ++ (List.replicate 41 [pairT "work" (.int 1)]).flatten)].length := hk
    refine ⟨[PyData.list [], .tuple ps, .none, .str (Str.ofString "plan"), .list (ps ++ (List.replicate 41 [pairT "work" (.int 1)]).flatten)][k], ?_, fun {d Q X H p vs} hA hR q => pre hA hR ?_⟩
    · match k, hk with
      | 0, _ => exact plan_out hp (Nat.zero_le _) fun zz h => (nomatch h)
      | 1, _ => exact ⟨⟨by omega, hp.sm⟩, fun zz e => by cases e⟩
      | 2, _ => exact ⟨trivial, fun zz e => by cases e⟩
      | 3, _ => exact ⟨trivial, fun zz e => by cases e⟩
      | 4, _ =>
        refine plan_out hp (by rw [List.length_append, List.length_flatten, List.map_replicate, List.sum_replicate_nat]; show _ + 41 * 1 ≤ _; omega) fun x hx => ?_
        rcases List.mem_append.mp hx with q | q
        · exact hp.sm x q
        · obtain ⟨l, hl, hx⟩ := List.mem_flatten.mp q
          rw [(List.mem_replicate.mp hl).2] at hx
          exact w1 x hx
    · rw [c0]
      have hl' := hR.len
      refine ⟨_, eq_int _ _, fun zz => ⟨Nat.zero_le _, fun l0 k0 => gen k0 fun H1 E1 b0 => ⟨_, E1 _ _ hA, lim2, lim1, fun l1 k1 => gen k1 fun H2 E2 b1 => ⟨_, b1, by decide, by rw [List.length_flatten, List.map_replicate, List.sum_replicate_nat]; show _ * 1 ≤ _; decide, fun l2 k2 => gen k2 fun H3 E3 b2 => ⟨_, _, E3 _ _ (E2 _ _ (E1 _ _ hA)), b2, ?_, fun l3 k3 => gen k3 fun H4 E4 b3 => ⟨show 5 ≤ Lim by decide, fun l4 k4 => gen k4 fun H5 E5 b4 => ⟨by decide, ?_⟩⟩⟩⟩⟩⟩, nc'⟩
      · rw [List.length_append, List.length_flatten, List.map_replicate, List.sum_replicate_nat]; show _ + 41 * 1 ≤ _; unfold Lim; omega
      · rw [fmod_pos (by decide), ek]
        have F5 := (((E1.trans E2).trans E3).trans E4).trans E5
        refine ⟨_, k, _, b4, idx_nat hk, List.getElem?_eq_getElem hk, q _ H5 F5 (RDs.get (vs := _) (ds := [PyData.list [], .tuple ps, .none, .str (Str.ofString "plan"), .list (ps ++ (List.replicate 41 [pairT "work" (.int 1)]).flatten)]) ?_ (List.getElem?_eq_getElem hk) (List.getElem?_eq_getElem hk'))⟩
        have rep : ∀ j : Nat, RDs H5 (List.replicate j [V.tup [.str (Str.ofString "work"), .int 1]]).flatten (List.replicate j [pairT "work" (.int 1)]).flatten := fun j => by
          induction j with
          | zero => exact .nil
          | succ j ih => rw [List.replicate_succ, List.replicate_succ, List.flatten_cons, List.flatten_cons]; exact (RDs.cons (pair_rd (.int _)) .nil).app ih
        exact .cons (.lst (E5 _ _ (E4 _ _ (E3 _ _ (E2 _ _ b0)))) .nil) (.cons (.tup (hR.mono F5)) (.cons .none (.cons (.str _) (.cons (.lst (E5 _ _ b3) ((hR.mono F5).app (rep 41))) .nil))))
  · by_cases c1 : n % 7 = 1
    · obtain ⟨B, smB, hB⟩ := bad_step_ex hb (m.fdiv 40)
      refine ⟨.list (ps.take t ++ [B] ++ ps.drop t), plan_out hp (by rw [List.length_append, List.length_append, List.length_take, List.length_drop]; show _ + 1 + _ ≤ _; omega) (hp.cut t fun x hx => by rw [List.mem_singleton.mp hx]; exact smB), fun {d Q X H p vs} hA hR q => pre hA hR ?_⟩
      rw [c1]
      have hl' := hR.len
      have tk : (vs.take t).length ≤ 1000 := Nat.le_trans (List.length_take_le' _ _) (by omega)
      have dk : (vs.drop t).length ≤ 1000 := by rw [List.length_drop]; omega
      refine ⟨_, eq_int _ _, nc, fun zz => nil_intro ⟨_, eq_int _ _, fun zz => ⟨_, hA, nn t, Nat.le_trans tk (by decide), fun l1 k1 => gen k1 fun H1 E1 b1 => ⟨by decide, by decide, hB fun v H2 E2 rv => ⟨lim1, fun l2 k2 => gen k2 fun H3 E3 b2 => ⟨_, _, E3 _ _ (E2 _ _ b1), b2, ?_, fun l3 k3 => gen k3 fun H4 E4 b3 => ?_⟩⟩⟩⟩, nc'⟩⟩
      · show (vs.take t ++ [v]).length ≤ Lim
        rw [List.length_append]; exact Nat.le_trans (Nat.add_le_add_right tk 1) (by decide)
      · have F4 := ((E1.trans E2).trans E3).trans E4
        refine ⟨_, F4 _ _ hA, nn t, Nat.le_trans dk (by decide), fun l4 k4 => gen k4 fun H5 E5 b4 => ⟨_, _, E5 _ _ b3, b4, ?_, fun l5 k5 => gen k5 fun H6 E6 b5 => q _ H6 ((F4.trans E5).trans E6) (.lst b5 ?_)⟩⟩
        · show ((vs.take t ++ [v]) ++ vs.drop t).length ≤ Lim
          rw [List.length_append, List.length_append]; exact Nat.le_trans (Nat.add_le_add (Nat.add_le_add_right tk 1) dk) (by decide)
        · have R6 := hR.mono ((F4.trans E5).trans E6)
          exact ((R6.take t).app (.cons (rv.mono (((E3.trans E4).trans E5).trans E6)) .nil)).app (R6.drop t)
    · by_cases c2 : n % 7 = 2
      · refine ⟨.list (ps ++ [pairT "hold" (.int ((m.fdiv 40).fmod 10))]), plan_out hp (by rw [List.length_append]; show _ + 1 ≤ _; omega) (fun x hx => ?_), fun {d Q X H p vs} hA hR q => pre hA hR ?_⟩
        · rcases List.mem_append.mp hx with q | q
          · exact hp.sm x q
          · exact w1 x q
        · rw [c2]
          have hl' := hR.len
          refine ⟨_, eq_int _ _, nc, fun zz => nil_intro ⟨_, eq_int _ _, nc, fun zz => nil_intro ⟨_, eq_int _ _, fun zz => ⟨by decide, by decide, by decide, lim2, lim1, fun l1 k1 => gen k1 fun H1 E1 b1 => ⟨_, _, E1 _ _ hA, b1, ?_, fun l2 k2 => gen k2 fun H2 E2 b2 => q _ H2 (E1.trans E2) (.lst b2 ((hR.mono (E1.trans E2)).app (.cons (pair_rd (.int _)) .nil)))⟩⟩, nc'⟩⟩⟩
          rw [List.length_append]; exact Nat.le_trans (Nat.add_le_add_right (by omega : vs.length ≤ 1000) 1) (by decide)
      · by_cases c3 : n % 7 = 3
        · refine ⟨.list (ps.take t ++ [pairT "free" (.int ((m.fdiv 40).fmod 10))] ++ ps.drop t), plan_out hp (by rw [List.length_append, List.length_append, List.length_take, List.length_drop]; show _ + 1 + _ ≤ _; omega) (hp.cut t w1), fun {d Q X H p vs} hA hR q => pre hA hR ?_⟩
          rw [c3]
          have hl' := hR.len
          have tk : (vs.take t).length ≤ 1000 := Nat.le_trans (List.length_take_le' _ _) (by omega)
          have dk : (vs.drop t).length ≤ 1000 := by rw [List.length_drop]; omega
          refine ⟨_, eq_int _ _, nc, fun zz => nil_intro ⟨_, eq_int _ _, nc, fun zz => nil_intro ⟨_, eq_int _ _, nc, fun zz => nil_intro ⟨_, eq_int _ _, fun zz => ⟨_, hA, nn t, Nat.le_trans tk (by decide), fun l1 k1 => gen k1 fun H1 E1 b1 => ⟨by decide, by decide, by decide, lim2, lim1, fun l2 k2 => gen k2 fun H3 E3 b2 => ⟨_, _, E3 _ _ b1, b2, ?_, fun l3 k3 => gen k3 fun H4 E4 b3 => ?_⟩⟩⟩, nc'⟩⟩⟩⟩
          · rw [List.length_append]; exact Nat.le_trans (Nat.add_le_add_right tk 1) (by decide)
          · have F4 := (E1.trans E3).trans E4
            refine ⟨_, F4 _ _ hA, nn t, Nat.le_trans dk (by decide), fun l4 k4 => gen k4 fun H5 E5 b4 => ⟨_, _, E5 _ _ b3, b4, ?_, fun l5 k5 => gen k5 fun H6 E6 b5 => q _ H6 ((F4.trans E5).trans E6) (.lst b5 ?_)⟩⟩
            · rw [List.length_append, List.length_append]; exact Nat.le_trans (Nat.add_le_add (Nat.add_le_add_right tk 1) dk) (by decide)
            · have R6 := hR.mono ((F4.trans E5).trans E6)
              exact ((R6.take t).app (.cons (pair_rd (.int _)) .nil)).app (R6.drop t)
        · by_cases c4 : n % 7 = 4
          · refine ⟨.list (ps.take t ++ ps.drop (t + 1) ++ [pairT "work" (.int 1)]), plan_out hp (by rw [List.length_append, List.length_append, List.length_take, List.length_drop]; show _ + _ + 1 ≤ _; omega) (fun x hx => ?_), fun {d Q X H p vs} hA hR q => pre hA hR ?_⟩
            · rcases List.mem_append.mp hx with q | q
              · rcases List.mem_append.mp q with q | q
                · exact hp.sm x (List.mem_of_mem_take q)
                · exact hp.sm x (List.mem_of_mem_drop q)
              · exact w1 x q
            · rw [c4]
              have hl' := hR.len
              have tk : (vs.take t).length ≤ 1000 := Nat.le_trans (List.length_take_le' _ _) (by omega)
              have dk : (vs.drop (t + 1)).length ≤ 1000 := by rw [List.length_drop]; omega
              refine ⟨_, eq_int _ _, nc, fun zz => nil_intro ⟨_, eq_int _ _, nc, fun zz => nil_intro ⟨_, eq_int _ _, nc, fun zz => nil_intro ⟨_, eq_int _ _, nc, fun zz => nil_intro ⟨_, eq_int _ _, fun zz => ⟨_, hA, nn t, Nat.le_trans tk (by decide), fun l1 k1 => gen k1 fun H1 E1 b1 => ⟨_, E1 _ _ hA, nn (t + 1), Nat.le_trans dk (by decide), fun l2 k2 => gen k2 fun H3 E3 b2 => ⟨_, _, E3 _ _ b1, b2, ?_, fun l3 k3 => gen k3 fun H4 E4 b3 => ⟨lim2, lim1, fun l4 k4 => gen k4 fun H5 E5 b4 => ⟨_, _, E5 _ _ b3, b4, ?_, fun l5 k5 => gen k5 fun H6 E6 b5 => ?_⟩⟩⟩⟩⟩, nc'⟩⟩⟩⟩⟩
              · show (vs.take t ++ vs.drop (t + 1)).length ≤ Lim
                rw [List.length_append]; exact Nat.le_trans (Nat.add_le_add tk dk) (by decide)
              · show ((vs.take t ++ vs.drop (t + 1)) ++ [_]).length ≤ Lim
                rw [List.length_append, List.length_append]; exact Nat.le_trans (Nat.add_le_add_right (Nat.add_le_add tk dk) 1) (by decide)
              · have F6 := (((E1.trans E3).trans E4).trans E5).trans E6
                have R6 := hR.mono F6
                exact q _ H6 F6 (.lst b5 (((R6.take t).app (R6.drop (t + 1))).app (.cons (pair_rd (.int _)) .nil)))
          · by_cases c5 : n % 7 = 5
            · refine ⟨.list (ps.take t ++ [pairT "hold" (.int ((m.fdiv 40).fmod 10))] ++ ps.drop t ++ [pairT "free" (.int ((m.fdiv 40).fmod 10))]), plan_out hp (by rw [List.length_append, List.length_append, List.length_append, List.length_take, List.length_drop]; show _ + 1 + _ + 1 ≤ _; omega) (fun x hx => ?_), fun {d Q X H p vs} hA hR q => pre hA hR ?_⟩
              · rcases List.mem_append.mp hx with q | q
                · exact hp.cut t w1 x q
                · exact w1 x q
              · rw [c5]
                have hl' := hR.len
                have tk : (vs.take t).length ≤ 1000 := Nat.le_trans (List.length_take_le' _ _) (by omega)
                have dk : (vs.drop t).length ≤ 1000 := by rw [List.length_drop]; omega
                refine ⟨_, eq_int _ _, nc, fun zz => nil_intro ⟨_, eq_int _ _, nc, fun zz => nil_intro ⟨_, eq_int _ _, nc, fun zz => nil_intro ⟨_, eq_int _ _, nc, fun zz => nil_intro ⟨_, eq_int _ _, nc, fun zz => nil_intro ⟨_, eq_int _ _, fun zz => ⟨_, hA, nn t, Nat.le_trans tk (by decide), fun l1 k1 => gen k1 fun H1 E1 b1 => ⟨by decide, by decide, by decide, lim2, lim1, fun l2 k2 => gen k2 fun H3 E3 b2 => ⟨_, _, E3 _ _ b1, b2, ?_, fun l3 k3 => gen k3 fun H4 E4 b3 => ?_⟩⟩⟩, nc'⟩⟩⟩⟩⟩⟩
                · rw [List.length_append]; exact Nat.le_trans (Nat.add_le_add_right tk 1) (by decide)
                · have F4 := (E1.trans E3).trans E4
                  refine ⟨_, F4 _ _ hA, nn t, Nat.le_trans dk (by decide), fun l4 k4 => gen k4 fun H5 E5 b4 => ⟨_, _, E5 _ _ b3, b4, ?_, fun l5 k5 => gen k5 fun H6 E6 b5 => ⟨by decide, by decide, by decide, lim2, lim1, fun l6 k6 => gen k6 fun H7 E7 b6 => ⟨_, _, E7 _ _ b5, b6, ?_, fun l7 k7 => gen k7 fun H8 E8 b7 => ?_⟩⟩⟩⟩
                  · rw [List.length_append, List.length_append]; exact Nat.le_trans (Nat.add_le_add (Nat.add_le_add_right tk 1) dk) (by decide)
                  · rw [List.length_append, List.length_append, List.length_append]; exact Nat.le_trans (Nat.add_le_add_right (Nat.add_le_add (Nat.add_le_add_right tk 1) dk) 1) (by decide)
                  · have F8 := (((F4.trans E5).trans E6).trans E7).trans E8
                    have R8 := hR.mono F8
                    exact q _ H8 F8 (.lst b7 ((((R8.take t).app (.cons (pair_rd (.int _)) .nil)).app (R8.drop t)).app (.cons (pair_rd (.int _)) .nil)))
            · obtain ⟨k, hk, ek⟩ : ∃ k : Nat, k < 3 ∧ m % 3 = (k : Int) := ⟨(m % 3).toNat, by omega, by omega⟩
              have c6 : n % 7 = 6 := by omega
              obtain ⟨g, eg⟩ : ∃ g : Int, [V.int 5, V.int 4, V.int 0][k]? = some (.int g) := by
                match k, hk with
                | 0, _ => exact ⟨5, rfl⟩
                | 1, _ => exact ⟨4, rfl⟩
                | 2, _ => exact ⟨0, rfl⟩
              refine ⟨.list [pairT "hold" (.int 5), pairT "hold" (.int g), pairT "free" (.int 5), pairT "free" (.int g)], plan_out hp (show 4 ≤ _ by omega) (fun x hx => ?_), fun {d Q X H p vs} hA hR q => pre hA hR ?_⟩
              · simp only [List.mem_cons, List.not_mem_nil, or_false] at hx
                rcases hx with rfl | rfl | rfl | rfl <;> exact sm_pair _ _
              · rw [c6]
                refine ⟨_, eq_int _ _, nc, fun zz => nil_intro ⟨_, eq_int _ _, nc, fun zz => nil_intro ⟨_, eq_int _ _, nc, fun zz => nil_intro ⟨_, eq_int _ _, nc, fun zz => nil_intro ⟨_, eq_int _ _, nc, fun zz => nil_intro ⟨_, eq_int _ _, nc, fun zz => nil_intro ⟨lim2, lim3, fun l1 k1 => gen k1 fun H1 E1 b1 => ⟨by decide, ?_⟩⟩⟩⟩⟩⟩⟩⟩
                rw [fmod_pos (by decide), ek]
                refine ⟨_, k, _, b1, idx_nat hk, eg, lim2, lim2, lim3, fun l2 k2 => gen k2 fun H2 E2 b2 => ⟨by decide, ?_⟩⟩
                rw [fmod_pos (by decide), ek]
                exact ⟨_, k, _, b2, idx_nat hk, eg, lim2, show 4 ≤ Lim by decide, fun l3 k3 => gen k3 fun H3 E3 b3 => q _ H3 ((E1.trans E2).trans E3) (.lst b3 (.cons (pair_rd (.int _)) (.cons (pair_rd (.int _)) (.cons (pair_rd (.int _)) (.cons (pair_rd (.int _)) .nil)))))⟩
end
end Mine

namespace Mine
section
open PySem PySem.Calls PyProof.Rows
variable {P : Cx}
structure Wk3 (L : Nat) (D : PyData) : Prop where
  sm : Sm 50000 3 D
  len : ∀ r s ps, D = .tuple [r, s, .list ps] → ps.length ≤ L
noncomputable def Is3 (D : PyData) : Prop := ∃ r s ps, D = .tuple [r, s, .list ps]
theorem Wk3.more {L M : Nat} (h : L ≤ M) {D : PyData} (w : Wk3 L D) : Wk3 M D := ⟨w.sm, fun r s ps e => Nat.le_trans (w.len r s ps e) h⟩
theorem sm_three {n : Nat} {x y z : PyData} (h1 : Sm 50000 n x) (h2 : Sm 50000 n y) (h3 : Sm 50000 n z) : Sm 50000 (n + 1) (.tuple [x, y, z]) := ⟨show 3 ≤ 50000 by decide, fun w hw => by simp at hw; rcases hw with rfl | rfl | rfl; exact h1; exact h2; exact h3⟩
noncomputable def FnI.tail4 (f : FnI) : Ss := f.ir.rest.rest.rest.rest
noncomputable def FnI.tail8 (f : FnI) : Ss := f.tail4.rest.rest.rest.rest
theorem spoil_ex (h : Has P f_law_spoilt_worker) (hbp : Has P f_law_bad_plan) (hbs : Has P f_law_bad_step) {ds : List PyData} {L : Nat} (hL : L ≤ 900) (hd : ∀ D ∈ ds, Wk3 L D ∧ Is3 D) (hn : 1 ≤ ds.length ∧ ds.length ≤ 8) (n : Int) :
    ∃ es, es.length = ds.length ∧ (∀ D ∈ es, Wk3 (L + 50) D) ∧ ∀ {d : Nat} {Q : V → AHeap → Prop} {X : Nat → AHeap → Prop} {H : AHeap} {a : Addr} {vs : List V}, H a = some (.list vs) → RDs H vs ds → (∀ b us H', Ext H H' → H' b = some (.list us) → RDs H' us es → Q (.lst b) H') → Call P (d + 2) "_law_spoilt_worker" [.lst a, .int n] Q X H := by
  obtain ⟨k, hk, ek⟩ : ∃ k : Nat, k < ds.length ∧ n % (ds.length : Int) = (k : Int) := by
    have h1 := Int.emod_nonneg n (b := (ds.length : Int)) (by omega)
    have h2 := Int.emod_lt_of_pos n (b := (ds.length : Int)) (by omega)
    exact ⟨(n % (ds.length : Int)).toNat, by omega, by omega⟩
  obtain ⟨w, ew⟩ : ∃ w, n / 9 % 6 = w := ⟨_, rfl⟩
  obtain ⟨m, em⟩ : ∃ m, n.fdiv 54 = m := ⟨_, rfl⟩
  obtain ⟨wk, r, s, ps, eD⟩ := hd _ (List.getElem_mem hk)
  have hpl := wk.len r s ps eD
  have wsm := wk.sm
  rw [eD] at wsm
  have smr := wsm.2 r (by simp)
  have sms := wsm.2 s (by simp)
  have smp := wsm.2 (.list ps) (by simp)
  have pl : Pl ps := ⟨by omega, smp.2⟩
  have outs : ∀ {D : PyData}, Wk3 (L + 50) D → (ds.take k ++ [D] ++ ds.drop (k + 1)).length = ds.length ∧ ∀ E ∈ ds.take k ++ [D] ++ ds.drop (k + 1), Wk3 (L + 50) E := fun {D} hD => by
    refine ⟨by rw [List.length_append, List.length_append, List.length_take, List.length_drop]; show _ + 1 + _ = _; omega, fun E hE => ?_⟩
    rcases List.mem_append.mp hE with q | q
    · rcases List.mem_append.mp q with q | q
      · exact (hd E (List.mem_of_mem_take q)).1.more (by omega)
      · rw [List.mem_singleton.mp q]; exact hD
    · exact (hd E (List.mem_of_mem_drop q)).1.more (by omega)
  have pre : ∀ {d : Nat} {Q : V → AHeap → Prop} {X : Nat → AHeap → Prop} {H : AHeap} {a : Addr} {vs : List V}, H a = some (.list vs) → RDs H vs ds → (∀ x y p us, RD H x r → RD H y s → H p = some (.list us) → RDs H us ps → vSs P (d + 2) (fun c zz H => X c H) f_law_spoilt_worker.tail4 (retQ Q) (Ro.upd (Ro.upd (Ro.upd (Ro.upd (fun i => [V.lst a, .int n][i]?) 2 (.int k)) 3 (.tup [x, y, .lst p])) 4 (.int w)) 5 (.int m)) H) → Call P (d + 2) "_law_spoilt_worker" [.lst a, .int n] Q X H := fun {d Q X H a vs} hA hR kk => by
    have hl' := hR.len
    have hkv : k < vs.length := by omega
    have rk := hR.get (List.getElem?_eq_getElem hkv) (List.getElem?_eq_getElem hk)
    rw [eD] at rk
    obtain ⟨v, hv⟩ : ∃ v, v = vs[k] := ⟨_, rfl⟩
    rw [← hv] at rk
    cases rk with
    | tup rs =>
      cases rs with
      | cons r1 rs => cases rs with
        | cons r2 rs => cases rs with
          | cons r3 rs =>
            cases rs
            cases r3 with
            | lst hp r4 =>
              have e2 : n.fmod (vs.length : Int) = (k : Int) := by rw [fmod_pos (by omega), hl', ek]
              refine h rfl ⟨_, hA, by omega, ?_⟩
              rw [e2]
              refine ⟨_, k, _, hA, idx_nat hkv, by rw [List.getElem?_eq_getElem hkv, ← hv], by decide, by decide, by decide, by decide, by decide, ?_⟩
              have e3 : (n.fdiv 9).fmod 6 = w := by rw [fmod_pos (by decide), fdiv_pos (by decide), ew]
              rw [e3, em]
              exact kk _ _ _ _ r1 r2 hp r4
  have fin : ∀ {d : Nat} {Q : V → AHeap → Prop} {X : Nat → AHeap → Prop} {H H2 : AHeap} {a : Addr} {vs : List V} {v : V} {D : PyData} {ρ : Ro}, H a = some (.list vs) → RDs H vs ds → (∀ b us H', Ext H H' → H' b = some (.list us) → RDs H' us (ds.take k ++ [D] ++ ds.drop (k + 1)) → Q (.lst b) H') → ρ 0 = some (.lst a) → ρ 2 = some (.int k) → ρ 3 = some v → Ext H H2 → RD H2 v D → vSs P (d + 2) (fun c zz H => X c H) f_law_spoilt_worker.tail8 (retQ Q) ρ H2 := fun {d Q X H H2 a vs v D ρ} hA hR q r0 r2 r3 E rv => by
    have hl' := hR.len
    have tk : (vs.take k).length ≤ 8 := Nat.le_trans (List.length_take_le' _ _) (by omega)
    have dk : (vs.drop (k + 1)).length ≤ 8 := by rw [List.length_drop]; omega
    rw [← ro_cons r0 (ro_cons r2 (ro_eq r3))]
    refine ⟨_, E _ _ hA, nn k, Nat.le_trans tk (by decide), fun l1 k1 => gen k1 fun H3 E3 b1 => ⟨lim1, fun l2 k2 => gen k2 fun H4 E4 b2 => ⟨_, _, E4 _ _ b1, b2, ?_, fun l3 k3 => gen k3 fun H5 E5 b3 => ?_⟩⟩⟩
    · show (vs.take k ++ [v]).length ≤ Lim
      rw [List.length_append]; exact Nat.le_trans (Nat.add_le_add_right tk 1) (by decide)
    · have F5 := ((E.trans E3).trans E4).trans E5
      refine ⟨_, F5 _ _ hA, nn (k + 1), Nat.le_trans dk (by decide), fun l4 k4 => gen k4 fun H6 E6 b4 => ⟨_, _, E6 _ _ b3, b4, ?_, fun l5 k5 => gen k5 fun H7 E7 b5 => ?_⟩⟩
      · show ((vs.take k ++ [v]) ++ vs.drop (k + 1)).length ≤ Lim
        rw [List.length_append, List.length_append]; exact Nat.le_trans (Nat.add_le_add (Nat.add_le_add_right tk 1) dk) (by decide)
      · have F7 := (F5.trans E6).trans E7
        have R7 := hR.mono F7
        exact q _ _ H7 F7 b5 (((R7.take k).app (.cons (rv.mono ((((E3.trans E4).trans E5).trans E6).trans E7)) .nil)).app (R7.drop (k + 1)))
  by_cases w0 : w = 0
  · obtain ⟨j, hj, ej⟩ : ∃ j : Nat, j < 5 ∧ m % 5 = (j : Int) := ⟨(m % 5).toNat, by omega, by omega⟩
    have hj' : j < [PyData.list [r, s, .list ps], .tuple [r, s], .tuple [r, s, .list ps, .int 0], .none, .int 5].length := hj
    have wD : Wk3 (L + 50) [PyData.list [r, s, .list ps], .tuple [r, s], .tuple [r, s, .list ps, .int 0], .none, .int 5][j] := by
      match j, hj with
      | 0, _ => exact ⟨⟨show 3 ≤ 50000 by decide, wsm.2⟩, fun zz zz zz e => by cases e⟩
      | 1, _ => exact ⟨⟨show 2 ≤ 50000 by decide, fun x hx => wsm.2 x (by simp at hx ⊢; rcases hx with rfl | rfl; exact .inl rfl; exact .inr (.inl rfl))⟩, fun zz zz zz e => by cases e⟩
      | 2, _ => exact ⟨⟨show 4 ≤ 50000 by decide, fun x hx => by simp at hx; rcases hx with rfl | rfl | rfl | rfl; exact smr; exact sms; exact smp; trivial⟩, fun zz zz zz e => by cases e⟩
      | 3, _ => exact ⟨trivial, fun zz zz zz e => by cases e⟩
      | 4, _ => exact ⟨trivial, fun zz zz zz e => by cases e⟩
    refine ⟨_, (outs wD).1, (outs wD).2, fun {d Q X H a vs} hA hR q => pre hA hR fun x y p us rx ry hp rp => ?_⟩
    rw [w0]
    refine ⟨_, eq_int _ _, fun zz => ⟨lim3, fun l1 k1 => gen k1 fun H1 E1 b1 => ⟨⟨rfl, rfl⟩, lim1, ⟨by simp, by simp, show 4 ≤ 100 by decide⟩, show 5 ≤ Lim by decide, fun l2 k2 => gen k2 fun H2 E2 b2 => ⟨by decide, ?_⟩⟩⟩, nc'⟩
    rw [fmod_pos (by decide), ej]
    have F2 := E1.trans E2
    refine ⟨_, j, _, b2, idx_nat hj, List.getElem?_eq_getElem hj, nil_intro ⟨_, eq_int _ _, nc, fun zz => nil_intro ⟨_, eq_int _ _, nc, fun zz => nil_intro ⟨nc, fun zz => nil_intro (fin hA hR q rfl rfl rfl F2 ?_)⟩⟩⟩⟩
    refine RDs.get (vs := _) (ds := [PyData.list [r, s, .list ps], .tuple [r, s], .tuple [r, s, .list ps, .int 0], .none, .int 5]) ?_ (List.getElem?_eq_getElem hj) (List.getElem?_eq_getElem hj')
    have rx := rx.mono F2
    have ry := ry.mono F2
    have rz : RD H2 (.lst p) (.list ps) := .lst (F2 _ _ hp) (rp.mono F2)
    exact .cons (.lst (E2 _ _ b1) (.cons rx (.cons ry (.cons rz .nil)))) (.cons (.tup (.cons rx (.cons ry .nil))) (.cons (.tup (.cons rx (.cons ry (.cons rz (.cons (.int _) .nil))))) (.cons .none (.cons (.int _) .nil))))
  · by_cases w1 : w = 1
    · obtain ⟨j, hj, ej⟩ : ∃ j : Nat, j < ds.length ∧ m % (ds.length : Int) = (j : Int) := by
        have h1 := Int.emod_nonneg m (b := (ds.length : Int)) (by omega)
        have h2 := Int.emod_lt_of_pos m (b := (ds.length : Int)) (by omega)
        exact ⟨(m % (ds.length : Int)).toNat, by omega, by omega⟩
      obtain ⟨wj, r', s', ps', eD'⟩ := hd _ (List.getElem_mem hj)
      have smr' : Sm 50000 2 r' := by have := wj.sm; rw [eD'] at this; exact this.2 r' (by simp)
      obtain ⟨i, hi, ei⟩ : ∃ i : Nat, i < 6 ∧ (m / 9) % 6 = (i : Int) := ⟨(m / 9 % 6).toNat, by omega, by omega⟩
      have hi' : i < [PyData.int 0, .int (-5), .int (10 ^ (6 : Int).toNat + 1 + (m.fdiv 54).fmod 2 * m), .bool true, .none, r'].length := hi
      have smX : Sm 50000 2 [PyData.int 0, .int (-5), .int (10 ^ (6 : Int).toNat + 1 + (m.fdiv 54).fmod 2 * m), .bool true, .none, r'][i] := by
        match i, hi with
        | 0, _ => trivial
        | 1, _ => trivial
        | 2, _ => trivial
        | 3, _ => trivial
        | 4, _ => trivial
        | 5, _ => exact smr'
      have wD : Wk3 (L + 50) (.tuple [[PyData.int 0, .int (-5), .int (10 ^ (6 : Int).toNat + 1 + (m.fdiv 54).fmod 2 * m), .bool true, .none, r'][i], s, .list ps]) := ⟨sm_three smX sms smp, fun zz zz qs e => by injection e with e; injection e with _ e; injection e with _ e; injection e with e _; injection e with e; rw [← e]; omega⟩
      refine ⟨_, (outs wD).1, (outs wD).2, fun {d Q X H a vs} hA hR q => pre hA hR fun x y p us rx ry hp rp => ?_⟩
      rw [w1]
      have hl' := hR.len
      have hjv : j < vs.length := by omega
      have rj := hR.get (List.getElem?_eq_getElem hjv) (List.getElem?_eq_getElem hj)
      rw [eD'] at rj
      obtain ⟨v, hv⟩ : ∃ v, v = vs[j] := ⟨_, rfl⟩
      rw [← hv] at rj
      cases rj with
      | tup rs =>
        cases rs with
        | cons r1 rs => cases rs with
          | cons r2 rs => cases rs with
            | cons r3 rs =>
              cases rs
              refine ⟨_, eq_int _ _, nc, fun zz => nil_intro ⟨_, eq_int _ _, fun zz => ⟨⟨rfl, by decide, by decide⟩, by decide, by decide, by decide, .inl (bit2 _), _, hA, by omega, ?_⟩, nc'⟩⟩
              have e2 : m.fmod (vs.length : Int) = (j : Int) := by rw [fmod_pos (by omega), hl', ej]
              rw [e2]
              refine ⟨_, j, _, hA, idx_nat hjv, (List.getElem?_eq_getElem hjv).trans (congrArg some hv.symm), _, _, rfl, rfl, lim3, show 6 ≤ Lim by decide, fun l1 k1 => gen k1 fun H1 E1 b1 => ⟨by decide, by decide, by decide, ?_⟩⟩
              have e3 : (m.fdiv 9).fmod 6 = (i : Int) := by rw [fmod_pos (by decide), fdiv_pos (by decide), ei]
              rw [e3]
              refine ⟨_, i, _, b1, idx_nat hi, List.getElem?_eq_getElem hi, _, _, rfl, rfl, lim3, _, _, rfl, rfl, lim3, lim3, nil_intro ⟨_, eq_int _ _, nc, fun zz => nil_intro ⟨nc, fun zz => nil_intro (fin hA hR q rfl rfl rfl E1 (.tup (.cons ?_ (.cons (ry.mono E1) (.cons (.lst (E1 _ _ hp) (rp.mono E1)) .nil)))))⟩⟩⟩
              exact RDs.get (vs := _) (ds := [PyData.int 0, .int (-5), .int (10 ^ (6 : Int).toNat + 1 + (m.fdiv 54).fmod 2 * m), .bool true, .none, r']) (.cons (.int _) (.cons (.int _) (.cons (.int _) (.cons (.bool _) (.cons .none (.cons (r1.mono E1) .nil)))))) (List.getElem?_eq_getElem hi) (List.getElem?_eq_getElem hi')
    · by_cases w2 : w = 2
      · obtain ⟨i, hi, ei⟩ : ∃ i : Nat, i < 5 ∧ m % 5 = (i : Int) := ⟨(m % 5).toNat, by omega, by omega⟩
        have hi' : i < [PyData.int (-1), .int (1001 + (m.fdiv 5).fmod 2 * m), .bool false, .none, .int 1000].length := hi
        have smX : Sm 50000 2 [PyData.int (-1), .int (1001 + (m.fdiv 5).fmod 2 * m), .bool false, .none, .int 1000][i] := by
          match i, hi with
          | 0, _ => trivial
          | 1, _ => trivial
          | 2, _ => trivial
          | 3, _ => trivial
          | 4, _ => trivial
        have wD : Wk3 (L + 50) (.tuple [r, [PyData.int (-1), .int (1001 + (m.fdiv 5).fmod 2 * m), .bool false, .none, .int 1000][i], .list ps]) := ⟨sm_three smr smX smp, fun zz zz qs e => by injection e with e; injection e with _ e; injection e with _ e; injection e with e _; injection e with e; rw [← e]; omega⟩
        refine ⟨_, (outs wD).1, (outs wD).2, fun {d Q X H a vs} hA hR q => pre hA hR fun x y p us rx ry hp rp => ?_⟩
        rw [w2]
        refine ⟨_, eq_int _ _, nc, fun zz => nil_intro ⟨_, eq_int _ _, nc, fun zz => nil_intro ⟨_, eq_int _ _, fun zz => ⟨_, _, rfl, rfl, lim3, by decide, by decide, by decide, .inl (bit2 _), show 5 ≤ Lim by decide, fun l1 k1 => gen k1 fun H1 E1 b1 => ⟨by decide, ?_⟩⟩, nc'⟩⟩⟩
        rw [fmod_pos (by decide), ei]
        refine ⟨_, i, _, b1, idx_nat hi, List.getElem?_eq_getElem hi, _, _, rfl, rfl, lim3, lim3, nil_intro ⟨nc, fun zz => nil_intro (fin hA hR q rfl rfl rfl E1 (.tup (.cons (rx.mono E1) (.cons ?_ (.cons (.lst (E1 _ _ hp) (rp.mono E1)) .nil)))))⟩⟩
        exact RDs.get (vs := _) (ds := [PyData.int (-1), .int (1001 + (m.fdiv 5).fmod 2 * m), .bool false, .none, .int 1000]) (.cons (.int _) (.cons (.int _) (.cons (.bool _) (.cons .none (.cons (.int _) .nil))))) (List.getElem?_eq_getElem hi) (List.getElem?_eq_getElem hi')
      · have wr : 2 < w := by omega
        obtain ⟨B, oB, hB⟩ := bad_plan_ex hbp hbs pl m
        have wD : Wk3 (L + 50) (.tuple [r, s, B]) := ⟨sm_three smr sms oB.sm, fun zz zz qs e => by injection e with e; injection e with _ e; injection e with _ e; injection e with e _; have := oB.len qs e; omega⟩
        refine ⟨_, (outs wD).1, (outs wD).2, fun {d Q X H a vs} hA hR q => pre hA hR fun x y p us rx ry hp rp => ?_⟩
        refine ⟨_, eq_int _ _, fun c => absurd (of_decide_eq_true c) w0, fun zz => nil_intro ⟨_, eq_int _ _, fun c => absurd (of_decide_eq_true c) w1, fun zz => nil_intro ⟨_, eq_int _ _, fun c => absurd (of_decide_eq_true c) w2, fun zz => nil_intro ⟨fun zz => ⟨_, _, rfl, rfl, lim3, _, _, rfl, rfl, lim3, _, _, rfl, rfl, lim3, hB hp rp fun v H1 E1 rv => ⟨lim3, nil_intro (fin hA hR q rfl rfl rfl E1 (.tup (.cons (rx.mono E1) (.cons (ry.mono E1) (.cons rv .nil)))))⟩⟩, fun c => absurd wr (of_decide_eq_false c)⟩⟩⟩⟩
end
end Mine

namespace Mine
section
open PySem PySem.Calls PyProof.Rows
variable {P : Cx}
structure Pr (ds : List PyData) : Prop where
  sm : ∀ D ∈ ds, Sm 50000 3 D
  len : ds.length ≤ 9
noncomputable def FnI.tailB (f : FnI) (n : Nat) : Ss := n.repeat (fun s => s.rest) f.ir
noncomputable def Stage (P : Cx) (c : Int) (tail : Ss) (ds res : List PyData) : Prop :=
  ∀ {d : Nat} {Q : V → AHeap → Prop} {X : Nat → AHeap → Prop} {H : AHeap} {a : Addr} {vs : List V} {ρ : Ro}, H a = some (.list vs) → RDs H vs ds → ρ 0 = some .scr → ρ 1 = some (.lst a) → ρ 2 = some (.int c) → (∀ b us H', Ext H H' → H' b = some (.list us) → RDs H' us res → Q (.lst b) H') → vSs P (d + 4) (fun c zz H => X c H) tail (retQ Q) ρ H
theorem st_4 {c : Int} {ds : List PyData} (pr : Pr ds) : ∃ res, Pr res ∧ Stage P c (f_law_built.tailB 5) ds res := by
  by_cases w : c / 4 % 12 = 2
  · refine ⟨[], ⟨fun zz h => (nomatch h), Nat.zero_le _⟩, fun {d Q X H a vs ρ} hA hR r0 r1 r2 q => ?_⟩
    rw [← ro_cons r0 (ro_cons r1 (ro_eq r2))]
    refine ⟨by decide, by decide, by decide, ?_⟩
    rw [fmod_pos (by decide), fdiv_pos (by decide), w]
    exact ⟨_, eq_int _ _, fun zz => ⟨Nat.zero_le _, fun l k => gen k fun H1 E1 b => nil_intro (q l _ H1 E1 b .nil)⟩, nc'⟩
  · refine ⟨ds, pr, fun {d Q X H a vs ρ} hA hR r0 r1 r2 q => ?_⟩
    rw [← ro_cons r0 (ro_cons r1 (ro_eq r2))]
    refine ⟨by decide, by decide, by decide, ?_⟩
    rw [fmod_pos (by decide), fdiv_pos (by decide)]
    exact ⟨_, eq_int _ _, fun c => absurd (of_decide_eq_true c) w, fun zz => nil_intro (q a _ H (Ext.refl _) hA hR)⟩
theorem rds_rep {H : AHeap} {vs : List V} {ds : List PyData} (h : RDs H vs ds) : ∀ j : Nat, RDs H (List.replicate j vs).flatten (List.replicate j ds).flatten
  | 0 => .nil
  | j + 1 => by rw [List.replicate_succ, List.replicate_succ, List.flatten_cons, List.flatten_cons]; exact h.app (rds_rep h j)
theorem st_3 {c : Int} {ds : List PyData} (pr : Pr ds) : ∃ res, Pr res ∧ Stage P c (f_law_built.tailB 4) ds res := by
  by_cases w : c / 4 % 12 = 1
  · have pr' : Pr ((List.replicate 9 ds).flatten.take 9) := by
      refine ⟨fun D hD => ?_, by rw [List.length_take]; exact Nat.min_le_left _ _⟩
      obtain ⟨l, hl, hx⟩ := List.mem_flatten.mp (List.mem_of_mem_take hD)
      rw [(List.mem_replicate.mp hl).2] at hx
      exact pr.sm D hx
    obtain ⟨res, pres, st⟩ := st_4 (P := P) (c := c) pr'
    refine ⟨res, pres, fun {d Q X H a vs ρ} hA hR r0 r1 r2 q => ?_⟩
    have hl := hR.len
    have h9 := pr.len
    rw [← ro_cons r0 (ro_cons r1 (ro_eq r2))]
    refine ⟨by decide, by decide, by decide, ?_⟩
    rw [fmod_pos (by decide), fdiv_pos (by decide), w]
    refine ⟨_, eq_int _ _, fun zz => ⟨_, hA, by decide, ?_, fun l1 k1 => gen k1 fun H1 E1 b1 => ⟨_, b1, by decide, ?_, fun l2 k2 => gen k2 fun H2 E2 b2 => nil_intro (st (d := d) b2 (((rds_rep (hR.mono (E1.trans E2)) 9).take 9)) rfl rfl rfl fun b us H' E => q b us H' ((E1.trans E2).trans E))⟩⟩, nc'⟩
    · show (List.replicate 9 vs).flatten.length ≤ Lim
      rw [List.length_flatten, List.map_replicate, List.sum_replicate_nat]; unfold Lim; omega
    · show ((List.replicate 9 vs).flatten.take 9).length ≤ Lim
      rw [List.length_take]; exact Nat.le_trans (Nat.min_le_left _ _) (by decide)
  · obtain ⟨res, pres, st⟩ := st_4 (P := P) (c := c) pr
    refine ⟨res, pres, fun {d Q X H a vs ρ} hA hR r0 r1 r2 q => ?_⟩
    rw [← ro_cons r0 (ro_cons r1 (ro_eq r2))]
    refine ⟨by decide, by decide, by decide, ?_⟩
    rw [fmod_pos (by decide), fdiv_pos (by decide)]
    exact ⟨_, eq_int _ _, fun c => absurd (of_decide_eq_true c) w, fun zz => nil_intro (st (d := d) hA hR rfl rfl rfl q)⟩
noncomputable def tB : PyData → Bool
  | .tuple ds => decide (ds.length = 3)
  | _ => false
noncomputable def lB : PyData → Bool
  | .tuple [_, _, .list _] => true
  | _ => false
theorem tB_not {D : PyData} (h : ∀ es, D ≠ .tuple es) : tB D = false := by
  cases D with
  | tuple es => exact absurd rfl (h es)
  | _ => rfl
theorem lB_not {r s D : PyData} (h : ∀ es, D ≠ .list es) : lB (.tuple [r, s, D]) = false := by
  cases D with
  | list es => exact absurd rfl (h es)
  | _ => rfl
theorem tB_rd {D : PyData} (h : tB D = true) : ∃ r s p, D = .tuple [r, s, p] := by
  cases D with
  | tuple ds =>
    have h : ds.length = 3 := of_decide_eq_true h
    match ds, h with
    | [r, s, p], _ => exact ⟨r, s, p, rfl⟩
  | _ => cases h
theorem lB_is {D : PyData} (h : lB D = true) : Is3 D := by
  unfold lB at h
  split at h
  · exact ⟨_, _, _, rfl⟩
  · cases h
structure Pw (L : Nat) (ds : List PyData) : Prop where
  wk : ∀ D ∈ ds, Wk3 L D
  len : 1 ≤ ds.length ∧ ds.length ≤ 8
theorem Pw.pr {L : Nat} {ds : List PyData} (h : Pw L ds) : Pr ds := ⟨fun D hD => (h.wk D hD).sm, Nat.le_trans h.len.2 (by decide)⟩
theorem st_2 (hsp : Has P f_law_spoilt_worker) (hbp : Has P f_law_bad_plan) (hbs : Has P f_law_bad_step) (hc : Has P f_law_cell_at) (hm : Has P f_law_mixed) {c : Int} {ds : List PyData} {L : Nat} (hL : L ≤ 900) (pw : Pw L ds) : ∃ res, Pr res ∧ Stage P c (f_law_built.tailB 3) ds res := by
  have boolL : ∀ {f : PyData → Bool} {m : Nat} {x : PyData}, ds[m]? = some x → ((ds.take m).map f).map V.bool ++ [.bool (f x)] = ((ds.take (m + 1)).map f).map V.bool := fun {f m x} e => by
    rw [List.take_add_one, e, Option.toList_some, List.map_append, List.map_append]; rfl
  have lenL : ∀ {f : PyData → Bool} {m : Nat}, (((ds.take m).map f).map V.bool).length + 1 ≤ Lim := fun {f m} => by
    rw [List.length_map, List.length_map, List.length_take]
    have := pw.len.2
    unfold Lim; omega
  by_cases w : c % 4 = 3
  · -- are all of three
    have allT : ∀ {d : Nat} {Q : V → AHeap → Prop} {X : Nat → AHeap → Prop} {H : AHeap} {a : Addr} {vs : List V} {ρ : Ro}, H a = some (.list vs) → RDs H vs ds → ρ 1 = some (.lst a) → (∀ H', Ext H H' → Q (.bool ((ds.map tB).all id)) H') → vE P (d + 4) X (.op1 .all (.comp 3 (.and (.op1 (.isI .tuple) (.var 3)) (.op2 .eq (.op1 .len (.var 3)) (.int 3))) (.var 1) (.bool true))) ρ Q H := fun {d Q X H a vs ρ} hA hR r1 q => by
      have hl := hR.len
      rw [← ro_eq r1]
      refine ⟨_, hA, Nat.succ_pos _, ?_⟩
      refine compLoop_inv (fun m acc H' => H' = H ∧ acc = ((ds.take m).map tB).map V.bool ∧ m ≤ vs.length) ?_ ?_ ?_ ⟨rfl, rfl, Nat.zero_le _⟩
      · rintro m acc H' ⟨rfl, rfl, hm⟩
        exact ⟨stL hA, lenL⟩
      · rintro m x acc H' R S hx ⟨rfl, rfl, hm'⟩ kt kf
        have hmv := (List.getElem?_eq_some_iff.mp hx).1
        have hmd : m < ds.length := by omega
        have e := List.getElem?_eq_getElem hmd
        have rx := hR.get hx e
        have smx := (pw.wk _ (List.getElem_mem hmd)).sm
        have kt : R (.bool (tB ds[m])) H' := kt _ _ ⟨rfl, boolL e, hmv⟩
        generalize ds[m] = D at rx smx kt
        refine ⟨fun zz => ⟨stL hA, ?_⟩, nc'⟩
        rcases rd_tup rx with ⟨hf, hn⟩ | ⟨us, es, rfl, rfl, rs⟩
        · rw [tB_not hn] at kt
          exact ⟨false, hf, nc, fun zz => kt⟩
        · have hl' := rs.len
          refine ⟨true, rfl, fun zz => ⟨by rw [hl']; exact Nat.le_trans smx.1 (by decide), _, eq_int _ _, ?_⟩, nc'⟩
          have : decide ((us.length : Int) = 3) = tB (.tuple es) := by
            show _ = decide (es.length = 3)
            exact decide_eq_decide.mpr (by omega)
          rw [this]; exact kt
      · rintro acc H' ⟨rfl, rfl, -⟩
        rw [hl, List.take_length]
        refine ⟨by have := lenL (f := tB) (m := ds.length); rw [List.take_length] at this; omega, fun e he => gen he fun H2 E2 g => ⟨Nat.succ_pos _, _, g, q H2 E2⟩⟩
    cases cT : (ds.map tB).all id with
    | false =>
      obtain ⟨res, pres, st⟩ := st_3 (P := P) (c := c) pw.pr
      refine ⟨res, pres, fun {d Q X H a vs ρ} hA hR r0 r1 r2 q => ?_⟩
      rw [← ro_cons r0 (ro_cons r1 (ro_eq r2))]
      refine ⟨by decide, ?_⟩
      rw [fmod_pos (by decide), w]
      refine ⟨_, eq_int _ _, fun zz => allT (d := d) hA hR rfl fun H1 E1 => ?_, nc'⟩
      rw [cT]
      exact ⟨nc, fun zz => nil_intro (st (d := d) (E1 _ _ hA) (hR.mono E1) rfl rfl rfl fun b us H' E => q b us H' (E1.trans E))⟩
    | true =>
      have is3 : ∀ D ∈ ds, ∃ r s p, D = .tuple [r, s, p] := fun D hD => tB_rd (List.all_eq_true.mp cT _ (List.mem_map.mpr ⟨D, hD, rfl⟩))
      have allL : ∀ {d : Nat} {Q : V → AHeap → Prop} {X : Nat → AHeap → Prop} {H : AHeap} {a : Addr} {vs : List V} {ρ : Ro}, H a = some (.list vs) → RDs H vs ds → ρ 1 = some (.lst a) → (∀ H', Ext H H' → Q (.bool ((ds.map lB).all id)) H') → vE P (d + 4) X (.op1 .all (.comp 4 (.op1 (.isI .list) (.op2 .item (.var 4) (.int 2))) (.var 1) (.bool true))) ρ Q H := fun {d Q X H a vs ρ} hA hR r1 q => by
        have hl := hR.len
        rw [← ro_eq r1]
        refine ⟨_, hA, Nat.succ_pos _, ?_⟩
        refine compLoop_inv (fun m acc H' => H' = H ∧ acc = ((ds.take m).map lB).map V.bool ∧ m ≤ vs.length) ?_ ?_ ?_ ⟨rfl, rfl, Nat.zero_le _⟩
        · rintro m acc H' ⟨rfl, rfl, hm⟩
          exact ⟨stL hA, lenL⟩
        · rintro m x acc H' R S hx ⟨rfl, rfl, hm'⟩ kt kf
          have hmv := (List.getElem?_eq_some_iff.mp hx).1
          have hmd : m < ds.length := by omega
          have e := List.getElem?_eq_getElem hmd
          have rx := hR.get hx e
          have kt : R (.bool (lB ds[m])) H' := kt _ _ ⟨rfl, boolL e, hmv⟩
          obtain ⟨r, s, p, eD⟩ := is3 _ (List.getElem_mem hmd)
          rw [eD] at rx kt
          refine ⟨fun zz => ⟨stL hA, ?_⟩, nc'⟩
          rcases rd_tup rx with ⟨_, hn⟩ | ⟨us, es, rfl, ee, rs⟩
          · exact absurd rfl (hn _)
          · injection ee with ee
            subst ee
            obtain ⟨u1, u2, u3, rfl, r1, r2, r3⟩ := rds_three rs
            rcases rd_lst r3 with ⟨hf, hn⟩ | ⟨b, ws, fs, rfl, rfl, hb, _⟩
            · rw [lB_not hn] at kt
              exact ⟨_, _, rfl, rfl, lim3, false, hf, kt⟩
            · exact ⟨_, _, rfl, rfl, lim3, true, ⟨⟨_, hb⟩, rfl⟩, kt⟩
        · rintro acc H' ⟨rfl, rfl, -⟩
          rw [hl, List.take_length]
          refine ⟨by have := lenL (f := lB) (m := ds.length); rw [List.take_length] at this; omega, fun e he => gen he fun H2 E2 g => ⟨Nat.succ_pos _, _, g, q H2 E2⟩⟩
      cases cL : (ds.map lB).all id with
      | false =>
        obtain ⟨res, pres, st⟩ := st_3 (P := P) (c := c) pw.pr
        refine ⟨res, pres, fun {d Q X H a vs ρ} hA hR r0 r1 r2 q => ?_⟩
        rw [← ro_cons r0 (ro_cons r1 (ro_eq r2))]
        refine ⟨by decide, ?_⟩
        rw [fmod_pos (by decide), w]
        refine ⟨_, eq_int _ _, fun zz => allT (d := d) hA hR rfl fun H1 E1 => ?_, nc'⟩
        rw [cT]
        refine ⟨fun zz => ?_, nc'⟩
        show vE P (d + 4) _ _ _ _ H1
        refine allL (d := d) (E1 _ _ hA) (hR.mono E1) rfl fun H2 E2 => ?_
        rw [cL]
        have F2 := E1.trans E2
        exact ⟨nc, fun zz => nil_intro (nil_intro (st (d := d) (F2 _ _ hA) (hR.mono F2) rfl rfl rfl fun b us H' E => q b us H' (F2.trans E)))⟩
      | true =>
        obtain ⟨es, el, ew, hes⟩ := spoil_ex hsp hbp hbs hL (fun D hD => ⟨pw.wk D hD, lB_is (List.all_eq_true.mp cL _ (List.mem_map.mpr ⟨D, hD, rfl⟩))⟩) pw.len (mixI (cellAt P.ns 20) 6)
        obtain ⟨res, pres, st⟩ := st_3 (P := P) (c := c) (ds := es) ⟨fun D hD => (ew D hD).sm, by rw [el]; exact Nat.le_trans pw.len.2 (by decide)⟩
        refine ⟨res, pres, fun {d Q X H a vs ρ} hA hR r0 r1 r2 q => ?_⟩
        rw [← ro_cons r0 (ro_cons r1 (ro_eq r2))]
        refine ⟨by decide, ?_⟩
        rw [fmod_pos (by decide), w]
        refine ⟨_, eq_int _ _, fun zz => allT (d := d) hA hR rfl fun H1 E1 => ?_, nc'⟩
        rw [cT]
        refine ⟨fun zz => ?_, nc'⟩
        show vE P (d + 4) _ _ _ _ H1
        refine allL (d := d) (E1 _ _ hA) (hR.mono E1) rfl fun H2 E2 => ?_
        rw [cL]
        have F2 := E1.trans E2
        exact ⟨fun zz => cell_at_spec (k := 20) hc (mixed_spec hm (hes (F2 _ _ hA) (hR.mono F2) fun b us H3 E3 g3 rg => nil_intro (nil_intro (st (d := d) g3 rg rfl rfl rfl fun b us H' E => q b us H' ((F2.trans E3).trans E))))), nc'⟩
  · obtain ⟨res, pres, st⟩ := st_3 (P := P) (c := c) pw.pr
    refine ⟨res, pres, fun {d Q X H a vs ρ} hA hR r0 r1 r2 q => ?_⟩
    rw [← ro_cons r0 (ro_cons r1 (ro_eq r2))]
    refine ⟨by decide, ?_⟩
    rw [fmod_pos (by decide)]
    exact ⟨_, eq_int _ _, fun c => absurd (of_decide_eq_true c) w, fun zz => ⟨nc, fun zz => nil_intro (st (d := d) hA hR rfl rfl rfl q)⟩⟩
theorem sm_wk {w : Wk} (ok : OkWk w) : Wk3 40 (wkD w) := by
  have hl := ok.plan.len
  refine ⟨sm_three trivial trivial (sm_list (by rw [List.length_map]; omega) fun x hx => ?_), fun r s ps e => ?_⟩
  · obtain ⟨y, -, rfl⟩ := List.mem_map.mp hx
    exact ⟨show 2 ≤ 50000 by decide, fun z hz => by simp at hz; rcases hz with rfl | rfl <;> trivial⟩
  · injection e with e; injection e with _ e; injection e with _ e; injection e with e _; injection e with e
    rw [← e, List.length_map]; exact hl
theorem built_ex (h : Has P f_law_built) (hsp : Has P f_law_spoilt_worker) (hbp : Has P f_law_bad_plan) (hbs : Has P f_law_bad_step) (hc : Has P f_law_cell_at) (hm : Has P f_law_mixed) (hr : Has P f_law_ranks) (hp : Has P f_law_plan) (hld : Has P f_law_ladder) (hwk : Has P f_law_workers) :
    ∃ ds, Pr ds ∧ ∀ {d : Nat} {Q : V → AHeap → Prop} {X : Nat → AHeap → Prop} {H : AHeap}, (∀ b us H', Ext H H' → H' b = some (.list us) → RDs H' us ds → Q (.lst b) H') → Call P (d + 4) "_law_built" [.scr] Q X H := by
  obtain ⟨okw, nd⟩ := workersOf_ok (ns := P.ns) (most := 20) (late := 1001) (by decide) (by decide) (by decide) (by decide)
  have lw : 1 ≤ (workersOf P.ns 20 1001).length ∧ (workersOf P.ns 20 1001).length ≤ 8 := by rw [workersOf_len]; exact manyOf_rng _
  have w0 : ∀ D ∈ (workersOf P.ns 20 1001).map wkD, Wk3 40 D ∧ Is3 D := fun D hD => by
    obtain ⟨w, hw, rfl⟩ := List.mem_map.mp hD
    exact ⟨sm_wk (okw w hw), _, _, _, rfl⟩
  have l0 : 1 ≤ ((workersOf P.ns 20 1001).map wkD).length ∧ ((workersOf P.ns 20 1001).map wkD).length ≤ 8 := by rw [List.length_map]; exact lw
  by_cases w : 0 < cellAt P.ns 18 % 4
  · obtain ⟨es, el, ew, hes⟩ := spoil_ex hsp hbp hbs (L := 40) (by decide) w0 l0 (mixI (cellAt P.ns 19) 5)
    obtain ⟨res, pres, st⟩ := st_2 hsp hbp hbs hc hm (c := cellAt P.ns 18) (L := 90) (by decide) (ds := es) ⟨ew, by rw [el]; exact l0⟩
    refine ⟨res, pres, fun {d Q X H} q => ?_⟩
    refine h rfl (workers_spec hwk hc hm hr hp hld (by decide) (by decide) (by decide) (by decide) fun a vs H1 E1 zz hA hW zz zz => cell_at_spec (k := 18) hc ⟨by decide, ?_⟩)
    rw [fmod_pos (by decide)]
    exact ⟨fun zz => cell_at_spec (k := 19) hc (mixed_spec hm (hes hA (wks_rds hW) fun b us H2 E2 g2 rg => nil_intro (st (d := d) g2 rg rfl rfl rfl fun b us H' E => q b us H' ((E1.trans E2).trans E)))), fun c => absurd w (of_decide_eq_false c)⟩
  · obtain ⟨res, pres, st⟩ := st_2 hsp hbp hbs hc hm (c := cellAt P.ns 18) (L := 40) (by decide) (ds := (workersOf P.ns 20 1001).map wkD) ⟨fun D hD => (w0 D hD).1, l0⟩
    refine ⟨res, pres, fun {d Q X H} q => ?_⟩
    refine h rfl (workers_spec hwk hc hm hr hp hld (by decide) (by decide) (by decide) (by decide) fun a vs H1 E1 zz hA hW zz zz => cell_at_spec (k := 18) hc ⟨by decide, ?_⟩)
    rw [fmod_pos (by decide)]
    exact ⟨fun c => absurd (of_decide_eq_true c) w, fun zz => nil_intro (st (d := d) hA (wks_rds hW) rfl rfl rfl fun b us H' E => q b us H' (E1.trans E))⟩
end
end Mine

namespace Mine
section
open PySem PySem.Calls PyProof.Rows
variable {P : Cx}
noncomputable def f_law : FnI := ⟨"law", ["_law_script"], (.cons (.asg 1 (.call "_law_built" (.cons (.var 0) .nil))) (.cons (.asg 2 (.call "_law_due" (.cons (.call "_law_built" (.cons (.var 0) .nil)) .nil))) (.cons (.asg 3 (.call "_law_told" (.cons (.var 1) (.cons (.op2 .mod (.call "_law_cell_at" (.cons (.var 0) (.cons (.int 21) .nil))) (.int 2)) .nil)))) (.cons (.ite (.or (.not (.call "_law_alike" (.cons (.var 3) (.cons (.var 2) .nil)))) (.not (.call "_law_alike" (.cons (.var 1) (.cons (.call "_law_built" (.cons (.var 0) .nil)) .nil))))) (.cons (.ret (.bool false)) .nil) .nil) (.cons (.ite (.op1 (.isI .str) (.var 2)) (.cons (.ret (.bool true)) .nil) .nil) (.cons (.ex (.call "_law_spoilt" (.cons (.var 3) .nil))) (.cons (.ite (.or (.not (.call "_law_alike" (.cons (.var 1) (.cons (.call "_law_built" (.cons (.var 0) .nil)) .nil)))) (.not (.call "_law_alike" (.cons (.call "begun" (.cons (.var 1) .nil)) (.cons (.var 2) .nil))))) (.cons (.ret (.bool false)) .nil) .nil) (.cons (.ex (.call "_law_spoilt" (.cons (.var 2) .nil))) (.cons (.ret (.call "_law_alike" (.cons (.var 3) (.cons (.var 2) .nil)))) .nil)))))))))⟩
theorem run_tr0 {H0 H : AHeap} {b s : Addr} {us : List V} {sh : Shop} (ok : OkShop sh) (t : RunAt H0 H b s us sh) : Tr H 5 (SV b s sh) ((b :: adrs us) ++ [s]) := by
  have nd := nd_res t.own.nd t.ne t.bs
  exact tr_three (tr_wks t.hb t.wk ok.ws ok.n8.2 (List.nodup_append.mp nd).1) (.int (i := sh.now)) (tr_sps t.hs (by rw [ok.slen]; exact ok.n8.2)).up.up nd
theorem run_new0 {H0 H : AHeap} {b s : Addr} {us : List V} {sh : Shop} (t : RunAt H0 H b s us sh) : ∀ x ∈ (b :: adrs us) ++ [s], H0 x = none := fun x hx => by
  rcases mem_res hx with rfl | rfl | q
  · exact t.nb
  · exact t.ns
  · exact t.own.new x q
theorem law01 (hlaw : Has P f_law) (hbu : Has P f_law_built) (hsp : Has P f_law_spoilt_worker) (hbp : Has P f_law_bad_plan) (hbs : Has P f_law_bad_step) (hc : Has P f_law_cell_at) (hm : Has P f_law_mixed) (hr : Has P f_law_ranks) (hp : Has P f_law_plan) (hld : Has P f_law_ladder) (hwk : Has P f_law_workers)
    (hdu : Has P f_law_due) (hpg : Has P f_law_plan_good) (hlw : Has P f_law_whole) (hto : Has P f_law_told) (hal : Has P f_law_alike) (hspo : Has P f_law_spoilt) (hbg : Has P f_begun) (hnw : Has P f_need_workers) (hip : Has P f_is_plan) (his : Has P f_is_step) (hiw : Has P f_is_whole) (hcp : Has P f_copied) :
    Call P 60 "law" [.scr] (fun v zz => v = .bool true) (fun zz zz => False) (fun zz => none) := by
  obtain ⟨ds, pr, mk⟩ := built_ex hbu hsp hbp hbs hc hm hr hp hld hwk
  have smD : Sm 50000 4 (.list ds) := ⟨Nat.le_trans pr.len (by decide), pr.sm⟩
  refine hlaw rfl (mk (d := 55) fun a1 vs1 H1 E1 g1 R1 => mk (d := 55) fun a2 vs2 H2 E2 g2 R2 => ?_)
  have same : ∀ {H : AHeap} {a : Addr} {vs : List V}, Ext H1 H → H a = some (.list vs) → RDs H vs ds → Al H 4 (.lst a1) (.lst a) := fun E g R => al_rd smD (.lst (E _ _ g1) (R1.mono E)) (.lst g R)
  cases e : needD ds with
  | some c =>
    refine due_any hdu hpg hlw g2 R2 pr.sm (fun zz e' => by rw [e] at e'; cases e') fun c2 e2 H3 E3 => cell_at_spec (k := 21) hc ⟨by decide, ?_⟩
    rw [e] at e2; cases e2
    have E13 := E2.trans E3
    refine told_any hto hbg hnw hip his hiw hcp (E13 _ _ g1) (R1.mono E13) pr.sm (fun zz e' => by rw [e] at e'; cases e') fun c3 e3 H4 E4 => ?_
    rw [e] at e3; cases e3
    refine alike_spec hal 0 (.str _) fun H5 E5 => ⟨nc, fun zz => ?_⟩
    have E15 := (E13.trans E4).trans E5
    refine mk (d := 55) fun a6 vs6 H6 E6 g6 R6 => alike_spec hal 4 (same (E15.trans E6) g6 R6) fun H7 E7 => ⟨nc, fun zz => nil_intro ⟨true, rfl, fun zz => rfl, nc'⟩⟩
  | none =>
    refine due_any hdu hpg hlw g2 R2 pr.sm (fun ws zz ew ok b2 s2 us2 H3 t2 => ?_) fun c2 e2 => by rw [e] at e2; cases e2
    refine cell_at_spec (k := 21) hc ⟨by decide, ?_⟩
    have E13 := E2.trans t2.ext
    refine told_any hto hbg hnw hip his hiw hcp (E13 _ _ g1) (R1.mono E13) pr.sm (fun ws' zz ew' ok' b3 s3 us3 H4 t3 => ?_) fun c2 e2 => by rw [e] at e2; cases e2
    have eww : ws' = ws := by
      have e := ew'.symm.trans ew
      have inj : ∀ w w' : Wk, wkD w = wkD w' → w = w' := fun w w' h => by
        injection h with h
        injection h with h1 h
        injection h with h2 h
        injection h with h3 _
        injection h1 with h1
        injection h2 with h2
        injection h3 with h3
        have hs : ∀ p p' : List St, p.map stT = p'.map stT → p = p' := fun p => by
          induction p with
          | nil => intro p' h; cases p' with | nil => rfl | cons _ _ => cases h
          | cons s p ih =>
            intro p' h
            cases p' with
            | nil => cases h
            | cons s' p' =>
              injection h with h1 h2
              rw [ih p' h2]
              injection h1 with h1
              injection h1 with h3 h1
              injection h1 with h4 _
              injection h3 with h3
              injection h4 with h4
              obtain ⟨k, n⟩ := s
              obtain ⟨k', n'⟩ := s'
              have h4 : n = n' := h4
              subst h4
              have : k = k' := by
                have h3 : Str.ofString k.nm = Str.ofString k'.nm := h3
                cases k <;> cases k' <;> first | rfl | exact absurd h3 (by decide)
              rw [this]
        obtain ⟨r, st, p⟩ := w
        obtain ⟨r', st', p'⟩ := w'
        have h1 : r = r' := h1
        have h2 : st = st' := h2
        have h3 := hs p p' h3
        rw [h1, h2, h3]
      have go : ∀ l l' : List Wk, l.map wkD = l'.map wkD → l = l' := fun l => by
        induction l with
        | nil => intro l' h; cases l' with | nil => rfl | cons _ _ => cases h
        | cons w l ih =>
          intro l' h
          cases l' with
          | nil => cases h
          | cons w' l' => injection h with h1 h2; rw [inj w w' h1, ih l' h2]
      exact go _ _ e
    subst eww
    have n2 := run_new0 t2
    have n3 := run_new0 t3
    have T2 := run_tr0 ok t2
    have T3 := run_tr0 ok t3
    have E34 := t3.ext
    have A1 : Al H4 5 (SV b3 s3 (shop0 ws')) (SV b2 s2 (shop0 ws')) := al_shop ok ⟨b3, s3, us3, rfl, t3.hb, t3.wk, t3.hs⟩ ⟨b2, s2, us2, rfl, E34 _ _ t2.hb, t2.wk.mono E34, E34 _ _ t2.hs⟩
    refine alike_spec hal 5 A1 fun H5 E5 => ⟨nc, fun zz => ?_⟩
    have E35 := E34.trans E5
    refine mk (d := 55) fun a6 vs6 H6 E6 g6 R6 => ?_
    have E36 := E35.trans E6
    refine alike_spec hal 4 (same (E13.trans E36) g6 R6) fun H7 E7 => ⟨nc, fun zz => nil_intro ⟨false, rfl, nc, fun zz => nil_intro ?_⟩⟩
    have E47 := (E5.trans E6).trans E7
    have E37 := E36.trans E7
    refine spoilt_spec hspo 5 (T3.same fun x zz c h => E47 _ _ h) fun H8 E8 => ?_
    have E38 : Ext H3 H8 := fun x c h => E8 _ _ (by rw [spoil_out fun q => ?_]; exact E37 _ _ h; rw [n3 x q] at h; cases h)
    refine mk (d := 55) fun a9 vs9 H9 E9 g9 R9 => ?_
    have E39 := E38.trans E9
    refine alike_spec hal 4 (same (E13.trans E39) g9 R9) fun H10 E10 => ⟨nc, fun zz => ?_⟩
    have E310 := E39.trans E10
    have E110 := E13.trans E310
    refine begun_any hbg hnw hip his hiw hcp (E110 _ _ g1) (R1.mono E110) pr.sm (fun ws2 zz ew2 ok2 b4 s4 us4 H11 t4 => ?_) fun c2 e2 => by rw [e] at e2; cases e2
    have W4 : WksAt H11 us4 ws' := by
      have := wks_rds t4.wk
      have e : ws2.map wkD = ws'.map wkD := ew2.symm.trans ew'
      rw [show (shop0 ws2).ws = ws2 from rfl, e] at this
      exact rds_wks this
    have len2 : ws2.length = ws'.length := by have := congrArg List.length (ew2.symm.trans ew'); rw [List.length_map, List.length_map] at this; exact this
    have E311 := E310.trans t4.ext
    have A2 : Al H11 5 (SV b4 s4 (shop0 ws2)) (SV b2 s2 (shop0 ws')) := al_shop (sh := shop0 ws') ok ⟨b4, s4, us4, rfl, t4.hb, W4, by rw [t4.hs]; show some (Cell.list ((List.replicate ws2.length (⟨0, 0⟩ : Sp)).map Sp.v)) = _; rw [len2]; rfl⟩ ⟨b2, s2, us2, rfl, E311 _ _ t2.hb, t2.wk.mono E311, E311 _ _ t2.hs⟩
    refine alike_spec hal 5 A2 fun H12 E12 => ⟨nc, fun zz => nil_intro ?_⟩
    have E312 := E311.trans E12
    have E812 := ((E9.trans E10).trans t4.ext).trans E12
    refine spoilt_spec hspo 5 (T2.same fun x zz c h => E312 _ _ h) fun H13 E13' => ?_
    refine alike_spec hal 5 (A1.turn (t := [moV]) (fun x h => by simpa using h) (Nat.le_refl _) T3 (T2.same fun x zz c h => E34 _ _ h) (fun x hx us h => ?_) fun x hx us h => ?_) fun H14 zz => rfl
    · refine E13' _ _ ?_
      rw [spoil_out fun q => ?_]
      · exact E812 _ _ (E8 _ _ (spoil_in hx (E47 _ _ h)))
      · obtain ⟨c, hc⟩ := T2.live x q
        rw [n3 x hx] at hc; cases hc
    · obtain ⟨c, hc⟩ := T2.live x hx
      have := E34 _ _ hc
      rw [this] at h; cases h
      exact E13' _ _ (spoil_in hx (E312 _ _ hc))
end
end Mine

namespace Mine
section
open PySem PySem.Calls PyProof.Rows
noncomputable def gl : Gl := ⟨["is_whole", "is_step", "is_plan", "need_workers", "copied", "begun", "_law_cell_at", "_law_mixed", "_law_whole", "_law_alike", "_law_spoilt", "_law_plan", "_law_ranks", "_law_ladder", "_law_workers", "_law_bad_step", "_law_bad_plan", "_law_spoilt_worker", "_law_plan_good", "_law_due", "_law_told", "_law_built"], [("MOST_RANK", 1000000), ("MOST_START", 1000), ("MOST_STEPS", 40), ("MOST_TOOL", 9), ("MOST_WORK", 100), ("MOST_WORKERS", 8)], ["HasteError", "TooMany", "BadWorker", "BadRank", "BadStart", "BadPlan"]⟩
noncomputable def fns : List FnI := [f_law, f_law_built, f_law_spoilt_worker, f_law_bad_plan, f_law_bad_step, f_law_cell_at, f_law_mixed, f_law_ranks, f_law_plan, f_law_ladder, f_law_workers, f_law_due, f_law_plan_good, f_law_whole, f_law_told, f_law_alike, f_law_spoilt, f_begun, f_need_workers, f_is_plan, f_is_step, f_is_whole, f_copied]
theorem has_of {P : Cx} {p : Program} {loose : List Str} {mean : ExcName → Option Value} (F : Facts P) (T : Top p loose mean P.mg P.mb P.hb) {l : List FnI} (c : l.all (chkFn p P.gl) = true) (i : Nat) (h : i < l.length) : Has P l[i] :=
  fun hl v => call_of F T (List.all_eq_true.mp c _ (List.getElem_mem h)) hl v
theorem law_ok {P : Cx} {p : Program} {loose : List Str} {mean : ExcName → Option Value} (c : fns.all (chkFn p gl) = true) (e : P.gl = gl) (F : Facts P) (T : Top p loose mean P.mg P.mb P.hb) : Call P 60 "law" [.scr] (fun v zz => v = .bool true) (fun zz zz => False) (fun zz => none) := by
  have hh : ∀ (i : Nat) (h : i < fns.length), Has P fns[i] := fun i h => has_of F T (by rw [e]; exact c) i h
  exact law01 (hh 0 (by decide)) (hh 1 (by decide)) (hh 2 (by decide)) (hh 3 (by decide)) (hh 4 (by decide)) (hh 5 (by decide)) (hh 6 (by decide)) (hh 7 (by decide)) (hh 8 (by decide)) (hh 9 (by decide)) (hh 10 (by decide)) (hh 11 (by decide)) (hh 12 (by decide)) (hh 13 (by decide)) (hh 14 (by decide)) (hh 15 (by decide)) (hh 16 (by decide)) (hh 17 (by decide)) (hh 18 (by decide)) (hh 19 (by decide)) (hh 20 (by decide)) (hh 21 (by decide)) (hh 22 (by decide))
end
end Mine

open PySem PySem.Calls PyProof.Rows PySem.W
noncomputable def PySem.W.Fast.tw16510380719160411421 : Program := PySem.Challenge.pw_uf050006_01
theorem PySem.W.Fast.te16510380719160411421 : PySem.Challenge.pw_uf050006_01 = PySem.W.Fast.tw16510380719160411421 := rfl
theorem PySem.Challenge.cw_uf050006_01_holds : PySem.Challenge.rw_uf050006_01.Holds := by
  w_on
  o_law
  o_head (Mine.xHook ["HasteError", "TooMany", "BadWorker", "BadRank", "BadStart", "BadPlan"])
  (case hw => w_witness2)
  intro w s₀ s₁ mg mb G Y fa o pm cd doc dV kV ho hd hcd hD hmg hg args vals as hpre hlay hrd hwl hlo
  have T := Ground.T G
  clear hd hcd hD
  wrow_args hpre hlay hrd hwl hlo
  refine Mine.law_end (G := Mine.gl) T Y hg hmg (by assumption) (by assumption) (by assumption) (by decide +kernel) (by decide +kernel) ?_ ?_ ?_
  · intro _; rfl
  · refine' postW_of ?zs ?zv ?ze
    case zs => o_shape
    case zv => wtm_val
    case ze => w_fin
  · exact fun P e F T zz => Mine.law_ok (by decide +kernel) e F T
