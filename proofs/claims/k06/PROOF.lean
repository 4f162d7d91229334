import PyProof.Rows.All
import Wide.All
import OpenK.AllK
import Wide.FinOn
import HandS.ForMost
import HandS.ForExc
import HandS.Lambda
import HandS.Walk
import HandS.Style
import HandS.TupMul
import HandS.TupAny
import HandS.IsInst
import HandS.Conv
import HandS.Zip
import HandS.Wide
import KE.DataMinMax
import PyProof.SumAny
import PyProof.WalksMore
import KE.KTupSum
import KE.GoesMore
import PyProof.EnumMake
import PyProof.EnumFor
import HandS.EndBits
import HandS.HeadHook2
import HandS.WordsExc
import HandS.Defaults
import HandS.ExcOwn
import PyProof.ExcBaseAll.ValueError
import HandS.ExcIs
import HandS.ExcValue
import HandS.CallLocal
import HandS.TupSets
import KE.IntBitsLaws
import HandS.Head0
import HandS.Head1
import HandS.Head2
import HandS.HeadHook1
import HandS.HeadHook4
import HandS.HeadWalk
import HandS.NestedK
import PySem.Challenge.RW_ringrows_k06_whole_rows_in_rounds
set_option Elab.async false
set_option linter.all false
set_option maxRecDepth 100000
namespace PL
open PySem PySem.Spec PyProof.Rows L2

inductive D where
  | non | bl (b : Bool) | int (i : Int) | str (s : Str)
  | tup (l : List D) | lst (l : List D)
  | dK (l : List (Key × D)) | dT (l : List (List Key × D))
  | scr (l : List Int)
  | op (v : V)
  | draw
  | exn (C : Addr)

inductive Own where
  | lst (l : List D) | dK (l : List (Key × D)) | dT (l : List (List Key × D))
def Own.d : Own → D
  | .lst l => .lst l
  | .dK l => .dK l
  | .dT l => .dT l

structure Gc where
  K : PySem.W.Frag
  dA : Option Addr
  T : List (Addr × Str) := []
def ExV (cls : Value) (a : Addr) : HO := .ext fun h => ∃ (oe : Obj) (vs : Array Value), h.get? a = some oe ∧ Zc cls none oe ∧ oe.data = .fields vs

mutual
inductive Den (g : Gc) (F : Hp) : V → D → Prop
  | non : Den g F .non .non
  | bl (b : Bool) : Den g F (.bl b) (.bl b)
  | int (i : Int) : Den g F (.int i) (.int i)
  | str (s : Str) : Den g F (.str s) (.str s)
  | tup {a : Addr} {xs : List V} {ds : List D} : F a = some (.tup xs) → DenL g F xs ds → Den g F (.ref a) (.tup ds)
  | lst {a : Addr} {xs : List V} {ds : List D} : F a = some (.lst xs) → DenL g F xs ds → Den g F (.ref a) (.lst ds)
  | dK {a : Addr} {ys : List (Key × V)} {kvs : List (Key × D)} : F a = some (.dK ys) → ys.map (·.1) = kvs.map (·.1) → DenL g F (ys.map (·.2)) (kvs.map (·.2)) → Den g F (.ref a) (.dK kvs)
  | dT {a : Addr} {ys : List (List Key × V)} {kvs : List (List Key × D)} : F a = some (.dT ys) → ys.map (·.1) = kvs.map (·.1) → DenL g F (ys.map (·.2)) (kvs.map (·.2)) → Den g F (.ref a) (.dT kvs)
  | scr {a : Addr} {ns : List Int} : SqL g.K F a (ns.map V.int) → Den g F (.ref a) (.scr ns)
  | op (v : V) : Den g F v (.op v)
  | draw {a : Addr} : g.dA = some a → Den g F (.ref a) .draw
  | exn {a C : Addr} : F a = some (ExV (.ref C) a) → Den g F (.ref a) (.exn C)
inductive DenL (g : Gc) (F : Hp) : List V → List D → Prop
  | nil : DenL g F [] []
  | cons {v : V} {vs : List V} {d : D} {ds : List D} : Den g F v d → DenL g F vs ds → DenL g F (v :: vs) (d :: ds)
end

section
variable {g : Gc} {F F' : Hp}
mutual
theorem Den.mono (h : Same F F') : ∀ {v : V} {d : D}, Den g F v d → Den g F' v d
  | _, _, .non => .non
  | _, _, .bl b => .bl b
  | _, _, .int i => .int i
  | _, _, .str s => .str s
  | _, _, .tup a b => .tup (h _ _ a) (DenL.mono h b)
  | _, _, .lst a b => .lst (h _ _ a) (DenL.mono h b)
  | _, _, .dK a b c => .dK (h _ _ a) b (DenL.mono h c)
  | _, _, .dT a b c => .dT (h _ _ a) b (DenL.mono h c)
  | _, _, .scr a => .scr (h.seq a)
  | _, _, .op v => .op v
  | _, _, .draw a => .draw a
  | _, _, .exn a => .exn (h _ _ a)
theorem DenL.mono (h : Same F F') : ∀ {vs : List V} {ds : List D}, DenL g F vs ds → DenL g F' vs ds
  | _, _, .nil => .nil
  | _, _, .cons a b => .cons (Den.mono h a) (DenL.mono h b)
end

theorem DenL.length {vs : List V} {ds : List D} (h : DenL g F vs ds) : vs.length = ds.length := by
  induction ds generalizing vs with
  | nil => cases h; rfl
  | cons d ds ih =>
    cases h with
    | cons a b => rw [List.length_cons, List.length_cons, ih b]
theorem DenL.get : ∀ {vs : List V} {ds : List D} {i : Nat} {d : D}, DenL g F vs ds → ds[i]? = some d → ∃ v, vs[i]? = some v ∧ Den g F v d
  | _, _, _, _, .nil, e => by simp at e
  | _, _, 0, _, .cons a b, e => by simp at e; subst e; exact ⟨_, rfl, a⟩
  | _, _, i + 1, d, .cons a b, e => by
    obtain ⟨v, h1, h2⟩ := DenL.get (i := i) (d := d) b (by simpa using e)
    exact ⟨v, by simpa using h1, h2⟩
theorem DenL.getV : ∀ {vs : List V} {ds : List D} {i : Nat} {v : V}, DenL g F vs ds → vs[i]? = some v → ∃ d, ds[i]? = some d ∧ Den g F v d
  | _, _, _, _, .nil, e => by simp at e
  | _, _, 0, _, .cons a b, e => by simp at e; subst e; exact ⟨_, rfl, a⟩
  | _, _, i + 1, v, .cons a b, e => by
    obtain ⟨d, h1, h2⟩ := DenL.getV (i := i) (v := v) b (by simpa using e)
    exact ⟨d, by simpa using h1, h2⟩
theorem DenL.append : ∀ {xs ys : List V} {as bs : List D}, DenL g F xs as → DenL g F ys bs → DenL g F (xs ++ ys) (as ++ bs)
  | _, _, _, _, .nil, s => s
  | _, _, _, _, .cons a b, s => .cons a (DenL.append b s)
theorem DenL.take : ∀ {vs : List V} {ds : List D} (n : Nat), DenL g F vs ds → DenL g F (vs.take n) (ds.take n)
  | _, _, 0, _ => by rw [List.take_zero, List.take_zero]; exact .nil
  | _, _, _ + 1, .nil => .nil
  | _, _, n + 1, .cons a b => .cons a (DenL.take n b)
theorem DenL.drop : ∀ {vs : List V} {ds : List D} (n : Nat), DenL g F vs ds → DenL g F (vs.drop n) (ds.drop n)
  | _, _, 0, r => r
  | _, _, _ + 1, .nil => .nil
  | _, _, n + 1, .cons _ b => DenL.drop n b
theorem DenL.set {v : V} {d : D} (r : Den g F v d) : ∀ {vs : List V} {ds : List D} (i : Nat), DenL g F vs ds → DenL g F (vs.set i v) (ds.set i d)
  | _, _, _, .nil => .nil
  | _, _, 0, .cons _ t => .cons r t
  | _, _, i + 1, .cons q t => .cons q (DenL.set r i t)
theorem DenL.dropLast {vs : List V} {ds : List D} (h : DenL g F vs ds) : DenL g F vs.dropLast ds.dropLast := by
  rw [List.dropLast_eq_take, List.dropLast_eq_take, h.length]
  exact h.take _
theorem DenL.snoc {xs : List V} {as : List D} {v : V} {d : D} (h : DenL g F xs as) (r : Den g F v d) : DenL g F (xs ++ [v]) (as ++ [d]) := h.append (.cons r .nil)
theorem DenL.reverse : ∀ {vs : List V} {ds : List D}, DenL g F vs ds → DenL g F vs.reverse ds.reverse
  | _, _, .nil => .nil
  | _, _, .cons a b => by rw [List.reverse_cons, List.reverse_cons]; exact DenL.snoc (DenL.reverse b) a
theorem DenL.rep {vs : List V} {ds : List D} (h : DenL g F vs ds) : ∀ k : Nat, DenL g F (List.replicate k vs).flatten (List.replicate k ds).flatten
  | 0 => .nil
  | k + 1 => by
    rw [List.replicate_succ, List.replicate_succ, List.flatten_cons, List.flatten_cons]
    exact h.append (DenL.rep h k)
theorem DenL.nil_iff {vs : List V} {ds : List D} (h : DenL g F vs ds) : vs = [] ↔ ds = [] := by
  cases h with
  | nil => simp
  | cons a b => simp
theorem DenL.ints : ∀ {vs : List V} {ns : List Int}, DenL g F vs (ns.map D.int) → vs = ns.map V.int
  | _, [], h => by cases h; rfl
  | _, n :: ns, h => by
    rw [List.map_cons] at h
    cases h with
    | cons a b =>
      cases a
      rw [List.map_cons, DenL.ints b]
theorem denL_ints : ∀ (ns : List Int), DenL g F (ns.map V.int) (ns.map D.int)
  | [] => .nil
  | n :: ns => .cons (.int n) (denL_ints ns)
theorem DenL.bls : ∀ {vs : List V} {bs : List Bool}, DenL g F vs (bs.map D.bl) → vs = bs.map V.bl
  | _, [], h => by cases h; rfl
  | _, n :: ns, h => by
    rw [List.map_cons] at h
    cases h with
    | cons a b =>
      cases a
      rw [List.map_cons, DenL.bls b]
end

inductive Sl where
  | no | va (d : D) | ow (o : Own)
abbrev Rho := List Sl
abbrev Slot := Option V × Sl

def getS : Rho → Nat → Sl
  | [], _ => .no
  | s :: _, 0 => s
  | _ :: r, n + 1 => getS r n
def setS : Rho → Nat → Sl → Rho
  | [], _, _ => []
  | _ :: r, 0, x => x :: r
  | s :: r, n + 1, x => s :: setS r n x
theorem setS_length : ∀ (ρ : Rho) (i : Nat) (x : Sl), (setS ρ i x).length = ρ.length
  | [], _, _ => rfl
  | _ :: _, 0, _ => rfl
  | _ :: r, n + 1, x => by unfold setS; rw [List.length_cons, List.length_cons, setS_length r n x]
theorem getS_some : ∀ {ρ : Rho} {i : Nat} {x : Sl}, getS ρ i = x → x ≠ .no → ρ[i]? = some x
  | [], _, _, h, n => absurd h.symm n
  | s :: _, 0, _, h, _ => by rw [← h]; rfl
  | _ :: r, i + 1, x, h, n => by
    have := getS_some (ρ := r) (i := i) (x := x) h n
    simpa using this
theorem setS_eq : ∀ (ρ : Rho) (i : Nat) (x : Sl), setS ρ i x = ρ.set i x
  | [], _, _ => rfl
  | _ :: _, 0, _ => rfl
  | s :: r, i + 1, x => by
    show s :: setS r i x = s :: r.set i x
    rw [setS_eq r i x]

def OwnAt (g : Gc) (F H : Hp) (a : Addr) : Own → Prop
  | .lst ds => ∃ xs, H a = some (.lst xs) ∧ DenL g F xs ds
  | .dK kvs => ∃ ys : List (Key × V), H a = some (.dK ys) ∧ ys.map (·.1) = kvs.map (·.1) ∧ DenL g F (ys.map (·.2)) (kvs.map (·.2))
  | .dT kvs => ∃ ys : List (List Key × V), H a = some (.dT ys) ∧ ys.map (·.1) = kvs.map (·.1) ∧ DenL g F (ys.map (·.2)) (kvs.map (·.2))

structure Sit where
  g : Gc
  B : Hp
  F0 : Hp

def SlOk (S : Sit) (F H : Hp) : Slot → Prop
  | (_, .no) => True
  | (v, .va d) => ∃ x, v = some x ∧ Den S.g F x d
  | (v, .ow o) => ∃ a, v = some (.ref a) ∧ F a = none ∧ S.B a = none ∧ OwnAt S.g F H a o
def ownA : Slot → Option Addr
  | (some (.ref a), .ow _) => some a
  | _ => none
def owns (l : List Slot) : List Addr := l.filterMap ownA

def kWhole : Key := .inr "whole"
def kCells : Key := .inr "cells"
def kCount : Key := .inr "count"
def DrawOk (F H : Hp) (a : Addr) : Prop := ∃ (w k : Int) (cA : Addr) (cells : List Int), H a = some (.dK [(kWhole, .int w), (kCells, .ref cA), (kCount, .int k)]) ∧ 0 ≤ w ∧ F cA = some (.lst (cells.map V.int)) ∧ cells.length ≤ 64

def noTb (H : Hp) : Hp := fun b => match H b with
  | some (.tbl _) => none
  | o => o
theorem noTb_some {H : Hp} {a : Addr} {o : HO} (h : noTb H a = some o) : H a = some o ∧ ∀ ps, o ≠ .tbl ps := by
  unfold noTb at h
  split at h
  · cases h
  · rename_i n
    refine ⟨h, fun ps e => n ps ?_⟩
    rw [h, e]
theorem noTb_of {H : Hp} {a : Addr} {o : HO} (h : H a = some o) (n : ∀ ps, o ≠ .tbl ps) : noTb H a = some o := by
  unfold noTb
  rw [h]
  split
  · rename_i ps e
    exact absurd (Option.some.inj e) (n ps)
  · rfl
theorem noTb_none {H : Hp} {a : Addr} (h : noTb H a = none) : H a = none ∨ ∃ ps, H a = some (.tbl ps) := by
  cases e : H a with
  | none => exact .inl rfl
  | some o =>
    refine .inr ?_
    by_cases n : ∀ ps, o ≠ .tbl ps
    · rw [noTb_of e n] at h; cases h
    · obtain ⟨ps, h2⟩ := Classical.not_forall.mp n
      exact ⟨ps, congrArg some (Classical.not_not.mp h2)⟩
theorem tabs_upd {T : List (Addr × Str)} {H : Hp} {a : Addr} {o : HO} (t : LamX.Tabs T H) (n : ∀ u, H a = some u → (∀ ps, u ≠ .tbl ps) ∧ ∀ φ, u ≠ .ext φ) : LamX.Tabs T (upd H a o) := fun p hp => by
  obtain ⟨ps, h1, h2, h3⟩ := t p hp
  refine ⟨ps, ?_, h2, fun pos cv hc => ?_⟩
  · rw [upd_ne (fun z => (n _ (by rw [← z]; exact h1)).1 ps rfl)]
    exact h1
  · obtain ⟨c, e, q⟩ := h3 pos cv hc
    refine ⟨c, e, ?_⟩
    rw [upd_ne (fun z => (n _ (by rw [← z]; exact q)).2 _ rfl)]
    exact q
theorem OwnAt.plain {g : Gc} {F H : Hp} {a : Addr} {ow : Own} (h : OwnAt g F H a ow) : ∀ u, H a = some u → (∀ ps, u ≠ .tbl ps) ∧ ∀ φ, u ≠ .ext φ := fun u e => by
  cases ow with
  | lst ds => obtain ⟨xs, q, _⟩ := h; rw [q] at e; cases e; exact ⟨fun _ z => (by cases z), fun _ z => (by cases z)⟩
  | dK ds => obtain ⟨xs, q, _⟩ := h; rw [q] at e; cases e; exact ⟨fun _ z => (by cases z), fun _ z => (by cases z)⟩
  | dT ds => obtain ⟨xs, q, _⟩ := h; rw [q] at e; cases e; exact ⟨fun _ z => (by cases z), fun _ z => (by cases z)⟩
structure Rep (S : Sit) (F H : Hp) (l : List Slot) : Prop where
  f0 : Same S.F0 F
  fh : Same F H
  fn : ∀ a o, F a = some o → S.F0 a = some o ∨ S.B a = none
  bh : ∀ a o, S.B a = some o → S.g.dA ≠ some a → H a = some o
  nB : ∀ a ps, S.B a ≠ some (.tbl ps)
  dr : ∀ a, S.g.dA = some a → F a = none ∧ S.B a ≠ none ∧ DrawOk F H a
  ok : ∀ p ∈ l, SlOk S F H p
  nd : (owns l).Nodup
  tb : LamX.Tabs S.g.T H
  nt : ∀ a ps, F a ≠ some (.tbl ps)

section
variable {S : Sit} {F F' H H' : Hp} {l l' : List Slot} {p a : Addr} {o : HO}

theorem OwnAt.at {g : Gc} {ow : Own} (h : OwnAt g F H a ow) : ∃ u, H a = some u := by
  cases ow with
  | lst ds => obtain ⟨xs, e, _⟩ := h; exact ⟨_, e⟩
  | dK ds => obtain ⟨xs, e, _⟩ := h; exact ⟨_, e⟩
  | dT ds => obtain ⟨xs, e, _⟩ := h; exact ⟨_, e⟩
theorem OwnAt.mono {g : Gc} {ow : Own} (h : OwnAt g F H a ow) (hF : Same F F') (hH : ∀ u, H a = some u → H' a = some u) : OwnAt g F' H' a ow := by
  cases ow with
  | lst ds => obtain ⟨xs, e, d⟩ := h; exact ⟨xs, hH _ e, d.mono hF⟩
  | dK ds => obtain ⟨xs, e, k, d⟩ := h; exact ⟨xs, hH _ e, k, d.mono hF⟩
  | dT ds => obtain ⟨xs, e, k, d⟩ := h; exact ⟨xs, hH _ e, k, d.mono hF⟩
theorem DrawOk.mono (h : DrawOk F H a) (hF : Same F F') (hH : ∀ u, H a = some u → H' a = some u) : DrawOk F' H' a := by
  obtain ⟨w, k, cA, cells, e, w0, c, n⟩ := h
  exact ⟨w, k, cA, cells, hH _ e, w0, hF _ _ c, n⟩

theorem mem_owns {a : Addr} {ow : Own} (h : (some (V.ref a), Sl.ow ow) ∈ l) : a ∈ owns l := List.mem_filterMap.mpr ⟨_, h, rfl⟩
theorem of_mem_owns {a : Addr} (h : a ∈ owns l) : ∃ ow, (some (V.ref a), Sl.ow ow) ∈ l := by
  obtain ⟨q, hq, e⟩ := List.mem_filterMap.mp h
  obtain ⟨v, s⟩ := q
  unfold ownA at e
  split at e
  · rename_i b ow he
    cases e
    cases he
    exact ⟨_, hq⟩
  · cases e
theorem Rep.own_at (R : Rep S F H l) {a : Addr} (h : a ∈ owns l) : F a = none ∧ S.B a = none ∧ ∃ u, H a = some u := by
  obtain ⟨ow, hm⟩ := of_mem_owns h
  obtain ⟨b, e, h1, h2, h3⟩ := R.ok _ hm
  cases e
  exact ⟨h1, h2, h3.at⟩
theorem Rep.free (R : Rep S F H l) (n : H p = none) : F p = none ∧ S.B p = none ∧ p ∉ owns l ∧ S.g.dA ≠ some p := by
  have hd : S.g.dA ≠ some p := fun e => by
    obtain ⟨_, _, w, k, cA, cells, e2, _⟩ := R.dr p e
    rw [n] at e2; cases e2
  refine ⟨?_, ?_, fun h => ?_, hd⟩
  · cases e : F p with
    | none => rfl
    | some u => have := R.fh p u e; rw [n] at this; cases this
  · cases e : S.B p with
    | none => rfl
    | some u => have := R.bh p u e hd; rw [n] at this; cases this
  · obtain ⟨_, _, u, e⟩ := R.own_at h
    rw [n] at e; cases e

theorem Rep.grow (R : Rep S F H l) (h : Same H H') : Rep S F H' l where
  f0 := R.f0
  fh := R.fh.trans h
  fn := R.fn
  bh := fun a o e n => h a o (R.bh a o e n)
  nB := R.nB
  dr := fun a e => let ⟨x, y, z⟩ := R.dr a e; ⟨x, y, z.mono (Same.refl _) fun u e => h a u e⟩
  ok := fun q hq => by
    have := R.ok q hq
    obtain ⟨v, s⟩ := q
    cases s with
    | no => exact trivial
    | va d => exact this
    | ow o => obtain ⟨b, e, h1, h2, h3⟩ := this; exact ⟨b, e, h1, h2, h3.mono (Same.refl _) fun u e => h b u e⟩
  nd := R.nd
  tb := R.tb.ext h
  nt := R.nt
theorem same_new {H : Hp} {p : Addr} {o : HO} (h : H p = none) : Same H (upd H p o) := fun b x e => by
  rw [upd_ne (ne_of_none e h)]; exact e
theorem Rep.addF (R : Rep S F H l) (e : H p = some o) (h1 : F p = none) (h2 : S.B p = none) (h3 : p ∉ owns l) (h4 : S.g.dA ≠ some p) (h5 : ∀ ps, o ≠ .tbl ps) : Rep S (upd F p o) H l where
  f0 := R.f0.trans (same_new h1)
  fh := fun b x q => by
    by_cases hb : b = p
    · subst hb; rw [upd_same] at q; cases q; exact e
    · rw [upd_ne hb] at q; exact R.fh b x q
  fn := fun b x q => by
    by_cases hb : b = p
    · subst hb; exact .inr h2
    · rw [upd_ne hb] at q; exact R.fn b x q
  bh := R.bh
  nB := R.nB
  dr := fun b q => by
    obtain ⟨x, y, z⟩ := R.dr b q
    have hb : b ≠ p := fun z => h4 (by rw [← z]; exact q)
    exact ⟨by rw [upd_ne hb]; exact x, y, z.mono (same_new h1) fun _ e => e⟩
  ok := fun q hq => by
    have z := R.ok q hq
    obtain ⟨v, s⟩ := q
    cases s with
    | no => exact trivial
    | va d => obtain ⟨x, e, d⟩ := z; exact ⟨x, e, d.mono (same_new h1)⟩
    | ow o =>
      obtain ⟨b, e, z1, z2, z3⟩ := z
      subst e
      have hb : b ≠ p := fun y => h3 (y ▸ mem_owns hq)
      exact ⟨b, rfl, by rw [upd_ne hb]; exact z1, z2, z3.mono (same_new h1) fun _ e => e⟩
  nd := R.nd
  tb := R.tb
  nt := fun b ps q => by
    by_cases hb : b = p
    · subst hb; rw [upd_same] at q; exact h5 ps (Option.some.inj q)
    · rw [upd_ne hb] at q; exact R.nt b ps q
theorem Rep.newF (R : Rep S F H l) (n : H p = none) (h5 : ∀ ps, o ≠ .tbl ps := by intro _ z; cases z) : Rep S (upd F p o) (upd H p o) l := by
  obtain ⟨h1, h2, h3, h4⟩ := R.free n
  exact (R.grow (same_new n)).addF upd_same h1 h2 h3 h4 h5
theorem Rep.newO (R : Rep S F H l) (n : H p = none) {ow : Own} (h : OwnAt S.g F (upd H p o) p ow) : Rep S F (upd H p o) ((some (.ref p), .ow ow) :: l) := by
  obtain ⟨h1, h2, h3, h4⟩ := R.free n
  have R1 := R.grow (same_new (o := o) n)
  refine ⟨R1.f0, R1.fh, R1.fn, R1.bh, R1.nB, R1.dr, fun q hq => ?_, List.nodup_cons.mpr ⟨h3, R1.nd⟩, R1.tb, R1.nt⟩
  rcases List.mem_cons.mp hq with e | hq
  · subst e; exact ⟨p, rfl, h1, h2, h⟩
  · exact R1.ok q hq
theorem Rep.sub (R : Rep S F H l) (h : l'.Sublist l) : Rep S F H l' :=
  ⟨R.f0, R.fh, R.fn, R.bh, R.nB, R.dr, fun q hq => R.ok q (h.subset hq), R.nd.sublist (h.filterMap _), R.tb, R.nt⟩
theorem Rep.perm (R : Rep S F H l) (h : l.Perm l') : Rep S F H l' :=
  ⟨R.f0, R.fh, R.fn, R.bh, R.nB, R.dr, fun q hq => R.ok q (h.mem_iff.mpr hq), (h.filterMap _).nodup_iff.mp R.nd, R.tb, R.nt⟩
theorem Rep.tail {q : Slot} (R : Rep S F H (q :: l)) : Rep S F H l := R.sub (List.sublist_cons_self _ _)
theorem Rep.nil (R : Rep S F H l) : Rep S F H [] := R.sub (List.nil_sublist _)
theorem ownA_va {v : Option V} {d : D} : ownA (v, .va d) = none := by unfold ownA; split <;> simp_all
theorem Rep.push (R : Rep S F H l) {x : V} {d : D} (h : Den S.g F x d) : Rep S F H ((some x, .va d) :: l) :=
  ⟨R.f0, R.fh, R.fn, R.bh, R.nB, R.dr, fun q hq => by
    rcases List.mem_cons.mp hq with e | hq
    · subst e; exact ⟨x, rfl, h⟩
    · exact R.ok q hq, by
    have : owns ((some x, .va d) :: l) = owns l := by unfold owns; rw [List.filterMap_cons_none ownA_va]
    rw [this]; exact R.nd, R.tb, R.nt⟩
theorem Rep.pushNo (R : Rep S F H l) {v : Option V} : Rep S F H ((v, .no) :: l) :=
  ⟨R.f0, R.fh, R.fn, R.bh, R.nB, R.dr, fun q hq => by
    rcases List.mem_cons.mp hq with e | hq
    · subst e; exact trivial
    · exact R.ok q hq, by
    have : owns ((v, .no) :: l) = owns l := by
      unfold owns
      rw [List.filterMap_cons_none (by unfold ownA; split <;> simp_all)]
    rw [this]; exact R.nd, R.tb, R.nt⟩
theorem Rep.freeze {v : Option V} {ow : Own} (R : Rep S F H ((v, .ow ow) :: l)) : ∃ (F' : Hp) (a : Addr), v = some (.ref a) ∧ Same F F' ∧ Den S.g F' (.ref a) ow.d ∧ Rep S F' H l := by
  obtain ⟨a, e, h1, h2, h3⟩ := R.ok _ List.mem_cons_self
  subst e
  have h4 : S.g.dA ≠ some a := fun q => (R.dr a q).2.1 h2
  have hn : a ∉ owns l := (List.nodup_cons.mp (show (a :: owns l).Nodup from R.nd)).1
  have fin : ∀ o : HO, H a = some o → Same F (upd F a o) ∧ Rep S (upd F a o) H l := fun o e => ⟨same_new h1, R.tail.addF e h1 h2 hn h4 (h3.plain o e).1⟩
  cases ow with
  | lst ds =>
    obtain ⟨xs, e, d⟩ := h3
    obtain ⟨s, r⟩ := fin _ e
    exact ⟨_, a, rfl, s, .lst upd_same (d.mono s), r⟩
  | dK ds =>
    obtain ⟨xs, e, k, d⟩ := h3
    obtain ⟨s, r⟩ := fin _ e
    exact ⟨_, a, rfl, s, .dK upd_same k (d.mono s), r⟩
  | dT ds =>
    obtain ⟨xs, e, k, d⟩ := h3
    obtain ⟨s, r⟩ := fin _ e
    exact ⟨_, a, rfl, s, .dT upd_same k (d.mono s), r⟩
theorem Rep.write {ow ow' : Own} (R : Rep S F H ((some (.ref a), .ow ow) :: l)) (h : OwnAt S.g F (upd H a o) a ow') : Rep S F (upd H a o) ((some (.ref a), .ow ow') :: l) := by
  obtain ⟨b, e, h1, h2, h3⟩ := R.ok _ List.mem_cons_self
  cases e
  have h4 : S.g.dA ≠ some a := fun q => (R.dr a q).2.1 h2
  have hn : a ∉ owns l := (List.nodup_cons.mp (show (a :: owns l).Nodup from R.nd)).1
  have ne : ∀ {b : Addr} {u : HO}, F b = some u → b ≠ a := fun e => ne_of_none e h1
  refine ⟨R.f0, fun b u q => ?_, R.fn, fun b u q n => ?_, R.nB, fun b q => ?_, fun q hq => ?_, R.nd, tabs_upd R.tb h3.plain, R.nt⟩
  · rw [upd_ne (ne q)]; exact R.fh b u q
  · rw [upd_ne (ne_of_none q h2)]; exact R.bh b u q n
  · obtain ⟨x, y, z⟩ := R.dr b q
    have hb : b ≠ a := fun z => h4 (z ▸ q)
    exact ⟨x, y, z.mono (Same.refl _) fun u e => by rw [upd_ne hb]; exact e⟩
  · rcases List.mem_cons.mp hq with e | hq
    · subst e; exact ⟨a, rfl, h1, h2, h⟩
    · have z := R.ok q (List.mem_cons_of_mem _ hq)
      obtain ⟨v, s⟩ := q
      cases s with
      | no => exact trivial
      | va d => exact z
      | ow o2 =>
        obtain ⟨b, e, z1, z2, z3⟩ := z
        subst e
        have hb : b ≠ a := fun y => hn (y ▸ mem_owns hq)
        exact ⟨b, rfl, z1, z2, z3.mono (Same.refl _) fun u e => by rw [upd_ne hb]; exact e⟩
theorem Rep.extN (R : Rep S F H l) (e : LamX.ExtN H H') (t : LamX.Tabs S.g.T H') : Rep S F H' l where
  f0 := R.f0
  fh := fun a o q => e a o (R.fh a o q) fun ps z => R.nt a ps (by rw [q, z])
  fn := R.fn
  bh := fun a o q n => e a o (R.bh a o q n) fun ps z => R.nB a ps (by rw [q, z])
  nB := R.nB
  dr := fun a q => by
    obtain ⟨x, y, w, k, cA, cells, h, z⟩ := R.dr a q
    exact ⟨x, y, w, k, cA, cells, e a _ h (fun ps z => by cases z), z⟩
  ok := fun q hq => by
    have z := R.ok q hq
    obtain ⟨v, s⟩ := q
    cases s with
    | no => exact trivial
    | va d => exact z
    | ow o =>
      obtain ⟨b, eb, z1, z2, z3⟩ := z
      exact ⟨b, eb, z1, z2, z3.mono (Same.refl _) fun u q => e b u q (z3.plain u q).1⟩
  nd := R.nd
  tb := t
  nt := R.nt
end
end PL
set_option Elab.async false
set_option linter.all false
set_option maxRecDepth 100000
namespace PL
open PySem PySem.Spec PyProof.Rows L2

inductive Tm where
  | d (x : D) | o (x : Own) | r (i : Nat)
structure Exn where
  cls : Addr
  pay : List (Str × D)
abbrev TD := Rho → (Tm → Rho → Prop) → (Exn → Prop) → Prop
abbrev TB := Rho → (Bool → Rho → Prop) → (Exn → Prop) → Prop
abbrev TAs := Rho → (List D → Rho → Prop) → (Exn → Prop) → Prop
def peek : Tm → Rho → (D → Prop) → Prop
  | .d x, _, K => K x
  | .o x, _, K => K x.d
  | .r i, ρ, K => match getS ρ i with
    | .ow o => K o.d
    | .va d => K d
    | .no => False
def use : Tm → Rho → (D → Rho → Prop) → Prop
  | .d x, ρ, K => K x ρ
  | .o x, ρ, K => K x.d ρ
  | .r i, ρ, K => match getS ρ i with
    | .ow o => K o.d (setS ρ i (.va o.d))
    | .va d => K d ρ
    | .no => False

def RepS (S : Sit) (F H : Hp) (T : List Slot) (σ : L2.St) (ρ : Rho) : Prop := σ.length = ρ.length ∧ Rep S F H (T ++ σ.zip ρ)
def RepV (S : Sit) (F H : Hp) (v : V) (m : Tm) (T : List Slot) (σ : L2.St) (ρ : Rho) : Prop := match m with
  | .d d => Den S.g F v d ∧ RepS S F H T σ ρ
  | .o o => RepS S F H ((some v, .ow o) :: T) σ ρ
  | .r i => σ[i]? = some (some v) ∧ RepS S F H T σ ρ
def PayOk (g : Gc) (F H : Hp) (dd : Option Addr) : List (Str × D) → Prop
  | [] => dd = none
  | pay => ∃ a fs, dd = some a ∧ H a = some (.xd fs) ∧ fs.map (·.1) = pay.map (·.1) ∧ DenL g F (fs.map (·.2)) (pay.map (·.2))
def RepX (S : Sit) (F H : Hp) (ex : Exn) (cls : Value) (dd : Option Addr) : Prop := Rep S F H [] ∧ cls = .ref ex.cls ∧ PayOk S.g F H dd ex.pay
def LX (S : Sit) (F : Hp) (E : XK) (X : Exn → Prop) : Prop := ∀ ex, X ex → ∀ F' H' cls dd, Same F F' → RepX S F' H' ex cls dd → E cls dd H'
theorem LX.mono {S : Sit} {F F' : Hp} {E : XK} {X : Exn → Prop} (h : LX S F E X) (s : Same F F') : LX S F' E X := fun ex hx F2 H2 cls dd s2 r => h ex hx F2 H2 cls dd (s.trans s2) r

def LE (S : Sit) (E : XK) (t : TD) : TE := fun σ H Q => ∃ F ρ T Q0 X0, RepS S F H T σ ρ ∧ t ρ Q0 X0 ∧
  (∀ m ρ', Q0 m ρ' → ∀ F' H' v, Same F F' → RepV S F' H' v m T σ ρ' → Q v H') ∧ LX S F E X0
def LT (S : Sit) (E : XK) (t : TB) : TT := fun σ H Q => ∃ F ρ T Q0 X0, RepS S F H T σ ρ ∧ t ρ Q0 X0 ∧
  (∀ b ρ', Q0 b ρ' → ∀ F' H', Same F F' → RepS S F' H' T σ ρ' → Q b H') ∧ LX S F E X0
def LA (S : Sit) (E : XK) (t : TAs) : TA := fun σ H Q => ∃ F ρ T Q0 X0, RepS S F H T σ ρ ∧ t ρ Q0 X0 ∧
  (∀ ds ρ', Q0 ds ρ' → ∀ F' H' vs, Same F F' → DenL S.g F' vs ds → RepS S F' H' T σ ρ' → Q vs H') ∧ LX S F E X0

def EX (X : Cx) (S : Sit) (E : XK) (e : Expr) (t : TD) : Prop := PE X e (LE S E t)
def TX (X : Cx) (S : Sit) (E : XK) (e : Expr) (t : TB) : Prop := PT X e (LT S E t)
def WX' (X : Cx) (S : Sit) (E : XK) (e : Expr) (t : TB) : Prop := PW X e (LT S E t)
def AX (X : Cx) (S : Sit) (E : XK) (es : List Expr) (t : TAs) : Prop := PA X es (LA S E t)

section
variable {X : Cx}
theorem PE_imp {e : Expr} {t t' : TE} (h : PE X e t') (i : ∀ σ H Q, t σ H Q → t' σ H Q) : PE X e t := ⟨fun pins s σ H Q I q => h.run pins s σ H Q I (i σ H Q q)⟩
theorem PT_imp {e : Expr} {t t' : TT} (h : PT X e t') (i : ∀ σ H Q, t σ H Q → t' σ H Q) : PT X e t := ⟨fun pins s σ H Q I q => h.run pins s σ H Q I (i σ H Q q)⟩
theorem PW_imp {e : Expr} {t t' : TT} (h : PW X e t') (i : ∀ σ H Q, t σ H Q → t' σ H Q) : PW X e t := ⟨fun wh pins s σ H Q I q => h.run wh pins s σ H Q I (i σ H Q q)⟩
theorem PA_imp {es : List Expr} {t t' : TA} (h : PA X es t') (i : ∀ σ H Q, t σ H Q → t' σ H Q) : PA X es t := ⟨fun pos pins s σ H Q I q => h.run pos pins s σ H Q I (i σ H Q q)⟩
theorem PS_imp {st : Stmt} {t t' : TS} (h : PS X st t') (i : ∀ D σ H, t D σ H → t' D σ H) : PS X st t := ⟨fun pins s σ H D I q => h.run pins s σ H D I (i D σ H q)⟩
theorem PSs_imp {st : List Stmt} {t t' : TS} (h : PSs X st t') (i : ∀ D σ H, t D σ H → t' D σ H) : PSs X st t := ⟨fun pins s σ H D I q => h.run pins s σ H D I (i D σ H q)⟩
end

theorem zip_split : ∀ {σ : L2.St} {ρ : Rho} {i : Nat} {v : Option V}, σ.length = ρ.length → σ[i]? = some v →
    ∃ l1 l2, σ.zip ρ = l1 ++ (v, getS ρ i) :: l2 ∧ ∀ x y, (σ.set i x).zip (setS ρ i y) = l1 ++ (x, y) :: l2
  | [], _, _, _, _, h => by simp at h
  | _ :: _, [], _, _, h, _ => by simp at h
  | a :: σ, b :: ρ, 0, v, _, h => by
    have e : a = v := by simpa using h
    subst e
    exact ⟨[], σ.zip ρ, rfl, fun x y => rfl⟩
  | a :: σ, b :: ρ, i + 1, v, hl, h => by
    obtain ⟨l1, l2, e1, e2⟩ := zip_split (σ := σ) (ρ := ρ) (i := i) (v := v) (by simpa using hl) (by simpa using h)
    refine ⟨(a, b) :: l1, l2, ?_, fun x y => ?_⟩
    · show (a, b) :: σ.zip ρ = (a, b) :: (l1 ++ (v, getS ρ i) :: l2)
      rw [e1]
    · show (a, b) :: (σ.set i x).zip (setS ρ i y) = (a, b) :: (l1 ++ (x, y) :: l2)
      rw [e2]
theorem set_self {σ : L2.St} {i : Nat} {v : Option V} (h : σ[i]? = some v) : σ.set i v = σ := by
  apply List.ext_getElem?
  intro j
  by_cases e : i = j
  · subst e
    obtain ⟨hi, _⟩ := List.getElem?_eq_some_iff.mp h
    rw [List.getElem?_set_self hi, h]
  · rw [List.getElem?_set_ne e]
section
variable {S : Sit} {F H : Hp} {T : List Slot} {σ : L2.St} {ρ : Rho}
theorem RepS.split {i : Nat} {v : Option V} (R : RepS S F H T σ ρ) (h : σ[i]? = some v) :
    ∃ l, Rep S F H ((v, getS ρ i) :: l) ∧ (∀ F' H' x y, Rep S F' H' ((x, y) :: l) → RepS S F' H' T (σ.set i x) (setS ρ i y)) ∧ Rep S F H l := by
  obtain ⟨hl, R⟩ := R
  obtain ⟨l1, l2, e1, e2⟩ := zip_split hl h
  rw [e1, ← List.append_assoc] at R
  have Rh := R.perm List.perm_middle
  refine ⟨(T ++ l1) ++ l2, Rh, fun F' H' x y R' => ⟨by rw [List.length_set, setS_length]; exact hl, ?_⟩, Rh.tail⟩
  rw [e2, ← List.append_assoc]
  exact R'.perm List.perm_middle.symm
theorem RepV.toS {v : V} {m : Tm} (R : RepV S F H v m T σ ρ) : RepS S F H T σ ρ := by
  cases m with
  | d x => exact R.2
  | o x => exact ⟨R.1, (show Rep S F H (_ :: (T ++ σ.zip ρ)) from R.2).tail⟩
  | r i => exact R.2
theorem use_ok {v : V} {m : Tm} {K : D → Rho → Prop} (R : RepV S F H v m T σ ρ) (h : use m ρ K) : ∃ F' d ρ', Same F F' ∧ Den S.g F' v d ∧ RepS S F' H T σ ρ' ∧ K d ρ' := by
  cases m with
  | d x => exact ⟨F, x, ρ, Same.refl _, R.1, R.2, h⟩
  | o x =>
    obtain ⟨hl, R⟩ := R
    obtain ⟨F', a, e, s, d, R'⟩ := (show Rep S F H (_ :: (T ++ σ.zip ρ)) from R).freeze
    cases e
    exact ⟨F', _, ρ, s, d, ⟨hl, R'⟩, h⟩
  | r i =>
    obtain ⟨hv, R⟩ := R
    obtain ⟨l, Rh, back, Rl⟩ := R.split hv
    cases e : getS ρ i with
    | ow o =>
      simp only [use, e] at h
      rw [e] at Rh
      obtain ⟨F', a, ev, s, d, R'⟩ := Rh.freeze
      cases ev
      refine ⟨F', _, _, s, d, ?_, h⟩
      have q := back F' H (some (.ref a)) (.va o.d) (R'.push d)
      rw [set_self hv] at q
      exact q
    | va d =>
      simp only [use, e] at h
      rw [e] at Rh
      obtain ⟨x, ex, dx⟩ := Rh.ok _ List.mem_cons_self
      cases ex
      exact ⟨F, d, ρ, Same.refl _, dx, R, h⟩
    | no =>
      simp only [use, e] at h
end
def Rdv (S : Sit) (F : Hp) (l : List Slot) (v : V) (x : D) : Prop := Den S.g F v x ∨ ∃ o : Own, o.d = x ∧ (some v, Sl.ow o) ∈ l
section
variable {S : Sit} {F H : Hp} {T l : List Slot} {σ : L2.St} {ρ : Rho} {v : V}
theorem Rdv.int {i : Int} (h : Rdv S F l v (.int i)) : v = .int i := by
  rcases h with h | ⟨o, e, _⟩
  · cases h; rfl
  · cases o <;> cases e
theorem Rdv.bl {b : Bool} (h : Rdv S F l v (.bl b)) : v = .bl b := by
  rcases h with h | ⟨o, e, _⟩
  · cases h; rfl
  · cases o <;> cases e
theorem Rdv.str {x : Str} (h : Rdv S F l v (.str x)) : v = .str x := by
  rcases h with h | ⟨o, e, _⟩
  · cases h; rfl
  · cases o <;> cases e
theorem Rdv.non (h : Rdv S F l v .non) : v = .non := by
  rcases h with h | ⟨o, e, _⟩
  · cases h; rfl
  · cases o <;> cases e
theorem Rdv.tup {ds : List D} (h : Rdv S F l v (.tup ds)) : ∃ a xs, v = .ref a ∧ F a = some (.tup xs) ∧ DenL S.g F xs ds := by
  rcases h with h | ⟨o, e, _⟩
  · cases h with
    | tup a b => exact ⟨_, _, rfl, a, b⟩
  · cases o <;> cases e
theorem Rdv.lst {ds : List D} (R : Rep S F H l) (h : Rdv S F l v (.lst ds)) : ∃ a xs, v = .ref a ∧ H a = some (.lst xs) ∧ DenL S.g F xs ds := by
  rcases h with h | ⟨o, e, m⟩
  · cases h with
    | lst a b => exact ⟨_, _, rfl, R.fh _ _ a, b⟩
  · cases o with
    | lst d =>
      cases e
      obtain ⟨a, ev, _, _, xs, h1, h2⟩ := R.ok _ m
      cases ev
      exact ⟨a, xs, rfl, h1, h2⟩
    | dK d => cases e
    | dT d => cases e
theorem Rdv.dK {kvs : List (Key × D)} (R : Rep S F H l) (h : Rdv S F l v (.dK kvs)) : ∃ a ys, v = .ref a ∧ H a = some (.dK ys) ∧ ys.map (·.1) = kvs.map (·.1) ∧ DenL S.g F (ys.map (·.2)) (kvs.map (·.2)) := by
  rcases h with h | ⟨o, e, m⟩
  · cases h with
    | dK a b c => exact ⟨_, _, rfl, R.fh _ _ a, b, c⟩
  · cases o with
    | dK d =>
      cases e
      obtain ⟨a, ev, _, _, xs, h1, h2, h3⟩ := R.ok _ m
      cases ev
      exact ⟨a, xs, rfl, h1, h2, h3⟩
    | lst d => cases e
    | dT d => cases e
theorem Rdv.dT {kvs : List (List Key × D)} (R : Rep S F H l) (h : Rdv S F l v (.dT kvs)) : ∃ a ys, v = .ref a ∧ H a = some (.dT ys) ∧ ys.map (·.1) = kvs.map (·.1) ∧ DenL S.g F (ys.map (·.2)) (kvs.map (·.2)) := by
  rcases h with h | ⟨o, e, m⟩
  · cases h with
    | dT a b c => exact ⟨_, _, rfl, R.fh _ _ a, b, c⟩
  · cases o with
    | dT d =>
      cases e
      obtain ⟨a, ev, _, _, xs, h1, h2, h3⟩ := R.ok _ m
      cases ev
      exact ⟨a, xs, rfl, h1, h2, h3⟩
    | lst d => cases e
    | dK d => cases e
theorem Rdv.scr {ns : List Int} (h : Rdv S F l v (.scr ns)) : ∃ a, v = .ref a ∧ SqL S.g.K F a (ns.map V.int) := by
  rcases h with h | ⟨o, e, _⟩
  · cases h with
    | scr a => exact ⟨_, rfl, a⟩
  · cases o <;> cases e
theorem same_sq {K : PySem.W.Frag} {a : Addr} {xs : List V} (h : Same F H) (q : F a = some (.tup xs)) : SqT K H a xs := .inl (.inl (h _ _ q))

def pushT (v : V) (m : Tm) (T : List Slot) : List Slot := match m with
  | .o o => (some v, .ow o) :: T
  | _ => T
theorem RepV.stack {m : Tm} (R : RepV S F H v m T σ ρ) : RepS S F H (pushT v m T) σ ρ := by
  cases m with
  | d x => exact R.2
  | o x => exact R
  | r i => exact R.2
def Come (S : Sit) (F : Hp) (σ : L2.St) (v : V) (m : Tm) : Prop := match m with
  | .d d => Den S.g F v d
  | .o _ => True
  | .r i => σ[i]? = some (some v)
theorem RepV.come {m : Tm} (R : RepV S F H v m T σ ρ) : Come S F σ v m := by
  cases m with
  | d x => exact R.1
  | o x => exact trivial
  | r i => exact R.1
theorem Come.mono {m : Tm} {F' : Hp} (c : Come S F σ v m) (h : Same F F') : Come S F' σ v m := by
  cases m with
  | d x => exact Den.mono h c
  | o x => exact trivial
  | r i => exact c
theorem peek_ok {m : Tm} {K : D → Prop} {T1 : List Slot} (c : Come S F σ v m) (R : RepS S F H T1 σ ρ) (hm : ∀ o, m = .o o → (some v, Sl.ow o) ∈ T1) (h : peek m ρ K) : ∃ x, Rdv S F (T1 ++ σ.zip ρ) v x ∧ K x := by
  cases m with
  | d x => exact ⟨x, .inl c, h⟩
  | o x => exact ⟨_, .inr ⟨x, rfl, List.mem_append_left _ (hm x rfl)⟩, h⟩
  | r i =>
    have hv : σ[i]? = some (some v) := c
    obtain ⟨l1, l2, e1, _⟩ := zip_split R.1 hv
    have hmem : (some v, getS ρ i) ∈ T1 ++ σ.zip ρ := by rw [e1]; simp
    cases e : getS ρ i with
    | ow o =>
      simp only [peek, e] at h
      rw [e] at hmem
      exact ⟨_, .inr ⟨o, rfl, hmem⟩, h⟩
    | va d =>
      simp only [peek, e] at h
      rw [e] at hmem
      obtain ⟨x, ex, dx⟩ := R.2.ok _ hmem
      cases ex
      exact ⟨d, .inl dx, h⟩
    | no =>
      simp only [peek, e] at h
end

def RepZ (S : Sit) (F H : Hp) (w : V) (z : Tm) (l : List Slot) : Prop := match z with
  | .d d => Den S.g F w d ∧ Rep S F H l
  | .o o => Rep S F H ((some w, .ow o) :: l)
  | .r _ => False
abbrev Q1 := D → (Tm → Prop) → Prop
abbrev Q2 := D → D → (Tm → Prop) → Prop
def L1 (S : Sit) (q : Q1) : V → Hp → VK → Prop := fun v H Q => ∃ F l x Q0, Rep S F H l ∧ Rdv S F l v x ∧ q x Q0 ∧ ∀ z, Q0 z → ∀ F' H' w, Same F F' → RepZ S F' H' w z l → Q w H'
def L2q (S : Sit) (q : Q2) : R2 := fun v u H Q => ∃ F l x y Q0, Rep S F H l ∧ Rdv S F l v x ∧ Rdv S F l u y ∧ q x y Q0 ∧ ∀ z, Q0 z → ∀ F' H' w, Same F F' → RepZ S F' H' w z l → Q w H'
theorem RepZ.drop {S : Sit} {F H : Hp} {w : V} {z : Tm} {T T1 : List Slot} {σ : L2.St} {ρ : Rho} (hl : σ.length = ρ.length) (hT : T.Sublist T1) (R : RepZ S F H w z (T1 ++ σ.zip ρ)) : RepV S F H w z T σ ρ := by
  have hs : (T ++ σ.zip ρ).Sublist (T1 ++ σ.zip ρ) := hT.append (List.Sublist.refl _)
  cases z with
  | d d => exact ⟨R.1, hl, R.2.sub hs⟩
  | o o => exact ⟨hl, (show Rep S F H (_ :: (T1 ++ σ.zip ρ)) from R).sub (hs.cons₂ _)⟩
  | r i => exact R.elim
theorem pushT_sub {v : V} {m : Tm} {T : List Slot} : T.Sublist (pushT v m T) := by
  cases m with
  | d x => exact List.Sublist.refl _
  | o x => exact List.sublist_cons_self _ _
  | r i => exact List.Sublist.refl _
theorem pushT_mem {v : V} {m : Tm} {T : List Slot} : ∀ o, m = .o o → (some v, Sl.ow o) ∈ pushT v m T := by
  rintro o rfl
  exact List.mem_cons_self

def dOp1 (q : Q1) (ta : TD) : TD := fun ρ Q X => ta ρ (fun m ρ1 => peek m ρ1 fun x => q x fun z => Q z ρ1) X
def dOp2 (q : Q2) (ta tb : TD) : TD := fun ρ Q X => ta ρ (fun m ρ1 => tb ρ1 (fun n ρ2 => peek m ρ2 fun x => peek n ρ2 fun y => q x y fun z => Q z ρ2) X) X
section
variable {X : Cx} {S : Sit} {E : XK} {a b c : Expr} {ta tb tc : TD} {pos : Pos}
theorem lift1 {q : Q1} {σ : L2.St} {H : Hp} {Q : VK} (h : LE S E (dOp1 q ta) σ H Q) : LE S E ta σ H fun v H1 => L1 S q v H1 Q := by
  obtain ⟨F, ρ, T, Q0, X0, R, ht, hq, hx⟩ := h
  refine ⟨F, ρ, T, _, X0, R, ht, fun m ρ1 h1 F1 H1 v s1 R1 => ?_, hx⟩
  obtain ⟨x, r, k⟩ := peek_ok R1.come R1.stack pushT_mem h1
  exact ⟨F1, _, x, _, R1.stack.2, r, k, fun z hz F2 H2 w s2 R2 => hq z ρ1 hz F2 H2 w (s1.trans s2) (R2.drop R1.toS.1 pushT_sub)⟩
theorem lift2 {q : Q2} {σ : L2.St} {H : Hp} {Q : VK} (h : LE S E (dOp2 q ta tb) σ H Q) : LE S E ta σ H fun v H1 => LE S E tb σ H1 fun u H2 => L2q S q v u H2 Q := by
  obtain ⟨F, ρ, T, Q0, X0, R, ht, hq, hx⟩ := h
  refine ⟨F, ρ, T, _, X0, R, ht, fun m ρ1 h1 F1 H1 v s1 R1 => ?_, hx⟩
  refine ⟨F1, ρ1, pushT v m T, _, X0, R1.stack, h1, fun n ρ2 h2 F2 H2 u s2 R2 => ?_, hx.mono s1⟩
  obtain ⟨x, r1, h3⟩ := peek_ok (R1.come.mono s2) R2.stack (fun o e => pushT_sub.subset (pushT_mem o e)) h2
  obtain ⟨y, r2, k⟩ := peek_ok R2.come R2.stack pushT_mem h3
  exact ⟨F2, _, x, y, _, R2.stack.2, r1, r2, k, fun z hz F3 H3 w s3 R3 => hq z ρ2 hz F3 H3 w ((s1.trans s2).trans s3) (R3.drop R2.toS.1 (pushT_sub.trans pushT_sub))⟩
theorem ex_op2 {op : Operator} {q : Q2} (ho : OpR X (binaryOp op) (L2q S q)) (ha : EX X S E a ta) (hb : EX X S E b tb) : EX X S E (.BinOp a op b pos) (dOp2 q ta tb) :=
  PE_imp (pe_op ho ha hb) fun _ _ _ h => lift2 h
theorem ex_un {op : UnaryOp} {q : Q1} (ho : UnR X (unaryOp op) (L1 S q)) (ha : EX X S E a ta) : EX X S E (.UnaryOp op a pos) (dOp1 q ta) :=
  PE_imp (pe_un ho ha) fun _ _ _ h => lift1 h
theorem ex_cmp {op : CmpOp} {q : Q2} (ho : OpR X (compareOp op) (L2q S q)) (ha : EX X S E a ta) (hb : EX X S E b tb) (hm : behindInMarks op b = false) : EX X S E (.Compare a [op] [b] pos) (dOp2 q ta tb) :=
  PE_imp (pe_cmpR ho ha hb hm) fun _ _ _ h => lift2 h
def isB : Tm → (Bool → Prop) → Prop
  | .d (.bl b), K => K b
  | _, _ => False
def bTest (t : TD) : TB := fun ρ Q X => t ρ (fun m ρ1 => isB m fun b => Q b ρ1) X
theorem liftB {t : TD} {σ : L2.St} {H : Hp} {Q : Bool → Hp → Prop} (h : LT S E (bTest t) σ H Q) : LE S E t σ H fun v H1 => ∃ k, v = .bl k ∧ Q k H1 := by
  obtain ⟨F, ρ, T, Q0, X0, R, ht, hq, hx⟩ := h
  refine ⟨F, ρ, T, _, X0, R, ht, fun m ρ1 h1 F1 H1 v s1 R1 => ?_, hx⟩
  cases m with
  | d x =>
    cases x with
    | bl k =>
      have dv := R1.1
      cases dv
      exact ⟨k, rfl, hq k ρ1 h1 F1 H1 s1 R1.2⟩
    | _ => exact h1.elim
  | o x => exact h1.elim
  | r i => exact h1.elim
theorem tx_cmp {op : CmpOp} {q : Q2} (ho : OpR X (compareOp op) (L2q S q)) (ha : EX X S E a ta) (hb : EX X S E b tb) (hm : behindInMarks op b = false) : TX X S E (.Compare a [op] [b] pos) (bTest (dOp2 q ta tb)) := by
  refine PT_imp (pt_cmpR ho ha hb hm) fun σ H Q h => ?_
  obtain ⟨F, ρ, T, Q0, X0, R, ht, hq, hx⟩ := liftB h
  exact lift2 ⟨F, ρ, T, Q0, X0, R, ht, hq, hx⟩
theorem tx_val {e : Expr} {t : TD} (h : EX X S E e t) (he : ∀ whole, isTrue e X.env whole = (do let v ← whole; standAt e.pos; holding [v] (truthy v)) := by intro _; rfl) : TX X S E e (bTest t) :=
  PT_imp (pt_val h he) fun _ _ _ h => liftB h

def dVar (i : Nat) : TD := fun ρ Q _ => match getS ρ i with
  | .va d => Q (.d d) ρ
  | .ow _ => Q (.r i) ρ
  | .no => False
theorem ex_var {i : Nat} {x : Str} (hN : X.N[i]? = some x) (hv : Vis X.env.scope x) (hd : (x == ("__debug__" : Str)) = false := by decide) (hcd : (x == ("__classdict__" : Str)) = false := by decide) : EX X S E (.Name x pos) (dVar i) := by
  refine PE_imp (pe_var hN hv hd hcd) fun σ H Q h => ?_
  obtain ⟨F, ρ, T, Q0, X0, R, ht, hq, hx⟩ := h
  unfold dVar at ht
  cases e : getS ρ i with
  | no => rw [e] at ht; exact ht.elim
  | va d =>
    rw [e] at ht
    have hi : i < σ.length := by
      rw [R.1]
      exact (List.getElem?_eq_some_iff.mp (getS_some e (by intro z; cases z))).1
    obtain ⟨l, Rh, _, _⟩ := R.split (List.getElem?_eq_getElem hi)
    rw [e] at Rh
    obtain ⟨v, ev, dv⟩ := Rh.ok _ List.mem_cons_self
    exact ⟨v, by rw [List.getElem?_eq_getElem hi, ev], hq _ _ ht F H v (Same.refl _) ⟨dv, R⟩⟩
  | ow o =>
    rw [e] at ht
    have hi : i < σ.length := by
      rw [R.1]
      exact (List.getElem?_eq_some_iff.mp (getS_some e (by intro z; cases z))).1
    obtain ⟨l, Rh, _, _⟩ := R.split (List.getElem?_eq_getElem hi)
    rw [e] at Rh
    obtain ⟨a, ev, _⟩ := Rh.ok _ List.mem_cons_self
    have hv : σ[i]? = some (some (.ref a)) := by rw [List.getElem?_eq_getElem hi, ev]
    exact ⟨.ref a, hv, hq _ _ ht F H _ (Same.refl _) ⟨hv, R⟩⟩
theorem xv (i : Nat) {x : Str} (hN : X.N[i]? = some x := by rfl) (hv : Vis X.env.scope x := by first | exact Or.inl rfl | exact Or.inr (Or.inl rfl) | exact Or.inr (Or.inr rfl)) (hd : (x == ("__debug__" : Str)) = false := by decide)
    (hcd : (x == ("__classdict__" : Str)) = false := by decide) : EX X S E (.Name x pos) (dVar i) := ex_var hN hv hd hcd
def dC (d : D) : TD := fun ρ Q _ => Q (.d d) ρ
theorem ex_c {e : Expr} {v : V} {d : D} (h : PE X e (tC v)) (r : ∀ F, Den S.g F v d) : EX X S E e (dC d) :=
  PE_imp h fun σ H Q ⟨F, ρ, T, Q0, X0, R, ht, hq, hx⟩ => hq _ _ ht F H v (Same.refl _) ⟨r F, R⟩
theorem ex_int {i j} : EX X S E (.Constant (.int i) j pos) (dC (.int i)) := ex_c pe_int fun _ => .int i
theorem ex_bl {b j} : EX X S E (.Constant (.bool b) j pos) (dC (.bl b)) := ex_c pe_bl fun _ => .bl b
theorem ex_non {j} : EX X S E (.Constant .none j pos) (dC .non) := ex_c pe_non fun _ => .non
theorem ex_str {x j} : EX X S E (.Constant (.str x) j pos) (dC (.str x)) := ex_c pe_str fun _ => .str x
theorem ex_gint {x : Str} {i : Int} {t : Tok} (hg : Gl X x) (hm : X.mg x = some (.int i t)) (hd : (x == ("__debug__" : Str)) = false := by decide) : EX X S E (.Name x pos) (dC (.int i)) := ex_c (pe_glob (v := .int i) hg hm ⟨t, rfl⟩ hd) fun _ => .int i
theorem ex_gref {x : Str} {a : Addr} (hg : Gl X x) (hm : X.mg x = some (.ref a)) (hd : (x == ("__debug__" : Str)) = false := by decide) : EX X S E (.Name x pos) (dC (.op (.ref a))) := ex_c (pe_glob (v := .ref a) hg hm rfl hd) fun _ => .op _
theorem ex_gty {x : Str} {T : String} (hg : Gl X x) (hm : X.mg x = none) (hv : bootBuiltins x = some (.type T)) (hn : x ≠ "__name__" := by decide) (hd : (x == ("__debug__" : Str)) = false := by decide) : EX X S E (.Name x pos) (dC (.op (.ty T))) := ex_c (pe_bltn (v := .ty T) hg hm hv rfl hn hd) fun _ => .op _

def aNil : TAs := fun ρ Q _ => Q [] ρ
def aCons (t : TD) (u : TAs) : TAs := fun ρ Q X => t ρ (fun m ρ1 => use m ρ1 fun x ρ2 => u ρ2 (fun xs ρ3 => Q (x :: xs) ρ3) X) X
theorem ax_nil : AX X S E [] aNil := PA_imp pa_nil fun σ H Q ⟨F, ρ, T, Q0, X0, R, ht, hq, hx⟩ => hq _ _ ht F H [] (Same.refl _) .nil R
theorem ax_cons {e : Expr} {es : List Expr} {t : TD} {u : TAs} (ha : EX X S E e t) (hr : AX X S E es u) (hs : starEach (e :: es) X.env = (false, eval e X.env) :: starEach es X.env := by rfl) : AX X S E (e :: es) (aCons t u) := by
  refine PA_imp (pa_cons ha hr hs) fun σ H Q ⟨F, ρ, T, Q0, X0, R, ht, hq, hx⟩ => ?_
  refine ⟨F, ρ, T, _, X0, R, ht, fun m ρ1 h1 F1 H1 v s1 R1 => ?_, hx⟩
  obtain ⟨F2, d, ρ2, s2, dv, R2, k⟩ := use_ok R1 h1
  exact ⟨F2, ρ2, T, _, X0, R2, k, fun ds ρ3 h3 F3 H3 vs s3 dl R3 => hq _ _ h3 F3 H3 (v :: vs) ((s1.trans s2).trans s3) (.cons (dv.mono s3) dl) R3, hx.mono (s1.trans s2)⟩

def dTup (t : TAs) : TD := fun ρ Q X => t ρ (fun ds ρ1 => ds.length ≤ sizeLine ∧ Q (.d (.tup ds)) ρ1) X
def dLst (t : TAs) : TD := fun ρ Q X => t ρ (fun ds ρ1 => ds.length ≤ sizeLine ∧ Q (.o (.lst ds)) ρ1) X
theorem ex_tup {es : List Expr} {t : TAs} {x1} (h : AX X S E es t) : EX X S E (.Tuple es x1 pos) (dTup t) := by
  refine PE_imp (pe_tup h) fun σ H Q ⟨F, ρ, T, Q0, X0, R, ht, hq, hx⟩ => ?_
  refine ⟨F, ρ, T, _, X0, R, ht, fun ds ρ1 h1 F1 H1 vs s1 dl R1 => ⟨by rw [dl.length]; exact h1.1, fun p np => ?_⟩, hx⟩
  have n1 : F1 p = none := (R1.2.free np).1
  exact hq _ _ h1.2 _ _ _ (s1.trans (same_new n1)) ⟨.tup upd_same (dl.mono (same_new n1)), R1.1, R1.2.newF np⟩
theorem ex_lst {es : List Expr} {t : TAs} (h : AX X S E es t) : EX X S E (.List es pos) (dLst t) := by
  refine PE_imp (pe_lst h) fun σ H Q ⟨F, ρ, T, Q0, X0, R, ht, hq, hx⟩ => ?_
  refine ⟨F, ρ, T, _, X0, R, ht, fun ds ρ1 h1 F1 H1 vs s1 dl R1 => ⟨by rw [dl.length]; exact h1.1, fun p np => ?_⟩, hx⟩
  exact hq _ _ h1.2 _ _ _ s1 ⟨R1.1, R1.2.newO np ⟨vs, upd_same, dl⟩⟩

def bAnd (t u : TB) : TB := fun ρ Q X => t ρ (fun b ρ1 => match b with | true => u ρ1 Q X | false => Q false ρ1) X
def bOr (t u : TB) : TB := fun ρ Q X => t ρ (fun b ρ1 => match b with | true => Q true ρ1 | false => u ρ1 Q X) X
def bNot (t : TB) : TB := fun ρ Q X => t ρ (fun b ρ1 => Q (!b) ρ1) X
variable {tA tB' : TB} {rest : List Expr}
theorem wx_and1 (ha : TX X S E a tA) : WX' X S E (.BoolOp .And [a] pos) tA := pw_and1 ha
theorem wx_or1 (ha : TX X S E a tA) : WX' X S E (.BoolOp .Or [a] pos) tA := pw_or1 ha
theorem wx_and (ha : TX X S E a tA) (hb : WX' X S E (.BoolOp .And (b :: rest) pos) tB') : WX' X S E (.BoolOp .And (a :: b :: rest) pos) (bAnd tA tB') := by
  refine PW_imp (pw_and ha hb) fun σ H Q ⟨F, ρ, T, Q0, X0, R, ht, hq, hx⟩ => ?_
  refine ⟨F, ρ, T, _, X0, R, ht, fun k ρ1 h1 F1 H1 s1 R1 => ?_, hx⟩
  cases k with
  | true => rw [if_pos rfl]; exact ⟨F1, ρ1, T, Q0, X0, R1, h1, fun k2 ρ2 h2 F2 H2 s2 R2 => hq k2 ρ2 h2 F2 H2 (s1.trans s2) R2, hx.mono s1⟩
  | false => rw [if_neg Bool.false_ne_true]; exact hq _ _ h1 F1 H1 s1 R1
theorem wx_or (ha : TX X S E a tA) (hb : WX' X S E (.BoolOp .Or (b :: rest) pos) tB') : WX' X S E (.BoolOp .Or (a :: b :: rest) pos) (bOr tA tB') := by
  refine PW_imp (pw_or ha hb) fun σ H Q ⟨F, ρ, T, Q0, X0, R, ht, hq, hx⟩ => ?_
  refine ⟨F, ρ, T, _, X0, R, ht, fun k ρ1 h1 F1 H1 s1 R1 => ?_, hx⟩
  cases k with
  | true => rw [if_pos rfl]; exact hq _ _ h1 F1 H1 s1 R1
  | false => rw [if_neg Bool.false_ne_true]; exact ⟨F1, ρ1, T, Q0, X0, R1, h1, fun k2 ρ2 h2 F2 H2 s2 R2 => hq k2 ρ2 h2 F2 H2 (s1.trans s2) R2, hx.mono s1⟩
theorem tx_w {e : Expr} {t : TB} (h : WX' X S E e t) : TX X S E e t := h.pt
theorem tx_not (ha : TX X S E a tA) : TX X S E (.UnaryOp .Not a pos) (bNot tA) :=
  PT_imp (pt_not ha) fun σ H Q ⟨F, ρ, T, Q0, X0, R, ht, hq, hx⟩ => ⟨F, ρ, T, _, X0, R, ht, fun k ρ1 h1 F1 H1 s1 R1 => hq _ _ h1 F1 H1 s1 R1, hx⟩
def dAnd (t u : TD) : TD := fun ρ Q X => t ρ (fun m ρ1 => isB m fun b => match b with | true => u ρ1 Q X | false => Q (.d (.bl false)) ρ1) X
def dOr (t u : TD) : TD := fun ρ Q X => t ρ (fun m ρ1 => isB m fun b => match b with | true => Q (.d (.bl true)) ρ1 | false => u ρ1 Q X) X
def dNot (t : TD) : TD := fun ρ Q X => t ρ (fun m ρ1 => isB m fun b => Q (.d (.bl !b)) ρ1) X
theorem liftBl {t : TD} {R' : Bool → Hp → Prop} {σ : L2.St} {H F : Hp} {ρ : Rho} {T : List Slot} {X0 : Exn → Prop} {K : Bool → Rho → Prop} (R : RepS S F H T σ ρ) (hx : LX S F E X0) (ht : t ρ (fun m ρ1 => isB m fun b => K b ρ1) X0)
    (hk : ∀ b ρ1, K b ρ1 → ∀ F1 H1, Same F F1 → RepS S F1 H1 T σ ρ1 → R' b H1) : LE S E t σ H fun v H1 => ∃ k, v = .bl k ∧ R' k H1 :=
  liftB (t := t) ⟨F, ρ, T, K, X0, R, ht, hk, hx⟩
theorem ex_one {op} (h : EX X S E a ta) : EX X S E (.BoolOp op [a] pos) ta := pe_one h
theorem ex_and (ha : EX X S E a ta) (hb : EX X S E (.BoolOp .And (b :: rest) pos) tb) : EX X S E (.BoolOp .And (a :: b :: rest) pos) (dAnd ta tb) := by
  refine PE_imp (pe_and ha hb) fun σ H Q ⟨F, ρ, T, Q0, X0, R, ht, hq, hx⟩ => ?_
  refine liftBl R hx ht fun k ρ1 h1 F1 H1 s1 R1 => ?_
  cases k with
  | true => rw [if_pos rfl]; exact ⟨F1, ρ1, T, Q0, X0, R1, h1, fun m ρ2 h2 F2 H2 v s2 R2 => hq m ρ2 h2 F2 H2 v (s1.trans s2) R2, hx.mono s1⟩
  | false => rw [if_neg Bool.false_ne_true]; exact hq _ _ h1 F1 H1 _ s1 ⟨.bl false, R1⟩
theorem ex_or (ha : EX X S E a ta) (hb : EX X S E (.BoolOp .Or (b :: rest) pos) tb) : EX X S E (.BoolOp .Or (a :: b :: rest) pos) (dOr ta tb) := by
  refine PE_imp (pe_or ha hb) fun σ H Q ⟨F, ρ, T, Q0, X0, R, ht, hq, hx⟩ => ?_
  refine liftBl R hx ht fun k ρ1 h1 F1 H1 s1 R1 => ?_
  cases k with
  | true => rw [if_pos rfl]; exact hq _ _ h1 F1 H1 _ s1 ⟨.bl true, R1⟩
  | false => rw [if_neg Bool.false_ne_true]; exact ⟨F1, ρ1, T, Q0, X0, R1, h1, fun m ρ2 h2 F2 H2 v s2 R2 => hq m ρ2 h2 F2 H2 v (s1.trans s2) R2, hx.mono s1⟩
theorem ex_not (ha : EX X S E a ta) : EX X S E (.UnaryOp .Not a pos) (dNot ta) := by
  refine PE_imp (pe_not ha) fun σ H Q ⟨F, ρ, T, Q0, X0, R, ht, hq, hx⟩ => ?_
  exact liftBl R hx ht fun k ρ1 h1 F1 H1 s1 R1 => hq _ _ h1 F1 H1 _ s1 ⟨.bl _, R1⟩
def dIfE (t : TB) (ta tb : TD) : TD := fun ρ Q X => t ρ (fun b ρ1 => match b with | true => ta ρ1 Q X | false => tb ρ1 Q X) X
theorem ex_ifE (hc : TX X S E c tA) (ha : EX X S E a ta) (hb : EX X S E b tb) : EX X S E (.IfExp c a b pos) (dIfE tA ta tb) := by
  refine PE_imp (pe_ifExp hc ha hb) fun σ H Q ⟨F, ρ, T, Q0, X0, R, ht, hq, hx⟩ => ?_
  refine ⟨F, ρ, T, _, X0, R, ht, fun k ρ1 h1 F1 H1 s1 R1 => ?_, hx⟩
  cases k with
  | true => rw [if_pos rfl]; exact ⟨F1, ρ1, T, Q0, X0, R1, h1, fun m ρ2 h2 F2 H2 v s2 R2 => hq m ρ2 h2 F2 H2 v (s1.trans s2) R2, hx.mono s1⟩
  | false => rw [if_neg Bool.false_ne_true]; exact ⟨F1, ρ1, T, Q0, X0, R1, h1, fun m ρ2 h2 F2 H2 v s2 R2 => hq m ρ2 h2 F2 H2 v (s1.trans s2) R2, hx.mono s1⟩
end
end PL
set_option Elab.async false
set_option linter.all false
set_option maxRecDepth 100000
namespace PL
open PySem PySem.Spec PyProof.Rows L2

structure PEnds where
  nx : Rho → Prop
  rt : D → Prop
  bk : Rho → Prop := fun _ => False
  ct : Rho → Prop := fun _ => False
  ex : Exn → Prop := fun _ => False
abbrev TSt := PEnds → Rho → Prop
structure LP (S : Sit) (F : Hp) (E : XK) (P : PEnds) (Dn : Ends) : Prop where
  nx : ∀ ρ', P.nx ρ' → ∀ F' H' σ', Same F F' → RepS S F' H' [] σ' ρ' → Dn.nx σ' H'
  rt : ∀ d, P.rt d → ∀ F' H' v, Same F F' → Rep S F' H' [] → Den S.g F' v d → Dn.rt v H'
  bk : ∀ ρ', P.bk ρ' → ∀ F' H' σ', Same F F' → RepS S F' H' [] σ' ρ' → Dn.bk σ' H'
  ct : ∀ ρ', P.ct ρ' → ∀ F' H' σ', Same F F' → RepS S F' H' [] σ' ρ' → Dn.ct σ' H'
  ex : LX S F E P.ex
theorem LP.mono {S : Sit} {F F1 : Hp} {E : XK} {P : PEnds} {Dn : Ends} (l : LP S F E P Dn) (s : Same F F1) : LP S F1 E P Dn :=
  ⟨fun ρ' h F' H' σ' s' => l.nx ρ' h F' H' σ' (s.trans s'), fun d h F' H' v s' => l.rt d h F' H' v (s.trans s'), fun ρ' h F' H' σ' s' => l.bk ρ' h F' H' σ' (s.trans s'),
    fun ρ' h F' H' σ' s' => l.ct ρ' h F' H' σ' (s.trans s'), l.ex.mono s⟩
def LS (S : Sit) (E : XK) (t : TSt) : TS := fun Dn σ H => ∃ F ρ P, RepS S F H [] σ ρ ∧ t P ρ ∧ LP S F E P Dn
def SX (X : Cx) (S : Sit) (E : XK) (st : Stmt) (t : TSt) : Prop := PS X st (LS S E t)
def SXs (X : Cx) (S : Sit) (E : XK) (st : List Stmt) (t : TSt) : Prop := PSs X st (LS S E t)

def asg (i : Nat) : Tm → Rho → (Rho → Prop) → Prop
  | .d d, ρ, K => K (setS ρ i (.va d))
  | .o o, ρ, K => K (setS ρ i (.ow o))
  | .r j, ρ, K => use (.r j) ρ fun d ρ1 => K (setS ρ1 i (.va d))
section
variable {S : Sit} {F H : Hp} {T : List Slot} {σ : L2.St} {ρ : Rho} {v : V}
theorem setS_out {ρ : Rho} {i : Nat} {x : Sl} (h : ρ.length ≤ i) : setS ρ i x = ρ := by rw [setS_eq]; exact List.set_eq_of_length_le h
theorem RepS.put {i : Nat} {d : D} (R : RepS S F H T σ ρ) (h : Den S.g F v d) : RepS S F H T (σ.set i (some v)) (setS ρ i (.va d)) := by
  by_cases hi : i < σ.length
  · obtain ⟨l, _, back, Rl⟩ := R.split (List.getElem?_eq_getElem hi)
    exact back F H _ _ (Rl.push h)
  · rw [List.set_eq_of_length_le (by omega), setS_out (by rw [← R.1]; omega)]
    exact R
theorem RepS.putNo {i : Nat} {w : Option V} (R : RepS S F H T σ ρ) : RepS S F H T (σ.set i w) (setS ρ i .no) := by
  by_cases hi : i < σ.length
  · obtain ⟨l, _, back, Rl⟩ := R.split (List.getElem?_eq_getElem hi)
    exact back F H _ _ Rl.pushNo
  · rw [List.set_eq_of_length_le (by omega), setS_out (by rw [← R.1]; omega)]
    exact R
theorem RepS.putOw {i : Nat} {o : Own} (R : RepS S F H ((some v, .ow o) :: T) σ ρ) : RepS S F H T (σ.set i (some v)) (setS ρ i (.ow o)) := by
  by_cases hi : i < σ.length
  · obtain ⟨hl, R'⟩ := R
    obtain ⟨l1, l2, e1, e2⟩ := zip_split hl (List.getElem?_eq_getElem hi)
    refine ⟨by rw [List.length_set, setS_length]; exact hl, ?_⟩
    rw [e2, ← List.append_assoc]
    refine Rep.perm ?_ List.perm_middle.symm
    rw [e1] at R'
    refine R'.sub ?_
    show ((some v, Sl.ow o) :: (T ++ l1 ++ l2)).Sublist ((some v, Sl.ow o) :: (T ++ (l1 ++ _ :: l2)))
    refine List.Sublist.cons₂ _ ?_
    rw [List.append_assoc]
    exact (List.Sublist.refl _).append ((List.Sublist.refl _).append (List.sublist_cons_self _ _))
  · rw [List.set_eq_of_length_le (by omega), setS_out (by rw [← R.1]; omega)]
    exact ⟨R.1, (show Rep S F H (_ :: (T ++ σ.zip ρ)) from R.2).tail⟩
theorem asg_ok {i : Nat} {m : Tm} {K : Rho → Prop} (R : RepV S F H v m T σ ρ) (h : asg i m ρ K) : ∃ F' ρ', Same F F' ∧ RepS S F' H T (σ.set i (some v)) ρ' ∧ K ρ' := by
  cases m with
  | d x => exact ⟨F, _, Same.refl _, R.2.put R.1, h⟩
  | o x => exact ⟨F, _, Same.refl _, RepS.putOw R, h⟩
  | r j =>
    obtain ⟨F', d, ρ', s, dv, R', k⟩ := use_ok (m := .r j) (K := fun d ρ1 => K (setS ρ1 i (.va d))) R h
    exact ⟨F', _, s, R'.put dv, k⟩
end

section
variable {X : Cx} {S : Sit} {E : XK} {st : Stmt} {rest : List Stmt} {t u : TSt} {e : Expr} {te : TD} {pos : Pos}
def dNext : TSt := fun P ρ => P.nx ρ
def dSeq (t u : TSt) : TSt := fun P ρ => t { P with nx := u P } ρ
theorem sxs_nil : SXs X S E [] dNext := PSs_imp pss_nil fun Dn σ H ⟨F, ρ, P, R, ht, lp⟩ => lp.nx ρ ht F H σ (Same.refl _) R
theorem sxs_cons (h1 : SX X S E st t) (h2 : SXs X S E rest u) : SXs X S E (st :: rest) (dSeq t u) :=
  PSs_imp (pss_cons h1 h2) fun Dn σ H ⟨F, ρ, P, R, ht, lp⟩ => ⟨F, ρ, { P with nx := u P }, R, ht, ⟨fun ρ' h F' H' σ' s R' => ⟨F', ρ', P, R', h, lp.mono s⟩, lp.rt, lp.bk, lp.ct, lp.ex⟩⟩
theorem sxs_one (h1 : SX X S E st t) : SXs X S E [st] t := pss_one h1
theorem sx_pass : SX X S E (.Pass pos) dNext := PS_imp ps_pass fun Dn σ H ⟨F, ρ, P, R, ht, lp⟩ => lp.nx ρ ht F H σ (Same.refl _) R
def dBrk : TSt := fun P ρ => P.bk ρ
def dCnt : TSt := fun P ρ => P.ct ρ
theorem sx_break : SX X S E (.Break pos) dBrk := PS_imp ps_break fun Dn σ H ⟨F, ρ, P, R, ht, lp⟩ => lp.bk ρ ht F H σ (Same.refl _) R
theorem sx_cont : SX X S E (.Continue pos) dCnt := PS_imp ps_continue fun Dn σ H ⟨F, ρ, P, R, ht, lp⟩ => lp.ct ρ ht F H σ (Same.refl _) R
def dNever : TSt := fun _ _ => False
theorem sx_never : SX X S E st dNever := PS_imp ps_never fun Dn σ H ⟨F, ρ, P, R, ht, lp⟩ => ht
def dDrop (te : TD) : TSt := fun P ρ => te ρ (fun _ ρ1 => P.nx ρ1) P.ex
theorem sx_expr (he : EX X S E e te) (hs : swapsWith e none pos.line X.env = pure false := by rfl) : SX X S E (.Expr e pos) (dDrop te) :=
  PS_imp (ps_expr he hs) fun Dn σ H ⟨F, ρ, P, R, ht, lp⟩ => ⟨F, ρ, [], _, _, R, ht, fun m ρ1 h F1 H1 v s R1 => lp.nx ρ1 h F1 H1 σ s R1.toS, lp.ex⟩
def dRet (te : TD) : TSt := fun P ρ => te ρ (fun m ρ1 => use m ρ1 fun d _ => P.rt d) P.ex
theorem sx_ret (he : EX X S E e te) : SX X S E (.Return (some e) pos) (dRet te) := by
  refine PS_imp (ps_ret he) fun Dn σ H ⟨F, ρ, P, R, ht, lp⟩ => ⟨F, ρ, [], _, _, R, ht, fun m ρ1 h F1 H1 v s R1 => ?_, lp.ex⟩
  obtain ⟨F2, d, ρ2, s2, dv, R2, k⟩ := use_ok R1 h
  exact lp.rt d k F2 H1 v (s.trans s2) R2.2.nil dv
def dRetN : TSt := fun P _ => P.rt .non
theorem sx_retN : SX X S E (.Return none pos) dRetN := PS_imp ps_retN fun Dn σ H ⟨F, ρ, P, R, ht, lp⟩ => lp.rt _ ht F H _ (Same.refl _) R.2.nil .non
def dIf (c : TB) (t u : TSt) : TSt := fun P ρ => c ρ (fun b ρ1 => match b with | true => t P ρ1 | false => u P ρ1) P.ex
theorem sx_if {c : Expr} {a b : List Stmt} {tc : TB} (hc : TX X S E c tc) (ha : SXs X S E a t) (hb : SXs X S E b u) : SX X S E (.If c a b pos) (dIf tc t u) := by
  refine PS_imp (ps_if hc ha hb) fun Dn σ H ⟨F, ρ, P, R, ht, lp⟩ => ⟨F, ρ, [], _, _, R, ht, fun k ρ1 h F1 H1 s R1 => ?_, lp.ex⟩
  cases k with
  | true => rw [if_pos rfl]; exact ⟨F1, ρ1, P, R1, h, lp.mono s⟩
  | false => rw [if_neg Bool.false_ne_true]; exact ⟨F1, ρ1, P, R1, h, lp.mono s⟩
def dSet (i : Nat) (te : TD) : TSt := fun P ρ => te ρ (fun m ρ1 => asg i m ρ1 P.nx) P.ex
theorem liftSet {i : Nat} {Dn : Ends} {σ : L2.St} {H : Hp} (h : LS S E (dSet i te) Dn σ H) : tAsg (LE S E te) (gName i) Dn σ H := by
  obtain ⟨F, ρ, P, R, ht, lp⟩ := h
  refine ⟨F, ρ, [], _, _, R, ht, fun m ρ1 h F1 H1 v s R1 => ?_, lp.ex⟩
  obtain ⟨F2, ρ2, s2, R2, k⟩ := asg_ok R1 h
  exact lp.nx ρ2 k F2 H1 _ (s.trans s2) R2
theorem sx_set {i : Nat} {x : Str} {pos' : Pos} (hN : X.N.Nodup) (hi : X.N[i]? = some x) (hx : Loc X.env.scope x) (he : EX X S E e te) (hs : swapsWith e (some (.Name x pos')) pos.line X.env = pure false := by rfl) (hf : X.fn x = true ∨ X.env.scope.names.lookup x = some .local := by first | exact .inl rfl | exact .inr rfl | assumption) :
    SX X S E (.Assign [.Name x pos'] e pos) (dSet i te) := PS_imp (ps_set hN hi hx he hs hf) fun _ _ _ h => liftSet h
end

abbrev TGp := D → Rho → (Rho → Prop) → Prop
def But (is : List Nat) (σ σ' : L2.St) : Prop := σ'.length = σ.length ∧ ∀ j, j ∉ is → σ'[j]? = σ[j]?
theorem But.refl {is : List Nat} {σ : L2.St} : But is σ σ := ⟨rfl, fun _ _ => rfl⟩
theorem But.trans {is js : List Nat} {σ σ1 σ2 : L2.St} (a : But is σ σ1) (b : But js σ1 σ2) : But (is ++ js) σ σ2 :=
  ⟨b.1.trans a.1, fun j hj => (b.2 j fun z => hj (List.mem_append_right _ z)).trans (a.2 j fun z => hj (List.mem_append_left _ z))⟩
def LG (S : Sit) (is : List Nat) (g : TGp) : TG := fun v σ H Q => ∃ F ρ T d K, RepS S F H T σ ρ ∧ Den S.g F v d ∧ g d ρ K ∧ ∀ ρ', K ρ' → ∀ F' H' σ', Same F F' → But is σ σ' → RepS S F' H' T σ' ρ' → Q σ' H'
def GX (X : Cx) (S : Sit) (is : List Nat) (tg : Expr) (g : TGp) : Prop := PG X tg (LG S is g)
abbrev TGps := List D → Rho → (Rho → Prop) → Prop
def LGs (S : Sit) (is : List Nat) (g : TGps) : TGs := fun vs σ H Q => ∃ F ρ T ds K, RepS S F H T σ ρ ∧ DenL S.g F vs ds ∧ g ds ρ K ∧ ∀ ρ', K ρ' → ∀ F' H' σ', Same F F' → But is σ σ' → RepS S F' H' T σ' ρ' → Q σ' H'
def GXs (X : Cx) (S : Sit) (is : List Nat) (ts : List Expr) (g : TGps) : Prop := PGs X ts (LGs S is g)
section
variable {X : Cx} {S : Sit} {E : XK} {pos : Pos}
theorem PG_imp {tg : Expr} {t t' : TG} (h : PG X tg t') (i : ∀ v σ H Q, t v σ H Q → t' v σ H Q) : PG X tg t := ⟨fun pins s σ H v u Q I r q => h.run pins s σ H v u Q I r (i v σ H Q q)⟩
theorem PGs_imp {tg : List Expr} {t t' : TGs} (h : PGs X tg t') (i : ∀ v σ H Q, t v σ H Q → t' v σ H Q) : PGs X tg t := ⟨fun pins s σ H v u Q I r q => h.run pins s σ H v u Q I r (i v σ H Q q)⟩
def gN (i : Nat) : TGp := fun d ρ K => K (setS ρ i (.va d))
theorem gx_name {i : Nat} {x : Str} (hN : X.N.Nodup) (hi : X.N[i]? = some x) (hx : Loc X.env.scope x) (hf : X.fn x = true ∨ X.env.scope.names.lookup x = some .local := by first | exact .inl rfl | exact .inr rfl | assumption) : GX X S [i] (.Name x pos) (gN i) :=
  PG_imp (pg_name hN hi hx hf) fun v σ H Q ⟨F, ρ, T, d, K, R, dv, h, hq⟩ => hq _ h F H _ (Same.refl _) ⟨List.length_set, fun j hj => List.getElem?_set_ne (by intro e; exact hj (by simp [e]))⟩ (R.put dv)
def gpNil : TGps := fun ds ρ K => match ds with | [] => K ρ | _ => False
def gpCons (g : TGp) (gs : TGps) : TGps := fun ds ρ K => match ds with | d :: r => g d ρ fun ρ1 => gs r ρ1 K | [] => False
theorem gxs_nil : GXs X S [] [] gpNil := by
  refine PGs_imp pgs_nil fun vs σ H Q ⟨F, ρ, T, ds, K, R, dl, h, hq⟩ => ?_
  cases ds with
  | nil => cases dl; exact ⟨rfl, hq _ h F H σ (Same.refl _) But.refl R⟩
  | cons d r => exact (show False from h).elim
theorem gxs_cons {is js : List Nat} {e : Expr} {es : List Expr} {g : TGp} {gs : TGps} (h1 : GX X S is e g) (h2 : GXs X S js es gs) (hs : (assignEach (e :: es) X.env).map (·.2) = assign e X.env :: (assignEach es X.env).map (·.2) := by rfl) : GXs X S (is ++ js) (e :: es) (gpCons g gs) := by
  refine PGs_imp (pgs_cons h1 h2 hs) fun vs σ H Q ⟨F, ρ, T, ds, K, R, dl, h, hq⟩ => ?_
  cases ds with
  | nil => exact (show False from h).elim
  | cons d r =>
    cases dl with
    | cons dv dr =>
      refine ⟨_, _, rfl, F, ρ, T, d, _, R, dv, h, fun ρ1 k1 F1 H1 σ1 s1 b1 R1 => ⟨F1, ρ1, T, r, K, R1, dr.mono s1, k1, fun ρ2 k2 F2 H2 σ2 s2 b2 R2 => hq _ k2 F2 H2 σ2 (s1.trans s2) (b1.trans b2) R2⟩⟩
def gT (n : Nat) (gs : TGps) : TGp := fun d ρ K => match d with | .tup ds => ds.length = n ∧ gs ds ρ K | _ => False
theorem gx_tup {is : List Nat} {es : List Expr} {k : Nat} {gs : TGps} {n : Nat} (hc : X.calm = true) (h : GXs X S is es gs) (hn : (assignEach es X.env).length = n := by rfl) (hst : (assignEach es X.env).findIdx? (·.1) = none := by rfl) : GX X S is (.Tuple es k pos) (gT n gs) := by
  refine PG_imp (pg_tup hc h hn hst) fun v σ H Q ⟨F, ρ, T, d, K, R, dv, h, hq⟩ => ?_
  cases d with
  | tup ds =>
    cases dv with
    | tup ha dl => exact ⟨_, _, rfl, same_sq R.2.fh ha, by rw [dl.length]; exact h.1, F, ρ, T, ds, K, R, dl, h.2, hq⟩
  | _ => exact (show False from h).elim
def dAsgT (te : TD) (g : TGp) : TSt := fun P ρ => te ρ (fun m ρ1 => use m ρ1 fun d ρ2 => g d ρ2 P.nx) P.ex
theorem sx_asgT {is : List Nat} {tg e : Expr} {te : TD} {g : TGp} (he : EX X S E e te) (hg : GX X S is tg g) (hs : swapsWithSole [tg] e pos.line X.env = pure false := by rfl) (hw : swappedStores [tg] e X.env = pure none := by rfl)
    (h1 : (assignEach [tg] X.env).map (·.2) = [assign tg X.env] := by rfl) : SX X S E (.Assign [tg] e pos) (dAsgT te g) := by
  refine PS_imp (ps_asg he hg hs hw h1) fun Dn σ H ⟨F, ρ, P, R, ht, lp⟩ => ⟨F, ρ, [], _, _, R, ht, fun m ρ1 h F1 H1 v s R1 => ?_, lp.ex⟩
  obtain ⟨F2, d, ρ2, s2, dv, R2, k⟩ := use_ok R1 h
  exact ⟨F2, ρ2, [], d, _, R2, dv, k, fun ρ3 k3 F3 H3 σ3 s3 _ R3 => lp.nx _ k3 F3 H3 σ3 ((s.trans s2).trans s3) R3⟩
end

def toSl : Tm → Sl
  | .d d => .va d
  | .o o => .ow o
  | .r _ => .no
def fz : Tm → Rho → (Tm → Rho → Prop) → Prop
  | .d d, ρ, K => K (.d d) ρ
  | .o o, ρ, K => K (.o o) ρ
  | .r j, ρ, K => use (.r j) ρ fun d ρ1 => K (.d d) ρ1
abbrev TMs := Rho → (List Tm → Rho → Prop) → (Exn → Prop) → Prop
def mStack (vs : List V) (ms : List Tm) : List Slot := vs.zipWith (fun v m => (some v, toSl m)) ms
def LM (S : Sit) (E : XK) (t : TMs) : TA := fun σ H Q => ∃ F ρ T Q0 X0, RepS S F H T σ ρ ∧ t ρ Q0 X0 ∧
  (∀ ms ρ', Q0 ms ρ' → ∀ F' H' vs, Same F F' → vs.length = ms.length → RepS S F' H' (mStack vs ms ++ T) σ ρ' → Q vs H') ∧ LX S F E X0
def MX (X : Cx) (S : Sit) (E : XK) (es : List Expr) (t : TMs) : Prop := PA X es (LM S E t)
def mNil : TMs := fun ρ Q _ => Q [] ρ
def mCons (t : TD) (u : TMs) : TMs := fun ρ Q X => t ρ (fun m ρ1 => fz m ρ1 fun x ρ2 => u ρ2 (fun xs ρ3 => Q (x :: xs) ρ3) X) X
section
variable {S : Sit} {F H : Hp} {T : List Slot} {σ : L2.St} {ρ : Rho} {v : V}
theorem fz_ok {m : Tm} {K : Tm → Rho → Prop} (R : RepV S F H v m T σ ρ) (h : fz m ρ K) : ∃ F' x ρ', Same F F' ∧ RepS S F' H ((some v, toSl x) :: T) σ ρ' ∧ K x ρ' := by
  cases m with
  | d x => exact ⟨F, .d x, ρ, Same.refl _, ⟨R.2.1, R.2.2.push R.1⟩, h⟩
  | o x => exact ⟨F, .o x, ρ, Same.refl _, R, h⟩
  | r j =>
    obtain ⟨F', d, ρ', s, dv, R', k⟩ := use_ok (m := .r j) (K := fun d ρ1 => K (.d d) ρ1) R h
    exact ⟨F', .d d, ρ', s, ⟨R'.1, R'.2.push dv⟩, k⟩
theorem RepS.take {i : Nat} {y : Sl} (R : RepS S F H ((some v, y) :: T) σ ρ) : RepS S F H T (σ.set i (some v)) (setS ρ i y) := by
  cases y with
  | ow o => exact R.putOw
  | va d =>
    obtain ⟨x, e, dv⟩ := R.2.ok _ (List.mem_cons_self)
    cases e
    exact RepS.put ⟨R.1, R.2.tail⟩ dv
  | no => exact RepS.putNo ⟨R.1, R.2.tail⟩
end
section
variable {X : Cx} {S : Sit} {E : XK} {pos : Pos}
theorem mx_nil : MX X S E [] mNil := PA_imp pa_nil fun σ H Q ⟨F, ρ, T, Q0, X0, R, ht, hq, hx⟩ => hq _ _ ht F H [] (Same.refl _) rfl R
theorem mx_cons {e : Expr} {es : List Expr} {t : TD} {u : TMs} (ha : EX X S E e t) (hr : MX X S E es u) (hs : starEach (e :: es) X.env = (false, eval e X.env) :: starEach es X.env := by rfl) : MX X S E (e :: es) (mCons t u) := by
  refine PA_imp (pa_cons ha hr hs) fun σ H Q ⟨F, ρ, T, Q0, X0, R, ht, hq, hx⟩ => ?_
  refine ⟨F, ρ, T, _, X0, R, ht, fun m ρ1 h1 F1 H1 v s1 R1 => ?_, hx⟩
  obtain ⟨F2, x, ρ2, s2, R2, k⟩ := fz_ok R1 h1
  refine ⟨F2, ρ2, (some v, toSl x) :: T, _, X0, R2, k, fun ms ρ3 h3 F3 H3 vs s3 hl R3 => hq _ _ h3 F3 H3 (v :: vs) ((s1.trans s2).trans s3) (by rw [List.length_cons, List.length_cons, hl]) ⟨R3.1, ?_⟩, hx.mono (s1.trans s2)⟩
  have R4 := R3.2
  rw [List.append_assoc] at R4
  refine (show Rep S F3 H3 (mStack vs ms ++ (some v, toSl x) :: (T ++ σ.zip ρ3)) from R4).perm ?_
  show (mStack vs ms ++ (some v, toSl x) :: (T ++ σ.zip ρ3)).Perm ((some v, toSl x) :: (mStack vs ms ++ T ++ σ.zip ρ3))
  rw [List.append_assoc]
  exact List.perm_middle
def dPar2 (i j : Nat) (t : TMs) : TSt := fun P ρ => t ρ (fun ms ρ1 => match ms with | [x, y] => P.nx (setS (setS ρ1 i (toSl x)) j (toSl y)) | _ => False) P.ex
def dPar3 (i j l : Nat) (t : TMs) : TSt := fun P ρ => t ρ (fun ms ρ1 => match ms with | [x, y, z] => P.nx (setS (setS (setS ρ1 i (toSl x)) j (toSl y)) l (toSl z)) | _ => False) P.ex
theorem sx_par2 {i j : Nat} {x y : Str} {a b : Expr} {ta : TMs} {px py pt : Pos} {kt k2 pt2} (hc : X.calm = true) (hN : X.N.Nodup) (hi : X.N[i]? = some x) (hj : X.N[j]? = some y) (hij : i ≠ j)
    (hx : X.env.scope.names.lookup x = some .local) (hy : X.env.scope.names.lookup y = some .local) (ha : MX X S E [a, b] ta)
    (hw : swappedStores [.Tuple [.Name x px, .Name y py] kt pt] (.Tuple [a, b] k2 pt2) X.env = pure (some [x, y]))
    (hs : swapsWithSole [.Tuple [.Name x px, .Name y py] kt pt] (.Tuple [a, b] k2 pt2) pos.line X.env = pure false := by rfl) :
    SX X S E (.Assign [.Tuple [.Name x px, .Name y py] kt pt] (.Tuple [a, b] k2 pt2) pos) (dPar2 i j ta) := by
  refine PS_imp (ps_par hc hN hi hj hij hx hy ha hw hs) fun Dn σ H ⟨F, ρ, P, R, ht, lp⟩ => ⟨F, ρ, [], _, _, R, ht, fun ms ρ1 h F1 H1 vs s hl R1 => ?_, lp.ex⟩
  match ms, vs, hl, h, R1 with
  | [x, y], [v, w], _, h, R1 =>
    refine ⟨v, w, rfl, lp.nx _ h F1 H1 _ s ?_⟩
    have R2 : RepS S F1 H1 ((some v, toSl x) :: [(some w, toSl y)]) σ ρ1 := R1
    exact (R2.take (i := i)).take (i := j)
theorem sx_par3 {i j l : Nat} {x y z : Str} {a b c : Expr} {ta : TMs} {px py pz pt : Pos} {kt k2 pt2} (hc : X.calm = true) (hN : X.N.Nodup) (hi : X.N[i]? = some x) (hj : X.N[j]? = some y) (hl : X.N[l]? = some z) (hij : i ≠ j) (hil : i ≠ l) (hjl : j ≠ l)
    (hx : X.env.scope.names.lookup x = some .local) (hy : X.env.scope.names.lookup y = some .local) (hz : X.env.scope.names.lookup z = some .local) (ha : MX X S E [a, b, c] ta)
    (hw : swappedStores [.Tuple [.Name x px, .Name y py, .Name z pz] kt pt] (.Tuple [a, b, c] k2 pt2) X.env = pure (some [x, y, z]))
    (hs : swapsWithSole [.Tuple [.Name x px, .Name y py, .Name z pz] kt pt] (.Tuple [a, b, c] k2 pt2) pos.line X.env = pure false := by rfl) :
    SX X S E (.Assign [.Tuple [.Name x px, .Name y py, .Name z pz] kt pt] (.Tuple [a, b, c] k2 pt2) pos) (dPar3 i j l ta) := by
  refine PS_imp (ps_par3 hc hN hi hj hl hij hil hjl hx hy hz ha hw hs) fun Dn σ H ⟨F, ρ, P, R, ht, lp⟩ => ⟨F, ρ, [], _, _, R, ht, fun ms ρ1 h F1 H1 vs s hl R1 => ?_, lp.ex⟩
  match ms, vs, hl, h, R1 with
  | [x, y, z], [v, w, u], _, h, R1 =>
    refine ⟨v, w, u, rfl, lp.nx _ h F1 H1 _ s ?_⟩
    have R2 : RepS S F1 H1 ((some v, toSl x) :: (some w, toSl y) :: [(some u, toSl z)]) σ ρ1 := R1
    exact ((R2.take (i := i)).take (i := j)).take (i := l)

def atL (k : Tm) (ρ : Rho) (K : Nat → List D → Prop) : Prop := match k with
  | .r s => match getS ρ s with
    | .ow (.lst ds) => K s ds
    | _ => False
  | _ => False
def dAppend (to te : TD) : TD := fun ρ Q X => to ρ (fun k ρ1 => (atL k ρ1 fun _ _ => True) ∧ te ρ1 (fun m ρ2 => use m ρ2 fun x ρ3 => atL k ρ3 fun s ds => ds.length < sizeLine ∧ Q (.d .non) (setS ρ3 s (.ow (.lst (ds ++ [x]))))) X) X
end
section
variable {S : Sit} {F H : Hp} {T : List Slot} {σ : L2.St} {ρ : Rho} {v : V}
theorem atL_ok {k : Tm} {K : Nat → List D → Prop} (c : Come S F σ v k) (R : RepS S F H T σ ρ) (h : atL k ρ K) : ∃ s ds a xs, k = .r s ∧ σ[s]? = some (some v) ∧ v = .ref a ∧ H a = some (.lst xs) ∧ DenL S.g F xs ds ∧ K s ds ∧
    ∀ xs' ds', DenL S.g F xs' ds' → RepS S F (upd H a (.lst xs')) T σ (setS ρ s (.ow (.lst ds'))) := by
  cases k with
  | d x => exact h.elim
  | o x => exact h.elim
  | r s =>
    have hv : σ[s]? = some (some v) := c
    obtain ⟨l, Rh, back, Rl⟩ := R.split hv
    unfold atL at h
    cases e : getS ρ s with
    | no => simp only [e] at h
    | va d => simp only [e] at h
    | ow o =>
      cases o with
      | dK l => simp only [e] at h
      | dT l => simp only [e] at h
      | lst ds =>
        simp only [e] at h
        rw [e] at Rh
        obtain ⟨a, ev, h1, h2, xs, ha, dl⟩ := Rh.ok _ List.mem_cons_self
        cases ev
        refine ⟨s, ds, a, xs, rfl, hv, rfl, ha, dl, h, fun xs' ds' dl' => ?_⟩
        have q := back F (upd H a (.lst xs')) (some (.ref a)) (.ow (.lst ds')) (Rh.write ⟨xs', upd_same, dl'⟩)
        rw [set_self hv] at q
        exact q
end
section
variable {X : Cx} {S : Sit} {E : XK} {pos : Pos}
theorem ex_append {o e : Expr} {to te : TD} {apos cpos : Pos} (ho : EX X S E o to) (he : EX X S E e te)
    (hbase : attributeBase o "append" X.env (eval o X.env) = eval o X.env := by rfl)
    (hfew : ((backTo cpos (starEach [e] X.env)).all (fun x => !x.1) && (backToKw cpos (keywordEach [] X.env)).all (fun x => x.1.isSome)
      && decide ([e].length + ([] : List Keyword).length + (if ([] : List Keyword).isEmpty then 0 else 1) < 30)) = true := by rfl)
    (hline : (apos.endLine == cpos.line) = true := by rfl) (hs : starEach [e] X.env = (false, eval e X.env) :: starEach [] X.env := by rfl) (hplain : (backTo cpos (starEach [] X.env)).any (·.1) = false := by rfl) :
    EX X S E (.Call (.Attribute o "append" apos) [e] [] cpos) (dAppend to te) := by
  refine PE_imp (pe_bm PySem.F.plainAttrs_list PySem.F.slot_list_append PySem.F.type_list_append mt_append ho (pa_cons he pa_nil hs) hbase hfew hline hs hplain) fun σ H Q ⟨F, ρ, T, Q0, X0, R, ht, hq, hx⟩ => ?_
  refine ⟨F, ρ, T, _, X0, R, ht, fun k ρ1 h1 F1 H1 v s1 R1 => ?_, hx⟩
  obtain ⟨_, _, a, xs, _, _, ev, ha, _, _, _⟩ := atL_ok R1.come R1.toS h1.1
  subst ev
  refine ⟨.inl ⟨rfl, xs, SqL.of ha⟩, ?_⟩
  refine ⟨F1, ρ1, T, _, X0, R1.toS, h1.2, fun m ρ2 h2 F2 H2 u s2 R2 => ?_, hx.mono s1⟩
  obtain ⟨F3, x, ρ3, s3, dv, R3, k3⟩ := use_ok R2 h2
  obtain ⟨s, ds, b, ys, ek, hv, eb, hb, dl, k4, back⟩ := atL_ok (R1.come.mono (s2.trans s3)) R3 k3
  cases eb
  exact ⟨_, ys, u, rfl, rfl, hb, by rw [dl.length]; exact k4.1, hq _ _ k4.2 F3 _ _ ((s1.trans s2).trans s3) ⟨.non, back _ _ (dl.snoc dv)⟩⟩
def dPop (to : TD) : TD := fun ρ Q X => to ρ (fun k ρ1 => atL k ρ1 fun s ds => match ds.getLast? with | some d => Q (.d d) (setS ρ1 s (.ow (.lst ds.dropLast))) | none => False) X
theorem ex_pop {o : Expr} {to : TD} {apos cpos : Pos} (ho : EX X S E o to)
    (hbase : attributeBase o "pop" X.env (eval o X.env) = eval o X.env := by rfl) (hline : (apos.endLine == cpos.line) = true := by rfl) :
    EX X S E (.Call (.Attribute o "pop" apos) [] [] cpos) (dPop to) := by
  refine PE_imp (pe_bm0 PySem.F.plainAttrs_list PySem.F.slot_list_pop PySem.F.type_list_pop mt_pop ho hbase hline) fun σ H Q ⟨F, ρ, T, Q0, X0, R, ht, hq, hx⟩ => ?_
  refine ⟨F, ρ, T, _, X0, R, ht, fun k ρ1 h1 F1 H1 v s1 R1 => ?_, hx⟩
  obtain ⟨s, ds, a, xs, ek, hv, ev, ha, dl, k4, back⟩ := atL_ok R1.come R1.toS h1
  subst ev
  cases e : ds.getLast? with
  | none => rw [e] at k4; exact k4.elim
  | some d =>
    rw [e] at k4
    rw [List.getLast?_eq_getElem?] at e
    obtain ⟨y, hy, dy⟩ := dl.get e
    refine ⟨.inl ⟨rfl, xs, SqL.of ha⟩, a, xs, y, rfl, rfl, ha, by rw [dl.length]; exact hy, ?_⟩
    exact hq _ _ k4 F1 _ _ s1 ⟨dy, back _ _ dl.dropLast⟩
def ixD (n : Nat) : D → (Nat → Prop) → Prop
  | .int i, K => match ixN n i with | some j => K j | none => False
  | _, _ => False
def dSetL (te to ti : TD) : TSt := fun P ρ => te ρ (fun m ρ1 => use m ρ1 fun x ρ2 => to ρ2 (fun k ρ3 => ti ρ3 (fun n ρ4 => peek n ρ4 fun y => atL k ρ4 fun s ds => ixD ds.length y fun j => P.nx (setS ρ4 s (.ow (.lst (ds.set j x))))) P.ex) P.ex) P.ex
end
end PL
set_option Elab.async false
set_option linter.all false
set_option maxRecDepth 100000
namespace PL
open PySem PySem.Spec PyProof.Rows L2

structure Wk (S : Sit) (F : Hp) (J : It) (ds : List D) : Prop where
  ex : ∃ Y, Walk J ds.length (fun H => Same F H) Y ∧ ∀ i H x H' d, ds[i]? = some d → Y i H x H' → ∀ F1 l, Same F F1 → Rep S F1 H l → ∃ F2, Same F1 F2 ∧ Rep S F2 H' l ∧ Den S.g F2 x d
abbrev TI' := Rho → (List D → Rho → Prop) → (Exn → Prop) → Prop
def LI (S : Sit) (E : XK) (t : TI') : TI := fun σ H R => ∃ F ρ T Q0 X0, RepS S F H T σ ρ ∧ t ρ Q0 X0 ∧
  (∀ ds ρ', Q0 ds ρ' → ∀ F' H' J, Same F F' → RepS S F' H' T σ ρ' → Wk S F' J ds → R J H') ∧ LX S F E X0
def IX (X : Cx) (S : Sit) (E : XK) (tg iter : Expr) (t : TI') : Prop := PI X tg iter (LI S E t)
theorem PI_imp {X : Cx} {tg e : Expr} {t t' : TI} (h : PI X tg e t') (i : ∀ σ H Q, t σ H Q → t' σ H Q) : PI X tg e t := ⟨fun pins s σ H Q I q => h.run pins s σ H Q I (i σ H Q q)⟩
theorem wk_at {S : Sit} {F : Hp} {J : It} {ds : List D} {xs : List V} (dl : DenL S.g F xs ds) (w : Walk J xs.length (fun H => Same F H) (YAt xs)) : Wk S F J ds :=
  ⟨_, by rw [← dl.length]; exact w, fun i H x H' d hd y F1 l s R => by
    obtain ⟨e, hx⟩ := y
    subst e
    obtain ⟨x', hx', dx⟩ := dl.get hd
    rw [hx] at hx'
    cases hx'
    exact ⟨F1, Same.refl _, R, dx.mono s⟩⟩
theorem wk_pair {S : Sit} {F : Hp} {J : It} {ds : List D} {n : Nat} {fx fy : Nat → Option V} (hn : ds.length = n) (w : Walk J n (fun H => Same F H) (YPair fx fy))
    (hd : ∀ i d, ds[i]? = some d → ∃ a b, d = .tup [a, b] ∧ (∀ x, fx i = some x → Den S.g F x a) ∧ ∀ y, fy i = some y → Den S.g F y b) : Wk S F J ds :=
  ⟨_, by rw [hn]; exact w, fun i H v H' d hdd y F1 l s R => by
    obtain ⟨T, x, z, ev, nT, eH, e1, e2⟩ := y
    obtain ⟨a, b, ed, h1, h2⟩ := hd i d hdd
    subst ev eH ed
    have n1 := (R.free nT).1
    exact ⟨_, same_new n1, R.newF nT, .tup upd_same (.cons ((h1 x e1).mono (s.trans (same_new n1))) (.cons ((h2 z e2).mono (s.trans (same_new n1))) .nil))⟩⟩
section
variable {X : Cx} {S : Sit} {E : XK} {pos p : Pos}
def rngD (lo hi : Int) : List D := (List.range (hi - lo).toNat).map fun i => D.int (lo + (i : Nat))
theorem rngD_length (lo hi : Int) : (rngD lo hi).length = (hi - lo).toNat := by unfold rngD; rw [List.length_map, List.length_range]
theorem wk_range {F : Hp} {lo hi : Int} : Wk S F (Itr lo (hi - lo).toNat) (rngD lo hi) :=
  ⟨YFn fun i => .int (lo + i), by
    rw [rngD_length]
    exact walk_range.mono (fun _ _ => trivial) fun _ _ _ _ _ _ y => y, fun i H x H' d hd y F1 l s R => by
    obtain ⟨e, ex⟩ := y
    subst e ex
    have hlt : i < (rngD lo hi).length := (List.getElem?_eq_some_iff.mp hd).1
    have hd2 : (rngD lo hi)[i]? = some (D.int (lo + (i : Nat))) := by
      unfold rngD at hlt ⊢
      rw [List.getElem?_map, List.getElem?_range (by simpa using hlt)]
      rfl
    rw [hd2] at hd
    cases hd
    exact ⟨F1, Same.refl _, R, .int _⟩⟩
def iR1 (te : TD) : TI' := fun ρ Q X => te ρ (fun m ρ1 => peek m ρ1 fun x => match x with | .int j => (-(2 ^ 62) ≤ j ∧ j < 2 ^ 62) ∧ Q (rngD 0 j) ρ1 | _ => False) X
theorem ix_range1 {tg a : Expr} {ta : TD} (hg : Gl X "range") (hm : X.mg "range" = none) (ha : EX X S E a ta) (hs : starEach [a] X.env = [(false, eval a X.env)] := by rfl) : IX X S E tg (.Call (.Name "range" p) [a] [] pos) (iR1 ta) := by
  refine PI_imp (pi_range1 hg hm (pa_cons ha pa_nil hs) hs) fun σ H R ⟨F, ρ, T, Q0, X0, Rp, ht, hq, hx⟩ => ?_
  refine ⟨F, ρ, T, _, X0, Rp, ht, fun m ρ1 h1 F1 H1 v s1 R1 => ?_, hx⟩
  obtain ⟨x, r, k⟩ := peek_ok R1.come R1.stack pushT_mem h1
  cases x with
  | int j =>
    have e := r.int
    subst e
    refine ⟨j, rfl, k.1.1, k.1.2, hq _ _ k.2 F1 H1 _ s1 R1.toS ?_⟩
    have w := wk_range (S := S) (F := F1) (lo := 0) (hi := j)
    rwa [Int.sub_zero] at w
  | _ => exact k.elim
def iR2 (te tf : TD) : TI' := fun ρ Q X => te ρ (fun m ρ1 => tf ρ1 (fun n ρ2 => peek m ρ2 fun x => peek n ρ2 fun y => match x, y with
  | .int i, .int j => (-(2 ^ 62) ≤ i ∧ i < 2 ^ 62 ∧ -(2 ^ 62) ≤ j ∧ j < 2 ^ 62) ∧ Q (rngD i j) ρ2 | _, _ => False) X) X
theorem ix_range2 {tg a b : Expr} {ta tb : TD} (hg : Gl X "range") (hm : X.mg "range" = none) (ha : EX X S E a ta) (hb : EX X S E b tb) (hs : starEach [a, b] X.env = [(false, eval a X.env), (false, eval b X.env)] := by rfl) (hs2 : starEach [b] X.env = [(false, eval b X.env)] := by rfl) :
    IX X S E tg (.Call (.Name "range" p) [a, b] [] pos) (iR2 ta tb) := by
  refine PI_imp (pi_range2 hg hm (pa_cons ha (pa_cons hb pa_nil hs2) (by rw [hs, hs2])) hs hs2) fun σ H R ⟨F, ρ, T, Q0, X0, Rp, ht, hq, hx⟩ => ?_
  refine ⟨F, ρ, T, _, X0, Rp, ht, fun m ρ1 h1 F1 H1 v s1 R1 => ?_, hx⟩
  refine ⟨F1, ρ1, pushT v m T, _, X0, R1.stack, h1, fun n ρ2 h2 F2 H2 u s2 R2 => ?_, hx.mono s1⟩
  obtain ⟨x, r1, h3⟩ := peek_ok (R1.come.mono s2) R2.stack (fun o e => pushT_sub.subset (pushT_mem o e)) h2
  obtain ⟨y, r2, k⟩ := peek_ok R2.come R2.stack pushT_mem h3
  cases x with
  | int i =>
    cases y with
    | int j =>
      have e1 := r1.int
      have e2 := r2.int
      subst e1 e2
      exact ⟨i, j, rfl, k.1, hq _ _ k.2 F2 H2 _ (s1.trans s2) ⟨R2.toS.1, R2.stack.2.sub ((pushT_sub.trans pushT_sub).append (List.Sublist.refl _))⟩ wk_range⟩
    | _ => exact k.elim
  | _ => exact k.elim
def iSeq (te : TD) : TI' := fun ρ Q X => te ρ (fun m ρ1 => use m ρ1 fun x ρ2 => match x with | .lst ds => Q ds ρ2 | .tup ds => Q ds ρ2 | _ => False) X
def iLst (te : TD) : TI' := fun ρ Q X => te ρ (fun m ρ1 => use m ρ1 fun x ρ2 => match x with | .lst ds => Q ds ρ2 | _ => False) X
def iTp (te : TD) : TI' := fun ρ Q X => te ρ (fun m ρ1 => use m ρ1 fun x ρ2 => match x with | .tup ds => Q ds ρ2 | _ => False) X
theorem ix_list {tg e : Expr} {te : TD} (he : EX X S E e te) : IX X S E tg e (iLst te) := by
  refine PI_imp (pi_list he) fun σ H R ⟨F, ρ, T, Q0, X0, Rp, ht, hq, hx⟩ => ?_
  refine ⟨F, ρ, T, _, X0, Rp, ht, fun m ρ1 h1 F1 H1 v s1 R1 => ?_, hx⟩
  obtain ⟨F2, d, ρ2, s2, dv, R2, k⟩ := use_ok R1 h1
  cases d with
  | lst ds =>
    cases dv with
    | @lst a xs _ ha dl =>
      refine ⟨a, rfl, ⟨xs, SqL.of (R2.2.fh _ _ ha)⟩, hq _ _ k F2 H1 _ (s1.trans s2) R2 (wk_at dl ?_)⟩
      exact walk_list.mono (fun H s => SqL.of (s _ _ ha)) fun _ _ _ _ _ _ y => y
  | _ => exact k.elim
theorem ix_tup {tg e : Expr} {te : TD} (he : EX X S E e te) : IX X S E tg e (iTp te) := by
  refine PI_imp (pi_tup he) fun σ H R ⟨F, ρ, T, Q0, X0, Rp, ht, hq, hx⟩ => ?_
  refine ⟨F, ρ, T, _, X0, Rp, ht, fun m ρ1 h1 F1 H1 v s1 R1 => ?_, hx⟩
  obtain ⟨F2, d, ρ2, s2, dv, R2, k⟩ := use_ok R1 h1
  cases d with
  | tup ds =>
    cases dv with
    | @tup a xs _ ha dl =>
      refine ⟨a, rfl, ⟨xs, SqT.of (R2.2.fh _ _ ha)⟩, hq _ _ k F2 H1 _ (s1.trans s2) R2 (wk_at dl ?_)⟩
      exact walk_tup.mono (fun H s => SqT.of (s _ _ ha)) fun _ _ _ _ _ _ y => y
  | _ => exact k.elim
end

def fo (g : TGp) (tb : TSt) (P : PEnds) : List D → Rho → Prop
  | [], ρ => P.nx ρ
  | d :: ds, ρ => g d ρ fun ρ2 => tb { P with nx := fo g tb P ds, ct := fo g tb P ds, bk := P.nx } ρ2
def dFor (ti : TI') (g : TGp) (tb : TSt) : TSt := fun P ρ => ti ρ (fun ds ρ1 => fo g tb P ds ρ1) P.ex
def wh (c : TB) (tb : TSt) (P : PEnds) : Nat → Rho → Prop
  | 0, _ => False
  | n + 1, ρ => c ρ (fun b ρ1 => match b with
    | true => tb { P with nx := wh c tb P n, ct := wh c tb P n, bk := P.nx } ρ1
    | false => P.nx ρ1) P.ex
def dWhile (c : TB) (tb : TSt) : TSt := fun P ρ => ∃ n, wh c tb P n ρ
section
variable {X : Cx} {S : Sit} {E : XK} {pos : Pos}
theorem sx_for {is : List Nat} {tg iter : Expr} {body : List Stmt} {ti : TI'} {g : TGp} {tb : TSt} (hp : PassesOwn (model X.prog X.w) X.A X.env X.xe) (hc : X.calm = true) (hi : IX X S E tg iter ti) (hg : GX X S is tg g) (hb : SXs X S E body tb)
    (hs : ∀ x, foldedSetIterable iter X.env x = pure x := by intro _; rfl) : SX X S E (.For tg iter body [] pos) (dFor ti g tb) := by
  refine PS_imp (ps_for hp hc hi hg hb hs) fun Dn σ H ⟨F, ρ, P, R, ht, lp⟩ => ⟨F, ρ, [], _, _, R, ht, fun ds ρ1 h F1 H1 J s1 R1 wk => ?_, lp.ex⟩
  obtain ⟨Y, w, hY⟩ := wk.ex
  refine for_it w (fun i σ' H' => ∃ F2 ρ2, Same F1 F2 ∧ RepS S F2 H' [] σ' ρ2 ∧ fo g tb P (ds.drop i) ρ2) ⟨F1, ρ1, Same.refl _, R1, h⟩ (fun i σ' H' _ ⟨F2, ρ2, s2, R2, _⟩ => s2.trans R2.2.fh) ?_ ?_
  · rintro i x σ' H' H'' hi ⟨F2, ρ2, s2, R2, h2⟩ y
    have hd : ds[i]? = some ds[i] := List.getElem?_eq_getElem hi
    obtain ⟨F3, s3, R3, dx⟩ := hY i H' x H'' _ hd y F2 _ s2 R2.2
    rw [List.drop_eq_getElem_cons hi] at h2
    refine ⟨F3, ρ2, [], _, _, ⟨R2.1, R3⟩, dx, h2, fun ρ3 k3 F4 H4 σ4 s4 _ R4 => ⟨F4, ρ3, _, R4, k3, ?_⟩⟩
    have s14 : Same F1 F4 := (s2.trans s3).trans s4
    exact ⟨fun ρ5 k5 F5 H5 σ5 s5 R5 => ⟨F5, ρ5, s14.trans s5, R5, k5⟩, fun d k5 F5 H5 v s5 R5 dv => lp.rt d k5 F5 H5 v ((s1.trans s14).trans s5) R5 dv, fun ρ5 k5 F5 H5 σ5 s5 R5 => lp.nx ρ5 k5 F5 H5 σ5 ((s1.trans s14).trans s5) R5,
      fun ρ5 k5 F5 H5 σ5 s5 R5 => ⟨F5, ρ5, s14.trans s5, R5, k5⟩, lp.ex.mono (s1.trans s14)⟩
  · rintro σ' H' ⟨F2, ρ2, s2, R2, h2⟩
    rw [List.drop_length] at h2
    exact lp.nx _ h2 F2 H' σ' (s1.trans s2) R2
theorem sx_while {c : Expr} {body : List Stmt} {tc : TB} {tb : TSt} (hp : PassesOwn (model X.prog X.w) X.A X.env X.xe) (hc : TX X S E c tc) (hb : SXs X S E body tb) : SX X S E (.While c body [] pos) (dWhile tc tb) := by
  refine PS_imp (ps_while hp hc hb) fun Dn σ H ⟨F, ρ, P, R, ⟨n, ht⟩, lp⟩ => ?_
  refine ⟨fun m σ' H' => ∃ F2 ρ2, Same F F2 ∧ RepS S F2 H' [] σ' ρ2 ∧ wh tc tb P m ρ2, ⟨n, F, ρ, Same.refl _, R, ht⟩, ?_⟩
  rintro m σ' H' ⟨F2, ρ2, s2, R2, h2⟩
  cases m with
  | zero => exact h2.elim
  | succ m =>
    refine ⟨F2, ρ2, [], _, _, R2, h2, fun b ρ3 h3 F3 H3 s3 R3 => ?_, lp.ex.mono s2⟩
    cases b with
    | false => rw [if_neg Bool.false_ne_true]; exact lp.nx _ h3 F3 H3 σ' (s2.trans s3) R3
    | true =>
      rw [if_pos rfl]
      refine ⟨fun σ5 H5 => ∃ F5 ρ5, Same F F5 ∧ RepS S F5 H5 [] σ5 ρ5 ∧ wh tc tb P m ρ5, fun σ5 H5 q => ⟨m, Nat.lt_succ_self m, q⟩, F3, ρ3, _, R3, h3, ?_⟩
      exact ⟨fun ρ5 k5 F5 H5 σ5 s5 R5 => ⟨F5, ρ5, (s2.trans s3).trans s5, R5, k5⟩, fun d k5 F5 H5 v s5 R5 dv => lp.rt d k5 F5 H5 v ((s2.trans s3).trans s5) R5 dv, fun ρ5 k5 F5 H5 σ5 s5 R5 => lp.nx ρ5 k5 F5 H5 σ5 ((s2.trans s3).trans s5) R5,
        fun ρ5 k5 F5 H5 σ5 s5 R5 => ⟨F5, ρ5, (s2.trans s3).trans s5, R5, k5⟩, lp.ex.mono (s2.trans s3)⟩
end

def wipeR (ρ : Rho) : List Nat → Rho
  | [] => ρ
  | v :: vs => setS (wipeR ρ vs) v .no
theorem wipe_ok {S : Sit} {σ : L2.St} {ρ : Rho} : ∀ (vs : List Nat), ∃ T' : List Slot, ∀ F H T, (RepS S F H T σ ρ → RepS S F H (T' ++ T) (wipe σ vs) (wipeR ρ vs)) ∧ (RepS S F H (T' ++ T) (wipe σ vs) (wipeR ρ vs) → RepS S F H T σ ρ)
  | [] => ⟨[], fun F H T => ⟨fun h => h, fun h => h⟩⟩
  | v :: vs => by
    obtain ⟨T', h⟩ := wipe_ok (S := S) (σ := σ) (ρ := ρ) vs
    by_cases hi : v < (wipe σ vs).length
    · refine ⟨((wipe σ vs)[v], getS (wipeR ρ vs) v) :: T', fun F H T => ⟨fun R => ?_, fun R => ?_⟩⟩
      · have R1 := (h F H T).1 R
        have hv : (wipe σ vs)[v]? = some (wipe σ vs)[v] := List.getElem?_eq_getElem hi
        obtain ⟨l1, l2, e1, e2⟩ := zip_split R1.1 hv
        refine ⟨by show ((wipe σ vs).set v none).length = (setS (wipeR ρ vs) v .no).length; rw [List.length_set, setS_length]; exact R1.1, ?_⟩
        show Rep S F H (((wipe σ vs)[v], getS (wipeR ρ vs) v) :: (T' ++ T) ++ ((wipe σ vs).set v none).zip (setS (wipeR ρ vs) v .no))
        rw [e2]
        have R2 := R1.2
        rw [e1] at R2
        have R3 : Rep S F H (((wipe σ vs)[v], getS (wipeR ρ vs) v) :: ((T' ++ T) ++ l1 ++ l2)) := by
          rw [← List.append_assoc] at R2
          exact R2.perm List.perm_middle
        have R4 := R3.pushNo (v := none)
        refine R4.perm ?_
        refine (List.Perm.swap _ _ _).trans (List.Perm.cons _ ?_)
        show ((none, Sl.no) :: ((T' ++ T) ++ l1 ++ l2)).Perm ((T' ++ T) ++ (l1 ++ (none, Sl.no) :: l2))
        rw [← List.append_assoc (T' ++ T) l1]
        exact List.perm_middle.symm
      · have hl : (wipe σ vs).length = (wipeR ρ vs).length := by
          have := R.1
          have q : ((wipe σ vs).set v none).length = (setS (wipeR ρ vs) v .no).length := this
          rwa [List.length_set, setS_length] at q
        have hv : (wipe σ vs)[v]? = some (wipe σ vs)[v] := List.getElem?_eq_getElem hi
        obtain ⟨l1, l2, e1, e2⟩ := zip_split hl hv
        refine (h F H T).2 ⟨hl, ?_⟩
        have R2 : Rep S F H (((wipe σ vs)[v], getS (wipeR ρ vs) v) :: (T' ++ T) ++ ((wipe σ vs).set v none).zip (setS (wipeR ρ vs) v .no)) := R.2
        rw [e2] at R2
        rw [e1]
        have R3 : Rep S F H (((wipe σ vs)[v], getS (wipeR ρ vs) v) :: ((T' ++ T) ++ l1 ++ l2)) := by
          refine R2.sub ?_
          show (((wipe σ vs)[v], getS (wipeR ρ vs) v) :: ((T' ++ T) ++ l1 ++ l2)).Sublist (((wipe σ vs)[v], getS (wipeR ρ vs) v) :: ((T' ++ T) ++ (l1 ++ (none, Sl.no) :: l2)))
          refine List.Sublist.cons₂ _ ?_
          rw [← List.append_assoc (T' ++ T) l1]
          exact (List.Sublist.refl _).append (List.sublist_cons_self _ _)
        rw [← List.append_assoc]
        exact R3.perm List.perm_middle.symm
    · refine ⟨T', fun F H T => ⟨fun R => ?_, fun R => ?_⟩⟩
      · have R1 := (h F H T).1 R
        show RepS S F H (T' ++ T) ((wipe σ vs).set v none) (setS (wipeR ρ vs) v .no)
        rw [List.set_eq_of_length_le (by omega), setS_out (by rw [← R1.1]; omega)]
        exact R1
      · have R1 : RepS S F H (T' ++ T) ((wipe σ vs).set v none) (setS (wipeR ρ vs) v .no) := R
        rw [List.set_eq_of_length_le (by omega)] at R1
        have hl : (wipe σ vs).length = (wipeR ρ vs).length := by have := R1.1; rwa [setS_length] at this
        rw [setS_out (by rw [← hl]; omega)] at R1
        exact (h F H T).2 R1

theorem wipe_in {σ : L2.St} {i : Nat} : ∀ {vs : List Nat}, i ∈ vs → (wipe σ vs)[i]? = if i < σ.length then some none else none
  | [], h => by simp at h
  | v :: vs, h => by
    show ((wipe σ vs).set v none)[i]? = _
    by_cases e : v = i
    · subst e
      by_cases hl : v < σ.length
      · rw [if_pos hl, List.getElem?_set_self (by rw [wipe_length]; exact hl)]
      · rw [if_neg hl]
        exact List.getElem?_eq_none (by rw [List.length_set, wipe_length]; omega)
    · rw [List.getElem?_set_ne e]
      exact wipe_in ((List.mem_cons.mp h).resolve_left fun z => e z.symm)
theorem wipe_but {σ σ' : L2.St} {vs is : List Nat} (b : But is σ σ') (h : ∀ j ∈ is, j ∈ vs) : wipe σ' vs = wipe σ vs := by
  apply List.ext_getElem?
  intro j
  by_cases hj : j ∈ vs
  · rw [wipe_in hj, wipe_in hj, b.1]
  · rw [wipe_out hj, wipe_out hj]
    exact b.2 j fun z => hj (h j z)
theorem wipe_wipe (σ : L2.St) (vs : List Nat) : wipe (wipe σ vs) vs = wipe σ vs := by
  apply List.ext_getElem?
  intro j
  by_cases hj : j ∈ vs
  · rw [wipe_in hj, wipe_in hj, wipe_length]
  · rw [wipe_out hj]
theorem RepS.wipe' {S : Sit} {F H : Hp} {T : List Slot} {σ : L2.St} {ρ : Rho} : ∀ (vs : List Nat), RepS S F H T σ ρ → RepS S F H T (wipe σ vs) (wipeR ρ vs)
  | [], R => R
  | _ :: vs, R => (RepS.wipe' vs R).putNo

def noX : Exn → Prop := fun _ => False
def lcq (g : TGp) (tt : TB) (te : TD) (vs : List Nat) (ρ0 : Rho) : List D → List D → (List D → Prop) → Prop
  | [], acc, K => K acc
  | d :: ds, acc, K => g d ρ0 fun ρ2 => tt ρ2 (fun b ρ3 => match b with
    | true => te ρ3 (fun m ρ4 => use m ρ4 fun x ρ5 => wipeR ρ5 vs = ρ0 ∧ acc.length < sizeLine ∧ lcq g tt te vs ρ0 ds (acc ++ [x]) K) noX
    | false => wipeR ρ3 vs = ρ0 ∧ lcq g tt te vs ρ0 ds acc K) noX
def dLc (ti : TI') (g : TGp) (tt : TB) (te : TD) (vs : List Nat) : TD := fun ρ Q X => ti ρ (fun ds ρ1 => lcq g tt te vs (wipeR ρ1 vs) ds [] fun acc => Q (.o (.lst acc)) ρ1) X
def bYes : TB := fun ρ Q _ => Q true ρ
abbrev TsX (X : Cx) (S : Sit) (E : XK) (ifs : List Expr) (t : TB) : Prop := PTs X ifs (LT S E t)
section
variable {X : Cx} {S : Sit} {E : XK} {pos : Pos}
theorem PTs_imp {ifs : List Expr} {t t' : TT} (h : PTs X ifs t') (i : ∀ σ H Q, t σ H Q → t' σ H Q) : PTs X ifs t := ⟨fun pins s σ H Q I q => h.run pins s σ H Q I (i σ H Q q)⟩
theorem tsx_nil : TsX X S E [] bYes := PTs_imp pts_nil fun σ H Q ⟨F, ρ, T, Q0, X0, R, ht, hq, hx⟩ => hq _ _ ht F H (Same.refl _) R
theorem tsx_one {c : Expr} {t : TB} (h : TX X S E c t) : TsX X S E [c] t := pts_one h
theorem lx0 {S : Sit} {F : Hp} {E : XK} : LX S F E noX := fun _ h => h.elim
theorem lc_lift {is vs : List Nat} {ti : TI'} {g : TGp} {tt : TB} {te : TD} {σ : L2.St} {H : Hp} {Q : VK} (hv : ∀ j ∈ is, j ∈ vs) (h : LE S E (dLc ti g tt te vs) σ H Q) : tLc (LI S E ti) (LG S is g) (LT S E0 tt) (LE S E0 te) vs σ H Q := by
  obtain ⟨F, ρ, T, Q0, X0, R, ht, hq, hx⟩ := h
  refine ⟨F, ρ, T, _, X0, R, ht, fun ds ρ1 h1 F1 H1 J s1 R1 wk => ?_, hx⟩
  intro A nA
  obtain ⟨Y, w, hY⟩ := wk.ex
  obtain ⟨T', hT'⟩ := wipe_ok (S := S) (σ := σ) (ρ := ρ1) vs
  have R2 : RepS S F1 (upd H1 A (.lst [])) ((some (.ref A), .ow (.lst [])) :: (T' ++ T)) (wipe σ vs) (wipeR ρ1 vs) := by
    have q := (hT' F1 H1 T).1 R1
    exact ⟨q.1, q.2.newO nA ⟨[], upd_same, .nil⟩⟩
  refine lc_it w (fun i H' => ∃ F2 acc, Same F1 F2 ∧ RepS S F2 H' ((some (.ref A), .ow (.lst acc)) :: (T' ++ T)) (wipe σ vs) (wipeR ρ1 vs) ∧ lcq g tt te vs (wipeR ρ1 vs) (ds.drop i) acc fun acc => Q0 (.o (.lst acc)) ρ1)
    ⟨F1, [], Same.refl _, R2, h1⟩ (fun i H' _ ⟨F2, acc, s2, R2, _⟩ => s2.trans R2.2.fh) ?_ ?_
  · rintro i x H' H'' hi ⟨F2, acc, s2, R2, h2⟩ y
    have hd : ds[i]? = some ds[i] := List.getElem?_eq_getElem hi
    obtain ⟨F3, s3, R3, dx⟩ := hY i H' x H'' _ hd y F2 _ s2 R2.2
    rw [List.drop_eq_getElem_cons hi] at h2
    refine ⟨F3, wipeR ρ1 vs, _, _, _, ⟨R2.1, R3⟩, dx, h2, fun ρ3 k3 F4 H4 σ4 s4 b4 R4 => ⟨?_, ?_⟩⟩
    · rw [wipe_but b4 hv, wipe_wipe]
    · have e4 : wipe σ4 vs = wipe σ vs := by rw [wipe_but b4 hv, wipe_wipe]
      refine ⟨F4, ρ3, _, _, noX, R4, k3, fun b ρ5 k5 F5 H5 s5 R5 => ?_, lx0⟩
      have s25 : Same F1 F5 := ((s2.trans s3).trans s4).trans s5
      cases b with
      | false =>
        refine iteF ?_
        have R6 := R5.wipe' vs
        rw [e4, k5.1] at R6
        exact ⟨F5, acc, s25, R6, k5.2⟩
      | true =>
        refine iteT ?_
        refine ⟨F5, ρ5, _, _, noX, R5, k5, fun m ρ6 k6 F6 H6 v s6 R6 => ?_, lx0⟩
        obtain ⟨F7, d, ρ7, s7, dv, R7, k7⟩ := use_ok R6 k6
        have R8 := R7.wipe' vs
        rw [e4, k7.1] at R8
        obtain ⟨b, eb, n1, n2, accV, hA, dl⟩ := R8.2.ok _ List.mem_cons_self
        cases eb
        refine ⟨accV, hA, by rw [dl.length]; exact k7.2.1, F7, acc ++ [d], (s25.trans s6).trans s7, ⟨R8.1, R8.2.write ⟨accV ++ [v], upd_same, dl.snoc dv⟩⟩, k7.2.2⟩
  · rintro H' ⟨F2, acc, s2, R2, h2⟩
    rw [List.drop_length] at h2
    have R3 : RepS S F2 H' (T' ++ ((some (.ref A), .ow (.lst acc)) :: T)) (wipe σ vs) (wipeR ρ1 vs) :=
      ⟨R2.1, R2.2.perm (by
        show ((some (V.ref A), Sl.ow (.lst acc)) :: (T' ++ T) ++ _).Perm _
        rw [List.cons_append, List.append_assoc, List.append_assoc, List.cons_append]
        exact List.perm_middle.symm)⟩
    exact hq _ _ h2 F2 H' _ (s1.trans s2) ((hT' F2 H' _).2 R3)
theorem ex_lc {is : List Nat} {elt tg iter : Expr} {ifs : List Expr} {scope : Scope} {own : List (Str × Nat)} {ti : TI'} {g : TGp} {tt : TB} {te : TD} (hc : X.calm = true) (hN : X.N.Nodup) (hi : IX X S E tg iter ti) (ok : BlkOk X.N X.env.scope scope own)
    (hg : ∀ (s : Shared) (H : Hp) (C : Addr) (cl : List (Str × Addr)) (fp : List Addr), GX (X.blk s H scope (compEnvC scope cl C X.env) fp) S is tg g) (ht : ∀ (s : Shared) (H : Hp) (C : Addr) (cl : List (Str × Addr)) (fp : List Addr), TsX (X.blk s H scope (compEnvC scope cl C X.env) fp) S E0 ifs tt)
    (he : ∀ (s : Shared) (H : Hp) (C : Addr) (cl : List (Str × Addr)) (fp : List Addr), EX (X.blk s H scope (compEnvC scope cl C X.env) fp) S E0 elt te) (hv : ∀ j ∈ is, j ∈ own.map (·.2) := by decide) (hs : ∀ x, foldedSetIterable iter X.env x = pure x := by intro _; rfl) :
    EX X S E (.ListComp elt [⟨tg, iter, ifs, 0⟩] scope pos) (dLc ti g tt te (own.map (·.2))) :=
  PE_imp (pe_lc hc hN hi ok hg ht he hs) fun σ H Q h => lc_lift hv h
theorem sx_setLc {is : List Nat} {i : Nat} {y : Str} {py : Pos} {elt tg iter : Expr} {ifs : List Expr} {scope : Scope} {own : List (Str × Nat)} {spos : Pos} {ti : TI'} {g : TGp} {tt : TB} {te : TD} (hc : X.calm = true) (hN : X.N.Nodup) (hy : X.N[i]? = some y) (hyl : X.env.scope.names.lookup y = some .local)
    (hsw : swapsWith (.ListComp elt [⟨tg, iter, ifs, 0⟩] scope pos) (some (.Name y py)) spos.line X.env = pure true) (hi : IX X S E tg iter ti) (ok : BlkOk X.N X.env.scope scope own)
    (hg : ∀ (s : Shared) (H : Hp) (C : Addr) (cl : List (Str × Addr)) (fp : List Addr), GX (X.blk s H scope (compEnvC scope cl C X.env) fp) S is tg g) (ht : ∀ (s : Shared) (H : Hp) (C : Addr) (cl : List (Str × Addr)) (fp : List Addr), TsX (X.blk s H scope (compEnvC scope cl C X.env) fp) S E0 ifs tt)
    (he : ∀ (s : Shared) (H : Hp) (C : Addr) (cl : List (Str × Addr)) (fp : List Addr), EX (X.blk s H scope (compEnvC scope cl C X.env) fp) S E0 elt te) (hv : ∀ j ∈ is, j ∈ own.map (·.2) := by decide) (hs : ∀ x, foldedSetIterable iter X.env x = pure x := by intro _; rfl) :
    SX X S E (.Assign [.Name y py] (.ListComp elt [⟨tg, iter, ifs, 0⟩] scope pos) spos) (dSet i (dLc ti g tt te (own.map (·.2)))) := by
  refine PS_imp (L2.ps_setLc hc hN hy hyl hsw hi ok hg ht he hs) fun Dn σ H h => ?_
  obtain ⟨F, ρ, P, R, ht, lp⟩ := h
  refine lc_lift hv ⟨F, ρ, [], _, _, R, ht, fun m ρ1 h F1 H1 v s R1 => ?_, lp.ex⟩
  obtain ⟨F2, ρ2, s2, R2, k⟩ := asg_ok R1 h
  exact lp.nx ρ2 k F2 H1 _ (s.trans s2) R2
end

abbrev PC := List D → (D → Prop) → (Exn → Prop) → Prop
structure Ent (g : Gc) (F H : Hp) : Prop where
  fh : Same F H
  dr : ∀ a, g.dA = some a → F a = none ∧ DrawOk F H a
  tb : LamX.Tabs g.T H
  nt : ∀ a ps, F a ≠ some (.tbl ps)
structure Aft (g : Gc) (F H F' H' : Hp) : Prop where
  ff : Same F F'
  fh : Same F' H'
  fn : ∀ a o, F' a = some o → F a = some o ∨ noTb H a = none
  bh : ∀ a o, noTb H a = some o → g.dA ≠ some a → H' a = some o
  dr : ∀ a, g.dA = some a → F' a = none ∧ DrawOk F' H' a
  tb : LamX.Tabs g.T H'
  nt : ∀ a ps, F' a ≠ some (.tbl ps)
def spD (K : PySem.W.Frag) (T : List (Addr × Str)) (c : PC) : Sp := fun vs H Q E => ∃ dA F ds Q0 X0, c ds Q0 X0 ∧ DenL ⟨K, dA, T⟩ F vs ds ∧ Ent ⟨K, dA, T⟩ F H ∧
  (∀ d, Q0 d → ∀ F' H' v, Aft ⟨K, dA, T⟩ F H F' H' → Den ⟨K, dA, T⟩ F' v d → Q v H') ∧
  (∀ ex, X0 ex → ∀ F' H' cls dd, Aft ⟨K, dA, T⟩ F H F' H' → cls = .ref ex.cls → PayOk ⟨K, dA, T⟩ F' H' dd ex.pay → E cls dd H')
section
variable {S : Sit} {F H F' H' : Hp} {l : List Slot}
theorem Rep.ent (R : Rep S F H l) : Ent S.g F H := ⟨R.fh, fun a e => let ⟨x, _, z⟩ := R.dr a e; ⟨x, z⟩, R.tb, R.nt⟩
theorem Rep.aft {H0 : Hp} (R : Rep S F H l) (e : S.B = noTb H0) : Aft S.g S.F0 H0 F H := ⟨R.f0, R.fh, by rw [← e]; exact R.fn, by rw [← e]; exact R.bh, fun a e => let ⟨x, _, z⟩ := R.dr a e; ⟨x, z⟩, R.tb, R.nt⟩
theorem Rep.after (R : Rep S F H l) (A : Aft S.g F H F' H') : Rep S F' H' l where
  f0 := R.f0.trans A.ff
  fh := A.fh
  fn := fun a o e => by
    rcases A.fn a o e with z | z
    · exact R.fn a o z
    · refine .inr ?_
      rcases noTb_none z with z | ⟨ps, z⟩
      · exact (R.free z).2.1
      · cases q : S.B a with
        | none => rfl
        | some u =>
          by_cases hd : S.g.dA = some a
          · obtain ⟨_, _, w, k, cA, cells, e2, _⟩ := R.dr a hd
            rw [z] at e2; cases e2
          · have := R.bh a u q hd
            rw [z] at this
            exact absurd (by rw [q, Option.some.inj this]) (R.nB a ps)
  bh := fun a o e n => A.bh a o (noTb_of (R.bh a o e n) fun ps z => R.nB a ps (by rw [e, z])) n
  nB := R.nB
  tb := A.tb
  nt := A.nt
  dr := fun a e => let ⟨x, z⟩ := A.dr a e; ⟨x, (R.dr a e).2.1, z⟩
  ok := fun q hq => by
    have z := R.ok q hq
    obtain ⟨v, s⟩ := q
    cases s with
    | no => exact trivial
    | va d => obtain ⟨x, e, d⟩ := z; exact ⟨x, e, d.mono A.ff⟩
    | ow o =>
      obtain ⟨b, e, z1, z2, z3⟩ := z
      have nd : S.g.dA ≠ some b := fun y => (R.dr b y).2.1 z2
      refine ⟨b, e, ?_, z2, z3.mono A.ff fun u q => A.bh b u (noTb_of q (z3.plain u q).1) nd⟩
      cases q : F' b with
      | none => rfl
      | some u =>
        rcases A.fn b u q with y | y
        · rw [z1] at y; cases y
        · obtain ⟨u', e'⟩ := z3.at
          rw [noTb_of e' (z3.plain u' e').1] at y; cases y
  nd := R.nd
end
def startD (N : List Str) (ds : List D) : Rho := ds.map Sl.va ++ List.replicate (N.length - ds.length) Sl.no
theorem start_rep {g : Gc} {F H : Hp} (en : Ent g F H) : ∀ {vs : List V} {ds : List D} (n : Nat), DenL g F vs ds → RepS ⟨g, noTb H, F⟩ F H [] (vs.map some ++ List.replicate (n - vs.length) none) (ds.map Sl.va ++ List.replicate (n - ds.length) Sl.no) := by
  have base : ∀ k, RepS ⟨g, noTb H, F⟩ F H [] (List.replicate k none) (List.replicate k Sl.no) := by
    intro k
    induction k with
    | zero =>
      refine ⟨rfl, Same.refl _, en.fh, fun a o e => .inl e, fun a o e _ => (noTb_some e).1, fun a ps e => (noTb_some e).2 ps rfl, fun a e => ?_, fun q hq => absurd hq (by simp), List.nodup_nil, en.tb, en.nt⟩
      obtain ⟨x, z⟩ := en.dr a e
      refine ⟨x, fun y => ?_, z⟩
      obtain ⟨_, _, _, _, e2, _⟩ := z
      rw [show (⟨g, noTb H, F⟩ : Sit).B a = noTb H a from rfl, noTb_of e2 (fun ps z => by cases z)] at y
      cases y
    | succ k ih => exact ⟨by simp, ih.2.pushNo⟩
  intro vs ds n h
  rw [← h.length]
  generalize n - vs.length = k
  induction ds generalizing vs with
  | nil => cases h; exact base k
  | cons d ds ih =>
    cases h with
    | cons dv dl =>
      have q := ih dl
      exact ⟨by have := q.1; simp only [List.map_cons, List.cons_append, List.length_cons, this], q.2.push dv⟩
section
variable {P : Program} {w : World} {K : PySem.W.Frag} {mg : Str → Option Value} {base : Heap}
theorem passes_of' {P : Program} {w : World} {K : PySem.W.Frag} {mg : Str → Option Value} {base : Heap} {N : List Str} {qual : Str} {scope : Scope} {f : Addr} {cd : Value} {A : Around} {outer : List Env} {s : Shared} {H : Hp} {E : XK} :
    PassesOwn (model P w) (cxOf (L2.CX P w) P w K mg base N qual scope f cd A outer s H E).A (cxOf (L2.CX P w) P w K mg base N qual scope f cd A outer s H E).env (cxOf (L2.CX P w) P w K mg base N qual scope f cd A outer s H E).xe := passes_of rfl
end

def dCall (c : PC) (t : TAs) : TD := fun ρ Q X => t ρ (fun ds ρ1 => c ds (fun d => Q (.d d) ρ1) X) X
section
variable {X : Cx} {S : Sit} {E : XK} {pos p : Pos} {k : Nat} {f : Addr} {fd : FuncData} {ps : List Str} {c : PC} {x : Str} {e : Expr} {es : List Expr} {t : TAs}
theorem ex_call (F : FnOk X.prog X.w X.K X.mg X.base (L2.CX X.prog X.w) k f fd ps (spD S.g.K S.g.T c)) (hr : Room k X.A) (hg : Gl X x) (hm : X.mg x = some (.ref f)) (hk : PySem.W.keepIn X.K (.ref f) = true) (hb : Binds X.K fd ps []) (hx : Passes (L2.CX X.prog X.w) X E)
    (ha : AX X S E (e :: es) t) (hdb : (x == ("__debug__" : Str)) = false := by decide) (he : starEach (e :: es) X.env = (false, eval e X.env) :: starEach es X.env := by rfl) (hpl : (backTo pos (starEach es X.env)).any (·.1) = false := by rfl) :
    EX X S E (.Call (.Name x p) (e :: es) [] pos) (dCall c t) := by
  refine PE_imp (pe_call F hr hg hm hk hb .nil hx ha hdb he hpl) fun σ H Q ⟨F, ρ, T, Q0, X0, R, ht, hq, hx⟩ => ?_
  refine ⟨F, ρ, T, _, X0, R, ht, fun ds ρ1 h1 F1 H1 vs s1 dl R1 => ?_, hx⟩
  show spD S.g.K S.g.T c (vs ++ []) H1 Q E
  rw [List.append_nil]
  exact ⟨S.g.dA, F1, ds, _, X0, h1, dl, R1.2.ent, fun d hd F2 H2 v A dv => hq _ _ hd F2 H2 v (s1.trans A.ff) ⟨dv, R1.1, R1.2.after A⟩, fun ex hex F2 H2 cls dd A e pk => hx ex hex F2 H2 cls dd (s1.trans A.ff) ⟨(R1.2.after A).nil, e, pk⟩⟩
end
end PL
set_option Elab.async false
set_option linter.all false
set_option maxRecDepth 100000
namespace PL
open PySem PySem.Spec PyProof.Rows L2

mutual
def toP : D → PyData
  | .non => .none
  | .bl b => .bool b
  | .int i => .int i
  | .str s => .str s
  | .tup l => .tuple (toPL l)
  | .lst l => .list (toPL l)
  | .dK _ => .dict []
  | .dT _ => .dict []
  | .scr _ => .dict []
  | .op _ => .dict []
  | .draw => .dict []
  | .exn _ => .dict []
def toPL : List D → List PyData
  | [] => []
  | d :: l => toP d :: toPL l
end
mutual
def plain : D → Bool
  | .non => true
  | .bl _ => true
  | .int _ => true
  | .str _ => true
  | .tup l => plainL l
  | .lst l => plainL l
  | .dK _ => false
  | .dT _ => false
  | .scr _ => false
  | .op _ => false
  | .draw => false
  | .exn _ => false
def plainL : List D → Bool
  | [] => true
  | d :: l => plain d && plainL l
end
def okE (d : D) : Bool := plain d && SeqAt.shaped (toP d)
def deq (x y : D) : Bool := PyData.eqv (toP x) (toP y)
section
variable {K : PySem.W.Frag} {g : Gc} {F H : Hp}
mutual
theorem Den.dp (fh : Same F H) : ∀ {d : D} {v : V}, plain d = true → Den g F v d → Dp K H v (toP d)
  | .non, _, _, h => by cases h; exact .non
  | .bl b, _, _, h => by cases h; exact .bl b
  | .int i, _, _, h => by cases h; exact .int i
  | .str s, _, _, h => by cases h; exact .str s
  | .tup l, _, p, h => by
    cases h with
    | tup a b => exact .tup (SqT.of (fh _ _ a)) (DenL.dp fh (show plainL l = true from p) b)
  | .lst l, _, p, h => by
    cases h with
    | lst a b => exact .lst (SqL.of (fh _ _ a)) (DenL.dp fh (show plainL l = true from p) b)
  | .dK _, _, p, _ => by cases p
  | .dT _, _, p, _ => by cases p
  | .scr _, _, p, _ => by cases p
  | .op _, _, p, _ => by cases p
  | .draw, _, p, _ => by cases p
  | .exn _, _, p, _ => by cases p
theorem DenL.dp (fh : Same F H) : ∀ {ds : List D} {vs : List V}, plainL ds = true → DenL g F vs ds → DpAll K H vs (toPL ds)
  | [], _, _, h => by cases h; exact .nil
  | d :: ds, _, p, h => by
    cases h with
    | cons a b =>
      have q : plain d = true ∧ plainL ds = true := by simpa [plainL] using p
      exact .cons (Den.dp fh q.1 a) (DenL.dp fh q.2 b)
end
end
section
variable {S : Sit} {F H : Hp} {l : List Slot} {v : V} {x : D}
theorem Rdv.dp {K : PySem.W.Frag} (R : Rep S F H l) (h : Rdv S F l v x) (p : plain x = true) : Dp K H v (toP x) := by
  rcases id h with h1 | ⟨o, e, m⟩
  · exact h1.dp R.fh p
  · cases o with
    | lst ds =>
      cases e
      obtain ⟨a, xs, ev, ha, dl⟩ := Rdv.lst R h
      subst ev
      exact .lst (SqL.of ha) (dl.dp R.fh p)
    | dK ds => cases e; cases p
    | dT ds => cases e; cases p
end

section
variable {X : Cx} {S : Sit}
def ints1 (f : Int → Tm) : Q1 := fun x K => match x with | .int i => K (f i) | _ => False
def ints2 (C : Int → Int → Prop) (f : Int → Int → Tm) : Q2 := fun x y K => match x, y with | .int i, .int j => C i j ∧ K (f i j) | _, _ => False
def ints0 (f : Int → Int → Tm) : Q2 := fun x y K => match x, y with | .int i, .int j => K (f i j) | _, _ => False
theorem op_ints {f : Value → Value → Sem Value} {C : Int → Int → Prop} {g : Int → Int → Int} (h : OpR X f (rI C fun i j => .int (g i j))) : OpR X f (L2q S (ints2 C fun i j => .d (.int (g i j)))) := by
  intro pins s σ H v u vv uu Q I rv ru ⟨F, l, x, y, Q0, R, dx, dy, q, post⟩
  cases x with
  | int i =>
    cases y with
    | int j =>
      cases dx.int; cases dy.int
      exact h pins s σ H _ _ vv uu Q I rv ru ⟨i, j, rfl, rfl, q.1, post _ q.2 F H _ (Same.refl _) ⟨.int _, R⟩⟩
    | _ => exact q.elim
  | _ => exact q.elim
theorem op_intsB {f : Value → Value → Sem Value} {g : Int → Int → Bool} (h : OpR X f (rI0 fun i j => .bl (g i j))) : OpR X f (L2q S (ints0 fun i j => .d (.bl (g i j)))) := by
  intro pins s σ H v u vv uu Q I rv ru ⟨F, l, x, y, Q0, R, dx, dy, q, post⟩
  cases x with
  | int i =>
    cases y with
    | int j =>
      cases dx.int; cases dy.int
      exact h pins s σ H _ _ vv uu Q I rv ru ⟨i, j, rfl, rfl, post _ q F H _ (Same.refl _) ⟨.bl _, R⟩⟩
    | _ => exact q.elim
  | _ => exact q.elim
theorem op_ints0 {f : Value → Value → Sem Value} {g : Int → Int → Int} (h : OpR X f (rI0 fun i j => .int (g i j))) : OpR X f (L2q S (ints0 fun i j => .d (.int (g i j)))) := by
  intro pins s σ H v u vv uu Q I rv ru ⟨F, l, x, y, Q0, R, dx, dy, q, post⟩
  cases x with
  | int i =>
    cases y with
    | int j =>
      cases dx.int; cases dy.int
      exact h pins s σ H _ _ vv uu Q I rv ru ⟨i, j, rfl, rfl, post _ q F H _ (Same.refl _) ⟨.int _, R⟩⟩
    | _ => exact q.elim
  | _ => exact q.elim
abbrev qSub : Q2 := ints0 fun i j => .d (.int (i - j))
abbrev qMod : Q2 := ints2 (fun _ j => 0 < j) fun i j => .d (.int (i % j))
abbrev qDiv : Q2 := ints2 CDivW fun i j => .d (.int (i / j))
abbrev qPow : Q2 := ints2 CPow fun i j => .d (.int (i ^ j.toNat))
abbrev qShl : Q2 := ints2 CPow fun i j => .d (.int (i * 2 ^ j.toNat))
abbrev qShr : Q2 := ints2 (fun _ j => 0 ≤ j) fun i j => .d (.int (i / 2 ^ j.toNat))
abbrev qAndB : Q2 := ints0 fun i j => .d (.int (Builtin.bitAnd i j))
abbrev qOrB : Q2 := ints0 fun i j => .d (.int (Builtin.bitOr i j))
abbrev qXor : Q2 := ints0 fun i j => .d (.int (Builtin.bitXor i j))
theorem o_sub : OpR X (binaryOp .Sub) (L2q S qSub) := op_ints0 op_sub
theorem o_mod : OpR X (binaryOp .Mod) (L2q S qMod) := op_ints op_mod
theorem o_div : OpR X (binaryOp .FloorDiv) (L2q S qDiv) := op_ints op_fdivW
theorem o_pow : OpR X (binaryOp .Pow) (L2q S qPow) := op_ints op_pow
theorem o_shl : OpR X (binaryOp .LShift) (L2q S qShl) := op_ints op_shl
theorem o_shr : OpR X (binaryOp .RShift) (L2q S qShr) := op_ints op_shr
theorem o_and : OpR X (binaryOp .BitAnd) (L2q S qAndB) := op_ints0 op_and
theorem o_or : OpR X (binaryOp .BitOr) (L2q S qOrB) := op_ints0 op_or
theorem o_xor : OpR X (binaryOp .BitXor) (L2q S qXor) := op_ints0 op_xor
abbrev qNeg : Q1 := ints1 fun i => .d (.int (-i))
theorem o_neg : UnR X (unaryOp .USub) (L1 S qNeg) := by
  intro pins s σ H v vv Q I rv ⟨F, l, x, Q0, R, dx, q, post⟩
  cases x with
  | int i =>
    cases dx.int
    exact un_neg pins s σ H _ vv Q I rv ⟨i, rfl, post _ q F H _ (Same.refl _) ⟨.int _, R⟩⟩
  | _ => exact q.elim
def qAdd : Q2 := fun x y K => match x, y with
  | .int i, .int j => K (.d (.int (i + j)))
  | .str i, .str j => i.length + j.length ≤ sizeLine ∧ K (.d (.str (i ++ j)))
  | .tup a, .tup b => a.length + b.length ≤ sizeLine ∧ K (.d (.tup (a ++ b)))
  | .lst a, .lst b => a.length + b.length ≤ sizeLine ∧ K (.o (.lst (a ++ b)))
  | _, _ => False
theorem o_add : OpR X (binaryOp .Add) (L2q S qAdd) := by
  intro pins s σ H v u vv uu Q I rv ru ⟨F, l, x, y, Q0, R, dx, dy, q, post⟩
  cases x with
  | int i =>
    cases y with
    | int j =>
      cases dx.int; cases dy.int
      exact op_add pins s σ H _ _ vv uu Q I rv ru ⟨i, j, rfl, rfl, post _ q F H _ (Same.refl _) ⟨.int _, R⟩⟩
    | _ => exact q.elim
  | str i =>
    cases y with
    | str j =>
      cases dx.str; cases dy.str
      exact op_add_str pins s σ H _ _ vv uu Q I rv ru ⟨i, j, rfl, rfl, q.1, post _ q.2 F H _ (Same.refl _) ⟨.str _, R⟩⟩
    | _ => exact q.elim
  | tup a =>
    cases y with
    | tup b =>
      obtain ⟨p1, xs, rfl, ha, dl⟩ := dx.tup
      obtain ⟨p2, ys, rfl, hb, el⟩ := dy.tup
      refine op_catA pins s σ H _ _ vv uu Q I rv ru ⟨p1, p2, xs, ys, rfl, rfl, same_sq R.fh ha, same_sq R.fh hb, by rw [dl.length, el.length]; exact q.1, fun e => ?_, fun e e2 => ?_, fun _ _ p np => ?_⟩
      · have e1 : a = [] := dl.nil_iff.mp e
        subst e1
        exact post _ q.2 F H _ (Same.refl _) ⟨.tup hb el, R⟩
      · have e1 : b = [] := el.nil_iff.mp e2
        subst e1
        have q2 := q.2
        rw [List.append_nil] at q2
        exact post _ q2 F H _ (Same.refl _) ⟨.tup ha dl, R⟩
      · have n1 := (R.free np).1
        exact post _ q.2 _ _ _ (same_new n1) ⟨.tup upd_same ((dl.append el).mono (same_new n1)), R.newF np⟩
    | _ => exact q.elim
  | lst a =>
    cases y with
    | lst b =>
      obtain ⟨p1, xs, rfl, ha, dl⟩ := dx.lst R
      obtain ⟨p2, ys, rfl, hb, el⟩ := dy.lst R
      exact op_cat pins s σ H _ _ vv uu Q I rv ru ⟨p1, p2, xs, ys, rfl, rfl, ha, hb, by rw [dl.length, el.length]; exact q.1, fun p np => post _ q.2 F _ _ (Same.refl _) (R.newO np ⟨_, upd_same, dl.append el⟩)⟩
    | _ => exact q.elim
  | _ => exact q.elim
end

section
variable {prog : Program} {w : World} {A : Around} {E : Value → Shared → Prop} {s : Shared}
theorem tuple_mul_self (l : Addr) (items : Array Value) (n : Nat) (sl : Array (Option Value)) (dd : Option Addr) (x : Int) (u : Tok) (c0 : (decide (x < -(2 ^ 63)) || decide (x ≥ 2 ^ 63)) = false) (c1 : (items.isEmpty || x == 1) = true) :
    Meets (Builtin.«tuple.__mul__» ⟨[.ref l, .int x u], []⟩) (fun _ R s => s.heap.get? l = some { cls := .type "tuple", dict := dd, data := .seq items n, slots := sl } ∧ R (.ok (.ret (Value.ref l))) s) :=
  .of_wp fun prog w A R s h => by
    obtain ⟨hp, g, d, tk, os⟩ := s
    obtain ⟨hl, h⟩ := h
    have f1 := AutoSeq1.idx_int
    wp_walk using wpAny_loadPart' hl
    repeat (first
      | (refine wpAny_ite_false (decide_eq_false (by rw [c0]; exact Bool.false_ne_true)) ?_; wp_walk using wpAny_loadPart' hl)
      | (refine wpAny_ite_true (decide_eq_true c1) ?_; wp_walk using wpAny_loadPart' hl))
    exact ⟨_, rfl, h⟩
theorem tuple_mul_none (l : Addr) (items : Array Value) (n : Nat) (sl : Array (Option Value)) (dd : Option Addr) (x : Int) (u : Tok) (c0 : (decide (x < -(2 ^ 63)) || decide (x ≥ 2 ^ 63)) = false) (c1 : (items.isEmpty || x == 1) = false) (c2 : (decide (x ≤ 0) || items.isEmpty) = true) :
    Meets (Builtin.«tuple.__mul__» ⟨[.ref l, .int x u], []⟩) (fun _ R s => s.heap.get? l = some { cls := .type "tuple", dict := dd, data := .seq items n, slots := sl } ∧
      R (.ok (.ret (Value.ref s.heap.objs.size))) { s with heap := s.heap.push { cls := Value.type "tuple", data := Data.seq #[] }, toks := s.toks }) :=
  .of_wp fun prog w A R s h => by
    obtain ⟨hp, g, d, tk, os⟩ := s
    obtain ⟨hl, h⟩ := h
    have f1 := AutoSeq1.idx_int
    wp_walk using wpAny_loadPart' hl
    repeat (first
      | (refine wpAny_ite_false (decide_eq_false (by rw [c0]; exact Bool.false_ne_true)) ?_; wp_walk using wpAny_loadPart' hl)
      | (refine wpAny_ite_false (decide_eq_false (by rw [c1]; exact Bool.false_ne_true)) ?_; wp_walk using wpAny_loadPart' hl)
      | (refine wpAny_ite_true (decide_eq_true c2) ?_; wp_walk using wpAny_loadPart' hl))
    exact ⟨_, rfl, h⟩
end

section
variable {X : Cx} {S : Sit}
def rRepA (K : PySem.W.Frag) : R2 := fun x y H Q => ∃ l k xs, x = .ref l ∧ y = .int k ∧ SqT K H l xs ∧ k ≤ 1000 ∧ -1000 ≤ k ∧ xs.length ≤ 1000 ∧ (xs = [] ∨ k = 1 → Q (.ref l) H) ∧ (¬ (xs = [] ∨ k = 1) → ∀ p, H p = none → Q (.ref p) (upd H p (.tup (List.replicate k.toNat xs).flatten)))
theorem op_repA : OpR X (binaryOp .Mult) (rRepA X.K) := by
  intro pins s σ H x y v u Q I rx ry h
  obtain ⟨l, k, xs, rfl, rfl, hT, h1, h0, hz, q1, q2⟩ := h
  by_cases hk : 2 ≤ k ∧ xs ≠ []
  · exact op_repT pins s σ H _ _ v u Q I rx ry ⟨l, k, xs, rfl, rfl, hT, hk.2, hk.1, h1, hz, q2 fun z => by
      rcases z with z | z
      · exact hk.2 z
      · omega⟩
  · cases rx
    obtain ⟨t, rfl⟩ := ry
    obtain ⟨its, r, ⟨⟨cls, dd, data, sl⟩, ho, hc, n, hd⟩, hs⟩ := I.tuple hT
    simp only at hc hd
    subst hc hd
    have c0 : (decide (k < -(2 ^ 63)) || decide (k ≥ 2 ^ 63)) = false := by
      rw [decide_eq_false (by omega), decide_eq_false (by omega)] <;> rfl
    have hle : its.length = xs.length := r.length.symm
    have hemp : its.toArray.isEmpty = true ↔ xs = [] := by
      cases its with
      | nil => simp only [List.isEmpty_toArray, List.isEmpty_nil, true_iff]; exact List.eq_nil_of_length_eq_zero hle.symm
      | cons a b => simp only [List.isEmpty_toArray, List.isEmpty_cons, Bool.false_eq_true, false_iff]; intro e; rw [e] at hle; simp at hle
    by_cases hq : xs = [] ∨ k = 1
    · have c1 : (its.toArray.isEmpty || k == 1) = true := by
        rcases hq with e | e
        · rw [hemp.mpr e]; rfl
        · rw [e]; simp
      exact wpAny_binaryOp_repeat_ref (T := "tuple") (U := "int") (by decide) ⟨_, ho, rfl⟩ (fun s' => typeIs_int s' k t) noFill_tuple_mul F.fills_int_mul F.slot_int_rmul repeat_tuple F.slot_int_index.lookup
        (call_meets F.slot_int_rmul (typeIs_int s k t) F.entry_int_rmul (F.args_int_rmul_2 _ _) (int_rmul_tuple k t l its.toArray n dd sl)
          ⟨ho, rfl, ⟨_, ho, rfl⟩, call_meets F.slot_tuple_mul ⟨_, ho, rfl⟩ F.entry_tuple_mul (F.args_tuple_mul_2 _ _) (tuple_mul_self l its.toArray n sl dd k t c0 c1) ⟨ho, ⟨.ref l, H, I, rfl, q1 hq⟩⟩⟩)
    · have hk0 : k ≤ 0 := by
        have h1 : k ≠ 1 := fun e => hq (.inr e)
        have h2 : ¬ 2 ≤ k := fun e => hk ⟨e, fun z => hq (.inl z)⟩
        omega
      have c1 : (its.toArray.isEmpty || k == 1) = false := by
        have e1 : its.toArray.isEmpty = false := by
          cases e : its.toArray.isEmpty with
          | false => rfl
          | true => exact absurd (hemp.mp e) fun z => hq (.inl z)
        rw [e1, Bool.false_or]
        exact beq_eq_false_iff_ne.mpr (by omega)
      have c2 : (decide (k ≤ 0) || its.toArray.isEmpty) = true := by rw [decide_eq_true hk0]; rfl
      have e0 : (List.replicate k.toNat xs).flatten = [] := by
        rw [show k.toNat = 0 by omega]; rfl
      refine wpAny_binaryOp_repeat_ref (T := "tuple") (U := "int") (by decide) ⟨_, ho, rfl⟩ (fun s' => typeIs_int s' k t) noFill_tuple_mul F.fills_int_mul F.slot_int_rmul repeat_tuple F.slot_int_index.lookup
        (call_meets F.slot_int_rmul (typeIs_int s k t) F.entry_int_rmul (F.args_int_rmul_2 _ _) (int_rmul_tuple k t l its.toArray n dd sl)
          ⟨ho, rfl, ⟨_, ho, rfl⟩, call_meets F.slot_tuple_mul ⟨_, ho, rfl⟩ F.entry_tuple_mul (F.args_tuple_mul_2 _ _) (tuple_mul_none l its.toArray n sl dd k t c0 c1 c2) ⟨ho, ?_⟩⟩)
      have q3 := q2 hq s.heap.objs.size (I.hok.fresh (Nat.le_refl _))
      rw [e0] at q3
      refine ⟨.ref s.heap.objs.size, _, I.laid (t' := s.toks) (o := .tup []) (fun b ob q => Heap.get?_push_of_some _ q) (Nat.le_refl _) ?_, rfl, q3⟩
      exact ⟨Nat.zero_le _, [], .nil, IsTup.new _ _⟩
def CMulB (i j : Int) : Prop := IntMulOk i j
theorem cmul_l {i j : Int} (h : -(2 ^ 64) < i ∧ i < 2 ^ 64) : CMulB i j := CMul.ok (.inl h)
theorem cmul_r {i j : Int} (h : -(2 ^ 64) < j ∧ j < 2 ^ 64) : CMulB i j := CMul.ok (.inr h)
def qMul : Q2 := fun x y K => match x, y with
  | .int i, .int j => CMulB i j ∧ K (.d (.int (i * j)))
  | .tup a, .int k => (k ≤ 1000 ∧ -1000 ≤ k ∧ a.length ≤ 1000) ∧ K (.d (.tup (List.replicate k.toNat a).flatten))
  | .lst a, .int k => (k ≤ 1000 ∧ -1000 ≤ k ∧ a.length ≤ 1000) ∧ K (.o (.lst (List.replicate k.toNat a).flatten))
  | _, _ => False
theorem op_mulB : OpR X (binaryOp .Mult) (rI CMulB fun i j => .int (i * j)) := opI fun _ _ _ _ _ _ _ hc q => mul_int q hc
theorem o_mul : OpR X (binaryOp .Mult) (L2q S qMul) := by
  intro pins s σ H v u vv uu Q I rv ru ⟨F, l, x, y, Q0, R, dx, dy, q, post⟩
  cases x with
  | int i =>
    cases y with
    | int j =>
      cases dx.int; cases dy.int
      exact op_mulB pins s σ H _ _ vv uu Q I rv ru ⟨i, j, rfl, rfl, q.1, post _ q.2 F H _ (Same.refl _) ⟨.int _, R⟩⟩
    | _ => exact q.elim
  | tup a =>
    cases y with
    | int k =>
      obtain ⟨p1, xs, rfl, ha, dl⟩ := dx.tup
      cases dy.int
      refine op_repA pins s σ H _ _ vv uu Q I rv ru ⟨p1, k, xs, rfl, rfl, same_sq R.fh ha, q.1.1, q.1.2.1, by rw [dl.length]; exact q.1.2.2, fun e => ?_, fun e p np => ?_⟩
      · have e1 : (List.replicate k.toNat a).flatten = a := by
          rcases e with e | e
          · have ea : a = [] := dl.nil_iff.mp e
            subst ea
            simp
          · subst e
            simp
        have q2 := q.2
        rw [e1] at q2
        exact post _ q2 F H _ (Same.refl _) ⟨.tup ha dl, R⟩
      · have n1 := (R.free np).1
        exact post _ q.2 _ _ _ (same_new n1) ⟨.tup upd_same ((dl.rep k.toNat).mono (same_new n1)), R.newF np⟩
    | _ => exact q.elim
  | lst a =>
    cases y with
    | int k =>
      obtain ⟨p1, xs, rfl, ha, dl⟩ := dx.lst R
      cases dy.int
      refine op_rep pins s σ H _ _ vv uu Q I rv ru ⟨p1, k, xs, rfl, rfl, ha, by have := q.1; omega, by have := q.1; omega, ?_, fun p np => post _ q.2 F _ _ (Same.refl _) (R.newO np ⟨_, upd_same, dl.rep k.toNat⟩)⟩
      rw [dl.length, sizeLine_eq]
      have h1 := q.1
      have a1 : a.length * k.toNat ≤ 1000 * 1000 := Nat.mul_le_mul h1.2.2 (by omega)
      omega
    | _ => exact q.elim
  | _ => exact q.elim

abbrev qLt : Q2 := ints0 fun i j => .d (.bl (decide (i < j)))
abbrev qLe : Q2 := ints0 fun i j => .d (.bl (decide (i ≤ j)))
abbrev qGt : Q2 := ints0 fun i j => .d (.bl (decide (j < i)))
abbrev qGe : Q2 := ints0 fun i j => .d (.bl (decide (j ≤ i)))
theorem o_lt : OpR X (compareOp .Lt) (L2q S qLt) := op_intsB op_lt
theorem o_le : OpR X (compareOp .LtE) (L2q S qLe) := op_intsB op_le
theorem o_gt : OpR X (compareOp .Gt) (L2q S qGt) := op_intsB op_gt
theorem o_ge : OpR X (compareOp .GtE) (L2q S qGe) := op_intsB op_ge
def qEq : Q2 := fun x y K => match x, y with
  | .int i, .int j => K (.d (.bl (decide (i = j))))
  | .str i, .str j => K (.d (.bl (decide (i = j))))
  | x, y => okE x = true ∧ okE y = true ∧ K (.d (.bl (deq x y)))
def qNe : Q2 := fun x y K => match x, y with
  | .int i, .int j => K (.d (.bl (!decide (i = j))))
  | .str i, .str j => K (.d (.bl (!decide (i = j))))
  | x, y => okE x = true ∧ okE y = true ∧ K (.d (.bl (!deq x y)))
theorem okE_plain {x : D} (h : okE x = true) : plain x = true ∧ SeqAt.shaped (toP x) = true := by
  unfold okE at h
  simpa using h
theorem deq_int (i j : Int) : deq (.int i) (.int j) = decide (i = j) := by
  show (i == j) = decide (i = j)
  rw [Bool.beq_eq_decide_eq]
theorem qEq_all {x y : D} {K : Tm → Prop} (h : qEq x y K) : (∃ i j, x = .str i ∧ y = .str j ∧ K (.d (.bl (decide (i = j))))) ∨ okE x = true ∧ okE y = true ∧ K (.d (.bl (deq x y))) := by
  unfold qEq at h
  split at h
  · rw [deq_int]; exact .inr ⟨rfl, rfl, h⟩
  · exact .inl ⟨_, _, rfl, rfl, h⟩
  · exact .inr h
theorem qNe_all {x y : D} {K : Tm → Prop} (h : qNe x y K) : (∃ i j, x = .str i ∧ y = .str j ∧ K (.d (.bl (!decide (i = j))))) ∨ okE x = true ∧ okE y = true ∧ K (.d (.bl (!deq x y))) := by
  unfold qNe at h
  split at h
  · rw [deq_int]; exact .inr ⟨rfl, rfl, h⟩
  · exact .inl ⟨_, _, rfl, rfl, h⟩
  · exact .inr h
theorem o_eq (hu : X.A.units + 64 < cLine) : OpR X (compareOp .Eq) (L2q S qEq) := by
  intro pins s σ H v u vv uu Q I rv ru ⟨F, l, x, y, Q0, R, dx, dy, q, post⟩
  rcases qEq_all q with ⟨i, j, rfl, rfl, q⟩ | ⟨q1, q2, q3⟩
  · cases dx.str; cases dy.str
    refine op_eq pins s σ H _ _ vv uu Q I rv ru ⟨rfl, ?_⟩
    have e : decide (V.str i = V.str j) = decide (i = j) := by simp
    rw [e]
    exact post _ q F H _ (Same.refl _) ⟨.bl _, R⟩
  obtain ⟨p1, s1⟩ := okE_plain q1
  obtain ⟨p2, s2⟩ := okE_plain q2
  exact op_eqD hu pins s σ H _ _ vv uu Q I rv ru ⟨_, _, dx.dp R p1, dy.dp R p2, s1, s2, post _ q3 F H _ (Same.refl _) ⟨.bl _, R⟩⟩
theorem o_ne (hu : X.A.units + 64 < cLine) : OpR X (compareOp .NotEq) (L2q S qNe) := by
  intro pins s σ H v u vv uu Q I rv ru ⟨F, l, x, y, Q0, R, dx, dy, q, post⟩
  rcases qNe_all q with ⟨i, j, rfl, rfl, q⟩ | ⟨q1, q2, q3⟩
  · cases dx.str; cases dy.str
    refine op_ne pins s σ H _ _ vv uu Q I rv ru ⟨rfl, ?_⟩
    have e : decide (V.str i = V.str j) = decide (i = j) := by simp
    rw [e]
    exact post _ q F H _ (Same.refl _) ⟨.bl _, R⟩
  obtain ⟨p1, s1⟩ := okE_plain q1
  obtain ⟨p2, s2⟩ := okE_plain q2
  exact op_neD hu pins s σ H _ _ vv uu Q I rv ru ⟨_, _, dx.dp R p1, dy.dp R p2, s1, s2, post _ q3 F H _ (Same.refl _) ⟨.bl _, R⟩⟩
def isNon : D → Bool
  | .non => true
  | _ => false
def qIsN (neg : Bool) : Q2 := fun x y K => match y with | .non => (match x with | .op _ => False | _ => K (.d (.bl (if neg then !isNon x else isNon x)))) | _ => False
theorem den_non {g : Gc} {F : Hp} {v : V} {x : D} (h : Den g F v x) (n : ∀ w, x ≠ .op w) : decide (v = .non) = isNon x := by
  cases h <;> first | rfl | exact absurd rfl (n _)
theorem rdv_non {F H : Hp} {l : List Slot} {v : V} {x : D} (R : Rep S F H l) (h : Rdv S F l v x) (n : ∀ w, x ≠ .op w) : decide (v = .non) = isNon x := by
  rcases h with h | ⟨o, e, m⟩
  · exact den_non h n
  · obtain ⟨a, ev, _⟩ := R.ok _ m
    cases ev
    cases o <;> (subst e; rfl)
theorem o_isN : OpR X (compareOp .Is) (L2q S (qIsN false)) := by
  intro pins s σ H v u vv uu Q I rv ru ⟨F, l, x, y, Q0, R, dx, dy, q, post⟩
  cases y with
  | non =>
    cases dy.non
    have hq : (∀ w, x ≠ .op w) ∧ Q0 (.d (.bl (isNon x))) := by
      cases x <;> first | exact q.elim | exact ⟨(fun w z => nomatch z), q⟩
    have e := rdv_non R dx hq.1
    refine op_isN pins s σ H _ _ vv uu Q I rv ru ⟨rfl, ?_⟩
    rw [e]
    exact post (.d (.bl (isNon x))) hq.2 F H (.bl (isNon x)) (Same.refl _) ⟨.bl _, R⟩
  | _ => exact q.elim
theorem o_notN : OpR X (compareOp .IsNot) (L2q S (qIsN true)) := by
  intro pins s σ H v u vv uu Q I rv ru ⟨F, l, x, y, Q0, R, dx, dy, q, post⟩
  cases y with
  | non =>
    cases dy.non
    have hq : (∀ w, x ≠ .op w) ∧ Q0 (.d (.bl (!isNon x))) := by
      cases x <;> first | exact q.elim | exact ⟨(fun w z => nomatch z), q⟩
    have e := rdv_non R dx hq.1
    refine op_notN pins s σ H _ _ vv uu Q I rv ru ⟨rfl, ?_⟩
    rw [e]
    exact post (.d (.bl (!isNon x))) hq.2 F H (.bl (!isNon x)) (Same.refl _) ⟨.bl _, R⟩
  | _ => exact q.elim
def asInt : D → Option Int
  | .int i => some i
  | _ => none
def asInts : List D → Option (List Int)
  | [] => some []
  | .int i :: l => (asInts l).map (i :: ·)
  | _ :: _ => none
theorem asInts_eq : ∀ {l : List D} {ns : List Int}, asInts l = some ns → l = ns.map D.int
  | [], _, h => by cases h; rfl
  | d :: l, ns, h => by
    cases d with
    | int i =>
      cases e : asInts l with
      | none => simp only [asInts, e, Option.map_none] at h; cases h
      | some m =>
        simp only [asInts, e, Option.map_some, Option.some.injEq] at h
        subst h
        rw [asInts_eq e] <;> rfl
    | _ => cases h
theorem asInts_map : ∀ (ns : List Int), asInts (ns.map D.int) = some ns
  | [] => rfl
  | n :: ns => by
    show (asInts (ns.map D.int)).map (n :: ·) = some (n :: ns)
    rw [asInts_map ns]; rfl
end

section
variable {X : Cx} {S : Sit} {E : XK}
def qIn (neg : Bool) : Q2 := fun x y K => match x, y with
  | .int i, .tup l => (match asInts l with | some ns => K (.d (.bl (if neg then !ns.contains i else ns.contains i))) | none => False)
  | .int i, .lst l => (match asInts l with | some ns => K (.d (.bl (if neg then !ns.contains i else ns.contains i))) | none => False)
  | _, _ => False
theorem all_flat (ns : List Int) : (ns.map V.int).all flatV = true := by
  rw [List.all_eq_true]
  intro x hx
  obtain ⟨i, _, rfl⟩ := List.mem_map.mp hx
  rfl
theorem inV_ints (i : Int) : ∀ ns : List Int, inV (.int i) (ns.map V.int) = ns.contains i
  | [] => rfl
  | n :: ns => by
    have ih := inV_ints i ns
    show (eqV (.int n) (.int i) || inV (.int i) (ns.map V.int)) = (n :: ns).contains i
    rw [ih, List.contains_cons]
    have h : eqV (.int n) (.int i) = (i == n) := by
      show (n == i) = (i == n)
      by_cases e : n = i
      · subst e; rfl
      · rw [beq_eq_false_iff_ne.mpr e, beq_eq_false_iff_ne.mpr (Ne.symm e)]
    rw [h]
theorem o_in : OpR X (compareOp .In) (L2q S (qIn false)) := by
  intro pins s σ H v u vv uu Q I rv ru ⟨F, l, x, y, Q0, R, dx, dy, q, post⟩
  cases x with
  | int i =>
    cases dx.int
    cases y with
    | tup a =>
      obtain ⟨p, xs, rfl, ha, dl⟩ := dy.tup
      cases e : asInts a with
      | none => simp only [qIn, e] at q
      | some ns =>
        simp only [qIn, e] at q
        rw [asInts_eq e] at dl
        rw [dl.ints] at ha
        refine op_in_seq pins s σ H _ _ vv uu Q I rv ru ⟨p, ns.map V.int, rfl, .inr (same_sq R.fh ha), rfl, all_flat ns, ?_⟩
        rw [inV_ints]
        exact post _ q F H _ (Same.refl _) ⟨.bl _, R⟩
    | lst a =>
      obtain ⟨p, xs, rfl, ha, dl⟩ := dy.lst R
      cases e : asInts a with
      | none => simp only [qIn, e] at q
      | some ns =>
        simp only [qIn, e] at q
        rw [asInts_eq e] at dl
        rw [dl.ints] at ha
        refine op_in_seq pins s σ H _ _ vv uu Q I rv ru ⟨p, ns.map V.int, rfl, .inl (SqL.of ha), rfl, all_flat ns, ?_⟩
        rw [inV_ints]
        exact post _ q F H _ (Same.refl _) ⟨.bl _, R⟩
    | _ => exact q.elim
  | _ => exact q.elim
theorem o_notin : OpR X (compareOp .NotIn) (L2q S (qIn true)) := by
  intro pins s σ H v u vv uu Q I rv ru ⟨F, l, x, y, Q0, R, dx, dy, q, post⟩
  cases x with
  | int i =>
    cases dx.int
    cases y with
    | tup a =>
      obtain ⟨p, xs, rfl, ha, dl⟩ := dy.tup
      cases e : asInts a with
      | none => simp only [qIn, e] at q
      | some ns =>
        simp only [qIn, e] at q
        rw [asInts_eq e] at dl
        rw [dl.ints] at ha
        refine op_notIn_seq pins s σ H _ _ vv uu Q I rv ru ⟨p, ns.map V.int, rfl, .inr (same_sq R.fh ha), rfl, all_flat ns, ?_⟩
        rw [inV_ints]
        exact post _ q F H _ (Same.refl _) ⟨.bl _, R⟩
    | lst a =>
      obtain ⟨p, xs, rfl, ha, dl⟩ := dy.lst R
      cases e : asInts a with
      | none => simp only [qIn, e] at q
      | some ns =>
        simp only [qIn, e] at q
        rw [asInts_eq e] at dl
        rw [dl.ints] at ha
        refine op_notIn_seq pins s σ H _ _ vv uu Q I rv ru ⟨p, ns.map V.int, rfl, .inl (SqL.of ha), rfl, all_flat ns, ?_⟩
        rw [inV_ints]
        exact post _ q F H _ (Same.refl _) ⟨.bl _, R⟩
    | _ => exact q.elim
  | _ => exact q.elim

def qIx : Q2 := fun x y K => match x, y with
  | .tup l, .int i => (match atI l i with | some d => K (.d d) | none => False)
  | .lst l, .int i => (match atI l i with | some d => K (.d d) | none => False)
  | _, _ => False
theorem DenL.atI {g : Gc} {F : Hp} {xs : List V} {ds : List D} {i : Int} {d : D} (dl : DenL g F xs ds) (h : L2.atI ds i = some d) : ∃ v, L2.atI xs i = some v ∧ Den g F v d := by
  unfold L2.atI at h ⊢
  rw [dl.length]
  cases e : ixN ds.length i with
  | none => rw [e] at h; cases h
  | some j =>
    rw [e] at h
    obtain ⟨v, hv, dv⟩ := dl.get (show ds[j]? = some d from h)
    exact ⟨v, hv, dv⟩
theorem ix_D : IxR X (L2q S qIx) := by
  intro value slice pins s σ H v u vv uu Q I rv ru ⟨F, l, x, y, Q0, R, dx, dy, q, post⟩ hsub
  cases x with
  | tup a =>
    cases y with
    | int i =>
      cases dy.int
      obtain ⟨p, xs, rfl, ha, dl⟩ := dx.tup
      cases e : L2.atI a i with
      | none => simp only [qIx, e] at q
      | some d =>
        simp only [qIx, e] at q
        obtain ⟨v, hv, dv⟩ := dl.atI e
        exact L2.ix_tup value slice pins s σ H _ _ vv uu Q I rv ru ⟨p, xs, i, v, rfl, rfl, same_sq R.fh ha, hv, post _ q F H _ (Same.refl _) ⟨dv, R⟩⟩ hsub
    | _ => exact q.elim
  | lst a =>
    cases y with
    | int i =>
      cases dy.int
      obtain ⟨p, xs, rfl, ha, dl⟩ := dx.lst R
      cases e : L2.atI a i with
      | none => simp only [qIx, e] at q
      | some d =>
        simp only [qIx, e] at q
        obtain ⟨v, hv, dv⟩ := dl.atI e
        exact L2.ix_list value slice pins s σ H _ _ vv uu Q I rv ru ⟨p, xs, i, v, rfl, rfl, SqL.of ha, hv, post _ q F H _ (Same.refl _) ⟨dv, R⟩⟩ hsub
    | _ => exact q.elim
  | _ => exact q.elim
theorem ex_ix {a b : Expr} {ta tb : TD} {pos : Pos} (ha : EX X S E a ta) (hb : EX X S E b tb) (hs : PlainIx b := by intro _ _; rfl) : EX X S E (.Subscript a b pos) (dOp2 qIx ta tb) :=
  PE_imp (pe_ix ix_D ha hb hs) fun _ _ _ h => lift2 h
abbrev TPt := Rho → (Option Int → Rho → Prop) → (Exn → Prop) → Prop
def LPt (S : Sit) (E : XK) (t : TPt) : TO := fun σ H Q => ∃ F ρ T Q0 X0, RepS S F H T σ ρ ∧ t ρ Q0 X0 ∧ (∀ o ρ', Q0 o ρ' → ∀ F' H', Same F F' → RepS S F' H' T σ ρ' → Q o H') ∧ LX S F E X0
def OX (X : Cx) (S : Sit) (E : XK) (e : Option Expr) (t : TPt) : Prop := PO X e (LPt S E t)
theorem PO_imp {e : Option Expr} {t t' : TO} (h : PO X e t') (i : ∀ σ H Q, t σ H Q → t' σ H Q) : PO X e t := ⟨fun pins s σ H Q I q => h.run pins s σ H Q I (i σ H Q q)⟩
def pNo : TPt := fun ρ Q _ => Q none ρ
def pIt (te : TD) : TPt := fun ρ Q X => te ρ (fun m ρ1 => peek m ρ1 fun x => match x with | .int i => Q (some i) ρ1 | _ => False) X
theorem ox_none : OX X S E none pNo := PO_imp po_none fun σ H Q ⟨F, ρ, T, Q0, X0, R, ht, hq, hx⟩ => hq _ _ ht F H (Same.refl _) R
theorem ox_some {e : Expr} {te : TD} (h : EX X S E e te) : OX X S E (some e) (pIt te) := by
  refine PO_imp (po_some h) fun σ H Q ⟨F, ρ, T, Q0, X0, R, ht, hq, hx⟩ => ⟨F, ρ, T, _, X0, R, ht, fun m ρ1 h1 F1 H1 v s1 R1 => ?_, hx⟩
  obtain ⟨x, r, k⟩ := peek_ok R1.come R1.stack pushT_mem h1
  cases x with
  | int i => cases r.int; exact ⟨i, rfl, hq _ _ k F1 H1 s1 R1.toS⟩
  | _ => exact k.elim
def cutD (xs : List D) (lo hi : Option Int) : List D := (xs.drop (HT.sIx xs.length 0 lo)).take (HT.sIx xs.length xs.length hi - HT.sIx xs.length 0 lo)
theorem DenL.cut {g : Gc} {F : Hp} {xs : List V} {ds : List D} (dl : DenL g F xs ds) (lo hi : Option Int) : DenL g F (cutV xs lo hi) (cutD ds lo hi) := by
  unfold cutV cutD
  rw [dl.length]
  exact (dl.drop _).take _
def qSl (x : D) (lo hi : Option Int) (K : Tm → Prop) : Prop := match x with
  | .tup l => K (.d (.tup (cutD l lo hi)))
  | .lst l => K (.o (.lst (cutD l lo hi)))
  | _ => False
def dSl (te : TD) (tl th : TPt) : TD := fun ρ Q X => te ρ (fun m ρ1 => tl ρ1 (fun lo ρ2 => th ρ2 (fun hi ρ3 => peek m ρ3 fun x => qSl x lo hi fun z => Q z ρ3) X) X) X
def LSl (S : Sit) : V → Option Int → Option Int → Hp → VK → Prop := fun v lo hi H Q => ∃ F l x Q0, Rep S F H l ∧ Rdv S F l v x ∧ qSl x lo hi Q0 ∧ ∀ z, Q0 z → ∀ F' H' w, Same F F' → RepZ S F' H' w z l → Q w H'
theorem sl_D : SlR X (LSl S) := by
  intro pins s σ H v vv vl vu lo hi sl Q I rv hs pl pu ⟨F, l, x, Q0, R, dx, q, post⟩
  cases x with
  | tup a =>
    obtain ⟨p, xs, rfl, ha, dl⟩ := dx.tup
    refine sl_tupA pins s σ H _ vv vl vu lo hi sl Q I rv hs pl pu ⟨p, xs, rfl, same_sq R.fh ha, fun e => ?_, fun _ q0 nq => ?_⟩
    · have ec : cutD a lo hi = a := by
        unfold cutD
        rw [← dl.length, e.1, e.2, List.drop_zero, Nat.sub_zero, dl.length]
        exact List.take_length
      have q' : Q0 (.d (.tup (cutD a lo hi))) := q
      rw [ec] at q'
      exact post _ q' F H _ (Same.refl _) ⟨.tup ha dl, R⟩
    · have n1 := (R.free nq).1
      exact post _ q _ _ _ (same_new n1) ⟨.tup upd_same ((dl.cut lo hi).mono (same_new n1)), R.newF nq⟩
  | lst a =>
    obtain ⟨p, xs, rfl, ha, dl⟩ := dx.lst R
    exact sl_list pins s σ H _ vv vl vu lo hi sl Q I rv hs pl pu ⟨p, xs, rfl, SqL.of ha, fun q0 nq => post _ q F _ _ (Same.refl _) (R.newO nq ⟨_, upd_same, dl.cut lo hi⟩)⟩
  | _ => exact q.elim
theorem ex_slice {e : Expr} {lo hi : Option Expr} {te : TD} {tl th : TPt} {p2 pos : Pos} (he : EX X S E e te) (hl : OX X S E lo tl) (hh : OX X S E hi th) : EX X S E (.Subscript e (.Slice lo hi none p2) pos) (dSl te tl th) := by
  refine PE_imp (pe_slice (sl_D (S := S)) he hl hh) fun σ H Q ⟨F, ρ, T, Q0, X0, R, ht, hq, hx⟩ => ?_
  refine ⟨F, ρ, T, _, X0, R, ht, fun m ρ1 h1 F1 H1 v s1 R1 => ?_, hx⟩
  refine ⟨F1, ρ1, pushT v m T, _, X0, R1.stack, h1, fun o ρ2 h2 F2 H2 s2 R2 => ?_, hx.mono s1⟩
  refine ⟨F2, ρ2, pushT v m T, _, X0, R2, h2, fun o2 ρ3 h3 F3 H3 s3 R3 => ?_, hx.mono (s1.trans s2)⟩
  obtain ⟨x, r, k⟩ := peek_ok (R1.come.mono (s2.trans s3)) R3 pushT_mem h3
  exact ⟨F3, _, x, _, R3.2, r, k, fun z hz F4 H4 w s4 R4 => hq _ _ hz F4 H4 w (((s1.trans s2).trans s3).trans s4) (R4.drop R3.1 pushT_sub)⟩
end
end PL
set_option Elab.async false
set_option linter.all false
set_option maxRecDepth 100000
namespace PL
open PySem PySem.Spec PyProof.Rows L2

section
variable {X : Cx} {S : Sit} {E : XK} {a b c : Expr} {ta tb tc : TD} {pos p : Pos} {x : Str} {id T : String}
theorem ex_b1 {q : Q1} (hc : CallR X (.builtin id) (fun vs H Q => ∃ v, vs = [v] ∧ L1 S q v H Q)) (hg : Gl X x) (hm : X.mg x = none) (hv : bootBuiltins x = some (.builtin id)) (ha : EX X S E a ta) (hn : x ≠ "__name__" := by decide) (hdb : (x == ("__debug__" : Str)) = false := by decide)
    (he : starEach [a] X.env = (false, eval a X.env) :: starEach [] X.env := by rfl) (hpl : (backTo pos (starEach [] X.env)).any (·.1) = false := by rfl) : EX X S E (.Call (.Name x p) [a] [] pos) (dOp1 q ta) :=
  PE_imp (pe_callB hc hg hm hv (pa_cons ha pa_nil he) hn hdb he hpl) fun σ H Q h => by
    obtain ⟨F, ρ, T, Q0, X0, R, ht, hq, hx⟩ := lift1 h
    exact ⟨F, ρ, T, Q0, X0, R, ht, fun m ρ' h1 F' H' v s R' => ⟨v, rfl, hq m ρ' h1 F' H' v s R'⟩, hx⟩
theorem ex_t1 {q : Q1} (hc : CallR X (.type T) (fun vs H Q => ∃ v, vs = [v] ∧ L1 S q v H Q)) (hg : Gl X x) (hm : X.mg x = none) (hv : bootBuiltins x = some (.type T)) (ha : EX X S E a ta) (hn : x ≠ "__name__" := by decide) (hdb : (x == ("__debug__" : Str)) = false := by decide)
    (he : starEach [a] X.env = (false, eval a X.env) :: starEach [] X.env := by rfl) (hpl : (backTo pos (starEach [] X.env)).any (·.1) = false := by rfl) : EX X S E (.Call (.Name x p) [a] [] pos) (dOp1 q ta) :=
  PE_imp (pe_callTy hc hg hm hv (pa_cons ha pa_nil he) hn hdb he hpl) fun σ H Q h => by
    obtain ⟨F, ρ, T, Q0, X0, R, ht, hq, hx⟩ := lift1 h
    exact ⟨F, ρ, T, Q0, X0, R, ht, fun m ρ' h1 F' H' v s R' => ⟨v, rfl, hq m ρ' h1 F' H' v s R'⟩, hx⟩
theorem ex_b2 {q : Q2} (hc : CallR X (.builtin id) (fun vs H Q => ∃ v u, vs = [v, u] ∧ L2q S q v u H Q)) (hg : Gl X x) (hm : X.mg x = none) (hv : bootBuiltins x = some (.builtin id)) (ha : EX X S E a ta) (hb : EX X S E b tb) (hn : x ≠ "__name__" := by decide) (hdb : (x == ("__debug__" : Str)) = false := by decide)
    (he : starEach [a, b] X.env = (false, eval a X.env) :: starEach [b] X.env := by rfl) (he2 : starEach [b] X.env = (false, eval b X.env) :: starEach [] X.env := by rfl) (hpl : (backTo pos (starEach [b] X.env)).any (·.1) = false := by rfl) : EX X S E (.Call (.Name x p) [a, b] [] pos) (dOp2 q ta tb) :=
  PE_imp (pe_callB hc hg hm hv (pa_cons ha (pa_cons hb pa_nil he2) he) hn hdb he hpl) fun σ H Q h => by
    obtain ⟨F, ρ, T, Q0, X0, R, ht, hq, hx⟩ := lift2 h
    refine ⟨F, ρ, T, Q0, X0, R, ht, fun m ρ' h1 F' H' v s R' => ?_, hx⟩
    obtain ⟨F2, ρ2, T2, Q2, X2, R2, ht2, hq2, hx2⟩ := hq m ρ' h1 F' H' v s R'
    exact ⟨F2, ρ2, T2, Q2, X2, R2, ht2, fun m2 ρ3 h3 F3 H3 u s3 R3 => ⟨v, u, rfl, hq2 m2 ρ3 h3 F3 H3 u s3 R3⟩, hx2⟩

def qLen : Q1 := fun x K => match x with
  | .tup l => K (.d (.int l.length))
  | .lst l => K (.d (.int l.length))
  | .scr l => K (.d (.int l.length))
  | .str z => z.length ≤ sizeLine ∧ K (.d (.int z.length))
  | _ => False
theorem c_len (hK : S.g.K = X.K) : CallR X (.builtin "len") (fun vs H Q => ∃ v, vs = [v] ∧ L1 S qLen v H Q) := by
  rintro pins s σ H vs us Q I r ⟨v, rfl, F, l, x, Q0, R, dx, q, post⟩
  cases x with
  | tup a =>
    obtain ⟨p, xs, rfl, ha, dl⟩ := dx.tup
    exact call_len_seq pins s σ H _ us Q I r ⟨p, xs, rfl, .inr (same_sq R.fh ha), post _ q F H _ (Same.refl _) ⟨by rw [dl.length]; exact .int _, R⟩⟩
  | lst a =>
    obtain ⟨p, xs, rfl, ha, dl⟩ := dx.lst R
    exact call_len_seq pins s σ H _ us Q I r ⟨p, xs, rfl, .inl (SqL.of ha), post _ q F H _ (Same.refl _) ⟨by rw [dl.length]; exact .int _, R⟩⟩
  | scr ns =>
    obtain ⟨p, rfl, ha⟩ := dx.scr
    rw [hK] at ha
    exact call_len_seq pins s σ H _ us Q I r ⟨p, _, rfl, .inl (R.fh.seq ha), post _ q F H _ (Same.refl _) ⟨by rw [List.length_map]; exact .int _, R⟩⟩
  | str z =>
    cases dx.str
    exact call_len_str pins s σ H _ us Q I r ⟨z, rfl, q.1, post _ q.2 F H _ (Same.refl _) ⟨.int _, R⟩⟩
  | _ => exact q.elim

abbrev qAbs : Q1 := ints1 fun i => .d (.int (if i < 0 then -i else i))
theorem c_abs : CallR X (.builtin "abs") (fun vs H Q => ∃ v, vs = [v] ∧ L1 S qAbs v H Q) := by
  rintro pins s σ H vs us Q I r ⟨v, rfl, F, l, x, Q0, R, dx, q, post⟩
  cases x with
  | int i => cases dx.int; exact call_abs pins s σ H _ us Q I r ⟨i, rfl, post _ q F H _ (Same.refl _) ⟨.int _, R⟩⟩
  | _ => exact q.elim
abbrev qMax2 : Q2 := ints0 fun i j => .d (.int (max i j))
abbrev qMin2 : Q2 := ints0 fun i j => .d (.int (min i j))
theorem c_max2 (hc : X.calm = true) : CallR X (.builtin "max") (fun vs H Q => ∃ v u, vs = [v, u] ∧ L2q S qMax2 v u H Q) := by
  rintro pins s σ H vs us Q I r ⟨v, u, rfl, F, l, x, y, Q0, R, dx, dy, q, post⟩
  cases x with
  | int i =>
    cases y with
    | int j =>
      cases dx.int; cases dy.int
      refine call_max2 hc pins s σ H _ us Q I r ⟨i, j, rfl, ?_⟩
      have e : (if j > i then j else i) = max i j := by split <;> omega
      rw [e]
      exact post _ q F H _ (Same.refl _) ⟨.int _, R⟩
    | _ => exact q.elim
  | _ => exact q.elim
theorem c_min2 (hc : X.calm = true) : CallR X (.builtin "min") (fun vs H Q => ∃ v u, vs = [v, u] ∧ L2q S qMin2 v u H Q) := by
  rintro pins s σ H vs us Q I r ⟨v, u, rfl, F, l, x, y, Q0, R, dx, dy, q, post⟩
  cases x with
  | int i =>
    cases y with
    | int j =>
      cases dx.int; cases dy.int
      refine call_min2 hc pins s σ H _ us Q I r ⟨i, j, rfl, ?_⟩
      have e : (if j < i then j else i) = min i j := by split <;> omega
      rw [e]
      exact post _ q F H _ (Same.refl _) ⟨.int _, R⟩
    | _ => exact q.elim
  | _ => exact q.elim
abbrev qInt : Q1 := ints1 fun i => .d (.int i)
theorem c_int : CallR X (.type "int") (fun vs H Q => ∃ v, vs = [v] ∧ L1 S qInt v H Q) := by
  rintro pins s σ H vs us Q I r ⟨v, rfl, F, l, x, Q0, R, dx, q, post⟩
  cases x with
  | int i => cases dx.int; exact call_int1 pins s σ H _ us Q I r (.inl ⟨i, rfl, post _ q F H _ (Same.refl _) ⟨.int _, R⟩⟩)
  | _ => exact q.elim

def maxI : List Int → Int
  | [] => 0
  | n :: ns => ns.foldl max n
def minI : List Int → Int
  | [] => 0
  | n :: ns => ns.foldl min n
def intsOf (x : D) (K : List Int → Prop) : Prop := match x with
  | .tup l => (match asInts l with | some ns => K ns | none => False)
  | .lst l => (match asInts l with | some ns => K ns | none => False)
  | _ => False
def qMax : Q1 := fun x K => intsOf x fun ns => ns ≠ [] ∧ K (.d (.int (maxI ns)))
def qMin : Q1 := fun x K => intsOf x fun ns => ns ≠ [] ∧ K (.d (.int (minI ns)))
def qSum : Q1 := fun x K => intsOf x fun ns => K (.d (.int ns.sum))
theorem intsOf_ok {F H : Hp} {l : List Slot} {v : V} {x : D} {K : List Int → Prop} (R : Rep S F H l) (dx : Rdv S F l v x) (h : intsOf x K) : ∃ a ns, v = .ref a ∧ K ns ∧ (H a = some (.tup (ns.map V.int)) ∨ H a = some (.lst (ns.map V.int))) := by
  cases x with
  | tup a =>
    obtain ⟨p, xs, rfl, ha, dl⟩ := dx.tup
    cases e : asInts a with
    | none => simp only [intsOf, e] at h
    | some ns =>
      simp only [intsOf, e] at h
      rw [asInts_eq e] at dl
      rw [dl.ints] at ha
      exact ⟨p, ns, rfl, h, .inl (R.fh _ _ ha)⟩
  | lst a =>
    obtain ⟨p, xs, rfl, ha, dl⟩ := dx.lst R
    cases e : asInts a with
    | none => simp only [intsOf, e] at h
    | some ns =>
      simp only [intsOf, e] at h
      rw [asInts_eq e] at dl
      rw [dl.ints] at ha
      exact ⟨p, ns, rfl, h, .inr ha⟩
  | _ => exact h.elim
theorem reads_ints {h : Heap} : ∀ {vs : List Value} {ns : List Int}, Vals (ns.map V.int) vs → ∃ as, ReadsAll h vs (ns.map PyData.int) as
  | _, [], .nil => ⟨_, .nil⟩
  | _, n :: ns, .cons r t => by
    obtain ⟨k, rfl⟩ := r
    obtain ⟨as, h'⟩ := reads_ints (h := h) (ns := ns) t
    exact ⟨_, .cons (.int n k) h'⟩
theorem foldl_max_mem : ∀ (ns : List Int) (n : Int), ns.foldl max n = n ∨ ns.foldl max n ∈ ns
  | [], n => .inl rfl
  | m :: ns, n => by
    rw [List.foldl_cons]
    rcases foldl_max_mem ns (max n m) with e | e
    · rw [e]
      rcases Int.le_total n m with h | h
      · right; rw [Int.max_eq_right h]; exact List.mem_cons_self
      · left; exact Int.max_eq_left h
    · right; exact List.mem_cons_of_mem _ e
theorem foldl_max_ge : ∀ (ns : List Int) (n : Int), n ≤ ns.foldl max n ∧ ∀ m ∈ ns, m ≤ ns.foldl max n
  | [], n => ⟨Int.le_refl n, fun _ h => absurd h (by simp)⟩
  | m :: ns, n => by
    rw [List.foldl_cons]
    obtain ⟨h1, h2⟩ := foldl_max_ge ns (max n m)
    refine ⟨by omega, fun k hk => ?_⟩
    rcases List.mem_cons.mp hk with e | hk
    · subst e; omega
    · exact h2 k hk
theorem foldl_min_mem : ∀ (ns : List Int) (n : Int), ns.foldl min n = n ∨ ns.foldl min n ∈ ns
  | [], n => .inl rfl
  | m :: ns, n => by
    rw [List.foldl_cons]
    rcases foldl_min_mem ns (min n m) with e | e
    · rw [e]
      rcases Int.le_total n m with h | h
      · left; exact Int.min_eq_left h
      · right; rw [Int.min_eq_right h]; exact List.mem_cons_self
    · right; exact List.mem_cons_of_mem _ e
theorem foldl_min_le : ∀ (ns : List Int) (n : Int), ns.foldl min n ≤ n ∧ ∀ m ∈ ns, ns.foldl min n ≤ m
  | [], n => ⟨Int.le_refl n, fun _ h => absurd h (by simp)⟩
  | m :: ns, n => by
    rw [List.foldl_cons]
    obtain ⟨h1, h2⟩ := foldl_min_le ns (min n m)
    refine ⟨by omega, fun k hk => ?_⟩
    rcases List.mem_cons.mp hk with e | hk
    · subst e; omega
    · exact h2 k hk
theorem maxI_mem {ns : List Int} (h : ns ≠ []) : maxI ns ∈ ns := by
  cases ns with
  | nil => exact absurd rfl h
  | cons n ns =>
    rcases foldl_max_mem ns n with e | e
    · show ns.foldl max n ∈ _; rw [e]; exact List.mem_cons_self
    · exact List.mem_cons_of_mem _ e
theorem maxI_ge {ns : List Int} {m : Int} (h : m ∈ ns) : m ≤ maxI ns := by
  cases ns with
  | nil => exact absurd h (by simp)
  | cons n ns =>
    rcases List.mem_cons.mp h with e | h
    · subst e; exact (foldl_max_ge ns m).1
    · exact (foldl_max_ge ns n).2 m h
theorem minI_mem {ns : List Int} (h : ns ≠ []) : minI ns ∈ ns := by
  cases ns with
  | nil => exact absurd rfl h
  | cons n ns =>
    rcases foldl_min_mem ns n with e | e
    · show ns.foldl min n ∈ _; rw [e]; exact List.mem_cons_self
    · exact List.mem_cons_of_mem _ e
theorem minI_le {ns : List Int} {m : Int} (h : m ∈ ns) : minI ns ≤ m := by
  cases ns with
  | nil => exact absurd h (by simp)
  | cons n ns =>
    rcases List.mem_cons.mp h with e | h
    · subst e; exact (foldl_min_le ns m).1
    · exact (foldl_min_le ns n).2 m h
theorem alike_ints (ns : List Int) : PySem.W.AlikeAll (ns.map PyData.int) := by
  refine ⟨fun x hx y hy => ?_, fun x hx => ?_⟩
  · obtain ⟨i, _, rfl⟩ := List.mem_map.mp hx
    obtain ⟨j, _, rfl⟩ := List.mem_map.mp hy
    rfl
  · obtain ⟨i, _, rfl⟩ := List.mem_map.mp hx
    exact fun z => nomatch z
theorem depth_ints : ∀ ns : List Int, PyData.depthAll (ns.map PyData.int) = 0
  | [] => rfl
  | n :: ns => by
    show max 0 (PyData.depthAll (ns.map PyData.int)) = 0
    rw [depth_ints ns]; rfl
theorem c_max (hc : X.calm = true) (hu : X.A.units + 64 < cLine) : CallR X (.builtin "max") (fun vs H Q => ∃ v, vs = [v] ∧ L1 S qMax v H Q) := by
  rintro pins s σ H vs us Q I r ⟨v, rfl, F, l, x, Q0, R, dx, q, post⟩
  obtain ⟨p, ns, rfl, ⟨hne, k⟩, h | h⟩ := intsOf_ok R dx q
  · rw [Vals.ref1 r]
    obtain ⟨hz, its, rv, ht⟩ := (show ObjOk X.prog X.w H s.heap p (.tup (ns.map V.int)) from I.hok p _ h)
    obtain ⟨as, hr⟩ := reads_ints (h := s.heap) rv
    cases ns with
    | nil => exact absurd rfl hne
    | cons n ns =>
      refine PySem.W.max_tuple_data (x := .int n) (xs := ns.map .int) (I.ok.hd hc) ht hr (alike_ints (n :: ns)) (by have e := depth_ints (n :: ns); rw [List.map_cons] at e; rw [e]; omega) fun i v h' tk bs hi rd hk => ?_
      rw [PySem.W.maxD_ints] at rd
      cases rd
      exact ⟨.int _, H, I.kept hk, ⟨_, rfl⟩, post _ k F H _ (Same.refl _) ⟨.int _, R⟩⟩
  · refine cr_max hc pins s σ H _ us Q I r ⟨p, ns, rfl, SqL.of h, by cases ns with | nil => exact absurd rfl hne | cons a b => simp, fun m hm hm2 => ?_⟩
    have e : m = maxI ns := by
      have h1 := hm2 _ (maxI_mem hne)
      have h2 := maxI_ge hm
      omega
    subst e
    exact post _ k F H _ (Same.refl _) ⟨.int _, R⟩
theorem c_sum (hc : X.calm = true) : CallR X (.builtin "sum") (fun vs H Q => ∃ v, vs = [v] ∧ L1 S qSum v H Q) := by
  rintro pins s σ H vs us Q I r ⟨v, rfl, F, l, x, Q0, R, dx, q, post⟩
  obtain ⟨p, ns, rfl, k, h | h⟩ := intsOf_ok R dx q
  · rw [Vals.ref1 r]
    obtain ⟨hz, its, rv, ht⟩ := (show ObjOk X.prog X.w H s.heap p (.tup (ns.map V.int)) from I.hok p _ h)
    have hi := rv.ints
    obtain ⟨xs, hx⟩ := hi.allInts.items
    have hn : numsOf its.toArray.toList = ns := by rw [show its.toArray.toList = its from rfl, hi.numsOf]
    rw [hx] at ht hn
    rw [nums_intItems] at hn
    have ht' : s.heap.IsTuple p (intItems xs) := ht
    refine PySem.W.ktm_sumG (xs := xs) (I.ok.hd hc) ht' fun h' tk t' hk => ?_
    rw [preSum_eq, List.take_of_length_le (by simp), hn]
    exact ⟨.int _, H, I.kept (h' := h') (t' := tk) hk, ⟨_, rfl⟩, post _ k F H _ (Same.refl _) ⟨.int _, R⟩⟩
  · exact cr_sum hc pins s σ H _ us Q I r ⟨p, ns, rfl, SqL.of h, post _ k F H _ (Same.refl _) ⟨.int _, R⟩⟩

def asBl : List D → Option (List Bool)
  | [] => some []
  | .bl i :: l => (asBl l).map (i :: ·)
  | _ :: _ => none
theorem asBl_eq : ∀ {l : List D} {ns : List Bool}, asBl l = some ns → l = ns.map D.bl
  | [], _, h => by cases h; rfl
  | d :: l, ns, h => by
    cases d with
    | bl i =>
      cases e : asBl l with
      | none => simp only [asBl, e, Option.map_none] at h; cases h
      | some m =>
        simp only [asBl, e, Option.map_some, Option.some.injEq] at h
        subst h
        rw [asBl_eq e] <;> rfl
    | _ => cases h
theorem asBl_map : ∀ (ns : List Bool), asBl (ns.map D.bl) = some ns
  | [] => rfl
  | n :: ns => by
    show (asBl (ns.map D.bl)).map (n :: ·) = some (n :: ns)
    rw [asBl_map ns]; rfl
def qAll : Q1 := fun x K => match x with
  | .lst l => (match asBl l with | some bs => K (.d (.bl (bs.all (fun b => b)))) | none => False)
  | _ => False
def qAny : Q1 := fun x K => match x with
  | .lst l => (match asBl l with | some bs => K (.d (.bl (bs.any (fun b => b)))) | none => False)
  | _ => False
theorem c_all (hc : X.calm = true) : CallR X (.builtin "all") (fun vs H Q => ∃ v, vs = [v] ∧ L1 S qAll v H Q) := by
  rintro pins s σ H vs us Q I r ⟨v, rfl, F, l, x, Q0, R, dx, q, post⟩
  cases x with
  | lst a =>
    obtain ⟨p, xs, rfl, ha, dl⟩ := dx.lst R
    cases e : asBl a with
    | none => simp only [qAll, e] at q
    | some bs =>
      simp only [qAll, e] at q
      rw [asBl_eq e] at dl
      rw [dl.bls] at ha
      exact cr_all hc pins s σ H _ us Q I r ⟨p, bs, rfl, SqL.of ha, post _ q F H _ (Same.refl _) ⟨.bl _, R⟩⟩
  | _ => exact q.elim
theorem c_any (hc : X.calm = true) : CallR X (.builtin "any") (fun vs H Q => ∃ v, vs = [v] ∧ L1 S qAny v H Q) := by
  rintro pins s σ H vs us Q I r ⟨v, rfl, F, l, x, Q0, R, dx, q, post⟩
  cases x with
  | lst a =>
    obtain ⟨p, xs, rfl, ha, dl⟩ := dx.lst R
    cases e : asBl a with
    | none => simp only [qAny, e] at q
    | some bs =>
      simp only [qAny, e] at q
      rw [asBl_eq e] at dl
      rw [dl.bls] at ha
      exact cr_any hc pins s σ H _ us Q I r ⟨p, bs, rfl, SqL.of ha, post _ q F H _ (Same.refl _) ⟨.bl _, R⟩⟩
  | _ => exact q.elim

def qTuple : Q1 := fun x K => match x with
  | .tup l => K (.d (.tup l))
  | .lst l => K (.d (.tup l))
  | _ => False
def qList : Q1 := fun x K => match x with
  | .tup l => K (.o (.lst l))
  | .lst l => K (.o (.lst l))
  | _ => False
theorem c_tuple : CallR X (.type "tuple") (fun vs H Q => ∃ v, vs = [v] ∧ L1 S qTuple v H Q) := by
  rintro pins s σ H vs us Q I r ⟨v, rfl, F, l, x, Q0, R, dx, q, post⟩
  cases x with
  | tup a =>
    obtain ⟨p, xs, rfl, ha, dl⟩ := dx.tup
    exact call_tuple_of pins s σ H _ us Q I r ⟨p, xs, rfl, .inr ⟨same_sq R.fh ha, post _ q F H _ (Same.refl _) ⟨.tup ha dl, R⟩⟩⟩
  | lst a =>
    obtain ⟨p, xs, rfl, ha, dl⟩ := dx.lst R
    refine call_tuple_of pins s σ H _ us Q I r ⟨p, xs, rfl, .inl ⟨SqL.of ha, fun t nt => ?_⟩⟩
    have n1 := (R.free nt).1
    exact post _ q _ _ _ (same_new n1) ⟨.tup upd_same (dl.mono (same_new n1)), R.newF nt⟩
  | _ => exact q.elim
theorem c_list : CallR X (.type "list") (fun vs H Q => ∃ v, vs = [v] ∧ L1 S qList v H Q) := by
  rintro pins s σ H vs us Q I r ⟨v, rfl, F, l, x, Q0, R, dx, q, post⟩
  cases x with
  | tup a =>
    obtain ⟨p, xs, rfl, ha, dl⟩ := dx.tup
    exact call_list_of pins s σ H _ us Q I r ⟨p, xs, rfl, .inr (same_sq R.fh ha), fun t nt => post _ q F _ _ (Same.refl _) (R.newO nt ⟨xs, upd_same, dl⟩)⟩
  | lst a =>
    obtain ⟨p, xs, rfl, ha, dl⟩ := dx.lst R
    exact call_list_of pins s σ H _ us Q I r ⟨p, xs, rfl, .inl (SqL.of ha), fun t nt => post _ q F _ _ (Same.refl _) (R.newO nt ⟨xs, upd_same, dl⟩)⟩
  | _ => exact q.elim

def tyD : D → Option String
  | .non => some "NoneType"
  | .bl _ => some "bool"
  | .int _ => some "int"
  | .str _ => some "str"
  | .tup _ => some "tuple"
  | .lst _ => some "list"
  | .dK _ => some "dict"
  | .dT _ => some "dict"
  | _ => none
def qIsi : Q2 := fun x y K => match y with
  | .op (.ty t) => (match tyD x with | some u => (match kitB u t with | some b => K (.d (.bl b)) | none => False) | none => False)
  | _ => False
theorem rdv_ty {F H : Hp} {l : List Slot} {v : V} {x : D} {K : PySem.W.Frag} {u : String} (R : Rep S F H l) (dx : Rdv S F l v x) (h : tyD x = some u) : TyX K H v (.type u) := by
  cases x with
  | non => cases dx.non; cases h; exact .base .non
  | bl b => cases dx.bl; cases h; exact .base (.bl b)
  | int i => cases dx.int; cases h; exact .base (.int i)
  | str z => cases dx.str; cases h; exact .base (.str z)
  | tup a => obtain ⟨p, xs, rfl, ha, dl⟩ := dx.tup; cases h; exact .base (.tup (R.fh _ _ ha))
  | lst a => obtain ⟨p, xs, rfl, ha, dl⟩ := dx.lst R; cases h; exact .base (.lst ha)
  | dK a => obtain ⟨p, xs, rfl, ha, _⟩ := dx.dK R; cases h; exact .base (.dK ha)
  | dT a => obtain ⟨p, xs, rfl, ha, _⟩ := dx.dT R; cases h; exact .base (.dT ha)
  | _ => cases h
theorem rdv_op {F : Hp} {l : List Slot} {v w : V} (dx : Rdv S F l v (.op w)) : v = w := by
  rcases dx with h | ⟨o, e, _⟩
  · cases h; rfl
  · cases o <;> cases e
theorem c_isi : CallR X (.builtin "isinstance") (fun vs H Q => ∃ v u, vs = [v, u] ∧ L2q S qIsi v u H Q) := by
  rintro pins s σ H vs us Q I r ⟨v, u, rfl, F, l, x, y, Q0, R, dx, dy, q, post⟩
  cases y with
  | op w =>
    cases w with
    | ty t =>
      cases rdv_op dy
      cases e : tyD x with
      | none => simp only [qIsi, e] at q
      | some u =>
        cases e2 : kitB u t with
        | none => simp only [qIsi, e, e2] at q
        | some b =>
          simp only [qIsi, e, e2] at q
          exact call_isi pins s σ H _ us Q I r ⟨v, .ty t, .type u, .type t, b, rfl, .ty t, rdv_ty R dx e, kit_ty e2, post _ q F H _ (Same.refl _) ⟨.bl _, R⟩⟩
    | _ => exact q.elim
  | _ => exact q.elim

def dChain (q q' : Q2) (ta tb tc : TD) : TD := fun ρ Q X => ta ρ (fun m ρ1 => tb ρ1 (fun n ρ2 => peek m ρ2 fun x => peek n ρ2 fun y => q x y fun z => isB z fun k => match k with
  | true => tc ρ2 (fun r ρ3 => peek n ρ3 fun y2 => peek r ρ3 fun w => q' y2 w fun z2 => Q z2 ρ3) X
  | false => Q (.d (.bl false)) ρ2) X) X
theorem chain_lift {q q' : Q2} {σ : L2.St} {H : Hp} {Q : VK} (h : LE S E (dChain q q' ta tb tc) σ H Q) : tChain (L2q S q) (L2q S q') (LE S E ta) (LE S E tb) (LE S E tc) σ H Q := by
  obtain ⟨F, ρ, T, Q0, X0, R, ht, hq, hx⟩ := h
  refine ⟨F, ρ, T, _, X0, R, ht, fun m ρ1 h1 F1 H1 v s1 R1 => ?_, hx⟩
  refine ⟨F1, ρ1, pushT v m T, _, X0, R1.stack, h1, fun n ρ2 h2 F2 H2 u s2 R2 => ?_, hx.mono s1⟩
  obtain ⟨x, r1, h3⟩ := peek_ok (R1.come.mono s2) R2.stack (fun o e => pushT_sub.subset (pushT_mem o e)) h2
  obtain ⟨y, r2, k⟩ := peek_ok R2.come R2.stack pushT_mem h3
  refine ⟨F2, _, x, y, _, R2.stack.2, r1, r2, k, fun z hz F3 H3 w s3 R3 => ?_⟩
  cases z with
  | d dz =>
    cases dz with
    | bl b =>
      have dw := R3.1
      cases dw
      refine ⟨b, rfl, ?_⟩
      have Rs : RepS S F3 H3 (pushT u n (pushT v m T)) σ ρ2 := ⟨R2.toS.1, R3.2⟩
      cases b with
      | false =>
        refine iteF ?_
        exact hq _ _ hz F3 H3 _ ((s1.trans s2).trans s3) ⟨.bl false, Rs.1, Rs.2.sub ((pushT_sub.trans pushT_sub).append (List.Sublist.refl _))⟩
      | true =>
        refine iteT ?_
        refine ⟨F3, ρ2, pushT u n (pushT v m T), _, X0, Rs, hz, fun r ρ3 h4 F4 H4 w4 s4 R4 => ?_, hx.mono ((s1.trans s2).trans s3)⟩
        obtain ⟨y2, r4, h5⟩ := peek_ok (R2.come.mono (s3.trans s4)) R4.stack (fun o e => pushT_sub.subset (pushT_mem o e)) h4
        obtain ⟨w2, r5, k5⟩ := peek_ok R4.come R4.stack pushT_mem h5
        exact ⟨F4, _, y2, w2, _, R4.stack.2, r4, r5, k5, fun z2 hz2 F5 H5 w5 s5 R5 => hq z2 ρ3 hz2 F5 H5 w5 ((((s1.trans s2).trans s3).trans s4).trans s5) (R5.drop R4.toS.1 ((pushT_sub.trans pushT_sub).trans pushT_sub))⟩
    | _ => exact (show False from hz).elim
  | o oz => exact (show False from hz).elim
  | r i => exact R3.elim
theorem ex_chain {op op' : CmpOp} {q q' : Q2} (ho : OpR X (compareOp op) (L2q S q)) (ho' : OpR X (compareOp op') (L2q S q')) (ha : EX X S E a ta) (hb : EX X S E b tb) (hc : EX X S E c tc) (hm : lastMarks [op, op'] [b, c] = false := by with_unfolding_all rfl) :
    EX X S E (.Compare a [op, op'] [b, c] pos) (dChain q q' ta tb tc) := PE_imp (pe_chain ho ho' ha hb hc hm) fun _ _ _ h => chain_lift h
theorem tx_chain {op op' : CmpOp} {q q' : Q2} (ho : OpR X (compareOp op) (L2q S q)) (ho' : OpR X (compareOp op') (L2q S q')) (ha : EX X S E a ta) (hb : EX X S E b tb) (hc : EX X S E c tc) (hm : lastMarks [op, op'] [b, c] = false := by with_unfolding_all rfl) :
    TX X S E (.Compare a [op, op'] [b, c] pos) (bTest (dChain q q' ta tb tc)) := PT_imp (pt_chain ho ho' ha hb hc hm) fun σ H Q h => by
  obtain ⟨F, ρ, T, Q0, X0, R, ht, hq, hx⟩ := liftB h
  exact chain_lift ⟨F, ρ, T, Q0, X0, R, ht, hq, hx⟩
end
end PL
set_option Elab.async false
set_option linter.all false
set_option maxRecDepth 100000
namespace PL
open PySem PySem.Spec PyProof.Rows L2
open AutoSeq1 (wpAny_loadPart')

set_option maxHeartbeats 1000000 in
theorem meets_enumerate_newT (l : Addr) (items : Array Value) (n : Nat) (dct : Option Addr) (sl : Array (Option Value)) :
    Meets (Builtin.«enumerate.__new__» ⟨[.type "enumerate", .ref l], []⟩) (fun _ R s => s.heap.get? l = some { cls := .type "tuple", dict := dct, data := .seq items n, slots := sl } ∧
      R (.ok (.ret (.ref (s.heap.push { cls := .type "tuple_iterator", data := .fields #[.ref l, .int 0 0] }).objs.size)))
        { s with heap := (s.heap.push { cls := .type "tuple_iterator", data := .fields #[.ref l, .int 0 0] }).push { cls := .type "enumerate", data := .fields #[.none, .bool false, .ref s.heap.objs.size, rawInt 0, .none, .none] } }) :=
  .of_wp fun prog w A R s h => by
    obtain ⟨hp, g, d, tk, os⟩ := s; obtain ⟨hl, h⟩ := h
    have hsub := sub_enumerate
    have hL : Heap.IsTuple (Shared.heap ⟨hp, g, d, tk, os⟩) l items := ⟨_, hl, rfl, n, rfl⟩
    wp_walk using wpAny_loadPart' hl
    refine wpAny_stack_any fun st => wpAny_pure ?_
    split
    · rename_i c _ _ _ _ _
      cases (c == Value.type "enumerate")
      · wp_walk using wpAny_loadPart' hl, wpAny_pyIter_tuple hL
        exact ⟨_, rfl, h⟩
      · wp_walk using wpAny_loadPart' hl, wpAny_pyIter_tuple hL
        exact ⟨_, rfl, h⟩
    · wp_walk using wpAny_loadPart' hl, wpAny_pyIter_tuple hL
      exact ⟨_, rfl, h⟩
section
variable {prog : Program} {w : World} {A : Around} {E : Value → Shared → Prop} {s : Shared}
theorem call_enumerate_tuple {l : Addr} {items : Array Value} {Q : Value → Shared → Prop} (hL : s.heap.IsTuple l items)
    (h : ∀ h', IsEnum h' (s.heap.objs.size + 1) s.heap.objs.size 0 .none → h'.IsTupleIter s.heap.objs.size l 0 → h'.objs.size = s.heap.objs.size + 2 →
      (∀ b o, s.heap.get? b = some o → h'.get? b = some o) → Q (.ref (s.heap.objs.size + 1)) { s with heap := h' }) :
    wpAny (model prog w) A (call (.type "enumerate") [.ref l]) Q E s := by
  obtain ⟨⟨c, dct, dt, sl⟩, hl, hc, n, hd⟩ := hL
  replace hc : c = .type "tuple" := hc
  replace hd : dt = .seq items n := hd
  subst hc hd
  refine callType_new F.called_enumerate (by decide) (F.typeCall_enumerate_1 _) (F.newCall_enumerate_1 _) (fun obj => F.args_object_init_2 obj _) F.entry_enumerate_new
    (meets_enumerate_newT l items n dct sl) ⟨hl, ?_⟩
  have hz : (s.heap.push { cls := .type "tuple_iterator", data := .fields #[.ref l, .int 0 0] }).objs.size = s.heap.objs.size + 1 := Heap.size_push ..
  show _ ∧ _
  rw [hz]
  have he : IsEnum ((s.heap.push { cls := .type "tuple_iterator", data := .fields #[.ref l, .int 0 0] }).push
      { cls := .type "enumerate", data := .fields #[.none, .bool false, .ref s.heap.objs.size, rawInt 0, .none, .none] }) (s.heap.objs.size + 1) s.heap.objs.size 0 .none := by
    have := Heap.get?_push_size (s.heap.push { cls := .type "tuple_iterator", data := .fields #[.ref l, .int 0 0] })
      (o := { cls := .type "enumerate", data := .fields #[.none, .bool false, .ref s.heap.objs.size, rawInt 0, .none, .none] }) rfl
    rw [hz] at this; exact this
  refine ⟨⟨_, he, rfl⟩, h _ he ⟨_, Heap.get?_push_of_some _ (Heap.get?_push_size _ rfl), rfl, rfl⟩ (by rw [Heap.size_push, hz]) fun b o x => Heap.get?_push_of_some _ (Heap.get?_push_of_some _ x)⟩
end
def IteT (K : PySem.W.Frag) (a : Addr) : It :=
  ⟨fun i H => ∃ (xs : List V) (x : V), SqT K H a xs ∧ xs[i]? = some x, fun i H v H' => ∃ T x, v = .ref T ∧ H T = none ∧ H' = upd H T (.tup [.int (i : Nat), x]) ∧ ∀ xs, SqT K H a xs → xs[i]? = some x, fun i H => ∃ xs : List V, SqT K H a xs ∧ xs.length ≤ i⟩
theorem walk_enumT {K : PySem.W.Frag} {a : Addr} {xs : List V} : Walk (IteT K a) xs.length (fun H => SqT K H a xs) (YPair (fun i => some (.int (i : Nat))) (fun i => xs[i]?)) := by
  refine ⟨fun i _ hi q => ⟨xs, xs[i], q, by simp [hi]⟩, fun _ q => ⟨xs, q, Nat.le_refl _⟩, fun i H v H' _ q y => ?_⟩
  obtain ⟨T, x, h1, h2, h3, h4⟩ := y
  exact ⟨T, .int (i : Nat), x, h1, h2, h3, rfl, h4 xs q⟩
theorem turn_enumT {P : Program} {w : World} {K : PySem.W.Frag} {elts : List Expr} {kk : Nat} {tpos : Pos} (a e it : Addr) (hai : a ≠ it) (hae : a ≠ e) :
    Turn P w K (.Tuple elts kk tpos) (IteT K a) [e, it] e (fun i h => (∃ old, IsEnum h e it ((i : Nat) : Int) old) ∧ h.IsTupleIter it a i ∧ e ≠ it) where
  mem := by simp
  obj := fun i h st b hb => by
    obtain ⟨⟨old, he⟩, ⟨o, ho, hc, hd⟩, _⟩ := st
    have e' : b = e ∨ b = it := by simpa using hb
    rcases e' with z | z
    · rw [z]; exact ⟨_, he, fun v q => nomatch q⟩
    · rw [z]; exact ⟨o, ho, fun v q => by rw [hd] at q; cases q⟩
  keep := fun i h h' st k => let ⟨⟨old, he⟩, hi, hne⟩ := st; ⟨⟨old, k e (by simp) _ he⟩, hi.at fun o q => k it (by simp) o q, hne⟩
  item := by
    intro X hP hw hK hc i pins s σ H E I hf st hg
    subst hP hw hK
    obtain ⟨⟨old, he⟩, hit, hne⟩ := st
    obtain ⟨xs, x, hq, hx⟩ := hg
    obtain ⟨its, rv, p, hz⟩ := I.tuple hq
    obtain ⟨u, hu, ru⟩ := rv.get hx
    have hel : e < s.heap.objs.size := Heap.lt_size he
    have hil : it < s.heap.objs.size := by obtain ⟨_, q, _⟩ := hit; exact Heap.lt_size q
    have hi : i < its.toArray.size := by
      obtain ⟨h1, _⟩ := List.getElem?_eq_some_iff.mp hu
      simpa using h1
    have D := Draws.tuple (prog := X.prog) (w := X.w) (A := X.A.in1) (I.ok.hd hc) it a hai its.toArray
    refine wpAny_pyNext_enum_itemD D he ⟨hit, p⟩ hi hne (by simp only [List.mem_cons, List.not_mem_nil, or_false, not_or]; exact ⟨hne, hae.symm⟩) fun x' h' tk hP ho hit' hT hsz hk => ?_
    have eu : x' = u := by
      have h1 : its.toArray[i]? = some u := by simpa using hu
      rw [h1] at hP
      exact (Option.some.inj hP).symm
    subst eu
    refine ⟨_, rfl, wpAny_letOwnedTupleGo_enum (s := { s with heap := h', toks := tk + 1 }) ho fun h'' he' sb => ?_⟩
    have hT2 : h''.get? s.heap.objs.size = some { cls := .type "tuple", data := .seq #[.int i tk, x'] } := (sb.2 _ (Nat.ne_of_gt hel)).trans hT
    have new : ObjOk X.prog X.w (upd H s.heap.objs.size (.tup [.int (i : Nat), x])) h'' s.heap.objs.size (.tup [.int (i : Nat), x]) :=
      ⟨by show 2 ≤ sizeLine; decide, [.int i tk, x'], .cons ⟨_, rfl⟩ (.cons ru .nil), ⟨_, hT2, rfl, _, rfl⟩⟩
    have I1 : Inv X pins σ (upd H s.heap.objs.size (.tup [.int (i : Nat), x])) { s with heap := h'', toks := tk + 1 } :=
      I.turnedNew (ch := [e, it]) (fun b ob hb q => (sb.2 b (fun z => hb (by simp [z]))).trans (hk b ob (fun z => hb (by simp [z])) (fun z => hb (by simp [z])) q)) hf (Nat.le_refl _) new
    refine ⟨.ref s.heap.objs.size, _, I1, rfl, ⟨_, x, rfl, I.hok.fresh (Nat.le_refl _), rfl, fun ys hy => by rw [I.tuple_inj hy hq]; exact hx⟩, ⟨⟨x', ?_⟩, hit'.1.at fun o q => (sb.2 it (Ne.symm hne)).trans q, hne⟩, fun b hb => ?_⟩
    · have e1 : ((i + 1 : Nat) : Int) = (i : Int) + 1 := by omega
      rw [e1]; exact he'
    · have hb' : b < s.heap.objs.size := by
        have e' : b = e ∨ b = it := by simpa using hb
        rcases e' with z | z
        · rw [z]; exact hel
        · rw [z]; exact hil
      rw [upd_ne (Nat.ne_of_lt hb')]
      exact (hf b hb).1
  done := by
    intro X hP hw hK hc i pins s σ H E I hf st hg
    subst hP hw hK
    obtain ⟨⟨old, he⟩, hit, hne⟩ := st
    obtain ⟨xs, hq, hx⟩ := hg
    obtain ⟨its, rv, p, hz⟩ := I.tuple hq
    obtain ⟨f0, f1, f2, f3, f4, f5⟩ := hf it (by simp)
    have hl := rv.length
    unfold pyNext
    have hT : s.TypeIs (.ref e) "enumerate" := ⟨_, he, rfl⟩
    refine wpAny_bind (wpAny_attempt (wpAny_callSpecial?_slot (name := Str.ofString "__next__") hT PySem.F.slot_enumerate_next
      (wpAny_call_entry PySem.F.slot_enumerate_next hT PySem.F.entry_enumerate_next ?_ (PySem.F.args_enumerate_next_1 _))))
    show wpAny _ _ (field (.ref e) 2 >>= _) _ _ _
    refine wpAny_bind (wpAny_field he rfl (x := .ref it) rfl ?_)
    refine wpAny_bind (wpAny_nextOf_tuple_end (I.ok.hd hc) hit p (by simp; omega) fun h' x he' hx' => ?_)
    obtain ⟨o, ho, hcl⟩ := hx'
    refine wpAny_bind (wpAny_isInstance (T := "StopIteration") (b := true) ⟨o, ho, hcl⟩ isSubtype_stop ?_)
    exact wpAny_pure ⟨rfl, I.turned (t' := s.toks) (fun b o hb q => he' b o hb q) f0 f1 f3 f4 f5⟩
  self := fun A i s Q E st h => let ⟨⟨_, he⟩, _⟩ := st; wpAny_pyIter_enum he h
def iEnumT (K : PySem.W.Frag) (ta : TA) : TI := fun σ H R => ta σ H fun vs H1 => ∃ a xs, vs = [.ref a] ∧ SqT K H1 a xs ∧ R (IteT K a) H1
theorem pi_enumT {X : Cx} {e : Expr} {ta : TA} {p pos tpos : Pos} {elts : List Expr} {kk : Nat} (hg : Gl X "enumerate") (hm : X.mg "enumerate" = none) (ha : PA X [e] ta) (hs : starEach [e] X.env = [(false, eval e X.env)] := by rfl) :
    PI X (.Tuple elts kk tpos) (.Call (.Name "enumerate" p) [e] [] pos) (iEnumT X.K ta) := by
  refine ⟨fun pins s σ H R I h => ?_⟩
  refine Call_ (ld_blt I hg hm boot_enumerate (PyProof.Rows.callWith_type1 (thn (ha.run pos pins s σ H _ I h) fun us s1 ⟨vs, H1, I1, r1, q1⟩ => ?_) hs rfl))
  obtain ⟨a, xs, ex, hq, q⟩ := q1
  subst ex
  cases r1 with
  | cons r rr =>
    cases rr
    cases r
    obtain ⟨its, rv, p', hz⟩ := I1.tuple hq
    have hal : a < s1.heap.objs.size := p'.lt
    refine call_enumerate_tuple (show s1.heap.IsTuple a its.toArray from p') fun h' he hit hsz hk => wpAny_pyIter_enum he ?_
    have I2 : Inv X pins σ H1 { s1 with heap := h' } := I1.kept (t' := s1.toks) hk
    refine ⟨s1.heap.objs.size + 1, [s1.heap.objs.size + 1, s1.heap.objs.size], _, _, H1, rfl, I2, turn_enumT a (s1.heap.objs.size + 1) s1.heap.objs.size (Nat.ne_of_lt hal) (Nat.ne_of_lt (Nat.lt_succ_of_lt hal)), ⟨⟨.none, he⟩, hit, Nat.succ_ne_self _⟩, fun b hb => ?_, q⟩
    have e' : b = s1.heap.objs.size + 1 ∨ b = s1.heap.objs.size := by simpa using hb
    have hle : s1.heap.objs.size ≤ b := by
      rcases e' with z | z
      · rw [z]; exact Nat.le_add_right _ _
      · rw [z]; exact Nat.le_refl _
    exact I1.fpOk hle (I1.hok.fresh hle)

section
variable {X : Cx} {S : Sit} {E : XK} {pos p : Pos}
theorem pi_seqA {tg l : Expr} {tl : TE} (hl : PE X l tl) : PI X tg l (fun σ H R => tl σ H fun x H1 => ∃ a, x = .ref a ∧ (((∃ xs, SqL X.K H1 a xs) ∧ R (Itl X.K a) H1) ∨ ((∃ xs, SqT X.K H1 a xs) ∧ R (Itt X.K a) H1))) := by
  refine ⟨fun pins s σ H R I h => ?_⟩
  refine thn (hl.run pins s σ H _ I h) fun v s1 ⟨x, H1, I1, r1, q1⟩ => ?_
  obtain ⟨a, e, ⟨⟨xs, hq⟩, q⟩ | ⟨⟨xs, hq⟩, q⟩⟩ := q1
  · subst e
    cases r1
    obtain ⟨its, rv, p, hz⟩ := I1.list hq
    refine wpAny_pyIter_list p.isList ?_
    refine ⟨s1.heap.objs.size, [s1.heap.objs.size], _, _, H1, rfl, I1.kept (t' := s1.toks) fun b o e => Heap.get?_push_of_some _ e, turn_list a _, ⟨_, Heap.get?_push_size _ rfl, rfl, rfl⟩, fun b hb => ?_, q⟩
    have e : b = s1.heap.objs.size := by simpa using hb
    subst e
    exact I1.fpOk (Nat.le_refl _) (I1.hok.fresh (Nat.le_refl _))
  · subst e
    cases r1
    obtain ⟨its, rv, p, hz⟩ := I1.tuple hq
    refine wpAny_pyIter_tuple (show s1.heap.IsTuple a its.toArray from p) ?_
    refine ⟨s1.heap.objs.size, [s1.heap.objs.size], _, _, H1, rfl, I1.kept (t' := s1.toks) fun b o e => Heap.get?_push_of_some _ e, turn_tuple a _, ⟨_, Heap.get?_push_size _ rfl, rfl, rfl⟩, fun b hb => ?_, q⟩
    have e : b = s1.heap.objs.size := by simpa using hb
    subst e
    exact I1.fpOk (Nat.le_refl _) (I1.hok.fresh (Nat.le_refl _))
theorem ix_seq {tg e : Expr} {te : TD} (he : EX X S E e te) : IX X S E tg e (iSeq te) := by
  refine PI_imp (pi_seqA he) fun σ H R ⟨F, ρ, T, Q0, X0, Rp, ht, hq, hx⟩ => ?_
  refine ⟨F, ρ, T, _, X0, Rp, ht, fun m ρ1 h1 F1 H1 v s1 R1 => ?_, hx⟩
  obtain ⟨F2, d, ρ2, s2, dv, R2, k⟩ := use_ok R1 h1
  cases d with
  | lst ds =>
    cases dv with
    | @lst a xs _ ha dl =>
      exact ⟨a, rfl, .inl ⟨⟨xs, SqL.of (R2.2.fh _ _ ha)⟩, hq _ _ k F2 H1 _ (s1.trans s2) R2 (wk_at dl (walk_list.mono (fun H s => SqL.of (s _ _ ha)) fun _ _ _ _ _ _ y => y))⟩⟩
  | tup ds =>
    cases dv with
    | @tup a xs _ ha dl =>
      exact ⟨a, rfl, .inr ⟨⟨xs, SqT.of (R2.2.fh _ _ ha)⟩, hq _ _ k F2 H1 _ (s1.trans s2) R2 (wk_at dl (walk_tup.mono (fun H s => SqT.of (s _ _ ha)) fun _ _ _ _ _ _ y => y))⟩⟩
  | _ => exact k.elim
def enumFrom (k : Nat) : List D → List D
  | [] => []
  | d :: ds => .tup [.int (k : Nat), d] :: enumFrom (k + 1) ds
theorem enumFrom_length : ∀ (k : Nat) (ds : List D), (enumFrom k ds).length = ds.length
  | _, [] => rfl
  | k, d :: ds => by show (enumFrom (k + 1) ds).length + 1 = ds.length + 1; rw [enumFrom_length]
theorem enumFrom_get : ∀ (k : Nat) (ds : List D) (i : Nat) (e : D), (enumFrom k ds)[i]? = some e → ∃ d, ds[i]? = some d ∧ e = .tup [.int ((k + i : Nat) : Int), d]
  | _, [], _, _, h => by simp [enumFrom] at h
  | k, d :: ds, 0, e, h => by
    simp only [enumFrom, List.getElem?_cons_zero, Option.some.injEq] at h
    exact ⟨d, rfl, by rw [← h]; rfl⟩
  | k, d :: ds, i + 1, e, h => by
    obtain ⟨d', h1, h2⟩ := enumFrom_get (k + 1) ds i e (by simpa [enumFrom] using h)
    exact ⟨d', by simpa using h1, by rw [h2]; congr 4; omega⟩
def iEnD (te : TD) : TI' := fun ρ Q X => te ρ (fun m ρ1 => use m ρ1 fun x ρ2 => match x with | .lst ds => Q (enumFrom 0 ds) ρ2 | .tup ds => Q (enumFrom 0 ds) ρ2 | _ => False) X
theorem pi_enumA {e : Expr} {ta : TA} {tpos : Pos} {elts : List Expr} {kk : Nat} (hg : Gl X "enumerate") (hm : X.mg "enumerate" = none) (ha : PA X [e] ta) (hs : starEach [e] X.env = [(false, eval e X.env)] := by rfl) :
    PI X (.Tuple elts kk tpos) (.Call (.Name "enumerate" p) [e] [] pos) (fun σ H R => ta σ H fun vs H1 => ∃ a xs, vs = [.ref a] ∧ ((SqL X.K H1 a xs ∧ R (Ite X.K a) H1) ∨ (SqT X.K H1 a xs ∧ R (IteT X.K a) H1))) := by
  refine ⟨fun pins s σ H R I h => ?_⟩
  refine Call_ (ld_blt I hg hm boot_enumerate (PyProof.Rows.callWith_type1 (thn (ha.run pos pins s σ H _ I h) fun us s1 ⟨vs, H1, I1, r1, q1⟩ => ?_) hs rfl))
  obtain ⟨a, xs, ex, q1⟩ := q1
  subst ex
  cases r1 with
  | cons r rr =>
    cases rr
    cases r
    have fp : ∀ b, b ∈ [s1.heap.objs.size + 1, s1.heap.objs.size] → FpOk X pins H1 b := fun b hb => by
      have e' : b = s1.heap.objs.size + 1 ∨ b = s1.heap.objs.size := by simpa using hb
      have hle : s1.heap.objs.size ≤ b := by
        rcases e' with z | z
        · rw [z]; exact Nat.le_add_right _ _
        · rw [z]; exact Nat.le_refl _
      exact I1.fpOk hle (I1.hok.fresh hle)
    rcases q1 with ⟨hq, q⟩ | ⟨hq, q⟩
    · obtain ⟨its, rv, p', hz⟩ := I1.list hq
      refine call_enumerate_list p'.isList fun h' he hit hsz hk => wpAny_pyIter_enum he ?_
      exact ⟨s1.heap.objs.size + 1, [s1.heap.objs.size + 1, s1.heap.objs.size], _, _, H1, rfl, I1.kept (t' := s1.toks) hk, turn_enum a (s1.heap.objs.size + 1) s1.heap.objs.size, ⟨⟨.none, he⟩, hit, Nat.succ_ne_self _⟩, fp, q⟩
    · obtain ⟨its, rv, p', hz⟩ := I1.tuple hq
      have hal : a < s1.heap.objs.size := p'.lt
      refine call_enumerate_tuple (show s1.heap.IsTuple a its.toArray from p') fun h' he hit hsz hk => wpAny_pyIter_enum he ?_
      exact ⟨s1.heap.objs.size + 1, [s1.heap.objs.size + 1, s1.heap.objs.size], _, _, H1, rfl, I1.kept (t' := s1.toks) hk, turn_enumT a (s1.heap.objs.size + 1) s1.heap.objs.size (Nat.ne_of_lt hal) (Nat.ne_of_lt (Nat.lt_succ_of_lt hal)), ⟨⟨.none, he⟩, hit, Nat.succ_ne_self _⟩, fp, q⟩
theorem enum_items {g : Gc} {F : Hp} {xs : List V} {ds : List D} (dl : DenL g F xs ds) (i : Nat) (d : D) (h : (enumFrom 0 ds)[i]? = some d) :
    ∃ a b, d = .tup [a, b] ∧ (∀ x, (some (V.int (i : Nat)) : Option V) = some x → Den g F x a) ∧ ∀ y, xs[i]? = some y → Den g F y b := by
  obtain ⟨e, h1, h2⟩ := enumFrom_get 0 ds i d h
  rw [Nat.zero_add] at h2
  refine ⟨_, _, h2, fun x hx => ?_, fun y hy => ?_⟩
  · cases hx; exact .int _
  · obtain ⟨d', h3, h4⟩ := dl.getV hy
    rw [h1] at h3
    cases h3
    exact h4
theorem ix_enum {elts : List Expr} {kk : Nat} {tpos : Pos} {e : Expr} {te : TD} (hg : Gl X "enumerate") (hm : X.mg "enumerate" = none) (he : EX X S E e te) (hs : starEach [e] X.env = [(false, eval e X.env)] := by rfl) :
    IX X S E (.Tuple elts kk tpos) (.Call (.Name "enumerate" p) [e] [] pos) (iEnD te) := by
  refine PI_imp (pi_enumA hg hm (pa_cons he pa_nil hs) hs) fun σ H R ⟨F, ρ, T, Q0, X0, Rp, ht, hq, hx⟩ => ?_
  refine ⟨F, ρ, T, _, X0, Rp, ht, fun m ρ1 h1 F1 H1 v s1 R1 => ?_, hx⟩
  obtain ⟨F2, d, ρ2, s2, dv, R2, k⟩ := use_ok R1 h1
  cases d with
  | lst ds =>
    cases dv with
    | @lst a xs _ ha dl =>
      refine ⟨a, xs, rfl, .inl ⟨SqL.of (R2.2.fh _ _ ha), hq _ _ k F2 H1 _ (s1.trans s2) R2 (wk_pair (n := xs.length) (by rw [enumFrom_length, dl.length]) (walk_enum.mono (fun H s => SqL.of (s _ _ ha)) fun _ _ _ _ _ _ y => y) fun i d h => enum_items dl i d h)⟩⟩
  | tup ds =>
    cases dv with
    | @tup a xs _ ha dl =>
      refine ⟨a, xs, rfl, .inr ⟨SqT.of (R2.2.fh _ _ ha), hq _ _ k F2 H1 _ (s1.trans s2) R2 (wk_pair (n := xs.length) (by rw [enumFrom_length, dl.length]) (walk_enumT.mono (fun H s => SqT.of (s _ _ ha)) fun _ _ _ _ _ _ y => y) fun i d h => enum_items dl i d h)⟩⟩
  | _ => exact k.elim
def zipD : List D → List D → List D
  | a :: as, b :: bs => .tup [a, b] :: zipD as bs
  | _, _ => []
theorem zipD_length : ∀ (as bs : List D), (zipD as bs).length = min as.length bs.length
  | a :: as, b :: bs => by show (zipD as bs).length + 1 = min (as.length + 1) (bs.length + 1); rw [zipD_length]; omega
  | [], _ => by simp [zipD]
  | _ :: _, [] => by simp [zipD]
theorem zipD_get : ∀ (as bs : List D) (i : Nat) (e : D), (zipD as bs)[i]? = some e → ∃ a b, as[i]? = some a ∧ bs[i]? = some b ∧ e = .tup [a, b]
  | [], _, _, _, h => by simp [zipD] at h
  | _ :: _, [], _, _, h => by simp [zipD] at h
  | a :: as, b :: bs, 0, e, h => by
    simp only [zipD, List.getElem?_cons_zero, Option.some.injEq] at h
    exact ⟨a, b, rfl, rfl, h.symm⟩
  | a :: as, b :: bs, i + 1, e, h => by
    obtain ⟨a', b', h1, h2, h3⟩ := zipD_get as bs i e (by simpa [zipD] using h)
    exact ⟨a', b', by simpa using h1, by simpa using h2, h3⟩
theorem zip_items {g : Gc} {F : Hp} {xs ys : List V} {as bs : List D} (dl : DenL g F xs as) (el : DenL g F ys bs) (i : Nat) (d : D) (h : (zipD as bs)[i]? = some d) :
    ∃ a b, d = .tup [a, b] ∧ (∀ x, xs[i]? = some x → Den g F x a) ∧ ∀ y, ys[i]? = some y → Den g F y b := by
  obtain ⟨a, b, h1, h2, h3⟩ := zipD_get as bs i d h
  refine ⟨a, b, h3, fun x hx => ?_, fun y hy => ?_⟩
  · obtain ⟨d', q1, q2⟩ := dl.getV hx
    rw [h1] at q1; cases q1; exact q2
  · obtain ⟨d', q1, q2⟩ := el.getV hy
    rw [h2] at q1; cases q1; exact q2
theorem walk_zipT {K : PySem.W.Frag} {a b : Addr} {xs ys : List V} {n : Nat} (hn : n = min xs.length ys.length) : Walk (RZ.ItzT K a b) n (fun H => SqT K H a xs ∧ SqT K H b ys) (YPair (fun i => xs[i]?) (fun i => ys[i]?)) := by
  subst hn
  refine ⟨fun i _ hi q => ?_, fun _ q => ⟨xs, ys, q.1, q.2, by omega⟩, fun i H v H' _ q y => ?_⟩
  · have h1 : i < xs.length := by omega
    have h2 : i < ys.length := by omega
    exact ⟨xs, ys, xs[i], ys[i], q.1, q.2, by simp [h1], by simp [h2]⟩
  · obtain ⟨T, x, z, h1, h2, h3, h4, h5⟩ := y
    exact ⟨T, x, z, h1, h2, h3, h4 xs q.1, h5 ys q.2⟩
def iZpD (t : TAs) : TI' := fun ρ Q X => t ρ (fun ds ρ1 => match ds with
  | [.lst as, .lst bs] => Q (zipD as bs) ρ1
  | [.tup as, .tup bs] => Q (zipD as bs) ρ1
  | _ => False) X
theorem ix_zip {elts : List Expr} {kk : Nat} {tpos : Pos} {e e2 : Expr} {t : TAs} (hg : Gl X "zip") (hm : X.mg "zip" = none) (ha : AX X S E [e, e2] t)
    (hs : starEach [e, e2] X.env = (false, eval e X.env) :: starEach [e2] X.env := by rfl) (hpl : (backTo pos (starEach [e2] X.env)).any (·.1) = false := by rfl) :
    IX X S E (.Tuple elts kk tpos) (.Call (.Name "zip" p) [e, e2] [] pos) (iZpD t) := by
  refine PI_imp (RZ.pi_zipA hg hm ha hs hpl) fun σ H R ⟨F, ρ, T, Q0, X0, Rp, ht, hq, hx⟩ => ?_
  refine ⟨F, ρ, T, _, X0, Rp, ht, fun ds ρ1 h1 F1 H1 vs s1 dl R1 => ?_, hx⟩
  match ds, h1, dl with
  | [.lst as, .lst bs], h1, .cons (.lst ha da) (.cons (.lst hb db) .nil) =>
    exact ⟨_, _, _, _, rfl, .inl ⟨SqL.of (R1.2.fh _ _ ha), SqL.of (R1.2.fh _ _ hb), hq _ _ h1 F1 H1 _ s1 R1 (wk_pair (by rw [zipD_length, ← da.length, ← db.length]) ((walk_zip rfl).mono (fun H s => ⟨SqL.of (s _ _ ha), SqL.of (s _ _ hb)⟩) fun _ _ _ _ _ _ y => y) fun i d h => zip_items da db i d h)⟩⟩
  | [.tup as, .tup bs], h1, .cons (.tup ha da) (.cons (.tup hb db) .nil) =>
    exact ⟨_, _, _, _, rfl, .inr ⟨SqT.of (R1.2.fh _ _ ha), SqT.of (R1.2.fh _ _ hb), hq _ _ h1 F1 H1 _ s1 R1 (wk_pair (by rw [zipD_length, ← da.length, ← db.length]) ((walk_zipT rfl).mono (fun H s => ⟨SqT.of (s _ _ ha), SqT.of (s _ _ hb)⟩) fun _ _ _ _ _ _ y => y) fun i d h => zip_items da db i d h)⟩⟩

theorem ixD_ok {n : Nat} {y : D} {K : Nat → Prop} (h : ixD n y K) : ∃ i j, y = .int i ∧ ixN n i = some j ∧ K j := by
  cases y with
  | int i =>
    cases e : ixN n i with
    | none => simp only [ixD, e] at h
    | some j => simp only [ixD, e] at h; exact ⟨i, j, rfl, e, h⟩
  | _ => exact h.elim
theorem sx_setL {o i e : Expr} {to ti te : TD} {ipos : Pos} (ho : EX X S E o to) (hi : EX X S E i ti) (he : EX X S E e te)
    (ha : ∀ v, assign (.Subscript o i ipos) X.env v = (do
      let ov ← holding [v] (eval o X.env)
      let iv ← holding [v, ov] (eval i X.env)
      standAt ipos
      holding [v, ov, iv] (setItem ov iv v)
      release [v, ov, iv] []) := by intro _; rfl)
    (hs : swapsWithSole [.Subscript o i ipos] e pos.line X.env = pure false := by rfl) (hw : swappedStores [.Subscript o i ipos] e X.env = pure none := by rfl)
    (h1 : (assignEach [.Subscript o i ipos] X.env).map (·.2) = [assign (.Subscript o i ipos) X.env] := by rfl) : SX X S E (.Assign [.Subscript o i ipos] e pos) (dSetL te to ti) := by
  refine PS_imp (ps_asg he (pg_sub ho hi set_list ha) hs hw h1) fun Dn σ H ⟨F, ρ, P, R, ht, lp⟩ => ⟨F, ρ, [], _, _, R, ht, fun m ρ1 h F1 H1 v s1 R1 => ?_, lp.ex⟩
  obtain ⟨F2, x, ρ2, s2, dv, R2, k2⟩ := use_ok R1 h
  refine ⟨F2, ρ2, [], _, _, R2, k2, fun k ρ3 h3 F3 H3 w s3 R3 => ?_, lp.ex.mono (s1.trans s2)⟩
  refine ⟨F3, ρ3, pushT w k [], _, _, R3.stack, h3, fun n ρ4 h4 F4 H4 u s4 R4 => ?_, lp.ex.mono ((s1.trans s2).trans s3)⟩
  obtain ⟨y, ry, k4⟩ := peek_ok R4.come R4.stack pushT_mem h4
  obtain ⟨s, ds, a, xs, ek, hv, ev, hal, dl, k5, back⟩ := atL_ok (R3.come.mono s4) R4.toS k4
  subst ek ev
  obtain ⟨i, j, ey, hj, k6⟩ := ixD_ok k5
  subst ey
  cases ry.int
  refine ⟨a, xs, i, j, rfl, rfl, hal, by rw [dl.length]; exact hj, ?_⟩
  exact lp.nx _ k6 F4 _ σ (((s1.trans s2).trans s3).trans s4) (back _ _ (dl.set (dv.mono (s3.trans s4)) j))
theorem get_list : PGet X (fun o i H Q => ∃ p xs k j v, o = .ref p ∧ i = .int k ∧ H p = some (.lst xs) ∧ ixN xs.length k = some j ∧ xs[j]? = some v ∧ Q v H) := by
  intro pins s σ H o i ov iv Q I ro ri ⟨p, xs, k, j, v, eo, ei, hp, hj, hv, q⟩
  subst eo ei
  cases ro
  obtain ⟨t, rfl⟩ := ri
  obtain ⟨its, rv, pl, hz⟩ := I.list (SqL.of hp)
  obtain ⟨u, hu, ru⟩ := rv.get hv
  obtain ⟨h1, h2, h3, h4⟩ := ixN_seq hj
  have hl := rv.length
  have hn := line63
  by_cases h0 : 0 ≤ k
  · have hk : k.toNat = j := by
      rw [seqIndex_of h0 h4] at h1
      exact Option.some.inj h1
    exact wpAny_getItem_list pl.isList h0 (by omega) (x := u) (by rw [hk]; simpa using hu) ⟨v, H, I, ru, q⟩
  · have hk : (k + (its.toArray.size : Int)).toNat = j := by
      rw [seqIndex_neg (by omega) h3] at h1
      rw [List.size_toArray, ← hl]
      exact Option.some.inj h1
    exact wpAny_getItem_list_neg pl.isList (by omega) (by rw [List.size_toArray] <;> omega) (by omega) (x := u) (by rw [hk]; simpa using hu) ⟨v, H, I, ru, q⟩
def dAugL (f : Int → Int → Int) (to ti te : TD) : TSt := fun P ρ => to ρ (fun k ρ1 => ti ρ1 (fun n ρ2 => (peek n ρ2 fun y => atL k ρ2 fun s ds => ixD ds.length y fun j => match ds[j]? with
  | some (.int old) => te ρ2 (fun m ρ3 => peek m ρ3 fun x => match x with
    | .int z => atL k ρ3 fun s ds3 => ds3 = ds ∧ P.nx (setS ρ3 s (.ow (.lst (ds3.set j (.int (f old z))))))
    | _ => False) P.ex
  | _ => False)) P.ex) P.ex
theorem sx_augL {o i e : Expr} {to ti te : TD} {tpos : Pos} {op : Operator} {f : Int → Int → Int} (ho : EX X S E o to) (hi : EX X S E i ti) (he : EX X S E e te) (hp : PIp X op (ipI f))
    (ha : ∀ ov iv new, augStore i ov iv new = (do holding [new, ov, iv] (setItem ov iv new); release [new, ov, iv] []; pure .next) := by intros; rfl) : SX X S E (.AugAssign (.Subscript o i tpos) op e pos) (dAugL f to ti te) := by
  refine PS_imp (ps_augS ho hi get_list he hp set_list ha) fun Dn σ H ⟨F, ρ, P, R, ht, lp⟩ => ⟨F, ρ, [], _, _, R, ht, fun k ρ1 h1 F1 H1 v s1 R1 => ?_, lp.ex⟩
  refine ⟨F1, ρ1, pushT v k [], _, _, R1.stack, h1, fun n ρ2 h2 F2 H2 u s2 R2 => ?_, lp.ex.mono s1⟩
  obtain ⟨y, ry, k2⟩ := peek_ok R2.come R2.stack pushT_mem h2
  obtain ⟨s, ds, a, xs, ek, hv, ev, hal, dl, k3, back⟩ := atL_ok (R1.come.mono s2) R2.toS k2
  subst ek ev
  obtain ⟨i', j, ey, hj, k4⟩ := ixD_ok k3
  subst ey
  cases ry.int
  cases eo : ds[j]? with
  | none => rw [eo] at k4; exact k4.elim
  | some dold =>
    rw [eo] at k4
    cases dold with
    | int old =>
      obtain ⟨vo, hvo, dvo⟩ := dl.get eo
      cases dvo
      refine ⟨a, xs, i', j, .int old, rfl, rfl, hal, by rw [dl.length]; exact hj, hvo, ?_⟩
      refine ⟨F2, ρ2, [], _, _, R2.toS, k4, fun m ρ3 h3 F3 H3 w s3 R3 => ?_, lp.ex.mono (s1.trans s2)⟩
      obtain ⟨x, rx, k5⟩ := peek_ok R3.come R3.stack pushT_mem h3
      cases x with
      | int z =>
        cases rx.int
        obtain ⟨s', ds', a', xs', ek', hv', ev', hal', dl', k6, back'⟩ := atL_ok (k := .r s) (σ := σ) (v := .ref a) hv R3.toS k5
        cases ev'
        obtain ⟨e6, k7⟩ := k6
        subst e6
        refine ⟨old, z, rfl, rfl, a, xs', i', j, rfl, rfl, hal', by rw [dl'.length]; exact hj, ?_⟩
        exact lp.nx _ k7 F3 _ σ ((s1.trans s2).trans s3) (back' _ _ (dl'.set (.int _) j))
      | _ => exact k5.elim
    | _ => exact k4.elim

def distinct (ns : List Int) : List Int := ns.foldl (fun acc n => if acc.any (· == n) then acc else acc ++ [n]) []
theorem firstMet_eq (ns : List Int) : ∀ i, i ≤ ns.length → PyProof.Rows.firstMet (fun i => ns.getD i 0) i = distinct (ns.take i)
  | 0, _ => rfl
  | i + 1, hi => by
    have hlt : i < ns.length := hi
    have e1 : ns.getD i 0 = ns[i] := by
      rw [List.getD_eq_getElem?_getD, List.getElem?_eq_getElem hlt] <;> rfl
    have e2 : ns.take (i + 1) = ns.take i ++ [ns[i]] := by
      rw [List.take_add_one, List.getElem?_eq_getElem hlt] <;> rfl
    rw [PyProof.Rows.firstMet_succ, firstMet_eq ns i (Nat.le_of_lt hlt), e2]
    unfold distinct
    rw [List.foldl_append, List.foldl_cons, List.foldl_nil]
    show (if (distinct (ns.take i)).any (· == ns.getD i 0) then _ else _ ++ [ns.getD i 0]) = _
    rw [e1]
    rfl
def qLenSet : Q1 := fun x K => match x with
  | .lst l => (match asInts l with | some ns => ns.length ≤ 4000 ∧ K (.d (.int (distinct ns).length)) | none => False)
  | _ => False
theorem distinct_le : ∀ (ns acc : List Int), (ns.foldl (fun acc n => if acc.any (· == n) then acc else acc ++ [n]) acc).length ≤ acc.length + ns.length
  | [], acc => by simp
  | n :: ns, acc => by
    rw [List.foldl_cons]
    refine Nat.le_trans (distinct_le ns _) ?_
    split
    · simp only [List.length_cons]; omega
    · simp only [List.length_append, List.length_cons, List.length_nil]; omega
theorem pe_lenSetD {a : Expr} {ta : TE} {p2 q : Pos} (hg : Gl X "len") (hm : X.mg "len" = none) (hg2 : Gl X "set") (hm2 : X.mg "set" = none) (ha : PE X a ta) (hc : X.calm = true)
    (na : starEach [a] X.env = (false, eval a X.env) :: starEach [] X.env := by rfl) : PE X (.Call (.Name "len" p) [.Call (.Name "set" p2) [a] [] q] [] pos)
      (fun σ H Q => ta σ H fun x H1 => ∃ (l : Addr) (ns : List Int), x = .ref l ∧ SqL X.K H1 l (ns.map V.int) ∧ ns.length ≤ 4000 ∧ Q (.int ((distinct ns).length : Nat)) H1) := by
  refine ⟨fun pins s σ H Q I h => ?_⟩
  refine Call_ (ld_blt I hg hm boot_len ?_)
  refine PyProof.Rows.callWith_builtin1 (PyProof.Rows.args_cons ?_ rfl) rfl rfl
  refine Call_ (ld_blt I hg2 hm2 boot_set ?_)
  refine PyProof.Rows.callWith_type1 (PyProof.Rows.args_cons (thn (ha.run pins s σ H _ I h) fun v s1 ⟨x, H1, I1, r1, q1⟩ => PyProof.Rows.args_nil ?_) na) na rfl
  obtain ⟨l, ns, rfl, hq, hl, q1⟩ := q1
  cases r1
  obtain ⟨its, r, pl, hz⟩ := I1.list hq
  have hlen : its.toArray.size = ns.length := by rw [List.size_toArray, ← r.length, List.length_map]
  refine call_set_list (I1.ok.hd hc) pl.isList (by simpa using RZ.intsAre_vals r) (by rw [hlen]; unfold scanBound; omega) fun h' tk hS hk => ?_
  refine PyProof.Rows.args_nil ?_
  rw [hlen, firstMet_eq ns ns.length (Nat.le_refl _), List.take_length] at hS
  obtain ⟨o, es, ep, t, ho, hex, hd, _, _, _, hf, hn⟩ := hS
  have I2 : Inv X pins σ H1 { s1 with heap := h', toks := tk } := I1.kept fun b o e => hk b o (Heap.lt_size e) e
  have hdl : (distinct ns).length ≤ ns.length := by have := distinct_le ns []; unfold distinct; simpa using this
  exact call_len_set ho hex hd hf (by rw [hn] <;> omega) ⟨.int (distinct ns).length, H1, I2.tok _, ⟨_, by rw [hn]⟩, q1⟩
theorem ex_lenSet {a : Expr} {ta : TD} {p2 q : Pos} (hg : Gl X "len") (hm : X.mg "len" = none) (hg2 : Gl X "set") (hm2 : X.mg "set" = none) (ha : EX X S E a ta) (hc : X.calm = true)
    (na : starEach [a] X.env = (false, eval a X.env) :: starEach [] X.env := by rfl) : EX X S E (.Call (.Name "len" p) [.Call (.Name "set" p2) [a] [] q] [] pos) (dOp1 qLenSet ta) := by
  refine PE_imp (pe_lenSetD hg hm hg2 hm2 ha hc na) fun σ H Q h => ?_
  obtain ⟨F, ρ, T, Q0, X0, R, ht, hq, hx⟩ := lift1 h
  refine ⟨F, ρ, T, Q0, X0, R, ht, fun m ρ' h1 F' H' v s R' => ?_, hx⟩
  obtain ⟨F2, l, x, Q2, R2, dx, q2, post⟩ := hq m ρ' h1 F' H' v s R'
  cases x with
  | lst a =>
    obtain ⟨p, xs, rfl, ha, dl⟩ := dx.lst R2
    cases e : asInts a with
    | none => simp only [qLenSet, e] at q2
    | some ns =>
      simp only [qLenSet, e] at q2
      rw [asInts_eq e] at dl
      rw [dl.ints] at ha
      exact ⟨p, ns, rfl, SqL.of ha, q2.1, post _ q2.2 F2 _ _ (Same.refl _) ⟨.int _, R2⟩⟩
  | _ => exact q2.elim
end
end PL
set_option Elab.async false
set_option linter.all false
set_option maxRecDepth 100000
namespace PL
open PySem PySem.Spec PyProof.Rows L2

section
variable {X : Cx} {S : Sit} {E : XK} {pos p : Pos}
def iScr (te : TD) : TI' := fun ρ Q X => te ρ (fun m ρ1 => use m ρ1 fun x ρ2 => match x with | .scr ns => Q (ns.map D.int) ρ2 | _ => False) X
theorem ix_scr {tg e : Expr} {te : TD} (hK : S.g.K = X.K) (he : EX X S E e te) : IX X S E tg e (iScr te) := by
  refine PI_imp (pi_list he) fun σ H R ⟨F, ρ, T, Q0, X0, Rp, ht, hq, hx⟩ => ?_
  refine ⟨F, ρ, T, _, X0, Rp, ht, fun m ρ1 h1 F1 H1 v s1 R1 => ?_, hx⟩
  obtain ⟨F2, d, ρ2, s2, dv, R2, k⟩ := use_ok R1 h1
  cases d with
  | scr ns =>
    cases dv with
    | @scr a _ ha =>
      rw [hK] at ha
      refine ⟨a, rfl, ⟨_, R2.2.fh.seq ha⟩, hq _ _ k F2 H1 _ (s1.trans s2) R2 (wk_at (denL_ints ns) ?_)⟩
      exact walk_list.mono (fun H s => s.seq ha) fun _ _ _ _ _ _ y => y
  | _ => exact k.elim

theorem mergeK_nd : ∀ {more kvs : List (Key × V)}, ((kvs ++ more).map (·.1)).Nodup → mergeK kvs more = kvs ++ more
  | [], kvs, _ => by rw [List.append_nil]; rfl
  | p :: r, kvs, h => by
    have hn : valV kvs p.1 = none := by
      cases e : valV kvs p.1 with
      | none => rfl
      | some v =>
        have h1 := valV_in e
        rw [List.map_append, List.nodup_append] at h
        exact absurd rfl (h.2.2 _ h1 _ (by simp))
    show mergeK (putK kvs p.1 p.2) r = _
    have e : putK kvs p.1 p.2 = kvs ++ [p] := by rw [putK_new _ hn]
    have e3 : kvs ++ p :: r = (kvs ++ [p]) ++ r := by rw [List.append_assoc]; rfl
    rw [e, e3]
    rw [e3] at h
    exact mergeK_nd h
def DPX (X : Cx) (S : Sit) (E : XK) (pos : Pos) (keys : List (Option Expr)) (vals : List Expr) (ks : List Key) (t : TAs) : Prop :=
  ∃ trs, PPs X pos keys vals trs ∧ ∀ σ H (Q : List (V × V) → Hp → Prop), LA S E t σ H (fun vs H1 => vs.length = ks.length → Q ((ks.map kV).zip vs) H1) → tPairs trs σ H Q
theorem dpx_nil : DPX X S E pos [] [] [] aNil := ⟨[], pps_nil, fun σ H Q ⟨F, ρ, T, Q0, X0, R, ht, hq, hx⟩ => hq _ _ ht F H [] (Same.refl _) .nil R rfl⟩
theorem dpx_cons {x : Str} {j kp} {e : Expr} {keys : List (Option Expr)} {vals : List Expr} {ks : List Key} {t : TD} {u : TAs} (ha : EX X S E e t) (hr : DPX X S E pos keys vals ks u) : DPX X S E pos (some (.Constant (.str x) j kp) :: keys) (e :: vals) (.inr x :: ks) (aCons t u) := by
  obtain ⟨trs, h1, h2⟩ := hr
  refine ⟨_, pps_cons pe_str ha h1, fun σ H Q ⟨F, ρ, T, Q0, X0, R, ht, hq, hx⟩ => ?_⟩
  refine ⟨F, ρ, T, _, X0, R, ht, fun m ρ1 k1 F1 H1 v s1 R1 => ?_, hx⟩
  obtain ⟨F2, d, ρ2, s2, dv, R2, k⟩ := use_ok R1 k1
  refine h2 _ _ _ ⟨F2, ρ2, T, _, X0, R2, k, fun ds ρ3 h3 F3 H3 vs s3 dl R3 hl => ?_, hx.mono (s1.trans s2)⟩
  have q := hq _ _ h3 F3 H3 (v :: vs) ((s1.trans s2).trans s3) (.cons (dv.mono s3) dl) R3 (by rw [List.length_cons, List.length_cons, hl])
  exact q
def dDispK (ks : List Key) (t : TAs) : TD := fun ρ Q X => t ρ (fun ds ρ1 => ds.length = ks.length ∧ Q (.o (.dK (ks.zip ds))) ρ1) X
theorem zip_fst : ∀ {ks : List Key} {vs : List V}, vs.length = ks.length → (ks.zip vs).map (·.1) = ks
  | [], _, _ => rfl
  | k :: ks, [], h => by simp at h
  | k :: ks, v :: vs, h => by
    rw [List.zip_cons_cons, List.map_cons, zip_fst (by simpa using h)]
theorem zip_fstD : ∀ {ks : List Key} {vs : List D}, vs.length = ks.length → (ks.zip vs).map (·.1) = ks
  | [], _, _ => rfl
  | k :: ks, [], h => by simp at h
  | k :: ks, v :: vs, h => by
    rw [List.zip_cons_cons, List.map_cons, zip_fstD (by simpa using h)]
theorem zip_snd : ∀ {ks : List Key} {vs : List V}, vs.length = ks.length → (ks.zip vs).map (·.2) = vs
  | [], [], _ => rfl
  | [], _ :: _, h => by simp at h
  | k :: ks, [], h => by simp at h
  | k :: ks, v :: vs, h => by
    rw [List.zip_cons_cons, List.map_cons, zip_snd (by simpa using h)]
theorem zip_sndD : ∀ {ks : List Key} {vs : List D}, vs.length = ks.length → (ks.zip vs).map (·.2) = vs
  | [], [], _ => rfl
  | [], _ :: _, h => by simp at h
  | k :: ks, [], h => by simp at h
  | k :: ks, v :: vs, h => by
    rw [List.zip_cons_cons, List.map_cons, zip_sndD (by simpa using h)]
theorem zip_kV : ∀ {ks : List Key} {vs : List V}, (ks.map kV).zip vs = (ks.zip vs).map fun kv => (kV kv.1, kv.2)
  | [], _ => rfl
  | _ :: _, [] => rfl
  | k :: ks, v :: vs => by
    rw [List.map_cons, List.zip_cons_cons, List.zip_cons_cons, List.map_cons, zip_kV]
theorem ex_disp {keys : List (Option Expr)} {vals : List Expr} {ks : List Key} {t : TAs} (h : DPX X S E pos keys vals ks t) (nd : ks.Nodup) (h16 : ks.length ≤ 15) (hall : keys.all (·.isSome) = true) (hl : keys.length = vals.length) (h0 : keys ≠ []) (h15 : keys.length ≤ 15) :
    EX X S E (.Dict keys vals pos) (dDispK ks t) := by
  obtain ⟨trs, h1, h2⟩ := h
  refine PE_imp (pe_disp h1 hall hl h0 h15) fun σ H Q ⟨F, ρ, T, Q0, X0, R, ht, hq, hx⟩ => fun p np => h2 _ _ _ ?_
  have R1 : RepS S F (upd H p (.dK [])) ((some (.ref p), .ow (.dK [])) :: T) σ ρ := ⟨R.1, R.2.newO np ⟨[], upd_same, rfl, .nil⟩⟩
  refine ⟨F, ρ, _, _, X0, R1, ht, fun ds ρ1 k1 F1 H1 vs s1 dl R2 hlv => ?_, hx⟩
  have R3 : Rep S F1 H1 ((some (.ref p), .ow (.dK [])) :: (T ++ σ.zip ρ1)) := R2.2
  obtain ⟨b, eb, n1, n2, ys, hp, ey, _⟩ := R3.ok _ List.mem_cons_self
  cases eb
  have ey0 : ys = [] := by
    cases ys with
    | nil => rfl
    | cons a r => cases ey
  subst ey0
  refine ⟨hp, ks.zip vs, zip_kV, by rw [List.length_zip, hlv, Nat.min_self]; exact h16, ?_⟩
  have em : mergeK [] (ks.zip vs) = ks.zip vs := mergeK_nd (by rw [List.nil_append, zip_fst hlv]; exact nd)
  rw [em]
  refine hq _ _ k1.2 F1 _ _ s1 ⟨R2.1, R3.write ⟨ks.zip vs, upd_same, ?_, ?_⟩⟩
  · rw [zip_fst hlv, zip_fstD k1.1]
  · rw [zip_snd hlv, zip_sndD k1.1]; exact dl
end

section
variable {P : Program} {w : World} {K : PySem.W.Frag} {TT : List (Addr × Str)} {mg : Str → Option Value} {base : Heap} {k j : Nat} {c : PC} {x y : Str}
structure CalD (P : Program) (w : World) (K : PySem.W.Frag) (TT : List (Addr × Str)) (mg : Str → Option Value) (base : Heap) (k : Nat) (x : Str) (c : PC) : Prop where
  ex : ∃ (f : Addr) (fd : FuncData) (ps : List Str), FnOk P w K mg base (L2.CX P w) k f fd ps (spD K TT c) ∧ mg x = some (.ref f) ∧ PySem.W.keepIn K (.ref f) = true ∧ Binds K fd ps []
theorem CalD.mono (h : CalD P w K TT mg base j x c) (hk : j ≤ k) : CalD P w K TT mg base k x c := by
  obtain ⟨f, fd, ps, F, a, b, d⟩ := h.ex
  exact ⟨f, fd, ps, F.mono hk, a, b, d⟩
theorem CalD.as (h : CalD P w K TT mg base k x c) (e : mg y = mg x) : CalD P w K TT mg base k y c := by
  obtain ⟨f, fd, ps, F, a, b, d⟩ := h.ex
  exact ⟨f, fd, ps, F, e.trans a, b, d⟩
structure DefIn (K : PySem.W.Frag) (mg : Str → Option Value) (x name : Str) (st : Stmt) (ps : List Str) : Prop where
  ex : ∃ (f : Addr) (fd : FuncData), FunD K name name (defArgs st) (defBody st) (defScope st) [] [] f fd ∧ mg x = some (.ref f) ∧ Binds K fd ps []
structure CalF (P : Program) (w : World) (K : PySem.W.Frag) (TT : List (Addr × Str)) (mg : Str → Option Value) (base : Heap) (k : Nat) (x name : Str) (st : Stmt) (ps : List Str) (c : PC) : Prop where
  ex : ∃ (f : Addr) (fd : FuncData), FnOk P w K mg base (L2.CX P w) k f fd ps (spD K TT c) ∧ FunD K name name (defArgs st) (defBody st) (defScope st) [] [] f fd ∧ mg x = some (.ref f) ∧ Binds K fd ps []
theorem CalF.toD {name : Str} {st : Stmt} {ps : List Str} (h : CalF P w K TT mg base k x name st ps c) : CalD P w K TT mg base k x c := by
  obtain ⟨f, fd, F, D, a, b⟩ := h.ex
  exact ⟨f, fd, ps, F, a, D.kp, b⟩
theorem DefIn.okD {name : Str} {st : Stmt} {N ps : List Str} (Fn : DefIn K mg x name st ps) (Sc : FnScope N ps (defScope st)) (len : ∀ ds Q X, c ds Q X → ds.length = ps.length)
    (hbody : ∀ (f : Addr) (cdv : Value) (A : Around) (outer : List Env) (s : Shared) (H : Hp) (E : XK) (S : Sit), S.g.K = K → S.g.T = TT → Room k (A.deeper (envOfC name (defScope st) s.heap.objs.size f cdv)) →
      ∃ t, SXs (cxOf (L2.CX P w) P w K mg base N name (defScope st) f cdv A outer s H E) S E (defBody st) t ∧ ∀ ds Q X, c ds Q X → t { nx := fun _ => Q .non, rt := Q, ex := X } (startD N ds)) :
    CalF P w K TT mg base (k + 1) x name st ps c := by
  obtain ⟨f, fd, F, hm, hb⟩ := Fn.ex
  refine ⟨f, fd, F.ok Sc (fun vs H Q E ⟨dA, F, ds, Q0, X0, h, dl, _⟩ => by rw [dl.length]; exact len ds Q0 X0 h) fun cdv A outer s H vs Q E hr ⟨dA, F, ds, Q0, X0, h, dl, en, hq, hx⟩ => ?_, F, hm, hb⟩
  obtain ⟨t, ht, hb⟩ := hbody f cdv A outer s H E ⟨⟨K, dA, TT⟩, noTb H, F⟩ rfl rfl hr
  have R := start_rep en N.length dl
  refine ⟨_, ht, F, startD N ds, _, R, hb ds Q0 X0 h, ?_⟩
  exact ⟨fun ρ' k F' H' σ' s' R' => hq _ k F' H' .non (R'.2.aft rfl) .non, fun d k F' H' v s' R' dv => hq d k F' H' v (R'.aft rfl) dv, fun _ k => k.elim, fun _ k => k.elim, fun ex k F' H' cls dd s' ⟨R', e, p⟩ => hx ex k F' H' cls dd (R'.aft rfl) e p⟩
theorem pD {N : List Str} {qual : Str} {scope : Scope} {f : Addr} {cd : Value} {A : Around} {outer : List Env} {s : Shared} {H : Hp} {E : XK} : Passes (L2.CX P w) (cxOf (L2.CX P w) P w K mg base N qual scope f cd A outer s H E) E :=
  passes_call (X := cxOf (L2.CX P w) P w K mg base N qual scope f cd A outer s H E) (takes_of rfl rfl rfl rfl) fun _ _ _ _ h => h
end
section
variable {X : Cx} {S : Sit} {E : XK} {pos p : Pos} {k j : Nat} {c : PC} {x : Str} {e : Expr} {es : List Expr} {t : TAs}
theorem ex_fn {TT : List (Addr × Str)} (F : CalD X.prog X.w X.K TT X.mg X.base k x c) (hr : Room j X.A) (hS : S.g.K = X.K) (hT : S.g.T = TT) (hx : Passes (L2.CX X.prog X.w) X E) (ha : AX X S E (e :: es) t) (hg : Gl X x := by first | exact Or.inl rfl | exact Or.inr rfl | rfl) (hk : k ≤ j := by decide)
    (hdb : (x == ("__debug__" : Str)) = false := by decide) (he : starEach (e :: es) X.env = (false, eval e X.env) :: starEach es X.env := by rfl) (hpl : (backTo pos (starEach es X.env)).any (·.1) = false := by rfl) :
    EX X S E (.Call (.Name x p) (e :: es) [] pos) (dCall c t) := by
  obtain ⟨f, fd, ps, F, hm, hkp, hb⟩ := F.ex
  rw [← hS, ← hT] at F
  exact ex_call (by rw [← hS]; exact F) (hr.mono hk) hg hm hkp hb hx ha hdb he hpl
end
end PL
set_option Elab.async false
set_option linter.all false
set_option maxRecDepth 100000
namespace PL
open PySem PySem.Spec PyProof.Rows L2

abbrev T (r : List Int) : D := .tup (r.map D.int)
abbrev Ls (r : List Int) : D := .lst (r.map D.int)
def Pure (c : PC) (r : TSt) (N : List Str) : Prop := ∀ ds Q X, c ds Q X → r { nx := fun _ => Q .non, rt := Q, ex := X } (startD N ds)

mutual
def dEq : D → D → Bool
  | .non, .non => true
  | .bl a, .bl b => a == b
  | .int i, .int j => decide (i = j)
  | .str x, .str y => x == y
  | .tup a, .tup b => dEqL a b
  | .lst a, .lst b => dEqL a b
  | _, _ => false
def dEqL : List D → List D → Bool
  | [], [] => true
  | a :: as, b :: bs => dEq a b && dEqL as bs
  | _, _ => false
end
theorem toPL_ints : ∀ ns : List Int, toPL (ns.map D.int) = ns.map PyData.int
  | [] => rfl
  | n :: ns => by
    rw [List.map_cons, List.map_cons]
    show toP (.int n) :: toPL (ns.map D.int) = _
    rw [toPL_ints ns]; rfl
theorem lay_ints : ∀ ns : List Int, PyData.canLayAll0 (ns.map PyData.int) = true
  | [] => rfl
  | n :: ns => by
    rw [List.map_cons]
    simp [PyData.canLayAll0, lay_ints ns, PyData.canLay0]
theorem plainL_ints : ∀ ns : List Int, plainL (ns.map D.int) = true
  | [] => rfl
  | n :: ns => by
    rw [List.map_cons]
    show (true && plainL (ns.map D.int)) = true
    rw [plainL_ints ns]; rfl
theorem okE_T (r : List Int) : okE (T r) = true := by
  unfold okE
  rw [show plain (T r) = true from plainL_ints r]
  show SeqAt.shaped (.tuple (toPL (r.map D.int))) = true
  rw [toPL_ints]
  simp [SeqAt.shaped, PyData.canLay0, lay_ints, PyData.depth, depth_ints]
theorem okE_L (r : List Int) : okE (Ls r) = true := by
  unfold okE
  rw [show plain (Ls r) = true from plainL_ints r]
  show SeqAt.shaped (.list (toPL (r.map D.int))) = true
  rw [toPL_ints]
  simp [SeqAt.shaped, PyData.canLay0, lay_ints, PyData.depth, depth_ints]
theorem eqvAll_ints : ∀ a b : List Int, PyData.eqvAll (a.map PyData.int) (b.map PyData.int) = decide (a = b)
  | [], [] => by simp [PyData.eqvAll]
  | [], _ :: _ => by simp [PyData.eqvAll]
  | _ :: _, [] => by simp [PyData.eqvAll]
  | x :: a, y :: b => by
    rw [List.map_cons, List.map_cons]
    simp only [PyData.eqvAll, PyData.eqv, eqvAll_ints a b, List.cons.injEq, Bool.decide_and]
    congr 1
theorem deq_T (a b : List Int) : deq (T a) (T b) = decide (a = b) := by
  show PyData.eqvAll (toPL (a.map D.int)) (toPL (b.map D.int)) = _
  rw [toPL_ints, toPL_ints, eqvAll_ints]
theorem deq_L (a b : List Int) : deq (Ls a) (Ls b) = decide (a = b) := by
  show PyData.eqvAll (toPL (a.map D.int)) (toPL (b.map D.int)) = _
  rw [toPL_ints, toPL_ints, eqvAll_ints]
theorem qNe_T {a b : List Int} {K : Tm → Prop} (h : K (.d (.bl (!decide (a = b))))) : qNe (T a) (T b) K := ⟨okE_T a, okE_T b, by rw [deq_T]; exact h⟩
theorem qEq_T {a b : List Int} {K : Tm → Prop} (h : K (.d (.bl (decide (a = b))))) : qEq (T a) (T b) K := ⟨okE_T a, okE_T b, by rw [deq_T]; exact h⟩
theorem qNe_refl {a b : List Int} {K : Tm → Prop} (e : a = b) (h : K (.d (.bl false))) : qNe (T a) (T b) K := qNe_T (by rw [decide_eq_true e]; exact h)
theorem qEq_refl {a b : List Int} {K : Tm → Prop} (e : a = b) (h : K (.d (.bl true))) : qEq (T a) (T b) K := qEq_T (by rw [decide_eq_true e]; exact h)

def okN (n : Nat) (d : D) : Prop := plain d = true ∧ PyData.canLay0 (toP d) = true ∧ (toP d).depth ≤ n
theorem okN_okE {n : Nat} {d : D} (h : okN n d) (hn : n ≤ 64) : okE d = true := by
  unfold okE SeqAt.shaped
  rw [h.1, h.2.1, decide_eq_true (Nat.le_trans h.2.2 hn)]
  rfl
theorem okN_all {n : Nat} : ∀ {l : List D}, (∀ d ∈ l, okN n d) → plainL l = true ∧ PyData.canLayAll0 (toPL l) = true ∧ PyData.depthAll (toPL l) ≤ n
  | [], _ => ⟨rfl, rfl, Nat.zero_le _⟩
  | d :: l, h => by
    obtain ⟨a, b, c⟩ := okN_all fun x hx => h x (List.mem_cons_of_mem _ hx)
    obtain ⟨a1, b1, c1⟩ := h d List.mem_cons_self
    refine ⟨?_, ?_, ?_⟩
    · show (plain d && plainL l) = true
      rw [a1, a]; rfl
    · show PyData.canLayAll0 (toP d :: toPL l) = true
      simp [PyData.canLayAll0, b1, b]
    · show PyData.depthAll (toP d :: toPL l) ≤ n
      simp only [PyData.depthAll]
      omega
theorem okN_lst {n : Nat} {l : List D} (h : ∀ d ∈ l, okN n d) : okN (n + 1) (.lst l) := by
  obtain ⟨a, b, c⟩ := okN_all h
  refine ⟨a, ?_, ?_⟩
  · show PyData.canLay0 (.list (toPL l)) = true
    simp [PyData.canLay0, b]
  · show PyData.depth (.list (toPL l)) ≤ n + 1
    simp only [PyData.depth]
    omega
theorem okN_tup {n : Nat} {l : List D} (h : ∀ d ∈ l, okN n d) : okN (n + 1) (.tup l) := by
  obtain ⟨a, b, c⟩ := okN_all h
  refine ⟨a, ?_, ?_⟩
  · show PyData.canLay0 (.tuple (toPL l)) = true
    simp [PyData.canLay0, b]
  · show PyData.depth (.tuple (toPL l)) ≤ n + 1
    simp only [PyData.depth]
    omega
theorem okN_int {n : Nat} (i : Int) : okN n (.int i) := ⟨rfl, by simp [toP, PyData.canLay0], by simp [toP, PyData.depth]⟩
theorem okN_bl {n : Nat} (i : Bool) : okN n (.bl i) := ⟨rfl, by simp [toP, PyData.canLay0], by simp [toP, PyData.depth]⟩
theorem okN_non {n : Nat} : okN n .non := ⟨rfl, by simp [toP, PyData.canLay0], by simp [toP, PyData.depth]⟩
theorem okN_T {n : Nat} (r : List Int) : okN (n + 1) (T r) := okN_tup fun d hd => by
  obtain ⟨i, _, rfl⟩ := List.mem_map.mp hd
  exact okN_int i
theorem okN_Ls {n : Nat} (r : List Int) : okN (n + 1) (Ls r) := okN_lst fun d hd => by
  obtain ⟨i, _, rfl⟩ := List.mem_map.mp hd
  exact okN_int i
mutual
theorem deq_refl : ∀ {d : D}, plain d = true → PyData.eqv (toP d) (toP d) = true
  | .non, _ => by simp [toP, PyData.eqv]
  | .bl b, _ => by simp [toP, PyData.eqv]
  | .int i, _ => by simp [toP, PyData.eqv]
  | .str s, _ => by simp [toP, PyData.eqv]
  | .tup l, h => by
    show PyData.eqv (.tuple (toPL l)) (.tuple (toPL l)) = true
    simp only [PyData.eqv]
    exact deq_reflL (show plainL l = true from h)
  | .lst l, h => by
    show PyData.eqv (.list (toPL l)) (.list (toPL l)) = true
    simp only [PyData.eqv]
    exact deq_reflL (show plainL l = true from h)
  | .dK _, h => by cases h
  | .dT _, h => by cases h
  | .scr _, h => by cases h
  | .op _, h => by cases h
  | .draw, h => by cases h
  | .exn _, h => by cases h
theorem deq_reflL : ∀ {l : List D}, plainL l = true → PyData.eqvAll (toPL l) (toPL l) = true
  | [], _ => by simp [toPL, PyData.eqvAll]
  | d :: l, h => by
    have q : plain d = true ∧ plainL l = true := by simpa [plainL] using h
    show PyData.eqvAll (toP d :: toPL l) (toP d :: toPL l) = true
    simp only [PyData.eqvAll]
    rw [deq_refl q.1, deq_reflL q.2]; rfl
end
theorem qNe_same {x y : D} {n : Nat} {K : Tm → Prop} (e : x = y) (hx : okN n x) (hn : n ≤ 64) (h : K (.d (.bl false))) : qNe x y K := by
  subst e
  have a := okN_okE hx hn
  have b : deq x x = true := deq_refl hx.1
  unfold qNe
  split
  · rw [decide_eq_true rfl]; exact h
  · rw [decide_eq_true rfl]; exact h
  · rw [b]; exact ⟨a, a, h⟩
theorem qEq_same {x y : D} {n : Nat} {K : Tm → Prop} (e : x = y) (hx : okN n x) (hn : n ≤ 64) (h : K (.d (.bl true))) : qEq x y K := by
  subst e
  have a := okN_okE hx hn
  have b : deq x x = true := deq_refl hx.1
  unfold qEq
  split
  · rw [decide_eq_true rfl]; exact h
  · rw [decide_eq_true rfl]; exact h
  · rw [b]; exact ⟨a, a, h⟩
theorem small1000' {n : Nat} (h : n < 4000) : n < sizeLine := Nat.lt_of_lt_of_le h (by decide)
theorem pu_use_d {x : D} {ρ : Rho} {K : D → Rho → Prop} : use (.d x) ρ K = K x ρ := rfl
theorem pu_use_olst {x : List D} {ρ : Rho} {K : D → Rho → Prop} : use (.o (.lst x)) ρ K = K (.lst x) ρ := rfl
theorem pu_peek_olst {x : List D} {ρ : Rho} {K : D → Prop} : peek (.o (.lst x)) ρ K = K (.lst x) := rfl
theorem pu_use_odK {x : List (Key × D)} {ρ : Rho} {K : D → Rho → Prop} : use (.o (.dK x)) ρ K = K (.dK x) ρ := rfl
theorem pu_peek_odK {x : List (Key × D)} {ρ : Rho} {K : D → Prop} : peek (.o (.dK x)) ρ K = K (.dK x) := rfl
theorem pu_use_odT {x : List (List Key × D)} {ρ : Rho} {K : D → Rho → Prop} : use (.o (.dT x)) ρ K = K (.dT x) ρ := rfl
theorem pu_peek_odT {x : List (List Key × D)} {ρ : Rho} {K : D → Prop} : peek (.o (.dT x)) ρ K = K (.dT x) := rfl
theorem pu_peek_d {x : D} {ρ : Rho} {K : D → Prop} : peek (.d x) ρ K = K x := rfl
def useS (i : Nat) (s : Sl) (ρ : Rho) (K : D → Rho → Prop) : Prop := match s with
    | .ow o => K o.d (setS ρ i (.va o.d))
    | .va d => K d ρ
    | .no => False
def peekS (s : Sl) (K : D → Prop) : Prop := match s with
    | .ow o => K o.d
    | .va d => K d
    | .no => False
def varS (i : Nat) (s : Sl) (ρ : Rho) (Q : Tm → Rho → Prop) : Prop := match s with
  | .va d => Q (.d d) ρ
  | .ow _ => Q (.r i) ρ
  | .no => False
theorem pu_use_r {i : Nat} {ρ : Rho} {K : D → Rho → Prop} : use (.r i) ρ K = useS i (getS ρ i) ρ K := rfl
theorem pu_peek_r {i : Nat} {ρ : Rho} {K : D → Prop} : peek (.r i) ρ K = peekS (getS ρ i) K := rfl
theorem pu_var {i : Nat} {ρ : Rho} {Q : Tm → Rho → Prop} {X : Exn → Prop} : dVar i ρ Q X = varS i (getS ρ i) ρ Q := rfl
theorem pu_useS_va {i : Nat} {d : D} {ρ : Rho} {K : D → Rho → Prop} : useS i (.va d) ρ K = K d ρ := rfl
theorem pu_peekS_va {d : D} {K : D → Prop} : peekS (.va d) K = K d := rfl
theorem pu_varS_va {i : Nat} {d : D} {ρ : Rho} {Q : Tm → Rho → Prop} : varS i (.va d) ρ Q = Q (.d d) ρ := rfl
theorem pu_varS_ow {i : Nat} {o : Own} {ρ : Rho} {Q : Tm → Rho → Prop} : varS i (.ow o) ρ Q = Q (.r i) ρ := rfl
theorem pu_useS_lst {i : Nat} {x : List D} {ρ : Rho} {K : D → Rho → Prop} : useS i (.ow (.lst x)) ρ K = K (.lst x) (setS ρ i (.va (.lst x))) := rfl
theorem pu_peekS_lst {x : List D} {K : D → Prop} : peekS (.ow (.lst x)) K = K (.lst x) := rfl
theorem pu_useS_dK {i : Nat} {x : List (Key × D)} {ρ : Rho} {K : D → Rho → Prop} : useS i (.ow (.dK x)) ρ K = K (.dK x) (setS ρ i (.va (.dK x))) := rfl
theorem pu_peekS_dK {x : List (Key × D)} {K : D → Prop} : peekS (.ow (.dK x)) K = K (.dK x) := rfl
theorem pu_useS_dT {i : Nat} {x : List (List Key × D)} {ρ : Rho} {K : D → Rho → Prop} : useS i (.ow (.dT x)) ρ K = K (.dT x) (setS ρ i (.va (.dT x))) := rfl
theorem pu_peekS_dT {x : List (List Key × D)} {K : D → Prop} : peekS (.ow (.dT x)) K = K (.dT x) := rfl
theorem pu_get0 {s : Sl} {ρ : Rho} : getS (s :: ρ) 0 = s := rfl
theorem pu_getS {s : Sl} {ρ : Rho} {i : Nat} : getS (s :: ρ) (i + 1) = getS ρ i := rfl
theorem pu_set0 {s x : Sl} {ρ : Rho} : setS (s :: ρ) 0 x = x :: ρ := rfl
theorem pu_setS {s x : Sl} {ρ : Rho} {i : Nat} : setS (s :: ρ) (i + 1) x = s :: setS ρ i x := rfl
theorem pu_wipe0 {ρ : Rho} : wipeR ρ [] = ρ := rfl
theorem pu_wipeS {ρ : Rho} {v : Nat} {vs : List Nat} : wipeR ρ (v :: vs) = setS (wipeR ρ vs) v .no := rfl
theorem pu_asg_d {i : Nat} {d : D} {ρ : Rho} {K : Rho → Prop} : asg i (.d d) ρ K = K (setS ρ i (.va d)) := rfl
theorem pu_asg_o {i : Nat} {d : Own} {ρ : Rho} {K : Rho → Prop} : asg i (.o d) ρ K = K (setS ρ i (.ow d)) := rfl
theorem pu_asg_r {i j : Nat} {ρ : Rho} {K : Rho → Prop} : asg i (.r j) ρ K = use (.r j) ρ fun d ρ1 => K (setS ρ1 i (.va d)) := rfl
theorem pu_fz_d {d : D} {ρ : Rho} {K : Tm → Rho → Prop} : fz (.d d) ρ K = K (.d d) ρ := rfl
theorem pu_fz_o {d : Own} {ρ : Rho} {K : Tm → Rho → Prop} : fz (.o d) ρ K = K (.o d) ρ := rfl
theorem pu_fz_r {j : Nat} {ρ : Rho} {K : Tm → Rho → Prop} : fz (.r j) ρ K = use (.r j) ρ fun d ρ1 => K (.d d) ρ1 := rfl
theorem pu_toSl_d {d : D} : toSl (.d d) = .va d := rfl
theorem pu_toSl_o {d : Own} : toSl (.o d) = .ow d := rfl
theorem pu_isB {b : Bool} {K : Bool → Prop} : isB (.d (.bl b)) K = K b := rfl
theorem pu_qAdd {i j : Int} {K : Tm → Prop} : qAdd (.int i) (.int j) K = K (.d (.int (i + j))) := rfl
theorem pu_qAddT {a b : List D} {K : Tm → Prop} : qAdd (.tup a) (.tup b) K = (a.length + b.length ≤ sizeLine ∧ K (.d (.tup (a ++ b)))) := rfl
theorem pu_qAddL {a b : List D} {K : Tm → Prop} : qAdd (.lst a) (.lst b) K = (a.length + b.length ≤ sizeLine ∧ K (.o (.lst (a ++ b)))) := rfl
theorem pu_qMul {i j : Int} {K : Tm → Prop} : qMul (.int i) (.int j) K = (CMulB i j ∧ K (.d (.int (i * j)))) := rfl
theorem pu_qMulT {a : List D} {k : Int} {K : Tm → Prop} : qMul (.tup a) (.int k) K = ((k ≤ 1000 ∧ -1000 ≤ k ∧ a.length ≤ 1000) ∧ K (.d (.tup (List.replicate k.toNat a).flatten))) := rfl
theorem pu_qMulL {a : List D} {k : Int} {K : Tm → Prop} : qMul (.lst a) (.int k) K = ((k ≤ 1000 ∧ -1000 ≤ k ∧ a.length ≤ 1000) ∧ K (.o (.lst (List.replicate k.toNat a).flatten))) := rfl
theorem pu_qSub {i j : Int} {K : Tm → Prop} : qSub (.int i) (.int j) K = K (.d (.int (i - j))) := rfl
theorem pu_qMod {i j : Int} {K : Tm → Prop} : qMod (.int i) (.int j) K = (0 < j ∧ K (.d (.int (i % j)))) := rfl
theorem pu_qDiv {i j : Int} {K : Tm → Prop} : qDiv (.int i) (.int j) K = (CDivW i j ∧ K (.d (.int (i / j)))) := rfl
theorem pu_qPow {i j : Int} {K : Tm → Prop} : qPow (.int i) (.int j) K = (CPow i j ∧ K (.d (.int (i ^ j.toNat)))) := rfl
theorem pu_qLt {i j : Int} {K : Tm → Prop} : qLt (.int i) (.int j) K = K (.d (.bl (decide (i < j)))) := rfl
theorem pu_qLe {i j : Int} {K : Tm → Prop} : qLe (.int i) (.int j) K = K (.d (.bl (decide (i ≤ j)))) := rfl
theorem pu_qGt {i j : Int} {K : Tm → Prop} : qGt (.int i) (.int j) K = K (.d (.bl (decide (j < i)))) := rfl
theorem pu_qGe {i j : Int} {K : Tm → Prop} : qGe (.int i) (.int j) K = K (.d (.bl (decide (j ≤ i)))) := rfl
theorem pu_qMax2 {i j : Int} {K : Tm → Prop} : qMax2 (.int i) (.int j) K = K (.d (.int (max i j))) := rfl
theorem pu_qMin2 {i j : Int} {K : Tm → Prop} : qMin2 (.int i) (.int j) K = K (.d (.int (min i j))) := rfl
theorem pu_qEq {i j : Int} {K : Tm → Prop} : qEq (.int i) (.int j) K = K (.d (.bl (decide (i = j)))) := rfl
theorem pu_qNe {i j : Int} {K : Tm → Prop} : qNe (.int i) (.int j) K = K (.d (.bl (!decide (i = j)))) := rfl
theorem pu_qNeg {i : Int} {K : Tm → Prop} : qNeg (.int i) K = K (.d (.int (-i))) := rfl
theorem pu_qAbs {i : Int} {K : Tm → Prop} : qAbs (.int i) K = K (.d (.int (if i < 0 then -i else i))) := rfl
theorem pu_qInt {i : Int} {K : Tm → Prop} : qInt (.int i) K = K (.d (.int i)) := rfl
theorem pu_qLenT {l : List D} {K : Tm → Prop} : qLen (.tup l) K = K (.d (.int l.length)) := rfl
theorem pu_qLenL {l : List D} {K : Tm → Prop} : qLen (.lst l) K = K (.d (.int l.length)) := rfl
theorem pu_qLenS {l : List Int} {K : Tm → Prop} : qLen (.scr l) K = K (.d (.int l.length)) := rfl
theorem pu_qLstT {l : List D} {K : Tm → Prop} : qList (.tup l) K = K (.o (.lst l)) := rfl
theorem pu_qLstL {l : List D} {K : Tm → Prop} : qList (.lst l) K = K (.o (.lst l)) := rfl
theorem pu_qTupT {l : List D} {K : Tm → Prop} : qTuple (.tup l) K = K (.d (.tup l)) := rfl
theorem pu_qTupL {l : List D} {K : Tm → Prop} : qTuple (.lst l) K = K (.d (.tup l)) := rfl
theorem pu_qSlT {l : List D} {lo hi : Option Int} {K : Tm → Prop} : qSl (.tup l) lo hi K = K (.d (.tup (cutD l lo hi))) := rfl
theorem pu_qSlL {l : List D} {lo hi : Option Int} {K : Tm → Prop} : qSl (.lst l) lo hi K = K (.o (.lst (cutD l lo hi))) := rfl
def atLS (s : Nat) (x : Sl) (K : Nat → List D → Prop) : Prop := match x with
    | .ow (.lst ds) => K s ds
    | _ => False
theorem pu_atL {s : Nat} {ρ : Rho} {K : Nat → List D → Prop} : atL (.r s) ρ K = atLS s (getS ρ s) K := rfl
theorem pu_atLS {s : Nat} {ds : List D} {K : Nat → List D → Prop} : atLS s (.ow (.lst ds)) K = K s ds := rfl
theorem pu_gT {n : Nat} {gs : TGps} {ds : List D} {ρ : Rho} {K : Rho → Prop} : gT n gs (.tup ds) ρ K = (ds.length = n ∧ gs ds ρ K) := rfl
theorem pu_gpC {g : TGp} {gs : TGps} {d : D} {r : List D} {ρ : Rho} {K : Rho → Prop} : gpCons g gs (d :: r) ρ K = g d ρ fun ρ1 => gs r ρ1 K := rfl
theorem pu_gpN {ρ : Rho} {K : Rho → Prop} : gpNil [] ρ K = K ρ := rfl
theorem pu_ty_non  : tyD (.non) = some "NoneType" := rfl
theorem pu_ty_bl {x : Bool} : tyD (.bl x) = some "bool" := rfl
theorem pu_ty_int {x : Int} : tyD (.int x) = some "int" := rfl
theorem pu_ty_str {x : Str} : tyD (.str x) = some "str" := rfl
theorem pu_ty_tup {x : List D} : tyD (.tup x) = some "tuple" := rfl
theorem pu_ty_lst {x : List D} : tyD (.lst x) = some "list" := rfl
theorem pu_qEqS {a b : Str} {K : Tm → Prop} : qEq (.str a) (.str b) K = K (.d (.bl (decide (a = b)))) := rfl
theorem pu_qNeS {a b : Str} {K : Tm → Prop} : qNe (.str a) (.str b) K = K (.d (.bl (!decide (a = b)))) := rfl
theorem pu_isi_non_int  {K : Tm → Prop} : qIsi (.non) (.op (.ty "int")) K = K (.d (.bl false)) := rfl
theorem pu_isi_non_bool  {K : Tm → Prop} : qIsi (.non) (.op (.ty "bool")) K = K (.d (.bl false)) := rfl
theorem pu_isi_non_str  {K : Tm → Prop} : qIsi (.non) (.op (.ty "str")) K = K (.d (.bl false)) := rfl
theorem pu_isi_non_tuple  {K : Tm → Prop} : qIsi (.non) (.op (.ty "tuple")) K = K (.d (.bl false)) := rfl
theorem pu_isi_non_list  {K : Tm → Prop} : qIsi (.non) (.op (.ty "list")) K = K (.d (.bl false)) := rfl
theorem pu_isi_non_dict  {K : Tm → Prop} : qIsi (.non) (.op (.ty "dict")) K = K (.d (.bl false)) := rfl
theorem pu_isi_bl_int {x : Bool} {K : Tm → Prop} : qIsi (.bl x) (.op (.ty "int")) K = K (.d (.bl true)) := rfl
theorem pu_isi_bl_bool {x : Bool} {K : Tm → Prop} : qIsi (.bl x) (.op (.ty "bool")) K = K (.d (.bl true)) := rfl
theorem pu_isi_bl_str {x : Bool} {K : Tm → Prop} : qIsi (.bl x) (.op (.ty "str")) K = K (.d (.bl false)) := rfl
theorem pu_isi_bl_tuple {x : Bool} {K : Tm → Prop} : qIsi (.bl x) (.op (.ty "tuple")) K = K (.d (.bl false)) := rfl
theorem pu_isi_bl_list {x : Bool} {K : Tm → Prop} : qIsi (.bl x) (.op (.ty "list")) K = K (.d (.bl false)) := rfl
theorem pu_isi_bl_dict {x : Bool} {K : Tm → Prop} : qIsi (.bl x) (.op (.ty "dict")) K = K (.d (.bl false)) := rfl
theorem pu_isi_int_int {x : Int} {K : Tm → Prop} : qIsi (.int x) (.op (.ty "int")) K = K (.d (.bl true)) := rfl
theorem pu_isi_int_bool {x : Int} {K : Tm → Prop} : qIsi (.int x) (.op (.ty "bool")) K = K (.d (.bl false)) := rfl
theorem pu_isi_int_str {x : Int} {K : Tm → Prop} : qIsi (.int x) (.op (.ty "str")) K = K (.d (.bl false)) := rfl
theorem pu_isi_int_tuple {x : Int} {K : Tm → Prop} : qIsi (.int x) (.op (.ty "tuple")) K = K (.d (.bl false)) := rfl
theorem pu_isi_int_list {x : Int} {K : Tm → Prop} : qIsi (.int x) (.op (.ty "list")) K = K (.d (.bl false)) := rfl
theorem pu_isi_int_dict {x : Int} {K : Tm → Prop} : qIsi (.int x) (.op (.ty "dict")) K = K (.d (.bl false)) := rfl
theorem pu_isi_str_int {x : Str} {K : Tm → Prop} : qIsi (.str x) (.op (.ty "int")) K = K (.d (.bl false)) := rfl
theorem pu_isi_str_bool {x : Str} {K : Tm → Prop} : qIsi (.str x) (.op (.ty "bool")) K = K (.d (.bl false)) := rfl
theorem pu_isi_str_str {x : Str} {K : Tm → Prop} : qIsi (.str x) (.op (.ty "str")) K = K (.d (.bl true)) := rfl
theorem pu_isi_str_tuple {x : Str} {K : Tm → Prop} : qIsi (.str x) (.op (.ty "tuple")) K = K (.d (.bl false)) := rfl
theorem pu_isi_str_list {x : Str} {K : Tm → Prop} : qIsi (.str x) (.op (.ty "list")) K = K (.d (.bl false)) := rfl
theorem pu_isi_str_dict {x : Str} {K : Tm → Prop} : qIsi (.str x) (.op (.ty "dict")) K = K (.d (.bl false)) := rfl
theorem pu_isi_tup_int {x : List D} {K : Tm → Prop} : qIsi (.tup x) (.op (.ty "int")) K = K (.d (.bl false)) := rfl
theorem pu_isi_tup_bool {x : List D} {K : Tm → Prop} : qIsi (.tup x) (.op (.ty "bool")) K = K (.d (.bl false)) := rfl
theorem pu_isi_tup_str {x : List D} {K : Tm → Prop} : qIsi (.tup x) (.op (.ty "str")) K = K (.d (.bl false)) := rfl
theorem pu_isi_tup_tuple {x : List D} {K : Tm → Prop} : qIsi (.tup x) (.op (.ty "tuple")) K = K (.d (.bl true)) := rfl
theorem pu_isi_tup_list {x : List D} {K : Tm → Prop} : qIsi (.tup x) (.op (.ty "list")) K = K (.d (.bl false)) := rfl
theorem pu_isi_tup_dict {x : List D} {K : Tm → Prop} : qIsi (.tup x) (.op (.ty "dict")) K = K (.d (.bl false)) := rfl
theorem pu_isi_lst_int {x : List D} {K : Tm → Prop} : qIsi (.lst x) (.op (.ty "int")) K = K (.d (.bl false)) := rfl
theorem pu_isi_lst_bool {x : List D} {K : Tm → Prop} : qIsi (.lst x) (.op (.ty "bool")) K = K (.d (.bl false)) := rfl
theorem pu_isi_lst_str {x : List D} {K : Tm → Prop} : qIsi (.lst x) (.op (.ty "str")) K = K (.d (.bl false)) := rfl
theorem pu_isi_lst_tuple {x : List D} {K : Tm → Prop} : qIsi (.lst x) (.op (.ty "tuple")) K = K (.d (.bl false)) := rfl
theorem pu_isi_lst_list {x : List D} {K : Tm → Prop} : qIsi (.lst x) (.op (.ty "list")) K = K (.d (.bl true)) := rfl
theorem pu_isi_lst_dict {x : List D} {K : Tm → Prop} : qIsi (.lst x) (.op (.ty "dict")) K = K (.d (.bl false)) := rfl
theorem pu_isi_dK_int {x : List (Key × D)} {K : Tm → Prop} : qIsi (.dK x) (.op (.ty "int")) K = K (.d (.bl false)) := rfl
theorem pu_isi_dK_bool {x : List (Key × D)} {K : Tm → Prop} : qIsi (.dK x) (.op (.ty "bool")) K = K (.d (.bl false)) := rfl
theorem pu_isi_dK_str {x : List (Key × D)} {K : Tm → Prop} : qIsi (.dK x) (.op (.ty "str")) K = K (.d (.bl false)) := rfl
theorem pu_isi_dK_tuple {x : List (Key × D)} {K : Tm → Prop} : qIsi (.dK x) (.op (.ty "tuple")) K = K (.d (.bl false)) := rfl
theorem pu_isi_dK_list {x : List (Key × D)} {K : Tm → Prop} : qIsi (.dK x) (.op (.ty "list")) K = K (.d (.bl false)) := rfl
theorem pu_isi_dK_dict {x : List (Key × D)} {K : Tm → Prop} : qIsi (.dK x) (.op (.ty "dict")) K = K (.d (.bl true)) := rfl
theorem pu_isi_dT_int {x : List (List Key × D)} {K : Tm → Prop} : qIsi (.dT x) (.op (.ty "int")) K = K (.d (.bl false)) := rfl
theorem pu_isi_dT_bool {x : List (List Key × D)} {K : Tm → Prop} : qIsi (.dT x) (.op (.ty "bool")) K = K (.d (.bl false)) := rfl
theorem pu_isi_dT_str {x : List (List Key × D)} {K : Tm → Prop} : qIsi (.dT x) (.op (.ty "str")) K = K (.d (.bl false)) := rfl
theorem pu_isi_dT_tuple {x : List (List Key × D)} {K : Tm → Prop} : qIsi (.dT x) (.op (.ty "tuple")) K = K (.d (.bl false)) := rfl
theorem pu_isi_dT_list {x : List (List Key × D)} {K : Tm → Prop} : qIsi (.dT x) (.op (.ty "list")) K = K (.d (.bl false)) := rfl
theorem pu_isi_dT_dict {x : List (List Key × D)} {K : Tm → Prop} : qIsi (.dT x) (.op (.ty "dict")) K = K (.d (.bl true)) := rfl
theorem wh_intro {c : TB} {tb : TSt} {P : PEnds} {n : Nat} {ρ : Rho} (h : ∀ W : Rho → Prop, W = wh c tb P n → c ρ (fun b ρ1 => match b with
    | true => tb { P with nx := W, ct := W, bk := P.nx } ρ1
    | false => P.nx ρ1) P.ex) : wh c tb P (n + 1) ρ := h _ rfl
theorem fo_intro {g : TGp} {tb : TSt} {P : PEnds} {d : D} {ds : List D} {ρ : Rho} (h : ∀ W : Rho → Prop, W = fo g tb P ds → g d ρ fun ρ2 => tb { P with nx := W, ct := W, bk := P.nx } ρ2) : fo g tb P (d :: ds) ρ := h _ rfl
inductive All2 {α β : Type} (R : α → β → Prop) : List α → List β → Prop
  | nil : All2 R [] []
  | cons {a b as bs} : R a b → All2 R as bs → All2 R (a :: as) (b :: bs)
theorem All2.length {α β : Type} {R : α → β → Prop} : ∀ {as : List α} {bs : List β}, All2 R as bs → as.length = bs.length
  | _, _, .nil => rfl
  | _, _, .cons _ t => by rw [List.length_cons, List.length_cons, All2.length t]
theorem lc_gen {g : TGp} {tt : TB} {te : TD} {vs : List Nat} {ρ0 : Rho} {R : D → Option D → Prop} : ∀ {ds acc : List D} {K : List D → Prop}, acc.length + ds.length ≤ 4000 →
    (∀ d ∈ ds, ∀ (J : D → Prop) (Jf : Prop), (∀ x, R d (some x) → J x) → (R d none → Jf) → g d ρ0 fun ρ2 => tt ρ2 (fun b ρ3 => match b with
      | true => te ρ3 (fun m ρ4 => use m ρ4 fun x ρ5 => wipeR ρ5 vs = ρ0 ∧ J x) noX
      | false => wipeR ρ3 vs = ρ0 ∧ Jf) noX) → (∀ xs, All2 R ds xs → K (acc ++ xs.filterMap id)) → lcq g tt te vs ρ0 ds acc K
  | [], acc, K, _, _, hk => by
    have := hk [] .nil
    rwa [List.filterMap_nil, List.append_nil] at this
  | d :: ds, acc, K, hl, h, hk => by
    rw [List.length_cons] at hl
    refine h d List.mem_cons_self (fun x => acc.length < sizeLine ∧ lcq g tt te vs ρ0 ds (acc ++ [x]) K) (lcq g tt te vs ρ0 ds acc K) (fun x rx => ?_) fun rn => ?_
    · refine ⟨small1000' (by omega), lc_gen (by rw [List.length_append, List.length_singleton]; omega) (fun d' hd' => h d' (List.mem_cons_of_mem _ hd')) fun xs hx => ?_⟩
      have q := hk (some x :: xs) (.cons rx hx)
      simp only [List.filterMap_cons, id] at q
      rw [List.append_assoc]
      exact q
    · refine lc_gen (by omega) (fun d' hd' => h d' (List.mem_cons_of_mem _ hd')) fun xs hx => ?_
      have q := hk (none :: xs) (.cons rn hx)
      simp only [List.filterMap_cons, id] at q
      exact q
theorem lc_rel {g : TGp} {te : TD} {vs : List Nat} {ρ0 : Rho} {R : D → D → Prop} : ∀ {ds acc : List D} {K : List D → Prop}, acc.length + ds.length ≤ 4000 →
    (∀ d ∈ ds, ∀ (J : D → Prop), (∀ x, R d x → J x) → g d ρ0 fun ρ2 => te ρ2 (fun m ρ4 => use m ρ4 fun x ρ5 => wipeR ρ5 vs = ρ0 ∧ J x) noX) → (∀ xs, All2 R ds xs → K (acc ++ xs)) → lcq g bYes te vs ρ0 ds acc K
  | [], acc, K, _, _, hk => by
    have := hk [] .nil
    rwa [List.append_nil] at this
  | d :: ds, acc, K, hl, h, hk => by
    rw [List.length_cons] at hl
    refine h d List.mem_cons_self (fun x => acc.length < sizeLine ∧ lcq g bYes te vs ρ0 ds (acc ++ [x]) K) (fun x rx => ?_)
    refine ⟨small1000' (by omega), lc_rel (by rw [List.length_append, List.length_singleton]; omega) (fun d' hd' => h d' (List.mem_cons_of_mem _ hd')) fun xs hx => ?_⟩
    have q := hk (x :: xs) (.cons rx hx)
    rw [List.append_assoc]
    exact q
theorem all2_map {α β : Type} {f : α → β} : ∀ {as : List α} {bs : List β}, All2 (fun a b => b = f a) as bs → bs = as.map f
  | _, _, .nil => rfl
  | _, _, .cons h t => by rw [h, all2_map t, List.map_cons]
theorem lc_map {g : TGp} {te : TD} {vs : List Nat} {ρ0 : Rho} (f : D → D) {ds : List D} {K : List D → Prop} (hl : ds.length ≤ 4000)
    (h : ∀ d ∈ ds, ∀ (J : D → Prop), J (f d) → g d ρ0 fun ρ2 => te ρ2 (fun m ρ4 => use m ρ4 fun x ρ5 => wipeR ρ5 vs = ρ0 ∧ J x) noX) (hk : K (ds.map f)) : lcq g bYes te vs ρ0 ds [] K :=
  lc_rel (R := fun d x => x = f d) (by rw [List.length_nil]; omega) (fun d hd J hJ => h d hd J (hJ _ rfl)) fun xs hx => by rw [all2_map hx]; exact hk
theorem lc_ints {g : TGp} {te : TD} {vs : List Nat} {ρ0 : Rho} (f : Int → Int) {ns : List Int} {K : List D → Prop} (hl : ns.length ≤ 4000)
    (h : ∀ n ∈ ns, ∀ (J : D → Prop), J (.int (f n)) → g (.int n) ρ0 fun ρ2 => te ρ2 (fun m ρ4 => use m ρ4 fun x ρ5 => wipeR ρ5 vs = ρ0 ∧ J x) noX) (hk : K ((ns.map f).map D.int)) : lcq g bYes te vs ρ0 (ns.map D.int) [] K := by
  refine lc_map (fun d => match d with | .int n => .int (f n) | d => d) (by rw [List.length_map]; exact hl) (fun d hd J hJ => ?_) ?_
  · obtain ⟨n, hn, rfl⟩ := List.mem_map.mp hd
    exact h n hn J hJ
  · rw [List.map_map] at hk ⊢
    exact hk
theorem rng_ints (lo hi : Int) : rngD lo hi = ((List.range (hi - lo).toNat).map fun i => lo + (i : Nat)).map D.int := by
  unfold rngD
  rw [List.map_map]
  rfl
theorem rng0 (n : Nat) : rngD 0 n = ((List.range n).map fun i => ((i : Nat) : Int)).map D.int := by
  rw [rng_ints, show ((n : Int) - 0).toNat = n by omega]
  congr 1
  refine List.map_congr_left fun i _ => ?_
  omega
theorem all2_ints {R : D → D → Prop} {P : Int → Prop} (hR : ∀ d x, R d x → ∃ i, x = .int i ∧ P i) : ∀ {ds xs : List D}, All2 R ds xs → ∃ ns : List Int, xs = ns.map D.int ∧ ns.length = ds.length ∧ ∀ n ∈ ns, P n
  | _, _, .nil => ⟨[], rfl, rfl, by simp⟩
  | _, _, .cons h t => by
    obtain ⟨i, rfl, p⟩ := hR _ _ h
    obtain ⟨ns, rfl, l, q⟩ := all2_ints hR t
    exact ⟨i :: ns, rfl, by rw [List.length_cons, List.length_cons, l], fun n hn => by
      rcases List.mem_cons.mp hn with e | e
      · rw [e]; exact p
      · exact q n e⟩

theorem ixN_nat {n i : Nat} (h : i < n) : ixN n (i : Int) = some i := by
  unfold ixN
  rw [if_pos (by omega), if_pos (by omega), Int.toNat_natCast]
theorem atI_nat {α : Type} (l : List α) (i : Nat) (h : i < l.length) : L2.atI l (i : Int) = l[i]? := by
  unfold L2.atI
  rw [ixN_nat h]
  rfl
theorem at_int (r : List Int) (i : Nat) (h : i < r.length) : L2.atI (r.map D.int) (i : Int) = some (.int (r.getD i 0)) := by
  rw [atI_nat _ _ (by rw [List.length_map]; exact h), List.getElem?_map, List.getD_eq_getElem?_getD, List.getElem?_eq_getElem h]
  rfl
theorem qIx_T {r : List Int} {i : Int} {K : Tm → Prop} (h0 : 0 ≤ i) (h1 : i < r.length) (h : K (.d (.int (r.getD i.toNat 0)))) : qIx (T r) (.int i) K := by
  obtain ⟨j, rfl⟩ := Int.eq_ofNat_of_zero_le h0
  show (match L2.atI (r.map D.int) (j : Int) with | some d => K (.d d) | none => False)
  rw [at_int r j (by omega)]
  exact h
theorem qIx_L {r : List Int} {i : Int} {K : Tm → Prop} (h0 : 0 ≤ i) (h1 : i < r.length) (h : K (.d (.int (r.getD i.toNat 0)))) : qIx (Ls r) (.int i) K := by
  obtain ⟨j, rfl⟩ := Int.eq_ofNat_of_zero_le h0
  show (match L2.atI (r.map D.int) (j : Int) with | some d => K (.d d) | none => False)
  rw [at_int r j (by omega)]
  exact h
theorem cut_lo (l : List D) (k : Nat) : cutD l (some (k : Int)) none = l.drop k := by
  unfold cutD
  rw [HT.sIx_nat, HT.sIx_none]
  rcases Nat.le_total k l.length with h | h
  · rw [Nat.min_eq_left h, List.take_of_length_le (by rw [List.length_drop]; omega)]
  · rw [Nat.min_eq_right h, List.drop_eq_nil_of_le (Nat.le_refl _), List.drop_eq_nil_of_le h, List.take_nil]
theorem cut_hi (l : List D) (k : Nat) : cutD l none (some (k : Int)) = l.take k := by
  unfold cutD
  rw [HT.sIx_nat, HT.sIx_none, List.drop_zero, Nat.sub_zero]
  rcases Nat.le_total k l.length with h | h
  · rw [Nat.min_eq_left h]
  · rw [Nat.min_eq_right h, List.take_of_length_le (Nat.le_refl _), List.take_of_length_le h]
theorem zip_T : ∀ a b : List Int, zipD (a.map D.int) (b.map D.int) = (a.zip b).map fun p => D.tup [.int p.1, .int p.2]
  | [], _ => by rw [List.map_nil]; rfl
  | _ :: _, [] => by rw [List.map_nil]; rfl
  | x :: a, y :: b => by
    rw [List.map_cons, List.map_cons, List.zip_cons_cons, List.map_cons]
    show D.tup [.int x, .int y] :: zipD (a.map D.int) (b.map D.int) = _
    rw [zip_T a b]
theorem lc_pairs {g : TGp} {te : TD} {vs : List Nat} {ρ0 : Rho} (f : Int → Int → Int) {ns : List (Int × Int)} {K : List D → Prop} (hl : ns.length ≤ 4000)
    (h : ∀ p ∈ ns, ∀ (J : D → Prop), J (.int (f p.1 p.2)) → g (.tup [.int p.1, .int p.2]) ρ0 fun ρ2 => te ρ2 (fun m ρ4 => use m ρ4 fun x ρ5 => wipeR ρ5 vs = ρ0 ∧ J x) noX) (hk : K ((ns.map fun p => f p.1 p.2).map D.int)) :
    lcq g bYes te vs ρ0 (ns.map fun p => D.tup [.int p.1, .int p.2]) [] K := by
  refine lc_map (fun d => match d with | .tup [.int a, .int b] => .int (f a b) | d => d) (by rw [List.length_map]; exact hl) (fun d hd J hJ => ?_) ?_
  · obtain ⟨n, hn, rfl⟩ := List.mem_map.mp hd
    exact h n hn J hJ
  · rw [List.map_map] at hk ⊢
    exact hk
end PL
set_option Elab.async false
set_option linter.all false
set_option maxRecDepth 100000
namespace PL
open PySem PySem.Spec PyProof.Rows L2
structure ExIn (K : PySem.W.Frag) (mg : Str → Option Value) (x : Str) (C : Addr) : Prop where
  at_ : mg x = some (.ref C)
  ex : PySem.W.excIn K C [.type "ValueError", .type "Exception", .type "BaseException", .type "object"] "ValueError.__new__" = true
  kp : PySem.W.keepIn K (.ref C) = true
  sb : PySem.W.subIn K (.ref C) (.type "BaseException") = some true
  ty : PySem.W.typeIn K (.ref C) = some (.type "type")
def dRaise (C : Addr) : TSt := fun P _ => P.ex ⟨C, []⟩
section
variable {X : Cx} {S : Sit} {E : XK} {pos p p2 pos2 : Pos} {x m : Str} {C : Addr} {j : Nat}
theorem sx_raise (hc : X.calm = true) (tk : Takes X (fun cls d _ H => E cls d H)) (F : ExIn X.K X.mg x C) (hg : Gl X x) (hdb : (x == ("__debug__" : Str)) = false := by decide) : SX X S E (.Raise (some (.Call (.Name x p) [.Constant (.str m) j p2] [] pos)) none pos2) (dRaise C) :=
  PS_imp (ps_raise hc tk (pmk_own PySem.F.excBase_ValueError F.ex F.at_ F.kp (raises_own F.sb F.ty) hg hdb)) fun Dn σ H ⟨F', ρ, P, R, ht, lp⟩ => lp.ex _ ht F' H _ none (Same.refl _) ⟨R.2.nil, rfl, rfl⟩
end
end PL
set_option Elab.async false
set_option linter.all false
set_option maxRecDepth 100000
namespace PL
open PySem PySem.Spec PyProof.Rows L2
theorem exV_ok {P : Program} {w : World} {H : Hp} {h : Heap} {a : Addr} {cls : Value} {oe : Obj} {vs : Array Value} (e : h.get? a = some oe) (z : Zc cls none oe) (d : oe.data = .fields vs) : ObjOk P w H h a (ExV cls a) :=
  ⟨⟨oe, vs, e, z, d⟩, ⟨oe, e⟩, fun _ _ ⟨o, v, q, r⟩ k => ⟨o, v, k o q, r⟩⟩
theorem inv_track {X : Cx} {pins : List (Addr × Obj)} {σ : L2.St} {H : Hp} {s : Shared} {a : Addr} {cls : Value} {oe : Obj} {vs : Array Value} (I : Inv X pins σ H s) (he : s.heap.get? a = some oe) (hz : Zc cls none oe) (hd : oe.data = .fields vs) (hn : H a = none)
    (nL : a ≠ X.env.locals) (n0 : X.s_0.heap.get? a = none) (np : ∀ p ∈ X.pn ++ pins, p.1 ≠ a) : Inv X pins σ (upd H a (ExV cls a)) s := by
  have nb : ∀ b u, H b = some u → b ≠ a := fun b u e => ne_of_none e hn
  refine ⟨I.ok, I.os, I.bare, ⟨I.base.keep, I.base.slot, fun b o e n hq => ?_, I.base.there, fun b xs e => ?_, fun b o u e => ?_, fun b ps e => ?_⟩, I.loc, I.cell, ?_, fun x c e => ?_, fun p hp => ?_, HOk.laidN I.hok (fun _ _ q => q) hn (exV_ok he hz hd), I.len⟩
  · rw [upd_ne (fun z => by subst z; rw [n0] at e; cases e)]
    exact I.base.free b o e n hq
  · have q := I.base.tups b xs e
    rw [upd_ne (nb _ _ q)]; exact q
  · have q := I.base.frzs b o u e
    rw [upd_ne (nb _ _ q)]; exact q
  · obtain ⟨m, q⟩ := I.base.tbls b ps e
    exact ⟨m, by rw [upd_ne (nb _ _ q)]; exact q⟩
  · rw [upd_ne nL.symm]; exact I.free
  · have hne : c ≠ a := fun z => by
      subst z
      obtain ⟨v, o, ho, hdc⟩ := I.cell x c e
      rw [he] at ho; cases ho
      rw [hd] at hdc; cases hdc
    rw [upd_ne hne]; exact I.freeC x c e
  · obtain ⟨e, n, ne, nf, d⟩ := I.pin p hp
    exact ⟨e, by rw [upd_ne (np p hp)]; exact n, ne, nf, d⟩
def wKp (m : Nat) (K : PySem.W.Frag) (c : Value) (i : Nat) (ts : Addr → Value → TS) (D : Ends) : WX := fun cls d σ H => d = none ∧ PySem.W.exmOne K cls c = some true ∧
  (σ.length = m → ∀ a, H a = none → ts a cls { nx := fun σ' H' => H' a = none → D.nx (σ'.set i none) (upd H' a (ExV cls a)), rt := fun _ _ => False } (σ.set i (some (.ref a))) H)
section
variable {X : Cx} {x n : Str} {c : Value} {i : Nat} {body suite : List Stmt} {b₀ : Stmt} {np pos pos' : Pos} {tb : WX → TS} {ts : Addr → Value → TS}
theorem ps_tryK (hex : X.ex = []) (hs : X.stack = X.env :: X.outer) (hf : X.env.frame = some X.env.locals) (hN : X.N.Nodup) (hi : X.N[i]? = some n) (hln : X.env.kindOf n = some .local) (hc : Names X x c)
    (hb : ∀ W pn xe, Takes (X.tr pn xe) W → PassesOwn (model X.prog X.w) X.A X.env xe → PSs (X.tr pn xe) body (tb W))
    (hsu : ∀ a oe cls pn, Zc cls none oe → (∃ vs, oe.data = .fields vs) → PSs (X.suite a ((a, oe) :: pn)) (b₀ :: suite) (ts a cls)) :
    PS X (.Try body [.ExceptHandler (some (.Name x np)) (some n) (b₀ :: suite) pos'] [] [] pos) (fun D σ H => tb (wKp X.N.length X.K c i ts D) D σ H) := by
  refine ⟨fun pins s σ H D I h => wpAny_Try_except ?_⟩
  have okX := I.ok
  have fr : X.A.frames = some (X.env :: X.outer) := okX.frames.trans (congrArg some hs)
  refine wpAny_mono ((hb (wKp X.N.length X.K c i ts D) (X.pn ++ pins) _ ?air PassesOwn.looking).run [] s σ H D (I.toTry _) h) (fun fl s1 q => ?thru) fun e s1 q => q
  case thru =>
    cases fl with
    | next => obtain ⟨σ', H', J, z⟩ := q; exact wpAny_execs_nil ⟨σ', H', J.ofTry okX, z⟩
    | brk => obtain ⟨σ', H', J, z⟩ := q; exact ⟨σ', H', J.ofTry okX, z⟩
    | cont => obtain ⟨σ', H', J, z⟩ := q; exact ⟨σ', H', J.ofTry okX, z⟩
    | ret u => obtain ⟨v, σ', H', J, r, z⟩ := q; exact ⟨v, σ', H', J.ofTry okX, r, z⟩
  case air =>
    rintro u s' ⟨a, B, sI, pins', σ', H', cls, d, rfl, J', nb, up, sky, na, os, ag, d0, ex, go⟩
    subst d0
    have J : Inv X pins σ' H' sI := J'.ofTry okX
    rw [show (X.tr (X.pn ++ pins) _).stack = X.env :: X.outer from hs] at sky
    refine Sky.land Zc.steady fr hf sky fun h3 fl3 up3 => ?_
    have J3 : Inv X pins σ' H' { s' with heap := h3 } := J.landed nb fl3.1 (up.trans up3) os ag
    have Ba : B.get? a = none := fl3.2.1
    obtain ⟨oe3, vs3, he3, hz3, hd3⟩ := fl3.there
    have nfr : a ∉ frs (X.env :: X.outer) := fun hm => by
      obtain ⟨_, o', e', nf⟩ := fl3.2.2.1.mem hm
      rw [he3] at e'; cases e'
      exact nf _ hd3
    have nfr' : a ∉ frs X.stack := by rw [hs]; exact nfr
    have nL : a ≠ X.env.locals := fun z => nfr (List.mem_filterMap.mpr ⟨X.env, List.mem_cons_self, by rw [hf, z]⟩)
    have nF : a ∉ X.fs := fun hm => by
      obtain ⟨e, he, q⟩ := List.mem_filterMap.mp hm
      exact nfr (List.mem_filterMap.mpr ⟨e, List.mem_cons_of_mem _ he, q⟩)
    have newI : ∀ b o, sI.heap.get? b = some o → b ∉ frs X.stack → b ≠ a := fun b o e hb z => by
      have q := nb b o e hb
      rw [z, Ba] at q; cases q
    have new0 : X.s_0.heap.get? a = none := by
      cases e : X.s_0.heap.get? a with
      | none => rfl
      | some o =>
        obtain ⟨o', q⟩ := J.base.there a o e (by rw [hex]; exact fun z => nomatch z)
        exact absurd rfl (newI a o' q nfr')
    have newP : ∀ p ∈ X.pn ++ pins, p.1 ≠ a := fun p hp => by
      obtain ⟨e, n, ne, nf, _⟩ := J.pin p hp
      exact newI p.1 p.2 e fun hm => (List.mem_cons.mp (J.stkSub _ hm)).elim ne nf
    have S3 := J3.suite he3 hd3 na nL nF
    refine wpAny_handleBy_cons (codeAny_handlers_test ?_) (by intro q; cases q)
    have kind : PySem.W.Looks (model X.prog X.w) h3 (typeOf (.ref a)) cls := fun A Q E s k q => wpAny_typeOf_ref (k _ _ he3) (by rw [hz3.1]; exact q)
    have fits := PySem.W.exm_one (M := model X.prog X.w) J3.kIn kind ex
    have named : ∀ {Q : Value → Shared → Prop} {E : Value → Shared → Prop}, Q c { s' with heap := h3 } → wpAny (model X.prog X.w) (X.A.mark (some (.ref a))) (eval (.Name x np) X.env) Q E { s' with heap := h3 } := fun q => by
      obtain ⟨g1, g2, g3 | ⟨g3, g4, g5⟩⟩ := hc
      · exact ld_glob (X := X.suite a ((a, oe3) :: (X.pn ++ pins))) S3 g1 g3 q g2
      · exact ld_blt (X := X.suite a ((a, oe3) :: (X.pn ++ pins))) S3 g1 g3 g4 q g5 g2
    refine named (fits.here (codeAny_handlers_suite_as (HandSPX.lands_againZ fl3 fun h4 fl4 up4 => ?_)))
    have J4 : Inv X pins σ' H' { s' with heap := h4 } := J.landed nb fl4.1 ((up.trans up3).trans up4) os ag
    obtain ⟨oe4, vs4, he4, hz4, hd4⟩ := fl4.there
    refine store_ok (X := X.suite a ((a, oe4) :: (X.pn ++ pins))) (v := .ref a) (J4.suite he4 hd4 na nL nF) hN hi (.inl hln) rfl (fun s5 S5 => ?_) (.inr hln)
    refine wpAny_mono ((hsu a oe4 cls (X.pn ++ pins) hz4 ⟨_, hd4⟩).run [] s5 _ H' _ S5 (go J.len a na)) (fun fl s6 q6 => ?_) fun _ _ z => False.elim z
    cases fl with
    | brk => obtain ⟨_, _, _, z⟩ := q6; exact False.elim z
    | cont => obtain ⟨_, _, _, z⟩ := q6; exact False.elim z
    | ret u => obtain ⟨_, _, _, _, _, z⟩ := q6; exact False.elim z
    | next =>
      obtain ⟨σ6, H6, S6, q6⟩ := q6
      have T6 : Inv (X.tr ((a, oe4) :: (X.pn ++ pins)) X.xe) [] σ6 H6 s6 := ⟨okX.toTry _ _, S6.os, S6.bare, S6.base, S6.loc, S6.cell, S6.free, S6.freeC, S6.pin, S6.hok, S6.len⟩
      refine gone_ok (X := X.tr ((a, oe4) :: (X.pn ++ pins)) X.xe) T6 hN hi hln fun s7 T7 => ?_
      obtain ⟨t1, t2, _, _, _⟩ := T7.pin (a, oe4) (List.mem_append_left _ List.mem_cons_self)
      have J7 : Inv X pins (σ6.set i none) H6 s7 := ⟨okX, T7.os, T7.bare, T7.base, T7.loc, T7.cell, T7.free, T7.freeC, fun p hp => T7.pin p (List.mem_append_left _ (List.mem_cons_of_mem _ hp)), T7.hok, T7.len⟩
      exact ⟨_, _, inv_track J7 t1 hz4 hd4 t2 nL new0 newP, q6 t2⟩
end
def TTc (K : PySem.W.Frag) (CS : Addr) : (XK → Hp → VK → Prop) → Hp → VK → Prop := fun tl H Q => ∃ Ech : XK, (∀ cls d H', Ech cls d H' → d = none ∧ PySem.W.exmOne K cls (.ref CS) = some true ∧ ∀ a, H' a = none → Q (.ref a) (upd H' a (ExV cls a))) ∧ tl Ech H fun _ H' => ∃ v, (some (some V.non) : Option (Option V)) = some (some v) ∧ Q v H'
abbrev NC : List Str := ["work", "caught", "error"]
theorem nd_C : NC.Nodup := by decide +kernel
theorem caught_gives {X : Cx} {q x e : Str} {sg : Scope} {g CS : Addr} {cdg : Value} {j : Nat} {p1 p2 p3 p4 p5 p6 p7 p8 p9 p10 p11 p12 p13 p14 : Pos} (hge : sg.names.lookup e = some .globalImplicit) (hme : X.mg e = some (.ref CS)) (hde : (e == ("__debug__" : Str)) = false)
    (hw : sg.names.lookup ("work" : Str) = some .local) (hc : sg.names.lookup ("caught" : Str) = some .local) (hr : sg.names.lookup ("error" : Str) = some .local) :
    LamX.GivesTo X NC x sg g cdg [.Assign [.Name "caught" p1] (.Constant .none j p2) p3, .Try [.Expr (.Call (.Name "work" p4) [] [] p5) p6] [.ExceptHandler (some (.Name e p7)) (some "error") [.Assign [.Name "caught" p8] (.Name "error" p9) p10] p11] [] [] p12, .Return (some (.Name "caught" p13)) p14]
      "work" q (TTc X.K CS) := by
  intro f c' s H Q tl act hco ⟨Ech, h1, h2⟩
  have hgl : Gl (cxOf C8.CX0 X.prog X.w X.K X.mg X.base NC x sg g cdg X.A X.stack s H C8.E0).nox e := hge
  refine ⟨_, pss_cons (ps_set (X := (cxOf C8.CX0 X.prog X.w X.K X.mg X.base NC x sg g cdg X.A X.stack s H C8.E0).nox) (i := 1) nd_C rfl (Or.inl hc) pe_non)
    (pss_cons (ps_tryK (X := (cxOf C8.CX0 X.prog X.w X.K X.mg X.base NC x sg g cdg X.A X.stack s H C8.E0).nox) (i := 2) (c := .ref CS)
      (tb := fun W D σ H => ∃ Ech : XK, (∀ cls d σ' H', Ech cls d H' → W cls d σ' H') ∧ σ[0]? = some (some (.ref f)) ∧ H c' = some (LamX.CodeO c' q) ∧ tl Ech H fun _ H' => D.nx σ H')
      rfl rfl rfl nd_C rfl hr ⟨hgl, hde, .inl hme⟩ (fun W pn xe tk _ => ?_) (fun a oe cls pn _ _ => pss_one (ps_set (i := 1) nd_C rfl (Or.inl hc) (pe_var (i := 2) rfl (Or.inl hr)))))
    (pss_one (ps_ret (pe_var (i := 1) rfl (Or.inl hc))))), ?_⟩
  · refine ⟨fun pins s' σ H' D I h' => ?_⟩
    obtain ⟨E2, hW, e1, e2, e3⟩ := h'
    exact (pss_one (ps_expr (pos := p6) (act W pn xe E2 p4 p5 tk hW))).run pins s' σ H' D I ⟨e1, e2, e3⟩
  · refine ⟨Ech, fun cls d σ' H' he => ?_, rfl, hco, h2⟩
    obtain ⟨d0, ex, go⟩ := h1 cls d H' he
    refine ⟨d0, ex, fun hl a na => ?_⟩
    have hl : σ'.length = 3 := hl
    match σ', hl with
    | [y0, y1, y2], _ => exact ⟨.ref a, rfl, fun _ => ⟨.ref a, rfl, go a na⟩⟩
def lamR : Rho → Rho := List.map fun s => match s with
  | .va d => .va d
  | _ => .no
def dCaught (ok : Addr → Prop) (te : TD) : TD := fun ρ Q _ => te (lamR ρ) (fun _ _ => Q (.d .non) ρ) fun ex => ex.pay = [] ∧ ok ex.cls ∧ Q (.d (.exn ex.cls)) ρ
theorem lam_rep {S : Sit} {F H : Hp} {T : List Slot} (R0 : Rep S F H T) : ∀ {σ : L2.St} {ρ : Rho}, σ.length = ρ.length → (∀ p ∈ σ.zip ρ, SlOk S F H p) → RepS ⟨S.g, noTb H, F⟩ F H [] σ (lamR ρ)
  | [], [], _, _ => by
    refine ⟨rfl, Same.refl _, R0.fh, fun a o e => .inl e, fun a o e _ => (noTb_some e).1, fun a ps e => (noTb_some e).2 ps rfl, fun a e => ?_, fun q hq => absurd hq (by simp [lamR]), List.nodup_nil, R0.tb, R0.nt⟩
    obtain ⟨x, _, z⟩ := R0.dr a e
    refine ⟨x, fun y => ?_, z⟩
    obtain ⟨_, _, _, _, e2, _⟩ := z
    rw [show (⟨S.g, noTb H, F⟩ : Sit).B a = noTb H a from rfl, noTb_of e2 (fun ps z => by cases z)] at y
    cases y
  | v :: σ, s :: ρ, hl, h => by
    have ih := lam_rep R0 (σ := σ) (ρ := ρ) (by simpa using hl) fun p hp => h p (List.mem_cons_of_mem _ hp)
    refine ⟨by have := ih.1; simp only [lamR, List.map_cons, List.length_cons] at this ⊢; omega, ?_⟩
    cases s with
    | va d =>
      obtain ⟨x, e, dv⟩ := h (v, .va d) List.mem_cons_self
      subst e
      exact ih.2.push dv
    | no => exact ih.2.pushNo
    | ow o => exact ih.2.pushNo
theorem pL {X : Cx} {A : Around} {outer : List Env} {s : Shared} {H : Hp} {E : XK} {scope : Scope} {f c' : Addr} : Passes (L2.CX X.prog X.w) (LamX.lamCx X A outer s H E scope f c') E :=
  passes_call (X := LamX.lamCx X A outer s H E scope f c') (takes_of rfl rfl rfl rfl) fun _ _ _ _ h => h
theorem ex_caught {X : Cx} {S : Sit} {E : XK} {x : Str} {st : Stmt} {CS c P : Addr} {k : Nat} {params : Arguments} {body : Expr} {scope : Scope} {te : TD} {ok : Addr → Prop} {p lpos pos : Pos} (D : DefIn X.K X.mg x x st ["work"]) (Sg : FnScope NC ["work"] (defScope st)) (hva : Vis (defScope st) ("work" : Str))
    (hG : ∀ g cdv q, LamX.GivesTo X NC x (defScope st) g cdv (defBody st) "work" q (TTc X.K CS)) (hS : S.g.K = X.K) (hok : ∀ C, ok C → PySem.W.exmOne X.K (.ref C) (.ref CS) = some true)
    (TB : LamX.TabB X.base X.mg c P) (hcode : X.env.code = .ref c) (hmT : (P, X.env.qual ++ "<lambda>") ∈ S.g.T) (hu : ∀ p ∈ S.g.T, p.1 = P → p.2 = X.env.qual ++ "<lambda>") (hr : Room (k + 2) X.A) (L : LamX.LamS X.env.scope scope)
    (hbody : ∀ (A : Around) (outer : List Env) (s : Shared) (H : Hp) (E : XK) (f c' : Addr) (S' : Sit), S'.g = S.g → Room k (A.deeper (LamX.lamEnv X scope s.heap.objs.size f c')) → EX (LamX.lamCx X A outer s H E scope f c') S' E body te)
    (hg : Gl X x := by first | exact Or.inl rfl | exact Or.inr rfl | rfl) (hdef : defaultsOf params X.env = ([], []) := by rfl) (hbind : ∀ (q : Str) (cl : List (Str × Addr)) (pm cv ctv : Value), bindArgs (PySem.W.kla_fn "<lambda>" q params body scope cl pm cv ctv) ⟨[], []⟩ = pure [] := by intros; rfl) (hdb : (x == ("__debug__" : Str)) = false := by decide) :
    EX X S E (.Call (.Name x p) [.Lambda params body scope lpos] [] pos) (dCaught ok te) := by
  obtain ⟨g, fd, F, hm, hb⟩ := D.ex
  obtain ⟨oc, od, dV, kV, doc, pm, an, cdv, ct, osl, e, lk, hcd, _, _⟩ := F.ex
  subst e
  refine PE_imp (LamX.pe_lamcall (T := S.g.T) (TT := TTc X.K CS) (t := fun E σ H Q => ∃ S' : Sit, S'.g = S.g ∧ LE S' E te σ H Q) (Ng := NC) (a := "work") hg hm F.kp lk hcd hb Sg rfl hva (hG _ _ _) TB hcode hmT hu hr L hdef hbind (fun A outer s H E f c' hr2 => ⟨fun pins s' σ H' Q I ⟨S', e, h⟩ => (hbody A outer s H E f c' S' e hr2).run pins s' σ H' Q I h⟩) hdb) fun σ H Q ⟨F0, ρ, T0, Q0, X0, R, ht, hq, hx⟩ => ?_
  refine ⟨R.2.tb, fun H1 eN T1 => ?_⟩
  have R1 : Rep S F0 H1 (T0 ++ σ.zip ρ) := R.2.extN eN T1
  have RL := lam_rep (S := S) (F := F0) (H := H1) R1 (σ := σ) (ρ := ρ) R.1 fun p hp => R1.ok p (List.mem_append_right _ hp)
  refine ⟨fun cls d H' => ∃ C F', cls = .ref C ∧ d = none ∧ ok C ∧ Aft S.g F0 H1 F' H' ∧ Q0 (.d (.exn C)) ρ, ?_, ⟨S.g, noTb H1, F0⟩, rfl, F0, lamR ρ, [], _, _, RL, ht, fun m ρ' h F' H' v s' R' => ?_, fun ex ⟨e1, e2, e3⟩ F' H' cls dd s' ⟨R', ec, ep⟩ => ?_⟩
  · rintro cls d H' ⟨C, F', rfl, rfl, hC, A, hQ⟩
    refine ⟨rfl, hok C hC, fun a na => ?_⟩
    have R2 := R1.after A
    have n1 := (R2.free na).1
    exact hq _ _ hQ _ _ _ (A.ff.trans (same_new n1)) ⟨.exn upd_same, R.1, R2.newF na (fun ps z => by unfold ExV at z; cases z)⟩
  · have A := R'.toS.2.aft (H0 := H1) rfl
    exact ⟨.non, rfl, hq _ _ h F' H' .non A.ff ⟨.non, R.1, R1.after A⟩⟩
  · rw [e1] at ep
    exact ⟨ex.cls, F', ec, ep, e2, R'.aft rfl, e3⟩
structure DefInL (K : PySem.W.Frag) (mg : Str → Option Value) (x name : Str) (st : Stmt) (ps : List Str) (c : Addr) : Prop where
  ex : ∃ (f : Addr) (fd : FuncData), FunD K name name (defArgs st) (defBody st) (defScope st) [] [] f fd ∧ mg x = some (.ref f) ∧ Binds K fd ps [] ∧ fd.code = .ref c
theorem DefInL.okD {P : Program} {w : World} {K : PySem.W.Frag} {TT : List (Addr × Str)} {mg : Str → Option Value} {base : Heap} {k : Nat} {x name : Str} {st : Stmt} {N ps : List Str} {cc : Addr} {c : PC} (Fn : DefInL K mg x name st ps cc) (Sc : FnScope N ps (defScope st)) (len : ∀ ds Q X, c ds Q X → ds.length = ps.length)
    (hbody : ∀ (f : Addr) (A : Around) (outer : List Env) (s : Shared) (H : Hp) (E : XK) (S : Sit), S.g.K = K → S.g.T = TT → Room k (A.deeper (envOfC name (defScope st) s.heap.objs.size f (.ref cc))) →
      ∃ t, SXs (cxOf (L2.CX P w) P w K mg base N name (defScope st) f (.ref cc) A outer s H E) S E (defBody st) t ∧ ∀ ds Q X, c ds Q X → t { nx := fun _ => Q .non, rt := Q, ex := X } (startD N ds)) :
    CalF P w K TT mg base (k + 1) x name st ps c := by
  obtain ⟨f, fd, F, hm, hb, hcode⟩ := Fn.ex
  refine ⟨f, fd, ?_, F, hm, hb⟩
  obtain ⟨oc, od, dV, kV, doc, pm, an, cdv, ct, osl, e, lk, hcd, _, _⟩ := F.ex
  subst e
  have ec : cdv = .ref cc := hcode
  subst ec
  refine fn_of lk hcd Sc (fun vs H Q E ⟨dA, F, ds, Q0, X0, h, dl, _⟩ => by rw [dl.length]; exact len ds Q0 X0 h) fun A outer s H vs Q E hr ⟨dA, F, ds, Q0, X0, h, dl, en, hq, hx⟩ => ?_
  obtain ⟨t, ht, hb⟩ := hbody f A outer s H E ⟨⟨K, dA, TT⟩, noTb H, F⟩ rfl rfl hr
  have R := start_rep en N.length dl
  refine ⟨_, ht, F, startD N ds, _, R, hb ds Q0 X0 h, ?_⟩
  exact ⟨fun ρ' k F' H' σ' s' R' => hq _ k F' H' .non (R'.2.aft rfl) .non, fun d k F' H' v s' R' dv => hq d k F' H' v (R'.aft rfl) dv, fun _ k => k.elim, fun _ k => k.elim, fun ex k F' H' cls dd s' ⟨R', e, p⟩ => hx ex k F' H' cls dd (R'.aft rfl) e p⟩
end PL
set_option Elab.async false
set_option linter.all false
set_option maxRecDepth 100000
namespace PL
open PySem PySem.Spec PyProof.Rows L2

def keyOf : D → Option Key
  | .int i => some (.inl i)
  | .str s => some (.inr s)
  | _ => none
def keysOf : List D → Option (List Key)
  | [] => some []
  | d :: l => match keyOf d, keysOf l with
    | some k, some ks => some (k :: ks)
    | _, _ => none
theorem keysOf_ints : ∀ ns : List Int, keysOf (ns.map D.int) = some (ns.map Sum.inl)
  | [] => rfl
  | n :: ns => by
    rw [List.map_cons]
    show (match keyOf (.int n), keysOf (ns.map D.int) with | some k, some ks => some (k :: ks) | _, _ => none) = _
    rw [keysOf_ints ns]
    rfl
section
variable {κ : Type} [DecidableEq κ]
def dval (kvs : List (κ × D)) (k : κ) : Option D := (kvs.find? fun kv => decide (kv.1 = k)).map (·.2)
def dput (kvs : List (κ × D)) (k : κ) (x : D) : List (κ × D) := if (kvs.any fun kv => decide (kv.1 = k)) = true then kvs.map (fun kv => if kv.1 = k then (kv.1, x) else kv) else kvs ++ [(k, x)]
variable {g : Gc} {F : Hp}
theorem dval_of : ∀ {ys : List (κ × V)} {kvs : List (κ × D)} (k : κ), ys.map (·.1) = kvs.map (·.1) → DenL g F (ys.map (·.2)) (kvs.map (·.2)) →
    (dval kvs k = none ∧ valV ys k = none) ∨ ∃ d v, dval kvs k = some d ∧ valV ys k = some v ∧ Den g F v d
  | [], [], _, _, _ => .inl ⟨rfl, rfl⟩
  | [], _ :: _, _, h, _ => by simp at h
  | _ :: _, [], _, h, _ => by simp at h
  | (j, v) :: ys, (j', d) :: kvs, k, h, dl => by
    rw [List.map_cons, List.map_cons] at h
    obtain ⟨e1, e2⟩ := List.cons.inj h
    have e1 : j = j' := e1
    subst e1
    cases dl with
    | cons dv dr =>
      by_cases e : j = k
      · refine .inr ⟨d, v, ?_, valV_pos e, dv⟩
        unfold dval
        rw [List.find?_cons_of_pos (by simpa using e)]
        rfl
      · have ih := dval_of (ys := ys) (kvs := kvs) k e2 dr
        have a1 : valV ((j, v) :: ys) k = valV ys k := valV_neg e
        have a2 : dval ((j, d) :: kvs) k = dval kvs k := by
          unfold dval
          rw [List.find?_cons_of_neg (by simpa using e)]
        rw [a1, a2]
        exact ih
theorem any_keys : ∀ {ys : List (κ × V)} {kvs : List (κ × D)} (k : κ), ys.map (·.1) = kvs.map (·.1) → (ys.any fun kv => decide (kv.1 = k)) = (kvs.any fun kv => decide (kv.1 = k))
  | ys, kvs, k, h => by
    have a : (ys.any fun kv => decide (kv.1 = k)) = ((ys.map (·.1)).any fun j => decide (j = k)) := by rw [List.any_map]; rfl
    have b : (kvs.any fun kv => decide (kv.1 = k)) = ((kvs.map (·.1)).any fun j => decide (j = k)) := by rw [List.any_map]; rfl
    rw [a, b, h]
theorem put_map : ∀ {ys : List (κ × V)} {kvs : List (κ × D)} (k : κ) {v : V} {d : D}, ys.map (·.1) = kvs.map (·.1) → DenL g F (ys.map (·.2)) (kvs.map (·.2)) → Den g F v d →
    (ys.map fun kv => if kv.1 = k then (kv.1, v) else kv).map (·.1) = (kvs.map fun kv => if kv.1 = k then (kv.1, d) else kv).map (·.1) ∧
    DenL g F ((ys.map fun kv => if kv.1 = k then (kv.1, v) else kv).map (·.2)) ((kvs.map fun kv => if kv.1 = k then (kv.1, d) else kv).map (·.2))
  | [], [], _, _, _, _, _, _ => ⟨rfl, .nil⟩
  | [], _ :: _, _, _, _, h, _, _ => by simp at h
  | _ :: _, [], _, _, _, h, _, _ => by simp at h
  | (j, u) :: ys, (j', e) :: kvs, k, v, d, h, dl, dv => by
    rw [List.map_cons, List.map_cons] at h
    obtain ⟨e1, e2⟩ := List.cons.inj h
    have e1 : j = j' := e1
    subst e1
    cases dl with
    | cons du dr =>
      obtain ⟨a, b⟩ := put_map (ys := ys) (kvs := kvs) k e2 dr dv
      by_cases q : j = k
      · simp only [List.map_cons, if_pos q]
        exact ⟨by rw [a], .cons dv b⟩
      · simp only [List.map_cons, if_neg q]
        exact ⟨by rw [a], .cons du b⟩
theorem dput_of {ys : List (κ × V)} {kvs : List (κ × D)} (k : κ) {v : V} {d : D} (h : ys.map (·.1) = kvs.map (·.1)) (dl : DenL g F (ys.map (·.2)) (kvs.map (·.2))) (dv : Den g F v d) :
    (putK ys k v).map (·.1) = (dput kvs k d).map (·.1) ∧ DenL g F ((putK ys k v).map (·.2)) ((dput kvs k d).map (·.2)) := by
  unfold putK dput
  rw [any_keys k h]
  by_cases q : (kvs.any fun kv => decide (kv.1 = k)) = true
  · rw [if_pos q, if_pos q]
    exact put_map k h dl dv
  · rw [if_neg q, if_neg q]
    refine ⟨by rw [List.map_append, List.map_append, h]; rfl, ?_⟩
    rw [List.map_append, List.map_append]
    exact dl.append (.cons dv .nil)
end
theorem den_key {g : Gc} {F : Hp} {v : V} {d : D} {k : Key} (h : Den g F v d) (e : keyOf d = some k) : v = kV k := by
  cases d with
  | int i => cases h; cases e; rfl
  | str s => cases h; cases e; rfl
  | _ => cases e
theorem den_keys {g : Gc} {F : Hp} : ∀ {vs : List V} {ds : List D} {ks : List Key}, DenL g F vs ds → keysOf ds = some ks → vs = ks.map kV
  | _, [], ks, h, e => by cases h; cases e; rfl
  | _, d :: ds, ks, h, e => by
    cases h with
    | cons a b =>
      unfold keysOf at e
      cases e1 : keyOf d with
      | none => simp only [e1] at e; cases e
      | some k =>
        cases e2 : keysOf ds with
        | none => simp only [e1, e2] at e; cases e
        | some l =>
          simp only [e1, e2] at e
          cases e
          rw [den_key a e1, den_keys b e2]; rfl
def dGetO : D → D → Option (Option D)
  | .dK kvs, x => (keyOf x).map (dval kvs)
  | .dT kvs, .tup l => (keysOf l).map (dval kvs)
  | _, _ => none
section
variable {S : Sit} {F H : Hp} {l : List Slot} {v u : V} {x y : D} {o : Option D}
theorem rdv_key {k : Key} (h : Rdv S F l u x) (e : keyOf x = some k) : u = kV k := by
  cases x with
  | int i => cases h.int; cases e; rfl
  | str i => cases h.str; cases e; rfl
  | _ => cases e
theorem dget_ok (R : Rep S F H l) (dy : Rdv S F l v y) (dx : Rdv S F l u x) (e : dGetO y x = some o) : ∃ a ov, v = .ref a ∧ DGet H a u ov ∧ ((o = none ∧ ov = none) ∨ ∃ d w, o = some d ∧ ov = some w ∧ Den S.g F w d) := by
  cases y with
  | dK kvs =>
    cases e1 : keyOf x with
    | none => simp only [dGetO, e1, Option.map_none] at e; cases e
    | some k =>
      simp only [dGetO, e1, Option.map_some, Option.some.injEq] at e
      obtain ⟨a, ys, rfl, ha, hk, dl⟩ := dy.dK R
      have eu := rdv_key dx e1
      subst eu
      refine ⟨a, _, rfl, DGet.k ha, ?_⟩
      rcases dval_of k hk dl with ⟨n1, n2⟩ | ⟨d, w, n1, n2, dv⟩
      · exact .inl ⟨by rw [← e, n1], n2⟩
      · exact .inr ⟨d, w, by rw [← e, n1], n2, dv⟩
  | dT kvs =>
    cases x with
    | tup ds =>
      cases e1 : keysOf ds with
      | none => simp only [dGetO, e1, Option.map_none] at e; cases e
      | some k =>
        simp only [dGetO, e1, Option.map_some, Option.some.injEq] at e
        obtain ⟨a, ys, rfl, ha, hk, dl⟩ := dy.dT R
        obtain ⟨b, xs, rfl, hb, dk⟩ := dx.tup
        have ex := den_keys dk e1
        subst ex
        refine ⟨a, _, rfl, DGet.t ha (R.fh _ _ hb), ?_⟩
        rcases dval_of k hk dl with ⟨n1, n2⟩ | ⟨d, w, n1, n2, dv⟩
        · exact .inl ⟨by rw [← e, n1], n2⟩
        · exact .inr ⟨d, w, by rw [← e, n1], n2, dv⟩
    | _ => cases e
  | _ => cases e
end
section
variable {X : Cx} {S : Sit} {E : XK} {a b : Expr} {ta tb : TD} {pos : Pos}
def qInD (neg : Bool) : Q2 := fun x y K => match dGetO y x with | some o => K (.d (.bl (if neg then !o.isSome else o.isSome))) | none => False
theorem o_inD (hu : X.A.units + 1 < cLine) : OpR X (compareOp .In) (L2q S (qInD false)) := by
  intro pins s σ H v u vv uu Q I rv ru ⟨F, l, x, y, Q0, R, dx, dy, q, post⟩
  cases e : dGetO y x with
  | none => simp only [qInD, e] at q
  | some o =>
    simp only [qInD, e] at q
    obtain ⟨p, ov, rfl, g, h⟩ := dget_ok R dy dx e
    cases (show uu = Value.ref p from ru)
    refine d_in hu I g rv fun s' I' => ?_
    have eb : ov.isSome = o.isSome := by rcases h with ⟨rfl, rfl⟩ | ⟨d, w, rfl, rfl, _⟩ <;> rfl
    rw [eb]
    exact ⟨.bl _, H, I', rfl, post _ q F H _ (Same.refl _) ⟨.bl _, R⟩⟩
theorem o_notinD (hu : X.A.units + 1 < cLine) : OpR X (compareOp .NotIn) (L2q S (qInD true)) := by
  intro pins s σ H v u vv uu Q I rv ru ⟨F, l, x, y, Q0, R, dx, dy, q, post⟩
  cases e : dGetO y x with
  | none => simp only [qInD, e] at q
  | some o =>
    simp only [qInD, e] at q
    obtain ⟨p, ov, rfl, g, h⟩ := dget_ok R dy dx e
    cases (show uu = Value.ref p from ru)
    refine d_notIn hu I g rv fun s' I' => ?_
    have eb : ov.isSome = o.isSome := by rcases h with ⟨rfl, rfl⟩ | ⟨d, w, rfl, rfl, _⟩ <;> rfl
    rw [eb]
    exact ⟨.bl _, H, I', rfl, post _ q F H _ (Same.refl _) ⟨.bl _, R⟩⟩
def qGetD : Q2 := fun y x K => match dGetO y x with | some (some d) => K (.d d) | _ => False
theorem ex_getD (hu : X.A.units + 1 < cLine) (ha : EX X S E a ta) (hb : EX X S E b tb) (hs : NoSl b := by intro _ _; rfl) : EX X S E (.Subscript a b pos) (dOp2 qGetD ta tb) := by
  refine PE_imp (pe_dget hu ha hb hs) fun σ H Q h => ?_
  obtain ⟨F, ρ, T, Q0, X0, R, ht, hq, hx⟩ := lift2 h
  refine ⟨F, ρ, T, Q0, X0, R, ht, fun m ρ' h1 F' H' v s R' => ?_, hx⟩
  obtain ⟨F2, ρ2, T2, Q2, X2, R2, ht2, hq2, hx2⟩ := hq m ρ' h1 F' H' v s R'
  refine ⟨F2, ρ2, T2, Q2, X2, R2, ht2, fun m2 ρ3 h3 F3 H3 u s3 R3 => ?_, hx2⟩
  obtain ⟨F4, l, x, y, Q4, R4, dx, dy, q, post⟩ := hq2 m2 ρ3 h3 F3 H3 u s3 R3
  cases e : dGetO x y with
  | none => simp only [qGetD, e] at q
  | some o =>
    obtain ⟨p, ov, rfl, g, h⟩ := dget_ok R4 dx dy e
    rcases h with ⟨rfl, rfl⟩ | ⟨d, w, rfl, rfl, dw⟩
    · simp only [qGetD, e] at q
    · simp only [qGetD, e] at q
      exact ⟨p, w, rfl, g, post _ q F4 H3 w (Same.refl _) ⟨dw, R4⟩⟩
def dNewK : TD := fun ρ Q _ => Q (.o (.dK [])) ρ
def dNewT : TD := fun ρ Q _ => Q (.o (.dT [])) ρ
theorem ex_newK : EX X S E (.Dict [] [] pos) dNewK := PE_imp pe_dnewK fun σ H Q ⟨F, ρ, T, Q0, X0, R, ht, hq, hx⟩ => fun p np =>
  hq _ _ ht F _ _ (Same.refl _) ⟨R.1, R.2.newO np ⟨[], upd_same, rfl, .nil⟩⟩
theorem ex_newT : EX X S E (.Dict [] [] pos) dNewT := PE_imp pe_dnewT fun σ H Q ⟨F, ρ, T, Q0, X0, R, ht, hq, hx⟩ => fun p np =>
  hq _ _ ht F _ _ (Same.refl _) ⟨R.1, R.2.newO np ⟨[], upd_same, rfl, .nil⟩⟩
def atD (k : Tm) (ρ : Rho) (K : Nat → Own → Prop) : Prop := match k with
  | .r s => match getS ρ s with
    | .ow (.dK kvs) => K s (.dK kvs)
    | .ow (.dT kvs) => K s (.dT kvs)
    | _ => False
  | _ => False
def dPutO (y : D) (x : D) : Own → Option Own
  | .dK kvs => if kvs.length < sizeLine then (keyOf y).map fun k => .dK (dput kvs k x) else none
  | .dT kvs => if kvs.length < sizeLine then (match y with | .tup l => (keysOf l).map fun k => .dT (dput kvs k x) | _ => none) else none
  | _ => none
def dPutD (te to ti : TD) : TSt := fun P ρ => te ρ (fun m ρ1 => use m ρ1 fun x ρ2 => to ρ2 (fun k ρ3 => ti ρ3 (fun n ρ4 => peek n ρ4 fun y => atD k ρ4 fun s o => match dPutO y x o with | some o' => P.nx (setS ρ4 s (.ow o')) | none => False) P.ex) P.ex) P.ex
end
section
variable {S : Sit} {F H : Hp} {T : List Slot} {σ : L2.St} {ρ : Rho} {v : V}
theorem atD_ok {k : Tm} {K : Nat → Own → Prop} (c : Come S F σ v k) (R : RepS S F H T σ ρ) (h : atD k ρ K) : ∃ s o a, k = .r s ∧ σ[s]? = some (some v) ∧ v = .ref a ∧ OwnAt S.g F H a o ∧ K s o ∧ ((∃ kvs, o = .dK kvs) ∨ ∃ kvs, o = .dT kvs) ∧
    ∀ u o', OwnAt S.g F (upd H a u) a o' → RepS S F (upd H a u) T σ (setS ρ s (.ow o')) := by
  cases k with
  | d x => exact h.elim
  | o x => exact h.elim
  | r s =>
    have hv : σ[s]? = some (some v) := c
    obtain ⟨l, Rh, back, Rl⟩ := R.split hv
    unfold atD at h
    have fin : ∀ o, getS ρ s = .ow o → K s o → ((∃ kvs, o = .dK kvs) ∨ ∃ kvs, o = .dT kvs) → ∃ s' o a, (Tm.r s) = .r s' ∧ σ[s']? = some (some v) ∧ v = .ref a ∧ OwnAt S.g F H a o ∧ K s' o ∧ ((∃ kvs, o = .dK kvs) ∨ ∃ kvs, o = .dT kvs) ∧
        ∀ u o', OwnAt S.g F (upd H a u) a o' → RepS S F (upd H a u) T σ (setS ρ s' (.ow o')) := fun o e hK hkd => by
      rw [e] at Rh
      obtain ⟨a, ev, h1, h2, h3⟩ := Rh.ok _ List.mem_cons_self
      cases ev
      refine ⟨s, o, a, rfl, hv, rfl, h3, hK, hkd, fun u o' ho => ?_⟩
      have q := back F (upd H a u) (some (.ref a)) (.ow o') (Rh.write ho)
      rw [set_self hv] at q
      exact q
    cases e : getS ρ s with
    | no => simp only [e] at h
    | va d => simp only [e] at h
    | ow o =>
      cases o with
      | lst l => simp only [e] at h
      | dK l => simp only [e] at h; exact fin _ e h (.inl ⟨_, rfl⟩)
      | dT l => simp only [e] at h; exact fin _ e h (.inr ⟨_, rfl⟩)
theorem dput_ok {S : Sit} {F H : Hp} {l : List Slot} {a : Addr} {o o' : Own} {u w : V} {x y : D} (R : Rep S F H l) (ho : OwnAt S.g F H a o) (dy : Rdv S F l u y) (dx : Den S.g F w x) (e : dPutO y x o = some o') : ∃ z, DPut H a u w (upd H a z) ∧ OwnAt S.g F (upd H a z) a o' := by
  cases o with
  | lst l => cases e
  | dK kvs =>
    simp only [dPutO] at e
    split at e
    · rename_i hl
      cases e1 : keyOf y with
      | none => simp only [e1, Option.map_none] at e; cases e
      | some k =>
        simp only [e1, Option.map_some, Option.some.injEq] at e
        subst e
        obtain ⟨ys, ha, hk, dl⟩ := ho
        have eu := rdv_key dy e1
        subst eu
        obtain ⟨q1, q2⟩ := dput_of k hk dl dx
        have hlen : ys.length = kvs.length := by have := congrArg List.length hk; simpa using this
        exact ⟨_, DPut.k ha (by rw [hlen]; exact hl), _, upd_same, q1, q2⟩
    · cases e
  | dT kvs =>
    simp only [dPutO] at e
    split at e
    · rename_i hl
      cases y with
      | tup ds =>
        cases e1 : keysOf ds with
        | none => simp only [e1, Option.map_none] at e; cases e
        | some k =>
          simp only [e1, Option.map_some, Option.some.injEq] at e
          subst e
          obtain ⟨ys, ha, hk, dl⟩ := ho
          obtain ⟨b, xs, rfl, hb, dk⟩ := dy.tup
          have ex := den_keys dk e1
          subst ex
          obtain ⟨q1, q2⟩ := dput_of k hk dl dx
          have hlen : ys.length = kvs.length := by have := congrArg List.length hk; simpa using this
          exact ⟨_, DPut.t ha (R.fh _ _ hb) (by rw [hlen]; exact hl), _, upd_same, q1, q2⟩
      | _ => cases e
    · cases e
end
section
variable {X : Cx} {S : Sit} {E : XK} {pos : Pos}
theorem sx_putD {o i e : Expr} {to ti te : TD} {ipos : Pos} (hu : X.A.units + 1 < cLine) (ho : EX X S E o to) (hi : EX X S E i ti) (he : EX X S E e te) (hs : swapsWith e (some (.Subscript o i ipos)) pos.line X.env = pure false := by rfl) :
    SX X S E (.Assign [.Subscript o i ipos] e pos) (dPutD te to ti) := by
  refine PS_imp (ps_dput hu ho hi he hs) fun Dn σ H ⟨F, ρ, P, R, ht, lp⟩ => ⟨F, ρ, [], _, _, R, ht, fun m ρ1 h F1 H1 v s1 R1 => ?_, lp.ex⟩
  obtain ⟨F2, x, ρ2, s2, dv, R2, k2⟩ := use_ok R1 h
  refine ⟨F2, ρ2, [], _, _, R2, k2, fun k ρ3 h3 F3 H3 w s3 R3 => ?_, lp.ex.mono (s1.trans s2)⟩
  refine ⟨F3, ρ3, pushT w k [], _, _, R3.stack, h3, fun n ρ4 h4 F4 H4 u s4 R4 => ?_, lp.ex.mono ((s1.trans s2).trans s3)⟩
  obtain ⟨y, ry, k4⟩ := peek_ok R4.come R4.stack pushT_mem h4
  obtain ⟨s, ow, a, ek, hv, ev, hal, k5, _, back⟩ := atD_ok (R3.come.mono s4) R4.toS k4
  subst ek ev
  cases eo : dPutO y x ow with
  | none => rw [eo] at k5; exact k5.elim
  | some o' =>
    rw [eo] at k5
    obtain ⟨z, hp, ho'⟩ := dput_ok R4.stack.2 hal ry (dv.mono (s3.trans s4)) eo
    exact ⟨a, _, rfl, hp, lp.nx _ k5 F4 _ σ (((s1.trans s2).trans s3).trans s4) (back _ _ ho')⟩

def qRepr : Q1 := fun x K => match x with
  | .bl b => K (.d (.str (if b then "True" else "False")))
  | .non => K (.d (.str "None"))
  | _ => False
theorem c_repr : CallR X (.builtin "repr") (fun vs H Q => ∃ v, vs = [v] ∧ L1 S qRepr v H Q) := by
  rintro pins s σ H vs us Q I r ⟨v, rfl, F, l, x, Q0, R, dx, q, post⟩
  cases x with
  | bl b =>
    have ev : v = .bl b := by rcases dx with h | ⟨o, e, _⟩; (· cases h; rfl); (· cases o <;> cases e)
    subst ev
    cases r with
    | cons ru rn =>
      cases rn
      cases ru
      exact PySem.P.repr_of_bool ⟨.str _, H, I.tok _, ⟨_, rfl⟩, post _ q F H _ (Same.refl _) ⟨.str _, R⟩⟩
  | non =>
    have ev : v = .non := by rcases dx with h | ⟨o, e, _⟩; (· cases h; rfl); (· cases o <;> cases e)
    subst ev
    cases r with
    | cons ru rn =>
      cases rn
      cases ru
      exact PySem.P.repr_of_none ⟨.str _, H, I.tok _, ⟨_, rfl⟩, post _ q F H _ (Same.refl _) ⟨.str _, R⟩⟩
  | _ => exact q.elim

def subX (n m : Str) : Bool := decide (n = m) || decide (m = "RowError")
def qIsE (G : Str → Addr) (EX : List Str) : Q2 := fun x y K => match x, y with
  | .exn C, .op (.ref C2) => ∃ n m, C = G n ∧ C2 = G m ∧ n ∈ EX ∧ m ∈ EX ∧ K (.d (.bl (subX n m)))
  | _, _ => False
theorem c_isE {G : Str → Addr} {EX : List Str} (hE : ∀ n ∈ EX, ExcC X.K (G n)) (hk : ∀ n ∈ EX, ∀ m ∈ EX, PySem.W.kitOne X.K (.ref (G n)) (.ref (G m)) = some (subX n m)) : CallR X (.builtin "isinstance") (fun vs H Q => ∃ v u, vs = [v, u] ∧ L2q S (qIsE G EX) v u H Q) := by
  rintro pins s σ H vs us Q I r ⟨v, u, rfl, F, l, x, y, Q0, R, dx, dy, q, post⟩
  cases x with
  | exn C =>
    cases y with
    | op w =>
      cases w with
      | ref C2 =>
        cases rdv_op dy
        obtain ⟨n, m, rfl, rfl, hn, hm, q⟩ := q
        have hx : ∃ a, v = .ref a ∧ F a = some (ExV (.ref (G n)) a) := by
          rcases dx with h | ⟨o, e, _⟩
          · cases h with
            | exn h => exact ⟨_, rfl, h⟩
          · cases o <;> cases e
        obtain ⟨a, rfl, hF⟩ := hx
        obtain ⟨⟨oe, fs, ho, hz, hd⟩, _, _⟩ := I.hok a _ (R.fh _ _ hF)
        cases r with
        | cons rx rr =>
          cases rr with
          | cons rt rr =>
            cases rr
            cases rx
            cases rt
            have J : PySem.W.InstAt s.heap a oe (G n) none := by
              obtain ⟨oc, od, oda, osl⟩ := oe
              obtain ⟨h1, h2⟩ := hz
              dsimp only at h1 h2 hd
              subst h1 h2 hd
              exact ⟨ho, rfl, rfl, trivial⟩
            have C := hE n hn
            exact PySem.W.kia_one (PySem.W.handS_kitx_exc C.hg C.hk C.hs C.hd C.ha C.hn C.ht C.hm) I.kIn J (hk n hn m hm) (fun z => nomatch z) fun tk => ⟨.bl _, H, I.kept (t' := tk) fun _ _ z => z, rfl, post _ q F H _ (Same.refl _) ⟨.bl _, R⟩⟩
      | _ => exact q.elim
    | _ => exact q.elim
  | _ => exact q.elim
end
def pmt {α : Type} (idx : List Nat) (l : List α) : List α := idx.filterMap fun i => l[i]?
theorem vals_pmt {zs : List V} {ws : List Value} (h : Vals zs ws) : ∀ idx : List Nat, Vals (pmt idx zs) (pmt idx ws)
  | [] => .nil
  | i :: idx => by
    have ih := vals_pmt h idx
    unfold pmt at ih ⊢
    cases e : zs[i]? with
    | none =>
      have e2 : ws[i]? = none := by
        rw [List.getElem?_eq_none_iff] at e ⊢
        rw [← h.length]; exact e
      rw [List.filterMap_cons_none e, List.filterMap_cons_none e2]
      exact ih
    | some v =>
      obtain ⟨u, e2, r⟩ := h.get e
      rw [List.filterMap_cons_some e, List.filterMap_cons_some e2]
      exact .cons r ih
theorem denL_pmt {g : Gc} {F : Hp} {zs : List V} {ds : List D} (h : DenL g F zs ds) : ∀ idx : List Nat, DenL g F (pmt idx zs) (pmt idx ds)
  | [] => .nil
  | i :: idx => by
    have ih := denL_pmt h idx
    unfold pmt at ih ⊢
    cases e : ds[i]? with
    | none =>
      have e2 : zs[i]? = none := by
        rw [List.getElem?_eq_none_iff] at e ⊢
        rw [h.length]; exact e
      rw [List.filterMap_cons_none e, List.filterMap_cons_none e2]
      exact ih
    | some d =>
      obtain ⟨u, e2, r⟩ := h.get e
      rw [List.filterMap_cons_some e, List.filterMap_cons_some e2]
      exact .cons r ih
def KX (X : Cx) (S : Sit) (E : XK) (kws : List Keyword) (t : TAs) : Prop := PK X kws (LA S E t)
def dCallK (c : PC) (idx : List Nat) (t : TAs) : TD := fun ρ Q X => t ρ (fun ds ρ1 => ds.length = idx.length ∧ c (pmt idx ds) (fun d => Q (.d d) ρ1) X) X
section
variable {X : Cx} {S : Sit} {E : XK} {pos p : Pos} {k j : Nat} {c : PC} {x name : Str} {st : Stmt} {ps ks : List Str} {kws : List Keyword} {t u : TAs}
theorem PK_imp {kws : List Keyword} {t t' : TA} (h : PK X kws t') (i : ∀ σ H Q, t σ H Q → t' σ H Q) : PK X kws t := ⟨fun pos pins s σ H Q I q => h.run pos pins s σ H Q I (i σ H Q q)⟩
theorem kx_nil : KX X S E [] aNil := PK_imp pk_nil fun σ H Q ⟨F, ρ, T, Q0, X0, R, ht, hq, hx⟩ => hq _ _ ht F H [] (Same.refl _) .nil R
theorem kx_cons {e : Expr} {nm : Option Str} {kpos : Pos} {te : TD} (ha : EX X S E e te) (hr : KX X S E kws u) : KX X S E (⟨nm, e, kpos⟩ :: kws) (aCons te u) := by
  refine PK_imp (pk_cons ha hr) fun σ H Q ⟨F, ρ, T, Q0, X0, R, ht, hq, hx⟩ => ?_
  refine ⟨F, ρ, T, _, X0, R, ht, fun m ρ1 h1 F1 H1 v s1 R1 => ?_, hx⟩
  obtain ⟨F2, d, ρ2, s2, dv, R2, k⟩ := use_ok R1 h1
  exact ⟨F2, ρ2, T, _, X0, R2, k, fun ds ρ3 h3 F3 H3 vs s3 dl R3 => hq _ _ h3 F3 H3 (v :: vs) ((s1.trans s2).trans s3) (.cons (dv.mono s3) dl) R3, hx.mono (s1.trans s2)⟩
theorem pe_callK0 {CX : CXT} {f : Addr} {fd : FuncData} {sp : Sp} {tk : TA} {g : List Value → List Value → List Value} {gV : List V → List V → List V} (F : FnOk X.prog X.w X.K X.mg X.base CX k f fd ps sp) (hr : Room k X.A) (hg : Gl X x) (hm : X.mg x = some (.ref f)) (hk : PySem.W.keepIn X.K (.ref f) = true) (hb : KBn X.K fd ps 0 ks g gV) (hx : Passes CX X E)
    (hkw : PK X kws tk) (hall : (backToKw pos (keywordEach kws X.env)).all (·.1.isSome) = true := by rfl) (hks : (backToKw pos (keywordEach kws X.env)).filterMap (·.1) = ks := by rfl)
    (hdb : (x == ("__debug__" : Str)) = false := by decide) (hpl : ((backTo pos (starEach [] X.env)).any (·.1) || (backToKw pos (keywordEach kws X.env)).any (·.1.isNone)) = false := by rfl) :
    PE X (.Call (.Name x p) [] kws pos) (fun σ H Q => tk σ H fun zs H2 => zs.length = ks.length ∧ sp (gV [] zs) H2 Q E) := by
  refine ⟨fun pins s σ H Q I h => ?_⟩
  refine wpAny_Call_Name_kw (ld_glob I hg hm ?_ hdb)
  refine PySem.W.callWith_KW0 (h₀ := X.base) I.ok.mod.kin hk hall ?_ hpl
  refine thn (hkw.run pos pins s σ H _ I h) fun ws s2 ⟨zs, H2, I2, rz, l2, q2⟩ => ⟨I2.kIn, ?_⟩
  rw [hks]
  exact run_fnN (us := []) (vs := []) F hr hb hx I2 .nil rz rfl l2 q2
theorem ex_fnK {TT : List (Addr × Str)} (F : CalF X.prog X.w X.K TT X.mg X.base k x name st ps c) (hr : Room j X.A) (hS : S.g.K = X.K) (hT : S.g.T = TT) (hx : Passes (L2.CX X.prog X.w) X E) (ha : KX X S E kws t) (idx : List Nat)
    (hb : ∀ (kV doc pm : Value) (an : Option Addr) (cdv ct : Value) (ws : List Value), ws.length = ks.length → bindArgs (PySem.W.fnOf name name (defArgs st) (defBody st) (defScope st) .none kV doc pm an cdv ct) ⟨[], ks.zip ws⟩ = pure (ps.zip (pmt idx ws)))
    (hl : idx.length = ks.length) (hall : (backToKw pos (keywordEach kws X.env)).all (·.1.isSome) = true := by rfl) (hks : (backToKw pos (keywordEach kws X.env)).filterMap (·.1) = ks := by rfl) (hg : Gl X x := by first | exact Or.inl rfl | exact Or.inr rfl | rfl) (hk : k ≤ j := by decide)
    (hdb : (x == ("__debug__" : Str)) = false := by decide) (hpl : ((backTo pos (starEach [] X.env)).any (·.1) || (backToKw pos (keywordEach kws X.env)).any (·.1.isNone)) = false := by rfl) :
    EX X S E (.Call (.Name x p) [] kws pos) (dCallK c idx t) := by
  obtain ⟨f, fd, F, D, hm, _⟩ := F.ex
  obtain ⟨oc, od, dV, kV, doc, pm, an, cdv, ct, osl, e, lk, hcd, hD, hK⟩ := D.ex
  have hdV : dV = .none := by
    rcases hD with ⟨_, h⟩ | ⟨h, _⟩
    · exact h
    · exact absurd rfl h
  subst hdV
  have kb : KBn X.K fd ps 0 ks (fun _ ws => pmt idx ws) (fun _ zs => pmt idx zs) := ⟨fun s us ws _ l1 l2 => by
    have eu : us = [] := List.eq_nil_of_length_eq_zero l1
    rw [eu, e]
    exact .of_eq (hb _ _ _ _ _ _ ws l2), fun _ rz => vals_pmt rz idx⟩
  refine PE_imp (pe_callK0 (F.mono hk) hr hg hm D.kp kb hx ha hall hks hdb hpl) fun σ H Q ⟨F', ρ, T, Q0, X0, R, ht, hq, hx⟩ => ?_
  refine ⟨F', ρ, T, _, X0, R, ht, fun ds ρ1 h1 F1 H1 vs s1 dl R1 => ⟨by rw [dl.length, h1.1, hl], ?_⟩, hx⟩
  rw [← hS, ← hT]
  exact ⟨S.g.dA, F1, _, _, X0, h1.2, denL_pmt dl idx, R1.2.ent, fun d hd F2 H2 v A dv => hq _ _ hd F2 H2 v (s1.trans A.ff) ⟨dv, R1.1, R1.2.after A⟩, fun ex hex F2 H2 cls dd A e pk => hx ex hex F2 H2 cls dd (s1.trans A.ff) ⟨(R1.2.after A).nil, e, pk⟩⟩
end
end PL
set_option Elab.async false
set_option linter.all false
namespace PL
open PySem PySem.Spec PyProof.Rows L2
theorem pu_isn_non_false  {K : Tm → Prop} : qIsN false (.non) .non K = K (.d (.bl true)) := rfl
theorem pu_isn_non_true  {K : Tm → Prop} : qIsN true (.non) .non K = K (.d (.bl false)) := rfl
theorem pu_isn_bl_false {x : Bool} {K : Tm → Prop} : qIsN false (.bl x) .non K = K (.d (.bl false)) := rfl
theorem pu_isn_bl_true {x : Bool} {K : Tm → Prop} : qIsN true (.bl x) .non K = K (.d (.bl true)) := rfl
theorem pu_isn_int_false {x : Int} {K : Tm → Prop} : qIsN false (.int x) .non K = K (.d (.bl false)) := rfl
theorem pu_isn_int_true {x : Int} {K : Tm → Prop} : qIsN true (.int x) .non K = K (.d (.bl true)) := rfl
theorem pu_isn_str_false {x : Str} {K : Tm → Prop} : qIsN false (.str x) .non K = K (.d (.bl false)) := rfl
theorem pu_isn_str_true {x : Str} {K : Tm → Prop} : qIsN true (.str x) .non K = K (.d (.bl true)) := rfl
theorem pu_isn_tup_false {x : List D} {K : Tm → Prop} : qIsN false (.tup x) .non K = K (.d (.bl false)) := rfl
theorem pu_isn_tup_true {x : List D} {K : Tm → Prop} : qIsN true (.tup x) .non K = K (.d (.bl true)) := rfl
theorem pu_isn_lst_false {x : List D} {K : Tm → Prop} : qIsN false (.lst x) .non K = K (.d (.bl false)) := rfl
theorem pu_isn_lst_true {x : List D} {K : Tm → Prop} : qIsN true (.lst x) .non K = K (.d (.bl true)) := rfl
theorem pu_isn_dK_false {x : List (Key × D)} {K : Tm → Prop} : qIsN false (.dK x) .non K = K (.d (.bl false)) := rfl
theorem pu_isn_dK_true {x : List (Key × D)} {K : Tm → Prop} : qIsN true (.dK x) .non K = K (.d (.bl true)) := rfl
theorem pu_isn_dT_false {x : List (List Key × D)} {K : Tm → Prop} : qIsN false (.dT x) .non K = K (.d (.bl false)) := rfl
theorem pu_isn_dT_true {x : List (List Key × D)} {K : Tm → Prop} : qIsN true (.dT x) .non K = K (.d (.bl true)) := rfl
theorem pu_isn_exn_false {x : Addr} {K : Tm → Prop} : qIsN false (.exn x) .non K = K (.d (.bl false)) := rfl
theorem pu_isn_exn_true {x : Addr} {K : Tm → Prop} : qIsN true (.exn x) .non K = K (.d (.bl true)) := rfl
theorem pu_qReprB {b : Bool} {K : Tm → Prop} : qRepr (.bl b) K = K (.d (.str (if b then "True" else "False"))) := rfl
theorem pu_qReprN {K : Tm → Prop} : qRepr .non K = K (.d (.str "None")) := rfl
theorem pu_lamR_nil  : lamR [] = [] := rfl
theorem pu_lamR_va {d : D} {ρ : Rho} : lamR (.va d :: ρ) = .va d :: lamR ρ := rfl
theorem pu_lamR_ow {o : Own} {ρ : Rho} : lamR (.ow o :: ρ) = .no :: lamR ρ := rfl
theorem pu_lamR_no {ρ : Rho} : lamR (.no :: ρ) = .no :: lamR ρ := rfl
end PL
set_option Elab.async false
set_option linter.all false
set_option maxRecDepth 100000
namespace PL
open PySem PySem.Spec PyProof.Rows L2
def gT2 (g1 g2 : TGp) : TGp := fun d ρ K => match d with | .tup [a, b] => g1 a ρ fun ρ1 => g2 b ρ1 K | _ => False
def gT3 (g1 g2 g3 : TGp) : TGp := fun d ρ K => match d with | .tup [a, b, c] => g1 a ρ fun ρ1 => g2 b ρ1 fun ρ2 => g3 c ρ2 K | _ => False
theorem GX_imp {X : Cx} {S : Sit} {is : List Nat} {tg : Expr} {g g' : TGp} (h : GX X S is tg g) (i : ∀ d ρ K, g' d ρ K → g d ρ K) : GX X S is tg g' := PG_imp h fun v σ H Q ⟨F, ρ, T, d, K, R, dv, k, hq⟩ => ⟨F, ρ, T, d, K, R, dv, i _ _ _ k, hq⟩
theorem gT2_ok {g1 g2 : TGp} (d : D) (ρ : Rho) (K : Rho → Prop) (h : gT2 g1 g2 d ρ K) : gT 2 (gpCons g1 (gpCons g2 gpNil)) d ρ K := by
  unfold gT2 at h
  split at h
  · exact ⟨rfl, h⟩
  · exact h.elim
theorem gT3_ok {g1 g2 g3 : TGp} (d : D) (ρ : Rho) (K : Rho → Prop) (h : gT3 g1 g2 g3 d ρ K) : gT 3 (gpCons g1 (gpCons g2 (gpCons g3 gpNil))) d ρ K := by
  unfold gT3 at h
  split at h
  · exact ⟨rfl, h⟩
  · exact h.elim
def IsC (t : TD) (d : D) : Prop := ∀ ρ (K : D → Rho → Prop) X, K d ρ → t ρ (fun m ρ1 => use m ρ1 K) X
def aC (ds : List D) : TAs := fun ρ Q _ => Q ds ρ
section
variable {X : Cx} {S : Sit} {E : XK} {pos : Pos}
theorem axc_nil : AX X S E [] (aC []) := ax_nil
theorem axc_cons {e : Expr} {es : List Expr} {t : TD} {d : D} {ds : List D} (ha : EX X S E e t) (hc : IsC t d) (hr : AX X S E es (aC ds)) (hs : starEach (e :: es) X.env = (false, eval e X.env) :: starEach es X.env := by rfl) : AX X S E (e :: es) (aC (d :: ds)) :=
  PA_imp (ax_cons ha hr hs) fun σ H Q ⟨F, ρ, T, Q0, X0, R, ht, hq, hx⟩ => ⟨F, ρ, T, Q0, X0, R, hc ρ _ X0 ht, hq, hx⟩
end
theorem pu_gT2 {g1 g2 : TGp} {a b : D} {ρ : Rho} {K : Rho → Prop} : gT2 g1 g2 (.tup [a, b]) ρ K = g1 a ρ fun ρ1 => g2 b ρ1 K := rfl
theorem pu_gT3 {g1 g2 g3 : TGp} {a b c : D} {ρ : Rho} {K : Rho → Prop} : gT3 g1 g2 g3 (.tup [a, b, c]) ρ K = g1 a ρ fun ρ1 => g2 b ρ1 fun ρ2 => g3 c ρ2 K := rfl
theorem seq_intro {a b : TSt} {P : PEnds} {ρ : Rho} (h : ∀ N : Rho → Prop, N = b P → a { P with nx := N } ρ) : dSeq a b P ρ := h _ rfl
theorem isc_c (d : D) : IsC (dC d) d := fun _ _ _ h => h
theorem isc_tup (ds : List D) (h : ds.length ≤ sizeLine) : IsC (dTup (aC ds)) (.tup ds) := fun _ _ _ k => ⟨h, k⟩
theorem isc_lst (ds : List D) (h : ds.length ≤ sizeLine) : IsC (dLst (aC ds)) (.lst ds) := fun _ _ _ k => ⟨h, k⟩
theorem isc_newK : IsC dNewK (.dK []) := fun _ _ _ h => h
theorem isc_newT : IsC dNewT (.dT []) := fun _ _ _ h => h
theorem isc_sub (i j k : Int) (e : i - j = k) : IsC (dOp2 qSub (dC (.int i)) (dC (.int j))) (.int k) := fun _ _ _ h => by subst e; exact h
theorem isc_mulT (ds es : List D) (k : Int) (h : ds.length ≤ sizeLine) (h2 : k ≤ 1000 ∧ -1000 ≤ k ∧ ds.length ≤ 1000) (e : (List.replicate k.toNat ds).flatten = es) : IsC (dOp2 qMul (dTup (aC ds)) (dC (.int k))) (.tup es) := fun _ _ _ q => by subst e; exact ⟨h, h2, q⟩
theorem isc_pow (i j k : Int) (h : CPow i j) (e : i ^ j.toNat = k) : IsC (dOp2 qPow (dC (.int i)) (dC (.int j))) (.int k) := fun _ _ _ q => by subst e; exact ⟨h, q⟩
theorem isc_powA (i j a k : Int) (h : CPow i j) (e : i ^ j.toNat + a = k) : IsC (dOp2 qAdd (dOp2 qPow (dC (.int i)) (dC (.int j))) (dC (.int a))) (.int k) := fun _ _ _ q => by subst e; exact ⟨h, q⟩
def okC (G : Str → Addr) (EX : List Str) (C : Addr) : Prop := ∃ n ∈ EX, C = G n
end PL
set_option Elab.async false
set_option linter.all false
set_option maxRecDepth 100000
namespace PL
open PySem PySem.Spec PyProof.Rows L2
def dCallV (i : Nat) (cs : List (Addr × PC)) (t : TAs) : TD := fun ρ Q X => ∃ f c, getS ρ i = .va (.op (.ref f)) ∧ (f, c) ∈ cs ∧ t ρ (fun ds ρ1 => c ds (fun d => Q (.d d) ρ1) X) X
def HeldD (P : Program) (w : World) (K : PySem.W.Frag) (TT : List (Addr × Str)) (mg : Str → Option Value) (base : Heap) (k : Nat) (p : Addr × PC) : Prop := ∃ x, CalD P w K TT mg base k x p.2 ∧ mg x = some (.ref p.1)
theorem held_nil {P : Program} {w : World} {K : PySem.W.Frag} {TT : List (Addr × Str)} {mg : Str → Option Value} {base : Heap} {k : Nat} : ∀ p ∈ ([] : List (Addr × PC)), HeldD P w K TT mg base k p := fun p hp => nomatch hp
theorem held_cons {P : Program} {w : World} {K : PySem.W.Frag} {TT : List (Addr × Str)} {mg : Str → Option Value} {base : Heap} {k j : Nat} {x : Str} {f : Addr} {c : PC} {cs : List (Addr × PC)} (C : CalD P w K TT mg base j x c) (hm : mg x = some (.ref f)) (hr : ∀ p ∈ cs, HeldD P w K TT mg base k p) (hk : j ≤ k := by decide) : ∀ p ∈ (f, c) :: cs, HeldD P w K TT mg base k p := fun p hp => by
  rcases List.mem_cons.mp hp with e | e
  · rw [e]; exact ⟨x, C.mono hk, hm⟩
  · exact hr p e
section
variable {X : Cx} {S : Sit} {E : XK} {pos p : Pos} {k i : Nat} {x : Str} {e : Expr} {es : List Expr} {t : TAs} {cs : List (Addr × PC)}
theorem ex_callV {TT : List (Addr × Str)} (A : ∀ p ∈ cs, HeldD X.prog X.w X.K TT X.mg X.base k p) (hr : Room k X.A) (hS : S.g.K = X.K) (hT : S.g.T = TT) (hx : Passes (L2.CX X.prog X.w) X E) (ha : AX X S E (e :: es) t) (hN : X.N[i]? = some x := by rfl)
    (hv : Vis X.env.scope x := by first | exact Or.inl rfl | exact Or.inr (Or.inl rfl) | exact Or.inr (Or.inr rfl)) (hdb : (x == ("__debug__" : Str)) = false := by decide) (hcd : (x == ("__classdict__" : Str)) = false := by decide)
    (he : starEach (e :: es) X.env = (false, eval e X.env) :: starEach es X.env := by rfl) (hpl : (backTo pos (starEach es X.env)).any (·.1) = false := by rfl) :
    EX X S E (.Call (.Name x p) (e :: es) [] pos) (dCallV i cs t) := by
  refine ⟨fun pins s σ H Q I ⟨F, ρ, T, Q0, X0, R, ht, hq, hx0⟩ => ?_⟩
  obtain ⟨f, c, hs, hc, ht⟩ := ht
  obtain ⟨y, C, hm⟩ := A _ hc
  obtain ⟨f', fd, ps, Fn, hm', hkp, hb⟩ := C.ex
  have ef : f' = f := by
    rw [hm] at hm'
    cases hm'
    rfl
  subst ef
  have hi : i < σ.length := by
    rw [R.1]
    exact (List.getElem?_eq_some_iff.mp (getS_some hs (by intro z; cases z))).1
  obtain ⟨l, Rh, _, _⟩ := R.split (List.getElem?_eq_getElem hi)
  rw [hs] at Rh
  obtain ⟨v, ev, dv⟩ := Rh.ok _ List.mem_cons_self
  cases dv
  have hv2 : σ[i]? = some (some (.ref f')) := by rw [List.getElem?_eq_getElem hi, ev]
  refine (pe_callL (dvs := []) (ds := []) (by rw [← hS, ← hT] at Fn; rw [← hS]; exact Fn) hr hN hv hkp hb .nil hx ha hdb hcd he hpl).run pins s σ H Q I ⟨hv2, ?_⟩
  refine ⟨F, ρ, T, _, X0, R, ht, fun ds ρ1 h1 F1 H1 vs s1 dl R1 => ?_, hx0⟩
  show spD S.g.K S.g.T c (vs ++ []) H1 Q E
  rw [List.append_nil]
  exact ⟨S.g.dA, F1, ds, _, X0, h1, dl, R1.2.ent, fun d hd F2 H2 v A dv => hq _ _ hd F2 H2 v (s1.trans A.ff) ⟨dv, R1.1, R1.2.after A⟩, fun ex hex F2 H2 cls dd A e pk => hx0 ex hex F2 H2 cls dd (s1.trans A.ff) ⟨(R1.2.after A).nil, e, pk⟩⟩
end
section
variable {X : Cx} {S : Sit} {E : XK} {pos : Pos}
theorem ex_caughtP {x : Str} {st : Stmt} {CS c P : Addr} {k : Nat} {params : Arguments} {body : Expr} {scope : Scope} {te : TD} {ok : Addr → Prop} {p lpos : Pos} (D : DefIn X.K X.mg x x st ["work"]) (Sg : FnScope NC ["work"] (defScope st)) (hva : Vis (defScope st) ("work" : Str))
    (hG : ∀ g cdv q, LamX.GivesTo X NC x (defScope st) g cdv (defBody st) "work" q (TTc X.K CS)) (hS : S.g.K = X.K) (hok : ∀ C, ok C → PySem.W.exmOne X.K (.ref C) (.ref CS) = some true)
    (TB : LamX.TabB X.base X.mg c P) (hcode : X.env.code = .ref c) (hmT : (P, X.env.qual ++ "<lambda>") ∈ S.g.T) (hu : ∀ p ∈ S.g.T, p.1 = P → p.2 = X.env.qual ++ "<lambda>") (hr : Room (k + 2) X.A) (L : LamX.LamS X.env.scope scope)
    (hbody : ∀ (A : Around) (outer : List Env) (s : Shared) (H : Hp) (E : XK) (f c' : Addr) (S' : Sit), S'.g.K = (LamX.lamCx X A outer s H E scope f c').K → S'.g.T = S.g.T → Room k (LamX.lamCx X A outer s H E scope f c').A → Passes (L2.CX (LamX.lamCx X A outer s H E scope f c').prog (LamX.lamCx X A outer s H E scope f c').w) (LamX.lamCx X A outer s H E scope f c') E → EX (LamX.lamCx X A outer s H E scope f c') S' E body te)
    (hg : Gl X x := by first | exact Or.inl rfl | exact Or.inr rfl | rfl) (hdef : defaultsOf params X.env = ([], []) := by rfl) (hbind : ∀ (q : Str) (cl : List (Str × Addr)) (pm cv ctv : Value), bindArgs (PySem.W.kla_fn "<lambda>" q params body scope cl pm cv ctv) ⟨[], []⟩ = pure [] := by intros; rfl) (hdb : (x == ("__debug__" : Str)) = false := by decide) :
    EX X S E (.Call (.Name x p) [.Lambda params body scope lpos] [] pos) (dCaught ok te) :=
  ex_caught D Sg hva hG hS hok TB hcode hmT hu hr L (fun A outer s H E f c' S' e hr2 => hbody A outer s H E f c' S' (by rw [e]; exact hS) (by rw [e]) hr2 (pL (X := X))) hg hdef hbind hdb
end
end PL
set_option Elab.async false
set_option linter.all false
set_option maxRecDepth 100000
namespace HT
open PySem PySem.Spec PyProof.Rows L2
section
variable {prog : Program} {w : World} {A : Around} {E : Value → Shared → Prop} {s : Shared}
theorem sliceApplied_st {sl : Addr} {vl vu vs : Value} {lo hi st : Option Int} {n : Nat} {Q : Int × Int × Nat → Shared → Prop} (hs : s.heap.IsSliceOf sl vl vu vs) (pl : IsPart vl lo) (pu : IsPart vu hi) (ps : IsPart vs st) (h0 : st.getD 1 ≠ 0)
    (h : Q ((Builtin.Slice.sliceAdjust lo hi (st.getD 1) (n : Int)).1, st.getD 1, Builtin.Slice.slicePlaces (Builtin.Slice.sliceAdjust lo hi (st.getD 1) (n : Int)).1 (Builtin.Slice.sliceAdjust lo hi (st.getD 1) (n : Int)).2 (st.getD 1)) s) : wpAny (model prog w) A (Builtin.Slice.sliceApplied (.ref sl) (pure (n : Int))) Q E s := by
  obtain ⟨os, hos, hcs, hds⟩ := id hs
  unfold Builtin.Slice.sliceApplied Builtin.Slice.sliceFields
  refine wpAny_bind (wpAny_bind (wpAny_field hos hds (x := vl) rfl (wpAny_bind (wpAny_field hos hds (x := vu) rfl (wpAny_bind (wpAny_field hos hds (x := vs) rfl (wpAny_pure ?_)))))))
  refine wpAny_bind (slicePart_ ps ?_)
  show wpAny _ _ (if ((st.getD 1) == 0) = true then _ else _) _ _ s
  rw [if_neg (by intro q; exact h0 (eq_of_beq q))]
  exact wpAny_bind (slicePart_ pl (wpAny_bind (slicePart_ pu (wpAny_bind (wpAny_pure (wpAny_pure h))))))
def cutS {α : Type} (xs : List α) (lo hi st : Option Int) : List α := (List.range (Builtin.Slice.slicePlaces (Builtin.Slice.sliceAdjust lo hi (st.getD 1) (xs.length : Int)).1 (Builtin.Slice.sliceAdjust lo hi (st.getD 1) (xs.length : Int)).2 (st.getD 1))).filterMap fun (m : Nat) => xs[((Builtin.Slice.sliceAdjust lo hi (st.getD 1) (xs.length : Int)).1 + (m : Int) * (st.getD 1)).toNat]?
def idxS (n : Nat) (lo hi st : Option Int) : List Nat := (List.range (Builtin.Slice.slicePlaces (Builtin.Slice.sliceAdjust lo hi (st.getD 1) (n : Int)).1 (Builtin.Slice.sliceAdjust lo hi (st.getD 1) (n : Int)).2 (st.getD 1))).map fun (m : Nat) => ((Builtin.Slice.sliceAdjust lo hi (st.getD 1) (n : Int)).1 + (m : Int) * (st.getD 1)).toNat
theorem cutS_idx {α : Type} (xs : List α) (lo hi st : Option Int) : cutS xs lo hi st = PL.pmt (idxS xs.length lo hi st) xs := by
  unfold cutS idxS PL.pmt
  rw [List.filterMap_map]
  rfl
theorem pmt_range {α : Type} (xs : List α) : PL.pmt (List.range xs.length) xs = xs := by
  unfold PL.pmt
  induction xs with
  | nil => rfl
  | cons x xs ih =>
    rw [List.length_cons, List.range_succ_eq_map, List.filterMap_cons, List.filterMap_map]
    show x :: _ = _
    congr 1
theorem cutS_whole {α : Type} {xs : List α} {lo hi st : Option Int} (h1 : (Builtin.Slice.sliceAdjust lo hi (st.getD 1) (xs.length : Int)).1 = 0) (h2 : st.getD 1 = 1) (h3 : Builtin.Slice.slicePlaces (Builtin.Slice.sliceAdjust lo hi (st.getD 1) (xs.length : Int)).1 (Builtin.Slice.sliceAdjust lo hi (st.getD 1) (xs.length : Int)).2 (st.getD 1) = xs.length) : cutS xs lo hi st = xs := by
  rw [cutS_idx]
  unfold idxS
  rw [h3, h1, h2]
  have e : (fun (m : Nat) => ((0 : Int) + (m : Int) * 1).toNat) = id := by
    funext m
    simp
  rw [e, List.map_id]
  exact pmt_range xs
theorem getItem_tuple_st {t sl : Addr} {items : Array Value} {vl vu vs : Value} {lo hi st : Option Int} {Q : Value → Shared → Prop} (ht : IsTup s.heap t items) (hs : s.heap.IsSliceOf sl vl vu vs) (pl : IsPart vl lo) (pu : IsPart vu hi) (ps : IsPart vs st) (h0 : st.getD 1 ≠ 0)
    (hsz : (cutS items.toList lo hi st).length ≤ sizeLine)
    (hw : (Builtin.Slice.sliceAdjust lo hi (st.getD 1) (items.size : Int)).1 = 0 → st.getD 1 = 1 → Builtin.Slice.slicePlaces (Builtin.Slice.sliceAdjust lo hi (st.getD 1) (items.size : Int)).1 (Builtin.Slice.sliceAdjust lo hi (st.getD 1) (items.size : Int)).2 (st.getD 1) = items.size → Q (.ref t) s)
    (h : Q (.ref s.heap.objs.size) { s with heap := s.heap.push { cls := .type "tuple", data := .seq (cutS items.toList lo hi st).toArray } }) : wpAny (model prog w) A (getItem (.ref t) (.ref sl)) Q E s := by
  obtain ⟨os, hos, hcs, hds⟩ := id hs
  have hTs : s.TypeIs (.ref sl) "slice" := ⟨os, hos, hcs⟩
  unfold getItem
  try with_reducible refine wpAny_holding ?_
  first | refine wpAny_bind (wpAny_pure ?_) | skip
  refine wpAny_bind (wpAny_sequenceKey ht.typeIs (by decide) ?_)
  refine wpAny_bind (wpAny_callSpecial?_slot (name := Str.ofString "__getitem__") ht.typeIs PyProof.Rows.slot_tuple_getitem
    (wpAny_call_entry PyProof.Rows.slot_tuple_getitem ht.typeIs entry_tuple_getitem ?_ (args_tuple_getitem _ _)))
  show wpAny _ _ (Builtin.Tuple.tupleItemsOf (.ref t) >>= _) _ _ s
  refine wpAny_bind (tupleItemsOf_ ht ?_)
  refine wpAny_bind (wpAny_typeOf hTs ?_)
  rw [if_pos (by decide)]
  refine wpAny_bind (sliceApplied_st hs pl pu ps h0 ?_)
  have hl : ((items.toList.length : Nat) : Int) = (items.size : Int) := by rw [Array.length_toList]
  have htake : sizeOk (.seq (cutS items.toList lo hi st).toArray) := by
    show (cutS items.toList lo hi st).toArray.size ≤ sizeLine
    rw [List.size_toArray]; exact hsz
  unfold cutS at h htake
  rw [hl] at h htake
  simp only [Array.getElem?_toList] at h htake
  generalize Builtin.Slice.sliceAdjust lo hi (st.getD 1) (items.size : Int) = ad at hw h htake ⊢
  generalize st.getD 1 = z at hw h htake ⊢
  show wpAny _ _ (if (ad.1 == 0 && z == 1 && Builtin.Slice.slicePlaces ad.1 ad.2 z == items.size) = true then _ else _) _ _ s
  by_cases hy : (ad.1 == 0 && z == 1 && Builtin.Slice.slicePlaces ad.1 ad.2 z == items.size) = true
  · rw [if_pos hy]
    rw [Bool.and_eq_true, Bool.and_eq_true] at hy
    have h' := hw (eq_of_beq hy.1.1) (eq_of_beq hy.1.2) (eq_of_beq hy.2)
    refine wpAny_bind ?_
    show wpAny _ _ (typeOf (.ref t) >>= fun T => pure (T == .type "tuple")) _ _ s
    refine wpAny_bind (wpAny_typeOf ht.typeIs (wpAny_pure ?_))
    first
      | rw [if_pos (by decide)]
      | simp only [beq_self_eq_true, if_true]
    first
      | exact wpAny_bind (wpAny_rule (wpAny_pure ⟨_, rfl, wpAny_pure h'⟩))
      | exact wpAny_bind (wpAny_rule (wpAny_bind (wpAny_pure (wpAny_pure ⟨_, rfl, wpAny_pure h'⟩))))
  · rw [if_neg hy]
    first
      | exact wpAny_bind (m := Builtin.Tuple.tupleExact _) (wpAny_newObj_type (wpAny_pure ⟨_, rfl, wpAny_pure h⟩) htake)
      | exact wpAny_bind (m := Builtin.Tuple.tupleExact _) (wpAny_newObj_type (wpAny_bind (wpAny_pure (wpAny_pure ⟨_, rfl, wpAny_pure h⟩))) htake)
      | exact wpAny_bind (wpAny_bind (m := Builtin.Tuple.tupleExact _) (wpAny_newObj_type (wpAny_pure (wpAny_pure ⟨_, rfl, wpAny_pure h⟩)) htake))
      | exact wpAny_bind (wpAny_bind (m := Builtin.Tuple.tupleExact _) (wpAny_newObj_type (wpAny_pure ⟨_, rfl, wpAny_pure h⟩) htake))
end
end HT

namespace PL
open PySem PySem.Spec PyProof.Rows L2
def idxLs (n : Nat) (lo hi st : Option Int) : List Nat := sliceRange (sliceBounds lo hi st n).1 (sliceBounds lo hi st n).2.1 (sliceBounds lo hi st n).2.2
theorem slicePick_pmt (its : List Value) (lo hi st : Option Int) : slicePick its.toArray lo hi st = (pmt (idxLs its.length lo hi st) its).toArray := by
  unfold slicePick idxLs pmt
  simp
def qSl3 (x : D) (lo hi st : Option Int) (K : Tm → Prop) : Prop := match x with
  | .tup l => st.getD 1 ≠ 0 ∧ (HT.cutS l lo hi st).length ≤ sizeLine ∧ K (.d (.tup (HT.cutS l lo hi st)))
  | .lst l => st ≠ some 0 ∧ (pmt (idxLs l.length lo hi st) l).length ≤ sizeLine ∧ K (.o (.lst (pmt (idxLs l.length lo hi st) l)))
  | _ => False
theorem pu_qSl3L {l : List D} {lo hi st : Option Int} {K : Tm → Prop} : qSl3 (.lst l) lo hi st K = (st ≠ some 0 ∧ (pmt (idxLs l.length lo hi st) l).length ≤ sizeLine ∧ K (.o (.lst (pmt (idxLs l.length lo hi st) l)))) := rfl
theorem pu_qSl3 {l : List D} {lo hi st : Option Int} {K : Tm → Prop} : qSl3 (.tup l) lo hi st K = (st.getD 1 ≠ 0 ∧ (HT.cutS l lo hi st).length ≤ sizeLine ∧ K (.d (.tup (HT.cutS l lo hi st)))) := rfl
def dSl3 (te : TD) (tl th ts : TPt) : TD := fun ρ Q X => te ρ (fun m ρ1 => tl ρ1 (fun lo ρ2 => th ρ2 (fun hi ρ3 => ts ρ3 (fun st ρ4 => peek m ρ4 fun x => qSl3 x lo hi st fun z => Q z ρ4) X) X) X) X
section
variable {X : Cx} {S : Sit} {E : XK} {p2 pos : Pos}
theorem sl3_D {pins : List (Addr × Obj)} {s : Shared} {σ : L2.St} {H : Hp} {v : V} {vv vl vu vs : Value} {lo hi st : Option Int} {sl : Addr} {Q : VK} (I : Inv X pins σ H s) (rv : RelV v vv) (hs : s.heap.IsSliceOf sl vl vu vs) (pl : IsPart vl lo) (pu : IsPart vu hi) (ps : IsPart vs st)
    (h : ∃ F l x Q0, Rep S F H l ∧ Rdv S F l v x ∧ qSl3 x lo hi st Q0 ∧ ∀ z, Q0 z → ∀ F' H' w, Same F F' → RepZ S F' H' w z l → Q w H') :
    ∃ T id, typeLookup (.type T) "__getitem__" = pure (some (.builtin id)) ∧ s.TypeIs vv T ∧ wpAny (model X.prog X.w) X.A (getItem vv (.ref sl)) (EP X pins σ Q) X.xe s := by
  obtain ⟨F, l, x, Q0, R, dx, q, post⟩ := h
  cases x with
  | tup a =>
    obtain ⟨p, xs, rfl, ha, dl⟩ := dx.tup
    obtain ⟨q0, qn, q⟩ := q
    cases rv
    obtain ⟨its, r, ht, hz⟩ := I.tuple (SqT.of (R.fh _ _ ha))
    have hlen : its.length = xs.length := r.length.symm
    have hl2 : xs.length = a.length := dl.length
    have hsz : its.toArray.size = a.length := by rw [List.size_toArray, hlen, hl2]
    refine ⟨"tuple", _, PyProof.Rows.slot_tuple_getitem.lookup, ht.typeIs, ?_⟩
    have dc : DenL S.g F (HT.cutS xs lo hi st) (HT.cutS a lo hi st) := by
      rw [HT.cutS_idx, HT.cutS_idx, hl2]
      exact denL_pmt dl _
    have rc : Vals (HT.cutS xs lo hi st) (HT.cutS its lo hi st) := by
      rw [HT.cutS_idx, HT.cutS_idx, hlen]
      exact vals_pmt r _
    have hcl : (HT.cutS its lo hi st).length ≤ sizeLine := by rw [← rc.length, dc.length]; exact qn
    refine HT.getItem_tuple_st ht hs pl pu ps q0 hcl (fun e1 e2 e3 => ?_) ?_
    · rw [hsz] at e1 e3
      have ec : HT.cutS a lo hi st = a := HT.cutS_whole e1 e2 e3
      rw [ec] at q
      exact ⟨.ref p, H, I, rfl, post _ q F H _ (Same.refl _) ⟨.tup ha dl, R⟩⟩
    · refine ⟨.ref s.heap.objs.size, _, I.laid (t' := s.toks) (o := .tup (HT.cutS xs lo hi st)) (fun b ob q => Heap.get?_push_of_some _ q) (Nat.le_refl _) ⟨by rw [rc.length]; exact hcl, _, rc, IsTup.new _ _⟩, rfl, ?_⟩
      have nq := I.hok.fresh (Nat.le_refl s.heap.objs.size)
      have n1 := (R.free nq).1
      exact post _ q _ _ _ (same_new n1) ⟨.tup upd_same (dc.mono (same_new n1)), R.newF nq⟩
  | lst a =>
    obtain ⟨p, xs, rfl, ha, dl⟩ := dx.lst R
    obtain ⟨q0, qn, q⟩ := q
    cases rv
    obtain ⟨its, r, ht, hz⟩ := I.list (SqL.of ha)
    have hlen : its.length = xs.length := r.length.symm
    have hl2 : xs.length = a.length := dl.length
    refine ⟨"list", _, PySem.slot_list_getitem.lookup, ht.isList.typeIs, ?_⟩
    have dc : DenL S.g F (pmt (idxLs a.length lo hi st) xs) (pmt (idxLs a.length lo hi st) a) := denL_pmt dl _
    have rc : Vals (pmt (idxLs a.length lo hi st) xs) (pmt (idxLs a.length lo hi st) its) := vals_pmt r _
    refine wpAny_getItem_list_slice ht.isList hs pl pu ps q0 ?_ (by rw [List.size_toArray, hlen]; exact hz)
    rw [slicePick_pmt, hlen, hl2]
    refine ⟨.ref s.heap.objs.size, _, I.laid (t' := s.toks) (o := .lst (pmt (idxLs a.length lo hi st) xs)) (fun b ob q => Heap.get?_push_of_some _ q) (Nat.le_refl _) ⟨by rw [dc.length]; exact qn, _, 0, rc, Heap.get?_push_size _ rfl⟩, rfl, ?_⟩
    have nq := I.hok.fresh (Nat.le_refl s.heap.objs.size)
    exact post _ q F _ _ (Same.refl _) (R.newO nq ⟨_, upd_same, dc⟩)
  | _ => exact q.elim
def LSl3 (S : Sit) : V → Option Int → Option Int → Option Int → Hp → VK → Prop := fun v lo hi st H Q => ∃ F l x Q0, Rep S F H l ∧ Rdv S F l v x ∧ qSl3 x lo hi st Q0 ∧ ∀ z, Q0 z → ∀ F' H' w, Same F F' → RepZ S F' H' w z l → Q w H'
theorem pe_slice3 {e : Expr} {lo hi : Option Expr} {st : Expr} {te : TE} {tl th ts : TO} (he : PE X e te) (hl : PO X lo tl) (hu : PO X hi th) (ht : PO X (some st) ts) : PE X (.Subscript e (.Slice lo hi (some st) p2) pos) (fun σ H Q => te σ H fun x H1 => tl σ H1 fun l H2 => th σ H2 fun u H3 => ts σ H3 fun z H4 => LSl3 S x l u z H4 Q) := by
  refine ⟨fun pins s σ H Q I h => ?_⟩
  refine Subscript_ (thn (he.run pins s σ H _ I h) fun v s1 ⟨x, H1, I1, r1, q1⟩ => ?_)
  refine wpAny_Slice (thn (hl.run pins s1 σ H1 _ I1 q1) fun vl s2 ⟨l, H2, I2, pl, q2⟩ => thn (hu.run pins s2 σ H2 _ I2 q2) fun vu s3 ⟨u, H3, I3, pu, q3⟩ => thn (ht.run pins s3 σ H3 _ I3 q3) fun vz s4 ⟨z, H4, I4, pz, q4⟩ => ?_)
  have I5 : Inv X pins σ H4 { s4 with heap := s4.heap.push { cls := .type "slice", data := .fields #[vl, vu, vz] } } := I4.kept (t' := s4.toks) fun b ob q => Heap.get?_push_of_some _ q
  obtain ⟨T, id, hT, htt, hg⟩ := sl3_D I5 r1 (Heap.IsSliceOf.new ..) pl pu pz q4
  show wpAny (model X.prog X.w) X.A (subscriptTail e (.Slice lo hi (some st) p2) v (.ref s4.heap.objs.size)) (EP X pins σ Q) X.xe { s4 with heap := s4.heap.push { cls := .type "slice", data := .fields #[vl, vu, vz] } }
  exact tail_any (ops := [v, .ref s4.heap.objs.size]) htt hT hg (by with_unfolding_all rfl)
theorem ex_slice3 {e : Expr} {lo hi : Option Expr} {st : Expr} {te : TD} {tl th ts : TPt} (he : EX X S E e te) (hl : OX X S E lo tl) (hh : OX X S E hi th) (hz : OX X S E (some st) ts) : EX X S E (.Subscript e (.Slice lo hi (some st) p2) pos) (dSl3 te tl th ts) := by
  refine PE_imp (pe_slice3 (S := S) he hl hh hz) fun σ H Q ⟨F, ρ, T, Q0, X0, R, ht, hq, hx⟩ => ?_
  refine ⟨F, ρ, T, _, X0, R, ht, fun m ρ1 h1 F1 H1 v s1 R1 => ?_, hx⟩
  refine ⟨F1, ρ1, pushT v m T, _, X0, R1.stack, h1, fun o ρ2 h2 F2 H2 s2 R2 => ?_, hx.mono s1⟩
  refine ⟨F2, ρ2, pushT v m T, _, X0, R2, h2, fun o2 ρ3 h3 F3 H3 s3 R3 => ?_, hx.mono (s1.trans s2)⟩
  refine ⟨F3, ρ3, pushT v m T, _, X0, R3, h3, fun o3 ρ4 h4 F4 H4 s4 R4 => ?_, hx.mono ((s1.trans s2).trans s3)⟩
  obtain ⟨x, r, k⟩ := peek_ok (R1.come.mono ((s2.trans s3).trans s4)) R4 pushT_mem h4
  exact ⟨F4, _, x, _, R4.2, r, k, fun z hz F5 H5 w s5 R5 => hq _ _ hz F5 H5 w ((((s1.trans s2).trans s3).trans s4).trans s5) (R5.drop R4.1 pushT_sub)⟩
def qIsB (neg : Bool) : Q2 := fun x y K => match x, y with | .bl a, .bl b => K (.d (.bl (if neg then !(a == b) else a == b))) | _, _ => False
theorem pu_qIsB {a b : Bool} {K : Tm → Prop} : qIsB false (.bl a) (.bl b) K = K (.d (.bl (a == b))) := rfl
theorem o_isB : OpR X (compareOp .Is) (L2q S (qIsB false)) := by
  intro pins s σ H v u vv uu Q I rv ru ⟨F, l, x, y, Q0, R, dx, dy, q, post⟩
  cases x with
  | bl a =>
    cases y with
    | bl b =>
      have e1 : v = .bl a := by rcases dx with h | ⟨o, e, _⟩; (· cases h; rfl); (· cases o <;> cases e)
      have e2 : u = .bl b := by rcases dy with h | ⟨o, e, _⟩; (· cases h; rfl); (· cases o <;> cases e)
      subst e1 e2
      cases rv
      cases ru
      refine wpAny_is_plain rfl ?_
      have e : (Value.bool a == Value.bool b) = (a == b) := by cases a <;> cases b <;> decide
      rw [e]
      exact ⟨.bl _, H, I, rfl, post _ q F H _ (Same.refl _) ⟨.bl _, R⟩⟩
    | _ => exact q.elim
  | _ => exact q.elim
end
end PL
set_option Elab.async false
set_option linter.all false
set_option maxRecDepth 100000
namespace RP
open PySem PySem.Spec PyProof.Rows L2 PL
local macro_rules | `(tactic| walk_at "pu") => `(tactic| simp only [decide_true, decide_false, Bool.not_true, Bool.not_false, startD, Nat.reduceAdd, Nat.reduceSub, List.replicate_zero, List.replicate_succ, List.map_cons, List.map_nil, List.length_cons, List.length_nil, List.length_map, List.length_replicate, List.cons_append, List.nil_append, true_and, and_true, dSeq, dNext, dRet, dRetN, dBrk, dCnt, dIf, dSet, dPar2, dPar3, mCons, mNil, dOp1, dOp2, dC, dTup, dLst, aCons, aNil, bTest, bAnd, bOr, bNot, bYes, dAnd, dOr, dNot, dIfE, dCall, dFor, dLc, iR1, iR2, iSeq, iEnD, iZpD, iScr, gN, dAsgT, dDrop, dRaise, dAppend, dPop, dNewT, dNewK, dCallK, dSl, pIt, pNo, dChain, dCaught, aC, dSl3, dCallV, pu_use_d, pu_use_olst, pu_peek_olst, pu_use_odK, pu_peek_odK, pu_use_odT, pu_peek_odT, pu_peek_d, pu_use_r, pu_peek_r, pu_var, pu_useS_va, pu_peekS_va, pu_varS_va, pu_varS_ow, pu_useS_lst, pu_peekS_lst, pu_useS_dK, pu_peekS_dK, pu_useS_dT, pu_peekS_dT, pu_get0, pu_getS, pu_set0, pu_setS, pu_wipe0, pu_wipeS, pu_asg_d, pu_asg_o, pu_asg_r, pu_fz_d, pu_fz_o, pu_fz_r, pu_toSl_d, pu_toSl_o, pu_isB, pu_qAdd, pu_qAddT, pu_qAddL, pu_qMul, pu_qMulT, pu_qMulL, pu_qSub, pu_qMod, pu_qDiv, pu_qPow, pu_qLt, pu_qLe, pu_qGt, pu_qGe, pu_qMax2, pu_qMin2, pu_qEq, pu_qNe, pu_qNeg, pu_qAbs, pu_qInt, pu_qLenT, pu_qLenL, pu_qLenS, pu_qLstT, pu_qLstL, pu_qTupT, pu_qTupL, pu_qSlT, pu_qSlL, pu_atL, pu_atLS, pu_gT, pu_gpC, pu_gpN, pu_ty_non, pu_ty_bl, pu_ty_int, pu_ty_str, pu_ty_tup, pu_ty_lst, pu_qEqS, pu_qNeS, pu_isi_non_int, pu_isi_non_bool, pu_isi_non_str, pu_isi_non_tuple, pu_isi_non_list, pu_isi_non_dict, pu_isi_bl_int, pu_isi_bl_bool, pu_isi_bl_str, pu_isi_bl_tuple, pu_isi_bl_list, pu_isi_bl_dict, pu_isi_int_int, pu_isi_int_bool, pu_isi_int_str, pu_isi_int_tuple, pu_isi_int_list, pu_isi_int_dict, pu_isi_str_int, pu_isi_str_bool, pu_isi_str_str, pu_isi_str_tuple, pu_isi_str_list, pu_isi_str_dict, pu_isi_tup_int, pu_isi_tup_bool, pu_isi_tup_str, pu_isi_tup_tuple, pu_isi_tup_list, pu_isi_tup_dict, pu_isi_lst_int, pu_isi_lst_bool, pu_isi_lst_str, pu_isi_lst_tuple, pu_isi_lst_list, pu_isi_lst_dict, pu_isi_dK_int, pu_isi_dK_bool, pu_isi_dK_str, pu_isi_dK_tuple, pu_isi_dK_list, pu_isi_dK_dict, pu_isi_dT_int, pu_isi_dT_bool, pu_isi_dT_str, pu_isi_dT_tuple, pu_isi_dT_list, pu_isi_dT_dict, pu_isn_non_false, pu_isn_non_true, pu_isn_bl_false, pu_isn_bl_true, pu_isn_int_false, pu_isn_int_true, pu_isn_str_false, pu_isn_str_true, pu_isn_tup_false, pu_isn_tup_true, pu_isn_lst_false, pu_isn_lst_true, pu_isn_dK_false, pu_isn_dK_true, pu_isn_dT_false, pu_isn_dT_true, pu_isn_exn_false, pu_isn_exn_true, pu_qReprB, pu_qReprN, pu_lamR_nil, pu_lamR_va, pu_lamR_ow, pu_lamR_no, pu_gT2, pu_gT3, pu_qSl3, pu_qSl3L, pu_qIsB])
local macro_rules | `(tactic| walk_at "pv") => `(tactic| simp -implicitDefEqProofs only [decide_true, decide_false, Bool.not_true, Bool.not_false, startD, Nat.reduceAdd, Nat.reduceSub, List.replicate_zero, List.replicate_succ, List.map_cons, List.map_nil, List.length_cons, List.length_nil, List.length_map, List.length_replicate, List.cons_append, List.nil_append, true_and, and_true, dSeq, dNext, dRet, dRetN, dBrk, dCnt, dIf, dSet, dPar2, dPar3, mCons, mNil, dOp1, dOp2, dC, dTup, dLst, aCons, aNil, bTest, bAnd, bOr, bNot, bYes, dAnd, dOr, dNot, dIfE, dCall, dFor, dLc, iR1, iR2, iSeq, iEnD, iZpD, iScr, gN, dAsgT, dDrop, dRaise, dAppend, dPop, dNewT, dNewK, dCallK, dSl, pIt, pNo, dChain, dCaught, aC, dSl3, dCallV, pu_use_d, pu_use_olst, pu_peek_olst, pu_use_odK, pu_peek_odK, pu_use_odT, pu_peek_odT, pu_peek_d, pu_use_r, pu_peek_r, pu_var, pu_useS_va, pu_peekS_va, pu_varS_va, pu_varS_ow, pu_useS_lst, pu_peekS_lst, pu_useS_dK, pu_peekS_dK, pu_useS_dT, pu_peekS_dT, pu_get0, pu_getS, pu_set0, pu_setS, pu_wipe0, pu_wipeS, pu_asg_d, pu_asg_o, pu_asg_r, pu_fz_d, pu_fz_o, pu_fz_r, pu_toSl_d, pu_toSl_o, pu_isB, pu_qAdd, pu_qAddT, pu_qAddL, pu_qMul, pu_qMulT, pu_qMulL, pu_qSub, pu_qMod, pu_qDiv, pu_qPow, pu_qLt, pu_qLe, pu_qGt, pu_qGe, pu_qMax2, pu_qMin2, pu_qEq, pu_qNe, pu_qNeg, pu_qAbs, pu_qInt, pu_qLenT, pu_qLenL, pu_qLenS, pu_qLstT, pu_qLstL, pu_qTupT, pu_qTupL, pu_qSlT, pu_qSlL, pu_atL, pu_atLS, pu_gT, pu_gpC, pu_gpN, pu_ty_non, pu_ty_bl, pu_ty_int, pu_ty_str, pu_ty_tup, pu_ty_lst, pu_qEqS, pu_qNeS, pu_isi_non_int, pu_isi_non_bool, pu_isi_non_str, pu_isi_non_tuple, pu_isi_non_list, pu_isi_non_dict, pu_isi_bl_int, pu_isi_bl_bool, pu_isi_bl_str, pu_isi_bl_tuple, pu_isi_bl_list, pu_isi_bl_dict, pu_isi_int_int, pu_isi_int_bool, pu_isi_int_str, pu_isi_int_tuple, pu_isi_int_list, pu_isi_int_dict, pu_isi_str_int, pu_isi_str_bool, pu_isi_str_str, pu_isi_str_tuple, pu_isi_str_list, pu_isi_str_dict, pu_isi_tup_int, pu_isi_tup_bool, pu_isi_tup_str, pu_isi_tup_tuple, pu_isi_tup_list, pu_isi_tup_dict, pu_isi_lst_int, pu_isi_lst_bool, pu_isi_lst_str, pu_isi_lst_tuple, pu_isi_lst_list, pu_isi_lst_dict, pu_isi_dK_int, pu_isi_dK_bool, pu_isi_dK_str, pu_isi_dK_tuple, pu_isi_dK_list, pu_isi_dK_dict, pu_isi_dT_int, pu_isi_dT_bool, pu_isi_dT_str, pu_isi_dT_tuple, pu_isi_dT_list, pu_isi_dT_dict, pu_isn_non_false, pu_isn_non_true, pu_isn_bl_false, pu_isn_bl_true, pu_isn_int_false, pu_isn_int_true, pu_isn_str_false, pu_isn_str_true, pu_isn_tup_false, pu_isn_tup_true, pu_isn_lst_false, pu_isn_lst_true, pu_isn_dK_false, pu_isn_dK_true, pu_isn_dT_false, pu_isn_dT_true, pu_isn_exn_false, pu_isn_exn_true, pu_qReprB, pu_qReprN, pu_lamR_nil, pu_lamR_va, pu_lamR_ow, pu_lamR_no, pu_gT2, pu_gT3, pu_qSl3, pu_qSl3L, pu_qIsB])
local macro_rules | `(tactic| walk_at "pw") => `(tactic| simp -underLambda only [decide_true, decide_false, Bool.not_true, Bool.not_false, startD, Nat.reduceAdd, Nat.reduceSub, List.replicate_zero, List.replicate_succ, List.map_cons, List.map_nil, List.length_cons, List.length_nil, List.length_map, List.length_replicate, List.cons_append, List.nil_append, true_and, and_true, dSeq, dNext, dRet, dRetN, dBrk, dCnt, dIf, dSet, dPar2, dPar3, mCons, mNil, dOp1, dOp2, dC, dTup, dLst, aCons, aNil, bTest, bAnd, bOr, bNot, bYes, dAnd, dOr, dNot, dIfE, dCall, dFor, dLc, iR1, iR2, iSeq, iEnD, iZpD, iScr, gN, dAsgT, dDrop, dRaise, dAppend, dPop, dNewT, dNewK, dCallK, dSl, pIt, pNo, dChain, dCaught, aC, dSl3, dCallV, pu_use_d, pu_use_olst, pu_peek_olst, pu_use_odK, pu_peek_odK, pu_use_odT, pu_peek_odT, pu_peek_d, pu_use_r, pu_peek_r, pu_var, pu_useS_va, pu_peekS_va, pu_varS_va, pu_varS_ow, pu_useS_lst, pu_peekS_lst, pu_useS_dK, pu_peekS_dK, pu_useS_dT, pu_peekS_dT, pu_get0, pu_getS, pu_set0, pu_setS, pu_wipe0, pu_wipeS, pu_asg_d, pu_asg_o, pu_asg_r, pu_fz_d, pu_fz_o, pu_fz_r, pu_toSl_d, pu_toSl_o, pu_isB, pu_qAdd, pu_qAddT, pu_qAddL, pu_qMul, pu_qMulT, pu_qMulL, pu_qSub, pu_qMod, pu_qDiv, pu_qPow, pu_qLt, pu_qLe, pu_qGt, pu_qGe, pu_qMax2, pu_qMin2, pu_qEq, pu_qNe, pu_qNeg, pu_qAbs, pu_qInt, pu_qLenT, pu_qLenL, pu_qLenS, pu_qLstT, pu_qLstL, pu_qTupT, pu_qTupL, pu_qSlT, pu_qSlL, pu_atL, pu_atLS, pu_gT, pu_gpC, pu_gpN, pu_ty_non, pu_ty_bl, pu_ty_int, pu_ty_str, pu_ty_tup, pu_ty_lst, pu_qEqS, pu_qNeS, pu_isi_non_int, pu_isi_non_bool, pu_isi_non_str, pu_isi_non_tuple, pu_isi_non_list, pu_isi_non_dict, pu_isi_bl_int, pu_isi_bl_bool, pu_isi_bl_str, pu_isi_bl_tuple, pu_isi_bl_list, pu_isi_bl_dict, pu_isi_int_int, pu_isi_int_bool, pu_isi_int_str, pu_isi_int_tuple, pu_isi_int_list, pu_isi_int_dict, pu_isi_str_int, pu_isi_str_bool, pu_isi_str_str, pu_isi_str_tuple, pu_isi_str_list, pu_isi_str_dict, pu_isi_tup_int, pu_isi_tup_bool, pu_isi_tup_str, pu_isi_tup_tuple, pu_isi_tup_list, pu_isi_tup_dict, pu_isi_lst_int, pu_isi_lst_bool, pu_isi_lst_str, pu_isi_lst_tuple, pu_isi_lst_list, pu_isi_lst_dict, pu_isi_dK_int, pu_isi_dK_bool, pu_isi_dK_str, pu_isi_dK_tuple, pu_isi_dK_list, pu_isi_dK_dict, pu_isi_dT_int, pu_isi_dT_bool, pu_isi_dT_str, pu_isi_dT_tuple, pu_isi_dT_list, pu_isi_dT_dict, pu_isn_non_false, pu_isn_non_true, pu_isn_bl_false, pu_isn_bl_true, pu_isn_int_false, pu_isn_int_true, pu_isn_str_false, pu_isn_str_true, pu_isn_tup_false, pu_isn_tup_true, pu_isn_lst_false, pu_isn_lst_true, pu_isn_dK_false, pu_isn_dK_true, pu_isn_dT_false, pu_isn_dT_true, pu_isn_exn_false, pu_isn_exn_true, pu_qReprB, pu_qReprN, pu_lamR_nil, pu_lamR_va, pu_lamR_ow, pu_lamR_no, pu_gT2, pu_gT3, pu_qSl3, pu_qSl3L, pu_qIsB])
def isInt : D → Bool
  | .int _ => true
  | _ => false
def isNum : D → Bool
  | .int i => decide (0 ≤ i) && decide (i ≤ 999)
  | _ => false
def isRow : D → Bool
  | .tup l => (decide (1 ≤ (l.length : Int)) && decide ((l.length : Int) ≤ 24)) && l.all isNum
  | _ => false
def Knd (d : D) : Prop := (tyD d).isSome = true ∧ ∀ l, d = .tup l → l.length ≤ 4000 ∧ ∀ e ∈ l, (tyD e).isSome = true
theorem knd_T (r : List Int) (h : r.length ≤ 4000) : Knd (T r) := ⟨rfl, fun l e => by
  cases e
  exact ⟨by rw [List.length_map]; exact h, fun e he => by obtain ⟨n, _, rfl⟩ := List.mem_map.mp he; rfl⟩⟩
def Row (r : List Int) : Prop := 1 ≤ r.length ∧ r.length ≤ 24 ∧ ∀ x ∈ r, 0 ≤ x ∧ x ≤ 999
theorem isRow_T {r : List Int} : isRow (T r) = true ↔ Row r := by
  simp only [isRow, Bool.and_eq_true, decide_eq_true_eq, List.length_map, List.all_eq_true, List.mem_map, Row]
  constructor
  · rintro ⟨⟨h1, h2⟩, h3⟩
    refine ⟨by omega, by omega, fun x hx => ?_⟩
    have := h3 (.int x) ⟨x, hx, rfl⟩
    simpa [isNum] using this
  · rintro ⟨h1, h2, h3⟩
    refine ⟨⟨by omega, by omega⟩, ?_⟩
    rintro d ⟨x, hx, rfl⟩
    simpa [isNum] using h3 x hx
theorem isNum_ex : ∀ {l : List D}, l.all isNum = true → ∃ r : List Int, l = r.map D.int
  | [], _ => ⟨[], rfl⟩
  | d :: l, h => by
    rw [List.all_cons, Bool.and_eq_true] at h
    obtain ⟨r, rfl⟩ := isNum_ex h.2
    cases d with
    | int i => exact ⟨i :: r, rfl⟩
    | _ => cases h.1
theorem isRow_ex {d : D} (h : isRow d = true) : ∃ r, d = T r ∧ Row r := by
  cases d with
  | tup l =>
    have h2 := h
    simp only [isRow, Bool.and_eq_true] at h2
    obtain ⟨r, rfl⟩ := isNum_ex h2.2
    exact ⟨r, rfl, isRow_T.mp h⟩
  | _ => cases h
def c_is_whole (G : Str → Addr) : PC := fun ds Q _ => match ds with | [d] => (tyD d).isSome = true ∧ Q (.bl (isInt d)) | _ => False
def r_is_whole (G : Str → Addr) : TSt :=
    dRet (dAnd (dOp2 (qIsi) (dVar 0) (dC (.op (.ty "int")))) (dNot (dOp2 (qIsi) (dVar 0) (dC (.op (.ty "bool"))))))
abbrev N_is_whole : List Str := ["thing"]
theorem l_is_whole {G : Str → Addr} : ∀ ds Q X, c_is_whole G ds Q X → ds.length = 1 := fun ds _ _ h => by unfold c_is_whole at h; split at h <;> first | rfl | exact h.elim
theorem p_is_whole {G} : Pure (c_is_whole G) (r_is_whole G) N_is_whole := fun ds Q X h => by
  match ds, h with
  | [d], ⟨h1, h⟩ => cases d <;> first | exact h | cases h1
def c_is_number_of (G : Str → Addr) : PC := fun ds Q _ => match ds with | [d] => (tyD d).isSome = true ∧ Q (.bl (isNum d)) | _ => False
def r_is_number_of (G : Str → Addr) : TSt :=
    dRet (dAnd (dCall (c_is_whole G) (aCons (dVar 0) (aNil))) (dChain qLe qLe (dC (.int 0)) (dVar 0) (dC (.int 999))))
abbrev N_is_number_of : List Str := ["thing"]
theorem l_is_number_of {G : Str → Addr} : ∀ ds Q X, c_is_number_of G ds Q X → ds.length = 1 := fun ds _ _ h => by unfold c_is_number_of at h; split at h <;> first | rfl | exact h.elim
theorem p_is_number_of {G} : Pure (c_is_number_of G) (r_is_number_of G) N_is_number_of := fun ds Q X h => by
  match ds, h with
  | [d], ⟨h1, h⟩ =>
    unfold r_is_number_of c_is_whole
    walk_at "pu"
    refine ⟨h1, ?_⟩
    cases d <;> first | exact h | skip
    rename_i i
    simp only [isInt, isNum] at h ⊢
    walk_at "pu"
    cases e : decide (0 ≤ i) with
    | true => rw [e] at h; exact h
    | false => rw [e] at h; exact h
def c_is_row_of (G : Str → Addr) : PC := fun ds Q _ => match ds with | [d] => Knd d ∧ Q (.bl (isRow d)) | _ => False
def r_is_row_of (G : Str → Addr) : TSt :=
    dSeq (dIf (bOr (bNot (bTest (dOp2 (qIsi) (dVar 0) (dC (.op (.ty "tuple")))))) (bNot (bTest (dChain qLe qLe (dC (.int 1)) (dOp1 qLen (dVar 0)) (dC (.int 24)))))) (dRet (dC (.bl false))) (dNext))
    (dRet (dOp1 qAll (dLc (iSeq (dVar 0)) (gN 1) (bYes) (dCall (c_is_number_of G) (aCons (dVar 1) (aNil))) [1])))
abbrev N_is_row_of : List Str := ["thing", "number"]
theorem l_is_row_of {G : Str → Addr} : ∀ ds Q X, c_is_row_of G ds Q X → ds.length = 1 := fun ds _ _ h => by unfold c_is_row_of at h; split at h <;> first | rfl | exact h.elim
theorem asBl_bls (l : List D) (f : D → Bool) : asBl (l.map fun d => .bl (f d)) = some (l.map f) := by
  have := asBl_map (l.map f)
  rw [List.map_map] at this
  exact this
theorem p_is_row_of {G} : Pure (c_is_row_of G) (r_is_row_of G) N_is_row_of := fun ds Q X h => by
  match ds, h with
  | [d], ⟨⟨h1, h2⟩, h⟩ =>
    cases d <;> first | exact h | (exfalso; cases h1; done) | skip
    rename_i l
    unfold r_is_row_of c_is_number_of
    simp only [isRow] at h
    have hL := h2 l rfl
    walk_at "pu"
    cases e1 : decide (1 ≤ (l.length : Int)) with
    | false => rw [e1] at h; exact h
    | true =>
      cases e2 : decide ((l.length : Int) ≤ 24) with
      | false => rw [e1, e2] at h; exact h
      | true =>
        rw [e1, e2] at h
        refine lc_map (fun d => .bl (isNum d)) hL.1 (fun d hd J hJ => ?_) ?_
        · walk_at "pu"
          exact ⟨hL.2 d hd, hJ⟩
        · show (match asBl (l.map fun d => .bl (isNum d)) with | some bs => _ | none => False)
          rw [asBl_bls]
          show Q (.bl ((l.map isNum).all id))
          rw [List.all_map]
          exact h
def badOf (w : Str) : Str := if w = "one" then "BadOne" else if w = "other" then "BadOther" else "BadRow"
def c_need_row (G : Str → Addr) : PC := fun ds Q X => match ds with | [d, .str w] => Knd d ∧ (w = "row" ∨ w = "one" ∨ w = "other") ∧ (isRow d = true → Q .non) ∧ (isRow d = false → X ⟨G (badOf w), []⟩) | _ => False
def r_need_row (G : Str → Addr) : TSt :=
    dSeq (dIf (bTest (dCall (c_is_row_of G) (aCons (dVar 0) (aNil)))) (dRetN) (dNext))
    (dSeq (dIf (bTest (dOp2 qEq (dVar 1) (dC (.str "one")))) (dRaise (G "BadOne")) (dNext))
    (dSeq (dIf (bTest (dOp2 qEq (dVar 1) (dC (.str "other")))) (dRaise (G "BadOther")) (dNext))
    (dRaise (G "BadRow"))))
abbrev N_need_row : List Str := ["row", "word"]
theorem l_need_row {G : Str → Addr} : ∀ ds Q X, c_need_row G ds Q X → ds.length = 2 := fun ds _ _ h => by unfold c_need_row at h; split at h <;> first | rfl | exact h.elim
theorem p_need_row {G} : Pure (c_need_row G) (r_need_row G) N_need_row := fun ds Q X h => by
  match ds, h with
  | [d, .str w], ⟨h1, hw, h2, h3⟩ =>
    unfold r_need_row c_is_row_of
    walk_at "pu"
    refine ⟨h1, ?_⟩
    cases e : isRow d with
    | true => exact h2 e
    | false =>
      have h4 := h3 e
      unfold badOf at h4
      have n1 : ¬ (("row" : Str) = "one") := by decide +kernel
      have n2 : ¬ (("row" : Str) = "other") := by decide +kernel
      have n3 : ¬ (("other" : Str) = "one") := by decide +kernel
      rcases hw with rfl | rfl | rfl
      · rw [if_neg n1, if_neg n2] at h4
        walk_at "pu"
        rw [decide_eq_false n1, decide_eq_false n2]
        exact h4
      · rw [if_pos rfl] at h4
        walk_at "pu"
        exact h4
      · rw [if_neg n3, if_pos rfl] at h4
        walk_at "pu"
        rw [decide_eq_false n3]
        exact h4
def turnL (r : List Int) (by_ : Int) : List Int := r.drop (by_ % r.length).toNat ++ r.take (by_ % r.length).toNat
def c_turned_by (G : Str → Addr) : PC := fun ds Q X => match ds with | [.tup l, .int b] => ∃ r, l = r.map D.int ∧ 1 ≤ r.length ∧ r.length ≤ 1000 ∧ Q (T (turnL r b)) | _ => False
def isBy : D → Bool
  | .int i => decide (-1000 ≤ i) && decide (i ≤ 1000)
  | _ => false
def c_turned (G : Str → Addr) : PC := fun ds Q X => match ds with
  | [d, b] => Knd d ∧ (tyD b).isSome = true ∧ (isRow d = false → X ⟨G "BadRow", []⟩) ∧ (isRow d = true → isBy b = false → X ⟨G "BadBy", []⟩) ∧ (∀ r i, d = T r → Row r → b = .int i → -1000 ≤ i → i ≤ 1000 → Q (T (turnL r i)))
  | _ => False
theorem row_len {r : List Int} (h : Row r) : r.length ≤ 4000 := by have := h.2.1; omega
theorem u_need_row {G r Q X} {w : Str} (hr : Row r) (hw : w = "row" ∨ w = "one" ∨ w = "other") (h : Q .non) : c_need_row G [T r, .str w] Q X := ⟨knd_T r (row_len hr), hw, fun _ => h, fun e => by rw [isRow_T.mpr hr] at e; cases e⟩
theorem T_inj {r r' : List Int} (e : T r = T r') : r = r' := by
  have e1 : r.map D.int = r'.map D.int := D.tup.inj e
  exact (List.map_inj_right fun _ _ e => D.int.inj e).mp e1
theorem u_turned {G r i Q X} (hr : Row r) (h1 : -1000 ≤ i) (h2 : i ≤ 1000) (h : Q (T (turnL r i))) : c_turned G [T r, .int i] Q X := by
  refine ⟨knd_T r (row_len hr), rfl, fun e => ?_, fun _ e => ?_, fun r' i' e1 _ e2 _ _ => ?_⟩
  · rw [isRow_T.mpr hr] at e; cases e
  · simp only [isBy, decide_eq_true h1, decide_eq_true h2] at e
    cases e
  · cases e2
    rw [← T_inj e1]; exact h
end RP
set_option Elab.async false
set_option linter.all false
set_option maxRecDepth 100000
namespace RP
open PySem PySem.Spec PyProof.Rows L2 PL
local macro_rules | `(tactic| walk_at "pu") => `(tactic| simp only [decide_true, decide_false, Bool.not_true, Bool.not_false, startD, Nat.reduceAdd, Nat.reduceSub, List.replicate_zero, List.replicate_succ, List.map_cons, List.map_nil, List.length_cons, List.length_nil, List.length_map, List.length_replicate, List.cons_append, List.nil_append, true_and, and_true, dSeq, dNext, dRet, dRetN, dBrk, dCnt, dIf, dSet, dPar2, dPar3, mCons, mNil, dOp1, dOp2, dC, dTup, dLst, aCons, aNil, bTest, bAnd, bOr, bNot, bYes, dAnd, dOr, dNot, dIfE, dCall, dFor, dLc, iR1, iR2, iSeq, iEnD, iZpD, iScr, gN, dAsgT, dDrop, dRaise, dAppend, dPop, dNewT, dNewK, dCallK, dSl, pIt, pNo, dChain, dCaught, aC, dSl3, dCallV, pu_use_d, pu_use_olst, pu_peek_olst, pu_use_odK, pu_peek_odK, pu_use_odT, pu_peek_odT, pu_peek_d, pu_use_r, pu_peek_r, pu_var, pu_useS_va, pu_peekS_va, pu_varS_va, pu_varS_ow, pu_useS_lst, pu_peekS_lst, pu_useS_dK, pu_peekS_dK, pu_useS_dT, pu_peekS_dT, pu_get0, pu_getS, pu_set0, pu_setS, pu_wipe0, pu_wipeS, pu_asg_d, pu_asg_o, pu_asg_r, pu_fz_d, pu_fz_o, pu_fz_r, pu_toSl_d, pu_toSl_o, pu_isB, pu_qAdd, pu_qAddT, pu_qAddL, pu_qMul, pu_qMulT, pu_qMulL, pu_qSub, pu_qMod, pu_qDiv, pu_qPow, pu_qLt, pu_qLe, pu_qGt, pu_qGe, pu_qMax2, pu_qMin2, pu_qEq, pu_qNe, pu_qNeg, pu_qAbs, pu_qInt, pu_qLenT, pu_qLenL, pu_qLenS, pu_qLstT, pu_qLstL, pu_qTupT, pu_qTupL, pu_qSlT, pu_qSlL, pu_atL, pu_atLS, pu_gT, pu_gpC, pu_gpN, pu_ty_non, pu_ty_bl, pu_ty_int, pu_ty_str, pu_ty_tup, pu_ty_lst, pu_qEqS, pu_qNeS, pu_isi_non_int, pu_isi_non_bool, pu_isi_non_str, pu_isi_non_tuple, pu_isi_non_list, pu_isi_non_dict, pu_isi_bl_int, pu_isi_bl_bool, pu_isi_bl_str, pu_isi_bl_tuple, pu_isi_bl_list, pu_isi_bl_dict, pu_isi_int_int, pu_isi_int_bool, pu_isi_int_str, pu_isi_int_tuple, pu_isi_int_list, pu_isi_int_dict, pu_isi_str_int, pu_isi_str_bool, pu_isi_str_str, pu_isi_str_tuple, pu_isi_str_list, pu_isi_str_dict, pu_isi_tup_int, pu_isi_tup_bool, pu_isi_tup_str, pu_isi_tup_tuple, pu_isi_tup_list, pu_isi_tup_dict, pu_isi_lst_int, pu_isi_lst_bool, pu_isi_lst_str, pu_isi_lst_tuple, pu_isi_lst_list, pu_isi_lst_dict, pu_isi_dK_int, pu_isi_dK_bool, pu_isi_dK_str, pu_isi_dK_tuple, pu_isi_dK_list, pu_isi_dK_dict, pu_isi_dT_int, pu_isi_dT_bool, pu_isi_dT_str, pu_isi_dT_tuple, pu_isi_dT_list, pu_isi_dT_dict, pu_isn_non_false, pu_isn_non_true, pu_isn_bl_false, pu_isn_bl_true, pu_isn_int_false, pu_isn_int_true, pu_isn_str_false, pu_isn_str_true, pu_isn_tup_false, pu_isn_tup_true, pu_isn_lst_false, pu_isn_lst_true, pu_isn_dK_false, pu_isn_dK_true, pu_isn_dT_false, pu_isn_dT_true, pu_isn_exn_false, pu_isn_exn_true, pu_qReprB, pu_qReprN, pu_lamR_nil, pu_lamR_va, pu_lamR_ow, pu_lamR_no, pu_gT2, pu_gT3, pu_qSl3, pu_qSl3L, pu_qIsB])
local macro_rules | `(tactic| walk_at "pv") => `(tactic| simp -implicitDefEqProofs only [decide_true, decide_false, Bool.not_true, Bool.not_false, startD, Nat.reduceAdd, Nat.reduceSub, List.replicate_zero, List.replicate_succ, List.map_cons, List.map_nil, List.length_cons, List.length_nil, List.length_map, List.length_replicate, List.cons_append, List.nil_append, true_and, and_true, dSeq, dNext, dRet, dRetN, dBrk, dCnt, dIf, dSet, dPar2, dPar3, mCons, mNil, dOp1, dOp2, dC, dTup, dLst, aCons, aNil, bTest, bAnd, bOr, bNot, bYes, dAnd, dOr, dNot, dIfE, dCall, dFor, dLc, iR1, iR2, iSeq, iEnD, iZpD, iScr, gN, dAsgT, dDrop, dRaise, dAppend, dPop, dNewT, dNewK, dCallK, dSl, pIt, pNo, dChain, dCaught, aC, dSl3, dCallV, pu_use_d, pu_use_olst, pu_peek_olst, pu_use_odK, pu_peek_odK, pu_use_odT, pu_peek_odT, pu_peek_d, pu_use_r, pu_peek_r, pu_var, pu_useS_va, pu_peekS_va, pu_varS_va, pu_varS_ow, pu_useS_lst, pu_peekS_lst, pu_useS_dK, pu_peekS_dK, pu_useS_dT, pu_peekS_dT, pu_get0, pu_getS, pu_set0, pu_setS, pu_wipe0, pu_wipeS, pu_asg_d, pu_asg_o, pu_asg_r, pu_fz_d, pu_fz_o, pu_fz_r, pu_toSl_d, pu_toSl_o, pu_isB, pu_qAdd, pu_qAddT, pu_qAddL, pu_qMul, pu_qMulT, pu_qMulL, pu_qSub, pu_qMod, pu_qDiv, pu_qPow, pu_qLt, pu_qLe, pu_qGt, pu_qGe, pu_qMax2, pu_qMin2, pu_qEq, pu_qNe, pu_qNeg, pu_qAbs, pu_qInt, pu_qLenT, pu_qLenL, pu_qLenS, pu_qLstT, pu_qLstL, pu_qTupT, pu_qTupL, pu_qSlT, pu_qSlL, pu_atL, pu_atLS, pu_gT, pu_gpC, pu_gpN, pu_ty_non, pu_ty_bl, pu_ty_int, pu_ty_str, pu_ty_tup, pu_ty_lst, pu_qEqS, pu_qNeS, pu_isi_non_int, pu_isi_non_bool, pu_isi_non_str, pu_isi_non_tuple, pu_isi_non_list, pu_isi_non_dict, pu_isi_bl_int, pu_isi_bl_bool, pu_isi_bl_str, pu_isi_bl_tuple, pu_isi_bl_list, pu_isi_bl_dict, pu_isi_int_int, pu_isi_int_bool, pu_isi_int_str, pu_isi_int_tuple, pu_isi_int_list, pu_isi_int_dict, pu_isi_str_int, pu_isi_str_bool, pu_isi_str_str, pu_isi_str_tuple, pu_isi_str_list, pu_isi_str_dict, pu_isi_tup_int, pu_isi_tup_bool, pu_isi_tup_str, pu_isi_tup_tuple, pu_isi_tup_list, pu_isi_tup_dict, pu_isi_lst_int, pu_isi_lst_bool, pu_isi_lst_str, pu_isi_lst_tuple, pu_isi_lst_list, pu_isi_lst_dict, pu_isi_dK_int, pu_isi_dK_bool, pu_isi_dK_str, pu_isi_dK_tuple, pu_isi_dK_list, pu_isi_dK_dict, pu_isi_dT_int, pu_isi_dT_bool, pu_isi_dT_str, pu_isi_dT_tuple, pu_isi_dT_list, pu_isi_dT_dict, pu_isn_non_false, pu_isn_non_true, pu_isn_bl_false, pu_isn_bl_true, pu_isn_int_false, pu_isn_int_true, pu_isn_str_false, pu_isn_str_true, pu_isn_tup_false, pu_isn_tup_true, pu_isn_lst_false, pu_isn_lst_true, pu_isn_dK_false, pu_isn_dK_true, pu_isn_dT_false, pu_isn_dT_true, pu_isn_exn_false, pu_isn_exn_true, pu_qReprB, pu_qReprN, pu_lamR_nil, pu_lamR_va, pu_lamR_ow, pu_lamR_no, pu_gT2, pu_gT3, pu_qSl3, pu_qSl3L, pu_qIsB])
local macro_rules | `(tactic| walk_at "pw") => `(tactic| simp -underLambda only [decide_true, decide_false, Bool.not_true, Bool.not_false, startD, Nat.reduceAdd, Nat.reduceSub, List.replicate_zero, List.replicate_succ, List.map_cons, List.map_nil, List.length_cons, List.length_nil, List.length_map, List.length_replicate, List.cons_append, List.nil_append, true_and, and_true, dSeq, dNext, dRet, dRetN, dBrk, dCnt, dIf, dSet, dPar2, dPar3, mCons, mNil, dOp1, dOp2, dC, dTup, dLst, aCons, aNil, bTest, bAnd, bOr, bNot, bYes, dAnd, dOr, dNot, dIfE, dCall, dFor, dLc, iR1, iR2, iSeq, iEnD, iZpD, iScr, gN, dAsgT, dDrop, dRaise, dAppend, dPop, dNewT, dNewK, dCallK, dSl, pIt, pNo, dChain, dCaught, aC, dSl3, dCallV, pu_use_d, pu_use_olst, pu_peek_olst, pu_use_odK, pu_peek_odK, pu_use_odT, pu_peek_odT, pu_peek_d, pu_use_r, pu_peek_r, pu_var, pu_useS_va, pu_peekS_va, pu_varS_va, pu_varS_ow, pu_useS_lst, pu_peekS_lst, pu_useS_dK, pu_peekS_dK, pu_useS_dT, pu_peekS_dT, pu_get0, pu_getS, pu_set0, pu_setS, pu_wipe0, pu_wipeS, pu_asg_d, pu_asg_o, pu_asg_r, pu_fz_d, pu_fz_o, pu_fz_r, pu_toSl_d, pu_toSl_o, pu_isB, pu_qAdd, pu_qAddT, pu_qAddL, pu_qMul, pu_qMulT, pu_qMulL, pu_qSub, pu_qMod, pu_qDiv, pu_qPow, pu_qLt, pu_qLe, pu_qGt, pu_qGe, pu_qMax2, pu_qMin2, pu_qEq, pu_qNe, pu_qNeg, pu_qAbs, pu_qInt, pu_qLenT, pu_qLenL, pu_qLenS, pu_qLstT, pu_qLstL, pu_qTupT, pu_qTupL, pu_qSlT, pu_qSlL, pu_atL, pu_atLS, pu_gT, pu_gpC, pu_gpN, pu_ty_non, pu_ty_bl, pu_ty_int, pu_ty_str, pu_ty_tup, pu_ty_lst, pu_qEqS, pu_qNeS, pu_isi_non_int, pu_isi_non_bool, pu_isi_non_str, pu_isi_non_tuple, pu_isi_non_list, pu_isi_non_dict, pu_isi_bl_int, pu_isi_bl_bool, pu_isi_bl_str, pu_isi_bl_tuple, pu_isi_bl_list, pu_isi_bl_dict, pu_isi_int_int, pu_isi_int_bool, pu_isi_int_str, pu_isi_int_tuple, pu_isi_int_list, pu_isi_int_dict, pu_isi_str_int, pu_isi_str_bool, pu_isi_str_str, pu_isi_str_tuple, pu_isi_str_list, pu_isi_str_dict, pu_isi_tup_int, pu_isi_tup_bool, pu_isi_tup_str, pu_isi_tup_tuple, pu_isi_tup_list, pu_isi_tup_dict, pu_isi_lst_int, pu_isi_lst_bool, pu_isi_lst_str, pu_isi_lst_tuple, pu_isi_lst_list, pu_isi_lst_dict, pu_isi_dK_int, pu_isi_dK_bool, pu_isi_dK_str, pu_isi_dK_tuple, pu_isi_dK_list, pu_isi_dK_dict, pu_isi_dT_int, pu_isi_dT_bool, pu_isi_dT_str, pu_isi_dT_tuple, pu_isi_dT_list, pu_isi_dT_dict, pu_isn_non_false, pu_isn_non_true, pu_isn_bl_false, pu_isn_bl_true, pu_isn_int_false, pu_isn_int_true, pu_isn_str_false, pu_isn_str_true, pu_isn_tup_false, pu_isn_tup_true, pu_isn_lst_false, pu_isn_lst_true, pu_isn_dK_false, pu_isn_dK_true, pu_isn_dT_false, pu_isn_dT_true, pu_isn_exn_false, pu_isn_exn_true, pu_qReprB, pu_qReprN, pu_lamR_nil, pu_lamR_va, pu_lamR_ow, pu_lamR_no, pu_gT2, pu_gT3, pu_qSl3, pu_qSl3L, pu_qIsB])
def iabs (i : Int) : Int := if i < 0 then -i else i
def dayL (r : List Int) : List Int := (r.zip (r.drop 1 ++ r.take 1)).map fun p => iabs (p.1 - p.2)
def farL (here : List Int) (s : Nat) : List Int := (here.zip (here.drop s ++ here.take s)).map fun p => iabs (p.1 - p.2)
def isTwosL (r : List Int) : Bool := r.all fun x => [0, maxI r].contains x
theorem zipcut_len (r : List Int) (s : Nat) : (r.zip (r.drop s ++ r.take s)).length = r.length := by
  rw [List.length_zip, List.length_append, List.length_drop, List.length_take]; omega
theorem dayL_len (r : List Int) : (dayL r).length = r.length := by unfold dayL; rw [List.length_map, zipcut_len]
theorem farL_len (r : List Int) (s : Nat) : (farL r s).length = r.length := by unfold farL; rw [List.length_map, zipcut_len]
def c_day_by (G : Str → Addr) : PC := fun ds Q X => match ds with | [.tup l] => ∃ r, l = r.map D.int ∧ r.length ≤ 1000 ∧ Q (T (dayL r)) | _ => False
theorem cut_lo1 (l : List D) : cutD l (some 1) none = l.drop 1 := cut_lo l 1
theorem cut_hi1 (l : List D) : cutD l none (some 1) = l.take 1 := cut_hi l 1
def c_is_twos_by (G : Str → Addr) : PC := fun ds Q X => match ds with | [.tup l] => ∃ r, l = r.map D.int ∧ 1 ≤ r.length ∧ r.length ≤ 1000 ∧ Q (.bl (isTwosL r)) | _ => False
def r_is_twos_by (G : Str → Addr) : TSt :=
    dRet (dOp1 qAll (dLc (iSeq (dVar 0)) (gN 1) (bYes) (dOp2 (qIn false) (dVar 1) (dTup (aCons (dC (.int 0)) (aCons (dOp1 qMax (dVar 0)) (aNil))))) [1]))
abbrev N_is_twos_by : List Str := ["row", "number"]
theorem l_is_twos_by {G : Str → Addr} : ∀ ds Q X, c_is_twos_by G ds Q X → ds.length = 1 := fun ds _ _ h => by unfold c_is_twos_by at h; split at h <;> first | rfl | exact h.elim
theorem qMax_T {r : List Int} {K : PL.Tm → Prop} (h1 : r ≠ []) (h : K (.d (.int (maxI r)))) : qMax (T r) K := by
  show (match asInts (r.map D.int) with | some ns => _ | none => False)
  rw [asInts_map]
  exact ⟨h1, h⟩
theorem len_ne {r : List Int} (h : 1 ≤ r.length) : r ≠ [] := fun e => by subst e; cases h
theorem p_is_twos_by {G} : Pure (c_is_twos_by G) (r_is_twos_by G) N_is_twos_by := fun ds Q X h => by
  match ds, h with
  | [.tup _], ⟨r, rfl, h0, h1, h⟩ =>
    unfold r_is_twos_by
    walk_at "pu"
    refine lc_map (fun d => match d with | .int n => .bl ([0, maxI r].contains n) | d => d) (by rw [List.length_map]; omega) (fun d hd J hJ => ?_) ?_
    · obtain ⟨n, hn, rfl⟩ := List.mem_map.mp hd
      walk_at "pu"
      refine qMax_T (len_ne h0) ?_
      walk_at "pu"
      refine ⟨by decide, ?_⟩
      show (fun z => use z [Sl.va (D.tup (List.map D.int r)), Sl.va (D.int n)] fun x ρ5 => setS ρ5 1 Sl.no = [Sl.va (D.tup (List.map D.int r)), Sl.no] ∧ J x) (PL.Tm.d (.bl ([0, maxI r].contains n)))
      exact ⟨rfl, hJ⟩
    · rw [List.map_map]
      show (match asBl (r.map fun n => .bl ([0, maxI r].contains n)) with | some bs => _ | none => False)
      have e := asBl_map (r.map fun n => [0, maxI r].contains n)
      rw [List.map_map] at e
      rw [show (r.map fun n => D.bl ([0, maxI r].contains n)) = r.map (D.bl ∘ fun n => [0, maxI r].contains n) from rfl, e]
      show Q (.bl ((r.map fun n => [0, maxI r].contains n).all id))
      rw [List.all_map]
      exact h
end RP
set_option Elab.async false
set_option linter.all false
set_option maxRecDepth 100000
namespace RP
open PySem PySem.Spec PyProof.Rows L2 PL
local macro_rules | `(tactic| walk_at "pu") => `(tactic| simp only [decide_true, decide_false, Bool.not_true, Bool.not_false, startD, Nat.reduceAdd, Nat.reduceSub, List.replicate_zero, List.replicate_succ, List.map_cons, List.map_nil, List.length_cons, List.length_nil, List.length_map, List.length_replicate, List.cons_append, List.nil_append, true_and, and_true, dSeq, dNext, dRet, dRetN, dBrk, dCnt, dIf, dSet, dPar2, dPar3, mCons, mNil, dOp1, dOp2, dC, dTup, dLst, aCons, aNil, bTest, bAnd, bOr, bNot, bYes, dAnd, dOr, dNot, dIfE, dCall, dFor, dLc, iR1, iR2, iSeq, iEnD, iZpD, iScr, gN, dAsgT, dDrop, dRaise, dAppend, dPop, dNewT, dNewK, dCallK, dSl, pIt, pNo, dChain, dCaught, aC, dSl3, dCallV, pu_use_d, pu_use_olst, pu_peek_olst, pu_use_odK, pu_peek_odK, pu_use_odT, pu_peek_odT, pu_peek_d, pu_use_r, pu_peek_r, pu_var, pu_useS_va, pu_peekS_va, pu_varS_va, pu_varS_ow, pu_useS_lst, pu_peekS_lst, pu_useS_dK, pu_peekS_dK, pu_useS_dT, pu_peekS_dT, pu_get0, pu_getS, pu_set0, pu_setS, pu_wipe0, pu_wipeS, pu_asg_d, pu_asg_o, pu_asg_r, pu_fz_d, pu_fz_o, pu_fz_r, pu_toSl_d, pu_toSl_o, pu_isB, pu_qAdd, pu_qAddT, pu_qAddL, pu_qMul, pu_qMulT, pu_qMulL, pu_qSub, pu_qMod, pu_qDiv, pu_qPow, pu_qLt, pu_qLe, pu_qGt, pu_qGe, pu_qMax2, pu_qMin2, pu_qEq, pu_qNe, pu_qNeg, pu_qAbs, pu_qInt, pu_qLenT, pu_qLenL, pu_qLenS, pu_qLstT, pu_qLstL, pu_qTupT, pu_qTupL, pu_qSlT, pu_qSlL, pu_atL, pu_atLS, pu_gT, pu_gpC, pu_gpN, pu_ty_non, pu_ty_bl, pu_ty_int, pu_ty_str, pu_ty_tup, pu_ty_lst, pu_qEqS, pu_qNeS, pu_isi_non_int, pu_isi_non_bool, pu_isi_non_str, pu_isi_non_tuple, pu_isi_non_list, pu_isi_non_dict, pu_isi_bl_int, pu_isi_bl_bool, pu_isi_bl_str, pu_isi_bl_tuple, pu_isi_bl_list, pu_isi_bl_dict, pu_isi_int_int, pu_isi_int_bool, pu_isi_int_str, pu_isi_int_tuple, pu_isi_int_list, pu_isi_int_dict, pu_isi_str_int, pu_isi_str_bool, pu_isi_str_str, pu_isi_str_tuple, pu_isi_str_list, pu_isi_str_dict, pu_isi_tup_int, pu_isi_tup_bool, pu_isi_tup_str, pu_isi_tup_tuple, pu_isi_tup_list, pu_isi_tup_dict, pu_isi_lst_int, pu_isi_lst_bool, pu_isi_lst_str, pu_isi_lst_tuple, pu_isi_lst_list, pu_isi_lst_dict, pu_isi_dK_int, pu_isi_dK_bool, pu_isi_dK_str, pu_isi_dK_tuple, pu_isi_dK_list, pu_isi_dK_dict, pu_isi_dT_int, pu_isi_dT_bool, pu_isi_dT_str, pu_isi_dT_tuple, pu_isi_dT_list, pu_isi_dT_dict, pu_isn_non_false, pu_isn_non_true, pu_isn_bl_false, pu_isn_bl_true, pu_isn_int_false, pu_isn_int_true, pu_isn_str_false, pu_isn_str_true, pu_isn_tup_false, pu_isn_tup_true, pu_isn_lst_false, pu_isn_lst_true, pu_isn_dK_false, pu_isn_dK_true, pu_isn_dT_false, pu_isn_dT_true, pu_isn_exn_false, pu_isn_exn_true, pu_qReprB, pu_qReprN, pu_lamR_nil, pu_lamR_va, pu_lamR_ow, pu_lamR_no, pu_gT2, pu_gT3, pu_qSl3, pu_qSl3L, pu_qIsB])
local macro_rules | `(tactic| walk_at "pv") => `(tactic| simp -implicitDefEqProofs only [decide_true, decide_false, Bool.not_true, Bool.not_false, startD, Nat.reduceAdd, Nat.reduceSub, List.replicate_zero, List.replicate_succ, List.map_cons, List.map_nil, List.length_cons, List.length_nil, List.length_map, List.length_replicate, List.cons_append, List.nil_append, true_and, and_true, dSeq, dNext, dRet, dRetN, dBrk, dCnt, dIf, dSet, dPar2, dPar3, mCons, mNil, dOp1, dOp2, dC, dTup, dLst, aCons, aNil, bTest, bAnd, bOr, bNot, bYes, dAnd, dOr, dNot, dIfE, dCall, dFor, dLc, iR1, iR2, iSeq, iEnD, iZpD, iScr, gN, dAsgT, dDrop, dRaise, dAppend, dPop, dNewT, dNewK, dCallK, dSl, pIt, pNo, dChain, dCaught, aC, dSl3, dCallV, pu_use_d, pu_use_olst, pu_peek_olst, pu_use_odK, pu_peek_odK, pu_use_odT, pu_peek_odT, pu_peek_d, pu_use_r, pu_peek_r, pu_var, pu_useS_va, pu_peekS_va, pu_varS_va, pu_varS_ow, pu_useS_lst, pu_peekS_lst, pu_useS_dK, pu_peekS_dK, pu_useS_dT, pu_peekS_dT, pu_get0, pu_getS, pu_set0, pu_setS, pu_wipe0, pu_wipeS, pu_asg_d, pu_asg_o, pu_asg_r, pu_fz_d, pu_fz_o, pu_fz_r, pu_toSl_d, pu_toSl_o, pu_isB, pu_qAdd, pu_qAddT, pu_qAddL, pu_qMul, pu_qMulT, pu_qMulL, pu_qSub, pu_qMod, pu_qDiv, pu_qPow, pu_qLt, pu_qLe, pu_qGt, pu_qGe, pu_qMax2, pu_qMin2, pu_qEq, pu_qNe, pu_qNeg, pu_qAbs, pu_qInt, pu_qLenT, pu_qLenL, pu_qLenS, pu_qLstT, pu_qLstL, pu_qTupT, pu_qTupL, pu_qSlT, pu_qSlL, pu_atL, pu_atLS, pu_gT, pu_gpC, pu_gpN, pu_ty_non, pu_ty_bl, pu_ty_int, pu_ty_str, pu_ty_tup, pu_ty_lst, pu_qEqS, pu_qNeS, pu_isi_non_int, pu_isi_non_bool, pu_isi_non_str, pu_isi_non_tuple, pu_isi_non_list, pu_isi_non_dict, pu_isi_bl_int, pu_isi_bl_bool, pu_isi_bl_str, pu_isi_bl_tuple, pu_isi_bl_list, pu_isi_bl_dict, pu_isi_int_int, pu_isi_int_bool, pu_isi_int_str, pu_isi_int_tuple, pu_isi_int_list, pu_isi_int_dict, pu_isi_str_int, pu_isi_str_bool, pu_isi_str_str, pu_isi_str_tuple, pu_isi_str_list, pu_isi_str_dict, pu_isi_tup_int, pu_isi_tup_bool, pu_isi_tup_str, pu_isi_tup_tuple, pu_isi_tup_list, pu_isi_tup_dict, pu_isi_lst_int, pu_isi_lst_bool, pu_isi_lst_str, pu_isi_lst_tuple, pu_isi_lst_list, pu_isi_lst_dict, pu_isi_dK_int, pu_isi_dK_bool, pu_isi_dK_str, pu_isi_dK_tuple, pu_isi_dK_list, pu_isi_dK_dict, pu_isi_dT_int, pu_isi_dT_bool, pu_isi_dT_str, pu_isi_dT_tuple, pu_isi_dT_list, pu_isi_dT_dict, pu_isn_non_false, pu_isn_non_true, pu_isn_bl_false, pu_isn_bl_true, pu_isn_int_false, pu_isn_int_true, pu_isn_str_false, pu_isn_str_true, pu_isn_tup_false, pu_isn_tup_true, pu_isn_lst_false, pu_isn_lst_true, pu_isn_dK_false, pu_isn_dK_true, pu_isn_dT_false, pu_isn_dT_true, pu_isn_exn_false, pu_isn_exn_true, pu_qReprB, pu_qReprN, pu_lamR_nil, pu_lamR_va, pu_lamR_ow, pu_lamR_no, pu_gT2, pu_gT3, pu_qSl3, pu_qSl3L, pu_qIsB])
local macro_rules | `(tactic| walk_at "pw") => `(tactic| simp -underLambda only [decide_true, decide_false, Bool.not_true, Bool.not_false, startD, Nat.reduceAdd, Nat.reduceSub, List.replicate_zero, List.replicate_succ, List.map_cons, List.map_nil, List.length_cons, List.length_nil, List.length_map, List.length_replicate, List.cons_append, List.nil_append, true_and, and_true, dSeq, dNext, dRet, dRetN, dBrk, dCnt, dIf, dSet, dPar2, dPar3, mCons, mNil, dOp1, dOp2, dC, dTup, dLst, aCons, aNil, bTest, bAnd, bOr, bNot, bYes, dAnd, dOr, dNot, dIfE, dCall, dFor, dLc, iR1, iR2, iSeq, iEnD, iZpD, iScr, gN, dAsgT, dDrop, dRaise, dAppend, dPop, dNewT, dNewK, dCallK, dSl, pIt, pNo, dChain, dCaught, aC, dSl3, dCallV, pu_use_d, pu_use_olst, pu_peek_olst, pu_use_odK, pu_peek_odK, pu_use_odT, pu_peek_odT, pu_peek_d, pu_use_r, pu_peek_r, pu_var, pu_useS_va, pu_peekS_va, pu_varS_va, pu_varS_ow, pu_useS_lst, pu_peekS_lst, pu_useS_dK, pu_peekS_dK, pu_useS_dT, pu_peekS_dT, pu_get0, pu_getS, pu_set0, pu_setS, pu_wipe0, pu_wipeS, pu_asg_d, pu_asg_o, pu_asg_r, pu_fz_d, pu_fz_o, pu_fz_r, pu_toSl_d, pu_toSl_o, pu_isB, pu_qAdd, pu_qAddT, pu_qAddL, pu_qMul, pu_qMulT, pu_qMulL, pu_qSub, pu_qMod, pu_qDiv, pu_qPow, pu_qLt, pu_qLe, pu_qGt, pu_qGe, pu_qMax2, pu_qMin2, pu_qEq, pu_qNe, pu_qNeg, pu_qAbs, pu_qInt, pu_qLenT, pu_qLenL, pu_qLenS, pu_qLstT, pu_qLstL, pu_qTupT, pu_qTupL, pu_qSlT, pu_qSlL, pu_atL, pu_atLS, pu_gT, pu_gpC, pu_gpN, pu_ty_non, pu_ty_bl, pu_ty_int, pu_ty_str, pu_ty_tup, pu_ty_lst, pu_qEqS, pu_qNeS, pu_isi_non_int, pu_isi_non_bool, pu_isi_non_str, pu_isi_non_tuple, pu_isi_non_list, pu_isi_non_dict, pu_isi_bl_int, pu_isi_bl_bool, pu_isi_bl_str, pu_isi_bl_tuple, pu_isi_bl_list, pu_isi_bl_dict, pu_isi_int_int, pu_isi_int_bool, pu_isi_int_str, pu_isi_int_tuple, pu_isi_int_list, pu_isi_int_dict, pu_isi_str_int, pu_isi_str_bool, pu_isi_str_str, pu_isi_str_tuple, pu_isi_str_list, pu_isi_str_dict, pu_isi_tup_int, pu_isi_tup_bool, pu_isi_tup_str, pu_isi_tup_tuple, pu_isi_tup_list, pu_isi_tup_dict, pu_isi_lst_int, pu_isi_lst_bool, pu_isi_lst_str, pu_isi_lst_tuple, pu_isi_lst_list, pu_isi_lst_dict, pu_isi_dK_int, pu_isi_dK_bool, pu_isi_dK_str, pu_isi_dK_tuple, pu_isi_dK_list, pu_isi_dK_dict, pu_isi_dT_int, pu_isi_dT_bool, pu_isi_dT_str, pu_isi_dT_tuple, pu_isi_dT_list, pu_isi_dT_dict, pu_isn_non_false, pu_isn_non_true, pu_isn_bl_false, pu_isn_bl_true, pu_isn_int_false, pu_isn_int_true, pu_isn_str_false, pu_isn_str_true, pu_isn_tup_false, pu_isn_tup_true, pu_isn_lst_false, pu_isn_lst_true, pu_isn_dK_false, pu_isn_dK_true, pu_isn_dT_false, pu_isn_dT_true, pu_isn_exn_false, pu_isn_exn_true, pu_qReprB, pu_qReprN, pu_lamR_nil, pu_lamR_va, pu_lamR_ow, pu_lamR_no, pu_gT2, pu_gT3, pu_qSl3, pu_qSl3L, pu_qIsB])
def ledFarG (n : Nat) (here : List Int) (left far : Nat) : List Int := if h : left = 0 then here else ledFarG n (if left % 2 = 1 then farL here (far % n) else here) (left / 2) (far * 2 % n)
termination_by left
decreasing_by omega
theorem ledFarG_zero (n : Nat) (here : List Int) (far : Nat) : ledFarG n here 0 far = here := by rw [ledFarG]; rfl
theorem ledFarG_pos (n : Nat) (here : List Int) (left far : Nat) (h : left ≠ 0) : ledFarG n here left far = ledFarG n (if left % 2 = 1 then farL here (far % n) else here) (left / 2) (far * 2 % n) := by rw [ledFarG, dif_neg h]
def c_led_far (G : Str → Addr) : PC := fun ds Q X => match ds with | [.tup l, .int c] => ∃ (r : List Int) (k : Nat), l = r.map D.int ∧ c = (k : Int) ∧ 1 ≤ r.length ∧ r.length ≤ 1000 ∧ Q (T (ledFarG r.length r k 1)) | _ => False
theorem two64 {i : Int} (h : i = 2) : -(2 ^ 64) < i ∧ i < 2 ^ 64 := by subst h; decide
theorem cdiv2 (i : Int) : CDivW i 2 := ⟨by decide, by decide⟩
def dayOnL (n : Nat) : Nat → List Int → List Int
  | 0, here => ledFarG n here 0 1
  | k + 1, here => if isTwosL here = true then ledFarG n here (k + 1) 1 else dayOnL n k (dayL here)
def c_day_on_by (G : Str → Addr) : PC := fun ds Q X => match ds with | [.tup l, .int c] => ∃ (r : List Int) (k : Nat), l = r.map D.int ∧ c = (k : Int) ∧ 1 ≤ r.length ∧ r.length ≤ 1000 ∧ Q (T (dayOnL r.length k r)) | _ => False
def isUpTo (m : Int) : D → Bool
  | .int i => decide (0 ≤ i) && decide (i ≤ m)
  | _ => false
def c_need_count_days (G : Str → Addr) : PC := fun ds Q X => match ds with | [d, .int m] => (tyD d).isSome = true ∧ (isUpTo m d = true → Q .non) ∧ (isUpTo m d = false → X ⟨G "BadCount", []⟩) | _ => False
def c_day (G : Str → Addr) : PC := fun ds Q X => match ds with | [d] => Knd d ∧ (isRow d = false → X ⟨G "BadRow", []⟩) ∧ (∀ r, d = T r → Row r → Q (T (dayL r))) | _ => False
theorem badRow : badOf "row" = "BadRow" := by
  have n1 : ¬ (("row" : Str) = "one") := by decide +kernel
  have n2 : ¬ (("row" : Str) = "other") := by decide +kernel
  unfold badOf; rw [if_neg n1, if_neg n2]
def c_day_on (G : Str → Addr) : PC := fun ds Q X => match ds with
  | [d, e] => Knd d ∧ (tyD e).isSome = true ∧ (isRow d = false → X ⟨G "BadRow", []⟩) ∧ (isRow d = true → isUpTo (10 ^ 18) e = false → X ⟨G "BadCount", []⟩) ∧ (∀ r (k : Nat), d = T r → Row r → e = .int k → k ≤ 10 ^ 18 → Q (T (dayOnL r.length k r)))
  | _ => False
theorem u_day {G r Q X} (hr : Row r) (h : Q (T (dayL r))) : c_day G [T r] Q X :=
  ⟨knd_T r (row_len hr), fun e => by (rw [isRow_T.mpr hr] at e; cases e), fun r' e _ => by (rw [← T_inj e]; exact h)⟩
theorem u_day_on {G r Q X} {k : Nat} (hr : Row r) (hk : k ≤ 10 ^ 18) (h : Q (T (dayOnL r.length k r))) : c_day_on G [T r, .int k] Q X := by
  refine ⟨knd_T r (row_len hr), rfl, fun e => ?_, fun _ e => ?_, fun r' k' e1 _ e2 _ => ?_⟩
  · rw [isRow_T.mpr hr] at e; cases e
  · simp only [isUpTo, Bool.and_eq_false_iff, decide_eq_false_iff_not] at e
    omega
  · have : k = k' := by have := D.int.inj e2; omega
    rw [← T_inj e1, ← this]; exact h
end RP
set_option Elab.async false
set_option linter.all false
set_option maxRecDepth 100000
namespace RP
open PySem PySem.Spec PyProof.Rows L2 PL
local macro_rules | `(tactic| walk_at "pu") => `(tactic| simp only [decide_true, decide_false, Bool.not_true, Bool.not_false, startD, Nat.reduceAdd, Nat.reduceSub, List.replicate_zero, List.replicate_succ, List.map_cons, List.map_nil, List.length_cons, List.length_nil, List.length_map, List.length_replicate, List.cons_append, List.nil_append, true_and, and_true, dSeq, dNext, dRet, dRetN, dBrk, dCnt, dIf, dSet, dPar2, dPar3, mCons, mNil, dOp1, dOp2, dC, dTup, dLst, aCons, aNil, bTest, bAnd, bOr, bNot, bYes, dAnd, dOr, dNot, dIfE, dCall, dFor, dLc, iR1, iR2, iSeq, iEnD, iZpD, iScr, gN, dAsgT, dDrop, dRaise, dAppend, dPop, dNewT, dNewK, dCallK, dSl, pIt, pNo, dChain, dCaught, aC, dSl3, dCallV, pu_use_d, pu_use_olst, pu_peek_olst, pu_use_odK, pu_peek_odK, pu_use_odT, pu_peek_odT, pu_peek_d, pu_use_r, pu_peek_r, pu_var, pu_useS_va, pu_peekS_va, pu_varS_va, pu_varS_ow, pu_useS_lst, pu_peekS_lst, pu_useS_dK, pu_peekS_dK, pu_useS_dT, pu_peekS_dT, pu_get0, pu_getS, pu_set0, pu_setS, pu_wipe0, pu_wipeS, pu_asg_d, pu_asg_o, pu_asg_r, pu_fz_d, pu_fz_o, pu_fz_r, pu_toSl_d, pu_toSl_o, pu_isB, pu_qAdd, pu_qAddT, pu_qAddL, pu_qMul, pu_qMulT, pu_qMulL, pu_qSub, pu_qMod, pu_qDiv, pu_qPow, pu_qLt, pu_qLe, pu_qGt, pu_qGe, pu_qMax2, pu_qMin2, pu_qEq, pu_qNe, pu_qNeg, pu_qAbs, pu_qInt, pu_qLenT, pu_qLenL, pu_qLenS, pu_qLstT, pu_qLstL, pu_qTupT, pu_qTupL, pu_qSlT, pu_qSlL, pu_atL, pu_atLS, pu_gT, pu_gpC, pu_gpN, pu_ty_non, pu_ty_bl, pu_ty_int, pu_ty_str, pu_ty_tup, pu_ty_lst, pu_qEqS, pu_qNeS, pu_isi_non_int, pu_isi_non_bool, pu_isi_non_str, pu_isi_non_tuple, pu_isi_non_list, pu_isi_non_dict, pu_isi_bl_int, pu_isi_bl_bool, pu_isi_bl_str, pu_isi_bl_tuple, pu_isi_bl_list, pu_isi_bl_dict, pu_isi_int_int, pu_isi_int_bool, pu_isi_int_str, pu_isi_int_tuple, pu_isi_int_list, pu_isi_int_dict, pu_isi_str_int, pu_isi_str_bool, pu_isi_str_str, pu_isi_str_tuple, pu_isi_str_list, pu_isi_str_dict, pu_isi_tup_int, pu_isi_tup_bool, pu_isi_tup_str, pu_isi_tup_tuple, pu_isi_tup_list, pu_isi_tup_dict, pu_isi_lst_int, pu_isi_lst_bool, pu_isi_lst_str, pu_isi_lst_tuple, pu_isi_lst_list, pu_isi_lst_dict, pu_isi_dK_int, pu_isi_dK_bool, pu_isi_dK_str, pu_isi_dK_tuple, pu_isi_dK_list, pu_isi_dK_dict, pu_isi_dT_int, pu_isi_dT_bool, pu_isi_dT_str, pu_isi_dT_tuple, pu_isi_dT_list, pu_isi_dT_dict, pu_isn_non_false, pu_isn_non_true, pu_isn_bl_false, pu_isn_bl_true, pu_isn_int_false, pu_isn_int_true, pu_isn_str_false, pu_isn_str_true, pu_isn_tup_false, pu_isn_tup_true, pu_isn_lst_false, pu_isn_lst_true, pu_isn_dK_false, pu_isn_dK_true, pu_isn_dT_false, pu_isn_dT_true, pu_isn_exn_false, pu_isn_exn_true, pu_qReprB, pu_qReprN, pu_lamR_nil, pu_lamR_va, pu_lamR_ow, pu_lamR_no, pu_gT2, pu_gT3, pu_qSl3, pu_qSl3L, pu_qIsB])
local macro_rules | `(tactic| walk_at "pv") => `(tactic| simp -implicitDefEqProofs only [decide_true, decide_false, Bool.not_true, Bool.not_false, startD, Nat.reduceAdd, Nat.reduceSub, List.replicate_zero, List.replicate_succ, List.map_cons, List.map_nil, List.length_cons, List.length_nil, List.length_map, List.length_replicate, List.cons_append, List.nil_append, true_and, and_true, dSeq, dNext, dRet, dRetN, dBrk, dCnt, dIf, dSet, dPar2, dPar3, mCons, mNil, dOp1, dOp2, dC, dTup, dLst, aCons, aNil, bTest, bAnd, bOr, bNot, bYes, dAnd, dOr, dNot, dIfE, dCall, dFor, dLc, iR1, iR2, iSeq, iEnD, iZpD, iScr, gN, dAsgT, dDrop, dRaise, dAppend, dPop, dNewT, dNewK, dCallK, dSl, pIt, pNo, dChain, dCaught, aC, dSl3, dCallV, pu_use_d, pu_use_olst, pu_peek_olst, pu_use_odK, pu_peek_odK, pu_use_odT, pu_peek_odT, pu_peek_d, pu_use_r, pu_peek_r, pu_var, pu_useS_va, pu_peekS_va, pu_varS_va, pu_varS_ow, pu_useS_lst, pu_peekS_lst, pu_useS_dK, pu_peekS_dK, pu_useS_dT, pu_peekS_dT, pu_get0, pu_getS, pu_set0, pu_setS, pu_wipe0, pu_wipeS, pu_asg_d, pu_asg_o, pu_asg_r, pu_fz_d, pu_fz_o, pu_fz_r, pu_toSl_d, pu_toSl_o, pu_isB, pu_qAdd, pu_qAddT, pu_qAddL, pu_qMul, pu_qMulT, pu_qMulL, pu_qSub, pu_qMod, pu_qDiv, pu_qPow, pu_qLt, pu_qLe, pu_qGt, pu_qGe, pu_qMax2, pu_qMin2, pu_qEq, pu_qNe, pu_qNeg, pu_qAbs, pu_qInt, pu_qLenT, pu_qLenL, pu_qLenS, pu_qLstT, pu_qLstL, pu_qTupT, pu_qTupL, pu_qSlT, pu_qSlL, pu_atL, pu_atLS, pu_gT, pu_gpC, pu_gpN, pu_ty_non, pu_ty_bl, pu_ty_int, pu_ty_str, pu_ty_tup, pu_ty_lst, pu_qEqS, pu_qNeS, pu_isi_non_int, pu_isi_non_bool, pu_isi_non_str, pu_isi_non_tuple, pu_isi_non_list, pu_isi_non_dict, pu_isi_bl_int, pu_isi_bl_bool, pu_isi_bl_str, pu_isi_bl_tuple, pu_isi_bl_list, pu_isi_bl_dict, pu_isi_int_int, pu_isi_int_bool, pu_isi_int_str, pu_isi_int_tuple, pu_isi_int_list, pu_isi_int_dict, pu_isi_str_int, pu_isi_str_bool, pu_isi_str_str, pu_isi_str_tuple, pu_isi_str_list, pu_isi_str_dict, pu_isi_tup_int, pu_isi_tup_bool, pu_isi_tup_str, pu_isi_tup_tuple, pu_isi_tup_list, pu_isi_tup_dict, pu_isi_lst_int, pu_isi_lst_bool, pu_isi_lst_str, pu_isi_lst_tuple, pu_isi_lst_list, pu_isi_lst_dict, pu_isi_dK_int, pu_isi_dK_bool, pu_isi_dK_str, pu_isi_dK_tuple, pu_isi_dK_list, pu_isi_dK_dict, pu_isi_dT_int, pu_isi_dT_bool, pu_isi_dT_str, pu_isi_dT_tuple, pu_isi_dT_list, pu_isi_dT_dict, pu_isn_non_false, pu_isn_non_true, pu_isn_bl_false, pu_isn_bl_true, pu_isn_int_false, pu_isn_int_true, pu_isn_str_false, pu_isn_str_true, pu_isn_tup_false, pu_isn_tup_true, pu_isn_lst_false, pu_isn_lst_true, pu_isn_dK_false, pu_isn_dK_true, pu_isn_dT_false, pu_isn_dT_true, pu_isn_exn_false, pu_isn_exn_true, pu_qReprB, pu_qReprN, pu_lamR_nil, pu_lamR_va, pu_lamR_ow, pu_lamR_no, pu_gT2, pu_gT3, pu_qSl3, pu_qSl3L, pu_qIsB])
local macro_rules | `(tactic| walk_at "pw") => `(tactic| simp -underLambda only [decide_true, decide_false, Bool.not_true, Bool.not_false, startD, Nat.reduceAdd, Nat.reduceSub, List.replicate_zero, List.replicate_succ, List.map_cons, List.map_nil, List.length_cons, List.length_nil, List.length_map, List.length_replicate, List.cons_append, List.nil_append, true_and, and_true, dSeq, dNext, dRet, dRetN, dBrk, dCnt, dIf, dSet, dPar2, dPar3, mCons, mNil, dOp1, dOp2, dC, dTup, dLst, aCons, aNil, bTest, bAnd, bOr, bNot, bYes, dAnd, dOr, dNot, dIfE, dCall, dFor, dLc, iR1, iR2, iSeq, iEnD, iZpD, iScr, gN, dAsgT, dDrop, dRaise, dAppend, dPop, dNewT, dNewK, dCallK, dSl, pIt, pNo, dChain, dCaught, aC, dSl3, dCallV, pu_use_d, pu_use_olst, pu_peek_olst, pu_use_odK, pu_peek_odK, pu_use_odT, pu_peek_odT, pu_peek_d, pu_use_r, pu_peek_r, pu_var, pu_useS_va, pu_peekS_va, pu_varS_va, pu_varS_ow, pu_useS_lst, pu_peekS_lst, pu_useS_dK, pu_peekS_dK, pu_useS_dT, pu_peekS_dT, pu_get0, pu_getS, pu_set0, pu_setS, pu_wipe0, pu_wipeS, pu_asg_d, pu_asg_o, pu_asg_r, pu_fz_d, pu_fz_o, pu_fz_r, pu_toSl_d, pu_toSl_o, pu_isB, pu_qAdd, pu_qAddT, pu_qAddL, pu_qMul, pu_qMulT, pu_qMulL, pu_qSub, pu_qMod, pu_qDiv, pu_qPow, pu_qLt, pu_qLe, pu_qGt, pu_qGe, pu_qMax2, pu_qMin2, pu_qEq, pu_qNe, pu_qNeg, pu_qAbs, pu_qInt, pu_qLenT, pu_qLenL, pu_qLenS, pu_qLstT, pu_qLstL, pu_qTupT, pu_qTupL, pu_qSlT, pu_qSlL, pu_atL, pu_atLS, pu_gT, pu_gpC, pu_gpN, pu_ty_non, pu_ty_bl, pu_ty_int, pu_ty_str, pu_ty_tup, pu_ty_lst, pu_qEqS, pu_qNeS, pu_isi_non_int, pu_isi_non_bool, pu_isi_non_str, pu_isi_non_tuple, pu_isi_non_list, pu_isi_non_dict, pu_isi_bl_int, pu_isi_bl_bool, pu_isi_bl_str, pu_isi_bl_tuple, pu_isi_bl_list, pu_isi_bl_dict, pu_isi_int_int, pu_isi_int_bool, pu_isi_int_str, pu_isi_int_tuple, pu_isi_int_list, pu_isi_int_dict, pu_isi_str_int, pu_isi_str_bool, pu_isi_str_str, pu_isi_str_tuple, pu_isi_str_list, pu_isi_str_dict, pu_isi_tup_int, pu_isi_tup_bool, pu_isi_tup_str, pu_isi_tup_tuple, pu_isi_tup_list, pu_isi_tup_dict, pu_isi_lst_int, pu_isi_lst_bool, pu_isi_lst_str, pu_isi_lst_tuple, pu_isi_lst_list, pu_isi_lst_dict, pu_isi_dK_int, pu_isi_dK_bool, pu_isi_dK_str, pu_isi_dK_tuple, pu_isi_dK_list, pu_isi_dK_dict, pu_isi_dT_int, pu_isi_dT_bool, pu_isi_dT_str, pu_isi_dT_tuple, pu_isi_dT_list, pu_isi_dT_dict, pu_isn_non_false, pu_isn_non_true, pu_isn_bl_false, pu_isn_bl_true, pu_isn_int_false, pu_isn_int_true, pu_isn_str_false, pu_isn_str_true, pu_isn_tup_false, pu_isn_tup_true, pu_isn_lst_false, pu_isn_lst_true, pu_isn_dK_false, pu_isn_dK_true, pu_isn_dT_false, pu_isn_dT_true, pu_isn_exn_false, pu_isn_exn_true, pu_qReprB, pu_qReprN, pu_lamR_nil, pu_lamR_va, pu_lamR_ow, pu_lamR_no, pu_gT2, pu_gT3, pu_qSl3, pu_qSl3L, pu_qIsB])
def isMod : D → Bool
  | .int i => decide (2 ≤ i) && decide (i ≤ 60)
  | _ => false
def c_need_modulus (G : Str → Addr) : PC := fun ds Q X => match ds with | [d] => (tyD d).isSome = true ∧ (isMod d = true → Q .non) ∧ (isMod d = false → X ⟨G "BadModulus", []⟩) | _ => False
def c_need_count_modulo (G : Str → Addr) : PC := fun ds Q X => match ds with | [d] => (tyD d).isSome = true ∧ (isUpTo (10 ^ 18) d = true → Q .non) ∧ (isUpTo (10 ^ 18) d = false → X ⟨G "BadCount", []⟩) | _ => False
def c_rests_of (G : Str → Addr) : PC := fun ds Q X => match ds with | [.tup l, .int m] => ∃ r : List Int, l = r.map D.int ∧ r.length ≤ 1000 ∧ 0 < m ∧ Q (T (r.map (· % m))) | _ => False
def sumE (r : List Int) (p : Nat) : Nat → List Int → Int
  | _, [] => 0
  | k, w :: ws => w * r.getD ((p + k) % r.length) 0 + sumE r p (k + 1) ws
def ledL (w r : List Int) (m : Int) : List Int := (List.range r.length).map fun p => sumE r p 0 w % m
def c_led_by (G : Str → Addr) : PC := fun ds Q X => match ds with | [.tup l, .tup l2, .int m] => ∃ w r : List Int, l = w.map D.int ∧ l2 = r.map D.int ∧ w.length ≤ 1000 ∧ 1 ≤ r.length ∧ r.length ≤ 1000 ∧ (∀ x ∈ w, 0 ≤ x ∧ x < 2 ^ 60) ∧ 0 < m ∧ Q (T (ledL w r m)) | _ => False
theorem enumInts (k : Nat) : ∀ ns : List Int, enumFrom k (ns.map D.int) = match ns with | [] => [] | n :: r => .tup [.int (k : Int), .int n] :: enumFrom (k + 1) (r.map D.int)
  | [] => rfl
  | n :: r => rfl
def togIn (n at_ : Nat) (w : Int) : Nat → List Int → List Int → List Int
  | _, [], f => f
  | k, x :: xs, f => togIn n at_ w (k + 1) xs (f.set ((at_ + k) % n) (f.getD ((at_ + k) % n) 0 + w * x))
def togOut (n : Nat) (other : List Int) : Nat → List Int → List Int → List Int
  | _, [], f => f
  | k, w :: ws, f => togOut n other (k + 1) ws (if w ≠ 0 then togIn n k w 0 other f else f)
def togL (a b : List Int) (m : Int) : List Int := (togOut a.length b 0 a (List.replicate a.length 0)).map (· % m)
theorem togIn_len (n at_ : Nat) (w : Int) : ∀ (xs : List Int) (k : Nat) (f : List Int), (togIn n at_ w k xs f).length = f.length
  | [], _, _ => rfl
  | x :: xs, k, f => by unfold togIn; rw [togIn_len n at_ w xs, List.length_set]
theorem togOut_len (n : Nat) (other : List Int) : ∀ (ws : List Int) (k : Nat) (f : List Int), (togOut n other k ws f).length = f.length
  | [], _, _ => rfl
  | w :: ws, k, f => by
    unfold togOut
    rw [togOut_len n other ws]
    split
    · rw [togIn_len]
    · rfl
theorem togL_len (a b : List Int) (m : Int) : (togL a b m).length = a.length := by
  unfold togL
  rw [List.length_map, togOut_len, List.length_replicate]
def c_together_by (G : Str → Addr) : PC := fun ds Q X => match ds with | [.tup l, .tup l2, .int m] => ∃ a b : List Int, l = a.map D.int ∧ l2 = b.map D.int ∧ 1 ≤ a.length ∧ a.length ≤ 1000 ∧ b.length ≤ 1000 ∧ (∀ x ∈ a, 0 ≤ x ∧ x < 2 ^ 60) ∧ 0 < m ∧ Q (T (togL a b m)) | _ => False
theorem ixD_nat {n j : Nat} {K : Nat → Prop} (h : j < n) (k : K j) : ixD n (.int (j : Int)) K := by
  unfold ixD
  simp only [ixN_nat h]
  exact k
theorem get_ints (f : List Int) {j : Nat} (h : j < f.length) : (f.map D.int)[j]? = some (.int (f.getD j 0)) := by
  rw [List.getElem?_map, List.getD_eq_getElem?_getD, List.getElem?_eq_getElem h]
  rfl
theorem set_ints (f : List Int) (j : Nat) (x : Int) : (f.set j x).map D.int = (f.map D.int).set j (.int x) := List.map_set
theorem rep_ints (n : Nat) (x : Int) : (List.replicate n [D.int x]).flatten = (List.replicate n x).map D.int := by
  induction n with
  | zero => rfl
  | succ n ih => rw [List.replicate_succ, List.replicate_succ, List.flatten_cons, ih, List.map_cons]; rfl
def powG (m : Int) (found here : List Int) (c : Nat) : List Int := if h : c = 0 then found else powG m (if c % 2 = 1 then togL found here m else found) (togL here here m) (c / 2)
termination_by c
decreasing_by omega
theorem powG_zero (m : Int) (found here : List Int) : powG m found here 0 = found := by rw [powG]; rfl
theorem powG_pos (m : Int) (found here : List Int) (c : Nat) (h : c ≠ 0) : powG m found here c = powG m (if c % 2 = 1 then togL found here m else found) (togL here here m) (c / 2) := by rw [powG, dif_neg h]
def oneL (n : Nat) : List Int := 1 :: List.replicate (n - 1) 0
def powL (w : List Int) (c : Nat) (m : Int) : List Int := powG m (oneL w.length) w c
def Rest (m : Int) (w : List Int) : Prop := ∀ x ∈ w, 0 ≤ x ∧ x < m
theorem togL_rest {a b : List Int} {m : Int} (hm : 0 < m) : Rest m (togL a b m) := fun x hx => by
  unfold togL at hx
  obtain ⟨y, _, rfl⟩ := List.mem_map.mp hx
  exact ⟨Int.emod_nonneg _ (by omega), Int.emod_lt_of_pos _ hm⟩
theorem rest60 {m : Int} {w : List Int} (h : Rest m w) (hm : m < 2 ^ 60) : ∀ x ∈ w, 0 ≤ x ∧ x < 2 ^ 60 := fun x hx => by
  have := h x hx
  omega
theorem oneL_len {n : Nat} (h : 1 ≤ n) : (oneL n).length = n := by unfold oneL; rw [List.length_cons, List.length_replicate]; omega
theorem oneL_rest {n : Nat} {m : Int} (hm : 2 ≤ m) : Rest m (oneL n) := fun x hx => by
  rcases List.mem_cons.mp hx with e | e
  · omega
  · have := List.eq_of_mem_replicate e
    omega
def c_power_by (G : Str → Addr) : PC := fun ds Q X => match ds with | [.tup l, .int c, .int m] => ∃ (w : List Int) (k : Nat), l = w.map D.int ∧ c = (k : Int) ∧ 1 ≤ w.length ∧ w.length ≤ 1000 ∧ Rest m w ∧ 2 ≤ m ∧ m < 2 ^ 60 ∧ Q (T (powL w k m)) | _ => False
def dwL (n : Nat) (m : Int) : List Int := if 1 < n then 1 :: (m - 1) :: List.replicate (n - 2) 0 else [0]
theorem dwL_len {n : Nat} {m : Int} (h : 1 ≤ n) : (dwL n m).length = n := by
  unfold dwL
  split
  · rw [List.length_cons, List.length_cons, List.length_replicate]; omega
  · simp only [List.length_singleton]; omega
theorem dwL_rest {n : Nat} {m : Int} (h : 2 ≤ m) : Rest m (dwL n m) := fun x hx => by
  unfold dwL at hx
  split at hx
  · rcases List.mem_cons.mp hx with e | hx
    · omega
    · rcases List.mem_cons.mp hx with e | hx
      · omega
      · have := List.eq_of_mem_replicate hx
        omega
  · have := List.mem_singleton.mp hx
    omega
def c_day_weights (G : Str → Addr) : PC := fun ds Q X => match ds with | [.int n, .int m] => ∃ k : Nat, n = k ∧ k ≤ 1000 ∧ Q (T (dwL k m)) | _ => False
def restL (r : List Int) (m : Int) : List Int := r.map (· % m)
theorem restL_len (r : List Int) (m : Int) : (restL r m).length = r.length := List.length_map ..
def restDayL (r : List Int) (m : Int) : List Int := ledL (dwL r.length m) (restL r m) m
def restDayOnL (r : List Int) (m : Int) (c : Nat) : List Int := ledL (powL (dwL r.length m) c m) (restL r m) m
theorem powG_len {m : Int} {n : Nat} : ∀ (c : Nat) (found here : List Int), found.length = n → here.length = n → (powG m found here c).length = n := fun c => by
  induction c using Nat.strongRecOn with
  | _ c ih =>
    intro found here hf hh
    by_cases h0 : c = 0
    · subst h0; rw [powG_zero]; exact hf
    · rw [powG_pos _ _ _ _ h0]
      refine ih (c / 2) (by omega) _ _ ?_ (by rw [togL_len]; exact hh)
      split
      · rw [togL_len]; exact hf
      · exact hf
theorem powG_rest {m : Int} (m2 : 2 ≤ m) : ∀ (c : Nat) (found here : List Int), Rest m found → Rest m here → Rest m (powG m found here c) := fun c => by
  induction c using Nat.strongRecOn with
  | _ c ih =>
    intro found here hf hh
    by_cases h0 : c = 0
    · subst h0; rw [powG_zero]; exact hf
    · rw [powG_pos _ _ _ _ h0]
      refine ih (c / 2) (by omega) _ _ ?_ (togL_rest (by omega))
      split
      · exact togL_rest (by omega)
      · exact hf
theorem powL_len {w : List Int} {c : Nat} {m : Int} (h : 1 ≤ w.length) : (powL w c m).length = w.length := powG_len c _ _ (oneL_len h) rfl
theorem powL_rest {w : List Int} {c : Nat} {m : Int} (m2 : 2 ≤ m) (h : Rest m w) : Rest m (powL w c m) := powG_rest m2 c _ _ (oneL_rest m2) h
def c_rest_day (G : Str → Addr) : PC := fun ds Q X => match ds with
  | [d, e] => Knd d ∧ (tyD e).isSome = true ∧ (isRow d = false → X ⟨G "BadRow", []⟩) ∧ (isRow d = true → isMod e = false → X ⟨G "BadModulus", []⟩) ∧ (∀ r m, d = T r → Row r → e = .int m → 2 ≤ m → m ≤ 60 → Q (T (restDayL r m)))
  | _ => False
def c_rest_day_on (G : Str → Addr) : PC := fun ds Q X => match ds with
  | [d, e, f] => Knd d ∧ (tyD e).isSome = true ∧ (tyD f).isSome = true ∧ (isRow d = false → X ⟨G "BadRow", []⟩) ∧ (isRow d = true → isMod e = false → X ⟨G "BadModulus", []⟩) ∧ (isRow d = true → isMod e = true → isUpTo (10 ^ 18) f = false → X ⟨G "BadCount", []⟩) ∧
      (∀ r m (k : Nat), d = T r → Row r → e = .int m → 2 ≤ m → m ≤ 60 → f = .int k → k ≤ 10 ^ 18 → Q (T (restDayOnL r m k)))
  | _ => False
theorem u_rest_day {G r m Q X} (hr : Row r) (h1 : 2 ≤ m) (h2 : m ≤ 60) (h : Q (T (restDayL r m))) : c_rest_day G [T r, .int m] Q X := by
  refine ⟨knd_T r (row_len hr), rfl, fun e => ?_, fun _ e => ?_, fun r' m' e1 _ e2 _ _ => ?_⟩
  · rw [isRow_T.mpr hr] at e; cases e
  · simp only [isMod, Bool.and_eq_false_iff, decide_eq_false_iff_not] at e
    omega
  · cases e2
    rw [← T_inj e1]; exact h
theorem u_rest_day_on {G r m Q X} {k : Nat} (hr : Row r) (h1 : 2 ≤ m) (h2 : m ≤ 60) (hk : k ≤ 10 ^ 18) (h : Q (T (restDayOnL r m k))) : c_rest_day_on G [T r, .int m, .int k] Q X := by
  refine ⟨knd_T r (row_len hr), rfl, rfl, fun e => ?_, fun _ e => ?_, fun _ _ e => ?_, fun r' m' k' e1 _ e2 _ _ e3 _ => ?_⟩
  · rw [isRow_T.mpr hr] at e; cases e
  · simp only [isMod, Bool.and_eq_false_iff, decide_eq_false_iff_not] at e
    omega
  · simp only [isUpTo, Bool.and_eq_false_iff, decide_eq_false_iff_not] at e
    omega
  · cases e2
    have : k = k' := by have := D.int.inj e3; omega
    rw [← T_inj e1, ← this]; exact h
end RP
set_option Elab.async false
set_option linter.all false
set_option maxRecDepth 100000
namespace RP
open PySem PySem.Spec PyProof.Rows L2 PL
local macro_rules | `(tactic| walk_at "pu") => `(tactic| simp only [decide_true, decide_false, Bool.not_true, Bool.not_false, startD, Nat.reduceAdd, Nat.reduceSub, List.replicate_zero, List.replicate_succ, List.map_cons, List.map_nil, List.length_cons, List.length_nil, List.length_map, List.length_replicate, List.cons_append, List.nil_append, true_and, and_true, dSeq, dNext, dRet, dRetN, dBrk, dCnt, dIf, dSet, dPar2, dPar3, mCons, mNil, dOp1, dOp2, dC, dTup, dLst, aCons, aNil, bTest, bAnd, bOr, bNot, bYes, dAnd, dOr, dNot, dIfE, dCall, dFor, dLc, iR1, iR2, iSeq, iEnD, iZpD, iScr, gN, dAsgT, dDrop, dRaise, dAppend, dPop, dNewT, dNewK, dCallK, dSl, pIt, pNo, dChain, dCaught, aC, dSl3, dCallV, pu_use_d, pu_use_olst, pu_peek_olst, pu_use_odK, pu_peek_odK, pu_use_odT, pu_peek_odT, pu_peek_d, pu_use_r, pu_peek_r, pu_var, pu_useS_va, pu_peekS_va, pu_varS_va, pu_varS_ow, pu_useS_lst, pu_peekS_lst, pu_useS_dK, pu_peekS_dK, pu_useS_dT, pu_peekS_dT, pu_get0, pu_getS, pu_set0, pu_setS, pu_wipe0, pu_wipeS, pu_asg_d, pu_asg_o, pu_asg_r, pu_fz_d, pu_fz_o, pu_fz_r, pu_toSl_d, pu_toSl_o, pu_isB, pu_qAdd, pu_qAddT, pu_qAddL, pu_qMul, pu_qMulT, pu_qMulL, pu_qSub, pu_qMod, pu_qDiv, pu_qPow, pu_qLt, pu_qLe, pu_qGt, pu_qGe, pu_qMax2, pu_qMin2, pu_qEq, pu_qNe, pu_qNeg, pu_qAbs, pu_qInt, pu_qLenT, pu_qLenL, pu_qLenS, pu_qLstT, pu_qLstL, pu_qTupT, pu_qTupL, pu_qSlT, pu_qSlL, pu_atL, pu_atLS, pu_gT, pu_gpC, pu_gpN, pu_ty_non, pu_ty_bl, pu_ty_int, pu_ty_str, pu_ty_tup, pu_ty_lst, pu_qEqS, pu_qNeS, pu_isi_non_int, pu_isi_non_bool, pu_isi_non_str, pu_isi_non_tuple, pu_isi_non_list, pu_isi_non_dict, pu_isi_bl_int, pu_isi_bl_bool, pu_isi_bl_str, pu_isi_bl_tuple, pu_isi_bl_list, pu_isi_bl_dict, pu_isi_int_int, pu_isi_int_bool, pu_isi_int_str, pu_isi_int_tuple, pu_isi_int_list, pu_isi_int_dict, pu_isi_str_int, pu_isi_str_bool, pu_isi_str_str, pu_isi_str_tuple, pu_isi_str_list, pu_isi_str_dict, pu_isi_tup_int, pu_isi_tup_bool, pu_isi_tup_str, pu_isi_tup_tuple, pu_isi_tup_list, pu_isi_tup_dict, pu_isi_lst_int, pu_isi_lst_bool, pu_isi_lst_str, pu_isi_lst_tuple, pu_isi_lst_list, pu_isi_lst_dict, pu_isi_dK_int, pu_isi_dK_bool, pu_isi_dK_str, pu_isi_dK_tuple, pu_isi_dK_list, pu_isi_dK_dict, pu_isi_dT_int, pu_isi_dT_bool, pu_isi_dT_str, pu_isi_dT_tuple, pu_isi_dT_list, pu_isi_dT_dict, pu_isn_non_false, pu_isn_non_true, pu_isn_bl_false, pu_isn_bl_true, pu_isn_int_false, pu_isn_int_true, pu_isn_str_false, pu_isn_str_true, pu_isn_tup_false, pu_isn_tup_true, pu_isn_lst_false, pu_isn_lst_true, pu_isn_dK_false, pu_isn_dK_true, pu_isn_dT_false, pu_isn_dT_true, pu_isn_exn_false, pu_isn_exn_true, pu_qReprB, pu_qReprN, pu_lamR_nil, pu_lamR_va, pu_lamR_ow, pu_lamR_no, pu_gT2, pu_gT3, pu_qSl3, pu_qSl3L, pu_qIsB])
local macro_rules | `(tactic| walk_at "pv") => `(tactic| simp -implicitDefEqProofs only [decide_true, decide_false, Bool.not_true, Bool.not_false, startD, Nat.reduceAdd, Nat.reduceSub, List.replicate_zero, List.replicate_succ, List.map_cons, List.map_nil, List.length_cons, List.length_nil, List.length_map, List.length_replicate, List.cons_append, List.nil_append, true_and, and_true, dSeq, dNext, dRet, dRetN, dBrk, dCnt, dIf, dSet, dPar2, dPar3, mCons, mNil, dOp1, dOp2, dC, dTup, dLst, aCons, aNil, bTest, bAnd, bOr, bNot, bYes, dAnd, dOr, dNot, dIfE, dCall, dFor, dLc, iR1, iR2, iSeq, iEnD, iZpD, iScr, gN, dAsgT, dDrop, dRaise, dAppend, dPop, dNewT, dNewK, dCallK, dSl, pIt, pNo, dChain, dCaught, aC, dSl3, dCallV, pu_use_d, pu_use_olst, pu_peek_olst, pu_use_odK, pu_peek_odK, pu_use_odT, pu_peek_odT, pu_peek_d, pu_use_r, pu_peek_r, pu_var, pu_useS_va, pu_peekS_va, pu_varS_va, pu_varS_ow, pu_useS_lst, pu_peekS_lst, pu_useS_dK, pu_peekS_dK, pu_useS_dT, pu_peekS_dT, pu_get0, pu_getS, pu_set0, pu_setS, pu_wipe0, pu_wipeS, pu_asg_d, pu_asg_o, pu_asg_r, pu_fz_d, pu_fz_o, pu_fz_r, pu_toSl_d, pu_toSl_o, pu_isB, pu_qAdd, pu_qAddT, pu_qAddL, pu_qMul, pu_qMulT, pu_qMulL, pu_qSub, pu_qMod, pu_qDiv, pu_qPow, pu_qLt, pu_qLe, pu_qGt, pu_qGe, pu_qMax2, pu_qMin2, pu_qEq, pu_qNe, pu_qNeg, pu_qAbs, pu_qInt, pu_qLenT, pu_qLenL, pu_qLenS, pu_qLstT, pu_qLstL, pu_qTupT, pu_qTupL, pu_qSlT, pu_qSlL, pu_atL, pu_atLS, pu_gT, pu_gpC, pu_gpN, pu_ty_non, pu_ty_bl, pu_ty_int, pu_ty_str, pu_ty_tup, pu_ty_lst, pu_qEqS, pu_qNeS, pu_isi_non_int, pu_isi_non_bool, pu_isi_non_str, pu_isi_non_tuple, pu_isi_non_list, pu_isi_non_dict, pu_isi_bl_int, pu_isi_bl_bool, pu_isi_bl_str, pu_isi_bl_tuple, pu_isi_bl_list, pu_isi_bl_dict, pu_isi_int_int, pu_isi_int_bool, pu_isi_int_str, pu_isi_int_tuple, pu_isi_int_list, pu_isi_int_dict, pu_isi_str_int, pu_isi_str_bool, pu_isi_str_str, pu_isi_str_tuple, pu_isi_str_list, pu_isi_str_dict, pu_isi_tup_int, pu_isi_tup_bool, pu_isi_tup_str, pu_isi_tup_tuple, pu_isi_tup_list, pu_isi_tup_dict, pu_isi_lst_int, pu_isi_lst_bool, pu_isi_lst_str, pu_isi_lst_tuple, pu_isi_lst_list, pu_isi_lst_dict, pu_isi_dK_int, pu_isi_dK_bool, pu_isi_dK_str, pu_isi_dK_tuple, pu_isi_dK_list, pu_isi_dK_dict, pu_isi_dT_int, pu_isi_dT_bool, pu_isi_dT_str, pu_isi_dT_tuple, pu_isi_dT_list, pu_isi_dT_dict, pu_isn_non_false, pu_isn_non_true, pu_isn_bl_false, pu_isn_bl_true, pu_isn_int_false, pu_isn_int_true, pu_isn_str_false, pu_isn_str_true, pu_isn_tup_false, pu_isn_tup_true, pu_isn_lst_false, pu_isn_lst_true, pu_isn_dK_false, pu_isn_dK_true, pu_isn_dT_false, pu_isn_dT_true, pu_isn_exn_false, pu_isn_exn_true, pu_qReprB, pu_qReprN, pu_lamR_nil, pu_lamR_va, pu_lamR_ow, pu_lamR_no, pu_gT2, pu_gT3, pu_qSl3, pu_qSl3L, pu_qIsB])
local macro_rules | `(tactic| walk_at "pw") => `(tactic| simp -underLambda only [decide_true, decide_false, Bool.not_true, Bool.not_false, startD, Nat.reduceAdd, Nat.reduceSub, List.replicate_zero, List.replicate_succ, List.map_cons, List.map_nil, List.length_cons, List.length_nil, List.length_map, List.length_replicate, List.cons_append, List.nil_append, true_and, and_true, dSeq, dNext, dRet, dRetN, dBrk, dCnt, dIf, dSet, dPar2, dPar3, mCons, mNil, dOp1, dOp2, dC, dTup, dLst, aCons, aNil, bTest, bAnd, bOr, bNot, bYes, dAnd, dOr, dNot, dIfE, dCall, dFor, dLc, iR1, iR2, iSeq, iEnD, iZpD, iScr, gN, dAsgT, dDrop, dRaise, dAppend, dPop, dNewT, dNewK, dCallK, dSl, pIt, pNo, dChain, dCaught, aC, dSl3, dCallV, pu_use_d, pu_use_olst, pu_peek_olst, pu_use_odK, pu_peek_odK, pu_use_odT, pu_peek_odT, pu_peek_d, pu_use_r, pu_peek_r, pu_var, pu_useS_va, pu_peekS_va, pu_varS_va, pu_varS_ow, pu_useS_lst, pu_peekS_lst, pu_useS_dK, pu_peekS_dK, pu_useS_dT, pu_peekS_dT, pu_get0, pu_getS, pu_set0, pu_setS, pu_wipe0, pu_wipeS, pu_asg_d, pu_asg_o, pu_asg_r, pu_fz_d, pu_fz_o, pu_fz_r, pu_toSl_d, pu_toSl_o, pu_isB, pu_qAdd, pu_qAddT, pu_qAddL, pu_qMul, pu_qMulT, pu_qMulL, pu_qSub, pu_qMod, pu_qDiv, pu_qPow, pu_qLt, pu_qLe, pu_qGt, pu_qGe, pu_qMax2, pu_qMin2, pu_qEq, pu_qNe, pu_qNeg, pu_qAbs, pu_qInt, pu_qLenT, pu_qLenL, pu_qLenS, pu_qLstT, pu_qLstL, pu_qTupT, pu_qTupL, pu_qSlT, pu_qSlL, pu_atL, pu_atLS, pu_gT, pu_gpC, pu_gpN, pu_ty_non, pu_ty_bl, pu_ty_int, pu_ty_str, pu_ty_tup, pu_ty_lst, pu_qEqS, pu_qNeS, pu_isi_non_int, pu_isi_non_bool, pu_isi_non_str, pu_isi_non_tuple, pu_isi_non_list, pu_isi_non_dict, pu_isi_bl_int, pu_isi_bl_bool, pu_isi_bl_str, pu_isi_bl_tuple, pu_isi_bl_list, pu_isi_bl_dict, pu_isi_int_int, pu_isi_int_bool, pu_isi_int_str, pu_isi_int_tuple, pu_isi_int_list, pu_isi_int_dict, pu_isi_str_int, pu_isi_str_bool, pu_isi_str_str, pu_isi_str_tuple, pu_isi_str_list, pu_isi_str_dict, pu_isi_tup_int, pu_isi_tup_bool, pu_isi_tup_str, pu_isi_tup_tuple, pu_isi_tup_list, pu_isi_tup_dict, pu_isi_lst_int, pu_isi_lst_bool, pu_isi_lst_str, pu_isi_lst_tuple, pu_isi_lst_list, pu_isi_lst_dict, pu_isi_dK_int, pu_isi_dK_bool, pu_isi_dK_str, pu_isi_dK_tuple, pu_isi_dK_list, pu_isi_dK_dict, pu_isi_dT_int, pu_isi_dT_bool, pu_isi_dT_str, pu_isi_dT_tuple, pu_isi_dT_list, pu_isi_dT_dict, pu_isn_non_false, pu_isn_non_true, pu_isn_bl_false, pu_isn_bl_true, pu_isn_int_false, pu_isn_int_true, pu_isn_str_false, pu_isn_str_true, pu_isn_tup_false, pu_isn_tup_true, pu_isn_lst_false, pu_isn_lst_true, pu_isn_dK_false, pu_isn_dK_true, pu_isn_dT_false, pu_isn_dT_true, pu_isn_exn_false, pu_isn_exn_true, pu_qReprB, pu_qReprN, pu_lamR_nil, pu_lamR_va, pu_lamR_ow, pu_lamR_no, pu_gT2, pu_gT3, pu_qSl3, pu_qSl3L, pu_qIsB])
def key (r : List Int) : List Key := r.map Sum.inl
theorem key_inj {a b : List Int} (h : key a = key b) : a = b := (List.map_inj_right fun _ _ e => Sum.inl.inj e).mp h
def seenL (f : Nat → List Int) (j : Nat) : List (List Key × D) := (List.range j).map fun (i : Nat) => (key (f i), D.int (i : Nat))
theorem seenL_succ (f : Nat → List Int) (j : Nat) : seenL f (j + 1) = seenL f j ++ [(key (f j), .int (j : Nat))] := by
  unfold seenL
  rw [List.range_succ, List.map_append]; rfl
theorem seen_val (f : Nat → List Int) (y : List Int) : ∀ j, (∃ b, b < j ∧ f b = y ∧ dval (seenL f j) (key y) = some (.int (b : Nat))) ∨ ((∀ b, b < j → f b ≠ y) ∧ dval (seenL f j) (key y) = none)
  | 0 => .inr ⟨fun b hb => absurd hb (Nat.not_lt_zero _), rfl⟩
  | j + 1 => by
    rcases seen_val f y j with ⟨b, hb, e, hv⟩ | ⟨hn, hv⟩
    · refine .inl ⟨b, by omega, e, ?_⟩
      rw [seenL_succ]
      unfold dval at hv ⊢
      rw [List.find?_append]
      cases q : List.find? (fun kv => decide (kv.1 = key y)) (seenL f j) with
      | none => rw [q] at hv; cases hv
      | some z => rw [q] at hv; exact hv
    · have q : List.find? (fun kv => decide (kv.1 = key y)) (seenL f j) = none := by
        unfold dval at hv
        cases q : List.find? (fun kv => decide (kv.1 = key y)) (seenL f j) with
        | none => rfl
        | some z => rw [q] at hv; cases hv
      by_cases e : f j = y
      · refine .inl ⟨j, by omega, e, ?_⟩
        rw [seenL_succ]
        unfold dval
        rw [List.find?_append, q, e]
        simp
      · refine .inr ⟨fun b hb => ?_, ?_⟩
        · by_cases h : b = j
          · rw [h]; exact e
          · exact hn b (by omega)
        · rw [seenL_succ]
          unfold dval
          rw [List.find?_append, q]
          have : ¬ key (f j) = key y := fun z => e (key_inj z)
          simp [this]
theorem seen_put (f : Nat → List Int) {j : Nat} (h : ∀ b, b < j → f b ≠ f j) : dput (seenL f j) (key (f j)) (.int (j : Nat)) = seenL f (j + 1) := by
  have e : ((seenL f j).any fun kv => decide (kv.1 = key (f j))) = false := by
    rw [List.any_eq_false]
    intro kv hk
    obtain ⟨b, hb, rfl⟩ := List.mem_map.mp hk
    have := h b (List.mem_range.mp hb)
    simp only [decide_eq_true_eq]
    exact fun z => this (key_inj z)
  unfold dput
  rw [e, if_neg Bool.false_ne_true, seenL_succ]
def codeL (m : Nat) : List Int → Nat
  | [] => 0
  | a :: l => a.toNat + m * codeL m l
theorem code_inj {m : Nat} : ∀ {a b : List Int}, a.length = b.length → Rest m a → Rest m b → codeL m a = codeL m b → a = b
  | [], [], _, _, _, _ => rfl
  | x :: a, y :: b, h, ha, hb, e => by
    have h1 := ha x List.mem_cons_self
    have h2 := hb y List.mem_cons_self
    simp only [codeL] at e
    have hm : 0 < m := by omega
    have e1 : x.toNat = y.toNat := by
      have q1 : (x.toNat + m * codeL m a) % m = x.toNat := by rw [Nat.add_mul_mod_self_left, Nat.mod_eq_of_lt (by omega)]
      have q2 : (y.toNat + m * codeL m b) % m = y.toNat := by rw [Nat.add_mul_mod_self_left, Nat.mod_eq_of_lt (by omega)]
      rw [← q1, ← q2, e]
    have e2 : codeL m a = codeL m b := by
      have q : m * codeL m a = m * codeL m b := by omega
      exact Nat.eq_of_mul_eq_mul_left hm q
    have e3 : x = y := by omega
    rw [e3, code_inj (by simpa using h) (fun z hz => ha z (List.mem_cons_of_mem _ hz)) (fun z hz => hb z (List.mem_cons_of_mem _ hz)) e2]
theorem code_lt {m : Nat} : ∀ {a : List Int}, Rest m a → codeL m a < m ^ a.length
  | [], _ => by show 0 < 1; omega
  | x :: a, h => by
    have h1 := h x List.mem_cons_self
    have h2 := code_lt fun z hz => h z (List.mem_cons_of_mem _ hz)
    rw [List.length_cons, Nat.pow_succ]
    simp only [codeL]
    have h3 : m * (codeL m a + 1) ≤ m * m ^ a.length := Nat.mul_le_mul_left _ h2
    rw [Nat.mul_add, Nat.mul_one] at h3
    rw [Nat.mul_comm (m ^ a.length)]
    omega
theorem few {m : Nat} {f : Nat → List Int} {n j : Nat} (hf : ∀ i, (f i).length = n) (hr : ∀ i, Rest m (f i)) (hd : ∀ a b, a < j → b < a → f b ≠ f a) : j ≤ m ^ n := by
  have h := nat_nodup_len ((List.range j).map fun i => codeL m (f i)) (List.range (m ^ n)) ?_ fun x hx => ?_
  · rw [List.length_map, List.length_range, List.length_range] at h
    exact h
  · refine List.Pairwise.map _ (R := fun a b => a < b ∧ b < j) (fun a b ⟨h1, h2⟩ e => hd b a h2 h1 (code_inj (by rw [hf, hf]) (hr a) (hr b) e)) ?_
    exact List.Pairwise.imp_of_mem (fun ha hb h => ⟨h, List.mem_range.mp hb⟩) List.pairwise_lt_range
  · obtain ⟨i, _, rfl⟩ := List.mem_map.mp hx
    have := code_lt (hr i)
    rw [hf] at this
    exact List.mem_range.mpr this
theorem some_twice {m : Nat} {f : Nat → List Int} {n : Nat} (hf : ∀ i, (f i).length = n) (hr : ∀ i, Rest m (f i)) : ∃ a b, b < a ∧ a ≤ m ^ n ∧ f b = f a := by
  apply Classical.byContradiction
  intro h
  have q := few (m := m) (n := n) (j := m ^ n + 1) hf hr fun a b ha hb e => h ⟨a, b, hb, by omega, e⟩
  omega
theorem round_eq {α : Type} {f : Nat → α} {g : α → α} (hs : ∀ k, f (k + 1) = g (f k)) {b j : Nat} (hb : b < j) (e : f b = f j) : ∀ k, b ≤ k → f k = f (b + (k - b) % (j - b)) := by
  have sh : ∀ t, f (j + t) = f (b + t) := fun t => by
    induction t with
    | zero => exact e.symm
    | succ t ih => rw [← Nat.add_assoc, ← Nat.add_assoc, hs, hs, ih]
  intro k
  induction k using Nat.strongRecOn with
  | _ k ih =>
    intro hk
    by_cases h : k < j
    · rw [Nat.mod_eq_of_lt (by omega)]; congr 1; omega
    · have h1 := sh (k - j)
      rw [show j + (k - j) = k by omega] at h1
      rw [h1, ih (b + (k - j)) (by omega) (by omega)]
      congr 2
      rw [show k - b = (b + (k - j) - b) + (j - b) by omega, Nat.add_mod_right]
theorem u_inD {f : Nat → List Int} {j : Nat} {y : List Int} {o : Option D} {K : PL.Tm → Prop} (h : dval (seenL f j) (key y) = o) (k : K (.d (.bl (!o.isSome)))) : qInD true (T y) (.dT (seenL f j)) K := by
  show (match (keysOf (y.map D.int)).map (dval (seenL f j)) with | some o => K (.d (.bl (!o.isSome))) | none => False)
  rw [keysOf_ints]
  show K (.d (.bl (!(dval (seenL f j) (key y)).isSome)))
  rw [h]; exact k
theorem u_getD {f : Nat → List Int} {j : Nat} {y : List Int} {d : D} {K : PL.Tm → Prop} (h : dval (seenL f j) (key y) = some d) (k : K (.d d)) : qGetD (.dT (seenL f j)) (T y) K := by
  show (match (keysOf (y.map D.int)).map (dval (seenL f j)) with | some (some d) => K (.d d) | _ => False)
  rw [keysOf_ints]
  show (match some (dval (seenL f j) (key y)) with | some (some d) => K (.d d) | _ => False)
  rw [h]; exact k
abbrev lineL (f : Nat → List Int) (j : Nat) : List D := (List.range j).map fun i => T (f i)
theorem lineL_len (f : Nat → List Int) (j : Nat) : (lineL f j).length = j := by rw [List.length_map, List.length_range]
theorem lineL_succ (f : Nat → List Int) (j : Nat) : lineL f j ++ [T (f j)] = lineL f (j + 1) := by
  unfold lineL
  rw [List.range_succ, List.map_append]; rfl
theorem lineL_at (f : Nat → List Int) {j i : Nat} {K : PL.Tm → Prop} (h : i < j) (k : K (.d (T (f i)))) : qIx (.lst (lineL f j)) (.int (i : Int)) K := by
  show (match L2.atI (lineL f j) (i : Int) with | some d => K (.d d) | none => False)
  rw [atI_nat _ _ (by rw [lineL_len]; exact h), List.getElem?_map, List.getElem?_range h]
  exact k
end RP
set_option Elab.async false
set_option linter.all false
set_option maxRecDepth 100000
namespace RP
open PySem PySem.Spec PyProof.Rows L2 PL
local macro_rules | `(tactic| walk_at "pu") => `(tactic| simp only [decide_true, decide_false, Bool.not_true, Bool.not_false, startD, Nat.reduceAdd, Nat.reduceSub, List.replicate_zero, List.replicate_succ, List.map_cons, List.map_nil, List.length_cons, List.length_nil, List.length_map, List.length_replicate, List.cons_append, List.nil_append, true_and, and_true, dSeq, dNext, dRet, dRetN, dBrk, dCnt, dIf, dSet, dPar2, dPar3, mCons, mNil, dOp1, dOp2, dC, dTup, dLst, aCons, aNil, bTest, bAnd, bOr, bNot, bYes, dAnd, dOr, dNot, dIfE, dCall, dFor, dLc, iR1, iR2, iSeq, iEnD, iZpD, iScr, gN, dAsgT, dDrop, dRaise, dAppend, dPop, dNewT, dNewK, dCallK, dSl, pIt, pNo, dChain, dCaught, aC, dSl3, dCallV, pu_use_d, pu_use_olst, pu_peek_olst, pu_use_odK, pu_peek_odK, pu_use_odT, pu_peek_odT, pu_peek_d, pu_use_r, pu_peek_r, pu_var, pu_useS_va, pu_peekS_va, pu_varS_va, pu_varS_ow, pu_useS_lst, pu_peekS_lst, pu_useS_dK, pu_peekS_dK, pu_useS_dT, pu_peekS_dT, pu_get0, pu_getS, pu_set0, pu_setS, pu_wipe0, pu_wipeS, pu_asg_d, pu_asg_o, pu_asg_r, pu_fz_d, pu_fz_o, pu_fz_r, pu_toSl_d, pu_toSl_o, pu_isB, pu_qAdd, pu_qAddT, pu_qAddL, pu_qMul, pu_qMulT, pu_qMulL, pu_qSub, pu_qMod, pu_qDiv, pu_qPow, pu_qLt, pu_qLe, pu_qGt, pu_qGe, pu_qMax2, pu_qMin2, pu_qEq, pu_qNe, pu_qNeg, pu_qAbs, pu_qInt, pu_qLenT, pu_qLenL, pu_qLenS, pu_qLstT, pu_qLstL, pu_qTupT, pu_qTupL, pu_qSlT, pu_qSlL, pu_atL, pu_atLS, pu_gT, pu_gpC, pu_gpN, pu_ty_non, pu_ty_bl, pu_ty_int, pu_ty_str, pu_ty_tup, pu_ty_lst, pu_qEqS, pu_qNeS, pu_isi_non_int, pu_isi_non_bool, pu_isi_non_str, pu_isi_non_tuple, pu_isi_non_list, pu_isi_non_dict, pu_isi_bl_int, pu_isi_bl_bool, pu_isi_bl_str, pu_isi_bl_tuple, pu_isi_bl_list, pu_isi_bl_dict, pu_isi_int_int, pu_isi_int_bool, pu_isi_int_str, pu_isi_int_tuple, pu_isi_int_list, pu_isi_int_dict, pu_isi_str_int, pu_isi_str_bool, pu_isi_str_str, pu_isi_str_tuple, pu_isi_str_list, pu_isi_str_dict, pu_isi_tup_int, pu_isi_tup_bool, pu_isi_tup_str, pu_isi_tup_tuple, pu_isi_tup_list, pu_isi_tup_dict, pu_isi_lst_int, pu_isi_lst_bool, pu_isi_lst_str, pu_isi_lst_tuple, pu_isi_lst_list, pu_isi_lst_dict, pu_isi_dK_int, pu_isi_dK_bool, pu_isi_dK_str, pu_isi_dK_tuple, pu_isi_dK_list, pu_isi_dK_dict, pu_isi_dT_int, pu_isi_dT_bool, pu_isi_dT_str, pu_isi_dT_tuple, pu_isi_dT_list, pu_isi_dT_dict, pu_isn_non_false, pu_isn_non_true, pu_isn_bl_false, pu_isn_bl_true, pu_isn_int_false, pu_isn_int_true, pu_isn_str_false, pu_isn_str_true, pu_isn_tup_false, pu_isn_tup_true, pu_isn_lst_false, pu_isn_lst_true, pu_isn_dK_false, pu_isn_dK_true, pu_isn_dT_false, pu_isn_dT_true, pu_isn_exn_false, pu_isn_exn_true, pu_qReprB, pu_qReprN, pu_lamR_nil, pu_lamR_va, pu_lamR_ow, pu_lamR_no, pu_gT2, pu_gT3, pu_qSl3, pu_qSl3L, pu_qIsB])
local macro_rules | `(tactic| walk_at "pv") => `(tactic| simp -implicitDefEqProofs only [decide_true, decide_false, Bool.not_true, Bool.not_false, startD, Nat.reduceAdd, Nat.reduceSub, List.replicate_zero, List.replicate_succ, List.map_cons, List.map_nil, List.length_cons, List.length_nil, List.length_map, List.length_replicate, List.cons_append, List.nil_append, true_and, and_true, dSeq, dNext, dRet, dRetN, dBrk, dCnt, dIf, dSet, dPar2, dPar3, mCons, mNil, dOp1, dOp2, dC, dTup, dLst, aCons, aNil, bTest, bAnd, bOr, bNot, bYes, dAnd, dOr, dNot, dIfE, dCall, dFor, dLc, iR1, iR2, iSeq, iEnD, iZpD, iScr, gN, dAsgT, dDrop, dRaise, dAppend, dPop, dNewT, dNewK, dCallK, dSl, pIt, pNo, dChain, dCaught, aC, dSl3, dCallV, pu_use_d, pu_use_olst, pu_peek_olst, pu_use_odK, pu_peek_odK, pu_use_odT, pu_peek_odT, pu_peek_d, pu_use_r, pu_peek_r, pu_var, pu_useS_va, pu_peekS_va, pu_varS_va, pu_varS_ow, pu_useS_lst, pu_peekS_lst, pu_useS_dK, pu_peekS_dK, pu_useS_dT, pu_peekS_dT, pu_get0, pu_getS, pu_set0, pu_setS, pu_wipe0, pu_wipeS, pu_asg_d, pu_asg_o, pu_asg_r, pu_fz_d, pu_fz_o, pu_fz_r, pu_toSl_d, pu_toSl_o, pu_isB, pu_qAdd, pu_qAddT, pu_qAddL, pu_qMul, pu_qMulT, pu_qMulL, pu_qSub, pu_qMod, pu_qDiv, pu_qPow, pu_qLt, pu_qLe, pu_qGt, pu_qGe, pu_qMax2, pu_qMin2, pu_qEq, pu_qNe, pu_qNeg, pu_qAbs, pu_qInt, pu_qLenT, pu_qLenL, pu_qLenS, pu_qLstT, pu_qLstL, pu_qTupT, pu_qTupL, pu_qSlT, pu_qSlL, pu_atL, pu_atLS, pu_gT, pu_gpC, pu_gpN, pu_ty_non, pu_ty_bl, pu_ty_int, pu_ty_str, pu_ty_tup, pu_ty_lst, pu_qEqS, pu_qNeS, pu_isi_non_int, pu_isi_non_bool, pu_isi_non_str, pu_isi_non_tuple, pu_isi_non_list, pu_isi_non_dict, pu_isi_bl_int, pu_isi_bl_bool, pu_isi_bl_str, pu_isi_bl_tuple, pu_isi_bl_list, pu_isi_bl_dict, pu_isi_int_int, pu_isi_int_bool, pu_isi_int_str, pu_isi_int_tuple, pu_isi_int_list, pu_isi_int_dict, pu_isi_str_int, pu_isi_str_bool, pu_isi_str_str, pu_isi_str_tuple, pu_isi_str_list, pu_isi_str_dict, pu_isi_tup_int, pu_isi_tup_bool, pu_isi_tup_str, pu_isi_tup_tuple, pu_isi_tup_list, pu_isi_tup_dict, pu_isi_lst_int, pu_isi_lst_bool, pu_isi_lst_str, pu_isi_lst_tuple, pu_isi_lst_list, pu_isi_lst_dict, pu_isi_dK_int, pu_isi_dK_bool, pu_isi_dK_str, pu_isi_dK_tuple, pu_isi_dK_list, pu_isi_dK_dict, pu_isi_dT_int, pu_isi_dT_bool, pu_isi_dT_str, pu_isi_dT_tuple, pu_isi_dT_list, pu_isi_dT_dict, pu_isn_non_false, pu_isn_non_true, pu_isn_bl_false, pu_isn_bl_true, pu_isn_int_false, pu_isn_int_true, pu_isn_str_false, pu_isn_str_true, pu_isn_tup_false, pu_isn_tup_true, pu_isn_lst_false, pu_isn_lst_true, pu_isn_dK_false, pu_isn_dK_true, pu_isn_dT_false, pu_isn_dT_true, pu_isn_exn_false, pu_isn_exn_true, pu_qReprB, pu_qReprN, pu_lamR_nil, pu_lamR_va, pu_lamR_ow, pu_lamR_no, pu_gT2, pu_gT3, pu_qSl3, pu_qSl3L, pu_qIsB])
local macro_rules | `(tactic| walk_at "pw") => `(tactic| simp -underLambda only [decide_true, decide_false, Bool.not_true, Bool.not_false, startD, Nat.reduceAdd, Nat.reduceSub, List.replicate_zero, List.replicate_succ, List.map_cons, List.map_nil, List.length_cons, List.length_nil, List.length_map, List.length_replicate, List.cons_append, List.nil_append, true_and, and_true, dSeq, dNext, dRet, dRetN, dBrk, dCnt, dIf, dSet, dPar2, dPar3, mCons, mNil, dOp1, dOp2, dC, dTup, dLst, aCons, aNil, bTest, bAnd, bOr, bNot, bYes, dAnd, dOr, dNot, dIfE, dCall, dFor, dLc, iR1, iR2, iSeq, iEnD, iZpD, iScr, gN, dAsgT, dDrop, dRaise, dAppend, dPop, dNewT, dNewK, dCallK, dSl, pIt, pNo, dChain, dCaught, aC, dSl3, dCallV, pu_use_d, pu_use_olst, pu_peek_olst, pu_use_odK, pu_peek_odK, pu_use_odT, pu_peek_odT, pu_peek_d, pu_use_r, pu_peek_r, pu_var, pu_useS_va, pu_peekS_va, pu_varS_va, pu_varS_ow, pu_useS_lst, pu_peekS_lst, pu_useS_dK, pu_peekS_dK, pu_useS_dT, pu_peekS_dT, pu_get0, pu_getS, pu_set0, pu_setS, pu_wipe0, pu_wipeS, pu_asg_d, pu_asg_o, pu_asg_r, pu_fz_d, pu_fz_o, pu_fz_r, pu_toSl_d, pu_toSl_o, pu_isB, pu_qAdd, pu_qAddT, pu_qAddL, pu_qMul, pu_qMulT, pu_qMulL, pu_qSub, pu_qMod, pu_qDiv, pu_qPow, pu_qLt, pu_qLe, pu_qGt, pu_qGe, pu_qMax2, pu_qMin2, pu_qEq, pu_qNe, pu_qNeg, pu_qAbs, pu_qInt, pu_qLenT, pu_qLenL, pu_qLenS, pu_qLstT, pu_qLstL, pu_qTupT, pu_qTupL, pu_qSlT, pu_qSlL, pu_atL, pu_atLS, pu_gT, pu_gpC, pu_gpN, pu_ty_non, pu_ty_bl, pu_ty_int, pu_ty_str, pu_ty_tup, pu_ty_lst, pu_qEqS, pu_qNeS, pu_isi_non_int, pu_isi_non_bool, pu_isi_non_str, pu_isi_non_tuple, pu_isi_non_list, pu_isi_non_dict, pu_isi_bl_int, pu_isi_bl_bool, pu_isi_bl_str, pu_isi_bl_tuple, pu_isi_bl_list, pu_isi_bl_dict, pu_isi_int_int, pu_isi_int_bool, pu_isi_int_str, pu_isi_int_tuple, pu_isi_int_list, pu_isi_int_dict, pu_isi_str_int, pu_isi_str_bool, pu_isi_str_str, pu_isi_str_tuple, pu_isi_str_list, pu_isi_str_dict, pu_isi_tup_int, pu_isi_tup_bool, pu_isi_tup_str, pu_isi_tup_tuple, pu_isi_tup_list, pu_isi_tup_dict, pu_isi_lst_int, pu_isi_lst_bool, pu_isi_lst_str, pu_isi_lst_tuple, pu_isi_lst_list, pu_isi_lst_dict, pu_isi_dK_int, pu_isi_dK_bool, pu_isi_dK_str, pu_isi_dK_tuple, pu_isi_dK_list, pu_isi_dK_dict, pu_isi_dT_int, pu_isi_dT_bool, pu_isi_dT_str, pu_isi_dT_tuple, pu_isi_dT_list, pu_isi_dT_dict, pu_isn_non_false, pu_isn_non_true, pu_isn_bl_false, pu_isn_bl_true, pu_isn_int_false, pu_isn_int_true, pu_isn_str_false, pu_isn_str_true, pu_isn_tup_false, pu_isn_tup_true, pu_isn_lst_false, pu_isn_lst_true, pu_isn_dK_false, pu_isn_dK_true, pu_isn_dT_false, pu_isn_dT_true, pu_isn_exn_false, pu_isn_exn_true, pu_qReprB, pu_qReprN, pu_lamR_nil, pu_lamR_va, pu_lamR_ow, pu_lamR_no, pu_gT2, pu_gT3, pu_qSl3, pu_qSl3L, pu_qIsB])
def isRestNum (m : Int) : D → Bool
  | .int i => decide (0 ≤ i) && decide (i < m)
  | _ => false
def isRestRow (m : Int) : D → Bool
  | .tup l => (decide (1 ≤ (l.length : Int)) && decide ((l.length : Int) ≤ 24)) && l.all (isRestNum m)
  | _ => false
def RestRow (m : Int) (r : List Int) : Prop := 1 ≤ r.length ∧ r.length ≤ 24 ∧ Rest m r
theorem isRestRow_T {m : Int} {r : List Int} : isRestRow m (T r) = true ↔ RestRow m r := by
  simp only [isRestRow, Bool.and_eq_true, decide_eq_true_eq, List.length_map, List.all_eq_true, List.mem_map, RestRow, Rest]
  constructor
  · rintro ⟨⟨h1, h2⟩, h3⟩
    refine ⟨by omega, by omega, fun x hx => ?_⟩
    have := h3 (.int x) ⟨x, hx, rfl⟩
    simpa [isRestNum] using this
  · rintro ⟨h1, h2, h3⟩
    refine ⟨⟨by omega, by omega⟩, ?_⟩
    rintro d ⟨x, hx, rfl⟩
    simpa [isRestNum] using h3 x hx
theorem isRestNum_ex {m : Int} : ∀ {l : List D}, l.all (isRestNum m) = true → ∃ r : List Int, l = r.map D.int
  | [], _ => ⟨[], rfl⟩
  | d :: l, h => by
    rw [List.all_cons, Bool.and_eq_true] at h
    obtain ⟨r, rfl⟩ := isRestNum_ex h.2
    cases d with
    | int i => exact ⟨i :: r, rfl⟩
    | _ => cases h.1
theorem isRestRow_ex {m : Int} {d : D} (h : isRestRow m d = true) : ∃ r, d = T r ∧ RestRow m r := by
  cases d with
  | tup l =>
    have h2 := h
    simp only [isRestRow, Bool.and_eq_true] at h2
    obtain ⟨r, rfl⟩ := isRestNum_ex h2.2
    exact ⟨r, rfl, isRestRow_T.mp h⟩
  | _ => cases h
def c_is_rest_row (G : Str → Addr) : PC := fun ds Q _ => match ds with | [d, .int m] => Knd d ∧ Q (.bl (isRestRow m d)) | _ => False
def c_need_weights (G : Str → Addr) : PC := fun ds Q X => match ds with | [d, .int m] => Knd d ∧ (isRestRow m d = true → Q .non) ∧ (isRestRow m d = false → X ⟨G "BadWeights", []⟩) | _ => False
def c_need_led (G : Str → Addr) : PC := fun ds Q X => match ds with | [d, .tup w] => Knd d ∧ (isRow d = false → X ⟨G "BadRow", []⟩) ∧ (∀ r, d = T r → Row r → if r.length = w.length then Q .non else X ⟨G "BadRow", []⟩) | _ => False
def c_led (G : Str → Addr) : PC := fun ds Q X => match ds with
  | [.int m, .tup l, .tup l2] => ∃ w r : List Int, l = w.map D.int ∧ l2 = r.map D.int ∧ 2 ≤ m ∧ m ≤ 60 ∧ RestRow m w ∧ Row r ∧ r.length = w.length ∧ Q (T (ledL w (restL r m) m))
  | _ => False
def c_led_on (G : Str → Addr) : PC := fun ds Q X => match ds with
  | [.int m, .tup l, .tup l2, .int c] => ∃ (w r : List Int) (k : Nat), l = w.map D.int ∧ l2 = r.map D.int ∧ c = (k : Int) ∧ k ≤ 10 ^ 18 ∧ 2 ≤ m ∧ m ≤ 60 ∧ RestRow m w ∧ Row r ∧ r.length = w.length ∧ Q (T (ledL (powL w k m) (restL r m) m))
  | _ => False
def c_together (G : Str → Addr) : PC := fun ds Q X => match ds with
  | [.int m, .tup l, .tup l2] => ∃ a b : List Int, l = a.map D.int ∧ l2 = b.map D.int ∧ 2 ≤ m ∧ m ≤ 60 ∧ RestRow m a ∧ RestRow m b ∧ a.length = b.length ∧ Q (T (togL a b m))
  | _ => False
end RP
set_option Elab.async false
set_option linter.all false
set_option maxRecDepth 100000
namespace RP
open PySem PySem.Spec PyProof.Rows L2 PL
local macro_rules | `(tactic| walk_at "pu") => `(tactic| simp only [decide_true, decide_false, Bool.not_true, Bool.not_false, startD, Nat.reduceAdd, Nat.reduceSub, List.replicate_zero, List.replicate_succ, List.map_cons, List.map_nil, List.length_cons, List.length_nil, List.length_map, List.length_replicate, List.cons_append, List.nil_append, true_and, and_true, dSeq, dNext, dRet, dRetN, dBrk, dCnt, dIf, dSet, dPar2, dPar3, mCons, mNil, dOp1, dOp2, dC, dTup, dLst, aCons, aNil, bTest, bAnd, bOr, bNot, bYes, dAnd, dOr, dNot, dIfE, dCall, dFor, dLc, iR1, iR2, iSeq, iEnD, iZpD, iScr, gN, dAsgT, dDrop, dRaise, dAppend, dPop, dNewT, dNewK, dCallK, dSl, pIt, pNo, dChain, dCaught, aC, dSl3, dCallV, pu_use_d, pu_use_olst, pu_peek_olst, pu_use_odK, pu_peek_odK, pu_use_odT, pu_peek_odT, pu_peek_d, pu_use_r, pu_peek_r, pu_var, pu_useS_va, pu_peekS_va, pu_varS_va, pu_varS_ow, pu_useS_lst, pu_peekS_lst, pu_useS_dK, pu_peekS_dK, pu_useS_dT, pu_peekS_dT, pu_get0, pu_getS, pu_set0, pu_setS, pu_wipe0, pu_wipeS, pu_asg_d, pu_asg_o, pu_asg_r, pu_fz_d, pu_fz_o, pu_fz_r, pu_toSl_d, pu_toSl_o, pu_isB, pu_qAdd, pu_qAddT, pu_qAddL, pu_qMul, pu_qMulT, pu_qMulL, pu_qSub, pu_qMod, pu_qDiv, pu_qPow, pu_qLt, pu_qLe, pu_qGt, pu_qGe, pu_qMax2, pu_qMin2, pu_qEq, pu_qNe, pu_qNeg, pu_qAbs, pu_qInt, pu_qLenT, pu_qLenL, pu_qLenS, pu_qLstT, pu_qLstL, pu_qTupT, pu_qTupL, pu_qSlT, pu_qSlL, pu_atL, pu_atLS, pu_gT, pu_gpC, pu_gpN, pu_ty_non, pu_ty_bl, pu_ty_int, pu_ty_str, pu_ty_tup, pu_ty_lst, pu_qEqS, pu_qNeS, pu_isi_non_int, pu_isi_non_bool, pu_isi_non_str, pu_isi_non_tuple, pu_isi_non_list, pu_isi_non_dict, pu_isi_bl_int, pu_isi_bl_bool, pu_isi_bl_str, pu_isi_bl_tuple, pu_isi_bl_list, pu_isi_bl_dict, pu_isi_int_int, pu_isi_int_bool, pu_isi_int_str, pu_isi_int_tuple, pu_isi_int_list, pu_isi_int_dict, pu_isi_str_int, pu_isi_str_bool, pu_isi_str_str, pu_isi_str_tuple, pu_isi_str_list, pu_isi_str_dict, pu_isi_tup_int, pu_isi_tup_bool, pu_isi_tup_str, pu_isi_tup_tuple, pu_isi_tup_list, pu_isi_tup_dict, pu_isi_lst_int, pu_isi_lst_bool, pu_isi_lst_str, pu_isi_lst_tuple, pu_isi_lst_list, pu_isi_lst_dict, pu_isi_dK_int, pu_isi_dK_bool, pu_isi_dK_str, pu_isi_dK_tuple, pu_isi_dK_list, pu_isi_dK_dict, pu_isi_dT_int, pu_isi_dT_bool, pu_isi_dT_str, pu_isi_dT_tuple, pu_isi_dT_list, pu_isi_dT_dict, pu_isn_non_false, pu_isn_non_true, pu_isn_bl_false, pu_isn_bl_true, pu_isn_int_false, pu_isn_int_true, pu_isn_str_false, pu_isn_str_true, pu_isn_tup_false, pu_isn_tup_true, pu_isn_lst_false, pu_isn_lst_true, pu_isn_dK_false, pu_isn_dK_true, pu_isn_dT_false, pu_isn_dT_true, pu_isn_exn_false, pu_isn_exn_true, pu_qReprB, pu_qReprN, pu_lamR_nil, pu_lamR_va, pu_lamR_ow, pu_lamR_no, pu_gT2, pu_gT3, pu_qSl3, pu_qSl3L, pu_qIsB])
local macro_rules | `(tactic| walk_at "pv") => `(tactic| simp -implicitDefEqProofs only [decide_true, decide_false, Bool.not_true, Bool.not_false, startD, Nat.reduceAdd, Nat.reduceSub, List.replicate_zero, List.replicate_succ, List.map_cons, List.map_nil, List.length_cons, List.length_nil, List.length_map, List.length_replicate, List.cons_append, List.nil_append, true_and, and_true, dSeq, dNext, dRet, dRetN, dBrk, dCnt, dIf, dSet, dPar2, dPar3, mCons, mNil, dOp1, dOp2, dC, dTup, dLst, aCons, aNil, bTest, bAnd, bOr, bNot, bYes, dAnd, dOr, dNot, dIfE, dCall, dFor, dLc, iR1, iR2, iSeq, iEnD, iZpD, iScr, gN, dAsgT, dDrop, dRaise, dAppend, dPop, dNewT, dNewK, dCallK, dSl, pIt, pNo, dChain, dCaught, aC, dSl3, dCallV, pu_use_d, pu_use_olst, pu_peek_olst, pu_use_odK, pu_peek_odK, pu_use_odT, pu_peek_odT, pu_peek_d, pu_use_r, pu_peek_r, pu_var, pu_useS_va, pu_peekS_va, pu_varS_va, pu_varS_ow, pu_useS_lst, pu_peekS_lst, pu_useS_dK, pu_peekS_dK, pu_useS_dT, pu_peekS_dT, pu_get0, pu_getS, pu_set0, pu_setS, pu_wipe0, pu_wipeS, pu_asg_d, pu_asg_o, pu_asg_r, pu_fz_d, pu_fz_o, pu_fz_r, pu_toSl_d, pu_toSl_o, pu_isB, pu_qAdd, pu_qAddT, pu_qAddL, pu_qMul, pu_qMulT, pu_qMulL, pu_qSub, pu_qMod, pu_qDiv, pu_qPow, pu_qLt, pu_qLe, pu_qGt, pu_qGe, pu_qMax2, pu_qMin2, pu_qEq, pu_qNe, pu_qNeg, pu_qAbs, pu_qInt, pu_qLenT, pu_qLenL, pu_qLenS, pu_qLstT, pu_qLstL, pu_qTupT, pu_qTupL, pu_qSlT, pu_qSlL, pu_atL, pu_atLS, pu_gT, pu_gpC, pu_gpN, pu_ty_non, pu_ty_bl, pu_ty_int, pu_ty_str, pu_ty_tup, pu_ty_lst, pu_qEqS, pu_qNeS, pu_isi_non_int, pu_isi_non_bool, pu_isi_non_str, pu_isi_non_tuple, pu_isi_non_list, pu_isi_non_dict, pu_isi_bl_int, pu_isi_bl_bool, pu_isi_bl_str, pu_isi_bl_tuple, pu_isi_bl_list, pu_isi_bl_dict, pu_isi_int_int, pu_isi_int_bool, pu_isi_int_str, pu_isi_int_tuple, pu_isi_int_list, pu_isi_int_dict, pu_isi_str_int, pu_isi_str_bool, pu_isi_str_str, pu_isi_str_tuple, pu_isi_str_list, pu_isi_str_dict, pu_isi_tup_int, pu_isi_tup_bool, pu_isi_tup_str, pu_isi_tup_tuple, pu_isi_tup_list, pu_isi_tup_dict, pu_isi_lst_int, pu_isi_lst_bool, pu_isi_lst_str, pu_isi_lst_tuple, pu_isi_lst_list, pu_isi_lst_dict, pu_isi_dK_int, pu_isi_dK_bool, pu_isi_dK_str, pu_isi_dK_tuple, pu_isi_dK_list, pu_isi_dK_dict, pu_isi_dT_int, pu_isi_dT_bool, pu_isi_dT_str, pu_isi_dT_tuple, pu_isi_dT_list, pu_isi_dT_dict, pu_isn_non_false, pu_isn_non_true, pu_isn_bl_false, pu_isn_bl_true, pu_isn_int_false, pu_isn_int_true, pu_isn_str_false, pu_isn_str_true, pu_isn_tup_false, pu_isn_tup_true, pu_isn_lst_false, pu_isn_lst_true, pu_isn_dK_false, pu_isn_dK_true, pu_isn_dT_false, pu_isn_dT_true, pu_isn_exn_false, pu_isn_exn_true, pu_qReprB, pu_qReprN, pu_lamR_nil, pu_lamR_va, pu_lamR_ow, pu_lamR_no, pu_gT2, pu_gT3, pu_qSl3, pu_qSl3L, pu_qIsB])
local macro_rules | `(tactic| walk_at "pw") => `(tactic| simp -underLambda only [decide_true, decide_false, Bool.not_true, Bool.not_false, startD, Nat.reduceAdd, Nat.reduceSub, List.replicate_zero, List.replicate_succ, List.map_cons, List.map_nil, List.length_cons, List.length_nil, List.length_map, List.length_replicate, List.cons_append, List.nil_append, true_and, and_true, dSeq, dNext, dRet, dRetN, dBrk, dCnt, dIf, dSet, dPar2, dPar3, mCons, mNil, dOp1, dOp2, dC, dTup, dLst, aCons, aNil, bTest, bAnd, bOr, bNot, bYes, dAnd, dOr, dNot, dIfE, dCall, dFor, dLc, iR1, iR2, iSeq, iEnD, iZpD, iScr, gN, dAsgT, dDrop, dRaise, dAppend, dPop, dNewT, dNewK, dCallK, dSl, pIt, pNo, dChain, dCaught, aC, dSl3, dCallV, pu_use_d, pu_use_olst, pu_peek_olst, pu_use_odK, pu_peek_odK, pu_use_odT, pu_peek_odT, pu_peek_d, pu_use_r, pu_peek_r, pu_var, pu_useS_va, pu_peekS_va, pu_varS_va, pu_varS_ow, pu_useS_lst, pu_peekS_lst, pu_useS_dK, pu_peekS_dK, pu_useS_dT, pu_peekS_dT, pu_get0, pu_getS, pu_set0, pu_setS, pu_wipe0, pu_wipeS, pu_asg_d, pu_asg_o, pu_asg_r, pu_fz_d, pu_fz_o, pu_fz_r, pu_toSl_d, pu_toSl_o, pu_isB, pu_qAdd, pu_qAddT, pu_qAddL, pu_qMul, pu_qMulT, pu_qMulL, pu_qSub, pu_qMod, pu_qDiv, pu_qPow, pu_qLt, pu_qLe, pu_qGt, pu_qGe, pu_qMax2, pu_qMin2, pu_qEq, pu_qNe, pu_qNeg, pu_qAbs, pu_qInt, pu_qLenT, pu_qLenL, pu_qLenS, pu_qLstT, pu_qLstL, pu_qTupT, pu_qTupL, pu_qSlT, pu_qSlL, pu_atL, pu_atLS, pu_gT, pu_gpC, pu_gpN, pu_ty_non, pu_ty_bl, pu_ty_int, pu_ty_str, pu_ty_tup, pu_ty_lst, pu_qEqS, pu_qNeS, pu_isi_non_int, pu_isi_non_bool, pu_isi_non_str, pu_isi_non_tuple, pu_isi_non_list, pu_isi_non_dict, pu_isi_bl_int, pu_isi_bl_bool, pu_isi_bl_str, pu_isi_bl_tuple, pu_isi_bl_list, pu_isi_bl_dict, pu_isi_int_int, pu_isi_int_bool, pu_isi_int_str, pu_isi_int_tuple, pu_isi_int_list, pu_isi_int_dict, pu_isi_str_int, pu_isi_str_bool, pu_isi_str_str, pu_isi_str_tuple, pu_isi_str_list, pu_isi_str_dict, pu_isi_tup_int, pu_isi_tup_bool, pu_isi_tup_str, pu_isi_tup_tuple, pu_isi_tup_list, pu_isi_tup_dict, pu_isi_lst_int, pu_isi_lst_bool, pu_isi_lst_str, pu_isi_lst_tuple, pu_isi_lst_list, pu_isi_lst_dict, pu_isi_dK_int, pu_isi_dK_bool, pu_isi_dK_str, pu_isi_dK_tuple, pu_isi_dK_list, pu_isi_dK_dict, pu_isi_dT_int, pu_isi_dT_bool, pu_isi_dT_str, pu_isi_dT_tuple, pu_isi_dT_list, pu_isi_dT_dict, pu_isn_non_false, pu_isn_non_true, pu_isn_bl_false, pu_isn_bl_true, pu_isn_int_false, pu_isn_int_true, pu_isn_str_false, pu_isn_str_true, pu_isn_tup_false, pu_isn_tup_true, pu_isn_lst_false, pu_isn_lst_true, pu_isn_dK_false, pu_isn_dK_true, pu_isn_dT_false, pu_isn_dT_true, pu_isn_exn_false, pu_isn_exn_true, pu_qReprB, pu_qReprN, pu_lamR_nil, pu_lamR_va, pu_lamR_ow, pu_lamR_no, pu_gT2, pu_gT3, pu_qSl3, pu_qSl3L, pu_qIsB])
def Sg : Nat → List Int → (Nat → Int) → Int
  | _, [], _ => 0
  | k, x :: xs, g => x * g k + Sg (k + 1) xs g
def rowF (r : List Int) (i : Nat) : Int := r.getD (i % r.length) 0
def mk (n : Nat) (f : Nat → Int) : List Int := (List.range n).map f
def Aw (w : List Int) (g : Nat → Int) (p : Nat) : Int := Sg 0 w fun i => g (p + i)
def Cg (m a b : Int) : Prop := a % m = b % m
def Per (n : Nat) (g : Nat → Int) : Prop := ∀ i, g (i % n) = g i
theorem Cg.refl {m a : Int} : Cg m a a := rfl
theorem Cg.symm {m a b : Int} (h : Cg m a b) : Cg m b a := Eq.symm h
theorem Cg.trans {m a b c : Int} (h : Cg m a b) (k : Cg m b c) : Cg m a c := Eq.trans h k
theorem Cg.add {m a b c d : Int} (h : Cg m a b) (k : Cg m c d) : Cg m (a + c) (b + d) := by
  unfold Cg at *
  rw [Int.add_emod, h, k, ← Int.add_emod]
theorem Cg.mul {m a b c d : Int} (h : Cg m a b) (k : Cg m c d) : Cg m (a * c) (b * d) := by
  unfold Cg at *
  rw [Int.mul_emod, h, k, ← Int.mul_emod]
theorem Cg.mod {m a : Int} : Cg m (a % m) a := Int.emod_emod_of_dvd a (Int.dvd_refl m)
theorem Sg_cong {m : Int} {g h : Nat → Int} (H : ∀ i, Cg m (g i) (h i)) : ∀ (w : List Int) (k : Nat), Cg m (Sg k w g) (Sg k w h)
  | [], _ => rfl
  | x :: w, k => (Cg.mul (Cg.refl (a := x)) (H k)).add (Sg_cong H w (k + 1))
theorem Sg_ext {g h : Nat → Int} (H : ∀ i, g i = h i) (w : List Int) (k : Nat) : Sg k w g = Sg k w h := by
  rw [funext H]
theorem Sg_shift (g : Nat → Int) (j : Nat) : ∀ (w : List Int) (k : Nat), Sg (k + j) w g = Sg k w fun i => g (i + j)
  | [], _ => rfl
  | x :: w, k => by
    show x * g (k + j) + Sg (k + j + 1) w g = x * g (k + j) + Sg (k + 1) w _
    rw [show k + j + 1 = (k + 1) + j by omega, Sg_shift g j w (k + 1)]
theorem Sg_append (g : Nat → Int) (b : List Int) : ∀ (a : List Int) (k : Nat), Sg k (a ++ b) g = Sg k a g + Sg (k + a.length) b g
  | [], k => by
    show Sg k b g = 0 + Sg (k + 0) b g
    rw [Nat.add_zero, Int.zero_add]
  | x :: a, k => by
    show x * g k + Sg (k + 1) (a ++ b) g = x * g k + Sg (k + 1) a g + Sg (k + (a.length + 1)) b g
    rw [Sg_append g b a (k + 1), show k + 1 + a.length = k + (a.length + 1) by omega, Int.add_assoc]
theorem Sg_zeros (g : Nat → Int) : ∀ (n k : Nat), Sg k (List.replicate n 0) g = 0
  | 0, _ => rfl
  | n + 1, k => by
    rw [List.replicate_succ]
    show 0 * g k + Sg (k + 1) (List.replicate n 0) g = 0
    rw [Sg_zeros g n, Int.zero_mul]; rfl
theorem Sg_add (g h : Nat → Int) : ∀ (w : List Int) (k : Nat), Sg k w (fun i => g i + h i) = Sg k w g + Sg k w h
  | [], _ => rfl
  | x :: w, k => by
    show x * (g k + h k) + Sg (k + 1) w _ = (x * g k + Sg (k + 1) w g) + (x * h k + Sg (k + 1) w h)
    rw [Sg_add g h w (k + 1), Int.mul_add]; omega
theorem Sg_smul (c : Int) (g : Nat → Int) : ∀ (w : List Int) (k : Nat), Sg k w (fun i => c * g i) = c * Sg k w g
  | [], _ => (Int.mul_zero c).symm
  | x :: w, k => by
    show x * (c * g k) + Sg (k + 1) w _ = c * (x * g k + Sg (k + 1) w g)
    rw [Sg_smul c g w (k + 1), Int.mul_add, ← Int.mul_assoc, Int.mul_comm x c, Int.mul_assoc]
theorem Sg_mods {m : Int} (g : Nat → Int) : ∀ (w : List Int) (k : Nat), Cg m (Sg k (w.map (· % m)) g) (Sg k w g)
  | [], _ => rfl
  | x :: w, k => (Cg.mul (Cg.mod (a := x)) (Cg.refl (a := g k))).add (Sg_mods g w (k + 1))
theorem Sg_set (g : Nat → Int) (v : Int) : ∀ (f : List Int) (j k : Nat), j < f.length → Sg k (f.set j v) g = Sg k f g + (v - f.getD j 0) * g (k + j)
  | [], j, _, h => by cases h
  | x :: f, 0, k, _ => by
    show v * g k + Sg (k + 1) f g = x * g k + Sg (k + 1) f g + (v - x) * g k
    rw [Int.sub_mul]; omega
  | x :: f, j + 1, k, h => by
    show x * g k + Sg (k + 1) (f.set j v) g = x * g k + Sg (k + 1) f g + (v - f.getD j 0) * g (k + (j + 1))
    rw [Sg_set g v f j (k + 1) (by simpa using h), show k + 1 + j = k + (j + 1) by omega, Int.add_assoc]
theorem Sg_togIn (g : Nat → Int) {n at_ : Nat} {w : Int} (hn : 1 ≤ n) : ∀ (xs : List Int) (k : Nat) (f : List Int), f.length = n → Sg 0 (togIn n at_ w k xs f) g = Sg 0 f g + w * Sg k xs fun i => g ((at_ + i) % n)
  | [], k, f, _ => by
    show Sg 0 f g = Sg 0 f g + w * 0
    rw [Int.mul_zero, Int.add_zero]
  | x :: xs, k, f, hf => by
    have hj := Nat.mod_lt (at_ + k) hn
    show Sg 0 (togIn n at_ w (k + 1) xs (f.set ((at_ + k) % n) (f.getD ((at_ + k) % n) 0 + w * x))) g = Sg 0 f g + w * (x * g ((at_ + k) % n) + Sg (k + 1) xs fun i => g ((at_ + i) % n))
    rw [Sg_togIn g hn xs (k + 1) _ (by rw [List.length_set]; exact hf), Sg_set g _ f _ 0 (by omega), Nat.zero_add, Int.mul_add, show f.getD ((at_ + k) % n) 0 + w * x - f.getD ((at_ + k) % n) 0 = w * x by omega, Int.mul_assoc]
    omega
theorem Sg_togOut (g : Nat → Int) {n : Nat} {b : List Int} (hn : 1 ≤ n) : ∀ (ws : List Int) (k : Nat) (f : List Int), f.length = n → Sg 0 (togOut n b k ws f) g = Sg 0 f g + Sg k ws fun s => Sg 0 b fun i => g ((s + i) % n)
  | [], k, f, _ => (Int.add_zero _).symm
  | w :: ws, k, f, hf => by
    show Sg 0 (togOut n b (k + 1) ws (if w ≠ 0 then togIn n k w 0 b f else f)) g = Sg 0 f g + (w * (Sg 0 b fun i => g ((k + i) % n)) + Sg (k + 1) ws _)
    by_cases h : w = 0
    · rw [if_neg (by simpa using h), Sg_togOut g hn ws (k + 1) f hf, h, Int.zero_mul, Int.zero_add]
    · rw [if_pos h, Sg_togOut g hn ws (k + 1) _ (by rw [togIn_len]; exact hf), Sg_togIn g hn b 0 f hf, Int.add_assoc]
theorem Aw_tog {m : Int} {a b : List Int} {g : Nat → Int} (ha : 1 ≤ a.length) (hg : Per a.length g) (p : Nat) : Cg m (Aw (togL a b m) g p) (Aw a (Aw b g) p) := by
  unfold Aw togL
  refine (Sg_mods _ _ 0).trans ?_
  rw [Sg_togOut _ ha _ _ _ (List.length_replicate ..), Sg_zeros, Int.zero_add]
  have e : ∀ s, (Sg 0 b fun i => g (p + (s + i) % a.length)) = Sg 0 b fun i => g (p + s + i) := fun s => Sg_ext (fun i => by
    rw [← hg (p + (s + i) % a.length), ← hg (p + s + i), Nat.add_mod, Nat.mod_mod, ← Nat.add_mod, Nat.add_assoc]) b 0
  rw [Sg_ext e a 0]
  exact Cg.refl
theorem Aw_cong {m : Int} {g h : Nat → Int} (H : ∀ i, Cg m (g i) (h i)) (w : List Int) (p : Nat) : Cg m (Aw w g p) (Aw w h p) := Sg_cong (fun i => H (p + i)) w 0
theorem Aw_per {n : Nat} {g : Nat → Int} (hg : Per n g) (w : List Int) : Per n (Aw w g) := fun p => Sg_ext (fun i => by rw [← hg (p % n + i), ← hg (p + i), Nat.add_mod, Nat.mod_mod, ← Nat.add_mod]) w 0
theorem Aw_one {n : Nat} (g : Nat → Int) (p : Nat) : Aw (oneL n) g p = g p := by
  show 1 * g (p + 0) + Sg 1 (List.replicate (n - 1) 0) _ = g p
  rw [Sg_zeros, Int.one_mul, Int.add_zero]; rfl
def itr (F : (Nat → Int) → Nat → Int) : Nat → (Nat → Int) → Nat → Int
  | 0, g => g
  | c + 1, g => F (itr F c g)
theorem itr_add (F : (Nat → Int) → Nat → Int) (g : Nat → Int) (b : Nat) : ∀ a, itr F (a + b) g = itr F a (itr F b g)
  | 0 => by rw [Nat.zero_add]; rfl
  | a + 1 => by
    rw [show a + 1 + b = (a + b) + 1 by omega]
    show F (itr F (a + b) g) = F (itr F a (itr F b g))
    rw [itr_add F g b a]
theorem itr_two (F : (Nat → Int) → Nat → Int) (g : Nat → Int) : ∀ k, itr (fun g => F (F g)) k g = itr F (2 * k) g
  | 0 => rfl
  | k + 1 => by
    rw [show 2 * (k + 1) = 2 * k + 1 + 1 by omega]
    show F (F (itr (fun g => F (F g)) k g)) = F (F (itr F (2 * k) g))
    rw [itr_two F g k]
theorem itr_per {n : Nat} {F : (Nat → Int) → Nat → Int} (hF : ∀ g, Per n g → Per n (F g)) {g : Nat → Int} (hg : Per n g) : ∀ c, Per n (itr F c g)
  | 0 => hg
  | c + 1 => hF _ (itr_per hF hg c)
theorem itr_cong {m : Int} {n : Nat} {F F' : (Nat → Int) → Nat → Int} (hF : ∀ g, Per n g → Per n (F g)) (hc : ∀ g h, (∀ i, Cg m (g i) (h i)) → ∀ p, Cg m (F' g p) (F' h p)) (hFF : ∀ g, Per n g → ∀ p, Cg m (F g p) (F' g p)) {g : Nat → Int} (hg : Per n g) :
    ∀ c p, Cg m (itr F c g p) (itr F' c g p)
  | 0, _ => Cg.refl
  | c + 1, p => (hFF _ (itr_per hF hg c) p).trans (hc _ _ (itr_cong hF hc hFF hg c) p)
theorem itr_mod {m : Int} {F : (Nat → Int) → Nat → Int} (hc : ∀ g h, (∀ i, Cg m (g i) (h i)) → ∀ p, Cg m (F g p) (F h p)) {g h : Nat → Int} (H : ∀ i, Cg m (g i) (h i)) : ∀ c p, Cg m (itr F c g p) (itr F c h p)
  | 0, p => H p
  | c + 1, p => hc _ _ (itr_mod hc H c) p
theorem Aw_powG {m : Int} {n : Nat} (hn : 1 ≤ n) : ∀ (c : Nat) (found here : List Int) (g : Nat → Int), found.length = n → here.length = n → Per n g → ∀ p, Cg m (Aw (powG m found here c) g p) (Aw found (itr (Aw here) c g) p) := fun c => by
  induction c using Nat.strongRecOn with
  | _ c ih =>
    intro found here g hf hh hg p
    by_cases h0 : c = 0
    · subst h0; rw [powG_zero]; exact Cg.refl
    · rw [powG_pos _ _ _ _ h0]
      have hhl : (togL here here m).length = n := by rw [togL_len]; exact hh
      have key : ∀ i, Cg m (itr (Aw (togL here here m)) (c / 2) g i) (itr (Aw here) (2 * (c / 2)) g i) := fun i => by
        rw [← itr_two]
        exact itr_cong (n := n) (fun g hg => Aw_per hg _) (fun g h H p => Aw_cong (fun i => Aw_cong H here i) here p) (fun g hg p => Aw_tog (by omega) (by rw [hh]; exact hg) p) hg _ i
      by_cases h3 : c % 2 = 1
      · rw [if_pos h3]
        refine (ih (c / 2) (by omega) _ _ g (by rw [togL_len]; exact hf) hhl hg p).trans ?_
        refine (Aw_tog (by omega) (by rw [hf]; exact itr_per (fun g hg => Aw_per hg _) hg _) p).trans ?_
        have e : itr (Aw here) c g = Aw here (itr (Aw here) (2 * (c / 2)) g) := by
          rw [show c = 2 * (c / 2) + 1 by omega]
          show Aw here (itr (Aw here) (2 * (c / 2)) g) = _
          rw [show (2 * (c / 2) + 1) / 2 = c / 2 by omega]
        rw [e]
        exact Aw_cong (fun i => Aw_cong key here i) found p
      · rw [if_neg h3]
        refine (ih (c / 2) (by omega) _ _ g hf hhl hg p).trans ?_
        rw [show itr (Aw here) c g = itr (Aw here) (2 * (c / 2)) g by rw [show 2 * (c / 2) = c by omega]]
        exact Aw_cong key found p
theorem Aw_pow {m : Int} {w : List Int} {c : Nat} {g : Nat → Int} (hw : 1 ≤ w.length) (hg : Per w.length g) (p : Nat) : Cg m (Aw (powL w c m) g p) (itr (Aw w) c g p) := by
  have := Aw_powG (m := m) hw c (oneL w.length) w g (oneL_len hw) rfl hg p
  rw [Aw_one] at this
  exact this
theorem rowF_per (r : List Int) : Per r.length (rowF r) := fun i => by unfold rowF; rw [Nat.mod_mod]
theorem mk_len (n : Nat) (f : Nat → Int) : (mk n f).length = n := by unfold mk; rw [List.length_map, List.length_range]
theorem mk_getD {n : Nat} {f : Nat → Int} {i : Nat} (h : i < n) : (mk n f).getD i 0 = f i := by
  unfold mk
  rw [List.getD_eq_getElem?_getD, List.getElem?_map, List.getElem?_range h]
  rfl
theorem rowF_mk {n : Nat} {f : Nat → Int} (hn : 1 ≤ n) (hf : Per n f) (i : Nat) : rowF (mk n f) i = f i := by
  unfold rowF
  rw [mk_len, mk_getD (Nat.mod_lt _ hn), hf]
theorem row_mk (r : List Int) : r = mk r.length (rowF r) := by
  apply List.ext_getElem
  · rw [mk_len]
  · intro i h1 h2
    have e : (mk r.length (rowF r))[i] = (mk r.length (rowF r)).getD i 0 := by
      rw [List.getD_eq_getElem?_getD, List.getElem?_eq_getElem h2]; rfl
    rw [e, mk_getD h1]
    unfold rowF
    rw [Nat.mod_eq_of_lt h1, List.getD_eq_getElem?_getD, List.getElem?_eq_getElem h1]; rfl
theorem mk_congr {n : Nat} {f g : Nat → Int} (h : ∀ i, i < n → f i = g i) : mk n f = mk n g := List.map_congr_left fun i hi => h i (List.mem_range.mp hi)
theorem sumE_Sg (r : List Int) (p : Nat) : ∀ (w : List Int) (k : Nat), sumE r p k w = Sg k w fun i => rowF r (p + i)
  | [], _ => rfl
  | x :: w, k => by
    show x * r.getD ((p + k) % r.length) 0 + sumE r p (k + 1) w = x * rowF r (p + k) + Sg (k + 1) w _
    rw [sumE_Sg r p w (k + 1)]; rfl
theorem ledL_mk (w r : List Int) (m : Int) : ledL w r m = mk r.length fun p => Aw w (rowF r) p % m := by
  unfold ledL mk
  exact List.map_congr_left fun p _ => by rw [sumE_Sg]; rfl
theorem restL_getD (r : List Int) (m : Int) (i : Nat) : (restL r m).getD i 0 = (r.getD i 0) % m := by
  unfold restL
  rw [List.getD_eq_getElem?_getD, List.getD_eq_getElem?_getD, List.getElem?_map]
  cases r[i]? with
  | none => show 0 = 0 % m; rw [Int.zero_emod]
  | some x => rfl
theorem rowF_rest (r : List Int) (m : Int) (i : Nat) : rowF (restL r m) i = rowF r i % m := by
  unfold rowF
  rw [restL_len, restL_getD]
theorem rowF_led {w r : List Int} {m : Int} (hr : 1 ≤ r.length) (i : Nat) : rowF (ledL w r m) i = Aw w (rowF r) i % m := by
  rw [ledL_mk]
  exact rowF_mk hr (fun i => by rw [Aw_per (rowF_per r) w]) i
theorem led_eq {m : Int} {w v r s : List Int} (hl : r.length = s.length) (h : ∀ p, Cg m (Aw w (rowF r) p) (Aw v (rowF s) p)) : ledL w r m = ledL v s m := by
  rw [ledL_mk, ledL_mk, hl]
  exact mk_congr fun i _ => h i
end RP
set_option Elab.async false
set_option linter.all false
set_option maxRecDepth 100000
namespace RP
open PySem PySem.Spec PyProof.Rows L2 PL
local macro_rules | `(tactic| walk_at "pu") => `(tactic| simp only [decide_true, decide_false, Bool.not_true, Bool.not_false, startD, Nat.reduceAdd, Nat.reduceSub, List.replicate_zero, List.replicate_succ, List.map_cons, List.map_nil, List.length_cons, List.length_nil, List.length_map, List.length_replicate, List.cons_append, List.nil_append, true_and, and_true, dSeq, dNext, dRet, dRetN, dBrk, dCnt, dIf, dSet, dPar2, dPar3, mCons, mNil, dOp1, dOp2, dC, dTup, dLst, aCons, aNil, bTest, bAnd, bOr, bNot, bYes, dAnd, dOr, dNot, dIfE, dCall, dFor, dLc, iR1, iR2, iSeq, iEnD, iZpD, iScr, gN, dAsgT, dDrop, dRaise, dAppend, dPop, dNewT, dNewK, dCallK, dSl, pIt, pNo, dChain, dCaught, aC, dSl3, dCallV, pu_use_d, pu_use_olst, pu_peek_olst, pu_use_odK, pu_peek_odK, pu_use_odT, pu_peek_odT, pu_peek_d, pu_use_r, pu_peek_r, pu_var, pu_useS_va, pu_peekS_va, pu_varS_va, pu_varS_ow, pu_useS_lst, pu_peekS_lst, pu_useS_dK, pu_peekS_dK, pu_useS_dT, pu_peekS_dT, pu_get0, pu_getS, pu_set0, pu_setS, pu_wipe0, pu_wipeS, pu_asg_d, pu_asg_o, pu_asg_r, pu_fz_d, pu_fz_o, pu_fz_r, pu_toSl_d, pu_toSl_o, pu_isB, pu_qAdd, pu_qAddT, pu_qAddL, pu_qMul, pu_qMulT, pu_qMulL, pu_qSub, pu_qMod, pu_qDiv, pu_qPow, pu_qLt, pu_qLe, pu_qGt, pu_qGe, pu_qMax2, pu_qMin2, pu_qEq, pu_qNe, pu_qNeg, pu_qAbs, pu_qInt, pu_qLenT, pu_qLenL, pu_qLenS, pu_qLstT, pu_qLstL, pu_qTupT, pu_qTupL, pu_qSlT, pu_qSlL, pu_atL, pu_atLS, pu_gT, pu_gpC, pu_gpN, pu_ty_non, pu_ty_bl, pu_ty_int, pu_ty_str, pu_ty_tup, pu_ty_lst, pu_qEqS, pu_qNeS, pu_isi_non_int, pu_isi_non_bool, pu_isi_non_str, pu_isi_non_tuple, pu_isi_non_list, pu_isi_non_dict, pu_isi_bl_int, pu_isi_bl_bool, pu_isi_bl_str, pu_isi_bl_tuple, pu_isi_bl_list, pu_isi_bl_dict, pu_isi_int_int, pu_isi_int_bool, pu_isi_int_str, pu_isi_int_tuple, pu_isi_int_list, pu_isi_int_dict, pu_isi_str_int, pu_isi_str_bool, pu_isi_str_str, pu_isi_str_tuple, pu_isi_str_list, pu_isi_str_dict, pu_isi_tup_int, pu_isi_tup_bool, pu_isi_tup_str, pu_isi_tup_tuple, pu_isi_tup_list, pu_isi_tup_dict, pu_isi_lst_int, pu_isi_lst_bool, pu_isi_lst_str, pu_isi_lst_tuple, pu_isi_lst_list, pu_isi_lst_dict, pu_isi_dK_int, pu_isi_dK_bool, pu_isi_dK_str, pu_isi_dK_tuple, pu_isi_dK_list, pu_isi_dK_dict, pu_isi_dT_int, pu_isi_dT_bool, pu_isi_dT_str, pu_isi_dT_tuple, pu_isi_dT_list, pu_isi_dT_dict, pu_isn_non_false, pu_isn_non_true, pu_isn_bl_false, pu_isn_bl_true, pu_isn_int_false, pu_isn_int_true, pu_isn_str_false, pu_isn_str_true, pu_isn_tup_false, pu_isn_tup_true, pu_isn_lst_false, pu_isn_lst_true, pu_isn_dK_false, pu_isn_dK_true, pu_isn_dT_false, pu_isn_dT_true, pu_isn_exn_false, pu_isn_exn_true, pu_qReprB, pu_qReprN, pu_lamR_nil, pu_lamR_va, pu_lamR_ow, pu_lamR_no, pu_gT2, pu_gT3, pu_qSl3, pu_qSl3L, pu_qIsB])
local macro_rules | `(tactic| walk_at "pv") => `(tactic| simp -implicitDefEqProofs only [decide_true, decide_false, Bool.not_true, Bool.not_false, startD, Nat.reduceAdd, Nat.reduceSub, List.replicate_zero, List.replicate_succ, List.map_cons, List.map_nil, List.length_cons, List.length_nil, List.length_map, List.length_replicate, List.cons_append, List.nil_append, true_and, and_true, dSeq, dNext, dRet, dRetN, dBrk, dCnt, dIf, dSet, dPar2, dPar3, mCons, mNil, dOp1, dOp2, dC, dTup, dLst, aCons, aNil, bTest, bAnd, bOr, bNot, bYes, dAnd, dOr, dNot, dIfE, dCall, dFor, dLc, iR1, iR2, iSeq, iEnD, iZpD, iScr, gN, dAsgT, dDrop, dRaise, dAppend, dPop, dNewT, dNewK, dCallK, dSl, pIt, pNo, dChain, dCaught, aC, dSl3, dCallV, pu_use_d, pu_use_olst, pu_peek_olst, pu_use_odK, pu_peek_odK, pu_use_odT, pu_peek_odT, pu_peek_d, pu_use_r, pu_peek_r, pu_var, pu_useS_va, pu_peekS_va, pu_varS_va, pu_varS_ow, pu_useS_lst, pu_peekS_lst, pu_useS_dK, pu_peekS_dK, pu_useS_dT, pu_peekS_dT, pu_get0, pu_getS, pu_set0, pu_setS, pu_wipe0, pu_wipeS, pu_asg_d, pu_asg_o, pu_asg_r, pu_fz_d, pu_fz_o, pu_fz_r, pu_toSl_d, pu_toSl_o, pu_isB, pu_qAdd, pu_qAddT, pu_qAddL, pu_qMul, pu_qMulT, pu_qMulL, pu_qSub, pu_qMod, pu_qDiv, pu_qPow, pu_qLt, pu_qLe, pu_qGt, pu_qGe, pu_qMax2, pu_qMin2, pu_qEq, pu_qNe, pu_qNeg, pu_qAbs, pu_qInt, pu_qLenT, pu_qLenL, pu_qLenS, pu_qLstT, pu_qLstL, pu_qTupT, pu_qTupL, pu_qSlT, pu_qSlL, pu_atL, pu_atLS, pu_gT, pu_gpC, pu_gpN, pu_ty_non, pu_ty_bl, pu_ty_int, pu_ty_str, pu_ty_tup, pu_ty_lst, pu_qEqS, pu_qNeS, pu_isi_non_int, pu_isi_non_bool, pu_isi_non_str, pu_isi_non_tuple, pu_isi_non_list, pu_isi_non_dict, pu_isi_bl_int, pu_isi_bl_bool, pu_isi_bl_str, pu_isi_bl_tuple, pu_isi_bl_list, pu_isi_bl_dict, pu_isi_int_int, pu_isi_int_bool, pu_isi_int_str, pu_isi_int_tuple, pu_isi_int_list, pu_isi_int_dict, pu_isi_str_int, pu_isi_str_bool, pu_isi_str_str, pu_isi_str_tuple, pu_isi_str_list, pu_isi_str_dict, pu_isi_tup_int, pu_isi_tup_bool, pu_isi_tup_str, pu_isi_tup_tuple, pu_isi_tup_list, pu_isi_tup_dict, pu_isi_lst_int, pu_isi_lst_bool, pu_isi_lst_str, pu_isi_lst_tuple, pu_isi_lst_list, pu_isi_lst_dict, pu_isi_dK_int, pu_isi_dK_bool, pu_isi_dK_str, pu_isi_dK_tuple, pu_isi_dK_list, pu_isi_dK_dict, pu_isi_dT_int, pu_isi_dT_bool, pu_isi_dT_str, pu_isi_dT_tuple, pu_isi_dT_list, pu_isi_dT_dict, pu_isn_non_false, pu_isn_non_true, pu_isn_bl_false, pu_isn_bl_true, pu_isn_int_false, pu_isn_int_true, pu_isn_str_false, pu_isn_str_true, pu_isn_tup_false, pu_isn_tup_true, pu_isn_lst_false, pu_isn_lst_true, pu_isn_dK_false, pu_isn_dK_true, pu_isn_dT_false, pu_isn_dT_true, pu_isn_exn_false, pu_isn_exn_true, pu_qReprB, pu_qReprN, pu_lamR_nil, pu_lamR_va, pu_lamR_ow, pu_lamR_no, pu_gT2, pu_gT3, pu_qSl3, pu_qSl3L, pu_qIsB])
local macro_rules | `(tactic| walk_at "pw") => `(tactic| simp -underLambda only [decide_true, decide_false, Bool.not_true, Bool.not_false, startD, Nat.reduceAdd, Nat.reduceSub, List.replicate_zero, List.replicate_succ, List.map_cons, List.map_nil, List.length_cons, List.length_nil, List.length_map, List.length_replicate, List.cons_append, List.nil_append, true_and, and_true, dSeq, dNext, dRet, dRetN, dBrk, dCnt, dIf, dSet, dPar2, dPar3, mCons, mNil, dOp1, dOp2, dC, dTup, dLst, aCons, aNil, bTest, bAnd, bOr, bNot, bYes, dAnd, dOr, dNot, dIfE, dCall, dFor, dLc, iR1, iR2, iSeq, iEnD, iZpD, iScr, gN, dAsgT, dDrop, dRaise, dAppend, dPop, dNewT, dNewK, dCallK, dSl, pIt, pNo, dChain, dCaught, aC, dSl3, dCallV, pu_use_d, pu_use_olst, pu_peek_olst, pu_use_odK, pu_peek_odK, pu_use_odT, pu_peek_odT, pu_peek_d, pu_use_r, pu_peek_r, pu_var, pu_useS_va, pu_peekS_va, pu_varS_va, pu_varS_ow, pu_useS_lst, pu_peekS_lst, pu_useS_dK, pu_peekS_dK, pu_useS_dT, pu_peekS_dT, pu_get0, pu_getS, pu_set0, pu_setS, pu_wipe0, pu_wipeS, pu_asg_d, pu_asg_o, pu_asg_r, pu_fz_d, pu_fz_o, pu_fz_r, pu_toSl_d, pu_toSl_o, pu_isB, pu_qAdd, pu_qAddT, pu_qAddL, pu_qMul, pu_qMulT, pu_qMulL, pu_qSub, pu_qMod, pu_qDiv, pu_qPow, pu_qLt, pu_qLe, pu_qGt, pu_qGe, pu_qMax2, pu_qMin2, pu_qEq, pu_qNe, pu_qNeg, pu_qAbs, pu_qInt, pu_qLenT, pu_qLenL, pu_qLenS, pu_qLstT, pu_qLstL, pu_qTupT, pu_qTupL, pu_qSlT, pu_qSlL, pu_atL, pu_atLS, pu_gT, pu_gpC, pu_gpN, pu_ty_non, pu_ty_bl, pu_ty_int, pu_ty_str, pu_ty_tup, pu_ty_lst, pu_qEqS, pu_qNeS, pu_isi_non_int, pu_isi_non_bool, pu_isi_non_str, pu_isi_non_tuple, pu_isi_non_list, pu_isi_non_dict, pu_isi_bl_int, pu_isi_bl_bool, pu_isi_bl_str, pu_isi_bl_tuple, pu_isi_bl_list, pu_isi_bl_dict, pu_isi_int_int, pu_isi_int_bool, pu_isi_int_str, pu_isi_int_tuple, pu_isi_int_list, pu_isi_int_dict, pu_isi_str_int, pu_isi_str_bool, pu_isi_str_str, pu_isi_str_tuple, pu_isi_str_list, pu_isi_str_dict, pu_isi_tup_int, pu_isi_tup_bool, pu_isi_tup_str, pu_isi_tup_tuple, pu_isi_tup_list, pu_isi_tup_dict, pu_isi_lst_int, pu_isi_lst_bool, pu_isi_lst_str, pu_isi_lst_tuple, pu_isi_lst_list, pu_isi_lst_dict, pu_isi_dK_int, pu_isi_dK_bool, pu_isi_dK_str, pu_isi_dK_tuple, pu_isi_dK_list, pu_isi_dK_dict, pu_isi_dT_int, pu_isi_dT_bool, pu_isi_dT_str, pu_isi_dT_tuple, pu_isi_dT_list, pu_isi_dT_dict, pu_isn_non_false, pu_isn_non_true, pu_isn_bl_false, pu_isn_bl_true, pu_isn_int_false, pu_isn_int_true, pu_isn_str_false, pu_isn_str_true, pu_isn_tup_false, pu_isn_tup_true, pu_isn_lst_false, pu_isn_lst_true, pu_isn_dK_false, pu_isn_dK_true, pu_isn_dT_false, pu_isn_dT_true, pu_isn_exn_false, pu_isn_exn_true, pu_qReprB, pu_qReprN, pu_lamR_nil, pu_lamR_va, pu_lamR_ow, pu_lamR_no, pu_gT2, pu_gT3, pu_qSl3, pu_qSl3L, pu_qIsB])
theorem getD_append_l {a b : List Int} {i : Nat} (h : i < a.length) : (a ++ b).getD i 0 = a.getD i 0 := by
  rw [List.getD_eq_getElem?_getD, List.getD_eq_getElem?_getD, List.getElem?_append_left h]
theorem getD_append_r {a b : List Int} {i : Nat} (h : a.length ≤ i) : (a ++ b).getD i 0 = b.getD (i - a.length) 0 := by
  rw [List.getD_eq_getElem?_getD, List.getD_eq_getElem?_getD, List.getElem?_append_right h]
theorem getD_drop {a : List Int} {i s : Nat} : (a.drop s).getD i 0 = a.getD (s + i) 0 := by
  rw [List.getD_eq_getElem?_getD, List.getD_eq_getElem?_getD, List.getElem?_drop]
theorem getD_take {a : List Int} {i s : Nat} (h : i < s) : (a.take s).getD i 0 = a.getD i 0 := by
  rw [List.getD_eq_getElem?_getD, List.getD_eq_getElem?_getD, List.getElem?_take, if_pos h]
theorem cut_getD {r : List Int} {s i : Nat} (hs : s ≤ r.length) (hi : i < r.length) : (r.drop s ++ r.take s).getD i 0 = rowF r (i + s) := by
  unfold rowF
  by_cases h : i < r.length - s
  · rw [getD_append_l (by rw [List.length_drop]; exact h), getD_drop, Nat.mod_eq_of_lt (by omega), Nat.add_comm]
  · rw [getD_append_r (by rw [List.length_drop]; omega), List.length_drop, getD_take (by omega), Nat.mod_eq_sub_mod (by omega), Nat.mod_eq_of_lt (by omega)]
    congr 1; omega
theorem ext_getD {a b : List Int} (hl : a.length = b.length) (h : ∀ i, i < a.length → a.getD i 0 = b.getD i 0) : a = b := by
  apply List.ext_getElem hl
  intro i h1 h2
  have := h i h1
  rwa [List.getD_eq_getElem?_getD, List.getD_eq_getElem?_getD, List.getElem?_eq_getElem h1, List.getElem?_eq_getElem h2] at this
theorem cut_mk {r : List Int} {s : Nat} (hs : s ≤ r.length) : r.drop s ++ r.take s = mk r.length fun i => rowF r (i + s) := by
  have hl : (r.drop s ++ r.take s).length = r.length := by rw [List.length_append, List.length_drop, List.length_take]; omega
  refine ext_getD (by rw [hl, mk_len]) fun i hi => ?_
  rw [cut_getD hs (by omega), mk_getD (by omega)]
theorem turnL_mk {r : List Int} (hr : 1 ≤ r.length) (b : Int) : turnL r b = mk r.length fun i => rowF r (i + (b % r.length).toNat) := by
  unfold turnL
  have h1 := Int.emod_nonneg b (show (r.length : Int) ≠ 0 by omega)
  have h2 := Int.emod_lt_of_pos b (show (0 : Int) < r.length by omega)
  exact cut_mk (by omega)
theorem rowF_turn {r : List Int} (hr : 1 ≤ r.length) (b : Int) (i : Nat) : rowF (turnL r b) i = rowF r (i + (b % r.length).toNat) := by
  rw [turnL_mk hr]
  refine rowF_mk hr (fun i => ?_) i
  rw [← rowF_per r (i % r.length + _), ← rowF_per r (i + _), Nat.add_mod, Nat.mod_mod, ← Nat.add_mod]
theorem turnL_len {r : List Int} (hr : 1 ≤ r.length) (b : Int) : (turnL r b).length = r.length := by rw [turnL_mk hr, mk_len]
theorem iabs_mm (a b : Int) : iabs (a - b) = max a b - min a b := by unfold iabs; split <;> omega
theorem zip_mk (n : Nat) (f g : Nat → Int) (h : Int → Int → Int) : ((mk n f).zip (mk n g)).map (fun p => h p.1 p.2) = mk n fun i => h (f i) (g i) := by
  unfold mk
  rw [List.zip_map, List.map_map, show (List.range n).zip (List.range n) = (List.range n).map fun i => (i, i) from ?_, List.map_map]
  · rfl
  · have : ∀ l : List Nat, l.zip l = l.map fun i => (i, i) := fun l => by
      induction l with
      | nil => rfl
      | cons a l ih => rw [List.zip_cons_cons, ih, List.map_cons]
    exact this _
theorem farL_mk {r : List Int} {s : Nat} (hs : s ≤ r.length) : farL r s = mk r.length fun i => iabs (rowF r i - rowF r (i + s)) := by
  unfold farL
  rw [cut_mk hs]
  conv => lhs; rw [show r.zip = (mk r.length (rowF r)).zip by rw [← row_mk]]
  exact zip_mk r.length (rowF r) (fun i => rowF r (i + s)) fun a b => iabs (a - b)
theorem dayL_far (r : List Int) : dayL r = farL r 1 := rfl
theorem per_shift {n : Nat} {g : Nat → Int} (hg : Per n g) (a b : Nat) : g (a % n + b) = g (a + b) := by
  rw [← hg (a % n + b), ← hg (a + b), Nat.add_mod, Nat.mod_mod, ← Nat.add_mod]
theorem per_shift2 {n : Nat} {g : Nat → Int} (hg : Per n g) (a b : Nat) : g (a + b % n) = g (a + b) := by
  rw [Nat.add_comm, per_shift hg, Nat.add_comm]
theorem rowF_far {r : List Int} {s : Nat} (hr : 1 ≤ r.length) (hs : s ≤ r.length) (i : Nat) : rowF (farL r s) i = iabs (rowF r i - rowF r (i + s)) := by
  rw [farL_mk hs]
  exact rowF_mk hr (fun i => by rw [rowF_per r i, per_shift (rowF_per r)]) i
def Signs (r : List Int) : Prop := ∀ x ∈ r, x = 0 ∨ x = 1
theorem getD_mem {r : List Int} {i : Nat} (h : i < r.length) : r.getD i 0 ∈ r := by
  rw [List.getD_eq_getElem?_getD, List.getElem?_eq_getElem h]
  exact List.getElem_mem h
theorem signs_F {r : List Int} (hr : 1 ≤ r.length) (h : Signs r) (i : Nat) : rowF r i = 0 ∨ rowF r i = 1 := h _ (getD_mem (Nat.mod_lt _ hr))
theorem signs_mk {n : Nat} {f : Nat → Int} (h : ∀ i, f i = 0 ∨ f i = 1) : Signs (mk n f) := fun x hx => by
  unfold mk at hx
  obtain ⟨i, _, rfl⟩ := List.mem_map.mp hx
  exact h i
theorem far_signs {r : List Int} {s : Nat} (hr : 1 ≤ r.length) (hs : s ≤ r.length) (h : Signs r) : Signs (farL r s) := by
  rw [farL_mk hs]
  refine signs_mk fun i => ?_
  rcases signs_F hr h i with a | a <;> rcases signs_F hr h (i + s) with b | b <;> rw [a, b] <;> decide
theorem twos_signs {r : List Int} (h : Signs r) : isTwosL r = true := by
  unfold isTwosL
  rw [List.all_eq_true]
  intro x hx
  have hm := maxI_ge hx
  have hmem := maxI_mem (List.ne_nil_of_mem hx)
  simp only [List.contains_cons, List.contains_nil, Bool.or_eq_true, beq_iff_eq, Bool.or_false]
  rcases h x hx with e | e
  · exact .inl e
  · rcases h _ hmem with e2 | e2
    · omega
    · right; omega
def Bf (f : Nat) (g : Nat → Int) (p : Nat) : Int := g p + g (p + f)
theorem Bf_per {n f : Nat} {g : Nat → Int} (hg : Per n g) : Per n (Bf f g) := fun p => by
  unfold Bf
  rw [hg p, per_shift hg]
theorem Bf_cong {m : Int} {f : Nat} {g h : Nat → Int} (H : ∀ i, Cg m (g i) (h i)) (p : Nat) : Cg m (Bf f g p) (Bf f h p) := (H p).add (H (p + f))
theorem Bf_two {f : Nat} (g : Nat → Int) (p : Nat) : Cg 2 (Bf (2 * f) g p) (Bf f (Bf f g) p) := by
  unfold Bf Cg
  rw [show p + f + f = p + 2 * f by omega]
  omega
theorem itr_Bf {n f : Nat} {g : Nat → Int} (hg : Per n g) (k p : Nat) : Cg 2 (itr (Bf (2 * f)) k g p) (itr (Bf f) (2 * k) g p) := by
  rw [← itr_two]
  exact itr_cong (n := n) (fun g hg => Bf_per hg) (fun g h H p => Bf_cong (fun i => Bf_cong H i) p) (fun g _ p => Bf_two g p) hg k p
theorem itr_comm (F : (Nat → Int) → Nat → Int) (g : Nat → Int) (k : Nat) : itr F (k + 1) g = itr F k (F g) := itr_add F g 1 k
theorem far_Bf {r : List Int} {far : Nat} (hr : 1 ≤ r.length) (h : Signs r) (i : Nat) : Cg 2 (rowF (farL r (far % r.length)) i) (Bf far (rowF r) i) := by
  rw [rowF_far hr (Nat.le_of_lt (Nat.mod_lt _ hr)), per_shift2 (rowF_per r)]
  unfold Bf Cg
  rcases signs_F hr h i with a | a <;> rcases signs_F hr h (i + far) with b | b <;> rw [a, b] <;> decide
theorem ledFar_cg {n : Nat} (hn : 1 ≤ n) : ∀ (left : Nat) (here : List Int) (far far' : Nat), here.length = n → Signs here → far' % n = far % n →
    (ledFarG n here left far').length = n ∧ Signs (ledFarG n here left far') ∧ ∀ p, Cg 2 (rowF (ledFarG n here left far') p) (itr (Bf far) left (rowF here) p) := fun left => by
  induction left using Nat.strongRecOn with
  | _ left ih =>
    intro here far far' hl hs hf
    by_cases h0 : left = 0
    · subst h0
      rw [ledFarG_zero]
      exact ⟨hl, hs, fun p => Cg.refl⟩
    · rw [ledFarG_pos _ _ _ _ h0]
      have hf2 : (far' * 2 % n) % n = (2 * far) % n := by
        rw [Nat.mod_mod, Nat.mul_mod, hf, ← Nat.mul_mod, Nat.mul_comm]
      have hper : Per n (rowF here) := by rw [← hl]; exact rowF_per here
      by_cases h3 : left % 2 = 1
      · rw [if_pos h3]
        have hlf : (farL here (far' % n)).length = n := by rw [farL_len]; exact hl
        obtain ⟨a, b, c⟩ := ih (left / 2) (by omega) (farL here (far' % n)) (2 * far) (far' * 2 % n) hlf (far_signs (by omega) (by rw [hl]; exact Nat.le_of_lt (Nat.mod_lt _ hn)) hs) hf2
        refine ⟨a, b, fun p => (c p).trans ?_⟩
        have hper2 : Per n (rowF (farL here (far' % n))) := fun i => by have := rowF_per (farL here (far' % n)) i; rwa [hlf] at this
        refine (itr_Bf hper2 (left / 2) p).trans ?_
        rw [show itr (Bf far) left (rowF here) = itr (Bf far) (2 * (left / 2)) (Bf far (rowF here)) by rw [← itr_comm, show 2 * (left / 2) + 1 = left by omega]]
        refine itr_mod (fun g h H p => Bf_cong H p) (fun i => ?_) _ p
        rw [hf, ← hl]
        exact far_Bf (by omega) hs i
      · rw [if_neg h3]
        obtain ⟨a, b, c⟩ := ih (left / 2) (by omega) here (2 * far) (far' * 2 % n) hl hs hf2
        refine ⟨a, b, fun p => (c p).trans ?_⟩
        refine (itr_Bf hper (left / 2) p).trans ?_
        rw [show 2 * (left / 2) = left by omega]
        exact Cg.refl
theorem dayOn_signs {r : List Int} (h : Signs r) (n k : Nat) : dayOnL n k r = ledFarG n r k 1 := by
  cases k with
  | zero => rfl
  | succ k => unfold dayOnL; rw [if_pos (twos_signs h)]
theorem signs_eq {a b : List Int} (hl : a.length = b.length) (ha : ∀ x ∈ a, 0 ≤ x ∧ x < 2) (hb : ∀ x ∈ b, 0 ≤ x ∧ x < 2) (h : ∀ i, i < a.length → Cg 2 (rowF a i) (rowF b i)) : a = b := by
  refine ext_getD hl fun i hi => ?_
  have e := h i hi
  unfold rowF Cg at e
  rw [Nat.mod_eq_of_lt hi, Nat.mod_eq_of_lt (by omega)] at e
  have h1 := ha _ (getD_mem hi)
  have h2 := hb _ (getD_mem (show i < b.length by omega))
  rw [Int.emod_eq_of_lt h1.1 h1.2, Int.emod_eq_of_lt h2.1 h2.2] at e
  exact e
def twoL (n : Nat) : List Int := 1 :: 1 :: List.replicate (n - 2) 0
theorem Aw_two (n : Nat) (g : Nat → Int) (p : Nat) : Aw (twoL n) g p = Bf 1 g p := by
  show 1 * g (p + 0) + (1 * g (p + 1) + Sg 2 (List.replicate (n - 2) 0) _) = g p + g (p + 1)
  rw [Sg_zeros, Int.one_mul, Int.one_mul, Int.add_zero, Nat.add_zero]
end RP
set_option Elab.async false
set_option linter.all false
set_option maxRecDepth 100000
namespace RP
open PySem PySem.Spec PyProof.Rows L2 PL
local macro_rules | `(tactic| walk_at "pu") => `(tactic| simp only [decide_true, decide_false, Bool.not_true, Bool.not_false, startD, Nat.reduceAdd, Nat.reduceSub, List.replicate_zero, List.replicate_succ, List.map_cons, List.map_nil, List.length_cons, List.length_nil, List.length_map, List.length_replicate, List.cons_append, List.nil_append, true_and, and_true, dSeq, dNext, dRet, dRetN, dBrk, dCnt, dIf, dSet, dPar2, dPar3, mCons, mNil, dOp1, dOp2, dC, dTup, dLst, aCons, aNil, bTest, bAnd, bOr, bNot, bYes, dAnd, dOr, dNot, dIfE, dCall, dFor, dLc, iR1, iR2, iSeq, iEnD, iZpD, iScr, gN, dAsgT, dDrop, dRaise, dAppend, dPop, dNewT, dNewK, dCallK, dSl, pIt, pNo, dChain, dCaught, aC, dSl3, dCallV, pu_use_d, pu_use_olst, pu_peek_olst, pu_use_odK, pu_peek_odK, pu_use_odT, pu_peek_odT, pu_peek_d, pu_use_r, pu_peek_r, pu_var, pu_useS_va, pu_peekS_va, pu_varS_va, pu_varS_ow, pu_useS_lst, pu_peekS_lst, pu_useS_dK, pu_peekS_dK, pu_useS_dT, pu_peekS_dT, pu_get0, pu_getS, pu_set0, pu_setS, pu_wipe0, pu_wipeS, pu_asg_d, pu_asg_o, pu_asg_r, pu_fz_d, pu_fz_o, pu_fz_r, pu_toSl_d, pu_toSl_o, pu_isB, pu_qAdd, pu_qAddT, pu_qAddL, pu_qMul, pu_qMulT, pu_qMulL, pu_qSub, pu_qMod, pu_qDiv, pu_qPow, pu_qLt, pu_qLe, pu_qGt, pu_qGe, pu_qMax2, pu_qMin2, pu_qEq, pu_qNe, pu_qNeg, pu_qAbs, pu_qInt, pu_qLenT, pu_qLenL, pu_qLenS, pu_qLstT, pu_qLstL, pu_qTupT, pu_qTupL, pu_qSlT, pu_qSlL, pu_atL, pu_atLS, pu_gT, pu_gpC, pu_gpN, pu_ty_non, pu_ty_bl, pu_ty_int, pu_ty_str, pu_ty_tup, pu_ty_lst, pu_qEqS, pu_qNeS, pu_isi_non_int, pu_isi_non_bool, pu_isi_non_str, pu_isi_non_tuple, pu_isi_non_list, pu_isi_non_dict, pu_isi_bl_int, pu_isi_bl_bool, pu_isi_bl_str, pu_isi_bl_tuple, pu_isi_bl_list, pu_isi_bl_dict, pu_isi_int_int, pu_isi_int_bool, pu_isi_int_str, pu_isi_int_tuple, pu_isi_int_list, pu_isi_int_dict, pu_isi_str_int, pu_isi_str_bool, pu_isi_str_str, pu_isi_str_tuple, pu_isi_str_list, pu_isi_str_dict, pu_isi_tup_int, pu_isi_tup_bool, pu_isi_tup_str, pu_isi_tup_tuple, pu_isi_tup_list, pu_isi_tup_dict, pu_isi_lst_int, pu_isi_lst_bool, pu_isi_lst_str, pu_isi_lst_tuple, pu_isi_lst_list, pu_isi_lst_dict, pu_isi_dK_int, pu_isi_dK_bool, pu_isi_dK_str, pu_isi_dK_tuple, pu_isi_dK_list, pu_isi_dK_dict, pu_isi_dT_int, pu_isi_dT_bool, pu_isi_dT_str, pu_isi_dT_tuple, pu_isi_dT_list, pu_isi_dT_dict, pu_isn_non_false, pu_isn_non_true, pu_isn_bl_false, pu_isn_bl_true, pu_isn_int_false, pu_isn_int_true, pu_isn_str_false, pu_isn_str_true, pu_isn_tup_false, pu_isn_tup_true, pu_isn_lst_false, pu_isn_lst_true, pu_isn_dK_false, pu_isn_dK_true, pu_isn_dT_false, pu_isn_dT_true, pu_isn_exn_false, pu_isn_exn_true, pu_qReprB, pu_qReprN, pu_lamR_nil, pu_lamR_va, pu_lamR_ow, pu_lamR_no, pu_gT2, pu_gT3, pu_qSl3, pu_qSl3L, pu_qIsB])
local macro_rules | `(tactic| walk_at "pv") => `(tactic| simp -implicitDefEqProofs only [decide_true, decide_false, Bool.not_true, Bool.not_false, startD, Nat.reduceAdd, Nat.reduceSub, List.replicate_zero, List.replicate_succ, List.map_cons, List.map_nil, List.length_cons, List.length_nil, List.length_map, List.length_replicate, List.cons_append, List.nil_append, true_and, and_true, dSeq, dNext, dRet, dRetN, dBrk, dCnt, dIf, dSet, dPar2, dPar3, mCons, mNil, dOp1, dOp2, dC, dTup, dLst, aCons, aNil, bTest, bAnd, bOr, bNot, bYes, dAnd, dOr, dNot, dIfE, dCall, dFor, dLc, iR1, iR2, iSeq, iEnD, iZpD, iScr, gN, dAsgT, dDrop, dRaise, dAppend, dPop, dNewT, dNewK, dCallK, dSl, pIt, pNo, dChain, dCaught, aC, dSl3, dCallV, pu_use_d, pu_use_olst, pu_peek_olst, pu_use_odK, pu_peek_odK, pu_use_odT, pu_peek_odT, pu_peek_d, pu_use_r, pu_peek_r, pu_var, pu_useS_va, pu_peekS_va, pu_varS_va, pu_varS_ow, pu_useS_lst, pu_peekS_lst, pu_useS_dK, pu_peekS_dK, pu_useS_dT, pu_peekS_dT, pu_get0, pu_getS, pu_set0, pu_setS, pu_wipe0, pu_wipeS, pu_asg_d, pu_asg_o, pu_asg_r, pu_fz_d, pu_fz_o, pu_fz_r, pu_toSl_d, pu_toSl_o, pu_isB, pu_qAdd, pu_qAddT, pu_qAddL, pu_qMul, pu_qMulT, pu_qMulL, pu_qSub, pu_qMod, pu_qDiv, pu_qPow, pu_qLt, pu_qLe, pu_qGt, pu_qGe, pu_qMax2, pu_qMin2, pu_qEq, pu_qNe, pu_qNeg, pu_qAbs, pu_qInt, pu_qLenT, pu_qLenL, pu_qLenS, pu_qLstT, pu_qLstL, pu_qTupT, pu_qTupL, pu_qSlT, pu_qSlL, pu_atL, pu_atLS, pu_gT, pu_gpC, pu_gpN, pu_ty_non, pu_ty_bl, pu_ty_int, pu_ty_str, pu_ty_tup, pu_ty_lst, pu_qEqS, pu_qNeS, pu_isi_non_int, pu_isi_non_bool, pu_isi_non_str, pu_isi_non_tuple, pu_isi_non_list, pu_isi_non_dict, pu_isi_bl_int, pu_isi_bl_bool, pu_isi_bl_str, pu_isi_bl_tuple, pu_isi_bl_list, pu_isi_bl_dict, pu_isi_int_int, pu_isi_int_bool, pu_isi_int_str, pu_isi_int_tuple, pu_isi_int_list, pu_isi_int_dict, pu_isi_str_int, pu_isi_str_bool, pu_isi_str_str, pu_isi_str_tuple, pu_isi_str_list, pu_isi_str_dict, pu_isi_tup_int, pu_isi_tup_bool, pu_isi_tup_str, pu_isi_tup_tuple, pu_isi_tup_list, pu_isi_tup_dict, pu_isi_lst_int, pu_isi_lst_bool, pu_isi_lst_str, pu_isi_lst_tuple, pu_isi_lst_list, pu_isi_lst_dict, pu_isi_dK_int, pu_isi_dK_bool, pu_isi_dK_str, pu_isi_dK_tuple, pu_isi_dK_list, pu_isi_dK_dict, pu_isi_dT_int, pu_isi_dT_bool, pu_isi_dT_str, pu_isi_dT_tuple, pu_isi_dT_list, pu_isi_dT_dict, pu_isn_non_false, pu_isn_non_true, pu_isn_bl_false, pu_isn_bl_true, pu_isn_int_false, pu_isn_int_true, pu_isn_str_false, pu_isn_str_true, pu_isn_tup_false, pu_isn_tup_true, pu_isn_lst_false, pu_isn_lst_true, pu_isn_dK_false, pu_isn_dK_true, pu_isn_dT_false, pu_isn_dT_true, pu_isn_exn_false, pu_isn_exn_true, pu_qReprB, pu_qReprN, pu_lamR_nil, pu_lamR_va, pu_lamR_ow, pu_lamR_no, pu_gT2, pu_gT3, pu_qSl3, pu_qSl3L, pu_qIsB])
local macro_rules | `(tactic| walk_at "pw") => `(tactic| simp -underLambda only [decide_true, decide_false, Bool.not_true, Bool.not_false, startD, Nat.reduceAdd, Nat.reduceSub, List.replicate_zero, List.replicate_succ, List.map_cons, List.map_nil, List.length_cons, List.length_nil, List.length_map, List.length_replicate, List.cons_append, List.nil_append, true_and, and_true, dSeq, dNext, dRet, dRetN, dBrk, dCnt, dIf, dSet, dPar2, dPar3, mCons, mNil, dOp1, dOp2, dC, dTup, dLst, aCons, aNil, bTest, bAnd, bOr, bNot, bYes, dAnd, dOr, dNot, dIfE, dCall, dFor, dLc, iR1, iR2, iSeq, iEnD, iZpD, iScr, gN, dAsgT, dDrop, dRaise, dAppend, dPop, dNewT, dNewK, dCallK, dSl, pIt, pNo, dChain, dCaught, aC, dSl3, dCallV, pu_use_d, pu_use_olst, pu_peek_olst, pu_use_odK, pu_peek_odK, pu_use_odT, pu_peek_odT, pu_peek_d, pu_use_r, pu_peek_r, pu_var, pu_useS_va, pu_peekS_va, pu_varS_va, pu_varS_ow, pu_useS_lst, pu_peekS_lst, pu_useS_dK, pu_peekS_dK, pu_useS_dT, pu_peekS_dT, pu_get0, pu_getS, pu_set0, pu_setS, pu_wipe0, pu_wipeS, pu_asg_d, pu_asg_o, pu_asg_r, pu_fz_d, pu_fz_o, pu_fz_r, pu_toSl_d, pu_toSl_o, pu_isB, pu_qAdd, pu_qAddT, pu_qAddL, pu_qMul, pu_qMulT, pu_qMulL, pu_qSub, pu_qMod, pu_qDiv, pu_qPow, pu_qLt, pu_qLe, pu_qGt, pu_qGe, pu_qMax2, pu_qMin2, pu_qEq, pu_qNe, pu_qNeg, pu_qAbs, pu_qInt, pu_qLenT, pu_qLenL, pu_qLenS, pu_qLstT, pu_qLstL, pu_qTupT, pu_qTupL, pu_qSlT, pu_qSlL, pu_atL, pu_atLS, pu_gT, pu_gpC, pu_gpN, pu_ty_non, pu_ty_bl, pu_ty_int, pu_ty_str, pu_ty_tup, pu_ty_lst, pu_qEqS, pu_qNeS, pu_isi_non_int, pu_isi_non_bool, pu_isi_non_str, pu_isi_non_tuple, pu_isi_non_list, pu_isi_non_dict, pu_isi_bl_int, pu_isi_bl_bool, pu_isi_bl_str, pu_isi_bl_tuple, pu_isi_bl_list, pu_isi_bl_dict, pu_isi_int_int, pu_isi_int_bool, pu_isi_int_str, pu_isi_int_tuple, pu_isi_int_list, pu_isi_int_dict, pu_isi_str_int, pu_isi_str_bool, pu_isi_str_str, pu_isi_str_tuple, pu_isi_str_list, pu_isi_str_dict, pu_isi_tup_int, pu_isi_tup_bool, pu_isi_tup_str, pu_isi_tup_tuple, pu_isi_tup_list, pu_isi_tup_dict, pu_isi_lst_int, pu_isi_lst_bool, pu_isi_lst_str, pu_isi_lst_tuple, pu_isi_lst_list, pu_isi_lst_dict, pu_isi_dK_int, pu_isi_dK_bool, pu_isi_dK_str, pu_isi_dK_tuple, pu_isi_dK_list, pu_isi_dK_dict, pu_isi_dT_int, pu_isi_dT_bool, pu_isi_dT_str, pu_isi_dT_tuple, pu_isi_dT_list, pu_isi_dT_dict, pu_isn_non_false, pu_isn_non_true, pu_isn_bl_false, pu_isn_bl_true, pu_isn_int_false, pu_isn_int_true, pu_isn_str_false, pu_isn_str_true, pu_isn_tup_false, pu_isn_tup_true, pu_isn_lst_false, pu_isn_lst_true, pu_isn_dK_false, pu_isn_dK_true, pu_isn_dT_false, pu_isn_dT_true, pu_isn_exn_false, pu_isn_exn_true, pu_qReprB, pu_qReprN, pu_lamR_nil, pu_lamR_va, pu_lamR_ow, pu_lamR_no, pu_gT2, pu_gT3, pu_qSl3, pu_qSl3L, pu_qIsB])
def Dy (g : Nat → Int) (p : Nat) : Int := iabs (g p - g (p + 1))
theorem Dy_per {n : Nat} {g : Nat → Int} (hg : Per n g) : Per n (Dy g) := fun p => by
  unfold Dy
  rw [hg p, per_shift hg]
def Bd (M : Int) (g : Nat → Int) : Prop := ∀ i, 0 ≤ g i ∧ g i ≤ M
theorem Dy_bd {M : Int} {g : Nat → Int} (h : Bd M g) : Bd M (Dy g) := fun i => by
  have h1 := h i
  have h2 := h (i + 1)
  unfold Dy iabs
  split <;> omega
theorem itr_bd {M : Int} {g : Nat → Int} (h : Bd M g) : ∀ k, Bd M (itr Dy k g)
  | 0 => h
  | k + 1 => Dy_bd (itr_bd h k)
theorem edge_r {M : Int} : ∀ (k : Nat) (g : Nat → Int) (q : Nat), Bd M g → (∀ i, i < k → g (q + i) = 0 ∨ g (q + i) = M) → itr Dy k g q = g (q + k) ∨ itr Dy k g q = M - g (q + k)
  | 0, g, q, _, _ => .inl rfl
  | k + 1, g, q, hb, h => by
    rw [itr_comm]
    have hD : ∀ i, i < k → Dy g (q + i) = 0 ∨ Dy g (q + i) = M := fun i hi => by
      have h1 := h i (by omega)
      have h2 := h (i + 1) (by omega)
      have hM := hb 0
      unfold Dy iabs
      rw [show q + i + 1 = q + (i + 1) by omega]
      rcases h1 with a | a <;> rcases h2 with b | b <;> rw [a, b] <;> split <;> omega
    have ih := edge_r k (Dy g) q (Dy_bd hb) hD
    have h1 := h k (by omega)
    have h2 := hb (q + k + 1)
    have e : Dy g (q + k) = g (q + (k + 1)) ∨ Dy g (q + k) = M - g (q + (k + 1)) := by
      unfold Dy iabs
      rw [show q + (k + 1) = q + k + 1 by omega]
      rcases h1 with a | a <;> rw [a] <;> split <;> omega
    rcases ih with a | a <;> rcases e with b | b <;> rw [a, b] <;> omega
theorem edge_l {M : Int} : ∀ (k : Nat) (g : Nat → Int) (q : Nat), Bd M g → (∀ i, i < k → g (q + 1 + i) = 0 ∨ g (q + 1 + i) = M) → itr Dy k g q = g q ∨ itr Dy k g q = M - g q
  | 0, g, q, _, _ => .inl rfl
  | k + 1, g, q, hb, h => by
    rw [itr_comm]
    have hD : ∀ i, i < k → Dy g (q + 1 + i) = 0 ∨ Dy g (q + 1 + i) = M := fun i hi => by
      have h1 := h i (by omega)
      have h2 := h (i + 1) (by omega)
      have hM := hb 0
      unfold Dy iabs
      rw [show q + 1 + i + 1 = q + 1 + (i + 1) by omega]
      rcases h1 with a | a <;> rcases h2 with b | b <;> rw [a, b] <;> split <;> omega
    have ih := edge_l k (Dy g) q (Dy_bd hb) hD
    have h1 := h 0 (by omega)
    have h2 := hb q
    have e : Dy g q = g q ∨ Dy g q = M - g q := by
      unfold Dy iabs
      rw [show q + 1 + 0 = q + 1 by omega] at h1
      rcases h1 with a | a <;> rw [a] <;> split <;> omega
    rcases ih with a | a <;> rcases e with b | b <;> rw [a, b] <;> omega
theorem window {M : Int} {g : Nat → Int} (hb : Bd M g) : ∀ (k p : Nat), itr Dy k g p = M → ∀ i, i ≤ k → g (p + i) = 0 ∨ g (p + i) = M
  | 0, p, e, i, hi => by
    have : i = 0 := by omega
    subst this
    exact .inr e
  | k + 1, p, e, i, hi => by
    have e' : iabs (itr Dy k g p - itr Dy k g (p + 1)) = M := e
    have b1 := itr_bd hb k p
    have b2 := itr_bd hb k (p + 1)
    have c : (itr Dy k g p = M ∧ itr Dy k g (p + 1) = 0) ∨ (itr Dy k g p = 0 ∧ itr Dy k g (p + 1) = M) := by
      unfold iabs at e'
      split at e' <;> omega
    rcases c with ⟨c1, c2⟩ | ⟨c1, c2⟩
    · have w := window hb k p c1
      by_cases h : i ≤ k
      · exact w i h
      · have hi' : i = k + 1 := by omega
        subst hi'
        have q := edge_r k g (p + 1) hb fun i hi => by
          have := w (i + 1) (by omega)
          rwa [show p + 1 + i = p + (i + 1) by omega]
        rw [c2, show p + 1 + k = p + (k + 1) by omega] at q
        omega
    · have w := window hb k (p + 1) c2
      by_cases h : i = 0
      · subst h
        have q := edge_l k g p hb fun i hi => w i (by omega)
        rw [c1] at q
        rw [Nat.add_zero]
        omega
      · have := w (i - 1) (by omega)
        rwa [show p + 1 + (i - 1) = p + i by omega] at this
def Two (c : Int) (g : Nat → Int) : Prop := ∀ i, g i = 0 ∨ g i = c
theorem Dy_two {c : Int} (hc : 0 ≤ c) {g : Nat → Int} (h : Two c g) : Two c (Dy g) := fun i => by
  have h1 := h i
  have h2 := h (i + 1)
  unfold Dy iabs
  rcases h1 with a | a <;> rcases h2 with b | b <;> rw [a, b] <;> split <;> omega
theorem itr_Two {c : Int} (hc : 0 ≤ c) {g : Nat → Int} (h : Two c g) : ∀ k, Two c (itr Dy k g)
  | 0 => h
  | k + 1 => Dy_two hc (itr_Two hc h k)
theorem falls {n : Nat} {M : Int} {g : Nat → Int} (hn : 1 ≤ n) (hg : Per n g) (hb : Bd M g) : Two M g ∨ Bd (M - 1) (itr Dy (n - 1) g) := by
  by_cases h : ∃ p, itr Dy (n - 1) g p = M
  · obtain ⟨p, hp⟩ := h
    refine .inl fun i => ?_
    have w := window hb (n - 1) p hp ((i + (n - p % n)) % n) (by have := Nat.mod_lt (i + (n - p % n)) hn; omega)
    have e : g (p + (i + (n - p % n)) % n) = g i := by
      rw [per_shift2 hg, ← hg (p + (i + (n - p % n))), ← hg i]
      congr 1
      have hp := Nat.mod_lt p hn
      have e1 : (p + (i + (n - p % n))) % n = (p % n + (i + (n - p % n))) % n := (Nat.mod_add_mod _ _ _).symm
      rw [e1, show p % n + (i + (n - p % n)) = i + n by omega, Nat.add_mod_right]
    rwa [e] at w
  · refine .inr fun i => ?_
    have b := itr_bd hb (n - 1) i
    have : itr Dy (n - 1) g i ≠ M := fun e => h ⟨i, e⟩
    omega
theorem to_twos {n : Nat} (hn : 1 ≤ n) : ∀ (M : Nat) (g : Nat → Int), Per n g → Bd M g → ∃ k c, k ≤ (n - 1) * M ∧ 0 ≤ c ∧ c ≤ M ∧ Two c (itr Dy k g)
  | 0, g, _, hb => ⟨0, 0, Nat.zero_le _, by omega, by omega, fun i => .inl (by have := hb i; show g i = 0; omega)⟩
  | M + 1, g, hg, hb => by
    rcases falls hn hg hb with h | h
    · exact ⟨0, _, Nat.zero_le _, by omega, by omega, h⟩
    · have h' : Bd (M : Nat) (itr Dy (n - 1) g) := by rw [show ((M + 1 : Nat) : Int) - 1 = (M : Int) by omega] at h; exact h
      obtain ⟨k, c, h1, h2, h3, h4⟩ := to_twos hn M _ (itr_per (fun _ => Dy_per) hg (n - 1)) h'
      refine ⟨k + (n - 1), c, ?_, h2, by omega, ?_⟩
      · rw [Nat.mul_add, Nat.mul_one]; omega
      · rw [itr_add]; exact h4
def daysL (r : List Int) : Nat → List Int
  | 0 => r
  | k + 1 => dayL (daysL r k)
theorem daysL_len (r : List Int) : ∀ k, (daysL r k).length = r.length
  | 0 => rfl
  | k + 1 => by show (dayL (daysL r k)).length = _; rw [dayL_len, daysL_len r k]
theorem rowF_day {r : List Int} (hr : 1 ≤ r.length) (i : Nat) : rowF (dayL r) i = Dy (rowF r) i := by
  rw [dayL_far, rowF_far hr hr]; rfl
theorem rowF_days {r : List Int} (hr : 1 ≤ r.length) : ∀ (k i : Nat), rowF (daysL r k) i = itr Dy k (rowF r) i
  | 0, _ => rfl
  | k + 1, i => by
    show rowF (dayL (daysL r k)) i = Dy (itr Dy k (rowF r)) i
    rw [rowF_day (by rw [daysL_len]; exact hr)]
    show iabs (rowF (daysL r k) i - rowF (daysL r k) (i + 1)) = iabs (itr Dy k (rowF r) i - itr Dy k (rowF r) (i + 1))
    rw [rowF_days hr k, rowF_days hr k]
theorem daysL_add (r : List Int) (b : Nat) : ∀ a, daysL r (b + a) = daysL (daysL r b) a
  | 0 => rfl
  | a + 1 => by show dayL (daysL r (b + a)) = dayL _; rw [daysL_add r b a]
theorem rowF_bd {r : List Int} {M : Int} (hr : 1 ≤ r.length) (h : ∀ x ∈ r, 0 ≤ x ∧ x ≤ M) : Bd M (rowF r) := fun i => h _ (getD_mem (Nat.mod_lt _ hr))
theorem bd_row {r : List Int} {M : Int} (h : Bd M (rowF r)) : ∀ x ∈ r, 0 ≤ x ∧ x ≤ M := fun x hx => by
  obtain ⟨i, hi, e⟩ := List.mem_iff_getElem.mp hx
  have q := h i
  unfold rowF at q
  rw [Nat.mod_eq_of_lt hi, List.getD_eq_getElem?_getD, List.getElem?_eq_getElem hi] at q
  rw [← e]; exact q
def TwoL (c : Int) (r : List Int) : Prop := ∀ x ∈ r, x = 0 ∨ x = c
theorem two_row {r : List Int} {c : Int} (h : Two c (rowF r)) : TwoL c r := fun x hx => by
  obtain ⟨i, hi, e⟩ := List.mem_iff_getElem.mp hx
  have q := h i
  unfold rowF at q
  rw [Nat.mod_eq_of_lt hi, List.getD_eq_getElem?_getD, List.getElem?_eq_getElem hi] at q
  rw [← e]; exact q
theorem row_two {r : List Int} {c : Int} (hr : 1 ≤ r.length) (h : TwoL c r) : Two c (rowF r) := fun i => h _ (getD_mem (Nat.mod_lt _ hr))
theorem days_twos {r : List Int} {M : Nat} (hr : 1 ≤ r.length) (h : ∀ x ∈ r, 0 ≤ x ∧ x ≤ (M : Int)) : ∃ k c, k ≤ (r.length - 1) * M ∧ 0 ≤ c ∧ c ≤ (M : Int) ∧ TwoL c (daysL r k) := by
  obtain ⟨k, c, h1, h2, h3, h4⟩ := to_twos hr M (rowF r) (rowF_per r) (rowF_bd hr h)
  exact ⟨k, c, h1, by omega, by omega, two_row fun i => by rw [rowF_days hr]; exact h4 i⟩
theorem days_bd {r : List Int} {M : Int} (hr : 1 ≤ r.length) (h : ∀ x ∈ r, 0 ≤ x ∧ x ≤ M) (k : Nat) : ∀ x ∈ daysL r k, 0 ≤ x ∧ x ≤ M := bd_row fun i => by
  rw [rowF_days hr]; exact itr_bd (rowF_bd hr h) k i
theorem days_two {r : List Int} {c : Int} (hr : 1 ≤ r.length) (hc : 0 ≤ c) (h : TwoL c r) (k : Nat) : TwoL c (daysL r k) := two_row fun i => by
  rw [rowF_days hr]; exact itr_Two hc (row_two hr h) k i
end RP
set_option Elab.async false
set_option linter.all false
set_option maxRecDepth 100000
namespace RP
open PySem PySem.Spec PyProof.Rows L2 PL
local macro_rules | `(tactic| walk_at "pu") => `(tactic| simp only [decide_true, decide_false, Bool.not_true, Bool.not_false, startD, Nat.reduceAdd, Nat.reduceSub, List.replicate_zero, List.replicate_succ, List.map_cons, List.map_nil, List.length_cons, List.length_nil, List.length_map, List.length_replicate, List.cons_append, List.nil_append, true_and, and_true, dSeq, dNext, dRet, dRetN, dBrk, dCnt, dIf, dSet, dPar2, dPar3, mCons, mNil, dOp1, dOp2, dC, dTup, dLst, aCons, aNil, bTest, bAnd, bOr, bNot, bYes, dAnd, dOr, dNot, dIfE, dCall, dFor, dLc, iR1, iR2, iSeq, iEnD, iZpD, iScr, gN, dAsgT, dDrop, dRaise, dAppend, dPop, dNewT, dNewK, dCallK, dSl, pIt, pNo, dChain, dCaught, aC, dSl3, dCallV, pu_use_d, pu_use_olst, pu_peek_olst, pu_use_odK, pu_peek_odK, pu_use_odT, pu_peek_odT, pu_peek_d, pu_use_r, pu_peek_r, pu_var, pu_useS_va, pu_peekS_va, pu_varS_va, pu_varS_ow, pu_useS_lst, pu_peekS_lst, pu_useS_dK, pu_peekS_dK, pu_useS_dT, pu_peekS_dT, pu_get0, pu_getS, pu_set0, pu_setS, pu_wipe0, pu_wipeS, pu_asg_d, pu_asg_o, pu_asg_r, pu_fz_d, pu_fz_o, pu_fz_r, pu_toSl_d, pu_toSl_o, pu_isB, pu_qAdd, pu_qAddT, pu_qAddL, pu_qMul, pu_qMulT, pu_qMulL, pu_qSub, pu_qMod, pu_qDiv, pu_qPow, pu_qLt, pu_qLe, pu_qGt, pu_qGe, pu_qMax2, pu_qMin2, pu_qEq, pu_qNe, pu_qNeg, pu_qAbs, pu_qInt, pu_qLenT, pu_qLenL, pu_qLenS, pu_qLstT, pu_qLstL, pu_qTupT, pu_qTupL, pu_qSlT, pu_qSlL, pu_atL, pu_atLS, pu_gT, pu_gpC, pu_gpN, pu_ty_non, pu_ty_bl, pu_ty_int, pu_ty_str, pu_ty_tup, pu_ty_lst, pu_qEqS, pu_qNeS, pu_isi_non_int, pu_isi_non_bool, pu_isi_non_str, pu_isi_non_tuple, pu_isi_non_list, pu_isi_non_dict, pu_isi_bl_int, pu_isi_bl_bool, pu_isi_bl_str, pu_isi_bl_tuple, pu_isi_bl_list, pu_isi_bl_dict, pu_isi_int_int, pu_isi_int_bool, pu_isi_int_str, pu_isi_int_tuple, pu_isi_int_list, pu_isi_int_dict, pu_isi_str_int, pu_isi_str_bool, pu_isi_str_str, pu_isi_str_tuple, pu_isi_str_list, pu_isi_str_dict, pu_isi_tup_int, pu_isi_tup_bool, pu_isi_tup_str, pu_isi_tup_tuple, pu_isi_tup_list, pu_isi_tup_dict, pu_isi_lst_int, pu_isi_lst_bool, pu_isi_lst_str, pu_isi_lst_tuple, pu_isi_lst_list, pu_isi_lst_dict, pu_isi_dK_int, pu_isi_dK_bool, pu_isi_dK_str, pu_isi_dK_tuple, pu_isi_dK_list, pu_isi_dK_dict, pu_isi_dT_int, pu_isi_dT_bool, pu_isi_dT_str, pu_isi_dT_tuple, pu_isi_dT_list, pu_isi_dT_dict, pu_isn_non_false, pu_isn_non_true, pu_isn_bl_false, pu_isn_bl_true, pu_isn_int_false, pu_isn_int_true, pu_isn_str_false, pu_isn_str_true, pu_isn_tup_false, pu_isn_tup_true, pu_isn_lst_false, pu_isn_lst_true, pu_isn_dK_false, pu_isn_dK_true, pu_isn_dT_false, pu_isn_dT_true, pu_isn_exn_false, pu_isn_exn_true, pu_qReprB, pu_qReprN, pu_lamR_nil, pu_lamR_va, pu_lamR_ow, pu_lamR_no, pu_gT2, pu_gT3, pu_qSl3, pu_qSl3L, pu_qIsB])
local macro_rules | `(tactic| walk_at "pv") => `(tactic| simp -implicitDefEqProofs only [decide_true, decide_false, Bool.not_true, Bool.not_false, startD, Nat.reduceAdd, Nat.reduceSub, List.replicate_zero, List.replicate_succ, List.map_cons, List.map_nil, List.length_cons, List.length_nil, List.length_map, List.length_replicate, List.cons_append, List.nil_append, true_and, and_true, dSeq, dNext, dRet, dRetN, dBrk, dCnt, dIf, dSet, dPar2, dPar3, mCons, mNil, dOp1, dOp2, dC, dTup, dLst, aCons, aNil, bTest, bAnd, bOr, bNot, bYes, dAnd, dOr, dNot, dIfE, dCall, dFor, dLc, iR1, iR2, iSeq, iEnD, iZpD, iScr, gN, dAsgT, dDrop, dRaise, dAppend, dPop, dNewT, dNewK, dCallK, dSl, pIt, pNo, dChain, dCaught, aC, dSl3, dCallV, pu_use_d, pu_use_olst, pu_peek_olst, pu_use_odK, pu_peek_odK, pu_use_odT, pu_peek_odT, pu_peek_d, pu_use_r, pu_peek_r, pu_var, pu_useS_va, pu_peekS_va, pu_varS_va, pu_varS_ow, pu_useS_lst, pu_peekS_lst, pu_useS_dK, pu_peekS_dK, pu_useS_dT, pu_peekS_dT, pu_get0, pu_getS, pu_set0, pu_setS, pu_wipe0, pu_wipeS, pu_asg_d, pu_asg_o, pu_asg_r, pu_fz_d, pu_fz_o, pu_fz_r, pu_toSl_d, pu_toSl_o, pu_isB, pu_qAdd, pu_qAddT, pu_qAddL, pu_qMul, pu_qMulT, pu_qMulL, pu_qSub, pu_qMod, pu_qDiv, pu_qPow, pu_qLt, pu_qLe, pu_qGt, pu_qGe, pu_qMax2, pu_qMin2, pu_qEq, pu_qNe, pu_qNeg, pu_qAbs, pu_qInt, pu_qLenT, pu_qLenL, pu_qLenS, pu_qLstT, pu_qLstL, pu_qTupT, pu_qTupL, pu_qSlT, pu_qSlL, pu_atL, pu_atLS, pu_gT, pu_gpC, pu_gpN, pu_ty_non, pu_ty_bl, pu_ty_int, pu_ty_str, pu_ty_tup, pu_ty_lst, pu_qEqS, pu_qNeS, pu_isi_non_int, pu_isi_non_bool, pu_isi_non_str, pu_isi_non_tuple, pu_isi_non_list, pu_isi_non_dict, pu_isi_bl_int, pu_isi_bl_bool, pu_isi_bl_str, pu_isi_bl_tuple, pu_isi_bl_list, pu_isi_bl_dict, pu_isi_int_int, pu_isi_int_bool, pu_isi_int_str, pu_isi_int_tuple, pu_isi_int_list, pu_isi_int_dict, pu_isi_str_int, pu_isi_str_bool, pu_isi_str_str, pu_isi_str_tuple, pu_isi_str_list, pu_isi_str_dict, pu_isi_tup_int, pu_isi_tup_bool, pu_isi_tup_str, pu_isi_tup_tuple, pu_isi_tup_list, pu_isi_tup_dict, pu_isi_lst_int, pu_isi_lst_bool, pu_isi_lst_str, pu_isi_lst_tuple, pu_isi_lst_list, pu_isi_lst_dict, pu_isi_dK_int, pu_isi_dK_bool, pu_isi_dK_str, pu_isi_dK_tuple, pu_isi_dK_list, pu_isi_dK_dict, pu_isi_dT_int, pu_isi_dT_bool, pu_isi_dT_str, pu_isi_dT_tuple, pu_isi_dT_list, pu_isi_dT_dict, pu_isn_non_false, pu_isn_non_true, pu_isn_bl_false, pu_isn_bl_true, pu_isn_int_false, pu_isn_int_true, pu_isn_str_false, pu_isn_str_true, pu_isn_tup_false, pu_isn_tup_true, pu_isn_lst_false, pu_isn_lst_true, pu_isn_dK_false, pu_isn_dK_true, pu_isn_dT_false, pu_isn_dT_true, pu_isn_exn_false, pu_isn_exn_true, pu_qReprB, pu_qReprN, pu_lamR_nil, pu_lamR_va, pu_lamR_ow, pu_lamR_no, pu_gT2, pu_gT3, pu_qSl3, pu_qSl3L, pu_qIsB])
local macro_rules | `(tactic| walk_at "pw") => `(tactic| simp -underLambda only [decide_true, decide_false, Bool.not_true, Bool.not_false, startD, Nat.reduceAdd, Nat.reduceSub, List.replicate_zero, List.replicate_succ, List.map_cons, List.map_nil, List.length_cons, List.length_nil, List.length_map, List.length_replicate, List.cons_append, List.nil_append, true_and, and_true, dSeq, dNext, dRet, dRetN, dBrk, dCnt, dIf, dSet, dPar2, dPar3, mCons, mNil, dOp1, dOp2, dC, dTup, dLst, aCons, aNil, bTest, bAnd, bOr, bNot, bYes, dAnd, dOr, dNot, dIfE, dCall, dFor, dLc, iR1, iR2, iSeq, iEnD, iZpD, iScr, gN, dAsgT, dDrop, dRaise, dAppend, dPop, dNewT, dNewK, dCallK, dSl, pIt, pNo, dChain, dCaught, aC, dSl3, dCallV, pu_use_d, pu_use_olst, pu_peek_olst, pu_use_odK, pu_peek_odK, pu_use_odT, pu_peek_odT, pu_peek_d, pu_use_r, pu_peek_r, pu_var, pu_useS_va, pu_peekS_va, pu_varS_va, pu_varS_ow, pu_useS_lst, pu_peekS_lst, pu_useS_dK, pu_peekS_dK, pu_useS_dT, pu_peekS_dT, pu_get0, pu_getS, pu_set0, pu_setS, pu_wipe0, pu_wipeS, pu_asg_d, pu_asg_o, pu_asg_r, pu_fz_d, pu_fz_o, pu_fz_r, pu_toSl_d, pu_toSl_o, pu_isB, pu_qAdd, pu_qAddT, pu_qAddL, pu_qMul, pu_qMulT, pu_qMulL, pu_qSub, pu_qMod, pu_qDiv, pu_qPow, pu_qLt, pu_qLe, pu_qGt, pu_qGe, pu_qMax2, pu_qMin2, pu_qEq, pu_qNe, pu_qNeg, pu_qAbs, pu_qInt, pu_qLenT, pu_qLenL, pu_qLenS, pu_qLstT, pu_qLstL, pu_qTupT, pu_qTupL, pu_qSlT, pu_qSlL, pu_atL, pu_atLS, pu_gT, pu_gpC, pu_gpN, pu_ty_non, pu_ty_bl, pu_ty_int, pu_ty_str, pu_ty_tup, pu_ty_lst, pu_qEqS, pu_qNeS, pu_isi_non_int, pu_isi_non_bool, pu_isi_non_str, pu_isi_non_tuple, pu_isi_non_list, pu_isi_non_dict, pu_isi_bl_int, pu_isi_bl_bool, pu_isi_bl_str, pu_isi_bl_tuple, pu_isi_bl_list, pu_isi_bl_dict, pu_isi_int_int, pu_isi_int_bool, pu_isi_int_str, pu_isi_int_tuple, pu_isi_int_list, pu_isi_int_dict, pu_isi_str_int, pu_isi_str_bool, pu_isi_str_str, pu_isi_str_tuple, pu_isi_str_list, pu_isi_str_dict, pu_isi_tup_int, pu_isi_tup_bool, pu_isi_tup_str, pu_isi_tup_tuple, pu_isi_tup_list, pu_isi_tup_dict, pu_isi_lst_int, pu_isi_lst_bool, pu_isi_lst_str, pu_isi_lst_tuple, pu_isi_lst_list, pu_isi_lst_dict, pu_isi_dK_int, pu_isi_dK_bool, pu_isi_dK_str, pu_isi_dK_tuple, pu_isi_dK_list, pu_isi_dK_dict, pu_isi_dT_int, pu_isi_dT_bool, pu_isi_dT_str, pu_isi_dT_tuple, pu_isi_dT_list, pu_isi_dT_dict, pu_isn_non_false, pu_isn_non_true, pu_isn_bl_false, pu_isn_bl_true, pu_isn_int_false, pu_isn_int_true, pu_isn_str_false, pu_isn_str_true, pu_isn_tup_false, pu_isn_tup_true, pu_isn_lst_false, pu_isn_lst_true, pu_isn_dK_false, pu_isn_dK_true, pu_isn_dT_false, pu_isn_dT_true, pu_isn_exn_false, pu_isn_exn_true, pu_qReprB, pu_qReprN, pu_lamR_nil, pu_lamR_va, pu_lamR_ow, pu_lamR_no, pu_gT2, pu_gT3, pu_qSl3, pu_qSl3L, pu_qIsB])
def sgn (x : Int) : Int := if x = 0 then 0 else 1
def sgF (g : Nat → Int) (i : Nat) : Int := sgn (g i)
theorem sgn_01 (x : Int) : sgn x = 0 ∨ sgn x = 1 := by unfold sgn; split <;> simp
theorem sgF_per {n : Nat} {g : Nat → Int} (hg : Per n g) : Per n (sgF g) := fun i => by unfold sgF; rw [hg]
theorem sg_day {c : Int} {g : Nat → Int} (h : Two c g) (i : Nat) : Cg 2 (sgF (Dy g) i) (Bf 1 (sgF g) i) := by
  have h1 := h i
  have h2 := h (i + 1)
  unfold Cg sgF Bf Dy iabs sgn
  rcases h1 with a | a <;> rcases h2 with b | b <;> rw [a, b] <;> (by_cases hc : c = 0) <;> (try subst hc) <;> simp_all
  all_goals (try omega)
  all_goals (split <;> omega)
theorem sg_days {c : Int} {g : Nat → Int} (hc : 0 ≤ c) (h : Two c g) : ∀ k p, Cg 2 (sgF (itr Dy k g) p) (itr (Bf 1) k (sgF g) p)
  | 0, _ => Cg.refl
  | k + 1, p => (sg_day (itr_Two hc h k) p).trans (Bf_cong (fun i => sg_days hc h k i) p)
theorem itr_Bf_pow {n : Nat} : ∀ (e f : Nat) (g : Nat → Int), Per n g → ∀ p, Cg 2 (itr (Bf f) (2 ^ e) g p) (Bf (f * 2 ^ e) g p)
  | 0, f, g, _, p => by
    rw [Nat.pow_zero, Nat.mul_one]
    exact Cg.refl
  | e + 1, f, g, hg, p => by
    have h1 := itr_Bf hg (f := f) (2 ^ e) p
    have h2 := itr_Bf_pow e (2 * f) g hg p
    rw [show 2 * f * 2 ^ e = f * 2 ^ (e + 1) by rw [Nat.pow_succ, Nat.mul_comm 2 f, Nat.mul_assoc, Nat.mul_comm 2]] at h2
    rw [show 2 ^ (e + 1) = 2 * 2 ^ e by rw [Nat.pow_succ, Nat.mul_comm]] at h2 ⊢
    exact h1.symm.trans h2
def SumC (w : Nat) (s : Nat → Int) (ρ : Nat) : Nat → Int
  | 0 => 0
  | q + 1 => SumC w s ρ q + s (ρ + q * w)
theorem SumC_Bf (w : Nat) (s : Nat → Int) (f ρ : Nat) : ∀ q, SumC w (Bf f s) ρ q = SumC w s ρ q + SumC w s (ρ + f) q
  | 0 => rfl
  | q + 1 => by
    show SumC w (Bf f s) ρ q + (s (ρ + q * w) + s (ρ + q * w + f)) = SumC w s ρ q + s (ρ + q * w) + (SumC w s (ρ + f) q + s (ρ + f + q * w))
    rw [SumC_Bf w s f ρ q, show ρ + f + q * w = ρ + q * w + f by omega]
    omega
theorem SumC_cg {w : Nat} {s t : Nat → Int} (h : ∀ i, Cg 2 (s i) (t i)) (ρ : Nat) : ∀ q, Cg 2 (SumC w s ρ q) (SumC w t ρ q)
  | 0 => Cg.refl
  | q + 1 => (SumC_cg h ρ q).add (h _)
theorem SumC_shift0 (w : Nat) (s : Nat → Int) (ρ : Nat) : ∀ q, SumC w s (ρ + w) q + s ρ = SumC w s ρ q + s (ρ + q * w)
  | 0 => by
    show (0 : Int) + s ρ = 0 + s (ρ + 0 * w)
    rw [Nat.zero_mul, Nat.add_zero]
  | q + 1 => by
    have ih := SumC_shift0 w s ρ q
    show SumC w s (ρ + w) q + s (ρ + w + q * w) + s ρ = SumC w s ρ q + s (ρ + q * w) + s (ρ + (q + 1) * w)
    rw [show ρ + (q + 1) * w = ρ + w + q * w by rw [Nat.add_mul, Nat.one_mul]; omega]
    omega
theorem SumC_shift {w q : Nat} {s : Nat → Int} (hs : Per (w * q) s) (ρ : Nat) : SumC w s (ρ + w) q = SumC w s ρ q := by
  have h := SumC_shift0 w s ρ q
  have e : s (ρ + q * w) = s ρ := by
    rw [← hs (ρ + q * w), ← hs ρ, Nat.mul_comm q w, Nat.add_mod_right]
  rw [e] at h
  omega
theorem SumC_shifts {w q : Nat} {s : Nat → Int} (hs : Per (w * q) s) (ρ : Nat) : ∀ k, SumC w s (ρ + k * w) q = SumC w s ρ q
  | 0 => by rw [Nat.zero_mul, Nat.add_zero]
  | k + 1 => by
    rw [Nat.add_mul, Nat.one_mul, ← Nat.add_assoc, SumC_shift hs, SumC_shifts hs ρ k]
theorem SumC_const {w : Nat} {s : Nat → Int} {u : Int} (h : ∀ i, Cg 2 (s i) u) (ρ : Nat) : ∀ q : Nat, Cg 2 (SumC w s ρ q) (q * u)
  | 0 => by show Cg 2 0 (((0 : Nat) : Int) * u); rw [Int.natCast_zero, Int.zero_mul]; exact Cg.refl
  | q + 1 => by
    have := (SumC_const (w := w) h ρ q).add (h (ρ + q * w))
    rw [show ((q + 1 : Nat) : Int) * u = q * u + u by rw [Int.natCast_add, Int.add_mul]; simp]
    exact this
def Vn (w q : Nat) (s : Nat → Int) : Prop := ∀ ρ, Cg 2 (SumC w s ρ q) 0
theorem Vn_of {w q : Nat} {s : Nat → Int} (hw : 1 ≤ w) (hs : Per (w * q) s) (h : ∀ ρ, ρ < w → Cg 2 (SumC w s ρ q) 0) : Vn w q s := fun ρ => by
  have e : ρ = ρ % w + ρ / w * w := by rw [Nat.mul_comm]; exact (Nat.mod_add_div ρ w).symm
  rw [e, SumC_shifts hs]
  exact h _ (Nat.mod_lt _ hw)
theorem Vn_cg {w q : Nat} {s t : Nat → Int} (h : ∀ i, Cg 2 (s i) (t i)) (hv : Vn w q t) : Vn w q s := fun ρ => (SumC_cg h ρ q).trans (hv ρ)
theorem Vn_Bf {w q f : Nat} {s : Nat → Int} (h : Vn w q s) : Vn w q (Bf f s) := fun ρ => by
  rw [SumC_Bf]
  exact (h ρ).add (h (ρ + f))
theorem Vn_itr {w q : Nat} {s : Nat → Int} (h : Vn w q s) : ∀ k, Vn w q (itr (Bf 1) k s)
  | 0 => h
  | k + 1 => Vn_Bf (Vn_itr h k)
theorem Vn_img {w q e : Nat} (he : w = 2 ^ e) {s : Nat → Int} (hs : Per (w * q) s) : Vn w q (itr (Bf 1) w s) := by
  refine Vn_cg (t := Bf w s) (fun i => ?_) fun ρ => ?_
  · have h := itr_Bf_pow e 1 s hs i
    rw [Nat.one_mul, ← he] at h
    exact h
  · rw [SumC_Bf, SumC_shift hs]
    unfold Cg
    omega
theorem Vn_inj {w q : Nat} (hq : q % 2 = 1) {s t : Nat → Int} (h1 : Vn w q s) (h2 : Vn w q t) (h : ∀ p, Cg 2 (Bf 1 s p) (Bf 1 t p)) (p : Nat) : Cg 2 (s p) (t p) := by
  have step : ∀ p, Cg 2 (s p + t p) (s 0 + t 0) := fun p => by
    induction p with
    | zero => exact Cg.refl
    | succ p ih =>
      have := h p
      unfold Bf Cg at *
      omega
  have c := SumC_const (w := w) (s := fun i => s i + t i) (u := s 0 + t 0) step 0 q
  have e : ∀ q, SumC w (fun i => s i + t i) 0 q = SumC w s 0 q + SumC w t 0 q := fun q => by
    induction q with
    | zero => rfl
    | succ q ih =>
      show SumC w (fun i => s i + t i) 0 q + (s (0 + q * w) + t (0 + q * w)) = SumC w s 0 q + s (0 + q * w) + (SumC w t 0 q + t (0 + q * w))
      rw [ih]; omega
  rw [e] at c
  have a := h1 0
  have b := h2 0
  have d := step p
  have u2 : (s 0 + t 0) % 2 = 0 := by
    have z : Cg 2 ((q : Int) * (s 0 + t 0)) 0 := c.symm.trans (a.add b)
    unfold Cg at z
    rw [Int.mul_emod, show (q : Int) % 2 = 1 by omega] at z
    omega
  unfold Cg at *
  omega
theorem sg_rows {c : Int} {a b : List Int} (hl : a.length = b.length) (ha : TwoL c a) (hb : TwoL c b) (h : ∀ i, i < a.length → sgn (rowF a i) = sgn (rowF b i)) : a = b := by
  refine ext_getD hl fun i hi => ?_
  have e := h i hi
  unfold rowF at e
  rw [Nat.mod_eq_of_lt hi, Nat.mod_eq_of_lt (by omega)] at e
  have h1 := ha _ (getD_mem hi)
  have h2 := hb _ (getD_mem (show i < b.length by omega))
  unfold sgn at e
  rcases h1 with x | x <;> rcases h2 with y | y <;> rw [x, y] at e ⊢
  · split at e <;> split at e <;> first | omega | (simp at e)
  · split at e <;> split at e <;> first | omega | (simp at e)
theorem sg_cg {x y : Int} (h : Cg 2 (sgn x) (sgn y)) : sgn x = sgn y := by
  unfold Cg at h
  rcases sgn_01 x with a | a <;> rcases sgn_01 y with b | b <;> rw [a, b] at h ⊢ <;> simp at h
theorem round_of_even {r : List Int} {c : Int} {w q : Nat} (hr : 1 ≤ r.length) (hc : 0 ≤ c) (ht : TwoL c r) (hq : q % 2 = 1) (hn : r.length = w * q) (hv : Vn w q (sgF (rowF r))) : ∃ L, 1 ≤ L ∧ L ≤ 2 ^ r.length ∧ daysL r L = r := by
  have hT : ∀ k, TwoL c (daysL r k) := days_two hr hc ht
  have hV : ∀ k, Vn w q (sgF (rowF (daysL r k))) := fun k => Vn_cg (t := itr (Bf 1) k (sgF (rowF r))) (fun i => by
    have e : sgF (rowF (daysL r k)) i = sgF (itr Dy k (rowF r)) i := by unfold sgF; rw [rowF_days hr]
    rw [e]
    exact sg_days hc (row_two hr ht) k i) (Vn_itr hv k)
  have key : ∀ a b, daysL r (b + 1) = daysL r (a + 1) → daysL r b = daysL r a := fun a b e => by
    refine sg_rows (by rw [daysL_len, daysL_len]) (hT b) (hT a) fun i _ => sg_cg ?_
    refine Vn_inj hq (hV b) (hV a) (fun p => ?_) i
    have l1 := sg_day (row_two (by rw [daysL_len]; exact hr) (hT b)) p
    have l2 := sg_day (row_two (by rw [daysL_len]; exact hr) (hT a)) p
    have e1 : sgF (Dy (rowF (daysL r b))) p = sgF (Dy (rowF (daysL r a))) p := by
      unfold sgF
      rw [← rowF_day (by rw [daysL_len]; exact hr), ← rowF_day (by rw [daysL_len]; exact hr)]
      show sgn (rowF (daysL r (b + 1)) p) = sgn (rowF (daysL r (a + 1)) p)
      rw [e]
    rw [e1] at l1
    exact l1.symm.trans l2
  obtain ⟨a, b, hb, ha, e⟩ := some_twice (m := 2) (n := r.length) (f := fun k => (daysL r k).map sgn) (fun k => by rw [List.length_map, daysL_len]) fun k x hx => by
    obtain ⟨y, _, rfl⟩ := List.mem_map.mp hx
    rcases sgn_01 y with h | h <;> rw [h] <;> decide
  have e2 : daysL r b = daysL r a := by
    refine sg_rows (by rw [daysL_len, daysL_len]) (hT b) (hT a) fun i hi => ?_
    have z : ((daysL r b).map sgn).getD i 0 = ((daysL r a).map sgn).getD i 0 := congrArg (fun l : List Int => l.getD i 0) e
    rw [daysL_len] at hi
    unfold rowF
    rw [daysL_len, daysL_len, Nat.mod_eq_of_lt hi]
    rw [List.getD_eq_getElem?_getD, List.getD_eq_getElem?_getD, List.getElem?_map, List.getElem?_map] at z
    rw [List.getD_eq_getElem?_getD, List.getD_eq_getElem?_getD, List.getElem?_eq_getElem (by rw [daysL_len]; exact hi), List.getElem?_eq_getElem (by rw [daysL_len]; exact hi)]
    rw [List.getElem?_eq_getElem (by rw [daysL_len]; exact hi), List.getElem?_eq_getElem (by rw [daysL_len]; exact hi)] at z
    exact z
  have down : ∀ b a, b < a → daysL r b = daysL r a → daysL r 0 = daysL r (a - b) := fun b => by
    induction b with
    | zero => exact fun a _ e => e
    | succ b ih =>
      intro a hba e
      obtain ⟨a', rfl⟩ : ∃ a', a = a' + 1 := ⟨a - 1, by omega⟩
      have := ih a' (by omega) (key _ _ e)
      rw [show a' + 1 - (b + 1) = a' - b by omega]
      exact this
  exact ⟨a - b, by omega, by omega, (down b a hb e2).symm⟩
theorem even_of_round {r : List Int} {M w q e L : Nat} (hr : 1 ≤ r.length) (h : ∀ x ∈ r, 0 ≤ x ∧ x ≤ (M : Int)) (hw : w = 2 ^ e) (hn : r.length = w * q) (hL : 1 ≤ L) (hE : daysL r L = r) : ∃ c, 0 ≤ c ∧ TwoL c r ∧ Vn w q (sgF (rowF r)) := by
  have rep : ∀ t, daysL r (L * t) = r := fun t => by
    induction t with
    | zero => rfl
    | succ t ih => rw [Nat.mul_succ, daysL_add, ih, hE]
  obtain ⟨k, c, hk, h0, hc, ht⟩ := days_twos hr h
  have h2 : TwoL c r := by
    have e1 : k ≤ L * k := Nat.le_mul_of_pos_left k hL
    have e2 := daysL_add r k (L * k - k)
    rw [show k + (L * k - k) = L * k by omega, rep] at e2
    rw [e2]
    exact days_two (by rw [daysL_len]; exact hr) h0 ht _
  refine ⟨c, h0, h2, ?_⟩
  have e1 : w ≤ L * w := Nat.le_mul_of_pos_left w hL
  have e2 := daysL_add r (L * w - w) w
  rw [show L * w - w + w = L * w by omega, rep] at e2
  have hT := days_two hr h0 h2 (L * w - w)
  have hlen : 1 ≤ (daysL r (L * w - w)).length := by rw [daysL_len]; exact hr
  have hp : Per (w * q) (sgF (rowF (daysL r (L * w - w)))) := sgF_per (by rw [← hn, ← daysL_len r (L * w - w)]; exact rowF_per _)
  refine Vn_cg (t := itr (Bf 1) w (sgF (rowF (daysL r (L * w - w))))) (fun i => ?_) (Vn_img hw hp)
  have e3 : sgF (rowF r) i = sgF (itr Dy w (rowF (daysL r (L * w - w)))) i := by
    unfold sgF
    rw [← rowF_days hlen, ← e2]
  rw [e3]
  exact sg_days h0 (row_two hlen hT) w i
end RP
set_option Elab.async false
set_option linter.all false
set_option maxRecDepth 100000
namespace RP
open PySem PySem.Spec PyProof.Rows L2 PL
local macro_rules | `(tactic| walk_at "pu") => `(tactic| simp only [decide_true, decide_false, Bool.not_true, Bool.not_false, startD, Nat.reduceAdd, Nat.reduceSub, List.replicate_zero, List.replicate_succ, List.map_cons, List.map_nil, List.length_cons, List.length_nil, List.length_map, List.length_replicate, List.cons_append, List.nil_append, true_and, and_true, dSeq, dNext, dRet, dRetN, dBrk, dCnt, dIf, dSet, dPar2, dPar3, mCons, mNil, dOp1, dOp2, dC, dTup, dLst, aCons, aNil, bTest, bAnd, bOr, bNot, bYes, dAnd, dOr, dNot, dIfE, dCall, dFor, dLc, iR1, iR2, iSeq, iEnD, iZpD, iScr, gN, dAsgT, dDrop, dRaise, dAppend, dPop, dNewT, dNewK, dCallK, dSl, pIt, pNo, dChain, dCaught, aC, dSl3, dCallV, pu_use_d, pu_use_olst, pu_peek_olst, pu_use_odK, pu_peek_odK, pu_use_odT, pu_peek_odT, pu_peek_d, pu_use_r, pu_peek_r, pu_var, pu_useS_va, pu_peekS_va, pu_varS_va, pu_varS_ow, pu_useS_lst, pu_peekS_lst, pu_useS_dK, pu_peekS_dK, pu_useS_dT, pu_peekS_dT, pu_get0, pu_getS, pu_set0, pu_setS, pu_wipe0, pu_wipeS, pu_asg_d, pu_asg_o, pu_asg_r, pu_fz_d, pu_fz_o, pu_fz_r, pu_toSl_d, pu_toSl_o, pu_isB, pu_qAdd, pu_qAddT, pu_qAddL, pu_qMul, pu_qMulT, pu_qMulL, pu_qSub, pu_qMod, pu_qDiv, pu_qPow, pu_qLt, pu_qLe, pu_qGt, pu_qGe, pu_qMax2, pu_qMin2, pu_qEq, pu_qNe, pu_qNeg, pu_qAbs, pu_qInt, pu_qLenT, pu_qLenL, pu_qLenS, pu_qLstT, pu_qLstL, pu_qTupT, pu_qTupL, pu_qSlT, pu_qSlL, pu_atL, pu_atLS, pu_gT, pu_gpC, pu_gpN, pu_ty_non, pu_ty_bl, pu_ty_int, pu_ty_str, pu_ty_tup, pu_ty_lst, pu_qEqS, pu_qNeS, pu_isi_non_int, pu_isi_non_bool, pu_isi_non_str, pu_isi_non_tuple, pu_isi_non_list, pu_isi_non_dict, pu_isi_bl_int, pu_isi_bl_bool, pu_isi_bl_str, pu_isi_bl_tuple, pu_isi_bl_list, pu_isi_bl_dict, pu_isi_int_int, pu_isi_int_bool, pu_isi_int_str, pu_isi_int_tuple, pu_isi_int_list, pu_isi_int_dict, pu_isi_str_int, pu_isi_str_bool, pu_isi_str_str, pu_isi_str_tuple, pu_isi_str_list, pu_isi_str_dict, pu_isi_tup_int, pu_isi_tup_bool, pu_isi_tup_str, pu_isi_tup_tuple, pu_isi_tup_list, pu_isi_tup_dict, pu_isi_lst_int, pu_isi_lst_bool, pu_isi_lst_str, pu_isi_lst_tuple, pu_isi_lst_list, pu_isi_lst_dict, pu_isi_dK_int, pu_isi_dK_bool, pu_isi_dK_str, pu_isi_dK_tuple, pu_isi_dK_list, pu_isi_dK_dict, pu_isi_dT_int, pu_isi_dT_bool, pu_isi_dT_str, pu_isi_dT_tuple, pu_isi_dT_list, pu_isi_dT_dict, pu_isn_non_false, pu_isn_non_true, pu_isn_bl_false, pu_isn_bl_true, pu_isn_int_false, pu_isn_int_true, pu_isn_str_false, pu_isn_str_true, pu_isn_tup_false, pu_isn_tup_true, pu_isn_lst_false, pu_isn_lst_true, pu_isn_dK_false, pu_isn_dK_true, pu_isn_dT_false, pu_isn_dT_true, pu_isn_exn_false, pu_isn_exn_true, pu_qReprB, pu_qReprN, pu_lamR_nil, pu_lamR_va, pu_lamR_ow, pu_lamR_no, pu_gT2, pu_gT3, pu_qSl3, pu_qSl3L, pu_qIsB])
local macro_rules | `(tactic| walk_at "pv") => `(tactic| simp -implicitDefEqProofs only [decide_true, decide_false, Bool.not_true, Bool.not_false, startD, Nat.reduceAdd, Nat.reduceSub, List.replicate_zero, List.replicate_succ, List.map_cons, List.map_nil, List.length_cons, List.length_nil, List.length_map, List.length_replicate, List.cons_append, List.nil_append, true_and, and_true, dSeq, dNext, dRet, dRetN, dBrk, dCnt, dIf, dSet, dPar2, dPar3, mCons, mNil, dOp1, dOp2, dC, dTup, dLst, aCons, aNil, bTest, bAnd, bOr, bNot, bYes, dAnd, dOr, dNot, dIfE, dCall, dFor, dLc, iR1, iR2, iSeq, iEnD, iZpD, iScr, gN, dAsgT, dDrop, dRaise, dAppend, dPop, dNewT, dNewK, dCallK, dSl, pIt, pNo, dChain, dCaught, aC, dSl3, dCallV, pu_use_d, pu_use_olst, pu_peek_olst, pu_use_odK, pu_peek_odK, pu_use_odT, pu_peek_odT, pu_peek_d, pu_use_r, pu_peek_r, pu_var, pu_useS_va, pu_peekS_va, pu_varS_va, pu_varS_ow, pu_useS_lst, pu_peekS_lst, pu_useS_dK, pu_peekS_dK, pu_useS_dT, pu_peekS_dT, pu_get0, pu_getS, pu_set0, pu_setS, pu_wipe0, pu_wipeS, pu_asg_d, pu_asg_o, pu_asg_r, pu_fz_d, pu_fz_o, pu_fz_r, pu_toSl_d, pu_toSl_o, pu_isB, pu_qAdd, pu_qAddT, pu_qAddL, pu_qMul, pu_qMulT, pu_qMulL, pu_qSub, pu_qMod, pu_qDiv, pu_qPow, pu_qLt, pu_qLe, pu_qGt, pu_qGe, pu_qMax2, pu_qMin2, pu_qEq, pu_qNe, pu_qNeg, pu_qAbs, pu_qInt, pu_qLenT, pu_qLenL, pu_qLenS, pu_qLstT, pu_qLstL, pu_qTupT, pu_qTupL, pu_qSlT, pu_qSlL, pu_atL, pu_atLS, pu_gT, pu_gpC, pu_gpN, pu_ty_non, pu_ty_bl, pu_ty_int, pu_ty_str, pu_ty_tup, pu_ty_lst, pu_qEqS, pu_qNeS, pu_isi_non_int, pu_isi_non_bool, pu_isi_non_str, pu_isi_non_tuple, pu_isi_non_list, pu_isi_non_dict, pu_isi_bl_int, pu_isi_bl_bool, pu_isi_bl_str, pu_isi_bl_tuple, pu_isi_bl_list, pu_isi_bl_dict, pu_isi_int_int, pu_isi_int_bool, pu_isi_int_str, pu_isi_int_tuple, pu_isi_int_list, pu_isi_int_dict, pu_isi_str_int, pu_isi_str_bool, pu_isi_str_str, pu_isi_str_tuple, pu_isi_str_list, pu_isi_str_dict, pu_isi_tup_int, pu_isi_tup_bool, pu_isi_tup_str, pu_isi_tup_tuple, pu_isi_tup_list, pu_isi_tup_dict, pu_isi_lst_int, pu_isi_lst_bool, pu_isi_lst_str, pu_isi_lst_tuple, pu_isi_lst_list, pu_isi_lst_dict, pu_isi_dK_int, pu_isi_dK_bool, pu_isi_dK_str, pu_isi_dK_tuple, pu_isi_dK_list, pu_isi_dK_dict, pu_isi_dT_int, pu_isi_dT_bool, pu_isi_dT_str, pu_isi_dT_tuple, pu_isi_dT_list, pu_isi_dT_dict, pu_isn_non_false, pu_isn_non_true, pu_isn_bl_false, pu_isn_bl_true, pu_isn_int_false, pu_isn_int_true, pu_isn_str_false, pu_isn_str_true, pu_isn_tup_false, pu_isn_tup_true, pu_isn_lst_false, pu_isn_lst_true, pu_isn_dK_false, pu_isn_dK_true, pu_isn_dT_false, pu_isn_dT_true, pu_isn_exn_false, pu_isn_exn_true, pu_qReprB, pu_qReprN, pu_lamR_nil, pu_lamR_va, pu_lamR_ow, pu_lamR_no, pu_gT2, pu_gT3, pu_qSl3, pu_qSl3L, pu_qIsB])
local macro_rules | `(tactic| walk_at "pw") => `(tactic| simp -underLambda only [decide_true, decide_false, Bool.not_true, Bool.not_false, startD, Nat.reduceAdd, Nat.reduceSub, List.replicate_zero, List.replicate_succ, List.map_cons, List.map_nil, List.length_cons, List.length_nil, List.length_map, List.length_replicate, List.cons_append, List.nil_append, true_and, and_true, dSeq, dNext, dRet, dRetN, dBrk, dCnt, dIf, dSet, dPar2, dPar3, mCons, mNil, dOp1, dOp2, dC, dTup, dLst, aCons, aNil, bTest, bAnd, bOr, bNot, bYes, dAnd, dOr, dNot, dIfE, dCall, dFor, dLc, iR1, iR2, iSeq, iEnD, iZpD, iScr, gN, dAsgT, dDrop, dRaise, dAppend, dPop, dNewT, dNewK, dCallK, dSl, pIt, pNo, dChain, dCaught, aC, dSl3, dCallV, pu_use_d, pu_use_olst, pu_peek_olst, pu_use_odK, pu_peek_odK, pu_use_odT, pu_peek_odT, pu_peek_d, pu_use_r, pu_peek_r, pu_var, pu_useS_va, pu_peekS_va, pu_varS_va, pu_varS_ow, pu_useS_lst, pu_peekS_lst, pu_useS_dK, pu_peekS_dK, pu_useS_dT, pu_peekS_dT, pu_get0, pu_getS, pu_set0, pu_setS, pu_wipe0, pu_wipeS, pu_asg_d, pu_asg_o, pu_asg_r, pu_fz_d, pu_fz_o, pu_fz_r, pu_toSl_d, pu_toSl_o, pu_isB, pu_qAdd, pu_qAddT, pu_qAddL, pu_qMul, pu_qMulT, pu_qMulL, pu_qSub, pu_qMod, pu_qDiv, pu_qPow, pu_qLt, pu_qLe, pu_qGt, pu_qGe, pu_qMax2, pu_qMin2, pu_qEq, pu_qNe, pu_qNeg, pu_qAbs, pu_qInt, pu_qLenT, pu_qLenL, pu_qLenS, pu_qLstT, pu_qLstL, pu_qTupT, pu_qTupL, pu_qSlT, pu_qSlL, pu_atL, pu_atLS, pu_gT, pu_gpC, pu_gpN, pu_ty_non, pu_ty_bl, pu_ty_int, pu_ty_str, pu_ty_tup, pu_ty_lst, pu_qEqS, pu_qNeS, pu_isi_non_int, pu_isi_non_bool, pu_isi_non_str, pu_isi_non_tuple, pu_isi_non_list, pu_isi_non_dict, pu_isi_bl_int, pu_isi_bl_bool, pu_isi_bl_str, pu_isi_bl_tuple, pu_isi_bl_list, pu_isi_bl_dict, pu_isi_int_int, pu_isi_int_bool, pu_isi_int_str, pu_isi_int_tuple, pu_isi_int_list, pu_isi_int_dict, pu_isi_str_int, pu_isi_str_bool, pu_isi_str_str, pu_isi_str_tuple, pu_isi_str_list, pu_isi_str_dict, pu_isi_tup_int, pu_isi_tup_bool, pu_isi_tup_str, pu_isi_tup_tuple, pu_isi_tup_list, pu_isi_tup_dict, pu_isi_lst_int, pu_isi_lst_bool, pu_isi_lst_str, pu_isi_lst_tuple, pu_isi_lst_list, pu_isi_lst_dict, pu_isi_dK_int, pu_isi_dK_bool, pu_isi_dK_str, pu_isi_dK_tuple, pu_isi_dK_list, pu_isi_dK_dict, pu_isi_dT_int, pu_isi_dT_bool, pu_isi_dT_str, pu_isi_dT_tuple, pu_isi_dT_list, pu_isi_dT_dict, pu_isn_non_false, pu_isn_non_true, pu_isn_bl_false, pu_isn_bl_true, pu_isn_int_false, pu_isn_int_true, pu_isn_str_false, pu_isn_str_true, pu_isn_tup_false, pu_isn_tup_true, pu_isn_lst_false, pu_isn_lst_true, pu_isn_dK_false, pu_isn_dK_true, pu_isn_dT_false, pu_isn_dT_true, pu_isn_exn_false, pu_isn_exn_true, pu_qReprB, pu_qReprN, pu_lamR_nil, pu_lamR_va, pu_lamR_ow, pu_lamR_no, pu_gT2, pu_gT3, pu_qSl3, pu_qSl3L, pu_qIsB])
def tpG : Nat → Nat → Nat → Nat
  | 0, _, f => f
  | k + 1, n, f => if n % (f * 2) = 0 then tpG k n (f * 2) else f
def twoP (n : Nat) : Nat := tpG n n 1
theorem tp_spec : ∀ (k n f : Nat), 1 ≤ n → (∃ e, f = 2 ^ e) → f ∣ n → n < f * 2 ^ (k + 1) → (∃ e, tpG k n f = 2 ^ e) ∧ tpG k n f ∣ n ∧ n % (tpG k n f * 2) ≠ 0
  | 0, n, f, h1, h2, h3, h4 => by
    refine ⟨h2, h3, fun h => ?_⟩
    have h5 := Nat.le_of_dvd h1 (Nat.dvd_of_mod_eq_zero h)
    have h6 : tpG 0 n f = f := rfl
    rw [h6] at h5
    rw [Nat.zero_add, Nat.pow_one] at h4
    omega
  | k + 1, n, f, h1, h2, h3, h4 => by
    unfold tpG
    by_cases h : n % (f * 2) = 0
    · rw [if_pos h]
      obtain ⟨e, he⟩ := h2
      refine tp_spec k n (f * 2) h1 ⟨e + 1, by rw [he, Nat.pow_succ]⟩ (Nat.dvd_of_mod_eq_zero h) ?_
      rw [show f * 2 * 2 ^ (k + 1) = f * 2 ^ (k + 1 + 1) by rw [Nat.pow_succ 2 (k + 1), Nat.mul_assoc, Nat.mul_comm 2]]
      exact h4
    · rw [if_neg h]
      exact ⟨h2, h3, h⟩
theorem twoP_spec {n : Nat} (h : 1 ≤ n) : ∃ e q, twoP n = 2 ^ e ∧ n = twoP n * q ∧ q % 2 = 1 := by
  have hlt : n < 1 * 2 ^ (n + 1) := by
    rw [Nat.one_mul, Nat.pow_succ]
    have : n < 2 ^ n := Nat.lt_two_pow_self
    omega
  obtain ⟨⟨e, he⟩, ⟨q, hq⟩, h3⟩ := tp_spec n n 1 h ⟨0, rfl⟩ (Nat.one_dvd _) hlt
  refine ⟨e, q, he, hq, ?_⟩
  rcases Nat.mod_two_eq_zero_or_one q with z | z
  · exfalso
    refine h3 ?_
    obtain ⟨t, rfl⟩ := Nat.dvd_of_mod_eq_zero z
    refine Nat.mod_eq_zero_of_dvd ⟨t, ?_⟩
    rw [Nat.mul_assoc]
    exact hq
  · exact z
theorem twoP_pos {n : Nat} (h : 1 ≤ n) : 1 ≤ twoP n := by
  obtain ⟨e, q, he, _, _⟩ := twoP_spec h
  rw [he]; exact Nat.one_le_two_pow
theorem twoP_le {n : Nat} (h : 1 ≤ n) : twoP n ≤ n := by
  obtain ⟨e, q, he, hq, ho⟩ := twoP_spec h
  have : 1 ≤ q := by omega
  have h2 : twoP n * 1 ≤ twoP n * q := Nat.mul_le_mul_left _ this
  omega
def clsL (r : List Int) (w p : Nat) : List Int := HT.cutS r (some (p : Int)) none (some (w : Int))
theorem adj_eq (p w n : Nat) (hp : p ≤ n) : Builtin.Slice.sliceAdjust (some (p : Int)) none (w : Int) (n : Int) = ((p : Int), (n : Int)) := by
  unfold Builtin.Slice.sliceAdjust
  have h1 : ¬ ((w : Int) < 0) := by omega
  have h2 : ¬ ((p : Int) < 0) := by omega
  simp only [if_neg h1, if_neg h2]
  rw [Int.min_eq_left (by omega)]
theorem places_eq (p w q : Nat) (hw : p < w) (hq : 1 ≤ q) : Builtin.Slice.slicePlaces (p : Int) ((w * q : Nat) : Int) (w : Int) = q := by
  unfold Builtin.Slice.slicePlaces
  have e : w * q = w + w * (q - 1) := by
    obtain ⟨t, rfl⟩ : ∃ t, q = t + 1 := ⟨q - 1, by omega⟩
    rw [Nat.mul_succ, Nat.add_sub_cancel, Nat.add_comm]
  have h1 : (p : Int) < ((w * q : Nat) : Int) := by omega
  rw [if_pos (by omega), if_pos h1]
  have e2 : ((w * q : Nat) : Int) - (p : Int) - 1 = ((w : Int) - 1 - p) + (w : Int) * ((q : Int) - 1) := by
    rw [e, Int.natCast_add, Int.natCast_mul]
    have : ((q - 1 : Nat) : Int) = (q : Int) - 1 := by omega
    rw [this]
    omega
  rw [e2, Int.add_mul_ediv_left _ _ (by omega), Int.ediv_eq_zero_of_lt (by omega) (by omega)]
  omega
theorem filterMap_some {α β : Type} {f : α → Option β} {g : α → β} : ∀ {l : List α}, (∀ x ∈ l, f x = some (g x)) → l.filterMap f = l.map g
  | [], _ => rfl
  | x :: l, h => by
    rw [List.filterMap_cons_some (h x List.mem_cons_self), List.map_cons, filterMap_some fun y hy => h y (List.mem_cons_of_mem _ hy)]
theorem clsL_eq {r : List Int} {w q p : Nat} (hr : r.length = w * q) (hp : p < w) (hq : 1 ≤ q) : clsL r w p = (List.range q).map fun m => rowF r (p + m * w) := by
  unfold clsL HT.cutS
  show ((List.range (Builtin.Slice.slicePlaces (Builtin.Slice.sliceAdjust (some (p : Int)) none (w : Int) (r.length : Int)).1 (Builtin.Slice.sliceAdjust (some (p : Int)) none (w : Int) (r.length : Int)).2 (w : Int))).filterMap fun (m : Nat) => r[((Builtin.Slice.sliceAdjust (some (p : Int)) none (w : Int) (r.length : Int)).1 + (m : Int) * (w : Int)).toNat]?) = _
  have hw : w * 1 ≤ w * q := Nat.mul_le_mul_left _ hq
  rw [adj_eq p w r.length (by omega), hr]
  rw [places_eq p w q hp hq]
  refine filterMap_some fun m hm => ?_
  have hm := List.mem_range.mp hm
  have e : ((p : Int) + (m : Int) * (w : Int)).toNat = p + m * w := by
    rw [← Int.natCast_mul, ← Int.natCast_add, Int.toNat_natCast]
  have hlt : p + m * w < r.length := by
    have h1 : m * w + w ≤ w * q := by
      rw [Nat.mul_comm m w, ← Nat.mul_succ]
      exact Nat.mul_le_mul_left _ hm
    omega
  show r[((p : Int) + (m : Int) * (w : Int)).toNat]? = some (rowF r (p + m * w))
  rw [e, List.getElem?_eq_getElem hlt]
  unfold rowF
  rw [Nat.mod_eq_of_lt hlt, List.getD_eq_getElem?_getD, List.getElem?_eq_getElem hlt]
  rfl
def cntL (l : List Int) : Nat := (l.filter fun n => decide (n ≠ 0)).length
theorem cnt_sum {w p : Nat} {g : Nat → Int} : ∀ q, ((cntL ((List.range q).map fun m => g (p + m * w)) : Nat) : Int) = SumC w (sgF g) p q
  | 0 => rfl
  | q + 1 => by
    have ih := cnt_sum (w := w) (p := p) (g := g) q
    unfold cntL at ih ⊢
    rw [List.range_succ, List.map_append, List.filter_append, List.length_append]
    show _ = SumC w (sgF g) p q + sgF g (p + q * w)
    rw [← ih, Int.natCast_add]
    congr 1
    unfold sgF sgn
    rw [List.map_cons, List.map_nil]
    by_cases h : g (p + q * w) = 0
    · rw [if_pos h, List.filter_cons_of_neg (by simp [h])]; rfl
    · rw [if_neg h, List.filter_cons_of_pos (by simp [h])]; rfl
def inRB (r : List Int) : Bool := isTwosL r && (List.range (twoP r.length)).all fun p => decide (cntL (clsL r (twoP r.length) p) % 2 = 0)
theorem isTwos_iff {r : List Int} (hr : 1 ≤ r.length) (h : ∀ x ∈ r, 0 ≤ x) : isTwosL r = true ↔ ∃ c, 0 ≤ c ∧ TwoL c r := by
  have hne := len_ne hr
  have hm := maxI_mem hne
  unfold isTwosL
  rw [List.all_eq_true]
  constructor
  · intro q
    refine ⟨maxI r, h _ hm, fun x hx => ?_⟩
    have z := q x hx
    simp only [List.contains_cons, List.contains_nil, Bool.or_eq_true, beq_iff_eq, Bool.or_false] at z
    exact z
  · rintro ⟨c, hc, ht⟩ x hx
    simp only [List.contains_cons, List.contains_nil, Bool.or_eq_true, beq_iff_eq, Bool.or_false]
    have h1 := h x hx
    have h2 := maxI_ge hx
    rcases ht x hx with a | a
    · exact .inl a
    · rcases ht _ hm with b | b <;> omega
theorem even_iff {r : List Int} {q : Nat} (hr : 1 ≤ r.length) (hq : r.length = twoP r.length * q) (ho : q % 2 = 1) : ((List.range (twoP r.length)).all fun p => decide (cntL (clsL r (twoP r.length) p) % 2 = 0)) = true ↔ Vn (twoP r.length) q (sgF (rowF r)) := by
  rw [List.all_eq_true]
  have key : ∀ p, p < twoP r.length → ((cntL (clsL r (twoP r.length) p) % 2 = 0) ↔ Cg 2 (SumC (twoP r.length) (sgF (rowF r)) p q) 0) := fun p hp => by
    rw [clsL_eq hq hp (by omega), ← cnt_sum]
    unfold Cg
    omega
  constructor
  · intro h
    refine Vn_of (twoP_pos hr) (by rw [← hq]; exact sgF_per (rowF_per r)) fun p hp => ?_
    exact (key p hp).mp (of_decide_eq_true (h p (List.mem_range.mpr hp)))
  · intro h p hp
    exact decide_eq_true ((key p (List.mem_range.mp hp)).mpr (h p))
theorem inRB_iff {r : List Int} {M : Nat} (hr : 1 ≤ r.length) (h : ∀ x ∈ r, 0 ≤ x ∧ x ≤ (M : Int)) : inRB r = true ↔ ∃ L, 1 ≤ L ∧ daysL r L = r := by
  obtain ⟨e, q, he, hq, ho⟩ := twoP_spec hr
  unfold inRB
  rw [Bool.and_eq_true, isTwos_iff hr fun x hx => (h x hx).1, even_iff hr hq ho]
  constructor
  · rintro ⟨⟨c, hc, ht⟩, hv⟩
    obtain ⟨L, h1, _, h2⟩ := round_of_even hr hc ht ho hq hv
    exact ⟨L, h1, h2⟩
  · rintro ⟨L, h1, h2⟩
    obtain ⟨c, hc, ht, hv⟩ := even_of_round hr h he hq h1 h2
    exact ⟨⟨c, hc, ht⟩, hv⟩
theorem at_round {r : List Int} {b j : Nat} (hb : b < j) (e : daysL r b = daysL r j) (hd : ∀ a a', a < j → a' < a → daysL r a' ≠ daysL r a) {t : Nat} (ht : t < j) : (∃ L, 1 ≤ L ∧ daysL (daysL r t) L = daysL r t) ↔ b ≤ t := by
  have R := round_eq (f := daysL r) (g := dayL) (fun _ => rfl) hb e
  constructor
  · rintro ⟨L, hL, hE⟩
    apply Classical.byContradiction
    intro hlt
    rw [← daysL_add] at hE
    by_cases h : t + L < j
    · exact hd (t + L) t h (by omega) hE.symm
    · rw [R (t + L) (by omega)] at hE
      have h2 := Nat.mod_lt (t + L - b) (show 0 < j - b by omega)
      exact hd (b + (t + L - b) % (j - b)) t (by omega) (by omega) hE.symm
  · intro h
    refine ⟨j - b, by omega, ?_⟩
    rw [← daysL_add, R (t + (j - b)) (by omega), show t + (j - b) - b = (t - b) + (j - b) by omega, Nat.add_mod_right, Nat.mod_eq_of_lt (by omega)]
    congr 1
    omega
theorem days_few {r : List Int} {M j : Nat} (hr : 1 ≤ r.length) (h : ∀ x ∈ r, 0 ≤ x ∧ x ≤ (M : Int)) (hd : ∀ a a', a < j → a' < a → daysL r a' ≠ daysL r a) : j ≤ (r.length - 1) * M + 2 ^ r.length := by
  obtain ⟨k, c, hk, h0, hc, ht⟩ := days_twos hr h
  have hT : ∀ i, TwoL c (daysL r (k + i)) := fun i => by
    rw [daysL_add]
    exact days_two (by rw [daysL_len]; exact hr) h0 ht i
  have q := few (m := 2) (n := r.length) (j := j - k) (f := fun i => (daysL r (k + i)).map sgn) (fun i => by rw [List.length_map, daysL_len]) (fun i x hx => by
    obtain ⟨y, _, rfl⟩ := List.mem_map.mp hx
    rcases sgn_01 y with h | h <;> rw [h] <;> decide) fun a b ha hb e => ?_
  · omega
  · refine hd (k + a) (k + b) (by omega) (by omega) ?_
    refine sg_rows (by rw [daysL_len, daysL_len]) (hT b) (hT a) fun i hi => ?_
    have z : ((daysL r (k + b)).map sgn).getD i 0 = ((daysL r (k + a)).map sgn).getD i 0 := congrArg (fun l : List Int => l.getD i 0) e
    rw [daysL_len] at hi
    unfold rowF
    rw [daysL_len, daysL_len, Nat.mod_eq_of_lt hi]
    rw [List.getD_eq_getElem?_getD, List.getD_eq_getElem?_getD, List.getElem?_map, List.getElem?_map] at z
    rw [List.getD_eq_getElem?_getD, List.getD_eq_getElem?_getD, List.getElem?_eq_getElem (by rw [daysL_len]; exact hi), List.getElem?_eq_getElem (by rw [daysL_len]; exact hi)]
    rw [List.getElem?_eq_getElem (by rw [daysL_len]; exact hi), List.getElem?_eq_getElem (by rw [daysL_len]; exact hi)] at z
    exact z
end RP
set_option Elab.async false
set_option linter.all false
set_option maxRecDepth 100000
namespace RP
open PySem PySem.Spec PyProof.Rows L2 PL
local macro_rules | `(tactic| walk_at "pu") => `(tactic| simp only [decide_true, decide_false, Bool.not_true, Bool.not_false, startD, Nat.reduceAdd, Nat.reduceSub, List.replicate_zero, List.replicate_succ, List.map_cons, List.map_nil, List.length_cons, List.length_nil, List.length_map, List.length_replicate, List.cons_append, List.nil_append, true_and, and_true, dSeq, dNext, dRet, dRetN, dBrk, dCnt, dIf, dSet, dPar2, dPar3, mCons, mNil, dOp1, dOp2, dC, dTup, dLst, aCons, aNil, bTest, bAnd, bOr, bNot, bYes, dAnd, dOr, dNot, dIfE, dCall, dFor, dLc, iR1, iR2, iSeq, iEnD, iZpD, iScr, gN, dAsgT, dDrop, dRaise, dAppend, dPop, dNewT, dNewK, dCallK, dSl, pIt, pNo, dChain, dCaught, aC, dSl3, dCallV, pu_use_d, pu_use_olst, pu_peek_olst, pu_use_odK, pu_peek_odK, pu_use_odT, pu_peek_odT, pu_peek_d, pu_use_r, pu_peek_r, pu_var, pu_useS_va, pu_peekS_va, pu_varS_va, pu_varS_ow, pu_useS_lst, pu_peekS_lst, pu_useS_dK, pu_peekS_dK, pu_useS_dT, pu_peekS_dT, pu_get0, pu_getS, pu_set0, pu_setS, pu_wipe0, pu_wipeS, pu_asg_d, pu_asg_o, pu_asg_r, pu_fz_d, pu_fz_o, pu_fz_r, pu_toSl_d, pu_toSl_o, pu_isB, pu_qAdd, pu_qAddT, pu_qAddL, pu_qMul, pu_qMulT, pu_qMulL, pu_qSub, pu_qMod, pu_qDiv, pu_qPow, pu_qLt, pu_qLe, pu_qGt, pu_qGe, pu_qMax2, pu_qMin2, pu_qEq, pu_qNe, pu_qNeg, pu_qAbs, pu_qInt, pu_qLenT, pu_qLenL, pu_qLenS, pu_qLstT, pu_qLstL, pu_qTupT, pu_qTupL, pu_qSlT, pu_qSlL, pu_atL, pu_atLS, pu_gT, pu_gpC, pu_gpN, pu_ty_non, pu_ty_bl, pu_ty_int, pu_ty_str, pu_ty_tup, pu_ty_lst, pu_qEqS, pu_qNeS, pu_isi_non_int, pu_isi_non_bool, pu_isi_non_str, pu_isi_non_tuple, pu_isi_non_list, pu_isi_non_dict, pu_isi_bl_int, pu_isi_bl_bool, pu_isi_bl_str, pu_isi_bl_tuple, pu_isi_bl_list, pu_isi_bl_dict, pu_isi_int_int, pu_isi_int_bool, pu_isi_int_str, pu_isi_int_tuple, pu_isi_int_list, pu_isi_int_dict, pu_isi_str_int, pu_isi_str_bool, pu_isi_str_str, pu_isi_str_tuple, pu_isi_str_list, pu_isi_str_dict, pu_isi_tup_int, pu_isi_tup_bool, pu_isi_tup_str, pu_isi_tup_tuple, pu_isi_tup_list, pu_isi_tup_dict, pu_isi_lst_int, pu_isi_lst_bool, pu_isi_lst_str, pu_isi_lst_tuple, pu_isi_lst_list, pu_isi_lst_dict, pu_isi_dK_int, pu_isi_dK_bool, pu_isi_dK_str, pu_isi_dK_tuple, pu_isi_dK_list, pu_isi_dK_dict, pu_isi_dT_int, pu_isi_dT_bool, pu_isi_dT_str, pu_isi_dT_tuple, pu_isi_dT_list, pu_isi_dT_dict, pu_isn_non_false, pu_isn_non_true, pu_isn_bl_false, pu_isn_bl_true, pu_isn_int_false, pu_isn_int_true, pu_isn_str_false, pu_isn_str_true, pu_isn_tup_false, pu_isn_tup_true, pu_isn_lst_false, pu_isn_lst_true, pu_isn_dK_false, pu_isn_dK_true, pu_isn_dT_false, pu_isn_dT_true, pu_isn_exn_false, pu_isn_exn_true, pu_qReprB, pu_qReprN, pu_lamR_nil, pu_lamR_va, pu_lamR_ow, pu_lamR_no, pu_gT2, pu_gT3, pu_qSl3, pu_qSl3L, pu_qIsB])
local macro_rules | `(tactic| walk_at "pv") => `(tactic| simp -implicitDefEqProofs only [decide_true, decide_false, Bool.not_true, Bool.not_false, startD, Nat.reduceAdd, Nat.reduceSub, List.replicate_zero, List.replicate_succ, List.map_cons, List.map_nil, List.length_cons, List.length_nil, List.length_map, List.length_replicate, List.cons_append, List.nil_append, true_and, and_true, dSeq, dNext, dRet, dRetN, dBrk, dCnt, dIf, dSet, dPar2, dPar3, mCons, mNil, dOp1, dOp2, dC, dTup, dLst, aCons, aNil, bTest, bAnd, bOr, bNot, bYes, dAnd, dOr, dNot, dIfE, dCall, dFor, dLc, iR1, iR2, iSeq, iEnD, iZpD, iScr, gN, dAsgT, dDrop, dRaise, dAppend, dPop, dNewT, dNewK, dCallK, dSl, pIt, pNo, dChain, dCaught, aC, dSl3, dCallV, pu_use_d, pu_use_olst, pu_peek_olst, pu_use_odK, pu_peek_odK, pu_use_odT, pu_peek_odT, pu_peek_d, pu_use_r, pu_peek_r, pu_var, pu_useS_va, pu_peekS_va, pu_varS_va, pu_varS_ow, pu_useS_lst, pu_peekS_lst, pu_useS_dK, pu_peekS_dK, pu_useS_dT, pu_peekS_dT, pu_get0, pu_getS, pu_set0, pu_setS, pu_wipe0, pu_wipeS, pu_asg_d, pu_asg_o, pu_asg_r, pu_fz_d, pu_fz_o, pu_fz_r, pu_toSl_d, pu_toSl_o, pu_isB, pu_qAdd, pu_qAddT, pu_qAddL, pu_qMul, pu_qMulT, pu_qMulL, pu_qSub, pu_qMod, pu_qDiv, pu_qPow, pu_qLt, pu_qLe, pu_qGt, pu_qGe, pu_qMax2, pu_qMin2, pu_qEq, pu_qNe, pu_qNeg, pu_qAbs, pu_qInt, pu_qLenT, pu_qLenL, pu_qLenS, pu_qLstT, pu_qLstL, pu_qTupT, pu_qTupL, pu_qSlT, pu_qSlL, pu_atL, pu_atLS, pu_gT, pu_gpC, pu_gpN, pu_ty_non, pu_ty_bl, pu_ty_int, pu_ty_str, pu_ty_tup, pu_ty_lst, pu_qEqS, pu_qNeS, pu_isi_non_int, pu_isi_non_bool, pu_isi_non_str, pu_isi_non_tuple, pu_isi_non_list, pu_isi_non_dict, pu_isi_bl_int, pu_isi_bl_bool, pu_isi_bl_str, pu_isi_bl_tuple, pu_isi_bl_list, pu_isi_bl_dict, pu_isi_int_int, pu_isi_int_bool, pu_isi_int_str, pu_isi_int_tuple, pu_isi_int_list, pu_isi_int_dict, pu_isi_str_int, pu_isi_str_bool, pu_isi_str_str, pu_isi_str_tuple, pu_isi_str_list, pu_isi_str_dict, pu_isi_tup_int, pu_isi_tup_bool, pu_isi_tup_str, pu_isi_tup_tuple, pu_isi_tup_list, pu_isi_tup_dict, pu_isi_lst_int, pu_isi_lst_bool, pu_isi_lst_str, pu_isi_lst_tuple, pu_isi_lst_list, pu_isi_lst_dict, pu_isi_dK_int, pu_isi_dK_bool, pu_isi_dK_str, pu_isi_dK_tuple, pu_isi_dK_list, pu_isi_dK_dict, pu_isi_dT_int, pu_isi_dT_bool, pu_isi_dT_str, pu_isi_dT_tuple, pu_isi_dT_list, pu_isi_dT_dict, pu_isn_non_false, pu_isn_non_true, pu_isn_bl_false, pu_isn_bl_true, pu_isn_int_false, pu_isn_int_true, pu_isn_str_false, pu_isn_str_true, pu_isn_tup_false, pu_isn_tup_true, pu_isn_lst_false, pu_isn_lst_true, pu_isn_dK_false, pu_isn_dK_true, pu_isn_dT_false, pu_isn_dT_true, pu_isn_exn_false, pu_isn_exn_true, pu_qReprB, pu_qReprN, pu_lamR_nil, pu_lamR_va, pu_lamR_ow, pu_lamR_no, pu_gT2, pu_gT3, pu_qSl3, pu_qSl3L, pu_qIsB])
local macro_rules | `(tactic| walk_at "pw") => `(tactic| simp -underLambda only [decide_true, decide_false, Bool.not_true, Bool.not_false, startD, Nat.reduceAdd, Nat.reduceSub, List.replicate_zero, List.replicate_succ, List.map_cons, List.map_nil, List.length_cons, List.length_nil, List.length_map, List.length_replicate, List.cons_append, List.nil_append, true_and, and_true, dSeq, dNext, dRet, dRetN, dBrk, dCnt, dIf, dSet, dPar2, dPar3, mCons, mNil, dOp1, dOp2, dC, dTup, dLst, aCons, aNil, bTest, bAnd, bOr, bNot, bYes, dAnd, dOr, dNot, dIfE, dCall, dFor, dLc, iR1, iR2, iSeq, iEnD, iZpD, iScr, gN, dAsgT, dDrop, dRaise, dAppend, dPop, dNewT, dNewK, dCallK, dSl, pIt, pNo, dChain, dCaught, aC, dSl3, dCallV, pu_use_d, pu_use_olst, pu_peek_olst, pu_use_odK, pu_peek_odK, pu_use_odT, pu_peek_odT, pu_peek_d, pu_use_r, pu_peek_r, pu_var, pu_useS_va, pu_peekS_va, pu_varS_va, pu_varS_ow, pu_useS_lst, pu_peekS_lst, pu_useS_dK, pu_peekS_dK, pu_useS_dT, pu_peekS_dT, pu_get0, pu_getS, pu_set0, pu_setS, pu_wipe0, pu_wipeS, pu_asg_d, pu_asg_o, pu_asg_r, pu_fz_d, pu_fz_o, pu_fz_r, pu_toSl_d, pu_toSl_o, pu_isB, pu_qAdd, pu_qAddT, pu_qAddL, pu_qMul, pu_qMulT, pu_qMulL, pu_qSub, pu_qMod, pu_qDiv, pu_qPow, pu_qLt, pu_qLe, pu_qGt, pu_qGe, pu_qMax2, pu_qMin2, pu_qEq, pu_qNe, pu_qNeg, pu_qAbs, pu_qInt, pu_qLenT, pu_qLenL, pu_qLenS, pu_qLstT, pu_qLstL, pu_qTupT, pu_qTupL, pu_qSlT, pu_qSlL, pu_atL, pu_atLS, pu_gT, pu_gpC, pu_gpN, pu_ty_non, pu_ty_bl, pu_ty_int, pu_ty_str, pu_ty_tup, pu_ty_lst, pu_qEqS, pu_qNeS, pu_isi_non_int, pu_isi_non_bool, pu_isi_non_str, pu_isi_non_tuple, pu_isi_non_list, pu_isi_non_dict, pu_isi_bl_int, pu_isi_bl_bool, pu_isi_bl_str, pu_isi_bl_tuple, pu_isi_bl_list, pu_isi_bl_dict, pu_isi_int_int, pu_isi_int_bool, pu_isi_int_str, pu_isi_int_tuple, pu_isi_int_list, pu_isi_int_dict, pu_isi_str_int, pu_isi_str_bool, pu_isi_str_str, pu_isi_str_tuple, pu_isi_str_list, pu_isi_str_dict, pu_isi_tup_int, pu_isi_tup_bool, pu_isi_tup_str, pu_isi_tup_tuple, pu_isi_tup_list, pu_isi_tup_dict, pu_isi_lst_int, pu_isi_lst_bool, pu_isi_lst_str, pu_isi_lst_tuple, pu_isi_lst_list, pu_isi_lst_dict, pu_isi_dK_int, pu_isi_dK_bool, pu_isi_dK_str, pu_isi_dK_tuple, pu_isi_dK_list, pu_isi_dK_dict, pu_isi_dT_int, pu_isi_dT_bool, pu_isi_dT_str, pu_isi_dT_tuple, pu_isi_dT_list, pu_isi_dT_dict, pu_isn_non_false, pu_isn_non_true, pu_isn_bl_false, pu_isn_bl_true, pu_isn_int_false, pu_isn_int_true, pu_isn_str_false, pu_isn_str_true, pu_isn_tup_false, pu_isn_tup_true, pu_isn_lst_false, pu_isn_lst_true, pu_isn_dK_false, pu_isn_dK_true, pu_isn_dT_false, pu_isn_dT_true, pu_isn_exn_false, pu_isn_exn_true, pu_qReprB, pu_qReprN, pu_lamR_nil, pu_lamR_va, pu_lamR_ow, pu_lamR_no, pu_gT2, pu_gT3, pu_qSl3, pu_qSl3L, pu_qIsB])
def c__law_take (G : Str → Addr) : PC := fun ds Q _ => match ds with | [.draw, .int n] => n < 2 ^ 64 ∧ ∀ z, 0 ≤ z → (n < 2 → z = 0) → (2 ≤ n → z < n) → Q (.int z) | _ => False
def listOf : D → List D
  | .lst l => l
  | .tup l => l
  | _ => []
def c__law_pick (G : Str → Addr) : PC := fun ds Q _ => match ds with | [.draw, d] => (∃ l, (d = .lst l ∨ d = .tup l) ∧ 1 ≤ l.length ∧ l.length ≤ 4000) ∧ ∀ x ∈ listOf d, Q x | _ => False
def r__law_pick (G : Str → Addr) : TSt :=
    dRet (dOp2 qIx (dVar 1) (dCall (c__law_take G) (aCons (dVar 0) (aCons (dOp1 qLen (dVar 1)) (aNil)))))
abbrev N__law_pick : List Str := ["draw", "items"]
theorem l__law_pick {G : Str → Addr} : ∀ ds Q X, c__law_pick G ds Q X → ds.length = 2 := fun ds _ _ h => by unfold c__law_pick at h; split at h <;> first | rfl | exact h.elim
theorem p__law_pick {G} : Pure (c__law_pick G) (r__law_pick G) N__law_pick := fun ds Q X h => by
  match ds, h with
  | [.draw, d], ⟨⟨l, hd, h1, h2⟩, h⟩ =>
    unfold r__law_pick c__law_take
    have key : ∀ z : Int, 0 ≤ z → ((l.length : Int) < 2 → z = 0) → (2 ≤ (l.length : Int) → z < l.length) → ∃ x, L2.atI l z = some x ∧ x ∈ l := fun z h0 ha hb => by
      obtain ⟨j, rfl⟩ := Int.eq_ofNat_of_zero_le h0
      have hj : j < l.length := by omega
      exact ⟨l[j], by rw [atI_nat l j hj, List.getElem?_eq_getElem hj], List.getElem_mem hj⟩
    rcases hd with rfl | rfl
    · walk_at "pu"
      refine ⟨by omega, fun z h0 ha hb => ?_⟩
      obtain ⟨x, e, hx⟩ := key z h0 ha hb
      show (match L2.atI l z with | some d => _ | none => False)
      rw [e]
      exact h x hx
    · walk_at "pu"
      refine ⟨by omega, fun z h0 ha hb => ?_⟩
      obtain ⟨x, e, hx⟩ := key z h0 ha hb
      show (match L2.atI l z with | some d => _ | none => False)
      rw [e]
      exact h x hx
theorem pick_ints {G} {ns : List Int} {Q : D → Prop} {X : Exn → Prop} (h1 : 1 ≤ ns.length) (h2 : ns.length ≤ 4000) (h : ∀ n ∈ ns, Q (.int n)) : c__law_pick G [.draw, Ls ns] Q X :=
  ⟨⟨ns.map D.int, .inl rfl, by rw [List.length_map]; exact h1, by rw [List.length_map]; exact h2⟩, fun x hx => by
    obtain ⟨n, hn, rfl⟩ := List.mem_map.mp hx
    exact h n hn⟩
def bitsOk (ns : List Int) : Prop := ∀ z ∈ ns, Builtin.Int.intBits z ≤ 1048576
def c__law_begun (G : Str → Addr) : PC := fun ds Q _ => match ds with | [.scr ns] => ns.length ≤ 63 ∧ bitsOk ns ∧ ∀ w, 0 ≤ w → Q (.dK [(kWhole, .int w), (kCells, Ls ns), (kCount, .int 0)]) | _ => False
def fb__law_begun1 (G : Str → Addr) : TSt :=
    dIf (bTest (dOp2 (qIsi) (dVar 3) (dC (.op (.ty "int"))))) (dSeq (dIf (bTest (dOp2 qGe (dVar 3) (dOp2 qPow (dC (.int 10)) (dC (.int 18))))) (dSet 1 (dOp2 qAdd (dOp2 qMul (dVar 1) (dOp2 qAdd (dOp2 qSub (dVar 3) (dOp2 qPow (dC (.int 10)) (dC (.int 18)))) (dC (.int 1)))) (dOp2 qSub (dVar 3) (dOp2 qPow (dC (.int 10)) (dC (.int 18)))))) (dNext))
    (dDrop (dAppend (dVar 2) (dVar 3)))) (dNext)
def r__law_begun (G : Str → Addr) : TSt :=
    dSeq (dPar2 1 2 (mCons (dC (.int 0)) (mCons (dLst (aNil)) (mNil))))
    (dSeq (dFor (iScr (dVar 0)) (gN 3) (fb__law_begun1 G))
    (dRet (dDispK [.inr "whole", .inr "cells", .inr "count"] (aCons (dVar 1) (aCons (dVar 2) (aCons (dC (.int 0)) (aNil)))))))
abbrev N__law_begun : List Str := ["script", "whole", "cells", "cell"]
theorem l__law_begun {G : Str → Addr} : ∀ ds Q X, c__law_begun G ds Q X → ds.length = 1 := fun ds _ _ h => by unfold c__law_begun at h; split at h <;> first | rfl | exact h.elim
theorem p18 : (10 : Int) ^ Int.toNat 18 = 1000000000000000000 := by decide
theorem begun_bits {w n : Int} {L B : Nat} (hw : Builtin.Int.intBits w ≤ L) (hn : Builtin.Int.intBits n ≤ 1048576) (hB : 1048579 ≤ B) :
    Builtin.Int.intBits (n - 1000000000000000000 + 1) ≤ 1048578 ∧ Builtin.Int.intBits (w * (n - 1000000000000000000 + 1) + (n - 1000000000000000000)) ≤ L + B := by
  have b18 : Builtin.Int.intBits (1000000000000000000 : Int) ≤ 64 := by decide +kernel
  have b1 : Builtin.Int.intBits (1 : Int) ≤ 1 := by decide +kernel
  have hc : Builtin.Int.intBits (n - 1000000000000000000) ≤ 1048577 := Nat.le_trans (intBits_sub_le hn b18) (by decide)
  have hc1 : Builtin.Int.intBits (n - 1000000000000000000 + 1) ≤ 1048578 := Nat.le_trans (intBits_add_le hc b1) (by decide)
  refine ⟨hc1, ?_⟩
  have hp := intBits_mul_le hw hc1
  have hs := intBits_add_le hp hc
  refine Nat.le_trans hs ?_
  rw [Nat.max_eq_left (by omega)]
  omega
theorem begun_loop {G s} {P : PEnds} {B : Nat} (hB1 : 1048579 ≤ B) (hB2 : 63 * B + 1048578 ≤ 134217728) : ∀ (ns acc : List Int) (w : Int) (st : Sl), acc.length + ns.length ≤ 63 → bitsOk ns → 0 ≤ w → Builtin.Int.intBits w ≤ acc.length * B →
    (∀ w' st', 0 ≤ w' → P.nx [s, .va (.int w'), .ow (.lst ((acc ++ ns).map D.int)), st']) →
    fo (gN 3) (fb__law_begun1 G) P (ns.map D.int) [s, .va (.int w), .ow (.lst (acc.map D.int)), st]
  | [], acc, w, st, _, _, h0, _, hq => by
    have := hq w st h0
    rw [List.append_nil] at this
    exact this
  | n :: ns, acc, w, st, hl, hb, h0, hw, hq => by
    rw [List.length_cons] at hl
    rw [List.map_cons]
    refine fo_intro fun W hW => ?_
    unfold fb__law_begun1
    walk_at "pu"
    refine ⟨⟨by decide, by decide, by decide⟩, ?_⟩
    have e1 : acc.map D.int ++ [D.int n] = (acc ++ [n]).map D.int := by rw [List.map_append]; rfl
    have hb' : bitsOk ns := fun z hz => hb z (List.mem_cons_of_mem _ hz)
    have hn := hb n List.mem_cons_self
    have hq' : ∀ w' st', 0 ≤ w' → P.nx [s, .va (.int w'), .ow (.lst (((acc ++ [n]) ++ ns).map D.int)), st'] := fun w' st' h => by
      have := hq w' st' h
      rw [List.append_assoc]; exact this
    have hacc : (acc ++ [n]).length = acc.length + 1 := by rw [List.length_append, List.length_singleton]
    cases e : decide ((10 : Int) ^ Int.toNat 18 ≤ n) with
    | false =>
      walk_at "pu"
      refine ⟨small1000 (by omega), ?_⟩
      rw [hW, e1]
      exact begun_loop hB1 hB2 ns (acc ++ [n]) w _ (by omega) hb' h0 (by rw [hacc, Nat.succ_mul]; exact Nat.le_trans hw (Nat.le_add_right _ _)) hq'
    | true =>
      have h18 := of_decide_eq_true e
      rw [p18] at h18
      walk_at "pu"
      rw [p18]
      obtain ⟨hc1, hs⟩ := begun_bits hw hn hB1
      have hm : acc.length * B ≤ 63 * B := Nat.mul_le_mul_right _ (by omega)
      refine ⟨⟨by decide, by decide, by decide⟩, IntMulOk.of_le hw hc1 (by omega), ⟨by decide, by decide, by decide⟩, small1000 (by omega), ?_⟩
      rw [hW, e1]
      refine begun_loop hB1 hB2 ns (acc ++ [n]) _ _ (by omega) hb' ?_ (by rw [hacc, Nat.succ_mul]; exact hs) hq'
      have := Int.mul_nonneg h0 (show 0 ≤ n - 1000000000000000000 + 1 by omega)
      omega
theorem p__law_begun {G} : Pure (c__law_begun G) (r__law_begun G) N__law_begun := fun ds Q X h => by
  match ds, h with
  | [.scr ns], ⟨hl, hb, h⟩ =>
    unfold r__law_begun
    walk_at "pu"
    refine ⟨by decide, ?_⟩
    refine begun_loop (B := 1048600) (by decide) (by decide) ns [] 0 _ (by rw [List.length_nil]; omega) hb (Int.le_refl _) (by decide +kernel) fun w' st' hw' => ?_
    unfold dDispK
    walk_at "pu"
    exact h w' hw'
end RP
set_option Elab.async false
set_option linter.all false
set_option maxRecDepth 100000
namespace RP
open PySem PySem.Spec PyProof.Rows L2 PL
local macro_rules | `(tactic| walk_at "pu") => `(tactic| simp only [decide_true, decide_false, Bool.not_true, Bool.not_false, startD, Nat.reduceAdd, Nat.reduceSub, List.replicate_zero, List.replicate_succ, List.map_cons, List.map_nil, List.length_cons, List.length_nil, List.length_map, List.length_replicate, List.cons_append, List.nil_append, true_and, and_true, dSeq, dNext, dRet, dRetN, dBrk, dCnt, dIf, dSet, dPar2, dPar3, mCons, mNil, dOp1, dOp2, dC, dTup, dLst, aCons, aNil, bTest, bAnd, bOr, bNot, bYes, dAnd, dOr, dNot, dIfE, dCall, dFor, dLc, iR1, iR2, iSeq, iEnD, iZpD, iScr, gN, dAsgT, dDrop, dRaise, dAppend, dPop, dNewT, dNewK, dCallK, dSl, pIt, pNo, dChain, dCaught, aC, dSl3, dCallV, pu_use_d, pu_use_olst, pu_peek_olst, pu_use_odK, pu_peek_odK, pu_use_odT, pu_peek_odT, pu_peek_d, pu_use_r, pu_peek_r, pu_var, pu_useS_va, pu_peekS_va, pu_varS_va, pu_varS_ow, pu_useS_lst, pu_peekS_lst, pu_useS_dK, pu_peekS_dK, pu_useS_dT, pu_peekS_dT, pu_get0, pu_getS, pu_set0, pu_setS, pu_wipe0, pu_wipeS, pu_asg_d, pu_asg_o, pu_asg_r, pu_fz_d, pu_fz_o, pu_fz_r, pu_toSl_d, pu_toSl_o, pu_isB, pu_qAdd, pu_qAddT, pu_qAddL, pu_qMul, pu_qMulT, pu_qMulL, pu_qSub, pu_qMod, pu_qDiv, pu_qPow, pu_qLt, pu_qLe, pu_qGt, pu_qGe, pu_qMax2, pu_qMin2, pu_qEq, pu_qNe, pu_qNeg, pu_qAbs, pu_qInt, pu_qLenT, pu_qLenL, pu_qLenS, pu_qLstT, pu_qLstL, pu_qTupT, pu_qTupL, pu_qSlT, pu_qSlL, pu_atL, pu_atLS, pu_gT, pu_gpC, pu_gpN, pu_ty_non, pu_ty_bl, pu_ty_int, pu_ty_str, pu_ty_tup, pu_ty_lst, pu_qEqS, pu_qNeS, pu_isi_non_int, pu_isi_non_bool, pu_isi_non_str, pu_isi_non_tuple, pu_isi_non_list, pu_isi_non_dict, pu_isi_bl_int, pu_isi_bl_bool, pu_isi_bl_str, pu_isi_bl_tuple, pu_isi_bl_list, pu_isi_bl_dict, pu_isi_int_int, pu_isi_int_bool, pu_isi_int_str, pu_isi_int_tuple, pu_isi_int_list, pu_isi_int_dict, pu_isi_str_int, pu_isi_str_bool, pu_isi_str_str, pu_isi_str_tuple, pu_isi_str_list, pu_isi_str_dict, pu_isi_tup_int, pu_isi_tup_bool, pu_isi_tup_str, pu_isi_tup_tuple, pu_isi_tup_list, pu_isi_tup_dict, pu_isi_lst_int, pu_isi_lst_bool, pu_isi_lst_str, pu_isi_lst_tuple, pu_isi_lst_list, pu_isi_lst_dict, pu_isi_dK_int, pu_isi_dK_bool, pu_isi_dK_str, pu_isi_dK_tuple, pu_isi_dK_list, pu_isi_dK_dict, pu_isi_dT_int, pu_isi_dT_bool, pu_isi_dT_str, pu_isi_dT_tuple, pu_isi_dT_list, pu_isi_dT_dict, pu_isn_non_false, pu_isn_non_true, pu_isn_bl_false, pu_isn_bl_true, pu_isn_int_false, pu_isn_int_true, pu_isn_str_false, pu_isn_str_true, pu_isn_tup_false, pu_isn_tup_true, pu_isn_lst_false, pu_isn_lst_true, pu_isn_dK_false, pu_isn_dK_true, pu_isn_dT_false, pu_isn_dT_true, pu_isn_exn_false, pu_isn_exn_true, pu_qReprB, pu_qReprN, pu_lamR_nil, pu_lamR_va, pu_lamR_ow, pu_lamR_no, pu_gT2, pu_gT3, pu_qSl3, pu_qSl3L, pu_qIsB])
local macro_rules | `(tactic| walk_at "pv") => `(tactic| simp -implicitDefEqProofs only [decide_true, decide_false, Bool.not_true, Bool.not_false, startD, Nat.reduceAdd, Nat.reduceSub, List.replicate_zero, List.replicate_succ, List.map_cons, List.map_nil, List.length_cons, List.length_nil, List.length_map, List.length_replicate, List.cons_append, List.nil_append, true_and, and_true, dSeq, dNext, dRet, dRetN, dBrk, dCnt, dIf, dSet, dPar2, dPar3, mCons, mNil, dOp1, dOp2, dC, dTup, dLst, aCons, aNil, bTest, bAnd, bOr, bNot, bYes, dAnd, dOr, dNot, dIfE, dCall, dFor, dLc, iR1, iR2, iSeq, iEnD, iZpD, iScr, gN, dAsgT, dDrop, dRaise, dAppend, dPop, dNewT, dNewK, dCallK, dSl, pIt, pNo, dChain, dCaught, aC, dSl3, dCallV, pu_use_d, pu_use_olst, pu_peek_olst, pu_use_odK, pu_peek_odK, pu_use_odT, pu_peek_odT, pu_peek_d, pu_use_r, pu_peek_r, pu_var, pu_useS_va, pu_peekS_va, pu_varS_va, pu_varS_ow, pu_useS_lst, pu_peekS_lst, pu_useS_dK, pu_peekS_dK, pu_useS_dT, pu_peekS_dT, pu_get0, pu_getS, pu_set0, pu_setS, pu_wipe0, pu_wipeS, pu_asg_d, pu_asg_o, pu_asg_r, pu_fz_d, pu_fz_o, pu_fz_r, pu_toSl_d, pu_toSl_o, pu_isB, pu_qAdd, pu_qAddT, pu_qAddL, pu_qMul, pu_qMulT, pu_qMulL, pu_qSub, pu_qMod, pu_qDiv, pu_qPow, pu_qLt, pu_qLe, pu_qGt, pu_qGe, pu_qMax2, pu_qMin2, pu_qEq, pu_qNe, pu_qNeg, pu_qAbs, pu_qInt, pu_qLenT, pu_qLenL, pu_qLenS, pu_qLstT, pu_qLstL, pu_qTupT, pu_qTupL, pu_qSlT, pu_qSlL, pu_atL, pu_atLS, pu_gT, pu_gpC, pu_gpN, pu_ty_non, pu_ty_bl, pu_ty_int, pu_ty_str, pu_ty_tup, pu_ty_lst, pu_qEqS, pu_qNeS, pu_isi_non_int, pu_isi_non_bool, pu_isi_non_str, pu_isi_non_tuple, pu_isi_non_list, pu_isi_non_dict, pu_isi_bl_int, pu_isi_bl_bool, pu_isi_bl_str, pu_isi_bl_tuple, pu_isi_bl_list, pu_isi_bl_dict, pu_isi_int_int, pu_isi_int_bool, pu_isi_int_str, pu_isi_int_tuple, pu_isi_int_list, pu_isi_int_dict, pu_isi_str_int, pu_isi_str_bool, pu_isi_str_str, pu_isi_str_tuple, pu_isi_str_list, pu_isi_str_dict, pu_isi_tup_int, pu_isi_tup_bool, pu_isi_tup_str, pu_isi_tup_tuple, pu_isi_tup_list, pu_isi_tup_dict, pu_isi_lst_int, pu_isi_lst_bool, pu_isi_lst_str, pu_isi_lst_tuple, pu_isi_lst_list, pu_isi_lst_dict, pu_isi_dK_int, pu_isi_dK_bool, pu_isi_dK_str, pu_isi_dK_tuple, pu_isi_dK_list, pu_isi_dK_dict, pu_isi_dT_int, pu_isi_dT_bool, pu_isi_dT_str, pu_isi_dT_tuple, pu_isi_dT_list, pu_isi_dT_dict, pu_isn_non_false, pu_isn_non_true, pu_isn_bl_false, pu_isn_bl_true, pu_isn_int_false, pu_isn_int_true, pu_isn_str_false, pu_isn_str_true, pu_isn_tup_false, pu_isn_tup_true, pu_isn_lst_false, pu_isn_lst_true, pu_isn_dK_false, pu_isn_dK_true, pu_isn_dT_false, pu_isn_dT_true, pu_isn_exn_false, pu_isn_exn_true, pu_qReprB, pu_qReprN, pu_lamR_nil, pu_lamR_va, pu_lamR_ow, pu_lamR_no, pu_gT2, pu_gT3, pu_qSl3, pu_qSl3L, pu_qIsB])
local macro_rules | `(tactic| walk_at "pw") => `(tactic| simp -underLambda only [decide_true, decide_false, Bool.not_true, Bool.not_false, startD, Nat.reduceAdd, Nat.reduceSub, List.replicate_zero, List.replicate_succ, List.map_cons, List.map_nil, List.length_cons, List.length_nil, List.length_map, List.length_replicate, List.cons_append, List.nil_append, true_and, and_true, dSeq, dNext, dRet, dRetN, dBrk, dCnt, dIf, dSet, dPar2, dPar3, mCons, mNil, dOp1, dOp2, dC, dTup, dLst, aCons, aNil, bTest, bAnd, bOr, bNot, bYes, dAnd, dOr, dNot, dIfE, dCall, dFor, dLc, iR1, iR2, iSeq, iEnD, iZpD, iScr, gN, dAsgT, dDrop, dRaise, dAppend, dPop, dNewT, dNewK, dCallK, dSl, pIt, pNo, dChain, dCaught, aC, dSl3, dCallV, pu_use_d, pu_use_olst, pu_peek_olst, pu_use_odK, pu_peek_odK, pu_use_odT, pu_peek_odT, pu_peek_d, pu_use_r, pu_peek_r, pu_var, pu_useS_va, pu_peekS_va, pu_varS_va, pu_varS_ow, pu_useS_lst, pu_peekS_lst, pu_useS_dK, pu_peekS_dK, pu_useS_dT, pu_peekS_dT, pu_get0, pu_getS, pu_set0, pu_setS, pu_wipe0, pu_wipeS, pu_asg_d, pu_asg_o, pu_asg_r, pu_fz_d, pu_fz_o, pu_fz_r, pu_toSl_d, pu_toSl_o, pu_isB, pu_qAdd, pu_qAddT, pu_qAddL, pu_qMul, pu_qMulT, pu_qMulL, pu_qSub, pu_qMod, pu_qDiv, pu_qPow, pu_qLt, pu_qLe, pu_qGt, pu_qGe, pu_qMax2, pu_qMin2, pu_qEq, pu_qNe, pu_qNeg, pu_qAbs, pu_qInt, pu_qLenT, pu_qLenL, pu_qLenS, pu_qLstT, pu_qLstL, pu_qTupT, pu_qTupL, pu_qSlT, pu_qSlL, pu_atL, pu_atLS, pu_gT, pu_gpC, pu_gpN, pu_ty_non, pu_ty_bl, pu_ty_int, pu_ty_str, pu_ty_tup, pu_ty_lst, pu_qEqS, pu_qNeS, pu_isi_non_int, pu_isi_non_bool, pu_isi_non_str, pu_isi_non_tuple, pu_isi_non_list, pu_isi_non_dict, pu_isi_bl_int, pu_isi_bl_bool, pu_isi_bl_str, pu_isi_bl_tuple, pu_isi_bl_list, pu_isi_bl_dict, pu_isi_int_int, pu_isi_int_bool, pu_isi_int_str, pu_isi_int_tuple, pu_isi_int_list, pu_isi_int_dict, pu_isi_str_int, pu_isi_str_bool, pu_isi_str_str, pu_isi_str_tuple, pu_isi_str_list, pu_isi_str_dict, pu_isi_tup_int, pu_isi_tup_bool, pu_isi_tup_str, pu_isi_tup_tuple, pu_isi_tup_list, pu_isi_tup_dict, pu_isi_lst_int, pu_isi_lst_bool, pu_isi_lst_str, pu_isi_lst_tuple, pu_isi_lst_list, pu_isi_lst_dict, pu_isi_dK_int, pu_isi_dK_bool, pu_isi_dK_str, pu_isi_dK_tuple, pu_isi_dK_list, pu_isi_dK_dict, pu_isi_dT_int, pu_isi_dT_bool, pu_isi_dT_str, pu_isi_dT_tuple, pu_isi_dT_list, pu_isi_dT_dict, pu_isn_non_false, pu_isn_non_true, pu_isn_bl_false, pu_isn_bl_true, pu_isn_int_false, pu_isn_int_true, pu_isn_str_false, pu_isn_str_true, pu_isn_tup_false, pu_isn_tup_true, pu_isn_lst_false, pu_isn_lst_true, pu_isn_dK_false, pu_isn_dK_true, pu_isn_dT_false, pu_isn_dT_true, pu_isn_exn_false, pu_isn_exn_true, pu_qReprB, pu_qReprN, pu_lamR_nil, pu_lamR_va, pu_lamR_ow, pu_lamR_no, pu_gT2, pu_gT3, pu_qSl3, pu_qSl3L, pu_qIsB])
def parts : D → List D
  | .tup l => l
  | .lst l => l
  | _ => []
def kName : D → D
  | .non => .str "None"
  | .bl b => .str (if b then "True" else "False")
  | .int _ => .str "number"
  | .str _ => .str "string"
  | .tup _ => .str "tuple"
  | .lst _ => .str "list"
  | _ => .non
mutual
def sz : D → Nat
  | .tup l => 1 + szL l
  | .lst l => 1 + szL l
  | _ => 1
def szL : List D → Nat
  | [] => 0
  | d :: l => sz d + szL l
end
mutual
def kin : D → Bool
  | .non => true
  | .bl _ => true
  | .int _ => true
  | .str _ => true
  | .tup l => kinL l
  | .lst l => kinL l
  | _ => false
def kinL : List D → Bool
  | [] => true
  | d :: l => kin d && kinL l
end
def kLoop : Nat → List D → List D → List D
  | 0, _, found => found
  | n + 1, line, found => match line.getLast? with
    | none => found
    | some d => kLoop n (line.dropLast ++ parts d) (found ++ [kName d])
theorem szL_append : ∀ (a b : List D), szL (a ++ b) = szL a + szL b
  | [], b => by show szL b = 0 + szL b; omega
  | d :: a, b => by
    show sz d + szL (a ++ b) = sz d + szL a + szL b
    rw [szL_append a b]; omega
theorem kinL_append : ∀ (a b : List D), kinL (a ++ b) = (kinL a && kinL b)
  | [], b => by show kinL b = (true && kinL b); rfl
  | d :: a, b => by
    show (kin d && kinL (a ++ b)) = ((kin d && kinL a) && kinL b)
    rw [kinL_append a b, Bool.and_assoc]
theorem sz_parts (d : D) : sz d = 1 + szL (parts d) := by
  cases d <;> rfl
theorem kin_parts {d : D} (h : kin d = true) : kinL (parts d) = true := by
  cases d <;> first | exact h | rfl
theorem szL_len : ∀ l : List D, l.length ≤ szL l
  | [] => Nat.le_refl _
  | d :: l => by
    have h := szL_len l
    have h2 := sz_parts d
    show l.length + 1 ≤ sz d + szL l
    omega
theorem last_split {l : List D} (h : l ≠ []) : ∃ d, l.getLast? = some d ∧ l = l.dropLast ++ [d] := ⟨l.getLast h, List.getLast?_eq_some_getLast h, (List.dropLast_concat_getLast h).symm⟩
theorem strOk_S (x : Str) (h : x.cps.all (· < 0x110000) = true) {n : Nat} : okN n (.str x) := ⟨rfl, by simpa [toP, PyData.canLay0, PyData.strOk] using h, by simp [toP, PyData.depth]⟩
theorem okN_kName {n : Nat} (d : D) : okN n (kName d) := by
  cases d with
  | bl b => cases b <;> exact strOk_S _ (by decide +kernel)
  | non => exact strOk_S _ (by decide +kernel)
  | int _ => exact strOk_S _ (by decide +kernel)
  | str _ => exact strOk_S _ (by decide +kernel)
  | tup _ => exact strOk_S _ (by decide +kernel)
  | lst _ => exact strOk_S _ (by decide +kernel)
  | _ => exact okN_non
theorem okN_kLoop {n : Nat} : ∀ (k : Nat) (line found : List D), (∀ d ∈ found, okN n d) → ∀ d ∈ kLoop k line found, okN n d
  | 0, _, _, h => h
  | k + 1, line, found, h => by
    unfold kLoop
    split
    · exact h
    · refine okN_kLoop k _ _ fun d hd => ?_
      rcases List.mem_append.mp hd with m | m
      · exact h d m
      · rw [List.mem_singleton.mp m]; exact okN_kName _
mutual
theorem okN_kin : ∀ {d : D}, kin d = true → plain d = true
  | .non, _ => rfl
  | .bl _, _ => rfl
  | .int _, _ => rfl
  | .str _, _ => rfl
  | .tup l, h => okN_kinL (show kinL l = true from h)
  | .lst l, h => okN_kinL (show kinL l = true from h)
  | .dK _, h => by cases h
  | .dT _, h => by cases h
  | .scr _, h => by cases h
  | .op _, h => by cases h
  | .draw, h => by cases h
  | .exn _, h => by cases h
theorem okN_kinL : ∀ {l : List D}, kinL l = true → plainL l = true
  | [], _ => rfl
  | d :: l, h => by
    have q : kin d = true ∧ kinL l = true := by simpa [kinL] using h
    show (plain d && plainL l) = true
    rw [okN_kin q.1, okN_kinL q.2]; rfl
end
def c__law_kinds (G : Str → Addr) : PC := fun ds Q _ => match ds with | [d] => kin d = true ∧ sz d ≤ 2000 ∧ okN 50 d ∧ Q (.lst (kLoop (sz d) [d] [])) | _ => False
def wc__law_kinds1 (G : Str → Addr) : TB :=
    bTest (dOp2 qNe (dVar 2) (dLst (aNil)))
def wb__law_kinds1 (G : Str → Addr) : TSt :=
    dSeq (dSet 3 (dPop (dVar 2)))
    (dIf (bOr (bTest (dOp2 (qIsi) (dVar 3) (dC (.op (.ty "bool"))))) (bTest (dOp2 (qIsN false) (dVar 3) (dC .non)))) (dDrop (dAppend (dVar 1) (dOp1 qRepr (dVar 3)))) (dIf (bTest (dOp2 (qIsi) (dVar 3) (dC (.op (.ty "int"))))) (dDrop (dAppend (dVar 1) (dC (.str "number")))) (dIf (bTest (dOp2 (qIsi) (dVar 3) (dC (.op (.ty "str"))))) (dDrop (dAppend (dVar 1) (dC (.str "string")))) (dIf (bOr (bTest (dOp2 (qIsi) (dVar 3) (dC (.op (.ty "list"))))) (bTest (dOp2 (qIsi) (dVar 3) (dC (.op (.ty "tuple")))))) (dSeq (dDrop (dAppend (dVar 1) (dIfE (bTest (dOp2 (qIsi) (dVar 3) (dC (.op (.ty "list"))))) (dC (.str "list")) (dC (.str "tuple")))))
    (dSet 2 (dOp2 qAdd (dVar 2) (dOp1 qList (dVar 3))))) (dIf (bTest (dOp2 (qIsi) (dVar 3) (dC (.op (.ty "dict"))))) (dSeq (dDrop (dAppend (dVar 1) (dC (.str "dict"))))
    (dNever)) (dDrop (dAppend (dVar 1) (dC (.str "other")))))))))
def r__law_kinds (G : Str → Addr) : TSt :=
    dSeq (dPar2 1 2 (mCons (dLst (aNil)) (mCons (dLst (aCons (dVar 0) (aNil))) (mNil))))
    (dSeq (dWhile (wc__law_kinds1 G) (wb__law_kinds1 G))
    (dRet (dVar 1)))
abbrev N__law_kinds : List Str := ["thing", "found", "line", "one", "key"]
theorem l__law_kinds {G : Str → Addr} : ∀ ds Q X, c__law_kinds G ds Q X → ds.length = 1 := fun ds _ _ h => by unfold c__law_kinds at h; split at h <;> first | rfl | exact h.elim
theorem okN_mono {n m : Nat} {d : D} (h : okN n d) (hm : n ≤ m) : okN m d := ⟨h.1, h.2.1, Nat.le_trans h.2.2 hm⟩
theorem okN_allR {n : Nat} : ∀ {l : List D}, plainL l = true → PyData.canLayAll0 (toPL l) = true → PyData.depthAll (toPL l) ≤ n → ∀ d ∈ l, okN n d
  | [], _, _, _ => fun d hd => nomatch hd
  | x :: l, h1, h2, h3 => fun d hd => by
    have a : plain x = true ∧ plainL l = true := by
      have q : (plain x && plainL l) = true := h1
      simpa using q
    have b : PyData.canLay0 (toP x) = true ∧ PyData.canLayAll0 (toPL l) = true := by
      have q : PyData.canLayAll0 (toP x :: toPL l) = true := h2
      simpa [PyData.canLayAll0] using q
    have c : (toP x).depth ≤ n ∧ PyData.depthAll (toPL l) ≤ n := by
      have q : PyData.depthAll (toP x :: toPL l) ≤ n := h3
      simp only [PyData.depthAll] at q
      exact ⟨by omega, by omega⟩
    rcases List.mem_cons.mp hd with e | e
    · rw [e]; exact ⟨a.1, b.1, c.1⟩
    · exact okN_allR a.2 b.2 c.2 d e
theorem okN_parts {n : Nat} {d : D} (h : okN n d) : ∀ x ∈ parts d, okN n x := by
  cases d with
  | tup l =>
    obtain ⟨a, b, c⟩ := h
    show ∀ x ∈ l, okN n x
    refine okN_allR a (by simpa [toP, PyData.canLay0] using b) ?_
    have q : PyData.depth (.tuple (toPL l)) ≤ n := c
    simp only [PyData.depth] at q
    omega
  | lst l =>
    obtain ⟨a, b, c⟩ := h
    show ∀ x ∈ l, okN n x
    refine okN_allR a (by simpa [toP, PyData.canLay0] using b) ?_
    have q : PyData.depth (.list (toPL l)) ≤ n := c
    simp only [PyData.depth] at q
    omega
  | _ => exact fun x hx => nomatch hx
theorem qNe_empty {n : Nat} {l : List D} {K : PL.Tm → Prop} (h0 : l ≠ []) (hx : okN n (.lst l)) (hn : n ≤ 64) (h : K (.d (.bl true))) : qNe (.lst l) (.lst []) K := by
  have e : deq (.lst l) (.lst []) = false := by
    cases l with
    | nil => exact absurd rfl h0
    | cons x l => rfl
  refine ⟨okN_okE hx hn, rfl, ?_⟩
  rw [e]; exact h
theorem kinds_loop {G t} {P : PEnds} : ∀ (fuel k : Nat) (line found : List D) (s3 : Sl), k < fuel → szL line = k → kinL line = true → (∀ d ∈ line, okN 50 d) → found.length + k ≤ 2000 → (k ≤ 2000) →
    (∀ l3, P.nx [.va t, .ow (.lst (kLoop k line found)), .ow (.lst []), l3, .no]) →
    wh (wc__law_kinds1 G) (wb__law_kinds1 G) P fuel [.va t, .ow (.lst found), .ow (.lst line), s3, .no]
  | 0, k, line, found, s3, hf, _, _, _, _, _, _ => by omega
  | fuel + 1, k, line, found, s3, hf, hs, hk, hN, hl, hk2, hq => by
    refine wh_intro fun W hW => ?_
    unfold wc__law_kinds1 wb__law_kinds1
    walk_at "pu"
    refine ⟨by decide, ?_⟩
    by_cases h0 : line = []
    · subst h0
      have e0 : k = 0 := hs.symm
      subst e0
      refine qNe_same (n := 51) rfl (okN_lst hN) (by decide) ?_
      exact hq _
    · refine qNe_empty h0 (okN_lst hN) (by decide) ?_
      obtain ⟨d, e1, e2⟩ := last_split h0
      have hsz : szL line = szL line.dropLast + sz d := by
        conv => lhs; rw [e2]
        rw [szL_append]; show _ + (sz d + 0) = _; omega
      have hkk : kinL line.dropLast = true ∧ kin d = true := by
        rw [e2, kinL_append] at hk
        have q : (kinL line.dropLast && (kin d && true)) = true := hk
        simpa using q
      have hd : okN 50 d := hN d (by rw [e2]; simp)
      have hN2 : ∀ x ∈ line.dropLast ++ parts d, okN 50 x := fun x hx => by
        rcases List.mem_append.mp hx with m | m
        · exact hN x (List.dropLast_subset _ m)
        · exact okN_parts hd x m
      have hp := sz_parts d
      have hlen : found.length < 4000 := by omega
      obtain ⟨k', rfl⟩ : ∃ k', k = k' + 1 := ⟨k - 1, by omega⟩
      have go : ∀ s3, W [.va t, .ow (.lst (found ++ [kName d])), .ow (.lst (line.dropLast ++ parts d)), s3, .no] := fun s3 => by
        rw [hW]
        refine kinds_loop fuel k' _ _ s3 (by omega) (by rw [szL_append]; omega) (by rw [kinL_append, hkk.1, kin_parts hkk.2]; rfl) hN2 (by rw [List.length_append, List.length_singleton]; omega) (by omega) fun l3 => ?_
        have q := hq l3
        unfold kLoop at q
        rw [e1] at q
        exact q
      have hL2 := szL_len line.dropLast
      have hL3 := szL_len (parts d)
      walk_at "pu"
      rw [e1]
      cases d <;> first | (exfalso; have := hkk.2; cases this; done) | skip
      all_goals walk_at "pu"
      · have q := go (.va .non); simp only [parts, List.append_nil] at q
        exact ⟨small1000' hlen, q⟩
      · have q := go (.va (.bl ‹Bool›)); simp only [parts, List.append_nil] at q
        exact ⟨small1000' hlen, q⟩
      · have q := go (.va (.int ‹Int›)); simp only [parts, List.append_nil] at q
        exact ⟨small1000' hlen, q⟩
      · have q := go (.va (.str ‹Str›)); simp only [parts, List.append_nil] at q
        exact ⟨small1000' hlen, q⟩
      · have q := go (.va (.tup ‹List D›)); simp only [parts] at q hL3 hp
        exact ⟨small1000' hlen, Nat.le_of_lt (small1000' (by omega)), q⟩
      · have q := go (.va (.lst ‹List D›)); simp only [parts] at q hL3 hp
        exact ⟨small1000' hlen, Nat.le_of_lt (small1000' (by omega)), q⟩
theorem p__law_kinds {G} : Pure (c__law_kinds G) (r__law_kinds G) N__law_kinds := fun ds Q X h => by
  match ds, h with
  | [d], ⟨h1, h2, h3, h⟩ =>
    unfold r__law_kinds
    walk_at "pu"
    refine ⟨by decide, by decide, ?_⟩
    refine ⟨sz d + 1, ?_⟩
    refine kinds_loop (sz d + 1) (sz d) [d] [] _ (Nat.lt_succ_self _) (by show sz d + 0 = sz d; omega) (by show (kin d && true) = true; rw [h1]; rfl) (fun x hx => by rw [List.mem_singleton.mp hx]; exact h3) (by show 0 + sz d ≤ 2000; omega) h2 fun l3 => ?_
    walk_at "pu"
    exact h
def c__law_says (G : Str → Addr) : PC := fun ds Q _ => match ds with | [a, b] => (a = b ∧ kin a = true ∧ sz a ≤ 2000 ∧ okN 50 a) ∧ Q (.bl true) | _ => False
def r__law_says (G : Str → Addr) : TSt :=
    dRet (dAnd (dOp2 qEq (dCall (c__law_kinds G) (aCons (dVar 0) (aNil))) (dCall (c__law_kinds G) (aCons (dVar 1) (aNil)))) (dOp2 qEq (dVar 0) (dVar 1)))
abbrev N__law_says : List Str := ["told", "due"]
theorem l__law_says {G : Str → Addr} : ∀ ds Q X, c__law_says G ds Q X → ds.length = 2 := fun ds _ _ h => by unfold c__law_says at h; split at h <;> first | rfl | exact h.elim
theorem p__law_says {G} : Pure (c__law_says G) (r__law_says G) N__law_says := fun ds Q X h => by
  match ds, h with
  | [a, b], ⟨⟨e, h1, h2, h3⟩, h⟩ =>
    subst e
    unfold r__law_says c__law_kinds
    walk_at "pu"
    refine ⟨h1, h2, h3, h1, h2, h3, ?_⟩
    refine qEq_same (n := 51) rfl (okN_lst (okN_kLoop _ _ _ fun _ z => nomatch z)) (by decide) ?_
    walk_at "pu"
    exact qEq_same rfl h3 (by decide) h
end RP
set_option Elab.async false
set_option linter.all false
set_option maxRecDepth 100000
namespace RP
open PySem PySem.Spec PyProof.Rows L2 PL
local macro_rules | `(tactic| walk_at "pu") => `(tactic| simp only [decide_true, decide_false, Bool.not_true, Bool.not_false, startD, Nat.reduceAdd, Nat.reduceSub, List.replicate_zero, List.replicate_succ, List.map_cons, List.map_nil, List.length_cons, List.length_nil, List.length_map, List.length_replicate, List.cons_append, List.nil_append, true_and, and_true, dSeq, dNext, dRet, dRetN, dBrk, dCnt, dIf, dSet, dPar2, dPar3, mCons, mNil, dOp1, dOp2, dC, dTup, dLst, aCons, aNil, bTest, bAnd, bOr, bNot, bYes, dAnd, dOr, dNot, dIfE, dCall, dFor, dLc, iR1, iR2, iSeq, iEnD, iZpD, iScr, gN, dAsgT, dDrop, dRaise, dAppend, dPop, dNewT, dNewK, dCallK, dSl, pIt, pNo, dChain, dCaught, aC, dSl3, dCallV, pu_use_d, pu_use_olst, pu_peek_olst, pu_use_odK, pu_peek_odK, pu_use_odT, pu_peek_odT, pu_peek_d, pu_use_r, pu_peek_r, pu_var, pu_useS_va, pu_peekS_va, pu_varS_va, pu_varS_ow, pu_useS_lst, pu_peekS_lst, pu_useS_dK, pu_peekS_dK, pu_useS_dT, pu_peekS_dT, pu_get0, pu_getS, pu_set0, pu_setS, pu_wipe0, pu_wipeS, pu_asg_d, pu_asg_o, pu_asg_r, pu_fz_d, pu_fz_o, pu_fz_r, pu_toSl_d, pu_toSl_o, pu_isB, pu_qAdd, pu_qAddT, pu_qAddL, pu_qMul, pu_qMulT, pu_qMulL, pu_qSub, pu_qMod, pu_qDiv, pu_qPow, pu_qLt, pu_qLe, pu_qGt, pu_qGe, pu_qMax2, pu_qMin2, pu_qEq, pu_qNe, pu_qNeg, pu_qAbs, pu_qInt, pu_qLenT, pu_qLenL, pu_qLenS, pu_qLstT, pu_qLstL, pu_qTupT, pu_qTupL, pu_qSlT, pu_qSlL, pu_atL, pu_atLS, pu_gT, pu_gpC, pu_gpN, pu_ty_non, pu_ty_bl, pu_ty_int, pu_ty_str, pu_ty_tup, pu_ty_lst, pu_qEqS, pu_qNeS, pu_isi_non_int, pu_isi_non_bool, pu_isi_non_str, pu_isi_non_tuple, pu_isi_non_list, pu_isi_non_dict, pu_isi_bl_int, pu_isi_bl_bool, pu_isi_bl_str, pu_isi_bl_tuple, pu_isi_bl_list, pu_isi_bl_dict, pu_isi_int_int, pu_isi_int_bool, pu_isi_int_str, pu_isi_int_tuple, pu_isi_int_list, pu_isi_int_dict, pu_isi_str_int, pu_isi_str_bool, pu_isi_str_str, pu_isi_str_tuple, pu_isi_str_list, pu_isi_str_dict, pu_isi_tup_int, pu_isi_tup_bool, pu_isi_tup_str, pu_isi_tup_tuple, pu_isi_tup_list, pu_isi_tup_dict, pu_isi_lst_int, pu_isi_lst_bool, pu_isi_lst_str, pu_isi_lst_tuple, pu_isi_lst_list, pu_isi_lst_dict, pu_isi_dK_int, pu_isi_dK_bool, pu_isi_dK_str, pu_isi_dK_tuple, pu_isi_dK_list, pu_isi_dK_dict, pu_isi_dT_int, pu_isi_dT_bool, pu_isi_dT_str, pu_isi_dT_tuple, pu_isi_dT_list, pu_isi_dT_dict, pu_isn_non_false, pu_isn_non_true, pu_isn_bl_false, pu_isn_bl_true, pu_isn_int_false, pu_isn_int_true, pu_isn_str_false, pu_isn_str_true, pu_isn_tup_false, pu_isn_tup_true, pu_isn_lst_false, pu_isn_lst_true, pu_isn_dK_false, pu_isn_dK_true, pu_isn_dT_false, pu_isn_dT_true, pu_isn_exn_false, pu_isn_exn_true, pu_qReprB, pu_qReprN, pu_lamR_nil, pu_lamR_va, pu_lamR_ow, pu_lamR_no, pu_gT2, pu_gT3, pu_qSl3, pu_qSl3L, pu_qIsB])
local macro_rules | `(tactic| walk_at "pv") => `(tactic| simp -implicitDefEqProofs only [decide_true, decide_false, Bool.not_true, Bool.not_false, startD, Nat.reduceAdd, Nat.reduceSub, List.replicate_zero, List.replicate_succ, List.map_cons, List.map_nil, List.length_cons, List.length_nil, List.length_map, List.length_replicate, List.cons_append, List.nil_append, true_and, and_true, dSeq, dNext, dRet, dRetN, dBrk, dCnt, dIf, dSet, dPar2, dPar3, mCons, mNil, dOp1, dOp2, dC, dTup, dLst, aCons, aNil, bTest, bAnd, bOr, bNot, bYes, dAnd, dOr, dNot, dIfE, dCall, dFor, dLc, iR1, iR2, iSeq, iEnD, iZpD, iScr, gN, dAsgT, dDrop, dRaise, dAppend, dPop, dNewT, dNewK, dCallK, dSl, pIt, pNo, dChain, dCaught, aC, dSl3, dCallV, pu_use_d, pu_use_olst, pu_peek_olst, pu_use_odK, pu_peek_odK, pu_use_odT, pu_peek_odT, pu_peek_d, pu_use_r, pu_peek_r, pu_var, pu_useS_va, pu_peekS_va, pu_varS_va, pu_varS_ow, pu_useS_lst, pu_peekS_lst, pu_useS_dK, pu_peekS_dK, pu_useS_dT, pu_peekS_dT, pu_get0, pu_getS, pu_set0, pu_setS, pu_wipe0, pu_wipeS, pu_asg_d, pu_asg_o, pu_asg_r, pu_fz_d, pu_fz_o, pu_fz_r, pu_toSl_d, pu_toSl_o, pu_isB, pu_qAdd, pu_qAddT, pu_qAddL, pu_qMul, pu_qMulT, pu_qMulL, pu_qSub, pu_qMod, pu_qDiv, pu_qPow, pu_qLt, pu_qLe, pu_qGt, pu_qGe, pu_qMax2, pu_qMin2, pu_qEq, pu_qNe, pu_qNeg, pu_qAbs, pu_qInt, pu_qLenT, pu_qLenL, pu_qLenS, pu_qLstT, pu_qLstL, pu_qTupT, pu_qTupL, pu_qSlT, pu_qSlL, pu_atL, pu_atLS, pu_gT, pu_gpC, pu_gpN, pu_ty_non, pu_ty_bl, pu_ty_int, pu_ty_str, pu_ty_tup, pu_ty_lst, pu_qEqS, pu_qNeS, pu_isi_non_int, pu_isi_non_bool, pu_isi_non_str, pu_isi_non_tuple, pu_isi_non_list, pu_isi_non_dict, pu_isi_bl_int, pu_isi_bl_bool, pu_isi_bl_str, pu_isi_bl_tuple, pu_isi_bl_list, pu_isi_bl_dict, pu_isi_int_int, pu_isi_int_bool, pu_isi_int_str, pu_isi_int_tuple, pu_isi_int_list, pu_isi_int_dict, pu_isi_str_int, pu_isi_str_bool, pu_isi_str_str, pu_isi_str_tuple, pu_isi_str_list, pu_isi_str_dict, pu_isi_tup_int, pu_isi_tup_bool, pu_isi_tup_str, pu_isi_tup_tuple, pu_isi_tup_list, pu_isi_tup_dict, pu_isi_lst_int, pu_isi_lst_bool, pu_isi_lst_str, pu_isi_lst_tuple, pu_isi_lst_list, pu_isi_lst_dict, pu_isi_dK_int, pu_isi_dK_bool, pu_isi_dK_str, pu_isi_dK_tuple, pu_isi_dK_list, pu_isi_dK_dict, pu_isi_dT_int, pu_isi_dT_bool, pu_isi_dT_str, pu_isi_dT_tuple, pu_isi_dT_list, pu_isi_dT_dict, pu_isn_non_false, pu_isn_non_true, pu_isn_bl_false, pu_isn_bl_true, pu_isn_int_false, pu_isn_int_true, pu_isn_str_false, pu_isn_str_true, pu_isn_tup_false, pu_isn_tup_true, pu_isn_lst_false, pu_isn_lst_true, pu_isn_dK_false, pu_isn_dK_true, pu_isn_dT_false, pu_isn_dT_true, pu_isn_exn_false, pu_isn_exn_true, pu_qReprB, pu_qReprN, pu_lamR_nil, pu_lamR_va, pu_lamR_ow, pu_lamR_no, pu_gT2, pu_gT3, pu_qSl3, pu_qSl3L, pu_qIsB])
local macro_rules | `(tactic| walk_at "pw") => `(tactic| simp -underLambda only [decide_true, decide_false, Bool.not_true, Bool.not_false, startD, Nat.reduceAdd, Nat.reduceSub, List.replicate_zero, List.replicate_succ, List.map_cons, List.map_nil, List.length_cons, List.length_nil, List.length_map, List.length_replicate, List.cons_append, List.nil_append, true_and, and_true, dSeq, dNext, dRet, dRetN, dBrk, dCnt, dIf, dSet, dPar2, dPar3, mCons, mNil, dOp1, dOp2, dC, dTup, dLst, aCons, aNil, bTest, bAnd, bOr, bNot, bYes, dAnd, dOr, dNot, dIfE, dCall, dFor, dLc, iR1, iR2, iSeq, iEnD, iZpD, iScr, gN, dAsgT, dDrop, dRaise, dAppend, dPop, dNewT, dNewK, dCallK, dSl, pIt, pNo, dChain, dCaught, aC, dSl3, dCallV, pu_use_d, pu_use_olst, pu_peek_olst, pu_use_odK, pu_peek_odK, pu_use_odT, pu_peek_odT, pu_peek_d, pu_use_r, pu_peek_r, pu_var, pu_useS_va, pu_peekS_va, pu_varS_va, pu_varS_ow, pu_useS_lst, pu_peekS_lst, pu_useS_dK, pu_peekS_dK, pu_useS_dT, pu_peekS_dT, pu_get0, pu_getS, pu_set0, pu_setS, pu_wipe0, pu_wipeS, pu_asg_d, pu_asg_o, pu_asg_r, pu_fz_d, pu_fz_o, pu_fz_r, pu_toSl_d, pu_toSl_o, pu_isB, pu_qAdd, pu_qAddT, pu_qAddL, pu_qMul, pu_qMulT, pu_qMulL, pu_qSub, pu_qMod, pu_qDiv, pu_qPow, pu_qLt, pu_qLe, pu_qGt, pu_qGe, pu_qMax2, pu_qMin2, pu_qEq, pu_qNe, pu_qNeg, pu_qAbs, pu_qInt, pu_qLenT, pu_qLenL, pu_qLenS, pu_qLstT, pu_qLstL, pu_qTupT, pu_qTupL, pu_qSlT, pu_qSlL, pu_atL, pu_atLS, pu_gT, pu_gpC, pu_gpN, pu_ty_non, pu_ty_bl, pu_ty_int, pu_ty_str, pu_ty_tup, pu_ty_lst, pu_qEqS, pu_qNeS, pu_isi_non_int, pu_isi_non_bool, pu_isi_non_str, pu_isi_non_tuple, pu_isi_non_list, pu_isi_non_dict, pu_isi_bl_int, pu_isi_bl_bool, pu_isi_bl_str, pu_isi_bl_tuple, pu_isi_bl_list, pu_isi_bl_dict, pu_isi_int_int, pu_isi_int_bool, pu_isi_int_str, pu_isi_int_tuple, pu_isi_int_list, pu_isi_int_dict, pu_isi_str_int, pu_isi_str_bool, pu_isi_str_str, pu_isi_str_tuple, pu_isi_str_list, pu_isi_str_dict, pu_isi_tup_int, pu_isi_tup_bool, pu_isi_tup_str, pu_isi_tup_tuple, pu_isi_tup_list, pu_isi_tup_dict, pu_isi_lst_int, pu_isi_lst_bool, pu_isi_lst_str, pu_isi_lst_tuple, pu_isi_lst_list, pu_isi_lst_dict, pu_isi_dK_int, pu_isi_dK_bool, pu_isi_dK_str, pu_isi_dK_tuple, pu_isi_dK_list, pu_isi_dK_dict, pu_isi_dT_int, pu_isi_dT_bool, pu_isi_dT_str, pu_isi_dT_tuple, pu_isi_dT_list, pu_isi_dT_dict, pu_isn_non_false, pu_isn_non_true, pu_isn_bl_false, pu_isn_bl_true, pu_isn_int_false, pu_isn_int_true, pu_isn_str_false, pu_isn_str_true, pu_isn_tup_false, pu_isn_tup_true, pu_isn_lst_false, pu_isn_lst_true, pu_isn_dK_false, pu_isn_dK_true, pu_isn_dT_false, pu_isn_dT_true, pu_isn_exn_false, pu_isn_exn_true, pu_qReprB, pu_qReprN, pu_lamR_nil, pu_lamR_va, pu_lamR_ow, pu_lamR_no, pu_gT2, pu_gT3, pu_qSl3, pu_qSl3L, pu_qIsB])
def c__law_row (G : Str → Addr) : PC := fun ds Q X => match ds with | [.draw, .int n] => 1 ≤ n ∧ n ≤ 24 ∧ ∀ r, Row r → (r.length : Int) ≤ n → Q (T r) | _ => False
def r__law_row (G : Str → Addr) : TSt :=
    dSeq (dPar2 2 3 (mCons (dOp2 qAdd (dC (.int 1)) (dCall (c__law_take G) (aCons (dVar 0) (aCons (dVar 1) (aNil))))) (mCons (dCall (c__law_take G) (aCons (dVar 0) (aCons (dC (.int 7)) (aNil)))) (mNil))))
    (dSeq (dIf (bTest (dOp2 qEq (dVar 3) (dC (.int 0)))) (dSeq (dSet 4 (dCall (c__law_pick G) (aCons (dVar 0) (aCons (dLst (aCons (dC (.int 1)) (aCons (dC (.int 1)) (aCons (dC (.int 5)) (aCons (dC (.int 999)) (aNil)))))) (aNil)))))
    (dRet (dOp1 qTuple (dLc (iR1 (dVar 2)) (gN 7) (bYes) (dCall (c__law_pick G) (aCons (dVar 0) (aCons (dLst (aCons (dC (.int 0)) (aCons (dVar 4) (aNil)))) (aNil)))) [7])))) (dNext))
    (dSeq (dIf (bTest (dOp2 qEq (dVar 3) (dC (.int 1)))) (dRet (dOp2 qMul (dTup (aCons (dCall (c__law_take G) (aCons (dVar 0) (aCons (dC (.int 1000)) (aNil)))) (aNil))) (dVar 2))) (dNext))
    (dSeq (dIf (bTest (dOp2 qEq (dVar 3) (dC (.int 2)))) (dSeq (dSet 5 (dOp2 qAdd (dC (.int 1)) (dCall (c__law_take G) (aCons (dVar 0) (aCons (dC (.int 60)) (aNil))))))
    (dRet (dOp1 qTuple (dLc (iR1 (dVar 2)) (gN 7) (bYes) (dOp2 qMul (dVar 5) (dCall (c__law_take G) (aCons (dVar 0) (aCons (dC (.int 16)) (aNil))))) [7])))) (dNext))
    (dSeq (dSet 6 (dCall (c__law_pick G) (aCons (dVar 0) (aCons (dLst (aC [(.int 3), (.int 10), (.int 30), (.int 100), (.int 1000)])) (aNil)))))
    (dRet (dOp1 qTuple (dLc (iR1 (dVar 2)) (gN 7) (bYes) (dCall (c__law_take G) (aCons (dVar 0) (aCons (dVar 6) (aNil)))) [7])))))))
abbrev N__law_row : List Str := ["draw", "most", "many", "way", "high", "often", "top", "place"]
theorem l__law_row {G : Str → Addr} : ∀ ds Q X, c__law_row G ds Q X → ds.length = 2 := fun ds _ _ h => by unfold c__law_row at h; split at h <;> first | rfl | exact h.elim
theorem row_of {ns : List Int} {k : Nat} (h1 : 1 ≤ k) (h2 : k ≤ 24) (hl : ns.length = k) (h : ∀ n ∈ ns, 0 ≤ n ∧ n ≤ 999) : Row ns := ⟨by omega, by omega, h⟩
theorem p__law_row {G} : Pure (c__law_row G) (r__law_row G) N__law_row := fun ds Q X h => by
  match ds, h with
  | [.draw, .int n], ⟨h1, h2, h⟩ =>
    unfold r__law_row c__law_take
    walk_at "pu"
    refine ⟨by omega, fun z hz0 hz1 hz2 => ⟨by decide, fun y hy0 _ hy2 => ?_⟩⟩
    obtain ⟨k, rfl⟩ : ∃ k : Nat, z = (k : Int) - 1 := ⟨(z + 1).toNat, by omega⟩
    have hk1 : 1 ≤ k := by omega
    have hkn : (k : Int) ≤ n := by
      by_cases e : n < 2
      · have := hz1 e; omega
      · have := hz2 (by omega); omega
    have hk2 : k ≤ 24 := by omega
    rw [show (1 : Int) + ((k : Int) - 1) = (k : Int) by omega]
    have fin : ∀ xs : List D, (∃ ns : List Int, xs = ns.map D.int ∧ ns.length = k ∧ ∀ n ∈ ns, 0 ≤ n ∧ n ≤ 999) → Q (.tup xs) := by
      rintro _ ⟨ns, rfl, e, q⟩
      exact h ns (row_of hk1 hk2 e q) (by omega)
    cases e0 : decide (y = 0) with
    | true =>
      walk_at "pu"
      refine ⟨by decide, ?_⟩
      refine pick_ints (ns := [1, 1, 5, 999]) (by decide) (by decide) fun hi hhi => ?_
      have hh : 0 ≤ hi ∧ hi ≤ 999 := by
        simp only [List.mem_cons, List.not_mem_nil, or_false] at hhi
        omega
      refine ⟨⟨by omega, by omega⟩, ?_⟩
      refine lc_rel (R := fun _ x => ∃ i, x = .int i ∧ (0 ≤ i ∧ i ≤ 999)) (by rw [rng0, List.length_map, List.length_map, List.length_range, List.length_nil]; omega) (fun d hd J hJ => ?_) fun xs hx => ?_
      · walk_at "pu"
        refine ⟨by decide, ?_⟩
        refine pick_ints (ns := [0, hi]) (by show 1 ≤ 2; decide) (by show 2 ≤ 4000; decide) fun v hv => ?_
        exact hJ _ ⟨v, rfl, by simp only [List.mem_cons, List.not_mem_nil, or_false] at hv; omega⟩
      · obtain ⟨ns, e, l, q⟩ := all2_ints (P := fun i => 0 ≤ i ∧ i ≤ 999) (fun d x ⟨i, e, p⟩ => ⟨i, e, p⟩) hx
        rw [rng0, List.length_map, List.length_map, List.length_range] at l
        exact fin xs ⟨ns, e, l, q⟩
    | false =>
      cases e1 : decide (y = 1) with
      | true =>
        walk_at "pu"
        refine ⟨by decide, fun v h0 _ h3 => ⟨by decide, ⟨by omega, by omega, by decide⟩, ?_⟩⟩
        rw [Int.toNat_natCast, rep_ints]
        refine fin _ ⟨List.replicate k v, rfl, List.length_replicate, fun n hn => ?_⟩
        rw [List.eq_of_mem_replicate hn]
        have := h3 (by decide)
        omega
      | false =>
        cases e2 : decide (y = 2) with
        | true =>
          walk_at "pu"
          refine ⟨by decide, fun o h0 _ h3 => ⟨⟨by omega, by omega⟩, ?_⟩⟩
          have ho := h3 (by decide)
          refine lc_rel (R := fun _ x => ∃ i, x = .int i ∧ (0 ≤ i ∧ i ≤ 999)) (by rw [rng0, List.length_map, List.length_map, List.length_range, List.length_nil]; omega) (fun d hd J hJ => ?_) fun xs hx => ?_
          · walk_at "pu"
            refine ⟨by decide, fun v v0 _ v3 => ?_⟩
            have hv := v3 (by decide)
            have b1 : (1 + o) * v ≤ 60 * 15 := Int.mul_le_mul (by omega) (by omega) v0 (by decide)
            have b2 : 0 ≤ (1 + o) * v := Int.mul_nonneg (by omega) v0
            refine ⟨cmul_l ⟨by omega, by omega⟩, hJ _ ⟨_, rfl, b2, by omega⟩⟩
          · obtain ⟨ns, e, l, q⟩ := all2_ints (P := fun i => 0 ≤ i ∧ i ≤ 999) (fun d x ⟨i, e, p⟩ => ⟨i, e, p⟩) hx
            rw [rng0, List.length_map, List.length_map, List.length_range] at l
            exact fin xs ⟨ns, e, l, q⟩
        | false =>
          walk_at "pu"
          refine ⟨by decide, ?_⟩
          refine pick_ints (ns := [3, 10, 30, 100, 1000]) (by decide) (by decide) fun hi hhi => ?_
          have hh : 3 ≤ hi ∧ hi ≤ 1000 := by
            simp only [List.mem_cons, List.not_mem_nil, or_false] at hhi
            omega
          refine ⟨⟨by omega, by omega⟩, ?_⟩
          refine lc_rel (R := fun _ x => ∃ i, x = .int i ∧ (0 ≤ i ∧ i ≤ 999)) (by rw [rng0, List.length_map, List.length_map, List.length_range, List.length_nil]; omega) (fun d hd J hJ => ?_) fun xs hx => ?_
          · walk_at "pu"
            refine ⟨by omega, fun v v0 _ v3 => ?_⟩
            have hv := v3 (by omega)
            exact hJ _ ⟨v, rfl, by omega⟩
          · obtain ⟨ns, e, l, q⟩ := all2_ints (P := fun i => 0 ≤ i ∧ i ≤ 999) (fun d x ⟨i, e, p⟩ => ⟨i, e, p⟩) hx
            rw [rng0, List.length_map, List.length_map, List.length_range] at l
            exact fin xs ⟨ns, e, l, q⟩
theorem pick_all {G} {l : List D} {B : D → Bool} {Q : D → Prop} {X : Exn → Prop} (h1 : 1 ≤ l.length) (h2 : l.length ≤ 4000) (hB : l.all B = true) (h : ∀ d, B d = true → Q d) : c__law_pick G [.draw, .lst l] Q X :=
  ⟨⟨l, .inl rfl, h1, h2⟩, fun x hx => h x (List.all_eq_true.mp hB x hx)⟩
def kndB : D → Bool
  | .tup l => decide (l.length ≤ 4000) && l.all fun e => (tyD e).isSome
  | d => (tyD d).isSome
theorem knd_of {d : D} (h : kndB d = true) : Knd d := by
  cases d with
  | tup l =>
    have q : l.length ≤ 4000 ∧ (l.all fun e => (tyD e).isSome) = true := by
      have q : (decide (l.length ≤ 4000) && l.all fun e => (tyD e).isSome) = true := h
      rw [Bool.and_eq_true] at q
      exact ⟨of_decide_eq_true q.1, q.2⟩
    exact ⟨rfl, fun l' e => by
      cases e
      exact ⟨q.1, fun e he => List.all_eq_true.mp q.2 e he⟩⟩
  | _ => exact ⟨h, fun l e => by cases e⟩
def c__law_no_row (G : Str → Addr) : PC := fun ds Q X => match ds with | [.draw] => ∀ d, Knd d → isRow d = false → Q d | _ => False
def r__law_no_row (G : Str → Addr) : TSt :=
    dRet (dCall (c__law_pick G) (aCons (dVar 0) (aCons (dLst (aC [.non, (.int 5), (.str "1"), (.tup []), (.lst [(.int 1)]), (.tup [(.int (-1))]), (.tup [(.int 1000)]), (.tup [(.bl true), (.int 1)]), (.tup [(.str "1")]), (.tup [(.int 1), .non]), (.tup [(.int 1), (.int 1), (.int 1), (.int 1), (.int 1), (.int 1), (.int 1), (.int 1), (.int 1), (.int 1), (.int 1), (.int 1), (.int 1), (.int 1), (.int 1), (.int 1), (.int 1), (.int 1), (.int 1), (.int 1), (.int 1), (.int 1), (.int 1), (.int 1), (.int 1)]), (.dK []), (.tup [(.tup [(.int 1)])])])) (aNil))))
abbrev N__law_no_row : List Str := ["draw"]
theorem l__law_no_row {G : Str → Addr} : ∀ ds Q X, c__law_no_row G ds Q X → ds.length = 1 := fun ds _ _ h => by unfold c__law_no_row at h; split at h <;> first | rfl | exact h.elim
theorem p__law_no_row {G} : Pure (c__law_no_row G) (r__law_no_row G) N__law_no_row := fun ds Q X h => by
  match ds, h with
  | [.draw], h =>
    unfold r__law_no_row
    walk_at "pu"
    refine ⟨by decide, ?_⟩
    refine pick_all (B := fun d => kndB d && !isRow d) (by decide) (by decide) (by decide +kernel) fun d hd => ?_
    rw [Bool.and_eq_true] at hd
    exact h d (knd_of hd.1) (by simpa using hd.2)
theorem kinL_T : ∀ rs : List (List Int), kinL (rs.map T) = true
  | [] => rfl
  | r :: rs => by
    show (kin (T r) && kinL (rs.map T)) = true
    rw [kinL_T rs]
    have h : ∀ ns : List Int, kinL (ns.map D.int) = true := fun ns => by
      induction ns with
      | nil => rfl
      | cons n ns ih => exact ih
    have e : kin (T r) = true := h r
    rw [e]; rfl
theorem szL_ints : ∀ ns : List Int, szL (ns.map D.int) = ns.length
  | [] => rfl
  | n :: ns => by
    show sz (.int n) + szL (ns.map D.int) = ns.length + 1
    rw [szL_ints ns]
    show 1 + ns.length = _
    omega
theorem sz_T (r : List Int) : sz (T r) = 1 + r.length := by
  show 1 + szL (r.map D.int) = _
  rw [szL_ints]
theorem szL_T {n : Nat} : ∀ rs : List (List Int), (∀ r ∈ rs, r.length ≤ n) → szL (rs.map T) ≤ rs.length * (1 + n)
  | [], _ => by show 0 ≤ _; omega
  | r :: rs, h => by
    show sz (T r) + szL (rs.map T) ≤ _
    have ih := szL_T rs fun x hx => h x (List.mem_cons_of_mem _ hx)
    have h1 := h r List.mem_cons_self
    rw [sz_T, List.length_cons, Nat.add_mul]
    omega
theorem u_says {G} {rs : List (List Int)} {a b : D} {Q : D → Prop} {X : Exn → Prop} (ea : a = .lst (rs.map T)) (eb : b = .lst (rs.map T)) (hl : rs.length ≤ 40) (h : ∀ r ∈ rs, r.length ≤ 40) (hq : Q (.bl true)) : c__law_says G [a, b] Q X := by
  subst ea eb
  refine ⟨⟨rfl, kinL_T rs, ?_, ?_⟩, hq⟩
  · have q := szL_T rs h
    have q2 : rs.length * (1 + 40) ≤ 40 * 41 := Nat.mul_le_mul_right _ hl
    show 1 + szL (rs.map T) ≤ 2000
    omega
  · refine okN_mono (n := 3) (okN_lst (n := 2) fun d hd => ?_) (by decide)
    obtain ⟨r, _, rfl⟩ := List.mem_map.mp hd
    exact okN_T _
theorem u_saysT {G} {r : List Int} {a b : D} {Q : D → Prop} {X : Exn → Prop} (ea : a = T r) (eb : b = T r) (h : r.length ≤ 40) (hq : Q (.bl true)) : c__law_says G [a, b] Q X := by
  subst ea eb
  have hk : kin (T r) = true := by
    have := kinL_T [r]
    simpa [kinL] using this
  refine ⟨⟨rfl, hk, by rw [sz_T]; omega, okN_mono (n := 2) (okN_T _) (by decide)⟩, hq⟩
theorem u_take {G} {n : Int} {Q : D → Prop} {X : Exn → Prop} (h : n < 2 ^ 64) (hq : ∀ z, 0 ≤ z → (n < 2 → z = 0) → (2 ≤ n → z < n) → Q (.int z)) : c__law_take G [.draw, .int n] Q X := ⟨h, hq⟩
theorem u_row {G} {n : Int} {Q : D → Prop} {X : Exn → Prop} (h1 : 1 ≤ n) (h2 : n ≤ 24) (hq : ∀ r, Row r → (r.length : Int) ≤ n → Q (T r)) : c__law_row G [.draw, .int n] Q X := ⟨h1, h2, hq⟩
theorem noR {d : D} (hr : isRow d = false) : ∀ r, d = T r → ¬ Row r := fun r e h => by
  subst e
  rw [isRow_T.mpr h] at hr
  cases hr
theorem u_isE {G} {EX : List Str} {n : Str} {K : PL.Tm → Prop} (hn : n ∈ EX) (h : K (.d (.bl true))) : qIsE G EX (.exn (G n)) (.op (.ref (G n))) K := ⟨n, n, rfl, rfl, hn, hn, by
  have e : subX n n = true := by unfold subX; simp
  rw [e]; exact h⟩
theorem cpow_18 : CPow 10 18 := ⟨by decide, by decide, by decide⟩
theorem lc_filter {g : TGp} {tt : TB} {te : TD} {vs : List Nat} {ρ0 : Rho} (p : Int → Bool) (f : Int → Int) {ns : List Int} {K : List D → Prop} (hl : ns.length ≤ 4000)
    (h : ∀ n ∈ ns, ∀ (J : D → Prop) (Jf : Prop), (p n = true → J (.int (f n))) → (p n = false → Jf) → g (.int n) ρ0 fun ρ2 => tt ρ2 (fun b ρ3 => match b with
      | true => te ρ3 (fun m ρ4 => use m ρ4 fun x ρ5 => wipeR ρ5 vs = ρ0 ∧ J x) noX
      | false => wipeR ρ3 vs = ρ0 ∧ Jf) noX) (hk : K (((ns.filter p).map f).map D.int)) : lcq g tt te vs ρ0 (ns.map D.int) [] K := by
  refine lc_gen (R := fun d o => ∃ n, d = .int n ∧ o = if p n then some (.int (f n)) else none) (by rw [List.length_map, List.length_nil]; omega) (fun d hd J Jf h1 h2 => ?_) fun xs hx => ?_
  · obtain ⟨n, hn, rfl⟩ := List.mem_map.mp hd
    exact h n hn J Jf (fun e => h1 _ ⟨n, rfl, by rw [e]; rfl⟩) fun e => h2 ⟨n, rfl, by rw [e]; rfl⟩
  · have e : xs.filterMap id = ((ns.filter p).map f).map D.int := by
      clear hk h hl
      induction ns generalizing xs with
      | nil => cases hx; rfl
      | cons n ns ih =>
        rw [List.map_cons] at hx
        cases hx with
        | cons a b =>
          obtain ⟨n', e1, e2⟩ := a
          cases e1
          rw [e2]
          cases e3 : p n with
          | true =>
            rw [List.filter_cons_of_pos e3, List.map_cons, List.map_cons, ← ih _ b]
            simp
          | false =>
            rw [List.filter_cons_of_neg (by rw [e3]; exact Bool.false_ne_true), ← ih _ b]
            simp
    rw [List.nil_append, e]
    exact hk
end RP
set_option Elab.async false
set_option linter.all false
set_option maxRecDepth 100000
namespace RP
open PySem PySem.Spec PyProof.Rows L2 PL
local macro_rules | `(tactic| walk_at "pu") => `(tactic| simp only [decide_true, decide_false, Bool.not_true, Bool.not_false, startD, Nat.reduceAdd, Nat.reduceSub, List.replicate_zero, List.replicate_succ, List.map_cons, List.map_nil, List.length_cons, List.length_nil, List.length_map, List.length_replicate, List.cons_append, List.nil_append, true_and, and_true, dSeq, dNext, dRet, dRetN, dBrk, dCnt, dIf, dSet, dPar2, dPar3, mCons, mNil, dOp1, dOp2, dC, dTup, dLst, aCons, aNil, bTest, bAnd, bOr, bNot, bYes, dAnd, dOr, dNot, dIfE, dCall, dFor, dLc, iR1, iR2, iSeq, iEnD, iZpD, iScr, gN, dAsgT, dDrop, dRaise, dAppend, dPop, dNewT, dNewK, dCallK, dSl, pIt, pNo, dChain, dCaught, aC, dSl3, dCallV, pu_use_d, pu_use_olst, pu_peek_olst, pu_use_odK, pu_peek_odK, pu_use_odT, pu_peek_odT, pu_peek_d, pu_use_r, pu_peek_r, pu_var, pu_useS_va, pu_peekS_va, pu_varS_va, pu_varS_ow, pu_useS_lst, pu_peekS_lst, pu_useS_dK, pu_peekS_dK, pu_useS_dT, pu_peekS_dT, pu_get0, pu_getS, pu_set0, pu_setS, pu_wipe0, pu_wipeS, pu_asg_d, pu_asg_o, pu_asg_r, pu_fz_d, pu_fz_o, pu_fz_r, pu_toSl_d, pu_toSl_o, pu_isB, pu_qAdd, pu_qAddT, pu_qAddL, pu_qMul, pu_qMulT, pu_qMulL, pu_qSub, pu_qMod, pu_qDiv, pu_qPow, pu_qLt, pu_qLe, pu_qGt, pu_qGe, pu_qMax2, pu_qMin2, pu_qEq, pu_qNe, pu_qNeg, pu_qAbs, pu_qInt, pu_qLenT, pu_qLenL, pu_qLenS, pu_qLstT, pu_qLstL, pu_qTupT, pu_qTupL, pu_qSlT, pu_qSlL, pu_atL, pu_atLS, pu_gT, pu_gpC, pu_gpN, pu_ty_non, pu_ty_bl, pu_ty_int, pu_ty_str, pu_ty_tup, pu_ty_lst, pu_qEqS, pu_qNeS, pu_isi_non_int, pu_isi_non_bool, pu_isi_non_str, pu_isi_non_tuple, pu_isi_non_list, pu_isi_non_dict, pu_isi_bl_int, pu_isi_bl_bool, pu_isi_bl_str, pu_isi_bl_tuple, pu_isi_bl_list, pu_isi_bl_dict, pu_isi_int_int, pu_isi_int_bool, pu_isi_int_str, pu_isi_int_tuple, pu_isi_int_list, pu_isi_int_dict, pu_isi_str_int, pu_isi_str_bool, pu_isi_str_str, pu_isi_str_tuple, pu_isi_str_list, pu_isi_str_dict, pu_isi_tup_int, pu_isi_tup_bool, pu_isi_tup_str, pu_isi_tup_tuple, pu_isi_tup_list, pu_isi_tup_dict, pu_isi_lst_int, pu_isi_lst_bool, pu_isi_lst_str, pu_isi_lst_tuple, pu_isi_lst_list, pu_isi_lst_dict, pu_isi_dK_int, pu_isi_dK_bool, pu_isi_dK_str, pu_isi_dK_tuple, pu_isi_dK_list, pu_isi_dK_dict, pu_isi_dT_int, pu_isi_dT_bool, pu_isi_dT_str, pu_isi_dT_tuple, pu_isi_dT_list, pu_isi_dT_dict, pu_isn_non_false, pu_isn_non_true, pu_isn_bl_false, pu_isn_bl_true, pu_isn_int_false, pu_isn_int_true, pu_isn_str_false, pu_isn_str_true, pu_isn_tup_false, pu_isn_tup_true, pu_isn_lst_false, pu_isn_lst_true, pu_isn_dK_false, pu_isn_dK_true, pu_isn_dT_false, pu_isn_dT_true, pu_isn_exn_false, pu_isn_exn_true, pu_qReprB, pu_qReprN, pu_lamR_nil, pu_lamR_va, pu_lamR_ow, pu_lamR_no, pu_gT2, pu_gT3, pu_qSl3, pu_qSl3L, pu_qIsB])
local macro_rules | `(tactic| walk_at "pv") => `(tactic| simp -implicitDefEqProofs only [decide_true, decide_false, Bool.not_true, Bool.not_false, startD, Nat.reduceAdd, Nat.reduceSub, List.replicate_zero, List.replicate_succ, List.map_cons, List.map_nil, List.length_cons, List.length_nil, List.length_map, List.length_replicate, List.cons_append, List.nil_append, true_and, and_true, dSeq, dNext, dRet, dRetN, dBrk, dCnt, dIf, dSet, dPar2, dPar3, mCons, mNil, dOp1, dOp2, dC, dTup, dLst, aCons, aNil, bTest, bAnd, bOr, bNot, bYes, dAnd, dOr, dNot, dIfE, dCall, dFor, dLc, iR1, iR2, iSeq, iEnD, iZpD, iScr, gN, dAsgT, dDrop, dRaise, dAppend, dPop, dNewT, dNewK, dCallK, dSl, pIt, pNo, dChain, dCaught, aC, dSl3, dCallV, pu_use_d, pu_use_olst, pu_peek_olst, pu_use_odK, pu_peek_odK, pu_use_odT, pu_peek_odT, pu_peek_d, pu_use_r, pu_peek_r, pu_var, pu_useS_va, pu_peekS_va, pu_varS_va, pu_varS_ow, pu_useS_lst, pu_peekS_lst, pu_useS_dK, pu_peekS_dK, pu_useS_dT, pu_peekS_dT, pu_get0, pu_getS, pu_set0, pu_setS, pu_wipe0, pu_wipeS, pu_asg_d, pu_asg_o, pu_asg_r, pu_fz_d, pu_fz_o, pu_fz_r, pu_toSl_d, pu_toSl_o, pu_isB, pu_qAdd, pu_qAddT, pu_qAddL, pu_qMul, pu_qMulT, pu_qMulL, pu_qSub, pu_qMod, pu_qDiv, pu_qPow, pu_qLt, pu_qLe, pu_qGt, pu_qGe, pu_qMax2, pu_qMin2, pu_qEq, pu_qNe, pu_qNeg, pu_qAbs, pu_qInt, pu_qLenT, pu_qLenL, pu_qLenS, pu_qLstT, pu_qLstL, pu_qTupT, pu_qTupL, pu_qSlT, pu_qSlL, pu_atL, pu_atLS, pu_gT, pu_gpC, pu_gpN, pu_ty_non, pu_ty_bl, pu_ty_int, pu_ty_str, pu_ty_tup, pu_ty_lst, pu_qEqS, pu_qNeS, pu_isi_non_int, pu_isi_non_bool, pu_isi_non_str, pu_isi_non_tuple, pu_isi_non_list, pu_isi_non_dict, pu_isi_bl_int, pu_isi_bl_bool, pu_isi_bl_str, pu_isi_bl_tuple, pu_isi_bl_list, pu_isi_bl_dict, pu_isi_int_int, pu_isi_int_bool, pu_isi_int_str, pu_isi_int_tuple, pu_isi_int_list, pu_isi_int_dict, pu_isi_str_int, pu_isi_str_bool, pu_isi_str_str, pu_isi_str_tuple, pu_isi_str_list, pu_isi_str_dict, pu_isi_tup_int, pu_isi_tup_bool, pu_isi_tup_str, pu_isi_tup_tuple, pu_isi_tup_list, pu_isi_tup_dict, pu_isi_lst_int, pu_isi_lst_bool, pu_isi_lst_str, pu_isi_lst_tuple, pu_isi_lst_list, pu_isi_lst_dict, pu_isi_dK_int, pu_isi_dK_bool, pu_isi_dK_str, pu_isi_dK_tuple, pu_isi_dK_list, pu_isi_dK_dict, pu_isi_dT_int, pu_isi_dT_bool, pu_isi_dT_str, pu_isi_dT_tuple, pu_isi_dT_list, pu_isi_dT_dict, pu_isn_non_false, pu_isn_non_true, pu_isn_bl_false, pu_isn_bl_true, pu_isn_int_false, pu_isn_int_true, pu_isn_str_false, pu_isn_str_true, pu_isn_tup_false, pu_isn_tup_true, pu_isn_lst_false, pu_isn_lst_true, pu_isn_dK_false, pu_isn_dK_true, pu_isn_dT_false, pu_isn_dT_true, pu_isn_exn_false, pu_isn_exn_true, pu_qReprB, pu_qReprN, pu_lamR_nil, pu_lamR_va, pu_lamR_ow, pu_lamR_no, pu_gT2, pu_gT3, pu_qSl3, pu_qSl3L, pu_qIsB])
local macro_rules | `(tactic| walk_at "pw") => `(tactic| simp -underLambda only [decide_true, decide_false, Bool.not_true, Bool.not_false, startD, Nat.reduceAdd, Nat.reduceSub, List.replicate_zero, List.replicate_succ, List.map_cons, List.map_nil, List.length_cons, List.length_nil, List.length_map, List.length_replicate, List.cons_append, List.nil_append, true_and, and_true, dSeq, dNext, dRet, dRetN, dBrk, dCnt, dIf, dSet, dPar2, dPar3, mCons, mNil, dOp1, dOp2, dC, dTup, dLst, aCons, aNil, bTest, bAnd, bOr, bNot, bYes, dAnd, dOr, dNot, dIfE, dCall, dFor, dLc, iR1, iR2, iSeq, iEnD, iZpD, iScr, gN, dAsgT, dDrop, dRaise, dAppend, dPop, dNewT, dNewK, dCallK, dSl, pIt, pNo, dChain, dCaught, aC, dSl3, dCallV, pu_use_d, pu_use_olst, pu_peek_olst, pu_use_odK, pu_peek_odK, pu_use_odT, pu_peek_odT, pu_peek_d, pu_use_r, pu_peek_r, pu_var, pu_useS_va, pu_peekS_va, pu_varS_va, pu_varS_ow, pu_useS_lst, pu_peekS_lst, pu_useS_dK, pu_peekS_dK, pu_useS_dT, pu_peekS_dT, pu_get0, pu_getS, pu_set0, pu_setS, pu_wipe0, pu_wipeS, pu_asg_d, pu_asg_o, pu_asg_r, pu_fz_d, pu_fz_o, pu_fz_r, pu_toSl_d, pu_toSl_o, pu_isB, pu_qAdd, pu_qAddT, pu_qAddL, pu_qMul, pu_qMulT, pu_qMulL, pu_qSub, pu_qMod, pu_qDiv, pu_qPow, pu_qLt, pu_qLe, pu_qGt, pu_qGe, pu_qMax2, pu_qMin2, pu_qEq, pu_qNe, pu_qNeg, pu_qAbs, pu_qInt, pu_qLenT, pu_qLenL, pu_qLenS, pu_qLstT, pu_qLstL, pu_qTupT, pu_qTupL, pu_qSlT, pu_qSlL, pu_atL, pu_atLS, pu_gT, pu_gpC, pu_gpN, pu_ty_non, pu_ty_bl, pu_ty_int, pu_ty_str, pu_ty_tup, pu_ty_lst, pu_qEqS, pu_qNeS, pu_isi_non_int, pu_isi_non_bool, pu_isi_non_str, pu_isi_non_tuple, pu_isi_non_list, pu_isi_non_dict, pu_isi_bl_int, pu_isi_bl_bool, pu_isi_bl_str, pu_isi_bl_tuple, pu_isi_bl_list, pu_isi_bl_dict, pu_isi_int_int, pu_isi_int_bool, pu_isi_int_str, pu_isi_int_tuple, pu_isi_int_list, pu_isi_int_dict, pu_isi_str_int, pu_isi_str_bool, pu_isi_str_str, pu_isi_str_tuple, pu_isi_str_list, pu_isi_str_dict, pu_isi_tup_int, pu_isi_tup_bool, pu_isi_tup_str, pu_isi_tup_tuple, pu_isi_tup_list, pu_isi_tup_dict, pu_isi_lst_int, pu_isi_lst_bool, pu_isi_lst_str, pu_isi_lst_tuple, pu_isi_lst_list, pu_isi_lst_dict, pu_isi_dK_int, pu_isi_dK_bool, pu_isi_dK_str, pu_isi_dK_tuple, pu_isi_dK_list, pu_isi_dK_dict, pu_isi_dT_int, pu_isi_dT_bool, pu_isi_dT_str, pu_isi_dT_tuple, pu_isi_dT_list, pu_isi_dT_dict, pu_isn_non_false, pu_isn_non_true, pu_isn_bl_false, pu_isn_bl_true, pu_isn_int_false, pu_isn_int_true, pu_isn_str_false, pu_isn_str_true, pu_isn_tup_false, pu_isn_tup_true, pu_isn_lst_false, pu_isn_lst_true, pu_isn_dK_false, pu_isn_dK_true, pu_isn_dT_false, pu_isn_dT_true, pu_isn_exn_false, pu_isn_exn_true, pu_qReprB, pu_qReprN, pu_lamR_nil, pu_lamR_va, pu_lamR_ow, pu_lamR_no, pu_gT2, pu_gT3, pu_qSl3, pu_qSl3L, pu_qIsB])
def c_two_power (G : Str → Addr) : PC := fun ds Q X => match ds with | [.int n] => ∃ k : Nat, n = (k : Int) ∧ 1 ≤ k ∧ k ≤ 1000 ∧ Q (.int (twoP k : Nat)) | _ => False
def wc_two_power1 (G : Str → Addr) : TB :=
    bTest (dOp2 qEq (dOp2 qMod (dVar 0) (dOp2 qMul (dVar 1) (dC (.int 2)))) (dC (.int 0)))
def wb_two_power1 (G : Str → Addr) : TSt :=
    dSet 1 (dOp2 qMul (dVar 1) (dC (.int 2)))
def r_two_power (G : Str → Addr) : TSt :=
    dSeq (dSet 1 (dC (.int 1)))
    (dSeq (dWhile (wc_two_power1 G) (wb_two_power1 G))
    (dRet (dVar 1)))
abbrev N_two_power : List Str := ["many", "found"]
theorem l_two_power {G : Str → Addr} : ∀ ds Q X, c_two_power G ds Q X → ds.length = 1 := fun ds _ _ h => by unfold c_two_power at h; split at h <;> first | rfl | exact h.elim
theorem tp_loop {G} {P : PEnds} {k : Nat} (hk : 1 ≤ k) : ∀ (fu f : Nat), 1 ≤ f → k < f * 2 ^ (fu + 1) → P.nx [.va (.int k), .va (.int (tpG fu k f : Nat))] → wh (wc_two_power1 G) (wb_two_power1 G) P (fu + 1) [.va (.int k), .va (.int f)]
  | 0, f, hf, hlt, hq => by
    refine wh_intro fun W hW => ?_
    unfold wc_two_power1 wb_two_power1
    walk_at "pu"
    refine ⟨cmul_r (two64 rfl), by omega, ?_⟩
    have e : ((k : Int) % ((f : Int) * 2)) = k := Int.emod_eq_of_lt (by omega) (by omega)
    rw [e, decide_eq_false (by omega)]
    exact hq
  | fu + 1, f, hf, hlt, hq => by
    refine wh_intro fun W hW => ?_
    unfold wc_two_power1 wb_two_power1
    walk_at "pu"
    refine ⟨cmul_r (two64 rfl), by omega, ?_⟩
    have e : ((k : Int) % ((f : Int) * 2)) = ((k % (f * 2) : Nat) : Int) := by rw [Int.natCast_emod, Int.natCast_mul]; rfl
    rw [e]
    unfold tpG at hq
    by_cases h : k % (f * 2) = 0
    · rw [decide_eq_true (by omega)]
      rw [if_pos h] at hq
      refine ⟨cmul_r (two64 rfl), ?_⟩
      rw [hW, show (f : Int) * 2 = ((f * 2 : Nat) : Int) by omega]
      exact tp_loop hk fu (f * 2) (by omega) (by rw [show f * 2 * 2 ^ (fu + 1) = f * 2 ^ (fu + 1 + 1) by rw [Nat.pow_succ 2 (fu + 1), Nat.mul_assoc, Nat.mul_comm 2]]; exact hlt) hq
    · rw [decide_eq_false (by omega)]
      rw [if_neg h] at hq
      exact hq
theorem two_lt (k : Nat) : k < 1 * 2 ^ (k + 1) := by
  rw [Nat.one_mul, Nat.pow_succ]
  have : k < 2 ^ k := Nat.lt_two_pow_self
  omega
theorem p_two_power {G} : Pure (c_two_power G) (r_two_power G) N_two_power := fun ds Q X h => by
  match ds, h with
  | [.int _], ⟨k, rfl, h1, h2, h⟩ =>
    unfold r_two_power
    walk_at "pu"
    exact ⟨k + 1, tp_loop h1 k 1 (by omega) (two_lt k) h⟩
def c__law_two_power (G : Str → Addr) : PC := fun ds Q X => match ds with | [.int n] => ∃ k : Nat, n = (k : Int) ∧ 1 ≤ k ∧ k ≤ 1000 ∧ Q (.int (twoP k : Nat)) | _ => False
def wc__law_two_power1 (G : Str → Addr) : TB :=
    bTest (dOp2 qEq (dOp2 qMod (dOp1 qInt (dVar 0)) (dOp2 qMul (dVar 1) (dC (.int 2)))) (dC (.int 0)))
def wb__law_two_power1 (G : Str → Addr) : TSt :=
    dSet 1 (dOp2 qMul (dVar 1) (dC (.int 2)))
def r__law_two_power (G : Str → Addr) : TSt :=
    dSeq (dSet 1 (dC (.int 1)))
    (dSeq (dWhile (wc__law_two_power1 G) (wb__law_two_power1 G))
    (dRet (dVar 1)))
abbrev N__law_two_power : List Str := ["many", "found"]
theorem l__law_two_power {G : Str → Addr} : ∀ ds Q X, c__law_two_power G ds Q X → ds.length = 1 := fun ds _ _ h => by unfold c__law_two_power at h; split at h <;> first | rfl | exact h.elim
theorem ltp_loop {G} {P : PEnds} {k : Nat} (hk : 1 ≤ k) : ∀ (fu f : Nat), 1 ≤ f → k < f * 2 ^ (fu + 1) → P.nx [.va (.int k), .va (.int (tpG fu k f : Nat))] → wh (wc__law_two_power1 G) (wb__law_two_power1 G) P (fu + 1) [.va (.int k), .va (.int f)]
  | 0, f, hf, hlt, hq => by
    refine wh_intro fun W hW => ?_
    unfold wc__law_two_power1 wb__law_two_power1
    walk_at "pu"
    refine ⟨cmul_r (two64 rfl), by omega, ?_⟩
    have e : ((k : Int) % ((f : Int) * 2)) = k := Int.emod_eq_of_lt (by omega) (by omega)
    rw [e, decide_eq_false (by omega)]
    exact hq
  | fu + 1, f, hf, hlt, hq => by
    refine wh_intro fun W hW => ?_
    unfold wc__law_two_power1 wb__law_two_power1
    walk_at "pu"
    refine ⟨cmul_r (two64 rfl), by omega, ?_⟩
    have e : ((k : Int) % ((f : Int) * 2)) = ((k % (f * 2) : Nat) : Int) := by rw [Int.natCast_emod, Int.natCast_mul]; rfl
    rw [e]
    unfold tpG at hq
    by_cases h : k % (f * 2) = 0
    · rw [decide_eq_true (by omega)]
      rw [if_pos h] at hq
      refine ⟨cmul_r (two64 rfl), ?_⟩
      rw [hW, show (f : Int) * 2 = ((f * 2 : Nat) : Int) by omega]
      exact ltp_loop hk fu (f * 2) (by omega) (by rw [show f * 2 * 2 ^ (fu + 1) = f * 2 ^ (fu + 1 + 1) by rw [Nat.pow_succ 2 (fu + 1), Nat.mul_assoc, Nat.mul_comm 2]]; exact hlt) hq
    · rw [decide_eq_false (by omega)]
      rw [if_neg h] at hq
      exact hq
theorem p__law_two_power {G} : Pure (c__law_two_power G) (r__law_two_power G) N__law_two_power := fun ds Q X h => by
  match ds, h with
  | [.int _], ⟨k, rfl, h1, h2, h⟩ =>
    unfold r__law_two_power
    walk_at "pu"
    exact ⟨k + 1, ltp_loop h1 k 1 (by omega) (two_lt k) h⟩
theorem pmt_map {α β : Type} (f : α → β) (idx : List Nat) (l : List α) : PL.pmt idx (l.map f) = (PL.pmt idx l).map f := by
  unfold PL.pmt
  rw [List.map_filterMap]
  congr 1
  funext i
  rw [List.getElem?_map]
theorem cutS_map {α β : Type} (f : α → β) (l : List α) (lo hi st : Option Int) : HT.cutS (l.map f) lo hi st = (HT.cutS l lo hi st).map f := by
  rw [HT.cutS_idx, HT.cutS_idx, List.length_map, pmt_map]
theorem clsL_le {r : List Int} {w q p : Nat} (hr : r.length = w * q) (hp : p < w) (hq : 1 ≤ q) : (clsL r w p).length ≤ r.length := by
  rw [clsL_eq hr hp hq, List.length_map, List.length_range, hr]
  exact Nat.le_mul_of_pos_left q (by omega)
def c_in_round_by (G : Str → Addr) : PC := fun ds Q X => match ds with | [.tup l] => ∃ r, l = r.map D.int ∧ 1 ≤ r.length ∧ r.length ≤ 1000 ∧ Q (.bl (inRB r)) | _ => False
def r_in_round_by (G : Str → Addr) : TSt :=
    dSeq (dSet 1 (dCall (c_two_power G) (aCons (dOp1 qLen (dVar 0)) (aNil))))
    (dSeq (dIf (bNot (bTest (dCall (c_is_twos_by G) (aCons (dVar 0) (aNil))))) (dRet (dC (.bl false))) (dNext))
    (dRet (dOp1 qAll (dLc (iR1 (dVar 1)) (gN 3) (bYes) (dOp2 qEq (dOp2 qMod (dOp1 qLen (dLc (iSeq (dSl3 (dVar 0) (pIt (dVar 3)) (pNo) (pIt (dVar 1)))) (gN 2) (bTest (dOp2 qNe (dVar 2) (dC (.int 0)))) (dVar 2) [2])) (dC (.int 2))) (dC (.int 0))) [3]))))
abbrev N_in_round_by : List Str := ["row", "wide", "number", "rest"]
theorem l_in_round_by {G : Str → Addr} : ∀ ds Q X, c_in_round_by G ds Q X → ds.length = 1 := fun ds _ _ h => by unfold c_in_round_by at h; split at h <;> first | rfl | exact h.elim
theorem p_in_round_by {G} : Pure (c_in_round_by G) (r_in_round_by G) N_in_round_by := fun ds Q X h => by
  match ds, h with
  | [.tup _], ⟨r, rfl, h0, h1, h⟩ =>
    unfold r_in_round_by c_two_power c_is_twos_by
    obtain ⟨e, q, he, hq, ho⟩ := twoP_spec h0
    have hw1 := twoP_pos h0
    have hw2 := twoP_le h0
    walk_at "pu"
    refine ⟨r.length, rfl, h0, h1, r, rfl, h0, h1, ?_⟩
    unfold inRB at h
    cases e : isTwosL r with
    | false =>
      rw [e] at h
      walk_at "pu"
      exact h
    | true =>
      rw [e, Bool.true_and] at h
      walk_at "pu"
      refine ⟨⟨by omega, by omega⟩, ?_⟩
      rw [rng0]
      refine lc_map (fun d => match d with | .int p => .bl (decide (cntL (clsL r (twoP r.length) p.toNat) % 2 = 0)) | d => d) (by rw [List.length_map, List.length_map, List.length_range]; omega) (fun d hd J hJ => ?_) ?_
      · obtain ⟨i, hi, rfl⟩ := List.mem_map.mp hd
        obtain ⟨p, hp, rfl⟩ := List.mem_map.mp hi
        have hp := List.mem_range.mp hp
        walk_at "pu"
        have hle := clsL_le hq hp (by omega)
        have hc : HT.cutS (r.map D.int) (some (p : Int)) none (some (twoP r.length : Int)) = (clsL r (twoP r.length) p).map D.int := cutS_map _ _ _ _ _
        rw [hc]
        refine ⟨by show (twoP r.length : Int) ≠ 0; omega, by rw [List.length_map, sizeLine_eq]; omega, ?_⟩
        refine lc_filter (fun n => decide (n ≠ 0)) id (by omega) (fun n hn J Jf h1 h2 => ?_) ?_
        · walk_at "pu"
          by_cases e : n = 0
          · rw [decide_eq_true e]
            exact h2 (by simpa using e)
          · rw [decide_eq_false e]
            exact h1 (by simpa using e)
        · rw [List.map_id]
          walk_at "pu"
          refine ⟨by decide, ?_⟩
          have e2 : decide ((((clsL r (twoP r.length) p).filter fun n => decide (n ≠ 0)).length : Int) % 2 = 0) = decide (cntL (clsL r (twoP r.length) p) % 2 = 0) := by
            unfold cntL
            rw [decide_eq_decide]
            omega
          rw [e2]
          exact hJ
      · show (match asBl _ with | some bs => Q (.bl (bs.all fun b => b)) | none => False)
        rw [List.map_map, List.map_map]
        have e3 := asBl_map ((List.range (twoP r.length)).map fun p => decide (cntL (clsL r (twoP r.length) p) % 2 = 0))
        rw [List.map_map] at e3
        have e4 : ((fun d : D => match d with | .int p => .bl (decide (cntL (clsL r (twoP r.length) p.toNat) % 2 = 0)) | d => d) ∘ D.int) ∘ (fun i : Nat => (i : Int)) = D.bl ∘ fun p => decide (cntL (clsL r (twoP r.length) p) % 2 = 0) := by
          funext p
          rfl
        rw [e4, e3]
        show Q (.bl (((List.range (twoP r.length)).map fun p => decide (cntL (clsL r (twoP r.length) p) % 2 = 0)).all fun b => b))
        rw [List.all_map]
        exact h
def c_is_in_round (G : Str → Addr) : PC := fun ds Q X => match ds with | [d] => Knd d ∧ (isRow d = false → X ⟨G "BadRow", []⟩) ∧ (∀ r, d = T r → Row r → Q (.bl (inRB r))) | _ => False
def r_is_in_round (G : Str → Addr) : TSt :=
    dSeq (dDrop (dCall (c_need_row G) (aCons (dVar 0) (aCons (dC (.str "row")) (aNil)))))
    (dRet (dCall (c_in_round_by G) (aCons (dVar 0) (aNil))))
abbrev N_is_in_round : List Str := ["row"]
theorem l_is_in_round {G : Str → Addr} : ∀ ds Q X, c_is_in_round G ds Q X → ds.length = 1 := fun ds _ _ h => by unfold c_is_in_round at h; split at h <;> first | rfl | exact h.elim
theorem p_is_in_round {G} : Pure (c_is_in_round G) (r_is_in_round G) N_is_in_round := fun ds Q X h => by
  match ds, h with
  | [d], ⟨h1, h2, h3⟩ =>
    unfold r_is_in_round c_need_row c_in_round_by
    walk_at "pu"
    refine ⟨h1, .inl trivial, fun hr => ?_, fun hr => by rw [badRow]; exact h2 hr⟩
    obtain ⟨r, rfl, hR⟩ := isRow_ex hr
    walk_at "pu"
    exact ⟨r, rfl, hR.1, by have := hR.2.1; omega, h3 r rfl hR⟩
theorem u_in_round {G r} {Q : D → Prop} {X : Exn → Prop} (hr : Row r) (h : Q (.bl (inRB r))) : c_is_in_round G [T r] Q X :=
  ⟨knd_T r (row_len hr), fun e => (by rw [isRow_T.mpr hr] at e; cases e), fun r' e _ => by rw [← T_inj e]; exact h⟩
theorem u_in_round_R {G d} {Q : D → Prop} {X : Exn → Prop} (hk : Knd d) (hr : isRow d = false) (hx : X ⟨G "BadRow", []⟩) : c_is_in_round G [d] Q X := ⟨hk, fun _ => hx, fun r e h => (noR hr r e h).elim⟩
end RP
set_option Elab.async false
set_option linter.all false
set_option maxRecDepth 100000
namespace RP
open PySem PySem.Spec PyProof.Rows L2 PL
local macro_rules | `(tactic| walk_at "pu") => `(tactic| simp only [decide_true, decide_false, Bool.not_true, Bool.not_false, startD, Nat.reduceAdd, Nat.reduceSub, List.replicate_zero, List.replicate_succ, List.map_cons, List.map_nil, List.length_cons, List.length_nil, List.length_map, List.length_replicate, List.cons_append, List.nil_append, true_and, and_true, dSeq, dNext, dRet, dRetN, dBrk, dCnt, dIf, dSet, dPar2, dPar3, mCons, mNil, dOp1, dOp2, dC, dTup, dLst, aCons, aNil, bTest, bAnd, bOr, bNot, bYes, dAnd, dOr, dNot, dIfE, dCall, dFor, dLc, iR1, iR2, iSeq, iEnD, iZpD, iScr, gN, dAsgT, dDrop, dRaise, dAppend, dPop, dNewT, dNewK, dCallK, dSl, pIt, pNo, dChain, dCaught, aC, dSl3, dCallV, pu_use_d, pu_use_olst, pu_peek_olst, pu_use_odK, pu_peek_odK, pu_use_odT, pu_peek_odT, pu_peek_d, pu_use_r, pu_peek_r, pu_var, pu_useS_va, pu_peekS_va, pu_varS_va, pu_varS_ow, pu_useS_lst, pu_peekS_lst, pu_useS_dK, pu_peekS_dK, pu_useS_dT, pu_peekS_dT, pu_get0, pu_getS, pu_set0, pu_setS, pu_wipe0, pu_wipeS, pu_asg_d, pu_asg_o, pu_asg_r, pu_fz_d, pu_fz_o, pu_fz_r, pu_toSl_d, pu_toSl_o, pu_isB, pu_qAdd, pu_qAddT, pu_qAddL, pu_qMul, pu_qMulT, pu_qMulL, pu_qSub, pu_qMod, pu_qDiv, pu_qPow, pu_qLt, pu_qLe, pu_qGt, pu_qGe, pu_qMax2, pu_qMin2, pu_qEq, pu_qNe, pu_qNeg, pu_qAbs, pu_qInt, pu_qLenT, pu_qLenL, pu_qLenS, pu_qLstT, pu_qLstL, pu_qTupT, pu_qTupL, pu_qSlT, pu_qSlL, pu_atL, pu_atLS, pu_gT, pu_gpC, pu_gpN, pu_ty_non, pu_ty_bl, pu_ty_int, pu_ty_str, pu_ty_tup, pu_ty_lst, pu_qEqS, pu_qNeS, pu_isi_non_int, pu_isi_non_bool, pu_isi_non_str, pu_isi_non_tuple, pu_isi_non_list, pu_isi_non_dict, pu_isi_bl_int, pu_isi_bl_bool, pu_isi_bl_str, pu_isi_bl_tuple, pu_isi_bl_list, pu_isi_bl_dict, pu_isi_int_int, pu_isi_int_bool, pu_isi_int_str, pu_isi_int_tuple, pu_isi_int_list, pu_isi_int_dict, pu_isi_str_int, pu_isi_str_bool, pu_isi_str_str, pu_isi_str_tuple, pu_isi_str_list, pu_isi_str_dict, pu_isi_tup_int, pu_isi_tup_bool, pu_isi_tup_str, pu_isi_tup_tuple, pu_isi_tup_list, pu_isi_tup_dict, pu_isi_lst_int, pu_isi_lst_bool, pu_isi_lst_str, pu_isi_lst_tuple, pu_isi_lst_list, pu_isi_lst_dict, pu_isi_dK_int, pu_isi_dK_bool, pu_isi_dK_str, pu_isi_dK_tuple, pu_isi_dK_list, pu_isi_dK_dict, pu_isi_dT_int, pu_isi_dT_bool, pu_isi_dT_str, pu_isi_dT_tuple, pu_isi_dT_list, pu_isi_dT_dict, pu_isn_non_false, pu_isn_non_true, pu_isn_bl_false, pu_isn_bl_true, pu_isn_int_false, pu_isn_int_true, pu_isn_str_false, pu_isn_str_true, pu_isn_tup_false, pu_isn_tup_true, pu_isn_lst_false, pu_isn_lst_true, pu_isn_dK_false, pu_isn_dK_true, pu_isn_dT_false, pu_isn_dT_true, pu_isn_exn_false, pu_isn_exn_true, pu_qReprB, pu_qReprN, pu_lamR_nil, pu_lamR_va, pu_lamR_ow, pu_lamR_no, pu_gT2, pu_gT3, pu_qSl3, pu_qSl3L, pu_qIsB])
local macro_rules | `(tactic| walk_at "pv") => `(tactic| simp -implicitDefEqProofs only [decide_true, decide_false, Bool.not_true, Bool.not_false, startD, Nat.reduceAdd, Nat.reduceSub, List.replicate_zero, List.replicate_succ, List.map_cons, List.map_nil, List.length_cons, List.length_nil, List.length_map, List.length_replicate, List.cons_append, List.nil_append, true_and, and_true, dSeq, dNext, dRet, dRetN, dBrk, dCnt, dIf, dSet, dPar2, dPar3, mCons, mNil, dOp1, dOp2, dC, dTup, dLst, aCons, aNil, bTest, bAnd, bOr, bNot, bYes, dAnd, dOr, dNot, dIfE, dCall, dFor, dLc, iR1, iR2, iSeq, iEnD, iZpD, iScr, gN, dAsgT, dDrop, dRaise, dAppend, dPop, dNewT, dNewK, dCallK, dSl, pIt, pNo, dChain, dCaught, aC, dSl3, dCallV, pu_use_d, pu_use_olst, pu_peek_olst, pu_use_odK, pu_peek_odK, pu_use_odT, pu_peek_odT, pu_peek_d, pu_use_r, pu_peek_r, pu_var, pu_useS_va, pu_peekS_va, pu_varS_va, pu_varS_ow, pu_useS_lst, pu_peekS_lst, pu_useS_dK, pu_peekS_dK, pu_useS_dT, pu_peekS_dT, pu_get0, pu_getS, pu_set0, pu_setS, pu_wipe0, pu_wipeS, pu_asg_d, pu_asg_o, pu_asg_r, pu_fz_d, pu_fz_o, pu_fz_r, pu_toSl_d, pu_toSl_o, pu_isB, pu_qAdd, pu_qAddT, pu_qAddL, pu_qMul, pu_qMulT, pu_qMulL, pu_qSub, pu_qMod, pu_qDiv, pu_qPow, pu_qLt, pu_qLe, pu_qGt, pu_qGe, pu_qMax2, pu_qMin2, pu_qEq, pu_qNe, pu_qNeg, pu_qAbs, pu_qInt, pu_qLenT, pu_qLenL, pu_qLenS, pu_qLstT, pu_qLstL, pu_qTupT, pu_qTupL, pu_qSlT, pu_qSlL, pu_atL, pu_atLS, pu_gT, pu_gpC, pu_gpN, pu_ty_non, pu_ty_bl, pu_ty_int, pu_ty_str, pu_ty_tup, pu_ty_lst, pu_qEqS, pu_qNeS, pu_isi_non_int, pu_isi_non_bool, pu_isi_non_str, pu_isi_non_tuple, pu_isi_non_list, pu_isi_non_dict, pu_isi_bl_int, pu_isi_bl_bool, pu_isi_bl_str, pu_isi_bl_tuple, pu_isi_bl_list, pu_isi_bl_dict, pu_isi_int_int, pu_isi_int_bool, pu_isi_int_str, pu_isi_int_tuple, pu_isi_int_list, pu_isi_int_dict, pu_isi_str_int, pu_isi_str_bool, pu_isi_str_str, pu_isi_str_tuple, pu_isi_str_list, pu_isi_str_dict, pu_isi_tup_int, pu_isi_tup_bool, pu_isi_tup_str, pu_isi_tup_tuple, pu_isi_tup_list, pu_isi_tup_dict, pu_isi_lst_int, pu_isi_lst_bool, pu_isi_lst_str, pu_isi_lst_tuple, pu_isi_lst_list, pu_isi_lst_dict, pu_isi_dK_int, pu_isi_dK_bool, pu_isi_dK_str, pu_isi_dK_tuple, pu_isi_dK_list, pu_isi_dK_dict, pu_isi_dT_int, pu_isi_dT_bool, pu_isi_dT_str, pu_isi_dT_tuple, pu_isi_dT_list, pu_isi_dT_dict, pu_isn_non_false, pu_isn_non_true, pu_isn_bl_false, pu_isn_bl_true, pu_isn_int_false, pu_isn_int_true, pu_isn_str_false, pu_isn_str_true, pu_isn_tup_false, pu_isn_tup_true, pu_isn_lst_false, pu_isn_lst_true, pu_isn_dK_false, pu_isn_dK_true, pu_isn_dT_false, pu_isn_dT_true, pu_isn_exn_false, pu_isn_exn_true, pu_qReprB, pu_qReprN, pu_lamR_nil, pu_lamR_va, pu_lamR_ow, pu_lamR_no, pu_gT2, pu_gT3, pu_qSl3, pu_qSl3L, pu_qIsB])
local macro_rules | `(tactic| walk_at "pw") => `(tactic| simp -underLambda only [decide_true, decide_false, Bool.not_true, Bool.not_false, startD, Nat.reduceAdd, Nat.reduceSub, List.replicate_zero, List.replicate_succ, List.map_cons, List.map_nil, List.length_cons, List.length_nil, List.length_map, List.length_replicate, List.cons_append, List.nil_append, true_and, and_true, dSeq, dNext, dRet, dRetN, dBrk, dCnt, dIf, dSet, dPar2, dPar3, mCons, mNil, dOp1, dOp2, dC, dTup, dLst, aCons, aNil, bTest, bAnd, bOr, bNot, bYes, dAnd, dOr, dNot, dIfE, dCall, dFor, dLc, iR1, iR2, iSeq, iEnD, iZpD, iScr, gN, dAsgT, dDrop, dRaise, dAppend, dPop, dNewT, dNewK, dCallK, dSl, pIt, pNo, dChain, dCaught, aC, dSl3, dCallV, pu_use_d, pu_use_olst, pu_peek_olst, pu_use_odK, pu_peek_odK, pu_use_odT, pu_peek_odT, pu_peek_d, pu_use_r, pu_peek_r, pu_var, pu_useS_va, pu_peekS_va, pu_varS_va, pu_varS_ow, pu_useS_lst, pu_peekS_lst, pu_useS_dK, pu_peekS_dK, pu_useS_dT, pu_peekS_dT, pu_get0, pu_getS, pu_set0, pu_setS, pu_wipe0, pu_wipeS, pu_asg_d, pu_asg_o, pu_asg_r, pu_fz_d, pu_fz_o, pu_fz_r, pu_toSl_d, pu_toSl_o, pu_isB, pu_qAdd, pu_qAddT, pu_qAddL, pu_qMul, pu_qMulT, pu_qMulL, pu_qSub, pu_qMod, pu_qDiv, pu_qPow, pu_qLt, pu_qLe, pu_qGt, pu_qGe, pu_qMax2, pu_qMin2, pu_qEq, pu_qNe, pu_qNeg, pu_qAbs, pu_qInt, pu_qLenT, pu_qLenL, pu_qLenS, pu_qLstT, pu_qLstL, pu_qTupT, pu_qTupL, pu_qSlT, pu_qSlL, pu_atL, pu_atLS, pu_gT, pu_gpC, pu_gpN, pu_ty_non, pu_ty_bl, pu_ty_int, pu_ty_str, pu_ty_tup, pu_ty_lst, pu_qEqS, pu_qNeS, pu_isi_non_int, pu_isi_non_bool, pu_isi_non_str, pu_isi_non_tuple, pu_isi_non_list, pu_isi_non_dict, pu_isi_bl_int, pu_isi_bl_bool, pu_isi_bl_str, pu_isi_bl_tuple, pu_isi_bl_list, pu_isi_bl_dict, pu_isi_int_int, pu_isi_int_bool, pu_isi_int_str, pu_isi_int_tuple, pu_isi_int_list, pu_isi_int_dict, pu_isi_str_int, pu_isi_str_bool, pu_isi_str_str, pu_isi_str_tuple, pu_isi_str_list, pu_isi_str_dict, pu_isi_tup_int, pu_isi_tup_bool, pu_isi_tup_str, pu_isi_tup_tuple, pu_isi_tup_list, pu_isi_tup_dict, pu_isi_lst_int, pu_isi_lst_bool, pu_isi_lst_str, pu_isi_lst_tuple, pu_isi_lst_list, pu_isi_lst_dict, pu_isi_dK_int, pu_isi_dK_bool, pu_isi_dK_str, pu_isi_dK_tuple, pu_isi_dK_list, pu_isi_dK_dict, pu_isi_dT_int, pu_isi_dT_bool, pu_isi_dT_str, pu_isi_dT_tuple, pu_isi_dT_list, pu_isi_dT_dict, pu_isn_non_false, pu_isn_non_true, pu_isn_bl_false, pu_isn_bl_true, pu_isn_int_false, pu_isn_int_true, pu_isn_str_false, pu_isn_str_true, pu_isn_tup_false, pu_isn_tup_true, pu_isn_lst_false, pu_isn_lst_true, pu_isn_dK_false, pu_isn_dK_true, pu_isn_dT_false, pu_isn_dT_true, pu_isn_exn_false, pu_isn_exn_true, pu_qReprB, pu_qReprN, pu_lamR_nil, pu_lamR_va, pu_lamR_ow, pu_lamR_no, pu_gT2, pu_gT3, pu_qSl3, pu_qSl3L, pu_qIsB])
theorem dayL_mm (r : List Int) : dayL r = (r.zip (r.drop 1 ++ r.take 1)).map fun p => max p.1 p.2 - min p.1 p.2 := by
  unfold dayL
  refine List.map_congr_left fun p _ => ?_
  exact iabs_mm p.1 p.2
def c__law_day (G : Str → Addr) : PC := fun ds Q X => match ds with | [.tup l] => ∃ r, l = r.map D.int ∧ r.length ≤ 1000 ∧ Q (T (dayL r)) | _ => False
def r__law_day (G : Str → Addr) : TSt :=
    dRet (dOp1 qTuple (dLc (iZpD (aCons (dVar 0) (aCons (dOp2 qAdd (dOp1 qTuple (dSl (dVar 0) (pIt (dC (.int 1))) (pNo))) (dOp1 qTuple (dSl (dVar 0) (pNo) (pIt (dC (.int 1)))))) (aNil)))) (gT2 (gN 1) (gN 2)) (bYes) (dOp2 qSub (dOp2 qMax2 (dVar 1) (dVar 2)) (dOp2 qMin2 (dVar 1) (dVar 2))) [1, 2]))
abbrev N__law_day : List Str := ["row", "one", "other"]
theorem l__law_day {G : Str → Addr} : ∀ ds Q X, c__law_day G ds Q X → ds.length = 1 := fun ds _ _ h => by unfold c__law_day at h; split at h <;> first | rfl | exact h.elim
theorem p__law_day {G} : Pure (c__law_day G) (r__law_day G) N__law_day := fun ds Q X h => by
  match ds, h with
  | [.tup _], ⟨r, rfl, h1, h⟩ =>
    unfold r__law_day
    walk_at "pu"
    rw [cut_lo1, cut_hi1, ← List.map_drop, ← List.map_take, ← List.map_append, List.length_map, List.length_map]
    refine ⟨by rw [List.length_drop, List.length_take, sizeLine_eq]; omega, ?_⟩
    rw [zip_T]
    refine lc_pairs (fun a b => max a b - min a b) (by rw [zipcut_len]; omega) (fun p hp J hJ => ?_) ?_
    · walk_at "pu"
      exact hJ
    · rw [dayL_mm] at h
      exact h
def lawTwos (r : List Int) : Bool := decide (((distinct (r.filter fun n => decide (n ≠ 0))).length : Int) < 2)
def c__law_is_twos (G : Str → Addr) : PC := fun ds Q X => match ds with | [.tup l] => ∃ r : List Int, l = r.map D.int ∧ r.length ≤ 1000 ∧ Q (.bl (lawTwos r)) | _ => False
def r__law_is_twos (G : Str → Addr) : TSt :=
    dRet (dOp2 qLt (dOp1 qLenSet (dLc (iSeq (dVar 0)) (gN 1) (bTest (dOp2 qNe (dVar 1) (dC (.int 0)))) (dVar 1) [1])) (dC (.int 2)))
abbrev N__law_is_twos : List Str := ["row", "number"]
theorem l__law_is_twos {G : Str → Addr} : ∀ ds Q X, c__law_is_twos G ds Q X → ds.length = 1 := fun ds _ _ h => by unfold c__law_is_twos at h; split at h <;> first | rfl | exact h.elim
theorem p__law_is_twos {G} : Pure (c__law_is_twos G) (r__law_is_twos G) N__law_is_twos := fun ds Q X h => by
  match ds, h with
  | [.tup _], ⟨r, rfl, h1, h⟩ =>
    unfold r__law_is_twos
    walk_at "pu"
    refine lc_filter (fun n => decide (n ≠ 0)) id (by omega) (fun n hn J Jf h1 h2 => ?_) ?_
    · walk_at "pu"
      by_cases e : n = 0
      · rw [decide_eq_true e]
        exact h2 (by simpa using e)
      · rw [decide_eq_false e]
        exact h1 (by simpa using e)
    · rw [List.map_id]
      show (match asInts ((r.filter _).map D.int) with | some ns => _ | none => False)
      rw [asInts_map]
      have hle : (r.filter fun n => decide (n ≠ 0)).length ≤ 1000 := Nat.le_trans (List.length_filter_le _ _) h1
      refine ⟨by omega, ?_⟩
      walk_at "pu"
      exact h
abbrev dsF (ns acc : List Int) : List Int := ns.foldl (fun acc n => if acc.any (· == n) then acc else acc ++ [n]) acc
theorem distinct_c {c : Int} : ∀ (ns acc : List Int), (∀ n ∈ ns, n = c) → (acc = [] ∨ acc = [c]) → dsF ns acc = [] ∨ dsF ns acc = [c]
  | [], acc, _, h => h
  | n :: ns, acc, hn, h => by
    unfold dsF
    rw [List.foldl_cons]
    refine distinct_c ns _ (fun m hm => hn m (List.mem_cons_of_mem _ hm)) ?_
    have e := hn n List.mem_cons_self
    subst e
    rcases h with rfl | rfl
    · exact .inr rfl
    · refine .inr ?_
      simp
theorem distinct_has : ∀ (ns acc : List Int), (∀ x ∈ acc, x ∈ dsF ns acc) ∧ ∀ x ∈ ns, x ∈ dsF ns acc
  | [], acc => ⟨fun _ h => h, fun _ h => nomatch h⟩
  | n :: ns, acc => by
    have ih := distinct_has ns (if acc.any (· == n) then acc else acc ++ [n])
    have hn : n ∈ (if acc.any (· == n) then acc else acc ++ [n]) := by
      split
      · rename_i h
        obtain ⟨x, hx, e⟩ := List.any_eq_true.mp h
        rw [← eq_of_beq e]; exact hx
      · simp
    have ha : ∀ x ∈ acc, x ∈ (if acc.any (· == n) then acc else acc ++ [n]) := fun x hx => by
      split
      · exact hx
      · exact List.mem_append_left _ hx
    refine ⟨fun x hx => ih.1 x (ha x hx), fun x hx => ?_⟩
    rcases List.mem_cons.mp hx with e | e
    · rw [e]; exact ih.1 n hn
    · exact ih.2 x e
theorem lawTwos_eq {r : List Int} (hr : 1 ≤ r.length) (h : ∀ x ∈ r, 0 ≤ x) : lawTwos r = isTwosL r := by
  have key : lawTwos r = true ↔ ∃ c, 0 ≤ c ∧ TwoL c r := by
    unfold lawTwos
    rw [decide_eq_true_eq]
    have hd := distinct_has (r.filter fun n => decide (n ≠ 0)) []
    constructor
    · intro hl
      have hl2 : (distinct (r.filter fun n => decide (n ≠ 0))).length < 2 := by omega
      cases e : distinct (r.filter fun n => decide (n ≠ 0)) with
      | nil =>
        refine ⟨0, Int.le_refl _, fun x hx => ?_⟩
        by_cases hx0 : x = 0
        · exact .inl hx0
        · have := hd.2 x (List.mem_filter.mpr ⟨hx, by simp [hx0]⟩)
          have e' : dsF (r.filter fun n => decide (n ≠ 0)) [] = [] := e
          rw [e'] at this
          cases this
      | cons c l =>
        rw [e, List.length_cons] at hl2
        have hl0 : l = [] := List.eq_nil_of_length_eq_zero (by omega)
        subst hl0
        have all : ∀ x ∈ r, x = 0 ∨ x = c := fun x hx => by
          by_cases hx0 : x = 0
          · exact .inl hx0
          · have := hd.2 x (List.mem_filter.mpr ⟨hx, by simp [hx0]⟩)
            have e' : dsF (r.filter fun n => decide (n ≠ 0)) [] = [c] := e
            rw [e', List.mem_singleton] at this
            exact .inr this
        by_cases hc : 0 ≤ c
        · exact ⟨c, hc, all⟩
        · refine ⟨0, Int.le_refl _, fun x hx => ?_⟩
          have := h x hx
          rcases all x hx with a | a <;> omega
    · rintro ⟨c, hc, ht⟩
      have := distinct_c (c := c) (r.filter fun n => decide (n ≠ 0)) [] (fun n hn => by
        have h1 := List.mem_filter.mp hn
        have h2 : n ≠ 0 := by simpa using h1.2
        exact (ht n h1.1).resolve_left h2) (.inl rfl)
      show ((dsF (r.filter fun n => decide (n ≠ 0)) []).length : Int) < 2
      rcases this with e | e
      · rw [e]; decide
      · rw [e]; show ((1 : Nat) : Int) < 2; decide
  have key2 := isTwos_iff hr h
  cases e1 : lawTwos r <;> cases e2 : isTwosL r <;> first | rfl | skip
  · rw [e1] at key; rw [e2] at key2; exact (Bool.false_ne_true (key.mpr (key2.mp rfl))).elim
  · rw [e1] at key; rw [e2] at key2; exact (Bool.false_ne_true (key2.mpr (key.mp rfl))).elim
def c__law_line (G : Str → Addr) : PC := fun ds Q X => match ds with | [.tup l] => ∃ r, l = r.map D.int ∧ 1 ≤ r.length ∧ r.length ≤ 16 ∧ (∀ x ∈ r, 0 ≤ x ∧ x ≤ 999) ∧
    (∀ (j b : Nat), b < j → j ≤ 100000 → daysL r b = daysL r j → (∀ a a', a < j → a' < a → daysL r a' ≠ daysL r a) → Q (.tup [.lst (lineL (daysL r) j), .int (b : Nat)])) | _ => False
def wc__law_line1 (G : Str → Addr) : TB :=
    bTest (dOp2 (qInD true) (dVar 3) (dVar 2))
def wb__law_line1 (G : Str → Addr) : TSt :=
    dSeq (dPutD (dOp1 qLen (dVar 1)) (dVar 2) (dVar 3))
    (dSeq (dDrop (dAppend (dVar 1) (dVar 3)))
    (dSet 3 (dCall (c__law_day G) (aCons (dVar 3) (aNil)))))
def r__law_line (G : Str → Addr) : TSt :=
    dSeq (dPar3 1 2 3 (mCons (dLst (aNil)) (mCons (dNewT) (mCons (dOp1 qTuple (dVar 0)) (mNil)))))
    (dSeq (dWhile (wc__law_line1 G) (wb__law_line1 G))
    (dRet (dTup (aCons (dVar 1) (aCons (dOp2 qGetD (dVar 2) (dVar 3)) (aNil))))))
abbrev N__law_line : List Str := ["row", "line", "seen", "here"]
theorem l__law_line {G : Str → Addr} : ∀ ds Q X, c__law_line G ds Q X → ds.length = 1 := fun ds _ _ h => by unfold c__law_line at h; split at h <;> first | rfl | exact h.elim
theorem line_loop {G s0} {P : PEnds} {r : List Int} (h0 : 1 ≤ r.length) (h1 : r.length ≤ 16) (hr : ∀ x ∈ r, 0 ≤ x ∧ x ≤ 999)
    (hq : ∀ j b, b < j → j ≤ 100000 → daysL r b = daysL r j → (∀ a a', a < j → a' < a → daysL r a' ≠ daysL r a) → dval (seenL (daysL r) j) (key (daysL r j)) = some (.int (b : Nat)) → P.nx [s0, .ow (.lst (lineL (daysL r) j)), .ow (.dT (seenL (daysL r) j)), .va (T (daysL r j))]) : ∀ (fuel j : Nat), j + fuel = 90000 →
    (∀ a a', a < j → a' < a → daysL r a' ≠ daysL r a) →
    wh (wc__law_line1 G) (wb__law_line1 G) P fuel [s0, .ow (.lst (lineL (daysL r) j)), .ow (.dT (seenL (daysL r) j)), .va (T (daysL r j))]
  | fuel, j, hj, hd => by
    have hjb : j ≤ 80600 := by
      have q := days_few (M := 999) h0 hr hd
      have h4 : 2 ^ r.length ≤ 2 ^ 16 := Nat.pow_le_pow_right (by decide) h1
      have h5 : (2 : Nat) ^ 16 = 65536 := by decide
      omega
    match fuel, hj with
    | 0, hj => omega
    | fuel + 1, hj =>
    refine wh_intro fun W hW => ?_
    unfold wc__law_line1 wb__law_line1 c__law_day
    walk_at "pu"
    rcases seen_val (daysL r) (daysL r j) j with ⟨b, hb, e, hv⟩ | ⟨hn, hv⟩
    · refine u_inD hv ?_
      exact hq j b hb (by omega) e hd hv
    · refine u_inD hv ?_
      rw [show (!(none : Option D).isSome) = true from rfl]
      walk_at "pu"
      unfold dPutD
      walk_at "pu"
      rw [List.length_range]
      show (match dPutO _ _ _ with | some o' => _ | none => False)
      have e1 : dPutO (T (daysL r j)) (.int (j : Int)) (.dT (seenL (daysL r) j)) = some (.dT (seenL (daysL r) (j + 1))) := by
        show (if (seenL (daysL r) j).length < sizeLine then (keysOf ((daysL r j).map D.int)).map (fun k => Own.dT (dput (seenL (daysL r) j) k (.int (j : Int)))) else none) = _
        rw [if_pos (by unfold seenL; rw [List.length_map, List.length_range, sizeLine_eq]; omega), keysOf_ints]
        show some (Own.dT (dput (seenL (daysL r) j) (key (daysL r j)) (.int (j : Nat)))) = _
        rw [seen_put _ hn]
      rw [e1]
      walk_at "pu"
      refine ⟨by rw [List.length_range, sizeLine_eq]; omega, daysL r j, rfl, by rw [daysL_len]; omega, ?_⟩
      rw [hW, lineL_succ]
      refine line_loop h0 h1 hr hq fuel (j + 1) (by omega) fun a b ha hb => ?_
      by_cases h : a = j
      · rw [h]; exact hn b (by omega)
      · exact hd a b (by omega) hb
theorem p__law_line {G} : Pure (c__law_line G) (r__law_line G) N__law_line := fun ds Q X h => by
  match ds, h with
  | [.tup _], ⟨r, rfl, h0, h1, hr, h⟩ =>
    unfold r__law_line
    walk_at "pu"
    refine ⟨by decide, 90000, line_loop h0 h1 hr (fun j b hb hj e hd hv => ?_) 90000 0 rfl fun a b ha _ => absurd ha (Nat.not_lt_zero _)⟩
    walk_at "pu"
    refine u_getD hv ?_
    walk_at "pu"
    refine ⟨by decide, h j b hb hj e hd⟩
theorem qEq_nil {n : Nat} {l : List D} {K : PL.Tm → Prop} (hx : okN n (.lst l)) (hn : n ≤ 64) (h : K (.d (.bl (decide (l = []))))) : qEq (.lst l) (.lst []) K := by
  have e : deq (.lst l) (.lst []) = decide (l = []) := by
    cases l with
    | nil => rfl
    | cons x l => rfl
  refine ⟨okN_okE hx hn, rfl, ?_⟩
  rw [e]; exact h
def c__law_in_round (G : Str → Addr) : PC := fun ds Q X => match ds with | [.tup l] => ∃ r, l = r.map D.int ∧ 1 ≤ r.length ∧ r.length ≤ 1000 ∧ (∀ x ∈ r, 0 ≤ x) ∧ Q (.bl (inRB r)) | _ => False
def r__law_in_round (G : Str → Addr) : TSt :=
    dSeq (dSet 1 (dCall (c__law_two_power G) (aCons (dOp1 qLen (dVar 0)) (aNil))))
    (dSeq (dIf (bNot (bTest (dCall (c__law_is_twos G) (aCons (dVar 0) (aNil))))) (dRet (dC (.bl false))) (dNext))
    (dRet (dOp2 qEq (dLc (iR1 (dVar 1)) (gN 2) (bTest (dOp2 qEq (dOp2 qMod (dOp1 qInt (dOp1 qLen (dLc (iSeq (dSl3 (dVar 0) (pIt (dVar 2)) (pNo) (pIt (dVar 1)))) (gN 3) (bTest (dOp2 qNe (dVar 3) (dC (.int 0)))) (dVar 3) [3]))) (dC (.int 2))) (dC (.int 1)))) (dVar 2) [2]) (dLst (aNil)))))
abbrev N__law_in_round : List Str := ["row", "wide", "rest", "number"]
theorem l__law_in_round {G : Str → Addr} : ∀ ds Q X, c__law_in_round G ds Q X → ds.length = 1 := fun ds _ _ h => by unfold c__law_in_round at h; split at h <;> first | rfl | exact h.elim
theorem p__law_in_round {G} : Pure (c__law_in_round G) (r__law_in_round G) N__law_in_round := fun ds Q X h => by
  match ds, h with
  | [.tup _], ⟨r, rfl, h0, h1, hx, h⟩ =>
    unfold r__law_in_round c__law_two_power c__law_is_twos
    obtain ⟨e, q, he, hq, ho⟩ := twoP_spec h0
    have hw1 := twoP_pos h0
    have hw2 := twoP_le h0
    walk_at "pu"
    refine ⟨r.length, rfl, h0, h1, r, rfl, h1, ?_⟩
    rw [lawTwos_eq h0 hx]
    unfold inRB at h
    cases e : isTwosL r with
    | false =>
      rw [e] at h
      walk_at "pu"
      exact h
    | true =>
      rw [e, Bool.true_and] at h
      walk_at "pu"
      refine ⟨⟨by omega, by omega⟩, ?_⟩
      rw [rng0]
      refine lc_filter (fun p => decide (cntL (clsL r (twoP r.length) p.toNat) % 2 = 1)) id (by rw [List.length_map, List.length_range]; omega) (fun n hn J Jf j1 j2 => ?_) ?_
      · obtain ⟨p, hp, rfl⟩ := List.mem_map.mp hn
        have hp := List.mem_range.mp hp
        walk_at "pu"
        have hle := clsL_le hq hp (by omega)
        have hc : HT.cutS (r.map D.int) (some (p : Int)) none (some (twoP r.length : Int)) = (clsL r (twoP r.length) p).map D.int := cutS_map _ _ _ _ _
        rw [hc]
        refine ⟨by show (twoP r.length : Int) ≠ 0; omega, by rw [List.length_map, sizeLine_eq]; omega, ?_⟩
        refine lc_filter (fun n => decide (n ≠ 0)) id (by omega) (fun n hn J Jf h1 h2 => ?_) ?_
        · walk_at "pu"
          by_cases e : n = 0
          · rw [decide_eq_true e]
            exact h2 (by simpa using e)
          · rw [decide_eq_false e]
            exact h1 (by simpa using e)
        · rw [List.map_id]
          walk_at "pu"
          refine ⟨by decide, ?_⟩
          have e2 : decide ((((clsL r (twoP r.length) p).filter fun n => decide (n ≠ 0)).length : Int) % 2 = 1) = decide (cntL (clsL r (twoP r.length) p) % 2 = 1) := by
            unfold cntL
            rw [decide_eq_decide]
            omega
          rw [e2]
          by_cases e3 : cntL (clsL r (twoP r.length) p) % 2 = 1
          · rw [decide_eq_true e3]
            exact j1 (decide_eq_true e3)
          · rw [decide_eq_false e3]
            exact j2 (decide_eq_false e3)
      · rw [List.map_id]
        (try walk_at "pu")
        trace_state
        refine ⟨by decide, ?_⟩
        refine qEq_nil (n := 1) (okN_lst fun d hd => ?_) (by decide) ?_
        · obtain ⟨i, _, rfl⟩ := List.mem_map.mp hd
          exact okN_int i
        · have e5 : decide ((((List.range (twoP r.length)).map fun i => ((i : Nat) : Int)).filter fun p => decide (cntL (clsL r (twoP r.length) p.toNat) % 2 = 1)).map D.int = []) = (List.range (twoP r.length)).all fun p => decide (cntL (clsL r (twoP r.length) p) % 2 = 0) := by
            rw [Bool.eq_iff_iff, decide_eq_true_eq, List.map_eq_nil_iff, List.filter_eq_nil_iff, List.all_eq_true]
            constructor
            · intro z p hp
              have := z (p : Int) (List.mem_map.mpr ⟨p, hp, rfl⟩)
              simp only [Int.toNat_natCast, decide_eq_true_eq] at this
              exact decide_eq_true (by omega)
            · intro z i hi
              obtain ⟨p, hp, rfl⟩ := List.mem_map.mp hi
              have := of_decide_eq_true (z p hp)
              simp only [Int.toNat_natCast, decide_eq_true_eq]
              omega
          rw [e5]
          exact h
theorem u_law_in_round {G r} {Q : D → Prop} {X : Exn → Prop} (hr : Row r) (h : Q (.bl (inRB r))) : c__law_in_round G [T r] Q X := ⟨r, rfl, hr.1, by have := hr.2.1; omega, fun x hx => (hr.2.2 x hx).1, h⟩
def c__law_signs (G : Str → Addr) : PC := fun ds Q X => match ds with | [.draw, .int n] => ∃ k : Nat, n = (k : Int) ∧ k ≤ 1000 ∧ ∀ s, Signs s → s.length = k → Q (T s) | _ => False
def r__law_signs (G : Str → Addr) : TSt :=
    dRet (dOp1 qTuple (dLc (iR1 (dVar 1)) (gN 2) (bYes) (dCall (c__law_take G) (aCons (dVar 0) (aCons (dC (.int 2)) (aNil)))) [2]))
abbrev N__law_signs : List Str := ["draw", "many", "place"]
theorem l__law_signs {G : Str → Addr} : ∀ ds Q X, c__law_signs G ds Q X → ds.length = 2 := fun ds _ _ h => by unfold c__law_signs at h; split at h <;> first | rfl | exact h.elim
theorem p__law_signs {G} : Pure (c__law_signs G) (r__law_signs G) N__law_signs := fun ds Q X h => by
  match ds, h with
  | [.draw, .int _], ⟨k, rfl, hk, h⟩ =>
    unfold r__law_signs c__law_take
    walk_at "pu"
    refine ⟨⟨by omega, by omega⟩, ?_⟩
    refine lc_rel (R := fun _ x => ∃ i, x = .int i ∧ (i = 0 ∨ i = 1)) (by rw [rng0, List.length_map, List.length_map, List.length_range, List.length_nil]; omega) (fun d hd J hJ => ?_) fun xs hx => ?_
    · walk_at "pu"
      refine ⟨by decide, fun z z0 _ z2 => ?_⟩
      have := z2 (by decide)
      exact hJ _ ⟨z, rfl, by omega⟩
    · obtain ⟨ns, rfl, l, q⟩ := all2_ints (P := fun i => i = 0 ∨ i = 1) (fun d x ⟨i, e, p⟩ => ⟨i, e, p⟩) hx
      rw [rng0, List.length_map, List.length_map, List.length_range] at l
      walk_at "pu"
      exact h ns q l
end RP
set_option Elab.async false
set_option linter.all false
set_option maxRecDepth 100000
namespace RP
open PySem PySem.Spec PyProof.Rows L2 PL
local macro_rules | `(tactic| walk_at "pu") => `(tactic| simp only [decide_true, decide_false, Bool.not_true, Bool.not_false, startD, Nat.reduceAdd, Nat.reduceSub, List.replicate_zero, List.replicate_succ, List.map_cons, List.map_nil, List.length_cons, List.length_nil, List.length_map, List.length_replicate, List.cons_append, List.nil_append, true_and, and_true, dSeq, dNext, dRet, dRetN, dBrk, dCnt, dIf, dSet, dPar2, dPar3, mCons, mNil, dOp1, dOp2, dC, dTup, dLst, aCons, aNil, bTest, bAnd, bOr, bNot, bYes, dAnd, dOr, dNot, dIfE, dCall, dFor, dLc, iR1, iR2, iSeq, iEnD, iZpD, iScr, gN, dAsgT, dDrop, dRaise, dAppend, dPop, dNewT, dNewK, dCallK, dSl, pIt, pNo, dChain, dCaught, aC, dSl3, dCallV, pu_use_d, pu_use_olst, pu_peek_olst, pu_use_odK, pu_peek_odK, pu_use_odT, pu_peek_odT, pu_peek_d, pu_use_r, pu_peek_r, pu_var, pu_useS_va, pu_peekS_va, pu_varS_va, pu_varS_ow, pu_useS_lst, pu_peekS_lst, pu_useS_dK, pu_peekS_dK, pu_useS_dT, pu_peekS_dT, pu_get0, pu_getS, pu_set0, pu_setS, pu_wipe0, pu_wipeS, pu_asg_d, pu_asg_o, pu_asg_r, pu_fz_d, pu_fz_o, pu_fz_r, pu_toSl_d, pu_toSl_o, pu_isB, pu_qAdd, pu_qAddT, pu_qAddL, pu_qMul, pu_qMulT, pu_qMulL, pu_qSub, pu_qMod, pu_qDiv, pu_qPow, pu_qLt, pu_qLe, pu_qGt, pu_qGe, pu_qMax2, pu_qMin2, pu_qEq, pu_qNe, pu_qNeg, pu_qAbs, pu_qInt, pu_qLenT, pu_qLenL, pu_qLenS, pu_qLstT, pu_qLstL, pu_qTupT, pu_qTupL, pu_qSlT, pu_qSlL, pu_atL, pu_atLS, pu_gT, pu_gpC, pu_gpN, pu_ty_non, pu_ty_bl, pu_ty_int, pu_ty_str, pu_ty_tup, pu_ty_lst, pu_qEqS, pu_qNeS, pu_isi_non_int, pu_isi_non_bool, pu_isi_non_str, pu_isi_non_tuple, pu_isi_non_list, pu_isi_non_dict, pu_isi_bl_int, pu_isi_bl_bool, pu_isi_bl_str, pu_isi_bl_tuple, pu_isi_bl_list, pu_isi_bl_dict, pu_isi_int_int, pu_isi_int_bool, pu_isi_int_str, pu_isi_int_tuple, pu_isi_int_list, pu_isi_int_dict, pu_isi_str_int, pu_isi_str_bool, pu_isi_str_str, pu_isi_str_tuple, pu_isi_str_list, pu_isi_str_dict, pu_isi_tup_int, pu_isi_tup_bool, pu_isi_tup_str, pu_isi_tup_tuple, pu_isi_tup_list, pu_isi_tup_dict, pu_isi_lst_int, pu_isi_lst_bool, pu_isi_lst_str, pu_isi_lst_tuple, pu_isi_lst_list, pu_isi_lst_dict, pu_isi_dK_int, pu_isi_dK_bool, pu_isi_dK_str, pu_isi_dK_tuple, pu_isi_dK_list, pu_isi_dK_dict, pu_isi_dT_int, pu_isi_dT_bool, pu_isi_dT_str, pu_isi_dT_tuple, pu_isi_dT_list, pu_isi_dT_dict, pu_isn_non_false, pu_isn_non_true, pu_isn_bl_false, pu_isn_bl_true, pu_isn_int_false, pu_isn_int_true, pu_isn_str_false, pu_isn_str_true, pu_isn_tup_false, pu_isn_tup_true, pu_isn_lst_false, pu_isn_lst_true, pu_isn_dK_false, pu_isn_dK_true, pu_isn_dT_false, pu_isn_dT_true, pu_isn_exn_false, pu_isn_exn_true, pu_qReprB, pu_qReprN, pu_lamR_nil, pu_lamR_va, pu_lamR_ow, pu_lamR_no, pu_gT2, pu_gT3, pu_qSl3, pu_qSl3L, pu_qIsB])
local macro_rules | `(tactic| walk_at "pv") => `(tactic| simp -implicitDefEqProofs only [decide_true, decide_false, Bool.not_true, Bool.not_false, startD, Nat.reduceAdd, Nat.reduceSub, List.replicate_zero, List.replicate_succ, List.map_cons, List.map_nil, List.length_cons, List.length_nil, List.length_map, List.length_replicate, List.cons_append, List.nil_append, true_and, and_true, dSeq, dNext, dRet, dRetN, dBrk, dCnt, dIf, dSet, dPar2, dPar3, mCons, mNil, dOp1, dOp2, dC, dTup, dLst, aCons, aNil, bTest, bAnd, bOr, bNot, bYes, dAnd, dOr, dNot, dIfE, dCall, dFor, dLc, iR1, iR2, iSeq, iEnD, iZpD, iScr, gN, dAsgT, dDrop, dRaise, dAppend, dPop, dNewT, dNewK, dCallK, dSl, pIt, pNo, dChain, dCaught, aC, dSl3, dCallV, pu_use_d, pu_use_olst, pu_peek_olst, pu_use_odK, pu_peek_odK, pu_use_odT, pu_peek_odT, pu_peek_d, pu_use_r, pu_peek_r, pu_var, pu_useS_va, pu_peekS_va, pu_varS_va, pu_varS_ow, pu_useS_lst, pu_peekS_lst, pu_useS_dK, pu_peekS_dK, pu_useS_dT, pu_peekS_dT, pu_get0, pu_getS, pu_set0, pu_setS, pu_wipe0, pu_wipeS, pu_asg_d, pu_asg_o, pu_asg_r, pu_fz_d, pu_fz_o, pu_fz_r, pu_toSl_d, pu_toSl_o, pu_isB, pu_qAdd, pu_qAddT, pu_qAddL, pu_qMul, pu_qMulT, pu_qMulL, pu_qSub, pu_qMod, pu_qDiv, pu_qPow, pu_qLt, pu_qLe, pu_qGt, pu_qGe, pu_qMax2, pu_qMin2, pu_qEq, pu_qNe, pu_qNeg, pu_qAbs, pu_qInt, pu_qLenT, pu_qLenL, pu_qLenS, pu_qLstT, pu_qLstL, pu_qTupT, pu_qTupL, pu_qSlT, pu_qSlL, pu_atL, pu_atLS, pu_gT, pu_gpC, pu_gpN, pu_ty_non, pu_ty_bl, pu_ty_int, pu_ty_str, pu_ty_tup, pu_ty_lst, pu_qEqS, pu_qNeS, pu_isi_non_int, pu_isi_non_bool, pu_isi_non_str, pu_isi_non_tuple, pu_isi_non_list, pu_isi_non_dict, pu_isi_bl_int, pu_isi_bl_bool, pu_isi_bl_str, pu_isi_bl_tuple, pu_isi_bl_list, pu_isi_bl_dict, pu_isi_int_int, pu_isi_int_bool, pu_isi_int_str, pu_isi_int_tuple, pu_isi_int_list, pu_isi_int_dict, pu_isi_str_int, pu_isi_str_bool, pu_isi_str_str, pu_isi_str_tuple, pu_isi_str_list, pu_isi_str_dict, pu_isi_tup_int, pu_isi_tup_bool, pu_isi_tup_str, pu_isi_tup_tuple, pu_isi_tup_list, pu_isi_tup_dict, pu_isi_lst_int, pu_isi_lst_bool, pu_isi_lst_str, pu_isi_lst_tuple, pu_isi_lst_list, pu_isi_lst_dict, pu_isi_dK_int, pu_isi_dK_bool, pu_isi_dK_str, pu_isi_dK_tuple, pu_isi_dK_list, pu_isi_dK_dict, pu_isi_dT_int, pu_isi_dT_bool, pu_isi_dT_str, pu_isi_dT_tuple, pu_isi_dT_list, pu_isi_dT_dict, pu_isn_non_false, pu_isn_non_true, pu_isn_bl_false, pu_isn_bl_true, pu_isn_int_false, pu_isn_int_true, pu_isn_str_false, pu_isn_str_true, pu_isn_tup_false, pu_isn_tup_true, pu_isn_lst_false, pu_isn_lst_true, pu_isn_dK_false, pu_isn_dK_true, pu_isn_dT_false, pu_isn_dT_true, pu_isn_exn_false, pu_isn_exn_true, pu_qReprB, pu_qReprN, pu_lamR_nil, pu_lamR_va, pu_lamR_ow, pu_lamR_no, pu_gT2, pu_gT3, pu_qSl3, pu_qSl3L, pu_qIsB])
local macro_rules | `(tactic| walk_at "pw") => `(tactic| simp -underLambda only [decide_true, decide_false, Bool.not_true, Bool.not_false, startD, Nat.reduceAdd, Nat.reduceSub, List.replicate_zero, List.replicate_succ, List.map_cons, List.map_nil, List.length_cons, List.length_nil, List.length_map, List.length_replicate, List.cons_append, List.nil_append, true_and, and_true, dSeq, dNext, dRet, dRetN, dBrk, dCnt, dIf, dSet, dPar2, dPar3, mCons, mNil, dOp1, dOp2, dC, dTup, dLst, aCons, aNil, bTest, bAnd, bOr, bNot, bYes, dAnd, dOr, dNot, dIfE, dCall, dFor, dLc, iR1, iR2, iSeq, iEnD, iZpD, iScr, gN, dAsgT, dDrop, dRaise, dAppend, dPop, dNewT, dNewK, dCallK, dSl, pIt, pNo, dChain, dCaught, aC, dSl3, dCallV, pu_use_d, pu_use_olst, pu_peek_olst, pu_use_odK, pu_peek_odK, pu_use_odT, pu_peek_odT, pu_peek_d, pu_use_r, pu_peek_r, pu_var, pu_useS_va, pu_peekS_va, pu_varS_va, pu_varS_ow, pu_useS_lst, pu_peekS_lst, pu_useS_dK, pu_peekS_dK, pu_useS_dT, pu_peekS_dT, pu_get0, pu_getS, pu_set0, pu_setS, pu_wipe0, pu_wipeS, pu_asg_d, pu_asg_o, pu_asg_r, pu_fz_d, pu_fz_o, pu_fz_r, pu_toSl_d, pu_toSl_o, pu_isB, pu_qAdd, pu_qAddT, pu_qAddL, pu_qMul, pu_qMulT, pu_qMulL, pu_qSub, pu_qMod, pu_qDiv, pu_qPow, pu_qLt, pu_qLe, pu_qGt, pu_qGe, pu_qMax2, pu_qMin2, pu_qEq, pu_qNe, pu_qNeg, pu_qAbs, pu_qInt, pu_qLenT, pu_qLenL, pu_qLenS, pu_qLstT, pu_qLstL, pu_qTupT, pu_qTupL, pu_qSlT, pu_qSlL, pu_atL, pu_atLS, pu_gT, pu_gpC, pu_gpN, pu_ty_non, pu_ty_bl, pu_ty_int, pu_ty_str, pu_ty_tup, pu_ty_lst, pu_qEqS, pu_qNeS, pu_isi_non_int, pu_isi_non_bool, pu_isi_non_str, pu_isi_non_tuple, pu_isi_non_list, pu_isi_non_dict, pu_isi_bl_int, pu_isi_bl_bool, pu_isi_bl_str, pu_isi_bl_tuple, pu_isi_bl_list, pu_isi_bl_dict, pu_isi_int_int, pu_isi_int_bool, pu_isi_int_str, pu_isi_int_tuple, pu_isi_int_list, pu_isi_int_dict, pu_isi_str_int, pu_isi_str_bool, pu_isi_str_str, pu_isi_str_tuple, pu_isi_str_list, pu_isi_str_dict, pu_isi_tup_int, pu_isi_tup_bool, pu_isi_tup_str, pu_isi_tup_tuple, pu_isi_tup_list, pu_isi_tup_dict, pu_isi_lst_int, pu_isi_lst_bool, pu_isi_lst_str, pu_isi_lst_tuple, pu_isi_lst_list, pu_isi_lst_dict, pu_isi_dK_int, pu_isi_dK_bool, pu_isi_dK_str, pu_isi_dK_tuple, pu_isi_dK_list, pu_isi_dK_dict, pu_isi_dT_int, pu_isi_dT_bool, pu_isi_dT_str, pu_isi_dT_tuple, pu_isi_dT_list, pu_isi_dT_dict, pu_isn_non_false, pu_isn_non_true, pu_isn_bl_false, pu_isn_bl_true, pu_isn_int_false, pu_isn_int_true, pu_isn_str_false, pu_isn_str_true, pu_isn_tup_false, pu_isn_tup_true, pu_isn_lst_false, pu_isn_lst_true, pu_isn_dK_false, pu_isn_dK_true, pu_isn_dT_false, pu_isn_dT_true, pu_isn_exn_false, pu_isn_exn_true, pu_qReprB, pu_qReprN, pu_lamR_nil, pu_lamR_va, pu_lamR_ow, pu_lamR_no, pu_gT2, pu_gT3, pu_qSl3, pu_qSl3L, pu_qIsB])
theorem kinL_B : ∀ bs : List Bool, kinL (bs.map D.bl) = true
  | [] => rfl
  | b :: bs => kinL_B bs
theorem szL_B : ∀ bs : List Bool, szL (bs.map D.bl) = bs.length
  | [] => rfl
  | b :: bs => by
    show 1 + szL (bs.map D.bl) = bs.length + 1
    rw [szL_B bs]; omega
theorem u_saysB {G} {bs : List Bool} {a b : D} {Q : D → Prop} {X : Exn → Prop} (ea : a = .lst (bs.map D.bl)) (eb : b = .lst (bs.map D.bl)) (hl : bs.length ≤ 40) (hq : Q (.bl true)) : c__law_says G [a, b] Q X := by
  subst ea eb
  refine ⟨⟨rfl, kinL_B bs, ?_, ?_⟩, hq⟩
  · show 1 + szL (bs.map D.bl) ≤ 2000
    rw [szL_B]; omega
  · refine okN_mono (n := 2) (okN_lst (n := 1) fun d hd => ?_) (by decide)
    obtain ⟨r, _, rfl⟩ := List.mem_map.mp hd
    exact okN_bl _
theorem row_days {r : List Int} (hr : Row r) (t : Nat) : Row (daysL r t) := ⟨by rw [daysL_len]; exact hr.1, by rw [daysL_len]; exact hr.2.1, days_bd hr.1 hr.2.2 t⟩
theorem in_at {r : List Int} (hr : Row r) {b j t : Nat} (hb : b < j) (e : daysL r b = daysL r j) (hd : ∀ a a', a < j → a' < a → daysL r a' ≠ daysL r a) (ht : t < j) : inRB (daysL r t) = decide ((b : Int) ≤ (t : Int)) := by
  have hR := row_days hr t
  have h1 := inRB_iff (M := 999) hR.1 hR.2.2
  have h2 := at_round hb e hd ht
  rw [Bool.eq_iff_iff, h1, h2, decide_eq_true_eq]
  omega
def c__law_right (G : Str → Addr) : PC := fun ds Q X => match ds with | [.draw] => Q (.bl true) | _ => False
def fb__law_right1 (G : Str → Addr) : TSt :=
    dSeq (dSet 5 (dOp2 qGe (dVar 4) (dVar 3)))
    (dIf (bOr (bNot (bTest (dCall (c__law_says G) (aCons (dLst (aCons (dCall (c_is_in_round G) (aCons (dOp2 qIx (dVar 2) (dVar 4)) (aNil))) (aCons (dCallK (c_is_in_round G) [0] (aCons (dOp2 qIx (dVar 2) (dVar 4)) (aNil))) (aNil)))) (aCons (dLst (aCons (dVar 5) (aCons (dVar 5) (aNil)))) (aNil)))))) (bTest (dOp2 qNe (dCall (c__law_in_round G) (aCons (dOp2 qIx (dVar 2) (dVar 4)) (aNil))) (dVar 5)))) (dRet (dC (.bl false))) (dNext))
def fb__law_right2 (G : Str → Addr) : TSt :=
    dIf (bTest (dOp2 qEq (dOp2 qMod (dOp1 qInt (dOp1 qLen (dLc (iSeq (dSl3 (dVar 10) (pIt (dVar 11)) (pNo) (pIt (dVar 9)))) (gN 13) (bTest (dOp2 qNe (dVar 13) (dC (.int 0)))) (dVar 13) [13]))) (dC (.int 2))) (dC (.int 1)))) (dSetL (dOp2 qSub (dVar 7) (dOp2 qIx (dVar 10) (dVar 11))) (dVar 10) (dVar 11)) (dNext)
def r__law_right (G : Str → Addr) : TSt :=
    dSeq (dSet 1 (dCall (c__law_row G) (aCons (dVar 0) (aCons (dC (.int 10)) (aNil)))))
    (dSeq (dAsgT (dCall (c__law_line G) (aCons (dVar 1) (aNil))) (gT2 (gN 2) (gN 3)))
    (dSeq (dFor (iSeq (dLst (aCons (dC (.int 0)) (aCons (dVar 3) (aCons (dOp2 qMax2 (dOp2 qSub (dVar 3) (dC (.int 1))) (dC (.int 0))) (aCons (dOp2 qSub (dOp1 qLen (dVar 2)) (dC (.int 1))) (aNil))))))) (gN 4) (fb__law_right1 G))
    (dSeq (dAsgT (dTup (aCons (dOp2 qAdd (dC (.int 1)) (dCall (c__law_take G) (aCons (dVar 0) (aCons (dC (.int 24)) (aNil))))) (aCons (dOp2 qAdd (dC (.int 1)) (dCall (c__law_take G) (aCons (dVar 0) (aCons (dC (.int 999)) (aNil))))) (aNil)))) (gT2 (gN 6) (gN 7)))
    (dSeq (dSet 8 (dOp1 qTuple (dLc (iSeq (dCall (c__law_signs G) (aCons (dVar 0) (aCons (dVar 6) (aNil))))) (gN 12) (bYes) (dOp2 qMul (dVar 7) (dVar 12)) [12])))
    (dSeq (dSet 9 (dCall (c__law_two_power G) (aCons (dVar 6) (aNil))))
    (dSeq (dSet 10 (dOp1 qList (dVar 8)))
    (dSeq (dFor (iR1 (dVar 9)) (gN 11) (fb__law_right2 G))
    (dRet (dAnd (dOp2 qEq (dCall (c_is_in_round G) (aCons (dVar 8) (aNil))) (dCall (c__law_in_round G) (aCons (dVar 8) (aNil)))) (dOp2 (qIsB false) (dCall (c_is_in_round G) (aCons (dOp1 qTuple (dVar 10)) (aNil))) (dC (.bl true))))))))))))
abbrev N__law_right : List Str := ["draw", "row", "line", "before", "at", "due", "many", "high", "twos", "wide", "even", "rest", "sign", "number"]
theorem l__law_right {G : Str → Addr} : ∀ ds Q X, c__law_right G ds Q X → ds.length = 1 := fun ds _ _ h => by unfold c__law_right at h; split at h <;> first | rfl | exact h.elim
theorem right_loop {G s0 s1 s6 s7 s8 s9 s10 s11 s12 s13} {P : PEnds} {r : List Int} (hr : Row r) {b j : Nat} (hb : b < j) (e : daysL r b = daysL r j) (hd : ∀ a a', a < j → a' < a → daysL r a' ≠ daysL r a)
    (hq : ∀ s4 s5, P.nx [s0, s1, .va (.lst (lineL (daysL r) j)), .va (.int (b : Nat)), s4, s5, s6, s7, s8, s9, s10, s11, s12, s13]) : ∀ (ls : List Int) (s4 s5 : Sl), (∀ l ∈ ls, 0 ≤ l ∧ l < j) →
    fo (gN 4) (fb__law_right1 G) P (ls.map D.int) [s0, s1, .va (.lst (lineL (daysL r) j)), .va (.int (b : Nat)), s4, s5, s6, s7, s8, s9, s10, s11, s12, s13]
  | [], s4, s5, _ => hq s4 s5
  | l :: ls, s4, s5, hl => by
    rw [List.map_cons]
    refine fo_intro fun W hW => ?_
    obtain ⟨h0, h1⟩ := hl l List.mem_cons_self
    obtain ⟨t, rfl⟩ := Int.eq_ofNat_of_zero_le h0
    have ht : t < j := by omega
    have hi := in_at hr hb e hd ht
    unfold fb__law_right1
    refine seq_intro fun N hN => ?_
    walk_at "pu"
    rw [hN]; clear hN N
    walk_at "pu"
    refine lineL_at _ ht ?_
    walk_at "pu"
    refine u_in_round (row_days hr t) ?_
    refine lineL_at _ ht ?_
    walk_at "pu"
    refine u_in_round (row_days hr t) ?_
    refine ⟨by decide, by decide, ?_⟩
    refine u_saysB (bs := [inRB (daysL r t), inRB (daysL r t)]) rfl (by rw [hi]; rfl) (by show 2 ≤ 40; decide) ?_
    (try walk_at "pu")
    refine lineL_at _ ht ?_
    walk_at "pu"
    refine u_law_in_round (row_days hr t) ?_
    rw [hi]
    refine qNe_same (n := 1) rfl (okN_bl _) (by decide) ?_
    (try walk_at "pu")
    rw [hW]
    exact right_loop hr hb e hd hq ls _ _ fun l hl' => hl l (List.mem_cons_of_mem _ hl')
def fixL (h : Int) (w : Nat) : Nat → List Int → List Int
  | 0, r => r
  | p + 1, r => if cntL (clsL (fixL h w p r) w p) % 2 = 1 then (fixL h w p r).set p (h - (fixL h w p r).getD p 0) else fixL h w p r
theorem fixL_len (h : Int) (w : Nat) (r : List Int) : ∀ p, (fixL h w p r).length = r.length
  | 0 => rfl
  | p + 1 => by
    unfold fixL
    split
    · rw [List.length_set, fixL_len h w r p]
    · exact fixL_len h w r p
theorem set_mem {r : List Int} {p : Nat} {v x : Int} (h : x ∈ r.set p v) : x = v ∨ x ∈ r := (List.mem_or_eq_of_mem_set h).symm
theorem fixL_two {h : Int} {w : Nat} {r : List Int} (hr : TwoL h r) (hw : w ≤ r.length) : ∀ p, p ≤ w → TwoL h (fixL h w p r)
  | 0, _ => hr
  | p + 1, hp => by
    have ih := fixL_two hr hw p (by omega)
    unfold fixL
    split
    · intro x hx
      rcases set_mem hx with e | e
      · have := ih _ (getD_mem (r := fixL h w p r) (i := p) (by rw [fixL_len]; omega))
        omega
      · exact ih x e
    · exact ih
theorem cnt_cons (x : Int) (l : List Int) : cntL (x :: l) = (if x = 0 then 0 else 1) + cntL l := by
  unfold cntL
  by_cases h : x = 0
  · rw [List.filter_cons_of_neg (by simp [h]), if_pos h]; omega
  · rw [List.filter_cons_of_pos (by simp [h]), if_neg h, List.length_cons]; omega
theorem set_F {r : List Int} {p i : Nat} {v : Int} (h : i < r.length) (hp : p < r.length) : rowF (r.set p v) i = if i = p then v else rowF r i := by
  unfold rowF
  rw [List.length_set, Nat.mod_eq_of_lt h, List.getD_eq_getElem?_getD, List.getD_eq_getElem?_getD]
  by_cases e : i = p
  · subst e
    rw [if_pos rfl, List.getElem?_set_self h]; rfl
  · rw [if_neg e, List.getElem?_set_ne (fun z => e z.symm)]
theorem cls_set_other {r : List Int} {w q p t : Nat} {v : Int} (hn : r.length = w * q) (hq : 1 ≤ q) (hp : p < w) (ht : t < w) (hne : t ≠ p) : clsL (r.set p v) w t = clsL r w t := by
  rw [clsL_eq (by rw [List.length_set]; exact hn) ht hq, clsL_eq hn ht hq]
  refine List.map_congr_left fun m hm => ?_
  have hm := List.mem_range.mp hm
  have h1 : m * w + w ≤ w * q := by
    rw [Nat.mul_comm m w, ← Nat.mul_succ]
    exact Nat.mul_le_mul_left _ hm
  rw [set_F (by omega) (by omega), if_neg ?_]
  intro e
  by_cases hm0 : m = 0
  · subst hm0; omega
  · have : 1 * w ≤ m * w := Nat.mul_le_mul_right _ (by omega)
    omega
theorem cls_set_same {r : List Int} {w q p : Nat} {h : Int} (hh : 1 ≤ h) (hn : r.length = w * q) (hq : 1 ≤ q) (hp : p < w) (ht : TwoL h r) : (cntL (clsL (r.set p (h - r.getD p 0)) w p) + cntL (clsL r w p)) % 2 = 1 := by
  rw [clsL_eq (by rw [List.length_set]; exact hn) hp hq, clsL_eq hn hp hq]
  obtain ⟨t, rfl⟩ : ∃ t, q = t + 1 := ⟨q - 1, by omega⟩
  have hw : w * 1 ≤ w * (t + 1) := Nat.mul_le_mul_left _ (by omega)
  rw [List.range_succ_eq_map, List.map_cons, List.map_cons, List.map_map, List.map_map, cnt_cons, cnt_cons, Nat.zero_mul, Nat.add_zero, set_F (by omega) (by omega), if_pos rfl]
  have e : (List.range t).map ((fun m => rowF (r.set p (h - r.getD p 0)) (p + m * w)) ∘ Nat.succ) = (List.range t).map ((fun m => rowF r (p + m * w)) ∘ Nat.succ) := by
    refine List.map_congr_left fun m hm => ?_
    have hm := List.mem_range.mp hm
    show rowF (r.set p (h - r.getD p 0)) (p + (m + 1) * w) = rowF r (p + (m + 1) * w)
    have h1 : (m + 1) * w + w ≤ w * (t + 1) := by
      rw [Nat.mul_comm (m + 1) w, ← Nat.mul_succ]
      exact Nat.mul_le_mul_left _ (by omega)
    have h2 : 1 * w ≤ (m + 1) * w := Nat.mul_le_mul_right _ (by omega)
    rw [set_F (by omega) (by omega), if_neg (by omega)]
  rw [e]
  have hx : rowF r p = r.getD p 0 := by unfold rowF; rw [Nat.mod_eq_of_lt (by omega)]
  rw [hx]
  have := ht _ (getD_mem (r := r) (i := p) (by omega))
  rcases this with z | z <;> rw [z]
  · rw [if_neg (by omega), if_pos rfl]; omega
  · rw [if_pos (by omega), if_neg (by omega)]; omega
theorem fixL_even {h : Int} {w q : Nat} {r : List Int} (hh : 1 ≤ h) (hn : r.length = w * q) (hq : 1 ≤ q) (hr : TwoL h r) : ∀ p, p ≤ w → ∀ t, t < p → cntL (clsL (fixL h w p r) w t) % 2 = 0
  | 0, _ => fun t ht => absurd ht (Nat.not_lt_zero _)
  | p + 1, hp => fun t ht => by
    have hw : w * 1 ≤ w * q := Nat.mul_le_mul_left _ hq
    have ih := fixL_even hh hn hq hr p (by omega)
    have hl : (fixL h w p r).length = w * q := by rw [fixL_len]; exact hn
    have h2 : TwoL h (fixL h w p r) := fixL_two hr (by omega) p (by omega)
    unfold fixL
    by_cases hc : cntL (clsL (fixL h w p r) w p) % 2 = 1
    · rw [if_pos hc]
      by_cases e : t = p
      · subst e
        have := cls_set_same hh hl hq (by omega) h2 (p := t)
        omega
      · rw [cls_set_other hl hq (by omega) (by omega) e]
        exact ih t (by omega)
    · rw [if_neg hc]
      by_cases e : t = p
      · subst e; omega
      · exact ih t (by omega)
theorem fixL_in {h : Int} {r : List Int} (hh : 1 ≤ h) (hr : TwoL h r) (h1 : 1 ≤ r.length) : inRB (fixL h (twoP r.length) (twoP r.length) r) = true := by
  obtain ⟨e, q, he, hq, ho⟩ := twoP_spec h1
  have ht := fixL_two hr (twoP_le h1) (twoP r.length) (Nat.le_refl _)
  have hE := fixL_even hh hq (by omega) hr (twoP r.length) (Nat.le_refl _)
  unfold inRB
  rw [Bool.and_eq_true]
  have hlen : (fixL h (twoP r.length) (twoP r.length) r).length = r.length := fixL_len _ _ _ _
  refine ⟨(isTwos_iff (by rw [hlen]; exact h1) fun x hx => ?_).mpr ⟨h, by omega, ht⟩, ?_⟩
  · rcases ht x hx with z | z <;> omega
  · rw [hlen, List.all_eq_true]
    exact fun p hp => decide_eq_true (hE p (List.mem_range.mp hp))
theorem idxLs_eq {w q p : Nat} (hp : p < w) (hq : 1 ≤ q) : idxLs (w * q) (some (p : Int)) none (some (w : Int)) = (List.range q).map fun m => p + m * w := by
  unfold idxLs
  have hw : w * 1 ≤ w * q := Nat.mul_le_mul_left _ hq
  have e : sliceBounds (some (p : Int)) none (some (w : Int)) (w * q) = ((p : Int), ((w * q : Nat) : Int), (w : Int)) := by
    unfold sliceBounds
    have h1 : (w : Int) > 0 := by omega
    have h2 : ¬ ((p : Int) < 0) := by omega
    simp only [Option.getD_some, if_pos h1, if_neg h2]
    rw [Int.min_eq_left (by omega), Int.max_eq_right (by omega)]
  rw [e]
  unfold sliceRange
  have h3 : (p : Int) < ((w * q : Nat) : Int) := by omega
  have e2 : ((w * q : Nat) : Int) - (p : Int) + (w : Int) - 1 = ((w : Int) - 1 - p) + (w : Int) * (q : Int) := by
    rw [Int.natCast_mul]; omega
  have e3 : (((w * q : Nat) : Int) - (p : Int) + (w : Int) - 1) / (w : Int) = q := by
    rw [e2, Int.add_mul_ediv_left _ _ (by omega), Int.ediv_eq_zero_of_lt (by omega) (by omega)]
    omega
  show (List.range (if (w : Int) > 0 then (if (p : Int) < ((w * q : Nat) : Int) then (((w * q : Nat) : Int) - (p : Int) + (w : Int) - 1) / (w : Int) else 0) else (if (p : Int) > ((w * q : Nat) : Int) then ((p : Int) - ((w * q : Nat) : Int) - (w : Int) - 1) / (-(w : Int)) else 0)).toNat).map _ = _
  rw [if_pos (by omega), if_pos h3, e3, Int.toNat_natCast]
  refine List.map_congr_left fun m _ => ?_
  rw [Int.mul_comm, ← Int.natCast_mul, ← Int.natCast_add, Int.toNat_natCast]
theorem pmt_cls {r : List Int} {w q p : Nat} (hn : r.length = w * q) (hp : p < w) (hq : 1 ≤ q) : PL.pmt (idxLs r.length (some (p : Int)) none (some (w : Int))) (r.map D.int) = (clsL r w p).map D.int := by
  rw [pmt_map, hn, idxLs_eq hp hq, clsL_eq hn hp hq]
  congr 1
  unfold PL.pmt
  rw [List.filterMap_map]
  refine filterMap_some fun m hm => ?_
  have hm := List.mem_range.mp hm
  have h1 : m * w + w ≤ w * q := by
    rw [Nat.mul_comm m w, ← Nat.mul_succ]
    exact Nat.mul_le_mul_left _ hm
  have hlt : p + m * w < r.length := by omega
  show r[p + m * w]? = some (rowF r (p + m * w))
  unfold rowF
  rw [Nat.mod_eq_of_lt hlt, List.getD_eq_getElem?_getD, List.getElem?_eq_getElem hlt]
  rfl
theorem fix_loop {G s0 s1 s2 s3 s4 s5 s6 s8 s12} {P : PEnds} {r : List Int} {h : Int} {w q : Nat} (hh : 1 ≤ h) (hn : r.length = w * q) (hq : 1 ≤ q) (hl : r.length ≤ 24) (hr : TwoL h r) (hk : ∀ s11, P.nx [s0, s1, s2, s3, s4, s5, s6, .va (.int h), s8, .va (.int (w : Nat)), .ow (.lst ((fixL h w w r).map D.int)), s11, s12, .no]) : ∀ (n p : Nat) (s11 : Sl), p + n = w →
    fo (gN 11) (fb__law_right2 G) P (((List.range n).map fun i => ((p + i : Nat) : Int)).map D.int) [s0, s1, s2, s3, s4, s5, s6, .va (.int h), s8, .va (.int (w : Nat)), .ow (.lst ((fixL h w p r).map D.int)), s11, s12, .no]
  | 0, p, s11, e => by
    have : p = w := by omega
    subst this
    exact hk s11
  | n + 1, p, s11, e => by
    rw [List.range_succ_eq_map, List.map_cons, List.map_cons, List.map_map]
    refine fo_intro fun W hW => ?_
    have hpw : p < w := by omega
    have hlen : (fixL h w p r).length = w * q := by rw [fixL_len]; exact hn
    have hle := clsL_le hlen hpw hq
    have hw1 : w * 1 ≤ w * q := Nat.mul_le_mul_left _ hq
    have step : ∀ s11, W [s0, s1, s2, s3, s4, s5, s6, .va (.int h), s8, .va (.int (w : Nat)), .ow (.lst ((fixL h w (p + 1) r).map D.int)), s11, s12, .no] := fun s11 => by
      rw [hW]
      have := fix_loop (G := G) hh hn hq hl hr hk n (p + 1) s11 (by omega)
      rw [List.map_map] at this ⊢
      have e4 : (D.int ∘ fun i => ((p + 1 + i : Nat) : Int)) = ((D.int ∘ fun i => ((p + i : Nat) : Int)) ∘ Nat.succ) := by
        funext i
        show D.int ((p + 1 + i : Nat) : Int) = D.int ((p + (i + 1) : Nat) : Int)
        congr 2
        omega
      rw [e4] at this
      exact this
    unfold fb__law_right2
    walk_at "pu"
    rw [show p + 0 = p from rfl]
    have hc := pmt_cls hlen hpw hq
    refine ⟨fun z => by have := Option.some.inj z; omega, ?_⟩
    rw [hc]
    refine ⟨by rw [List.length_map, sizeLine_eq]; omega, ?_⟩
    refine lc_filter (fun n => decide (n ≠ 0)) id (by omega) (fun n hn J Jf h1 h2 => ?_) ?_
    · walk_at "pu"
      by_cases e : n = 0
      · rw [decide_eq_true e]
        exact h2 (by simpa using e)
      · rw [decide_eq_false e]
        exact h1 (by simpa using e)
    · rw [List.map_id]
      walk_at "pu"
      refine ⟨by decide, ?_⟩
      have e2 : decide ((((clsL (fixL h w p r) w p).filter fun n => decide (n ≠ 0)).length : Int) % 2 = 1) = decide (cntL (clsL (fixL h w p r) w p) % 2 = 1) := by
        unfold cntL
        rw [decide_eq_decide]
        omega
      rw [e2]
      unfold fixL at step
      by_cases e3 : cntL (clsL (fixL h w p r) w p) % 2 = 1
      · rw [decide_eq_true e3]
        rw [if_pos e3] at step
        unfold dSetL
        walk_at "pu"
        refine qIx_L (by omega) (by rw [hlen]; omega) ?_
        walk_at "pu"
        rw [Int.toNat_natCast]
        refine ixD_nat (by rw [hlen]; omega) ?_
        rw [← set_ints]
        exact step _
      · rw [decide_eq_false e3]
        rw [if_neg e3] at step
        exact step _
theorem row_twos {s : List Int} {h : Int} (hs : Signs s) (h1 : 1 ≤ s.length) (h2 : s.length ≤ 24) (hh : 1 ≤ h) (hh2 : h ≤ 999) : Row (s.map fun x => h * x) := ⟨by rw [List.length_map]; exact h1, by rw [List.length_map]; exact h2, fun n hn => by
  obtain ⟨x, hx, rfl⟩ := List.mem_map.mp hn
  rcases hs x hx with e | e <;> rw [e] <;> omega⟩
theorem two_twos {s : List Int} {h : Int} (hs : Signs s) : TwoL h (s.map fun x => h * x) := fun n hn => by
  obtain ⟨x, hx, rfl⟩ := List.mem_map.mp hn
  rcases hs x hx with e | e <;> rw [e] <;> omega
theorem p__law_right {G} : Pure (c__law_right G) (r__law_right G) N__law_right := fun ds Q X h => by
  match ds, h with
  | [.draw], h =>
    unfold r__law_right
    refine seq_intro fun N hN => ?_
    walk_at "pu"
    refine u_row (by decide) (by decide) fun r hr hl => ?_
    have hr1 := hr.1
    rw [hN]; clear hN N
    refine seq_intro fun N hN => ?_
    unfold c__law_line
    walk_at "pu"
    refine ⟨r, rfl, hr1, by omega, hr.2.2, fun j b hb hj e hd => ?_⟩
    (try walk_at "pu")
    rw [hN]; clear hN N
    refine seq_intro fun N hN => ?_
    walk_at "pu"
    rw [List.length_range]
    refine ⟨by decide, right_loop (s0 := .va .draw) (s1 := .va (T r)) hr hb e hd (fun s4 s5 => ?_) [0, (b : Int), max ((b : Int) - 1) 0, (j : Int) - 1] .no .no fun l hl => ?_⟩
    · show N _
      rw [hN]; clear hN N
      refine seq_intro fun N hN => ?_
      unfold c__law_take
      walk_at "pu"
      refine ⟨by decide, fun k0 k1 _ k2 => ⟨by decide, fun z0 z1 _ z2 => ⟨by decide, ?_⟩⟩⟩
      have hk := k2 (by decide)
      have hz := z2 (by decide)
      obtain ⟨k, hk3, hk4, hk5⟩ : ∃ k : Nat, 1 + k0 = (k : Int) ∧ 1 ≤ k ∧ k ≤ 24 := ⟨(1 + k0).toNat, by omega, by omega, by omega⟩
      rw [hk3]
      obtain ⟨h', hh, hh1, hh2⟩ : ∃ h' : Int, 1 + z0 = h' ∧ 1 ≤ h' ∧ h' ≤ 999 := ⟨_, rfl, by omega, by omega⟩
      rw [hh]
      rw [hN]; clear hN N
      refine seq_intro fun N hN => ?_
      unfold c__law_signs
      walk_at "pu"
      refine ⟨k, rfl, by omega, fun sg hs hsl => ?_⟩
      (try walk_at "pu")
      refine lc_ints (fun x => h' * x) (by omega) (fun n hn J hJ => ?_) ?_
      · walk_at "pu"
        refine ⟨cmul_l ⟨by omega, by omega⟩, hJ⟩
      (try walk_at "pu")
      have hRow := row_twos hs (by omega) (by omega) hh1 hh2
      have hTwo := two_twos (h := h') hs
      have hlen : (sg.map fun x => h' * x).length = k := by rw [List.length_map]; exact hsl
      obtain ⟨ev, q, he, hq, ho⟩ := twoP_spec hRow.1
      have hin := fixL_in hh1 hTwo hRow.1
      rw [hlen] at hq hin
      have hnq : (sg.map fun x => h' * x).length = twoP k * q := by rw [hlen]; exact hq
      rw [hN]; clear hN N
      refine seq_intro fun N hN => ?_
      unfold c__law_two_power
      walk_at "pu"
      refine ⟨k, rfl, hk4, by omega, ?_⟩
      (try walk_at "pu")
      rw [hN]; clear hN N
      refine seq_intro fun N hN => ?_
      walk_at "pu"
      rw [hN]; clear hN N
      refine seq_intro fun N hN => ?_
      walk_at "pu"
      have hw := twoP_le hk4
      refine ⟨⟨by omega, by omega⟩, ?_⟩
      rw [rng0]
      have fl := fix_loop (G := G) (s0 := .va .draw) (s1 := .va (T r)) (s2 := .va (.lst (lineL (daysL r) j))) (s3 := .va (.int (b : Nat))) (s4 := s4) (s5 := s5) (s6 := .va (.int (k : Nat))) (s8 := .va (T (sg.map fun x => h' * x))) (s12 := .no) (P := { nx := N, rt := Q, ex := X }) hh1 hnq (by omega) (by omega) hTwo (fun s11 => ?_) (twoP k) 0 .no (by omega)
      · rw [show (fun i => ((0 + i : Nat) : Int)) = (fun i : Nat => (i : Int)) by funext i; rw [Nat.zero_add]] at fl
        exact fl
      · show N _
        rw [hN]
        have hRow2 : Row (fixL h' (twoP k) (twoP k) (sg.map fun x => h' * x)) := ⟨by rw [fixL_len, hlen]; exact hk4, by rw [fixL_len, hlen]; exact hk5, fun x hx => by
          have := fixL_two hTwo (by rw [hlen]; exact hw) (twoP k) (Nat.le_refl _) x hx
          omega⟩
        walk_at "pu"
        refine u_in_round hRow ?_
        refine u_law_in_round hRow ?_
        refine qEq_same (n := 1) rfl (okN_bl _) (by decide) ?_
        (try walk_at "pu")
        refine u_in_round hRow2 ?_
        rw [hin]
        (try walk_at "pu")
        trace_state
        exact h
    · simp only [List.mem_cons, List.not_mem_nil, or_false] at hl
      omega
end RP
set_option Elab.async false
set_option linter.all false
set_option maxRecDepth 100000
namespace RP
open PySem PySem.Spec PyProof.Rows L2 PL
local macro_rules | `(tactic| walk_at "pu") => `(tactic| simp only [decide_true, decide_false, Bool.not_true, Bool.not_false, startD, Nat.reduceAdd, Nat.reduceSub, List.replicate_zero, List.replicate_succ, List.map_cons, List.map_nil, List.length_cons, List.length_nil, List.length_map, List.length_replicate, List.cons_append, List.nil_append, true_and, and_true, dSeq, dNext, dRet, dRetN, dBrk, dCnt, dIf, dSet, dPar2, dPar3, mCons, mNil, dOp1, dOp2, dC, dTup, dLst, aCons, aNil, bTest, bAnd, bOr, bNot, bYes, dAnd, dOr, dNot, dIfE, dCall, dFor, dLc, iR1, iR2, iSeq, iEnD, iZpD, iScr, gN, dAsgT, dDrop, dRaise, dAppend, dPop, dNewT, dNewK, dCallK, dSl, pIt, pNo, dChain, dCaught, aC, dSl3, dCallV, pu_use_d, pu_use_olst, pu_peek_olst, pu_use_odK, pu_peek_odK, pu_use_odT, pu_peek_odT, pu_peek_d, pu_use_r, pu_peek_r, pu_var, pu_useS_va, pu_peekS_va, pu_varS_va, pu_varS_ow, pu_useS_lst, pu_peekS_lst, pu_useS_dK, pu_peekS_dK, pu_useS_dT, pu_peekS_dT, pu_get0, pu_getS, pu_set0, pu_setS, pu_wipe0, pu_wipeS, pu_asg_d, pu_asg_o, pu_asg_r, pu_fz_d, pu_fz_o, pu_fz_r, pu_toSl_d, pu_toSl_o, pu_isB, pu_qAdd, pu_qAddT, pu_qAddL, pu_qMul, pu_qMulT, pu_qMulL, pu_qSub, pu_qMod, pu_qDiv, pu_qPow, pu_qLt, pu_qLe, pu_qGt, pu_qGe, pu_qMax2, pu_qMin2, pu_qEq, pu_qNe, pu_qNeg, pu_qAbs, pu_qInt, pu_qLenT, pu_qLenL, pu_qLenS, pu_qLstT, pu_qLstL, pu_qTupT, pu_qTupL, pu_qSlT, pu_qSlL, pu_atL, pu_atLS, pu_gT, pu_gpC, pu_gpN, pu_ty_non, pu_ty_bl, pu_ty_int, pu_ty_str, pu_ty_tup, pu_ty_lst, pu_qEqS, pu_qNeS, pu_isi_non_int, pu_isi_non_bool, pu_isi_non_str, pu_isi_non_tuple, pu_isi_non_list, pu_isi_non_dict, pu_isi_bl_int, pu_isi_bl_bool, pu_isi_bl_str, pu_isi_bl_tuple, pu_isi_bl_list, pu_isi_bl_dict, pu_isi_int_int, pu_isi_int_bool, pu_isi_int_str, pu_isi_int_tuple, pu_isi_int_list, pu_isi_int_dict, pu_isi_str_int, pu_isi_str_bool, pu_isi_str_str, pu_isi_str_tuple, pu_isi_str_list, pu_isi_str_dict, pu_isi_tup_int, pu_isi_tup_bool, pu_isi_tup_str, pu_isi_tup_tuple, pu_isi_tup_list, pu_isi_tup_dict, pu_isi_lst_int, pu_isi_lst_bool, pu_isi_lst_str, pu_isi_lst_tuple, pu_isi_lst_list, pu_isi_lst_dict, pu_isi_dK_int, pu_isi_dK_bool, pu_isi_dK_str, pu_isi_dK_tuple, pu_isi_dK_list, pu_isi_dK_dict, pu_isi_dT_int, pu_isi_dT_bool, pu_isi_dT_str, pu_isi_dT_tuple, pu_isi_dT_list, pu_isi_dT_dict, pu_isn_non_false, pu_isn_non_true, pu_isn_bl_false, pu_isn_bl_true, pu_isn_int_false, pu_isn_int_true, pu_isn_str_false, pu_isn_str_true, pu_isn_tup_false, pu_isn_tup_true, pu_isn_lst_false, pu_isn_lst_true, pu_isn_dK_false, pu_isn_dK_true, pu_isn_dT_false, pu_isn_dT_true, pu_isn_exn_false, pu_isn_exn_true, pu_qReprB, pu_qReprN, pu_lamR_nil, pu_lamR_va, pu_lamR_ow, pu_lamR_no, pu_gT2, pu_gT3, pu_qSl3, pu_qSl3L, pu_qIsB])
local macro_rules | `(tactic| walk_at "pv") => `(tactic| simp -implicitDefEqProofs only [decide_true, decide_false, Bool.not_true, Bool.not_false, startD, Nat.reduceAdd, Nat.reduceSub, List.replicate_zero, List.replicate_succ, List.map_cons, List.map_nil, List.length_cons, List.length_nil, List.length_map, List.length_replicate, List.cons_append, List.nil_append, true_and, and_true, dSeq, dNext, dRet, dRetN, dBrk, dCnt, dIf, dSet, dPar2, dPar3, mCons, mNil, dOp1, dOp2, dC, dTup, dLst, aCons, aNil, bTest, bAnd, bOr, bNot, bYes, dAnd, dOr, dNot, dIfE, dCall, dFor, dLc, iR1, iR2, iSeq, iEnD, iZpD, iScr, gN, dAsgT, dDrop, dRaise, dAppend, dPop, dNewT, dNewK, dCallK, dSl, pIt, pNo, dChain, dCaught, aC, dSl3, dCallV, pu_use_d, pu_use_olst, pu_peek_olst, pu_use_odK, pu_peek_odK, pu_use_odT, pu_peek_odT, pu_peek_d, pu_use_r, pu_peek_r, pu_var, pu_useS_va, pu_peekS_va, pu_varS_va, pu_varS_ow, pu_useS_lst, pu_peekS_lst, pu_useS_dK, pu_peekS_dK, pu_useS_dT, pu_peekS_dT, pu_get0, pu_getS, pu_set0, pu_setS, pu_wipe0, pu_wipeS, pu_asg_d, pu_asg_o, pu_asg_r, pu_fz_d, pu_fz_o, pu_fz_r, pu_toSl_d, pu_toSl_o, pu_isB, pu_qAdd, pu_qAddT, pu_qAddL, pu_qMul, pu_qMulT, pu_qMulL, pu_qSub, pu_qMod, pu_qDiv, pu_qPow, pu_qLt, pu_qLe, pu_qGt, pu_qGe, pu_qMax2, pu_qMin2, pu_qEq, pu_qNe, pu_qNeg, pu_qAbs, pu_qInt, pu_qLenT, pu_qLenL, pu_qLenS, pu_qLstT, pu_qLstL, pu_qTupT, pu_qTupL, pu_qSlT, pu_qSlL, pu_atL, pu_atLS, pu_gT, pu_gpC, pu_gpN, pu_ty_non, pu_ty_bl, pu_ty_int, pu_ty_str, pu_ty_tup, pu_ty_lst, pu_qEqS, pu_qNeS, pu_isi_non_int, pu_isi_non_bool, pu_isi_non_str, pu_isi_non_tuple, pu_isi_non_list, pu_isi_non_dict, pu_isi_bl_int, pu_isi_bl_bool, pu_isi_bl_str, pu_isi_bl_tuple, pu_isi_bl_list, pu_isi_bl_dict, pu_isi_int_int, pu_isi_int_bool, pu_isi_int_str, pu_isi_int_tuple, pu_isi_int_list, pu_isi_int_dict, pu_isi_str_int, pu_isi_str_bool, pu_isi_str_str, pu_isi_str_tuple, pu_isi_str_list, pu_isi_str_dict, pu_isi_tup_int, pu_isi_tup_bool, pu_isi_tup_str, pu_isi_tup_tuple, pu_isi_tup_list, pu_isi_tup_dict, pu_isi_lst_int, pu_isi_lst_bool, pu_isi_lst_str, pu_isi_lst_tuple, pu_isi_lst_list, pu_isi_lst_dict, pu_isi_dK_int, pu_isi_dK_bool, pu_isi_dK_str, pu_isi_dK_tuple, pu_isi_dK_list, pu_isi_dK_dict, pu_isi_dT_int, pu_isi_dT_bool, pu_isi_dT_str, pu_isi_dT_tuple, pu_isi_dT_list, pu_isi_dT_dict, pu_isn_non_false, pu_isn_non_true, pu_isn_bl_false, pu_isn_bl_true, pu_isn_int_false, pu_isn_int_true, pu_isn_str_false, pu_isn_str_true, pu_isn_tup_false, pu_isn_tup_true, pu_isn_lst_false, pu_isn_lst_true, pu_isn_dK_false, pu_isn_dK_true, pu_isn_dT_false, pu_isn_dT_true, pu_isn_exn_false, pu_isn_exn_true, pu_qReprB, pu_qReprN, pu_lamR_nil, pu_lamR_va, pu_lamR_ow, pu_lamR_no, pu_gT2, pu_gT3, pu_qSl3, pu_qSl3L, pu_qIsB])
local macro_rules | `(tactic| walk_at "pw") => `(tactic| simp -underLambda only [decide_true, decide_false, Bool.not_true, Bool.not_false, startD, Nat.reduceAdd, Nat.reduceSub, List.replicate_zero, List.replicate_succ, List.map_cons, List.map_nil, List.length_cons, List.length_nil, List.length_map, List.length_replicate, List.cons_append, List.nil_append, true_and, and_true, dSeq, dNext, dRet, dRetN, dBrk, dCnt, dIf, dSet, dPar2, dPar3, mCons, mNil, dOp1, dOp2, dC, dTup, dLst, aCons, aNil, bTest, bAnd, bOr, bNot, bYes, dAnd, dOr, dNot, dIfE, dCall, dFor, dLc, iR1, iR2, iSeq, iEnD, iZpD, iScr, gN, dAsgT, dDrop, dRaise, dAppend, dPop, dNewT, dNewK, dCallK, dSl, pIt, pNo, dChain, dCaught, aC, dSl3, dCallV, pu_use_d, pu_use_olst, pu_peek_olst, pu_use_odK, pu_peek_odK, pu_use_odT, pu_peek_odT, pu_peek_d, pu_use_r, pu_peek_r, pu_var, pu_useS_va, pu_peekS_va, pu_varS_va, pu_varS_ow, pu_useS_lst, pu_peekS_lst, pu_useS_dK, pu_peekS_dK, pu_useS_dT, pu_peekS_dT, pu_get0, pu_getS, pu_set0, pu_setS, pu_wipe0, pu_wipeS, pu_asg_d, pu_asg_o, pu_asg_r, pu_fz_d, pu_fz_o, pu_fz_r, pu_toSl_d, pu_toSl_o, pu_isB, pu_qAdd, pu_qAddT, pu_qAddL, pu_qMul, pu_qMulT, pu_qMulL, pu_qSub, pu_qMod, pu_qDiv, pu_qPow, pu_qLt, pu_qLe, pu_qGt, pu_qGe, pu_qMax2, pu_qMin2, pu_qEq, pu_qNe, pu_qNeg, pu_qAbs, pu_qInt, pu_qLenT, pu_qLenL, pu_qLenS, pu_qLstT, pu_qLstL, pu_qTupT, pu_qTupL, pu_qSlT, pu_qSlL, pu_atL, pu_atLS, pu_gT, pu_gpC, pu_gpN, pu_ty_non, pu_ty_bl, pu_ty_int, pu_ty_str, pu_ty_tup, pu_ty_lst, pu_qEqS, pu_qNeS, pu_isi_non_int, pu_isi_non_bool, pu_isi_non_str, pu_isi_non_tuple, pu_isi_non_list, pu_isi_non_dict, pu_isi_bl_int, pu_isi_bl_bool, pu_isi_bl_str, pu_isi_bl_tuple, pu_isi_bl_list, pu_isi_bl_dict, pu_isi_int_int, pu_isi_int_bool, pu_isi_int_str, pu_isi_int_tuple, pu_isi_int_list, pu_isi_int_dict, pu_isi_str_int, pu_isi_str_bool, pu_isi_str_str, pu_isi_str_tuple, pu_isi_str_list, pu_isi_str_dict, pu_isi_tup_int, pu_isi_tup_bool, pu_isi_tup_str, pu_isi_tup_tuple, pu_isi_tup_list, pu_isi_tup_dict, pu_isi_lst_int, pu_isi_lst_bool, pu_isi_lst_str, pu_isi_lst_tuple, pu_isi_lst_list, pu_isi_lst_dict, pu_isi_dK_int, pu_isi_dK_bool, pu_isi_dK_str, pu_isi_dK_tuple, pu_isi_dK_list, pu_isi_dK_dict, pu_isi_dT_int, pu_isi_dT_bool, pu_isi_dT_str, pu_isi_dT_tuple, pu_isi_dT_list, pu_isi_dT_dict, pu_isn_non_false, pu_isn_non_true, pu_isn_bl_false, pu_isn_bl_true, pu_isn_int_false, pu_isn_int_true, pu_isn_str_false, pu_isn_str_true, pu_isn_tup_false, pu_isn_tup_true, pu_isn_lst_false, pu_isn_lst_true, pu_isn_dK_false, pu_isn_dK_true, pu_isn_dT_false, pu_isn_dT_true, pu_isn_exn_false, pu_isn_exn_true, pu_qReprB, pu_qReprN, pu_lamR_nil, pu_lamR_va, pu_lamR_ow, pu_lamR_no, pu_gT2, pu_gT3, pu_qSl3, pu_qSl3L, pu_qIsB])
abbrev EXN : List Str := ["BadOne", "BadOther", "BadRow"]
def fb_law1 (G : Str → Addr) : TSt :=
    dSet 3 (dOp2 qAdd (dLc (iSeq (dVar 3)) (gN 5) (bYes) (dOp2 qAdd (dVar 5) (dTup (aCons (dC (.int 0)) (aNil)))) [5]) (dLc (iSeq (dVar 3)) (gN 5) (bYes) (dOp2 qAdd (dVar 5) (dTup (aCons (dC (.int 1)) (aNil)))) [5]))
def fb_law2 (G : Str → Addr) : TSt :=
    dIf (bTest (dOp2 qNe (dCall (c_is_in_round G) (aCons (dVar 5) (aNil))) (dOp2 qEq (dOp2 qIx (dCall (c__law_line G) (aCons (dVar 5) (aNil))) (dC (.int 1))) (dC (.int 0))))) (dRet (dC (.bl false))) (dNext)
def fb_law3 (G : Str → Addr) : TSt :=
    dIf (bNot (bTest (dCall (c__law_right G) (aCons (dVar 1) (aNil))))) (dRet (dC (.bl false))) (dNext)
def r_law (G : Str → Addr) : TSt :=
    dSeq (dIf (bNot (bTest (dCall (c__law_says G) (aCons (dLst (aCons (dCall (c_is_in_round G) (aCons (dTup (aCons (dC (.int 0)) (aCons (dC (.int 1)) (aCons (dC (.int 1)) (aNil))))) (aNil))) (aCons (dCall (c_is_in_round G) (aCons (dTup (aCons (dC (.int 0)) (aCons (dC (.int 0)) (aCons (dC (.int 1)) (aNil))))) (aNil))) (aCons (dCall (c_is_in_round G) (aCons (dTup (aCons (dC (.int 0)) (aCons (dC (.int 0)) (aNil)))) (aNil))) (aCons (dCall (c_is_in_round G) (aCons (dTup (aCons (dC (.int 3)) (aCons (dC (.int 3)) (aNil)))) (aNil))) (aCons (dCall (c_is_in_round G) (aCons (dTup (aCons (dC (.int 1)) (aCons (dC (.int 2)) (aCons (dC (.int 1)) (aNil))))) (aNil))) (aNil))))))) (aCons (dLst (aC [(.bl true), (.bl false), (.bl true), (.bl false), (.bl false)])) (aNil)))))) (dRet (dC (.bl false))) (dNext))
    (dSeq (dSet 2 (dOp2 qAdd (dC (.int 1)) (dCall (c__law_take G) (aCons (dVar 1) (aCons (dC (.int 7)) (aNil))))))
    (dSeq (dSet 3 (dLst (aCons (dTup (aNil)) (aNil))))
    (dSeq (dFor (iR1 (dVar 2)) (gN 4) (fb_law1 G))
    (dSeq (dFor (iSeq (dVar 3)) (gN 5) (fb_law2 G))
    (dSeq (dFor (iR1 (dOp2 qAdd (dC (.int 3)) (dOp2 qMin2 (dOp1 qLen (dVar 0)) (dC (.int 8))))) (gN 4) (fb_law3 G))
    (dRet (dOp2 (qIsE G EXN) (dCaught (okC G EXN) (dCall (c_is_in_round G) (aCons (dCall (c__law_no_row G) (aCons (dVar 1) (aNil))) (aNil)))) (dC (.op (.ref (G "BadRow")))))))))))
abbrev N_law : List Str := ["script", "draw", "many", "every", "lap", "row"]
theorem ex_R : ("BadRow" : Str) ∈ EXN := by decide +kernel
theorem qIx_tup {l : List D} {i : Nat} {d : D} {K : PL.Tm → Prop} (h : l[i]? = some d) (k : K (.d d)) : qIx (.tup l) (.int (i : Int)) K := by
  show (match L2.atI l (i : Int) with | some d => K (.d d) | none => False)
  rw [atI_nat _ _ (List.getElem?_eq_some_iff.mp h).1, h]
  exact k
def unT : D → List Int
  | .tup l => l.filterMap fun d => match d with | .int i => some i | _ => none
  | _ => []
theorem unT_T (r : List Int) : unT (T r) = r := by
  show (r.map D.int).filterMap _ = r
  rw [List.filterMap_map]
  induction r with
  | nil => rfl
  | cons x r ih =>
    rw [List.filterMap_cons]
    show x :: _ = _
    rw [ih]
theorem lc_rows {g : TGp} {te : TD} {vs : List Nat} {ρ0 : Rho} (f : List Int → List Int) {rs : List (List Int)} {K : List D → Prop} (hl : rs.length ≤ 4000)
    (h : ∀ r ∈ rs, ∀ (J : D → Prop), J (T (f r)) → g (T r) ρ0 fun ρ2 => te ρ2 (fun m ρ4 => use m ρ4 fun x ρ5 => wipeR ρ5 vs = ρ0 ∧ J x) noX) (hk : K ((rs.map f).map T)) : lcq g bYes te vs ρ0 (rs.map T) [] K := by
  refine lc_map (fun d => T (f (unT d))) (by rw [List.length_map]; exact hl) (fun d hd J hJ => ?_) ?_
  · obtain ⟨r, hr, rfl⟩ := List.mem_map.mp hd
    rw [unT_T] at hJ
    exact h r hr J hJ
  · rw [List.map_map] at hk ⊢
    have e : ((fun d => T (f (unT d))) ∘ T) = T ∘ f := by
      funext r
      show T (f (unT (T r))) = T (f r)
      rw [unT_T]
    rw [e]
    exact hk
def allL : Nat → List (List Int)
  | 0 => [[]]
  | k + 1 => (allL k).map (· ++ [0]) ++ (allL k).map (· ++ [1])
theorem allL_len : ∀ k, (allL k).length = 2 ^ k
  | 0 => rfl
  | k + 1 => by
    unfold allL
    rw [List.length_append, List.length_map, List.length_map, allL_len k, Nat.pow_succ]; omega
theorem allL_mem : ∀ k, ∀ r ∈ allL k, Signs r ∧ r.length = k
  | 0, r, hr => by
    have : r = [] := by simpa [allL] using hr
    subst this
    exact And.intro (fun x hx => by cases hx) rfl
  | k + 1, r, hr => by
    unfold allL at hr
    rcases List.mem_append.mp hr with h | h
    · obtain ⟨s, hs, rfl⟩ := List.mem_map.mp h
      obtain ⟨h1, h2⟩ := allL_mem k s hs
      refine ⟨fun x hx => ?_, by rw [List.length_append, h2]; rfl⟩
      rcases List.mem_append.mp hx with z | z
      · exact h1 x z
      · left; simpa using z
    · obtain ⟨s, hs, rfl⟩ := List.mem_map.mp h
      obtain ⟨h1, h2⟩ := allL_mem k s hs
      refine ⟨fun x hx => ?_, by rw [List.length_append, h2]; rfl⟩
      rcases List.mem_append.mp hx with z | z
      · exact h1 x z
      · right; simpa using z
theorem signs_R {r : List Int} (h : Signs r) (h1 : 1 ≤ r.length) (h2 : r.length ≤ 24) : Row r := ⟨h1, h2, fun x hx => by rcases h x hx with e | e <;> rw [e] <;> decide⟩
theorem all_loop {G s0 s1 s2} {P : PEnds} {K : Nat} (hK : K ≤ 7) (hq : ∀ s4, P.nx [s0, s1, s2, .ow (.lst ((allL K).map T)), s4, .no]) : ∀ (n k : Nat) (s4 : Sl), k + n = K → ∀ ds : List D, ds.length = n →
    fo (gN 4) (fb_law1 G) P ds [s0, s1, s2, .ow (.lst ((allL k).map T)), s4, .no]
  | 0, k, s4, e, [], _ => by
    have : k = K := by omega
    subst this
    exact hq s4
  | n + 1, k, s4, e, d :: ds, hl => by
    refine fo_intro fun W hW => ?_
    have hk : 2 ^ k ≤ 2 ^ 7 := Nat.pow_le_pow_right (by decide) (by omega)
    have h7 : (2 : Nat) ^ 7 = 128 := by decide
    have hlen := allL_len k
    unfold fb_law1
    walk_at "pu"
    refine lc_rows (· ++ [0]) (by omega) (fun r hr J hJ => ?_) ?_
    · walk_at "pu"
      have h1 := (allL_mem k r hr).2
      refine ⟨by decide, by rw [sizeLine_eq]; omega, ?_⟩
      have e : (T (r ++ [0])) = .tup (r.map D.int ++ [D.int 0]) := by show D.tup ((r ++ [0]).map D.int) = _; rw [List.map_append]; rfl
      rw [e] at hJ
      exact hJ
    refine lc_rows (· ++ [1]) (by omega) (fun r hr J hJ => ?_) ?_
    · walk_at "pu"
      have h1 := (allL_mem k r hr).2
      refine ⟨by decide, by rw [sizeLine_eq]; omega, ?_⟩
      have e : (T (r ++ [1])) = .tup (r.map D.int ++ [D.int 1]) := by show D.tup ((r ++ [1]).map D.int) = _; rw [List.map_append]; rfl
      rw [e] at hJ
      exact hJ
    refine ⟨by rw [List.length_map, List.length_map, List.length_map, List.length_map, sizeLine_eq]; omega, ?_⟩
    rw [hW, ← List.map_append]
    exact all_loop hK hq n (k + 1) _ (by omega) ds (by simpa using hl)
theorem every_loop {G s0 s1 s2 s3 s4} {P : PEnds} {K : Nat} (h1 : 1 ≤ K) (h2 : K ≤ 7) (hq : ∀ s5, P.nx [s0, s1, s2, s3, s4, s5]) : ∀ (rs : List (List Int)) (s5 : Sl), (∀ r ∈ rs, Signs r ∧ r.length = K) →
    fo (gN 5) (fb_law2 G) P (rs.map T) [s0, s1, s2, s3, s4, s5]
  | [], s5, _ => hq s5
  | r :: rs, s5, hr => by
    rw [List.map_cons]
    refine fo_intro fun W hW => ?_
    obtain ⟨hs, hl⟩ := hr r List.mem_cons_self
    have hR := signs_R hs (by omega) (by omega)
    unfold fb_law2
    walk_at "pu"
    refine u_in_round hR ?_
    unfold c__law_line
    (try walk_at "pu")
    refine ⟨r, rfl, hR.1, by omega, hR.2.2, fun j b hb hj e hd => ?_⟩
    (try walk_at "pu")
    have hi := in_at hR hb e hd (t := 0) (by omega)
    have hi0 : daysL r 0 = r := rfl
    rw [hi0] at hi
    refine qIx_tup (i := 1) rfl ?_
    walk_at "pu"
    have hi2 : decide ((b : Int) = 0) = inRB r := by
      rw [hi, decide_eq_decide]
      omega
    rw [hi2]
    refine qNe_same (n := 1) rfl (okN_bl _) (by decide) ?_
    (try walk_at "pu")
    rw [hW]
    exact every_loop h1 h2 hq rs _ fun r' h' => hr r' (List.mem_cons_of_mem _ h')
theorem right_all {G ns s2 s3} {P : PEnds} (hq : ∀ s4 s5, P.nx [.va (.scr ns), .va .draw, s2, s3, s4, s5]) : ∀ (ls : List Int) (s4 s5 : Sl),
    fo (gN 4) (fb_law3 G) P (ls.map D.int) [.va (.scr ns), .va .draw, s2, s3, s4, s5]
  | [], s4, s5 => hq s4 s5
  | l :: ls, s4, s5 => by
    rw [List.map_cons]
    refine fo_intro fun W hW => ?_
    unfold fb_law3 c__law_right
    walk_at "pu"
    rw [hW]
    exact right_all hq ls _ _
theorem p_law {G} : ∀ ns : List Int, ns.length ≤ 63 → r_law G { nx := fun _ => False, rt := fun d => d = .bl true, ex := fun _ => False } (.va (.scr ns) :: .va .draw :: List.replicate 4 .no) := fun ns hl => by
  unfold r_law
  refine seq_intro fun N hN => ?_
  walk_at "pu"
  refine ⟨by decide, ?_⟩
  refine u_in_round (r := [0, 1, 1]) ⟨by decide, by decide, by decide⟩ ?_
  refine ⟨by decide, ?_⟩
  refine u_in_round (r := [0, 0, 1]) ⟨by decide, by decide, by decide⟩ ?_
  refine ⟨by decide, ?_⟩
  refine u_in_round (r := [0, 0]) ⟨by decide, by decide, by decide⟩ ?_
  refine ⟨by decide, ?_⟩
  refine u_in_round (r := [3, 3]) ⟨by decide, by decide, by decide⟩ ?_
  refine ⟨by decide, ?_⟩
  refine u_in_round (r := [1, 2, 1]) ⟨by decide, by decide, by decide⟩ ?_
  refine ⟨by decide, by decide, ?_⟩
  refine u_saysB (bs := [true, false, true, false, false]) ?_ rfl (by decide) ?_
  · rw [show inRB [0, 1, 1] = true by decide, show inRB [0, 0, 1] = false by decide, show inRB [0, 0] = true by decide, show inRB [3, 3] = false by decide, show inRB [1, 2, 1] = false by decide]
    rfl
  (try walk_at "pu")
  rw [hN]; clear hN N
  refine seq_intro fun N hN => ?_
  unfold c__law_take
  walk_at "pu"
  refine ⟨by decide, fun z z0 _ z2 => ?_⟩
  have hz := z2 (by decide)
  obtain ⟨K, hK, h1, h2⟩ : ∃ K : Nat, 1 + z = (K : Int) ∧ 1 ≤ K ∧ K ≤ 7 := ⟨(1 + z).toNat, by omega, by omega, by omega⟩
  rw [hK]
  rw [hN]; clear hN N
  refine seq_intro fun N hN => ?_
  walk_at "pu"
  refine ⟨by decide, by decide, ?_⟩
  rw [hN]; clear hN N
  refine seq_intro fun N hN => ?_
  walk_at "pu"
  refine ⟨⟨by omega, by omega⟩, ?_⟩
  refine all_loop (K := K) (s2 := .va (.int K)) h2 (fun s4 => ?_) K 0 .no (by omega) _ (by rw [rngD_length]; omega)
  show N _
  rw [hN]; clear hN N
  refine seq_intro fun N hN => ?_
  walk_at "pu"
  refine every_loop (s3 := .va (.lst ((allL K).map T))) h1 h2 (fun s5 => ?_) (allL K) .no (allL_mem K)
  show N _
  rw [hN]; clear hN N
  refine seq_intro fun N hN => ?_
  walk_at "pu"
  refine ⟨⟨by omega, by omega⟩, ?_⟩
  rw [rng_ints]
  refine right_all (fun s4 s5 => ?_) _ _ _
  show N _
  rw [hN]
  unfold c__law_no_row
  walk_at "pu"
  refine fun d hd1 hd2 => u_in_round_R hd1 hd2 ⟨rfl, ⟨_, ex_R, rfl⟩, ?_⟩
  (try walk_at "pu")
  refine u_isE ex_R ?_
  rfl
end RP
set_option Elab.async false
set_option linter.all false
set_option maxRecDepth 100000
namespace PL
open PySem PySem.Spec PyProof.Rows L2 RP
def spLaw (K : PySem.W.Frag) (TT : List (Addr × Str)) : Sp := fun vs H Q _ => ∃ a ns, vs = [.ref a] ∧ SqL K H a (ns.map V.int) ∧ LamX.Tabs TT H ∧ ns.length ≤ 63 ∧ bitsOk ns ∧ ∀ H', Q (.bl true) H'
def scF (H : Hp) (a : Addr) : Hp := fun b => if b = a then (match H b with
  | some (.lst x) => some (.lst x)
  | some (.frz o u) => some (.frz o u)
  | _ => none) else none
theorem scF_at {H : Hp} {a b : Addr} {o : HO} (h : scF H a b = some o) : b = a ∧ H b = some o ∧ ((∃ x, o = .lst x) ∨ ∃ p u, o = .frz p u) := by
  unfold scF at h
  by_cases e : b = a
  · rw [if_pos e] at h
    split at h
    · rename_i x q; cases h; exact ⟨e, q, .inl ⟨_, rfl⟩⟩
    · rename_i p u q; cases h; exact ⟨e, q, .inr ⟨_, _, rfl⟩⟩
    · cases h
  · rw [if_neg e] at h; cases h
theorem scF_seq {K : PySem.W.Frag} {H : Hp} {a : Addr} {xs : List V} (h : SqL K H a xs) : SqL K (scF H a) a xs := by
  rcases h with (h | ⟨o, h⟩) | h
  · refine .inl (.inl ?_)
    unfold scF
    rw [if_pos rfl, h]
  · refine .inl (.inr ⟨o, ?_⟩)
    unfold scF
    rw [if_pos rfl, h]
  · exact .inr h
theorem okLaw {P : Program} {w : World} {K : PySem.W.Frag} {TT : List (Addr × Str)} {mg : Str → Option Value} {base : Heap} {G : Str → Addr} {k : Nat} {st : Stmt} {f : Addr} {fd : FuncData} {N' : List Str} {s0 : Stmt} {rest : List Stmt} {r : TSt}
    (F : FunD K "law" "law" (defArgs st) (defBody st) (defScope st) [] [] f fd) (Sc : FnScope ("script" :: "draw" :: N') ["script"] (defScope st)) (hst : defBody st = s0 :: rest)
    (hbody : ∀ (cdv : Value) (A : Around) (outer : List Env) (s : Shared) (H : Hp) (E : XK), fd.code = cdv → Room k (A.deeper (envOfC "law" (defScope st) s.heap.objs.size f cdv)) →
      PS (cxOf (L2.CX P w) P w K mg base ("script" :: "draw" :: N') "law" (defScope st) f cdv A outer s H E) s0 (tAsg (tCall (spD K TT (c__law_begun G)) [] E (tCons (tVar 0) tNil)) (gName 1)) ∧
      ∀ S : Sit, S.g.K = K → S.g.T = TT → SXs (cxOf (L2.CX P w) P w K mg base ("script" :: "draw" :: N') "law" (defScope st) f cdv A outer s H E) S E rest r)
    (pure : ∀ ns : List Int, ns.length ≤ 63 → r { nx := fun _ => False, rt := fun d => d = .bl true, ex := fun _ => False } (.va (.scr ns) :: .va .draw :: List.replicate N'.length .no)) :
    FnOk P w K mg base (L2.CX P w) (k + 1) f fd ["script"] (spLaw K TT) := by
  obtain ⟨oc, od, dV, kV, doc, pm, an, cdv, ct, osl, e, lk, hcd, _, _⟩ := F.ex
  subst e
  refine fn_of lk hcd Sc (fun vs H Q E ⟨a, ns, e, _⟩ => by rw [e]; rfl) fun A outer s H vs Q E hr ⟨a, ns, e, hS, hT, hl, hb, hQ⟩ => ?_
  subst e
  obtain ⟨h0, h1⟩ := hbody cdv A outer s H E rfl hr
  rw [hst]
  refine ⟨_, pss_cons h0 (t := tAsg (tCall (spD K TT (c__law_begun G)) [] E (tCons (tVar 0) tNil)) (gName 1)) (u := fun Dn σ H => ∃ S : Sit, S.g.K = K ∧ S.g.T = TT ∧ LS S E r Dn σ H) ⟨fun pins s σ H Dn I ⟨S, hS, hT, h⟩ => (h1 S hS hT).run pins s σ H Dn I h⟩, ?_⟩
  refine ⟨.ref a, rfl, ?_⟩
  show spD K TT (c__law_begun G) [.ref a] H _ E
  refine ⟨none, scF H a, [.scr ns], fun d => ∃ z, 0 ≤ z ∧ d = .dK [(kWhole, .int z), (kCells, Ls ns), (kCount, .int 0)], fun _ => False, ⟨hl, hb, fun z hz => ⟨z, hz, rfl⟩⟩, .cons (.scr (scF_seq hS)) .nil, ⟨fun b o q => (scF_at q).2.1, fun _ e => (by cases e), hT, fun b ps q => ?_⟩, ?_, fun _ z => z.elim⟩
  · rcases (scF_at q).2.2 with ⟨x, z⟩ | ⟨p, u, z⟩ <;> cases z
  rintro d ⟨z, hz, rfl⟩ F' H' v A' dv
  cases dv with
  | @dK aD ys _ hF hk hd =>
    obtain ⟨y1, y2, y3, e⟩ : ∃ y1 y2 y3, ys = [y1, y2, y3] := by
      match ys, hk with
      | [y1, y2, y3], _ => exact ⟨y1, y2, y3, rfl⟩
    subst e
    obtain ⟨k1, v1⟩ := y1
    obtain ⟨k2, v2⟩ := y2
    obtain ⟨k3, v3⟩ := y3
    simp only [List.map_cons, List.map_nil, List.cons.injEq, and_true] at hk
    obtain ⟨rfl, rfl, rfl⟩ := hk
    cases hd with
    | cons d1 hd =>
      cases hd with
      | cons d2 hd =>
        cases hd with
        | cons d3 hd =>
          cases d1
          cases d3
          cases d2 with
          | @lst cA xs _ hc dl =>
            have ex := dl.ints
            subst ex
            have hne : cA ≠ aD := fun e => by subst e; rw [hF] at hc; cases hc
            have sF : Same (scF H a) (fun b => if b = aD then none else F' b) := fun b o e => by
              have q := A'.ff b o e
              have hb : b ≠ aD := fun z => by
                subst z
                rw [hF] at q
                rcases (scF_at e).2.2 with ⟨x, z⟩ | ⟨p, u, z⟩ <;> (rw [z] at q; cases q)
              show (if b = aD then none else F' b) = some o
              rw [if_neg hb]
              exact q
            have en : Ent ⟨K, some aD, TT⟩ (fun b => if b = aD then none else F' b) H' := ⟨fun b o e => by
              have hb : b ≠ aD := fun z => by
                subst z
                have e' : (if b = b then none else F' b) = some o := e
                rw [if_pos rfl] at e'; cases e'
              have e' : (if b = aD then none else F' b) = some o := e
              rw [if_neg hb] at e'
              exact A'.fh b o e', fun b e => by
              cases e
              refine ⟨if_pos rfl, z, 0, cA, ns, A'.fh _ _ hF, hz, ?_, by omega⟩
              show (if cA = aD then none else F' cA) = _
              rw [if_neg hne]
              exact hc, A'.tb, fun b ps e => by
              have e' : (if b = aD then none else F' b) = some (.tbl ps) := e
              by_cases hb : b = aD
              · rw [if_pos hb] at e'; cases e'
              · rw [if_neg hb] at e'
                exact A'.nt b ps e'⟩
            have R := start_rep en (vs := [.ref a, .ref aD]) (ds := [.scr ns, .draw]) (N'.length + 2) (.cons (.scr (sF.seq (scF_seq hS))) (.cons (.draw rfl) .nil))
            refine ⟨⟨⟨K, some aD, TT⟩, noTb H', fun b => if b = aD then none else F' b⟩, rfl, rfl, _, _, _, R, pure ns hl, ?_⟩
            exact ⟨fun _ z => z.elim, fun d e F2 H2 v2 _ _ dv2 => by
              subst e
              cases dv2
              exact hQ H2, fun _ z => z.elim, fun _ z => z.elim, fun _ z => z.elim⟩
theorem walk_EB {l : PySem.W.OpenLaw} {k : Nat} {q : Program} {loose : List Str} {XP : (Str → Option Value) → Heap → Prop} {YP : World → Heap → Prop} {d : DefRec}
    (hn : l.most = some 63) (hdf : d.params.defaults = []) (hr : Room k callerA)
    (F : ∀ (w : World) (mg : Str → Option Value) (fa : Addr) (h : Heap), YP w h → h.Ns mainGlobals mg → mg d.name = some (.ref fa) →
      ∃ (K : PySem.W.Frag) (fd : FuncData), K.In h ∧ (∀ (s : Shared) (u : Value), BindsTo s fd ⟨[u], []⟩ [("script", u)]) ∧
        ∀ base : Heap, K.In base → base.Ns mainGlobals mg → FnOk l.prog w K mg base (L2.CX l.prog w) k fa fd ["script"] (spLaw K [])) :
    PySem.W.WalkO q loose XP YP l.row.toRowW d [] (fun f vs => PySem.call f vs) := by
  refine Att.attach_callB hn hdf fun w s₀ s₁ mg mb fa o pm cd doc a vs ns G Y ho hd hcd hmg hobj hints hlen hbits hg => ?_
  obtain ⟨K, fd, KX, hb, hF⟩ := F w mg fa _ Y G.T.g hmg
  exact law_call KX G.T.g G.T.b G.T.builtins G.T.nolimit hg hobj hints (Nat.le_trans hlen (by decide)) hr hF hb (fun H hO hS => ⟨a, ns, rfl, hS, fun _ h => (by cases h), hlen, hbits, fun _ => rfl⟩) fun H e s' h => by
    obtain ⟨_, _, _, _, _, _, _, _, _, _, _, _, z⟩ := h
    exact z
theorem walk_TB {l : PySem.W.OpenLaw} {k : Nat} {q : Program} {loose : List Str} {XP : (Str → Option Value) → Heap → Prop} {YP : World → Heap → Prop} {d : DefRec}
    (hn : l.most = some 63) (hdf : d.params.defaults = []) (hr : Room k callerA)
    (F : ∀ (w : World) (mg : Str → Option Value) (fa : Addr) (h : Heap), YP w h → h.Ns mainGlobals mg → mg d.name = some (.ref fa) →
      ∃ (K : PySem.W.Frag) (fd : FuncData) (cs : List (Addr × Addr)) (TT : List (Addr × Str)), K.In h ∧ (∀ p ∈ cs, h.get? p.2 = some { cls := .none, data := .fields #[] }) ∧ (∀ p ∈ cs, K.lookup p.2 = none) ∧ (∀ p ∈ cs, PySem.W.CodeHd h p.1 p.2) ∧
        (∀ (s : Shared) (u : Value), BindsTo s fd ⟨[u], []⟩ [("script", u)]) ∧ (∀ t ∈ TT, ∃ p ∈ cs, t.1 = p.2) ∧
        ∀ base : Heap, K.In base → base.Ns mainGlobals mg → (∀ p ∈ cs, LamX.TabB base mg p.1 p.2) → FnOk l.prog w K mg base (L2.CX l.prog w) k fa fd ["script"] (spLaw K TT)) :
    PySem.W.WalkO q loose XP YP l.row.toRowW d [] (fun f vs => PySem.call f vs) := by
  refine LamX.walk_ofTsE (n := 63) (CX := fun w => L2.CX l.prog w) (x := "script") hn (by decide) hdf hr (fun w mg fa h Y Gm hmg => ?_) fun w H s e s' h => by
    obtain ⟨_, _, _, _, _, _, _, _, _, _, _, _, z⟩ := h
    exact z
  obtain ⟨K, fd, cs, TT, KX, h1, h2, h3, hb, ht, hF⟩ := F w mg fa h Y Gm hmg
  exact ⟨K, KX, fd, cs, spLaw K TT, h1, h2, h3, hb, fun H a ns hl hbits hT hS => ⟨a, ns, rfl, hS, fun t m => (by
    obtain ⟨p, hp, e⟩ := ht t m
    refine LamX.TabS.nil ?_
    rw [e]
    exact hT p hp), hl, hbits, fun _ => rfl⟩, hF⟩
theorem defIn_of {K : PySem.W.Frag} {h : Heap} {mg : Str → Option Value} {x : Str} {st : Stmt} {name : Str} {ps : List Str} {fd : FuncData} (X : K.In h) (Gm : h.Ns mainGlobals mg) (g : (He.Fa.glo x).ok K = true)
    (F : FunD K name name (defArgs st) (defBody st) (defScope st) [] [] (He.ga K x) fd) (b : ∀ (kV doc pm : Value) (an : Option Addr) (cdv ct : Value) (us : List Value), us.length = ps.length → bindArgs (PySem.W.fnOf name name (defArgs st) (defBody st) (defScope st) .none kV doc pm an cdv ct) ⟨us, []⟩ = pure (ps.zip us)) : DefIn K mg x name st ps :=
  ⟨_, fd, F, He.glo_ok X Gm g, FunD.bindsN F b⟩
theorem exIn_of {K : PySem.W.Frag} {h : Heap} {mg : Str → Option Value} {x : Str} (X : K.In h) (Gm : h.Ns mainGlobals mg) (g : (He.Fa.glo x).ok K = true) (e : (He.Fa.exc x).ok K = true) : ExIn K mg x (He.ga K x) :=
  let ⟨a, b, c, d⟩ := He.exc_ok e
  ⟨He.glo_ok X Gm g, a, b, c, d⟩
theorem take_D {P : Program} {w : World} {K : PySem.W.Frag} {mg : Str → Option Value} {base : Heap} {TT : List (Addr × Str)} {G : Str → Addr} {k : Nat} {x : Str} {sp : Sp} {f : Addr} {fd : FuncData} {ps : List Str} (F : FnOk P w K mg base (L2.CX P w) k f fd ps sp) (hm : mg x = some (.ref f)) (hk : PySem.W.keepIn K (.ref f) = true) (hb : Binds K fd ps [])
    (h : ∀ vs H Q E, spD K TT (c__law_take G) vs H Q E → sp vs H Q E) : CalD P w K TT mg base k x (c__law_take G) := ⟨f, fd, ps, F.imp h, hm, hk, hb⟩
end PL
set_option Elab.async false
set_option linter.all false
set_option maxRecDepth 100000
namespace PL
open PySem PySem.Spec PyProof.Rows L2 RP
def drawL (w : Int) (cA : Addr) (k : Int) : List (Key × V) := [(kWhole, .int w), (kCells, .ref cA), (kCount, .int k)]
theorem kne1 : ¬ (kWhole = kCount) := by decide +kernel
theorem kne2 : ¬ (kCells = kCount) := by decide +kernel
theorem kne3 : ¬ (kCells = kWhole) := by decide +kernel
theorem kne4 : ¬ (kCount = kWhole) := by decide +kernel
theorem dl_whole (w k : Int) (cA : Addr) : valV (drawL w cA k) kWhole = some (.int w) := valV_pos (p := (kWhole, V.int w)) rfl
theorem dl_cells (w k : Int) (cA : Addr) : valV (drawL w cA k) kCells = some (.ref cA) := by
  unfold drawL
  rw [valV_neg (p := (kWhole, V.int w)) (fun e => kne3 e.symm)]
  exact valV_pos (p := (kCells, V.ref cA)) rfl
theorem dl_count (w k : Int) (cA : Addr) : valV (drawL w cA k) kCount = some (.int k) := by
  unfold drawL
  rw [valV_neg (p := (kWhole, V.int w)) kne1, valV_neg (p := (kCells, V.ref cA)) kne2]
  exact valV_pos (p := (kCount, V.int k)) rfl
theorem dl_putC (w k k' : Int) (cA : Addr) : putK (drawL w cA k) kCount (.int k') = drawL w cA k' := by
  unfold putK
  rw [valV_any, dl_count]
  refine (if_pos rfl).trans ?_
  unfold drawL
  rw [List.map_cons, List.map_cons, List.map_cons, List.map_nil, if_neg kne1, if_neg kne2, if_pos rfl]
theorem dl_putW (w w' k : Int) (cA : Addr) : putK (drawL w cA k) kWhole (.int w') = drawL w' cA k := by
  unfold putK
  rw [valV_any, dl_whole]
  refine (if_pos rfl).trans ?_
  unfold drawL
  rw [List.map_cons, List.map_cons, List.map_cons, List.map_nil, if_pos rfl, if_neg kne3, if_neg kne4]
def mixStep (f x : Int) : Int := (f + x) * 1099511628211 % (2 ^ 61 - 1) + (f + x) * 1099511628211 % (2 ^ 61 - 1) / 2 ^ 17
def mixVal (cells : List Int) (c : Int) : Int := (cells ++ [c]).foldl mixStep (1469598103934665603 + 97 * c)
def DrAt (H : Hp) (a : Addr) (w : Int) (cA : Addr) (cells : List Int) (k : Int) : Prop := H a = some (.dK (drawL w cA k)) ∧ H cA = some (.lst (cells.map V.int)) ∧ cells.length ≤ 64
def spMixed : Sp := fun vs H Q _ => ∃ a w cA cells k, vs = [.ref a] ∧ DrAt H a w cA cells k ∧ ∀ H', DrAt H' a w cA cells (k + 1) → (∀ b o, H b = some o → b ≠ a → H' b = some o) → (∀ b o, H' b = some o → b ≠ a → True) → Q (.int (mixVal cells (k + 1))) H'
def spTake : Sp := fun vs H Q _ => ∃ a n w cA cells k, vs = [.ref a, .int n] ∧ DrAt H a w cA cells k ∧ 0 ≤ w ∧ n < 2 ^ 64 ∧ ∀ z H' w' k', 0 ≤ z → (n < 2 → z = 0) → (2 ≤ n → z < n) → 0 ≤ w' → DrAt H' a w' cA cells k' → (∀ b o, H b = some o → b ≠ a → H' b = some o) → Q (.int z) H'
theorem ctime {i j : Int} (h : -(2 ^ 64) < j ∧ j < 2 ^ 64) : CMul i j := .inr h
theorem mixStep_nn (f x : Int) : 0 ≤ mixStep f x := by
  unfold mixStep
  have h1 : 0 ≤ (f + x) * 1099511628211 % (2 ^ 61 - 1) := Int.emod_nonneg _ (by decide)
  have h2 := Int.ediv_nonneg (b := (2 ^ 17 : Int)) h1 (by decide)
  omega
theorem mixVal_eq (cells : List Int) (c : Int) : mixVal cells c = mixStep (cells.foldl mixStep (1469598103934665603 + 97 * c)) c := by
  unfold mixVal
  rw [List.foldl_append]
  rfl
theorem mixVal_nn (cells : List Int) (c : Int) : 0 ≤ mixVal cells c := by rw [mixVal_eq]; exact mixStep_nn _ _
theorem pM : (2 ^ 61 - 1 : Int) = 2305843009213693951 := by decide
theorem mix_inv : (1099511628211 * 1886636988539514303 : Int) = 1 + 2305843009213693951 * 899618620532 := by decide +kernel
theorem mod_inv (M inv p quo z : Int) (e : M * inv = 1 + p * quo) (h : z * M % p = 0) : z % p = 0 := by
  have h1 : p ∣ z * M := Int.dvd_of_emod_eq_zero h
  have h2 : p ∣ z * M * inv := Int.dvd_trans h1 (Int.dvd_mul_right _ _)
  have h3 : z * M * inv = z + p * (quo * z) := by
    rw [Int.mul_assoc, e, Int.mul_add, Int.mul_one, Int.mul_comm z, Int.mul_assoc]
  rw [h3] at h2
  have h4 : p ∣ z := (Int.dvd_add_left (Int.dvd_mul_right _ _)).mp h2
  exact Int.emod_eq_zero_of_dvd h4
theorem mix0 {f x : Int} (h : mixStep f x = 0) : (f + x) % 2305843009213693951 = 0 := by
  unfold mixStep at h
  rw [pM, show (2 ^ 17 : Int) = 131072 by decide] at h
  refine mod_inv _ _ _ _ (f + x) mix_inv ?_
  have h1 : 0 ≤ (f + x) * 1099511628211 % 2305843009213693951 := Int.emod_nonneg _ (by decide)
  generalize (f + x) * 1099511628211 % 2305843009213693951 = g at h h1
  omega
theorem mix_some (cells : List Int) (k : Int) : ∃ n : Nat, mixVal cells (k + 1 + n) ≠ 0 := by
  by_cases hc : cells = []
  · subst hc
    by_cases h0 : mixVal [] (k + 1 + (0 : Nat)) = 0
    · refine ⟨1, fun h1 => ?_⟩
      rw [mixVal_eq] at h0 h1
      have e0 := mix0 h0
      have e1 := mix0 h1
      simp only [List.foldl_nil] at e0 e1
      omega
    · exact ⟨0, h0⟩
  · refine ⟨((-(144116287587483647 : Int) - (k + 1)) % 2305843009213693951).toNat, fun h => ?_⟩
    rw [mixVal_eq] at h
    have e := mix0 h
    rw [← List.dropLast_concat_getLast hc, List.foldl_append] at e
    generalize List.foldl mixStep _ cells.dropLast = y at e
    simp only [List.foldl_cons, List.foldl_nil] at e
    unfold mixStep at e
    rw [pM] at e
    have g1 : 0 ≤ (y + cells.getLast hc) * 1099511628211 % 2305843009213693951 := Int.emod_nonneg _ (by decide)
    have g2 : (y + cells.getLast hc) * 1099511628211 % 2305843009213693951 < 2305843009213693951 := Int.emod_lt_of_pos _ (by decide)
    generalize (y + cells.getLast hc) * 1099511628211 % 2305843009213693951 = g at e g1 g2
    have n1 : 0 ≤ (-(144116287587483647 : Int) - (k + 1)) % 2305843009213693951 := Int.emod_nonneg _ (by decide)
    rw [Int.toNat_of_nonneg n1] at e
    rw [show (2 ^ 17 : Int) = 131072 by decide] at e
    have q1 : g / 131072 * 131072 ≤ g := by omega
    have q2 : g < (g / 131072 + 1) * 131072 := by omega
    generalize g / 131072 = q at e q1 q2
    have hq : q ≤ 17592186044416 := by omega
    have ht : ∃ t, g + q - 144116287587483647 = 2305843009213693951 * t := ⟨(g + q + (k + 1 + (-144116287587483647 - (k + 1)) % 2305843009213693951)) / 2305843009213693951 + (-144116287587483647 - (k + 1)) / 2305843009213693951, by omega⟩
    obtain ⟨t, ht⟩ := ht
    have t0 : t = 0 := by omega
    subst t0
    rcases Int.lt_or_le q 1099511627776 with h | h <;> omega
theorem take_end {n f : Int} (h2 : 2 ≤ n) : 0 ≤ f / 1024 % n ∧ f / 1024 % n < n := ⟨Int.emod_nonneg _ (by omega), Int.emod_lt_of_pos _ (by omega)⟩
theorem take_sp {K : PySem.W.Frag} {TT : List (Addr × Str)} {G : Str → Addr} : ∀ vs H Q E, spD K TT (c__law_take G) vs H Q E → spTake vs H Q E := by
  rintro vs H Q E ⟨dA, F, ds, Q0, X0, h, dl, en, hq, hx⟩
  unfold c__law_take at h
  split at h
  · cases dl with
    | cons d1 dl =>
      cases dl with
      | cons d2 dl =>
        cases dl
        cases d2
        cases d1 with
        | @draw a hA =>
          have hA' : dA = some a := hA
          subst hA'
          obtain ⟨hFa, w, k, cA, cells, hH, w0, hF, hl⟩ := en.dr a rfl
          refine ⟨a, _, w, cA, cells, k, rfl, ⟨hH, en.fh _ _ hF, hl⟩, w0, h.1, fun z H' w' k' z0 z1 z2 w0' D' st => ?_⟩
          have nb : ∀ b o, F b = some o → b ≠ a := fun b o e z => by subst z; rw [hFa] at e; cases e
          refine hq _ (h.2 z z0 z1 z2) F H' _ ⟨Same.refl _, fun b o e => st b o (en.fh b o e) (nb b o e), fun b o e => .inl e, fun b o e n => st b o (noTb_some e).1 fun z => n (by rw [z]), fun b e => ?_, fun p hp => ?_, en.nt⟩ (.int z)
          · cases e
            exact ⟨hFa, w', k', cA, cells, D'.1, w0', hF, hl⟩
          · obtain ⟨ps, t1, t2, t3⟩ := en.tb p hp
            have na : ∀ b o, H b = some o → (∀ kvs, o ≠ .dK kvs) → b ≠ a := fun b o e n z => by
              rw [z, hH] at e
              exact n _ (Option.some.inj e).symm
            refine ⟨ps, st _ _ t1 (na _ _ t1 fun _ z => by cases z), t2, fun pos cv hc => ?_⟩
            obtain ⟨c, e1, e2⟩ := t3 pos cv hc
            exact ⟨c, e1, st _ _ e2 (na _ _ e2 fun _ z => by unfold LamX.CodeO at z; cases z)⟩
  · exact h.elim
end PL
set_option Elab.async false
set_option linter.all false
set_option maxRecDepth 100000
namespace PL
open PySem PySem.Spec PyProof.Rows L2 RP
def excB (K : PySem.W.Frag) (D : Addr) : Bool :=
  He.eqO (PySem.W.findIn K (.ref D) "__getattribute__") (some (some (.builtin "BaseException.__getattribute__"))) && (He.eqO (PySem.W.findIn K (.ref D) "__getattr__") (some none) && (decide (PySem.W.subIn K (.ref D) (.type "BaseException") = some true) && (PySem.W.hasDictIn K D &&
    (He.eqO (PySem.W.findIn K (.ref D) "__class__") (some (some (.builtin "object.__class__"))) && (He.eqO (PySem.W.specialIn K (.builtin "object.__class__") "__get__") (some (some (.builtin "getset_descriptor.__get__"))) && (decide (PySem.W.takesIn K (.builtin "object.__class__") = some true) && decide (PySem.W.mroIn K D (.type "object") = some true)))))))
theorem excB_ok {K : PySem.W.Frag} {D : Addr} (h : excB K D = true) : ExcC K D := by
  obtain ⟨h1, h⟩ := He.ba h
  obtain ⟨h2, h⟩ := He.ba h
  obtain ⟨h3, h⟩ := He.ba h
  obtain ⟨h4, h⟩ := He.ba h
  obtain ⟨h5, h⟩ := He.ba h
  obtain ⟨h6, h⟩ := He.ba h
  obtain ⟨h7, h8⟩ := He.ba h
  exact ⟨He.eqO_ok h1, He.eqO_ok h2, of_decide_eq_true h3, h4, He.eqO_ok h5, He.eqO_ok h6, of_decide_eq_true h7, of_decide_eq_true h8⟩
def exsB (EXN : List Str) (K : PySem.W.Frag) : Bool :=
  (EXN.all fun n => excB K (He.ga K n) && decide (PySem.W.exmOne K (.ref (He.ga K n)) (.ref (He.ga K "RowError")) = some true)) && EXN.all fun n => EXN.all fun m => decide (PySem.W.kitOne K (.ref (He.ga K n)) (.ref (He.ga K m)) = some (subX n m))
theorem exsB_E {EXN : List Str} {K : PySem.W.Frag} (h : exsB EXN K = true) : ∀ n ∈ EXN, ExcC K (He.ga K n) := fun n hn => excB_ok (He.ba (List.all_eq_true.mp (He.ba h).1 n hn)).1
theorem exsB_M {EXN : List Str} {K : PySem.W.Frag} (h : exsB EXN K = true) : ∀ n ∈ EXN, PySem.W.exmOne K (.ref (He.ga K n)) (.ref (He.ga K "RowError")) = some true := fun n hn => of_decide_eq_true (He.ba (List.all_eq_true.mp (He.ba h).1 n hn)).2
theorem exsB_K {EXN : List Str} {K : PySem.W.Frag} (h : exsB EXN K = true) : ∀ n ∈ EXN, ∀ m ∈ EXN, PySem.W.kitOne K (.ref (He.ga K n)) (.ref (He.ga K m)) = some (subX n m) := fun n hn m hm => of_decide_eq_true (List.all_eq_true.mp (List.all_eq_true.mp (He.ba h).2 n hn) m hm)
theorem okC_M {G : Str → Addr} {K : PySem.W.Frag} {EXN : List Str} {CS : Addr} (h : ∀ n ∈ EXN, PySem.W.exmOne K (.ref (G n)) (.ref CS) = some true) : ∀ C, okC G EXN C → PySem.W.exmOne K (.ref C) (.ref CS) = some true := by
  rintro C ⟨n, hn, rfl⟩
  exact h n hn
theorem code_of {K : PySem.W.Frag} {x name qual : Str} {params : Arguments} {body : List Stmt} {scope : Scope} {dvs : List V} {kws : List (Str × V)} {fd : FuncData} (F : FunD K name qual params body scope dvs kws (He.ga K x) fd) : fd.code = .ref (He.codeOf K (x, none)) := by
  obtain ⟨oc, od, dV, kV, doc, pm, an, cdv, ct, osl, e, lk, hcd, _, _⟩ := F.ex
  obtain ⟨c, rfl⟩ := He.codeIn_ref hcd
  have q : He.codeOf K (x, none) = c := He.codeOf_eq (p := (x, none)) lk (by rw [e])
  rw [e, q]
end PL
set_option Elab.async false
set_option linter.all false
set_option maxRecDepth 100000
namespace RP
open PySem PySem.Spec PyProof.Rows L2 PL
def top (i : Nat) : Stmt := PySem.Challenge.pw_ringrows_k06_whole_rows_in_rounds.main.body.getD i (.Pass ⟨0, 0, 0, 0⟩)
abbrev s_is_whole : Stmt := top 8
abbrev s_is_number_of : Stmt := top 9
abbrev s_is_row_of : Stmt := top 10
abbrev s_need_row : Stmt := top 11
abbrev s_is_twos_by : Stmt := top 13
abbrev s_two_power : Stmt := top 15
abbrev s_in_round_by : Stmt := top 17
abbrev s_is_in_round : Stmt := top 18
abbrev s__law_begun : Stmt := top 20
abbrev s__law_mixed : Stmt := top 21
abbrev s__law_take : Stmt := top 22
abbrev s__law_pick : Stmt := top 23
abbrev s__law_caught : Stmt := top 24
abbrev s__law_kinds : Stmt := top 25
abbrev s__law_says : Stmt := top 26
abbrev s__law_day : Stmt := top 27
abbrev s__law_is_twos : Stmt := top 28
abbrev s__law_line : Stmt := top 29
abbrev s__law_two_power : Stmt := top 30
abbrev s__law_in_round : Stmt := top 31
abbrev s__law_row : Stmt := top 32
abbrev s__law_signs : Stmt := top 33
abbrev s__law_no_row : Stmt := top 34
abbrev s__law_right : Stmt := top 35
abbrev s_law : Stmt := top 36
structure Tx (G : Str → Addr) (K : PySem.W.Frag) (mg : Str → Option Value) : Prop where
  b_isinstance : mg "isinstance" = none
  b_int : mg "int" = none
  b_bool : mg "bool" = none
  b_tuple : mg "tuple" = none
  b_len : mg "len" = none
  b_all : mg "all" = none
  b_max : mg "max" = none
  b_range : mg "range" = none
  b_repr : mg "repr" = none
  b_str : mg "str" = none
  b_list : mg "list" = none
  b_dict : mg "dict" = none
  b_zip : mg "zip" = none
  b_min : mg "min" = none
  b_set : mg "set" = none
  x_BadOne : ExIn K mg "BadOne" (G "BadOne")
  x_BadOther : ExIn K mg "BadOther" (G "BadOther")
  x_BadRow : ExIn K mg "BadRow" (G "BadRow")
  i_MOST_NUMBER : ∃ t, mg "MOST_NUMBER" = some (.int 999 t)
  i_MOST_LONG : ∃ t, mg "MOST_LONG" = some (.int 24 t)
  m_RowError : mg "RowError" = some (.ref (G "RowError"))
  xE : ∀ n ∈ EXN, ExcC K (G n)
  xM : ∀ n ∈ EXN, PySem.W.exmOne K (.ref (G n)) (.ref (G "RowError")) = some true
  xK : ∀ n ∈ EXN, ∀ m ∈ EXN, PySem.W.kitOne K (.ref (G n)) (.ref (G m)) = some (subX n m)
section
variable {P : Program} {w : World} {K : PySem.W.Frag} {mg : Str → Option Value} {base : Heap} {G : Str → Addr} {TT : List (Addr × Str)}
theorem ex_gI {X : Cx} {S : Sit} {E : XK} {pos : Pos} {x : Str} {i : Int} (hg : Gl X x) (hm : ∃ t, X.mg x = some (.int i t)) (hd : (x == ("__debug__" : Str)) = false := by decide) : EX X S E (.Name x pos) (dC (.int i)) := let ⟨_, h⟩ := hm; ex_gint hg h hd
theorem sc_mixed : FnScope ["draw", "found", "cell"] ["draw"] (defScope s__law_mixed) := ⟨rfl, rfl, rfl, by decide +kernel, rfl, by decide +kernel, by decide +kernel⟩
theorem ok_mixed {f : Addr} {fd : FuncData} {nm : Str} (F : FunD K nm nm (defArgs s__law_mixed) (defBody s__law_mixed) (defScope s__law_mixed) [] [] f fd) (gI : mg "int" = none) : FnOk P w K mg base (L2.CX P w) 1 f fd ["draw"] spMixed := by
  refine F.ok sc_mixed (fun vs H Q E h => ?_) (fun cdv A outer s H vs Q E hr h => ?_)
  · obtain ⟨a, w, cA, cells, k, rfl, _⟩ := h
    rfl
  · obtain ⟨a, w, cA, cells, k, rfl, ⟨ha, hc, hl⟩, hQ⟩ := h
    have hu := hu_of hr
    refine ⟨_, pss_cons (ps_dput hu (pv 0) pe_str (pe_op op_add (pe_dget hu (pv 0) pe_str (fun _ _ => rfl)) pe_int) rfl)
      (pss_cons (ps_set (i := 1) sc_mixed.nd rfl (Or.inl rfl) (pe_op op_add pe_int (pe_op op_mul pe_int (pe_dget hu (pv 0) pe_str (fun _ _ => rfl)))))
      (pss_cons (ps_for passes_of' rfl (pi_list (pe_op op_cat (pe_dget hu (pv 0) pe_str (fun _ _ => rfl)) (pe_lst (pa_cons (pe_dget hu (pv 0) pe_str (fun _ _ => rfl)) pa_nil)))) (pg_name (i := 2) sc_mixed.nd rfl (Or.inl rfl))
        (pss_cons (ps_set (i := 1) sc_mixed.nd rfl (Or.inl rfl) (pe_op op_mod (pe_callTy call_int1 (by first | exact Or.inl rfl | exact Or.inr rfl | rfl) gI boot_int (pa_cons (pe_op op_mul (pe_op op_add (pv 1) (pv 2)) pe_int) pa_nil)) (pe_op op_sub (pe_op op_pow pe_int pe_int) pe_int)))
        (pss_one (ps_set (i := 1) sc_mixed.nd rfl (Or.inl rfl) (pe_op op_add (pv 1) (pe_op op_fdivW (pv 1) (pe_op op_pow pe_int pe_int)))))))
      (pss_one (ps_ret (pv 1))))), ?_⟩
    have g0 : DGet H a (.str "count") (some (.int k)) := by have q := DGet.k (k := kCount) ha; rw [dl_count] at q; exact q
    refine ⟨_, rfl, a, _, rfl, g0, k, 1, rfl, rfl, _, rfl, a, _, rfl, DPut.k (k := kCount) ha (small1000 (by show 3 ≤ 1000; decide)), ?_⟩
    rw [dl_putC]
    have nca : cA ≠ a := fun e => by subst e; rw [ha] at hc; cases hc
    have ha1 : (upd H a (.dK (drawL w cA (k + 1)))) a = some (.dK (drawL w cA (k + 1))) := upd_same
    have hc1 : (upd H a (.dK (drawL w cA (k + 1)))) cA = some (.lst (cells.map V.int)) := by rw [upd_ne nca]; exact hc
    have st1 : ∀ b o, H b = some o → b ≠ a → (upd H a (.dK (drawL w cA (k + 1)))) b = some o := fun b o e hb => by rw [upd_ne hb]; exact e
    revert ha1 hc1 st1
    generalize upd H a (.dK (drawL w cA (k + 1))) = H1
    intro ha1 hc1 st1
    have g1 : DGet H1 a (.str "count") (some (.int (k + 1))) := by have q := DGet.k (k := kCount) ha1; rw [dl_count] at q; exact q
    have g2 : DGet H1 a (.str "cells") (some (.ref cA)) := by have q := DGet.k (k := kCells) ha1; rw [dl_cells] at q; exact q
    refine ⟨_, rfl, a, _, rfl, g1, 97, k + 1, rfl, rfl, .inl (by decide), _, _, rfl, rfl, ?_⟩
    refine ⟨_, rfl, a, _, rfl, g2, _, rfl, a, _, rfl, g1, (by show 1 ≤ sizeLine; decide), fun b nb => ?_⟩
    have nba : a ≠ b := ne_of_none ha1 nb
    have nbc : cA ≠ b := ne_of_none hc1 nb
    refine ⟨cA, b, cells.map V.int, [.int (k + 1)], rfl, rfl, by rw [upd_ne nbc]; exact hc1, upd_same, small1000 (by rw [List.length_map]; simp only [List.length_cons, List.length_nil]; omega) |> Nat.le_of_lt, fun p np => ?_⟩
    have npb : b ≠ p := fun e => by rw [← e, upd_same] at np; cases np
    have np1 : H1 p = none := by rw [upd_ne npb.symm] at np; exact np
    have npa : a ≠ p := ne_of_none ha1 np1
    have npc : cA ≠ p := ne_of_none hc1 np1
    have exs : cells.map V.int ++ [V.int (k + 1)] = (cells ++ [k + 1]).map V.int := by rw [List.map_append]; rfl
    rw [exs]
    have hx : (upd (upd H1 b (.lst [.int (k + 1)])) p (.lst ((cells ++ [k + 1]).map V.int))) p = some (.lst ((cells ++ [k + 1]).map V.int)) := upd_same
    have hs2 : Same H1 (upd (upd H1 b (.lst [.int (k + 1)])) p (.lst ((cells ++ [k + 1]).map V.int))) := fun c o e => by
      rw [upd_ne (ne_of_none e np1), upd_ne (ne_of_none e nb)]; exact e
    revert hx hs2
    generalize upd (upd H1 b (.lst [.int (k + 1)])) p (.lst ((cells ++ [k + 1]).map V.int)) = H2
    intro hx hs2
    refine ⟨p, rfl, ⟨_, SqL.of hx⟩, for_list (K := K) (a := p) (xs := (cells ++ [k + 1]).map V.int) (fun i σ H' => H' = H2 ∧ ∃ v, σ = [some (.ref a), some (.int (((cells ++ [k + 1]).take i).foldl mixStep (1469598103934665603 + 97 * (k + 1)))), v])
      ⟨rfl, none, rfl⟩ (fun i σ H' _ ⟨e, _⟩ => by rw [e]; exact SqL.of hx) ?_ ?_⟩
    · rintro i x σ H' hi ⟨rfl, v, rfl⟩
      have hil : i < (cells ++ [k + 1]).length := by have := (List.getElem?_eq_some_iff.mp hi).1; rwa [List.length_map] at this
      have ex : x = .int (cells ++ [k + 1])[i] := by
        rw [List.getElem?_map, List.getElem?_eq_getElem hil] at hi
        exact (Option.some.inj hi).symm
      subst ex
      refine ⟨_, rfl, _, rfl, _, _, rfl, rfl, _, _, rfl, rfl, .inr (by decide), .inl ⟨_, rfl, _, _, rfl, rfl, ⟨by decide, by decide, by decide⟩, _, _, rfl, rfl, _, _, rfl, rfl, (by show (0 : Int) < 2 ^ Int.toNat 61 - 1; decide), ?_⟩⟩
      refine ⟨_, rfl, _, rfl, _, _, rfl, rfl, ⟨by decide, by decide, by decide⟩, _, _, rfl, rfl, ⟨by decide, by decide⟩, _, _, rfl, rfl, rfl, some (.int (cells ++ [k + 1])[i]), ?_⟩
      rw [List.take_add_one, List.getElem?_eq_getElem hil, Option.toList_some, List.foldl_append]
      rfl
    · rintro σ H' ⟨rfl, v, rfl⟩
      refine ⟨_, rfl, ?_⟩
      rw [List.length_map, List.take_length]
      exact hQ H' ⟨hs2 _ _ ha1, hs2 _ _ hc1, hl⟩ (fun b o e hb => hs2 _ _ (st1 b o e hb)) fun _ _ _ _ => trivial
theorem sc_take : FnScope ["draw", "amount", "found"] ["draw", "amount"] (defScope s__law_take) := ⟨rfl, rfl, rfl, by decide +kernel, rfl, by decide +kernel, by decide +kernel⟩
theorem ok_take {f fM : Addr} {fd fdM : FuncData} {nm : Str} (F : FunD K nm nm (defArgs s__law_take) (defBody s__law_take) (defScope s__law_take) [] [] f fd) (gI : mg "int" = none)
    (FM : FnOk P w K mg base (L2.CX P w) 1 fM fdM ["draw"] spMixed) (gM : mg "_law_mixed" = some (.ref fM)) (kM : PySem.W.keepIn K (.ref fM) = true) (bM : Binds K fdM ["draw"] []) : FnOk P w K mg base (L2.CX P w) 2 f fd ["draw", "amount"] spTake := by
  refine F.ok sc_take (fun vs H Q E h => ?_) (fun cdv A outer s H vs Q E hr h => ?_)
  · obtain ⟨a, n, w, cA, cells, k, rfl, _⟩ := h
    rfl
  · obtain ⟨a, n, w, cA, cells, k, rfl, D0, w0, hn, hQ⟩ := h
    obtain ⟨ha, hc, hl⟩ := id D0
    have hu := hu_of hr
    refine ⟨_, pss_cons (ps_if (pt_cmpR op_lt (pv 1) pe_int (nomark _)) (pss_one (ps_ret pe_int)) pss_nil)
      (pss_cons (ps_if (pt_cmpR op_gt (pe_dget hu (pv 0) pe_str (fun _ _ => rfl)) pe_int (nomark _))
        (pss_cons (ps_set (i := 2) sc_take.nd rfl (Or.inl rfl) (pe_op op_mod (pe_callTy call_int1 (by first | exact Or.inl rfl | exact Or.inr rfl | rfl) gI boot_int (pa_cons (pe_dget hu (pv 0) pe_str (fun _ _ => rfl)) pa_nil)) (pv 1)))
        (pss_cons (ps_dput hu (pv 0) pe_str (pe_op op_fdivW (pe_dget hu (pv 0) pe_str (fun _ _ => rfl)) (pv 1)) rfl)
        (pss_one (ps_ret (pv 2))))) pss_nil)
      (pss_cons (ps_set (i := 2) sc_take.nd rfl (Or.inl rfl) (pe_call FM hr (by first | exact Or.inl rfl | exact Or.inr rfl | rfl) gM kM bM .nil pD (pa_cons (pv 0) pa_nil)))
      (pss_cons (ps_while passes_of' ((pw_and (pt_cmpR op_gt (pv 1) (pe_op op_pow pe_int pe_int) (nomark _)) (pw_and1 (pt_cmpR op_lt (pv 2) (pe_op op_mul (pv 1) (pv 1)) (nomark _)))).pt)
        (pss_one (ps_set (i := 2) sc_take.nd rfl (Or.inl rfl) (pe_op op_add (pe_op op_mul (pv 2) (pe_op op_pow pe_int pe_int)) (pe_call FM hr (by first | exact Or.inl rfl | exact Or.inr rfl | rfl) gM kM bM .nil pD (pa_cons (pv 0) pa_nil))))))
      (pss_one (ps_ret (pe_op op_mod (pe_callTy call_int1 (by first | exact Or.inl rfl | exact Or.inr rfl | rfl) gI boot_int (pa_cons (pe_op op_fdivW (pv 2) pe_int) pa_nil)) (pv 1))))))), ?_⟩
    have gw : DGet H a (.str "whole") (some (.int w)) := by have q := DGet.k (k := kWhole) ha; rw [dl_whole] at q; exact q
    refine ⟨_, rfl, n, 2, rfl, rfl, _, rfl, ite2 (fun h => ?_) (fun h => ?_)⟩
    · exact hQ 0 H w k (Int.le_refl _) (fun _ => rfl) (fun z => absurd (of_decide_eq_true h) (by omega)) w0 D0 fun b o e _ => e
    have h2 : 2 ≤ n := by have q : ¬ n < 2 := fun z => h (decide_eq_true z); omega
    refine ⟨_, rfl, a, _, rfl, gw, w, 0, rfl, rfl, _, rfl, ite2 (fun hw => ?_) (fun hw => ?_)⟩
    · refine ⟨_, rfl, a, _, rfl, gw, .inl ⟨_, rfl, _, rfl, _, _, rfl, rfl, (by show 0 < n; omega), ?_⟩⟩
      have cw : CDivW w n := ⟨by omega, by
        have : n.natAbs.log2 < 64 := (Nat.log2_lt (by omega)).mpr (by omega)
        omega⟩
      refine ⟨_, rfl, a, _, rfl, gw, _, rfl, w, n, rfl, rfl, cw, _, rfl, a, _, rfl, DPut.k (k := kWhole) ha (small1000 (by show 3 ≤ 1000; decide)), ?_⟩
      rw [dl_putW]
      have nca : cA ≠ a := fun e => by subst e; rw [ha] at hc; cases hc
      exact ⟨_, rfl, hQ _ _ (w / n) k (Int.emod_nonneg _ (by omega)) (fun z => absurd z (by omega)) (fun _ => Int.emod_lt_of_pos _ (by omega)) (Int.ediv_nonneg w0 (by omega)) ⟨upd_same, by rw [upd_ne nca]; exact hc, hl⟩ fun b o e hb => by rw [upd_ne hb]; exact e⟩
    · refine ⟨_, rfl, a, w, cA, cells, k, rfl, D0, fun H1 D1 st1 _ => ?_⟩
      obtain ⟨N, hN⟩ := mix_some cells (k + 1)
      refine ⟨fun m σ H' => ∃ f k', σ = [some (.ref a), some (.int n), some (.int f)] ∧ DrAt H' a w cA cells k' ∧ (∀ b o, H b = some o → b ≠ a → H' b = some o) ∧ 0 ≤ f ∧ k + 1 ≤ k' ∧ (f = 0 → k' ≤ k + 1 + N) ∧
        m = (if f = 0 then 4 + (k + 1 + N - k').toNat else if f < 2 ^ 61 then 3 else if f < 2 ^ 122 then 2 else if f < 2 ^ 183 then 1 else 0),
        ⟨_, _, k + 1, rfl, D1, st1, mixVal_nn _ _, Int.le_refl _, fun _ => by omega, rfl⟩, ?_⟩
      rintro m σ H' ⟨f, k', rfl, D', st', f0, hk', hf, hm⟩
      have exit : ∀ R : V → Hp → Prop, (∀ z H'' w' k'', 0 ≤ z → (n < 2 → z = 0) → (2 ≤ n → z < n) → 0 ≤ w' → DrAt H'' a w' cA cells k'' → (∀ b o, H b = some o → b ≠ a → H'' b = some o) → R (.int z) H'') → R (.int (f / 1024 % n)) H' := fun R hR =>
        hR _ H' w k' (take_end h2).1 (fun z => absurd z (by omega)) (fun _ => (take_end h2).2) w0 D' st'
      have fin : tRet (tOp (rI (fun _ j => 0 < j) fun i j => V.int (i % j)) (tCB (fun xs H Q => (∃ i, xs = [.int i] ∧ Q (.int i) H) ∨ ∃ k, xs = [.bl k] ∧ Q (.int (if k then 1 else 0)) H) (tCons (tOp (rI CDivW fun i j => .int (i / j)) (tVar 2) (tC (.int 1024))) tNil)) (tVar 1))
          { nx := fun _ H' => Q .non H', rt := Q } [some (.ref a), some (.int n), some (.int f)] H' := by
        refine ⟨_, rfl, f, 1024, rfl, rfl, ⟨by decide, by decide⟩, .inl ⟨_, rfl, _, rfl, _, _, rfl, rfl, (by show 0 < n; omega), ?_⟩⟩
        exact exit Q fun z H'' w' k'' a1 a2 a3 a4 a5 a6 => hQ z H'' w' k'' a1 a2 a3 a4 a5 a6
      refine ⟨_, rfl, 2, 50, rfl, rfl, ⟨by decide, by decide, by decide⟩, n, _, rfl, rfl, _, rfl, ite2 (fun h50 => ?_) (fun h50 => ?_)⟩
      · refine ⟨_, rfl, _, rfl, _, rfl, n, n, rfl, rfl, .inl ⟨by omega, hn⟩, f, _, rfl, rfl, _, rfl, ite2 (fun hlt => ?_) (fun hlt => ?_)⟩
        · refine ⟨fun σ' H'' => ∃ m', m' < m ∧ ∃ f k', σ' = [some (.ref a), some (.int n), some (.int f)] ∧ DrAt H'' a w cA cells k' ∧ (∀ b o, H b = some o → b ≠ a → H'' b = some o) ∧ 0 ≤ f ∧ k + 1 ≤ k' ∧ (f = 0 → k' ≤ k + 1 + N) ∧
            m' = (if f = 0 then 4 + (k + 1 + N - k').toNat else if f < 2 ^ 61 then 3 else if f < 2 ^ 122 then 2 else if f < 2 ^ 183 then 1 else 0), fun _ _ z => z, ?_⟩
          refine ⟨_, rfl, 2, 61, rfl, rfl, ⟨by decide, by decide, by decide⟩, f, _, rfl, rfl, .inr ⟨by decide, by decide⟩, _, rfl, a, w, cA, cells, k', rfl, D', fun H3 D3 st3 _ => ⟨_, _, rfl, rfl, ?_⟩⟩
          have hv := mixVal_nn cells (k' + 1)
          have hnn : n * n < 2 ^ 128 := by
            have : n * n ≤ (2 ^ 64 - 1) * (2 ^ 64 - 1) := Int.mul_le_mul (by omega) (by omega) (by omega) (by decide)
            exact Int.lt_of_le_of_lt this (by decide)
          have hz : f = 0 → mixVal cells (k' + 1) = 0 → k' + 1 ≤ k + 1 + N := fun e1 e2 => by
            have h3 := hf e1
            refine Decidable.byContradiction fun h4 => ?_
            have e5 : k' + 1 = k + 1 + 1 + N := by omega
            rw [e5] at e2
            exact hN e2
          refine ⟨_, ?_, _, k' + 1, rfl, D3, fun b o e hb => st3 _ _ (st' _ _ e hb) hb, ?_, by omega, ?_, rfl⟩
          · rw [hm, show (2 ^ Int.toNat 61 : Int) = 2305843009213693952 by decide, show (2 ^ 61 : Int) = 2305843009213693952 by decide, show (2 ^ 122 : Int) = 5316911983139663491615228241121378304 by decide, show (2 ^ 183 : Int) = 12259964326927110866866776217202473468949912977468817408 by decide]
            rw [show (2 ^ 128 : Int) = 340282366920938463463374607431768211456 by decide] at hnn
            have hf1 : f < n * n := by simpa using hlt
            generalize mixVal cells (k' + 1) = v at hv hz
            generalize n * n = nn at hnn hf1
            repeat' split
            all_goals omega
          · rw [show (2 ^ Int.toNat 61 : Int) = 2305843009213693952 by decide]; omega
          · intro e
            rw [show (2 ^ Int.toNat 61 : Int) = 2305843009213693952 by decide] at e
            exact hz (by omega) (by omega)
        · exact fin
      · exact fin
theorem nd_is_whole : (N_is_whole).Nodup := by decide +kernel
theorem sc_is_whole : FnScope N_is_whole ["thing"] (defScope s_is_whole) := ⟨rfl, rfl, rfl, by decide +kernel, rfl, by decide +kernel, by decide +kernel⟩
theorem ok_is_whole (T : Tx G K mg) (D : DefIn K mg "is_whole" "is_whole" s_is_whole ["thing"]) : CalF P w K TT mg base 1 "is_whole" "is_whole" s_is_whole ["thing"] (c_is_whole G) :=
  D.okD sc_is_whole l_is_whole fun f cdv A outer s H E S hS hT hr => ⟨r_is_whole G,
    sxs_one (sx_ret (ex_and (ex_b2 c_isi (by first | exact Or.inl rfl | exact Or.inr rfl | rfl) T.b_isinstance boot_isinstance (xv 0) (ex_gty (by first | exact Or.inl rfl | exact Or.inr rfl | rfl) T.b_int boot_int)) (ex_one (ex_not (ex_b2 c_isi (by first | exact Or.inl rfl | exact Or.inr rfl | rfl) T.b_isinstance boot_isinstance (xv 0) (ex_gty (by first | exact Or.inl rfl | exact Or.inr rfl | rfl) T.b_bool boot_bool)))))), p_is_whole⟩
theorem nd_is_number_of : (N_is_number_of).Nodup := by decide +kernel
theorem sc_is_number_of : FnScope N_is_number_of ["thing"] (defScope s_is_number_of) := ⟨rfl, rfl, rfl, by decide +kernel, rfl, by decide +kernel, by decide +kernel⟩
theorem ok_is_number_of (T : Tx G K mg) (D : DefIn K mg "is_number_of" "is_number_of" s_is_number_of ["thing"]) (C_is_whole : CalD P w K TT mg base 1 "is_whole" (c_is_whole G)) : CalF P w K TT mg base 2 "is_number_of" "is_number_of" s_is_number_of ["thing"] (c_is_number_of G) :=
  D.okD sc_is_number_of l_is_number_of fun f cdv A outer s H E S hS hT hr => ⟨r_is_number_of G,
    sxs_one (sx_ret (ex_and (ex_fn C_is_whole hr hS hT pD (ax_cons (xv 0) (ax_nil))) (ex_one (ex_chain o_le o_le (ex_int) (xv 0) (ex_gI (by first | exact Or.inl rfl | exact Or.inr rfl | rfl) T.i_MOST_NUMBER))))), p_is_number_of⟩
theorem nd_is_row_of : (N_is_row_of).Nodup := by decide +kernel
theorem sc_is_row_of : FnScope N_is_row_of ["thing"] (defScope s_is_row_of) := ⟨rfl, rfl, rfl, by decide +kernel, rfl, by decide +kernel, by decide +kernel⟩
theorem ok_is_row_of (T : Tx G K mg) (D : DefIn K mg "is_row_of" "is_row_of" s_is_row_of ["thing"]) (C_is_number_of : CalD P w K TT mg base 2 "is_number_of" (c_is_number_of G)) : CalF P w K TT mg base 3 "is_row_of" "is_row_of" s_is_row_of ["thing"] (c_is_row_of G) :=
  D.okD sc_is_row_of l_is_row_of fun f cdv A outer s H E S hS hT hr => ⟨r_is_row_of G,
    sxs_cons (sx_if (tx_w (wx_or (tx_not (tx_val (ex_b2 c_isi (by first | exact Or.inl rfl | exact Or.inr rfl | rfl) T.b_isinstance boot_isinstance (xv 0) (ex_gty (by first | exact Or.inl rfl | exact Or.inr rfl | rfl) T.b_tuple boot_tuple)))) (wx_or1 (tx_not (tx_chain o_le o_le (ex_int) (ex_b1 (c_len hS) (by first | exact Or.inl rfl | exact Or.inr rfl | rfl) T.b_len boot_len (xv 0)) (ex_gI (by first | exact Or.inl rfl | exact Or.inr rfl | rfl) T.i_MOST_LONG)))))) (sxs_one (sx_ret (ex_bl))) (sxs_nil))
    (sxs_one (sx_ret (ex_b1 (c_all rfl) (by first | exact Or.inl rfl | exact Or.inr rfl | rfl) T.b_all boot_all (ex_lc (own := [("number", 1)]) rfl nd_is_row_of (ix_seq (xv 0)) (blkOk_by (N := N_is_row_of) (sc := defScope s_is_row_of) (by decide +kernel)) (fun _ _ _ _ _ => gx_name (i := 1) nd_is_row_of rfl (by first | exact .inl rfl | exact .inr rfl)) (fun _ _ _ _ _ => tsx_nil) (fun _ _ _ _ _ => ex_fn C_is_number_of hr hS hT passL (ax_cons (xv 1) (ax_nil))))))), p_is_row_of⟩
theorem nd_need_row : (N_need_row).Nodup := by decide +kernel
theorem sc_need_row : FnScope N_need_row ["row", "word"] (defScope s_need_row) := ⟨rfl, rfl, rfl, by decide +kernel, rfl, by decide +kernel, by decide +kernel⟩
theorem ok_need_row (T : Tx G K mg) (D : DefIn K mg "need_row" "need_row" s_need_row ["row", "word"]) (C_is_row_of : CalD P w K TT mg base 3 "is_row_of" (c_is_row_of G)) : CalF P w K TT mg base 4 "need_row" "need_row" s_need_row ["row", "word"] (c_need_row G) :=
  D.okD sc_need_row l_need_row fun f cdv A outer s H E S hS hT hr => ⟨r_need_row G,
    sxs_cons (sx_if (tx_val (ex_fn C_is_row_of hr hS hT pD (ax_cons (xv 0) (ax_nil)))) (sxs_one (sx_retN)) (sxs_nil))
    (sxs_cons (sx_if (tx_cmp (o_eq hr.units) (xv 1) (ex_str) (by first | exact nomark _ | rfl)) (sxs_one (sx_raise rfl (takes_of rfl rfl rfl rfl) T.x_BadOne (by first | exact Or.inl rfl | exact Or.inr rfl | rfl))) (sxs_nil))
    (sxs_cons (sx_if (tx_cmp (o_eq hr.units) (xv 1) (ex_str) (by first | exact nomark _ | rfl)) (sxs_one (sx_raise rfl (takes_of rfl rfl rfl rfl) T.x_BadOther (by first | exact Or.inl rfl | exact Or.inr rfl | rfl))) (sxs_nil))
    (sxs_one (sx_raise rfl (takes_of rfl rfl rfl rfl) T.x_BadRow (by first | exact Or.inl rfl | exact Or.inr rfl | rfl))))), p_need_row⟩
theorem nd_is_twos_by : (N_is_twos_by).Nodup := by decide +kernel
theorem sc_is_twos_by : FnScope N_is_twos_by ["row"] (defScope s_is_twos_by) := ⟨rfl, rfl, rfl, by decide +kernel, rfl, by decide +kernel, by decide +kernel⟩
theorem ok_is_twos_by (T : Tx G K mg) (D : DefIn K mg "is_twos_by" "is_twos_by" s_is_twos_by ["row"]) : CalF P w K TT mg base 1 "is_twos_by" "is_twos_by" s_is_twos_by ["row"] (c_is_twos_by G) :=
  D.okD sc_is_twos_by l_is_twos_by fun f cdv A outer s H E S hS hT hr => ⟨r_is_twos_by G,
    sxs_one (sx_ret (ex_b1 (c_all rfl) (by first | exact Or.inl rfl | exact Or.inr rfl | rfl) T.b_all boot_all (ex_lc (own := [("number", 1)]) rfl nd_is_twos_by (ix_seq (xv 0)) (blkOk_by (N := N_is_twos_by) (sc := defScope s_is_twos_by) (by decide +kernel)) (fun _ _ _ _ _ => gx_name (i := 1) nd_is_twos_by rfl (by first | exact .inl rfl | exact .inr rfl)) (fun _ _ _ _ _ => tsx_nil) (fun _ _ _ _ _ => ex_cmp o_in (xv 1) (ex_tup (ax_cons (ex_int) (ax_cons (ex_b1 (c_max rfl hr.units) (by first | exact Or.inl rfl | exact Or.inr rfl | rfl) T.b_max boot_max (xv 0)) (ax_nil)))) (by first | exact nomark _ | rfl))))), p_is_twos_by⟩
theorem nd_two_power : (N_two_power).Nodup := by decide +kernel
theorem sc_two_power : FnScope N_two_power ["many"] (defScope s_two_power) := ⟨rfl, rfl, rfl, by decide +kernel, rfl, by decide +kernel, by decide +kernel⟩
theorem ok_two_power (T : Tx G K mg) (D : DefIn K mg "two_power" "two_power" s_two_power ["many"]) : CalF P w K TT mg base 1 "two_power" "two_power" s_two_power ["many"] (c_two_power G) :=
  D.okD sc_two_power l_two_power fun f cdv A outer s H E S hS hT hr => ⟨r_two_power G,
    sxs_cons (sx_set (i := 1) nd_two_power rfl (by first | exact .inl rfl | exact .inr rfl) (ex_int))
    (sxs_cons (sx_while passes_of' (tx_cmp (o_eq hr.units) (ex_op2 o_mod (xv 0) (ex_op2 o_mul (xv 1) (ex_int))) (ex_int) (by first | exact nomark _ | rfl)) (sxs_one (sx_set (i := 1) nd_two_power rfl (by first | exact .inl rfl | exact .inr rfl) (ex_op2 o_mul (xv 1) (ex_int)))))
    (sxs_one (sx_ret (xv 1)))), p_two_power⟩
theorem nd_in_round_by : (N_in_round_by).Nodup := by decide +kernel
theorem sc_in_round_by : FnScope N_in_round_by ["row"] (defScope s_in_round_by) := ⟨rfl, rfl, rfl, by decide +kernel, rfl, by decide +kernel, by decide +kernel⟩
theorem ok_in_round_by (T : Tx G K mg) (D : DefIn K mg "in_round_by" "in_round_by" s_in_round_by ["row"]) (C_two_power : CalD P w K TT mg base 1 "two_power" (c_two_power G)) (C_is_twos_by : CalD P w K TT mg base 1 "is_twos_by" (c_is_twos_by G)) : CalF P w K TT mg base 2 "in_round_by" "in_round_by" s_in_round_by ["row"] (c_in_round_by G) :=
  D.okD sc_in_round_by l_in_round_by fun f cdv A outer s H E S hS hT hr => ⟨r_in_round_by G,
    sxs_cons (sx_set (i := 1) nd_in_round_by rfl (by first | exact .inl rfl | exact .inr rfl) (ex_fn C_two_power hr hS hT pD (ax_cons (ex_b1 (c_len hS) (by first | exact Or.inl rfl | exact Or.inr rfl | rfl) T.b_len boot_len (xv 0)) (ax_nil))))
    (sxs_cons (sx_if (tx_not (tx_val (ex_fn C_is_twos_by hr hS hT pD (ax_cons (xv 0) (ax_nil))))) (sxs_one (sx_ret (ex_bl))) (sxs_nil))
    (sxs_one (sx_ret (ex_b1 (c_all rfl) (by first | exact Or.inl rfl | exact Or.inr rfl | rfl) T.b_all boot_all (ex_lc (own := [("rest", 3)]) rfl nd_in_round_by (ix_range1 (by first | exact Or.inl rfl | exact Or.inr rfl | rfl) T.b_range (xv 1)) (blkOk_by (N := N_in_round_by) (sc := defScope s_in_round_by) (by decide +kernel)) (fun _ _ _ _ _ => gx_name (i := 3) nd_in_round_by rfl (by first | exact .inl rfl | exact .inr rfl)) (fun _ _ _ _ _ => tsx_nil) (fun _ _ _ _ _ => ex_cmp (o_eq hr.units) (ex_op2 o_mod (ex_b1 (c_len hS) (by first | exact Or.inl rfl | exact Or.inr rfl | rfl) T.b_len boot_len (ex_lc (own := [("number", 2)]) rfl nd_in_round_by (ix_seq (ex_slice3 (xv 0) (ox_some (xv 3)) (ox_none) (ox_some (xv 1)))) (blkOk_by (N := N_in_round_by) (sc := relS _ (defScope s_in_round_by)) (by decide +kernel)) (fun _ _ _ _ _ => gx_name (i := 2) nd_in_round_by rfl (by first | exact .inl rfl | exact .inr rfl)) (fun _ _ _ _ _ => tsx_one (tx_cmp (o_ne hr.units) (xv 2) (ex_int) (by first | exact nomark _ | rfl))) (fun _ _ _ _ _ => xv 2))) (ex_int)) (ex_int) (by first | exact nomark _ | rfl))))))), p_in_round_by⟩
theorem nd_is_in_round : (N_is_in_round).Nodup := by decide +kernel
theorem sc_is_in_round : FnScope N_is_in_round ["row"] (defScope s_is_in_round) := ⟨rfl, rfl, rfl, by decide +kernel, rfl, by decide +kernel, by decide +kernel⟩
theorem ok_is_in_round (T : Tx G K mg) (D : DefIn K mg "is_in_round" "is_in_round" s_is_in_round ["row"]) (C_need_row : CalD P w K TT mg base 4 "need_row" (c_need_row G)) (C_in_round_by : CalD P w K TT mg base 2 "in_round_by" (c_in_round_by G)) : CalF P w K TT mg base 5 "is_in_round" "is_in_round" s_is_in_round ["row"] (c_is_in_round G) :=
  D.okD sc_is_in_round l_is_in_round fun f cdv A outer s H E S hS hT hr => ⟨r_is_in_round G,
    sxs_cons (sx_expr (ex_fn C_need_row hr hS hT pD (ax_cons (xv 0) (ax_cons (ex_str) (ax_nil)))))
    (sxs_one (sx_ret (ex_fn C_in_round_by hr hS hT pD (ax_cons (xv 0) (ax_nil))))), p_is_in_round⟩
theorem nd__law_begun : (N__law_begun).Nodup := by decide +kernel
theorem sc__law_begun : FnScope N__law_begun ["script"] (defScope s__law_begun) := ⟨rfl, rfl, rfl, by decide +kernel, rfl, by decide +kernel, by decide +kernel⟩
theorem ok__law_begun (T : Tx G K mg) (D : DefIn K mg "_law_begun" "_law_begun" s__law_begun ["script"]) : CalF P w K TT mg base 1 "_law_begun" "_law_begun" s__law_begun ["script"] (c__law_begun G) :=
  D.okD sc__law_begun l__law_begun fun f cdv A outer s H E S hS hT hr => ⟨r__law_begun G,
    sxs_cons (sx_par2 (i := 1) (j := 2) rfl nd__law_begun rfl rfl (by decide) rfl rfl (mx_cons (ex_int) (mx_cons (ex_lst (ax_nil)) (mx_nil))) rfl)
    (sxs_cons (sx_for passes_of' rfl (ix_scr hS (xv 0)) (gx_name (i := 3) nd__law_begun rfl (by first | exact .inl rfl | exact .inr rfl)) (sxs_one (sx_if (tx_val (ex_b2 c_isi (by first | exact Or.inl rfl | exact Or.inr rfl | rfl) T.b_isinstance boot_isinstance (xv 3) (ex_gty (by first | exact Or.inl rfl | exact Or.inr rfl | rfl) T.b_int boot_int))) (sxs_cons (sx_if (tx_cmp o_ge (xv 3) (ex_op2 o_pow (ex_int) (ex_int)) (by first | exact nomark _ | rfl)) (sxs_one (sx_set (i := 1) nd__law_begun rfl (by first | exact .inl rfl | exact .inr rfl) (ex_op2 o_add (ex_op2 o_mul (xv 1) (ex_op2 o_add (ex_op2 o_sub (xv 3) (ex_op2 o_pow (ex_int) (ex_int))) (ex_int))) (ex_op2 o_sub (xv 3) (ex_op2 o_pow (ex_int) (ex_int)))))) (sxs_nil))
    (sxs_one (sx_expr (ex_append (xv 2) (xv 3))))) (sxs_nil))))
    (sxs_one (sx_ret (ex_disp (dpx_cons (xv 1) (dpx_cons (xv 2) (dpx_cons (ex_int) (dpx_nil)))) (by decide +kernel) (by decide) rfl rfl (by intro z; cases z) (by decide))))), p__law_begun⟩
theorem nd__law_pick : (N__law_pick).Nodup := by decide +kernel
theorem sc__law_pick : FnScope N__law_pick ["draw", "items"] (defScope s__law_pick) := ⟨rfl, rfl, rfl, by decide +kernel, rfl, by decide +kernel, by decide +kernel⟩
theorem ok__law_pick (T : Tx G K mg) (D : DefIn K mg "_law_pick" "_law_pick" s__law_pick ["draw", "items"]) (C__law_take : CalD P w K TT mg base 2 "_law_take" (c__law_take G)) : CalF P w K TT mg base 3 "_law_pick" "_law_pick" s__law_pick ["draw", "items"] (c__law_pick G) :=
  D.okD sc__law_pick l__law_pick fun f cdv A outer s H E S hS hT hr => ⟨r__law_pick G,
    sxs_one (sx_ret (ex_ix (xv 1) (ex_fn C__law_take hr hS hT pD (ax_cons (xv 0) (ax_cons (ex_b1 (c_len hS) (by first | exact Or.inl rfl | exact Or.inr rfl | rfl) T.b_len boot_len (xv 1)) (ax_nil)))))), p__law_pick⟩
theorem nd__law_kinds : (N__law_kinds).Nodup := by decide +kernel
theorem sc__law_kinds : FnScope N__law_kinds ["thing"] (defScope s__law_kinds) := ⟨rfl, rfl, rfl, by decide +kernel, rfl, by decide +kernel, by decide +kernel⟩
theorem ok__law_kinds (T : Tx G K mg) (D : DefIn K mg "_law_kinds" "_law_kinds" s__law_kinds ["thing"]) : CalF P w K TT mg base 1 "_law_kinds" "_law_kinds" s__law_kinds ["thing"] (c__law_kinds G) :=
  D.okD sc__law_kinds l__law_kinds fun f cdv A outer s H E S hS hT hr => ⟨r__law_kinds G,
    sxs_cons (sx_par2 (i := 1) (j := 2) rfl nd__law_kinds rfl rfl (by decide) rfl rfl (mx_cons (ex_lst (ax_nil)) (mx_cons (ex_lst (ax_cons (xv 0) (ax_nil))) (mx_nil))) rfl)
    (sxs_cons (sx_while passes_of' (tx_cmp (o_ne hr.units) (xv 2) (ex_lst (ax_nil)) (by first | exact nomark _ | rfl)) (sxs_cons (sx_set (i := 3) nd__law_kinds rfl (by first | exact .inl rfl | exact .inr rfl) (ex_pop (xv 2)))
    (sxs_one (sx_if (tx_w (wx_or (tx_val (ex_b2 c_isi (by first | exact Or.inl rfl | exact Or.inr rfl | rfl) T.b_isinstance boot_isinstance (xv 3) (ex_gty (by first | exact Or.inl rfl | exact Or.inr rfl | rfl) T.b_bool boot_bool))) (wx_or1 (tx_cmp o_isN (xv 3) (ex_non) (by first | exact nomark _ | rfl))))) (sxs_one (sx_expr (ex_append (xv 1) (ex_b1 c_repr (by first | exact Or.inl rfl | exact Or.inr rfl | rfl) T.b_repr boot_repr (xv 3))))) (sxs_one (sx_if (tx_val (ex_b2 c_isi (by first | exact Or.inl rfl | exact Or.inr rfl | rfl) T.b_isinstance boot_isinstance (xv 3) (ex_gty (by first | exact Or.inl rfl | exact Or.inr rfl | rfl) T.b_int boot_int))) (sxs_one (sx_expr (ex_append (xv 1) (ex_str)))) (sxs_one (sx_if (tx_val (ex_b2 c_isi (by first | exact Or.inl rfl | exact Or.inr rfl | rfl) T.b_isinstance boot_isinstance (xv 3) (ex_gty (by first | exact Or.inl rfl | exact Or.inr rfl | rfl) T.b_str boot_str))) (sxs_one (sx_expr (ex_append (xv 1) (ex_str)))) (sxs_one (sx_if (tx_w (wx_or (tx_val (ex_b2 c_isi (by first | exact Or.inl rfl | exact Or.inr rfl | rfl) T.b_isinstance boot_isinstance (xv 3) (ex_gty (by first | exact Or.inl rfl | exact Or.inr rfl | rfl) T.b_list boot_list))) (wx_or1 (tx_val (ex_b2 c_isi (by first | exact Or.inl rfl | exact Or.inr rfl | rfl) T.b_isinstance boot_isinstance (xv 3) (ex_gty (by first | exact Or.inl rfl | exact Or.inr rfl | rfl) T.b_tuple boot_tuple)))))) (sxs_cons (sx_expr (ex_append (xv 1) (ex_ifE (tx_val (ex_b2 c_isi (by first | exact Or.inl rfl | exact Or.inr rfl | rfl) T.b_isinstance boot_isinstance (xv 3) (ex_gty (by first | exact Or.inl rfl | exact Or.inr rfl | rfl) T.b_list boot_list))) (ex_str) (ex_str))))
    (sxs_one (sx_set (i := 2) nd__law_kinds rfl (by first | exact .inl rfl | exact .inr rfl) (ex_op2 o_add (xv 2) (ex_t1 c_list (by first | exact Or.inl rfl | exact Or.inr rfl | rfl) T.b_list boot_list (xv 3)))))) (sxs_one (sx_if (tx_val (ex_b2 c_isi (by first | exact Or.inl rfl | exact Or.inr rfl | rfl) T.b_isinstance boot_isinstance (xv 3) (ex_gty (by first | exact Or.inl rfl | exact Or.inr rfl | rfl) T.b_dict boot_dict))) (sxs_cons (sx_expr (ex_append (xv 1) (ex_str)))
    (sxs_one (sx_never))) (sxs_one (sx_expr (ex_append (xv 1) (ex_str))))))))))))))))
    (sxs_one (sx_ret (xv 1)))), p__law_kinds⟩
theorem nd__law_says : (N__law_says).Nodup := by decide +kernel
theorem sc__law_says : FnScope N__law_says ["told", "due"] (defScope s__law_says) := ⟨rfl, rfl, rfl, by decide +kernel, rfl, by decide +kernel, by decide +kernel⟩
theorem ok__law_says (T : Tx G K mg) (D : DefIn K mg "_law_says" "_law_says" s__law_says ["told", "due"]) (C__law_kinds : CalD P w K TT mg base 1 "_law_kinds" (c__law_kinds G)) : CalF P w K TT mg base 2 "_law_says" "_law_says" s__law_says ["told", "due"] (c__law_says G) :=
  D.okD sc__law_says l__law_says fun f cdv A outer s H E S hS hT hr => ⟨r__law_says G,
    sxs_one (sx_ret (ex_and (ex_cmp (o_eq hr.units) (ex_fn C__law_kinds hr hS hT pD (ax_cons (xv 0) (ax_nil))) (ex_fn C__law_kinds hr hS hT pD (ax_cons (xv 1) (ax_nil))) (by first | exact nomark _ | rfl)) (ex_one (ex_cmp (o_eq hr.units) (xv 0) (xv 1) (by first | exact nomark _ | rfl))))), p__law_says⟩
theorem nd__law_day : (N__law_day).Nodup := by decide +kernel
theorem sc__law_day : FnScope N__law_day ["row"] (defScope s__law_day) := ⟨rfl, rfl, rfl, by decide +kernel, rfl, by decide +kernel, by decide +kernel⟩
theorem ok__law_day (T : Tx G K mg) (D : DefIn K mg "_law_day" "_law_day" s__law_day ["row"]) : CalF P w K TT mg base 1 "_law_day" "_law_day" s__law_day ["row"] (c__law_day G) :=
  D.okD sc__law_day l__law_day fun f cdv A outer s H E S hS hT hr => ⟨r__law_day G,
    sxs_one (sx_ret (ex_t1 c_tuple (by first | exact Or.inl rfl | exact Or.inr rfl | rfl) T.b_tuple boot_tuple (ex_lc (own := [("one", 1), ("other", 2)]) rfl nd__law_day (ix_zip (by first | exact Or.inl rfl | exact Or.inr rfl | rfl) T.b_zip (ax_cons (xv 0) (ax_cons (ex_op2 o_add (ex_t1 c_tuple (by first | exact Or.inl rfl | exact Or.inr rfl | rfl) T.b_tuple boot_tuple (ex_slice (xv 0) (ox_some (ex_int)) (ox_none))) (ex_t1 c_tuple (by first | exact Or.inl rfl | exact Or.inr rfl | rfl) T.b_tuple boot_tuple (ex_slice (xv 0) (ox_none) (ox_some (ex_int))))) (ax_nil)))) (blkOk_by (N := N__law_day) (sc := defScope s__law_day) (by decide +kernel)) (fun _ _ _ _ _ => GX_imp (gx_tup rfl (gxs_cons (gx_name (i := 1) nd__law_day rfl (by first | exact .inl rfl | exact .inr rfl)) (gxs_cons (gx_name (i := 2) nd__law_day rfl (by first | exact .inl rfl | exact .inr rfl)) (gxs_nil)))) gT2_ok) (fun _ _ _ _ _ => tsx_nil) (fun _ _ _ _ _ => ex_op2 o_sub (ex_b2 (c_max2 rfl) (by first | exact Or.inl rfl | exact Or.inr rfl | rfl) T.b_max boot_max (xv 1) (xv 2)) (ex_b2 (c_min2 rfl) (by first | exact Or.inl rfl | exact Or.inr rfl | rfl) T.b_min boot_min (xv 1) (xv 2)))))), p__law_day⟩
theorem nd__law_is_twos : (N__law_is_twos).Nodup := by decide +kernel
theorem sc__law_is_twos : FnScope N__law_is_twos ["row"] (defScope s__law_is_twos) := ⟨rfl, rfl, rfl, by decide +kernel, rfl, by decide +kernel, by decide +kernel⟩
theorem ok__law_is_twos (T : Tx G K mg) (D : DefIn K mg "_law_is_twos" "_law_is_twos" s__law_is_twos ["row"]) : CalF P w K TT mg base 1 "_law_is_twos" "_law_is_twos" s__law_is_twos ["row"] (c__law_is_twos G) :=
  D.okD sc__law_is_twos l__law_is_twos fun f cdv A outer s H E S hS hT hr => ⟨r__law_is_twos G,
    sxs_one (sx_ret (ex_cmp o_lt (ex_lenSet (by first | exact Or.inl rfl | exact Or.inr rfl | rfl) T.b_len (by first | exact Or.inl rfl | exact Or.inr rfl | rfl) T.b_set (ex_lc (own := [("number", 1)]) rfl nd__law_is_twos (ix_seq (xv 0)) (blkOk_by (N := N__law_is_twos) (sc := defScope s__law_is_twos) (by decide +kernel)) (fun _ _ _ _ _ => gx_name (i := 1) nd__law_is_twos rfl (by first | exact .inl rfl | exact .inr rfl)) (fun _ _ _ _ _ => tsx_one (tx_cmp (o_ne hr.units) (xv 1) (ex_int) (by first | exact nomark _ | rfl))) (fun _ _ _ _ _ => xv 1)) rfl) (ex_int) (by first | exact nomark _ | rfl))), p__law_is_twos⟩
theorem nd__law_line : (N__law_line).Nodup := by decide +kernel
theorem sc__law_line : FnScope N__law_line ["row"] (defScope s__law_line) := ⟨rfl, rfl, rfl, by decide +kernel, rfl, by decide +kernel, by decide +kernel⟩
theorem ok__law_line (T : Tx G K mg) (D : DefIn K mg "_law_line" "_law_line" s__law_line ["row"]) (C__law_day : CalD P w K TT mg base 1 "_law_day" (c__law_day G)) : CalF P w K TT mg base 2 "_law_line" "_law_line" s__law_line ["row"] (c__law_line G) :=
  D.okD sc__law_line l__law_line fun f cdv A outer s H E S hS hT hr => ⟨r__law_line G,
    sxs_cons (sx_par3 (i := 1) (j := 2) (l := 3) rfl nd__law_line rfl rfl rfl (by decide) (by decide) (by decide) rfl rfl rfl (mx_cons (ex_lst (ax_nil)) (mx_cons (ex_newT) (mx_cons (ex_t1 c_tuple (by first | exact Or.inl rfl | exact Or.inr rfl | rfl) T.b_tuple boot_tuple (xv 0)) (mx_nil)))) rfl)
    (sxs_cons (sx_while passes_of' (tx_cmp (o_notinD (hu_of hr)) (xv 3) (xv 2) (by first | exact nomark _ | rfl)) (sxs_cons (sx_putD (hu_of hr) (xv 2) (xv 3) (ex_b1 (c_len hS) (by first | exact Or.inl rfl | exact Or.inr rfl | rfl) T.b_len boot_len (xv 1)))
    (sxs_cons (sx_expr (ex_append (xv 1) (xv 3)))
    (sxs_one (sx_set (i := 3) nd__law_line rfl (by first | exact .inl rfl | exact .inr rfl) (ex_fn C__law_day hr hS hT pD (ax_cons (xv 3) (ax_nil))))))))
    (sxs_one (sx_ret (ex_tup (ax_cons (xv 1) (ax_cons (ex_getD (hu_of hr) (xv 2) (xv 3)) (ax_nil))))))), p__law_line⟩
theorem nd__law_two_power : (N__law_two_power).Nodup := by decide +kernel
theorem sc__law_two_power : FnScope N__law_two_power ["many"] (defScope s__law_two_power) := ⟨rfl, rfl, rfl, by decide +kernel, rfl, by decide +kernel, by decide +kernel⟩
theorem ok__law_two_power (T : Tx G K mg) (D : DefIn K mg "_law_two_power" "_law_two_power" s__law_two_power ["many"]) : CalF P w K TT mg base 1 "_law_two_power" "_law_two_power" s__law_two_power ["many"] (c__law_two_power G) :=
  D.okD sc__law_two_power l__law_two_power fun f cdv A outer s H E S hS hT hr => ⟨r__law_two_power G,
    sxs_cons (sx_set (i := 1) nd__law_two_power rfl (by first | exact .inl rfl | exact .inr rfl) (ex_int))
    (sxs_cons (sx_while passes_of' (tx_cmp (o_eq hr.units) (ex_op2 o_mod (ex_t1 c_int (by first | exact Or.inl rfl | exact Or.inr rfl | rfl) T.b_int boot_int (xv 0)) (ex_op2 o_mul (xv 1) (ex_int))) (ex_int) (by first | exact nomark _ | rfl)) (sxs_one (sx_set (i := 1) nd__law_two_power rfl (by first | exact .inl rfl | exact .inr rfl) (ex_op2 o_mul (xv 1) (ex_int)))))
    (sxs_one (sx_ret (xv 1)))), p__law_two_power⟩
theorem nd__law_in_round : (N__law_in_round).Nodup := by decide +kernel
theorem sc__law_in_round : FnScope N__law_in_round ["row"] (defScope s__law_in_round) := ⟨rfl, rfl, rfl, by decide +kernel, rfl, by decide +kernel, by decide +kernel⟩
theorem ok__law_in_round (T : Tx G K mg) (D : DefIn K mg "_law_in_round" "_law_in_round" s__law_in_round ["row"]) (C__law_two_power : CalD P w K TT mg base 1 "_law_two_power" (c__law_two_power G)) (C__law_is_twos : CalD P w K TT mg base 1 "_law_is_twos" (c__law_is_twos G)) : CalF P w K TT mg base 2 "_law_in_round" "_law_in_round" s__law_in_round ["row"] (c__law_in_round G) :=
  D.okD sc__law_in_round l__law_in_round fun f cdv A outer s H E S hS hT hr => ⟨r__law_in_round G,
    sxs_cons (sx_set (i := 1) nd__law_in_round rfl (by first | exact .inl rfl | exact .inr rfl) (ex_fn C__law_two_power hr hS hT pD (ax_cons (ex_b1 (c_len hS) (by first | exact Or.inl rfl | exact Or.inr rfl | rfl) T.b_len boot_len (xv 0)) (ax_nil))))
    (sxs_cons (sx_if (tx_not (tx_val (ex_fn C__law_is_twos hr hS hT pD (ax_cons (xv 0) (ax_nil))))) (sxs_one (sx_ret (ex_bl))) (sxs_nil))
    (sxs_one (sx_ret (ex_cmp (o_eq hr.units) (ex_lc (own := [("rest", 2)]) rfl nd__law_in_round (ix_range1 (by first | exact Or.inl rfl | exact Or.inr rfl | rfl) T.b_range (xv 1)) (blkOk_by (N := N__law_in_round) (sc := defScope s__law_in_round) (by decide +kernel)) (fun _ _ _ _ _ => gx_name (i := 2) nd__law_in_round rfl (by first | exact .inl rfl | exact .inr rfl)) (fun _ _ _ _ _ => tsx_one (tx_cmp (o_eq hr.units) (ex_op2 o_mod (ex_t1 c_int (by first | exact Or.inl rfl | exact Or.inr rfl | rfl) T.b_int boot_int (ex_b1 (c_len hS) (by first | exact Or.inl rfl | exact Or.inr rfl | rfl) T.b_len boot_len (ex_lc (own := [("number", 3)]) rfl nd__law_in_round (ix_seq (ex_slice3 (xv 0) (ox_some (xv 2)) (ox_none) (ox_some (xv 1)))) (blkOk_by (N := N__law_in_round) (sc := relS _ (defScope s__law_in_round)) (by decide +kernel)) (fun _ _ _ _ _ => gx_name (i := 3) nd__law_in_round rfl (by first | exact .inl rfl | exact .inr rfl)) (fun _ _ _ _ _ => tsx_one (tx_cmp (o_ne hr.units) (xv 3) (ex_int) (by first | exact nomark _ | rfl))) (fun _ _ _ _ _ => xv 3)))) (ex_int)) (ex_int) (by first | exact nomark _ | rfl))) (fun _ _ _ _ _ => xv 2)) (ex_lst (ax_nil)) (by first | exact nomark _ | rfl))))), p__law_in_round⟩
theorem nd__law_row : (N__law_row).Nodup := by decide +kernel
theorem sc__law_row : FnScope N__law_row ["draw", "most"] (defScope s__law_row) := ⟨rfl, rfl, rfl, by decide +kernel, rfl, by decide +kernel, by decide +kernel⟩
theorem ok__law_row (T : Tx G K mg) (D : DefIn K mg "_law_row" "_law_row" s__law_row ["draw", "most"]) (C__law_take : CalD P w K TT mg base 2 "_law_take" (c__law_take G)) (C__law_pick : CalD P w K TT mg base 3 "_law_pick" (c__law_pick G)) : CalF P w K TT mg base 4 "_law_row" "_law_row" s__law_row ["draw", "most"] (c__law_row G) :=
  D.okD sc__law_row l__law_row fun f cdv A outer s H E S hS hT hr => ⟨r__law_row G,
    sxs_cons (sx_par2 (i := 2) (j := 3) rfl nd__law_row rfl rfl (by decide) rfl rfl (mx_cons (ex_op2 o_add (ex_int) (ex_fn C__law_take hr hS hT pD (ax_cons (xv 0) (ax_cons (xv 1) (ax_nil))))) (mx_cons (ex_fn C__law_take hr hS hT pD (ax_cons (xv 0) (ax_cons (ex_int) (ax_nil)))) (mx_nil))) rfl)
    (sxs_cons (sx_if (tx_cmp (o_eq hr.units) (xv 3) (ex_int) (by first | exact nomark _ | rfl)) (sxs_cons (sx_set (i := 4) nd__law_row rfl (by first | exact .inl rfl | exact .inr rfl) (ex_fn C__law_pick hr hS hT pD (ax_cons (xv 0) (ax_cons (ex_lst (ax_cons (ex_int) (ax_cons (ex_int) (ax_cons (ex_int) (ax_cons (ex_int) (ax_nil)))))) (ax_nil)))))
    (sxs_one (sx_ret (ex_t1 c_tuple (by first | exact Or.inl rfl | exact Or.inr rfl | rfl) T.b_tuple boot_tuple (ex_lc (own := [("place", 7)]) rfl nd__law_row (ix_range1 (by first | exact Or.inl rfl | exact Or.inr rfl | rfl) T.b_range (xv 2)) (blkOk_by (N := N__law_row) (sc := defScope s__law_row) (by decide +kernel)) (fun _ _ _ _ _ => gx_name (i := 7) nd__law_row rfl (by first | exact .inl rfl | exact .inr rfl)) (fun _ _ _ _ _ => tsx_nil) (fun _ _ _ _ _ => ex_fn C__law_pick hr hS hT passL (ax_cons (xv 0) (ax_cons (ex_lst (ax_cons (ex_int) (ax_cons (xv 4) (ax_nil)))) (ax_nil))))))))) (sxs_nil))
    (sxs_cons (sx_if (tx_cmp (o_eq hr.units) (xv 3) (ex_int) (by first | exact nomark _ | rfl)) (sxs_one (sx_ret (ex_op2 o_mul (ex_tup (ax_cons (ex_fn C__law_take hr hS hT pD (ax_cons (xv 0) (ax_cons (ex_int) (ax_nil)))) (ax_nil))) (xv 2)))) (sxs_nil))
    (sxs_cons (sx_if (tx_cmp (o_eq hr.units) (xv 3) (ex_int) (by first | exact nomark _ | rfl)) (sxs_cons (sx_set (i := 5) nd__law_row rfl (by first | exact .inl rfl | exact .inr rfl) (ex_op2 o_add (ex_int) (ex_fn C__law_take hr hS hT pD (ax_cons (xv 0) (ax_cons (ex_int) (ax_nil))))))
    (sxs_one (sx_ret (ex_t1 c_tuple (by first | exact Or.inl rfl | exact Or.inr rfl | rfl) T.b_tuple boot_tuple (ex_lc (own := [("place", 7)]) rfl nd__law_row (ix_range1 (by first | exact Or.inl rfl | exact Or.inr rfl | rfl) T.b_range (xv 2)) (blkOk_by (N := N__law_row) (sc := defScope s__law_row) (by decide +kernel)) (fun _ _ _ _ _ => gx_name (i := 7) nd__law_row rfl (by first | exact .inl rfl | exact .inr rfl)) (fun _ _ _ _ _ => tsx_nil) (fun _ _ _ _ _ => ex_op2 o_mul (xv 5) (ex_fn C__law_take hr hS hT passL (ax_cons (xv 0) (ax_cons (ex_int) (ax_nil)))))))))) (sxs_nil))
    (sxs_cons (sx_set (i := 6) nd__law_row rfl (by first | exact .inl rfl | exact .inr rfl) (ex_fn C__law_pick hr hS hT pD (ax_cons (xv 0) (ax_cons (ex_lst (axc_cons (ex_int) (isc_c _) (axc_cons (ex_int) (isc_c _) (axc_cons (ex_int) (isc_c _) (axc_cons (ex_int) (isc_c _) (axc_cons (ex_int) (isc_c _) (axc_nil))))))) (ax_nil)))))
    (sxs_one (sx_ret (ex_t1 c_tuple (by first | exact Or.inl rfl | exact Or.inr rfl | rfl) T.b_tuple boot_tuple (ex_lc (own := [("place", 7)]) rfl nd__law_row (ix_range1 (by first | exact Or.inl rfl | exact Or.inr rfl | rfl) T.b_range (xv 2)) (blkOk_by (N := N__law_row) (sc := defScope s__law_row) (by decide +kernel)) (fun _ _ _ _ _ => gx_name (i := 7) nd__law_row rfl (by first | exact .inl rfl | exact .inr rfl)) (fun _ _ _ _ _ => tsx_nil) (fun _ _ _ _ _ => ex_fn C__law_take hr hS hT passL (ax_cons (xv 0) (ax_cons (xv 6) (ax_nil)))))))))))), p__law_row⟩
theorem nd__law_signs : (N__law_signs).Nodup := by decide +kernel
theorem sc__law_signs : FnScope N__law_signs ["draw", "many"] (defScope s__law_signs) := ⟨rfl, rfl, rfl, by decide +kernel, rfl, by decide +kernel, by decide +kernel⟩
theorem ok__law_signs (T : Tx G K mg) (D : DefIn K mg "_law_signs" "_law_signs" s__law_signs ["draw", "many"]) (C__law_take : CalD P w K TT mg base 2 "_law_take" (c__law_take G)) : CalF P w K TT mg base 3 "_law_signs" "_law_signs" s__law_signs ["draw", "many"] (c__law_signs G) :=
  D.okD sc__law_signs l__law_signs fun f cdv A outer s H E S hS hT hr => ⟨r__law_signs G,
    sxs_one (sx_ret (ex_t1 c_tuple (by first | exact Or.inl rfl | exact Or.inr rfl | rfl) T.b_tuple boot_tuple (ex_lc (own := [("place", 2)]) rfl nd__law_signs (ix_range1 (by first | exact Or.inl rfl | exact Or.inr rfl | rfl) T.b_range (xv 1)) (blkOk_by (N := N__law_signs) (sc := defScope s__law_signs) (by decide +kernel)) (fun _ _ _ _ _ => gx_name (i := 2) nd__law_signs rfl (by first | exact .inl rfl | exact .inr rfl)) (fun _ _ _ _ _ => tsx_nil) (fun _ _ _ _ _ => ex_fn C__law_take hr hS hT passL (ax_cons (xv 0) (ax_cons (ex_int) (ax_nil))))))), p__law_signs⟩
theorem nd__law_no_row : (N__law_no_row).Nodup := by decide +kernel
theorem sc__law_no_row : FnScope N__law_no_row ["draw"] (defScope s__law_no_row) := ⟨rfl, rfl, rfl, by decide +kernel, rfl, by decide +kernel, by decide +kernel⟩
theorem ok__law_no_row (T : Tx G K mg) (D : DefIn K mg "_law_no_row" "_law_no_row" s__law_no_row ["draw"]) (C__law_pick : CalD P w K TT mg base 3 "_law_pick" (c__law_pick G)) : CalF P w K TT mg base 4 "_law_no_row" "_law_no_row" s__law_no_row ["draw"] (c__law_no_row G) :=
  D.okD sc__law_no_row l__law_no_row fun f cdv A outer s H E S hS hT hr => ⟨r__law_no_row G,
    sxs_one (sx_ret (ex_fn C__law_pick hr hS hT pD (ax_cons (xv 0) (ax_cons (ex_lst (axc_cons (ex_non) (isc_c _) (axc_cons (ex_int) (isc_c _) (axc_cons (ex_str) (isc_c _) (axc_cons (ex_tup (axc_nil)) (isc_tup _ (by decide)) (axc_cons (ex_lst (axc_cons (ex_int) (isc_c _) (axc_nil))) (isc_lst _ (by decide)) (axc_cons (ex_tup (axc_cons (ex_op2 o_sub (ex_int) (ex_int)) (isc_sub _ _ _ (by decide)) (axc_nil))) (isc_tup _ (by decide)) (axc_cons (ex_tup (axc_cons (ex_int) (isc_c _) (axc_nil))) (isc_tup _ (by decide)) (axc_cons (ex_tup (axc_cons (ex_bl) (isc_c _) (axc_cons (ex_int) (isc_c _) (axc_nil)))) (isc_tup _ (by decide)) (axc_cons (ex_tup (axc_cons (ex_str) (isc_c _) (axc_nil))) (isc_tup _ (by decide)) (axc_cons (ex_tup (axc_cons (ex_int) (isc_c _) (axc_cons (ex_non) (isc_c _) (axc_nil)))) (isc_tup _ (by decide)) (axc_cons (ex_op2 o_mul (ex_tup (axc_cons (ex_int) (isc_c _) (axc_nil))) (ex_int)) (isc_mulT _ _ _ (by decide) (by decide) (by rfl)) (axc_cons (ex_newK) (isc_newK) (axc_cons (ex_tup (axc_cons (ex_tup (axc_cons (ex_int) (isc_c _) (axc_nil))) (isc_tup _ (by decide)) (axc_nil))) (isc_tup _ (by decide)) (axc_nil))))))))))))))) (ax_nil))))), p__law_no_row⟩
theorem nd__law_right : (N__law_right).Nodup := by decide +kernel
theorem sc__law_right : FnScope N__law_right ["draw"] (defScope s__law_right) := ⟨rfl, rfl, rfl, by decide +kernel, rfl, by decide +kernel, by decide +kernel⟩
theorem ok__law_right (T : Tx G K mg) (D : DefIn K mg "_law_right" "_law_right" s__law_right ["draw"]) (C__law_row : CalD P w K TT mg base 4 "_law_row" (c__law_row G)) (C__law_line : CalD P w K TT mg base 2 "_law_line" (c__law_line G)) (C__law_says : CalD P w K TT mg base 2 "_law_says" (c__law_says G)) (C_is_in_round : CalD P w K TT mg base 5 "is_in_round" (c_is_in_round G)) (C__law_in_round : CalD P w K TT mg base 2 "_law_in_round" (c__law_in_round G)) (C__law_take : CalD P w K TT mg base 2 "_law_take" (c__law_take G)) (C__law_signs : CalD P w K TT mg base 3 "_law_signs" (c__law_signs G)) (C__law_two_power : CalD P w K TT mg base 1 "_law_two_power" (c__law_two_power G)) (CF_is_in_round : CalF P w K TT mg base 5 "is_in_round" "is_in_round" s_is_in_round ["row"] (c_is_in_round G)) : CalF P w K TT mg base 6 "_law_right" "_law_right" s__law_right ["draw"] (c__law_right G) :=
  D.okD sc__law_right l__law_right fun f cdv A outer s H E S hS hT hr => ⟨r__law_right G,
    sxs_cons (sx_set (i := 1) nd__law_right rfl (by first | exact .inl rfl | exact .inr rfl) (ex_fn C__law_row hr hS hT pD (ax_cons (xv 0) (ax_cons (ex_int) (ax_nil)))))
    (sxs_cons (sx_asgT (ex_fn C__law_line hr hS hT pD (ax_cons (xv 1) (ax_nil))) (GX_imp (gx_tup rfl (gxs_cons (gx_name (i := 2) nd__law_right rfl (by first | exact .inl rfl | exact .inr rfl)) (gxs_cons (gx_name (i := 3) nd__law_right rfl (by first | exact .inl rfl | exact .inr rfl)) (gxs_nil)))) gT2_ok))
    (sxs_cons (sx_for passes_of' rfl (ix_seq (ex_lst (ax_cons (ex_int) (ax_cons (xv 3) (ax_cons (ex_b2 (c_max2 rfl) (by first | exact Or.inl rfl | exact Or.inr rfl | rfl) T.b_max boot_max (ex_op2 o_sub (xv 3) (ex_int)) (ex_int)) (ax_cons (ex_op2 o_sub (ex_b1 (c_len hS) (by first | exact Or.inl rfl | exact Or.inr rfl | rfl) T.b_len boot_len (xv 2)) (ex_int)) (ax_nil))))))) (gx_name (i := 4) nd__law_right rfl (by first | exact .inl rfl | exact .inr rfl)) (sxs_cons (sx_set (i := 5) nd__law_right rfl (by first | exact .inl rfl | exact .inr rfl) (ex_cmp o_ge (xv 4) (xv 3) (by first | exact nomark _ | rfl)))
    (sxs_one (sx_if (tx_w (wx_or (tx_not (tx_val (ex_fn C__law_says hr hS hT pD (ax_cons (ex_lst (ax_cons (ex_fn C_is_in_round hr hS hT pD (ax_cons (ex_ix (xv 2) (xv 4)) (ax_nil))) (ax_cons (ex_fnK (ks := ["row"]) CF_is_in_round hr hS hT pD (kx_cons (ex_ix (xv 2) (xv 4)) (kx_nil)) [0] (fun _ _ _ _ _ _ ws hl => match ws, hl with | [_], _ => rfl) rfl) (ax_nil)))) (ax_cons (ex_lst (ax_cons (xv 5) (ax_cons (xv 5) (ax_nil)))) (ax_nil)))))) (wx_or1 (tx_cmp (o_ne hr.units) (ex_fn C__law_in_round hr hS hT pD (ax_cons (ex_ix (xv 2) (xv 4)) (ax_nil))) (xv 5) (by first | exact nomark _ | rfl))))) (sxs_one (sx_ret (ex_bl))) (sxs_nil)))))
    (sxs_cons (sx_asgT (ex_tup (ax_cons (ex_op2 o_add (ex_int) (ex_fn C__law_take hr hS hT pD (ax_cons (xv 0) (ax_cons (ex_int) (ax_nil))))) (ax_cons (ex_op2 o_add (ex_int) (ex_fn C__law_take hr hS hT pD (ax_cons (xv 0) (ax_cons (ex_int) (ax_nil))))) (ax_nil)))) (GX_imp (gx_tup rfl (gxs_cons (gx_name (i := 6) nd__law_right rfl (by first | exact .inl rfl | exact .inr rfl)) (gxs_cons (gx_name (i := 7) nd__law_right rfl (by first | exact .inl rfl | exact .inr rfl)) (gxs_nil)))) gT2_ok))
    (sxs_cons (sx_set (i := 8) nd__law_right rfl (by first | exact .inl rfl | exact .inr rfl) (ex_t1 c_tuple (by first | exact Or.inl rfl | exact Or.inr rfl | rfl) T.b_tuple boot_tuple (ex_lc (own := [("sign", 12)]) rfl nd__law_right (ix_seq (ex_fn C__law_signs hr hS hT pD (ax_cons (xv 0) (ax_cons (xv 6) (ax_nil))))) (blkOk_by (N := N__law_right) (sc := defScope s__law_right) (by decide +kernel)) (fun _ _ _ _ _ => gx_name (i := 12) nd__law_right rfl (by first | exact .inl rfl | exact .inr rfl)) (fun _ _ _ _ _ => tsx_nil) (fun _ _ _ _ _ => ex_op2 o_mul (xv 7) (xv 12)))))
    (sxs_cons (sx_set (i := 9) nd__law_right rfl (by first | exact .inl rfl | exact .inr rfl) (ex_fn C__law_two_power hr hS hT pD (ax_cons (xv 6) (ax_nil))))
    (sxs_cons (sx_set (i := 10) nd__law_right rfl (by first | exact .inl rfl | exact .inr rfl) (ex_t1 c_list (by first | exact Or.inl rfl | exact Or.inr rfl | rfl) T.b_list boot_list (xv 8)))
    (sxs_cons (sx_for passes_of' rfl (ix_range1 (by first | exact Or.inl rfl | exact Or.inr rfl | rfl) T.b_range (xv 9)) (gx_name (i := 11) nd__law_right rfl (by first | exact .inl rfl | exact .inr rfl)) (sxs_one (sx_if (tx_cmp (o_eq hr.units) (ex_op2 o_mod (ex_t1 c_int (by first | exact Or.inl rfl | exact Or.inr rfl | rfl) T.b_int boot_int (ex_b1 (c_len hS) (by first | exact Or.inl rfl | exact Or.inr rfl | rfl) T.b_len boot_len (ex_lc (own := [("number", 13)]) rfl nd__law_right (ix_seq (ex_slice3 (xv 10) (ox_some (xv 11)) (ox_none) (ox_some (xv 9)))) (blkOk_by (N := N__law_right) (sc := defScope s__law_right) (by decide +kernel)) (fun _ _ _ _ _ => gx_name (i := 13) nd__law_right rfl (by first | exact .inl rfl | exact .inr rfl)) (fun _ _ _ _ _ => tsx_one (tx_cmp (o_ne hr.units) (xv 13) (ex_int) (by first | exact nomark _ | rfl))) (fun _ _ _ _ _ => xv 13)))) (ex_int)) (ex_int) (by first | exact nomark _ | rfl)) (sxs_one (sx_setL (xv 10) (xv 11) (ex_op2 o_sub (xv 7) (ex_ix (xv 10) (xv 11))) (by intro _; rfl))) (sxs_nil))))
    (sxs_one (sx_ret (ex_and (ex_cmp (o_eq hr.units) (ex_fn C_is_in_round hr hS hT pD (ax_cons (xv 8) (ax_nil))) (ex_fn C__law_in_round hr hS hT pD (ax_cons (xv 8) (ax_nil))) (by first | exact nomark _ | rfl)) (ex_one (ex_cmp o_isB (ex_fn C_is_in_round hr hS hT pD (ax_cons (ex_t1 c_tuple (by first | exact Or.inl rfl | exact Or.inr rfl | rfl) T.b_tuple boot_tuple (xv 10)) (ax_nil))) (ex_bl) (by first | exact nomark _ | rfl))))))))))))), p__law_right⟩
theorem sc__law_caught : FnScope NC ["work"] (defScope s__law_caught) := ⟨rfl, rfl, rfl, by decide +kernel, rfl, by decide +kernel, by decide +kernel⟩
theorem caught_G {X : Cx} {CS : Addr} (hm : X.mg "RowError" = some (.ref CS)) : ∀ g cdv q, LamX.GivesTo X NC "_law_caught" (defScope s__law_caught) g cdv (defBody s__law_caught) "work" q (TTc X.K CS) := fun g cdv q => caught_gives (e := "RowError") rfl hm (by decide) rfl rfl rfl
theorem nd_law : (N_law).Nodup := by decide +kernel
theorem sc_law : FnScope N_law ["script"] (defScope s_law) := ⟨rfl, rfl, rfl, by decide +kernel, rfl, by decide +kernel, by decide +kernel⟩
theorem ok_law (T : Tx G K mg) {f : Addr} {fd : FuncData} (F : FunD K "law" "law" (defArgs s_law) (defBody s_law) (defScope s_law) [] [] f fd) (C__law_begun : CalD P w K TT mg base 1 "_law_begun" (c__law_begun G)) (C__law_says : CalD P w K TT mg base 2 "_law_says" (c__law_says G)) (C_is_in_round : CalD P w K TT mg base 5 "is_in_round" (c_is_in_round G)) (C__law_take : CalD P w K TT mg base 2 "_law_take" (c__law_take G)) (C__law_line : CalD P w K TT mg base 2 "_law_line" (c__law_line G)) (C__law_right : CalD P w K TT mg base 6 "_law_right" (c__law_right G)) (C__law_no_row : CalD P w K TT mg base 4 "_law_no_row" (c__law_no_row G)) (D_caught : DefIn K mg "_law_caught" "_law_caught" s__law_caught ["work"]) {c P0 : Addr} (hfc : fd.code = .ref c) (TB : LamX.TabB base mg c P0) (hmT : (P0, (("law" : Str) ++ (".<locals>." : Str)) ++ ("<lambda>" : Str)) ∈ TT) (hu : ∀ p ∈ TT, p.1 = P0 → p.2 = (("law" : Str) ++ (".<locals>." : Str)) ++ ("<lambda>" : Str)) : FnOk P w K mg base (L2.CX P w) 8 f fd ["script"] (spLaw K TT) := by
  obtain ⟨fB, fdB, psB, FB, mB, kB, bB⟩ := C__law_begun.ex
  refine okLaw (G := G) (k := 7) (s0 := (defBody s_law).head!) (rest := (defBody s_law).tail) (r := r_law G) F sc_law rfl (fun cdv A outer s H E hcd hr => ⟨?_, fun S hS hT => ?_⟩) fun ns hl => p_law ns hl
  · exact ps_set (i := 1) nd_law rfl (by first | exact .inl rfl | exact .inr rfl) (pe_call FB (hr.mono (by decide)) (by first | exact Or.inl rfl | exact Or.inr rfl | rfl) mB kB bB .nil pD (pa_cons (pv 0) pa_nil))
  · exact sxs_cons (sx_if (tx_not (tx_val (ex_fn C__law_says hr hS hT pD (ax_cons (ex_lst (ax_cons (ex_fn C_is_in_round hr hS hT pD (ax_cons (ex_tup (ax_cons (ex_int) (ax_cons (ex_int) (ax_cons (ex_int) (ax_nil))))) (ax_nil))) (ax_cons (ex_fn C_is_in_round hr hS hT pD (ax_cons (ex_tup (ax_cons (ex_int) (ax_cons (ex_int) (ax_cons (ex_int) (ax_nil))))) (ax_nil))) (ax_cons (ex_fn C_is_in_round hr hS hT pD (ax_cons (ex_tup (ax_cons (ex_int) (ax_cons (ex_int) (ax_nil)))) (ax_nil))) (ax_cons (ex_fn C_is_in_round hr hS hT pD (ax_cons (ex_tup (ax_cons (ex_int) (ax_cons (ex_int) (ax_nil)))) (ax_nil))) (ax_cons (ex_fn C_is_in_round hr hS hT pD (ax_cons (ex_tup (ax_cons (ex_int) (ax_cons (ex_int) (ax_cons (ex_int) (ax_nil))))) (ax_nil))) (ax_nil))))))) (ax_cons (ex_lst (axc_cons (ex_bl) (isc_c _) (axc_cons (ex_bl) (isc_c _) (axc_cons (ex_bl) (isc_c _) (axc_cons (ex_bl) (isc_c _) (axc_cons (ex_bl) (isc_c _) (axc_nil))))))) (ax_nil)))))) (sxs_one (sx_ret (ex_bl))) (sxs_nil))
        (sxs_cons (sx_set (i := 2) nd_law rfl (by first | exact .inl rfl | exact .inr rfl) (ex_op2 o_add (ex_int) (ex_fn C__law_take hr hS hT pD (ax_cons (xv 1) (ax_cons (ex_int) (ax_nil))))))
        (sxs_cons (sx_set (i := 3) nd_law rfl (by first | exact .inl rfl | exact .inr rfl) (ex_lst (ax_cons (ex_tup (ax_nil)) (ax_nil))))
        (sxs_cons (sx_for passes_of' rfl (ix_range1 (by first | exact Or.inl rfl | exact Or.inr rfl | rfl) T.b_range (xv 2)) (gx_name (i := 4) nd_law rfl (by first | exact .inl rfl | exact .inr rfl)) (sxs_one (sx_set (i := 3) nd_law rfl (by first | exact .inl rfl | exact .inr rfl) (ex_op2 o_add (ex_lc (own := [("row", 5)]) rfl nd_law (ix_seq (xv 3)) (blkOk_by (N := N_law) (sc := defScope s_law) (by decide +kernel)) (fun _ _ _ _ _ => gx_name (i := 5) nd_law rfl (by first | exact .inl rfl | exact .inr rfl)) (fun _ _ _ _ _ => tsx_nil) (fun _ _ _ _ _ => ex_op2 o_add (xv 5) (ex_tup (ax_cons (ex_int) (ax_nil))))) (ex_lc (own := [("row", 5)]) rfl nd_law (ix_seq (xv 3)) (blkOk_by (N := N_law) (sc := defScope s_law) (by decide +kernel)) (fun _ _ _ _ _ => gx_name (i := 5) nd_law rfl (by first | exact .inl rfl | exact .inr rfl)) (fun _ _ _ _ _ => tsx_nil) (fun _ _ _ _ _ => ex_op2 o_add (xv 5) (ex_tup (ax_cons (ex_int) (ax_nil)))))))))
        (sxs_cons (sx_for passes_of' rfl (ix_seq (xv 3)) (gx_name (i := 5) nd_law rfl (by first | exact .inl rfl | exact .inr rfl)) (sxs_one (sx_if (tx_cmp (o_ne hr.units) (ex_fn C_is_in_round hr hS hT pD (ax_cons (xv 5) (ax_nil))) (ex_cmp (o_eq hr.units) (ex_ix (ex_fn C__law_line hr hS hT pD (ax_cons (xv 5) (ax_nil))) (ex_int)) (ex_int) (by first | exact nomark _ | rfl)) (by first | exact nomark _ | rfl)) (sxs_one (sx_ret (ex_bl))) (sxs_nil))))
        (sxs_cons (sx_for passes_of' rfl (ix_range1 (by first | exact Or.inl rfl | exact Or.inr rfl | rfl) T.b_range (ex_op2 o_add (ex_int) (ex_b2 (c_min2 rfl) (by first | exact Or.inl rfl | exact Or.inr rfl | rfl) T.b_min boot_min (ex_b1 (c_len hS) (by first | exact Or.inl rfl | exact Or.inr rfl | rfl) T.b_len boot_len (xv 0)) (ex_int)))) (gx_name (i := 4) nd_law rfl (by first | exact .inl rfl | exact .inr rfl)) (sxs_one (sx_if (tx_not (tx_val (ex_fn C__law_right hr hS hT pD (ax_cons (xv 1) (ax_nil))))) (sxs_one (sx_ret (ex_bl))) (sxs_nil))))
        (sxs_one (sx_ret (ex_b2 (c_isE T.xE T.xK) (by first | exact Or.inl rfl | exact Or.inr rfl | rfl) T.b_isinstance boot_isinstance (ex_caughtP (k := 5) (S := S) D_caught sc__law_caught (Or.inl rfl) (caught_G T.m_RowError) hS (okC_M T.xM) TB (hcd.symm.trans hfc) (by rw [hT]; exact hmT) (by rw [hT]; exact hu) (hr.mono (by decide)) (LamX.lamS_by (sc := defScope s_law) (by decide +kernel)) (fun _ _ _ _ _ _ _ _ hS hT2 hr hx => have hT := hT2.trans hT; ex_fn C_is_in_round hr hS hT hx (ax_cons (ex_fn C__law_no_row hr hS hT hx (ax_cons (xv 1) (ax_nil))) (ax_nil)))) (ex_gref (by first | exact Or.inl rfl | exact Or.inr rfl | rfl) T.x_BadRow.at_)))))))))
end
end RP
set_option Elab.async false
set_option linter.all false
set_option maxRecDepth 100000
set_option maxHeartbeats 0
namespace RP
open PySem PySem.Spec PyProof.Rows L2 PL
def d_is_whole : He.DefD := ⟨("is_whole", none), "is_whole", "is_whole", defArgs s_is_whole, defBody s_is_whole, defScope s_is_whole, [], []⟩
def d_is_number_of : He.DefD := ⟨("is_number_of", none), "is_number_of", "is_number_of", defArgs s_is_number_of, defBody s_is_number_of, defScope s_is_number_of, [], []⟩
def d_is_row_of : He.DefD := ⟨("is_row_of", none), "is_row_of", "is_row_of", defArgs s_is_row_of, defBody s_is_row_of, defScope s_is_row_of, [], []⟩
def d_need_row : He.DefD := ⟨("need_row", none), "need_row", "need_row", defArgs s_need_row, defBody s_need_row, defScope s_need_row, [], []⟩
def d_is_twos_by : He.DefD := ⟨("is_twos_by", none), "is_twos_by", "is_twos_by", defArgs s_is_twos_by, defBody s_is_twos_by, defScope s_is_twos_by, [], []⟩
def d_two_power : He.DefD := ⟨("two_power", none), "two_power", "two_power", defArgs s_two_power, defBody s_two_power, defScope s_two_power, [], []⟩
def d_in_round_by : He.DefD := ⟨("in_round_by", none), "in_round_by", "in_round_by", defArgs s_in_round_by, defBody s_in_round_by, defScope s_in_round_by, [], []⟩
def d_is_in_round : He.DefD := ⟨("is_in_round", none), "is_in_round", "is_in_round", defArgs s_is_in_round, defBody s_is_in_round, defScope s_is_in_round, [], []⟩
def d__law_begun : He.DefD := ⟨("_law_begun", none), "_law_begun", "_law_begun", defArgs s__law_begun, defBody s__law_begun, defScope s__law_begun, [], []⟩
def d__law_mixed : He.DefD := ⟨("_law_mixed", none), "_law_mixed", "_law_mixed", defArgs s__law_mixed, defBody s__law_mixed, defScope s__law_mixed, [], []⟩
def d__law_take : He.DefD := ⟨("_law_take", none), "_law_take", "_law_take", defArgs s__law_take, defBody s__law_take, defScope s__law_take, [], []⟩
def d__law_pick : He.DefD := ⟨("_law_pick", none), "_law_pick", "_law_pick", defArgs s__law_pick, defBody s__law_pick, defScope s__law_pick, [], []⟩
def d__law_caught : He.DefD := ⟨("_law_caught", none), "_law_caught", "_law_caught", defArgs s__law_caught, defBody s__law_caught, defScope s__law_caught, [], []⟩
def d__law_kinds : He.DefD := ⟨("_law_kinds", none), "_law_kinds", "_law_kinds", defArgs s__law_kinds, defBody s__law_kinds, defScope s__law_kinds, [], []⟩
def d__law_says : He.DefD := ⟨("_law_says", none), "_law_says", "_law_says", defArgs s__law_says, defBody s__law_says, defScope s__law_says, [], []⟩
def d__law_day : He.DefD := ⟨("_law_day", none), "_law_day", "_law_day", defArgs s__law_day, defBody s__law_day, defScope s__law_day, [], []⟩
def d__law_is_twos : He.DefD := ⟨("_law_is_twos", none), "_law_is_twos", "_law_is_twos", defArgs s__law_is_twos, defBody s__law_is_twos, defScope s__law_is_twos, [], []⟩
def d__law_line : He.DefD := ⟨("_law_line", none), "_law_line", "_law_line", defArgs s__law_line, defBody s__law_line, defScope s__law_line, [], []⟩
def d__law_two_power : He.DefD := ⟨("_law_two_power", none), "_law_two_power", "_law_two_power", defArgs s__law_two_power, defBody s__law_two_power, defScope s__law_two_power, [], []⟩
def d__law_in_round : He.DefD := ⟨("_law_in_round", none), "_law_in_round", "_law_in_round", defArgs s__law_in_round, defBody s__law_in_round, defScope s__law_in_round, [], []⟩
def d__law_row : He.DefD := ⟨("_law_row", none), "_law_row", "_law_row", defArgs s__law_row, defBody s__law_row, defScope s__law_row, [], []⟩
def d__law_signs : He.DefD := ⟨("_law_signs", none), "_law_signs", "_law_signs", defArgs s__law_signs, defBody s__law_signs, defScope s__law_signs, [], []⟩
def d__law_no_row : He.DefD := ⟨("_law_no_row", none), "_law_no_row", "_law_no_row", defArgs s__law_no_row, defBody s__law_no_row, defScope s__law_no_row, [], []⟩
def d__law_right : He.DefD := ⟨("_law_right", none), "_law_right", "_law_right", defArgs s__law_right, defBody s__law_right, defScope s__law_right, [], []⟩
def d_law : He.DefD := ⟨("law", none), "law", "law", defArgs s_law, defBody s_law, defScope s_law, [], []⟩
def fnD0 : List He.DefD := [d_is_whole, d_is_number_of, d_is_row_of, d_need_row, d_is_twos_by, d_two_power, d_in_round_by, d_is_in_round, d__law_begun, d__law_mixed, d__law_take, d__law_pick, d__law_caught, d__law_kinds, d__law_says, d__law_day, d__law_is_twos, d__law_line, d__law_two_power, d__law_in_round, d__law_row, d__law_signs, d__law_no_row, d__law_right, d_law]
def fnD : List He.DefD := fnD0
def faD0 : List He.Fa := [.glo "is_whole", .glo "is_number_of", .glo "is_row_of", .glo "need_row", .glo "is_twos_by", .glo "two_power", .glo "in_round_by", .glo "is_in_round", .glo "_law_begun", .glo "_law_mixed", .glo "_law_take", .glo "_law_pick", .glo "_law_caught", .glo "_law_kinds", .glo "_law_says", .glo "_law_day", .glo "_law_is_twos", .glo "_law_line", .glo "_law_two_power", .glo "_law_in_round", .glo "_law_row", .glo "_law_signs", .glo "_law_no_row", .glo "_law_right", .glo "law", .glo "BadOne", .exc "BadOne", .glo "BadOther", .exc "BadOther", .glo "BadRow"]
def faD1 : List He.Fa := [.exc "BadRow", .free "isinstance", .free "int", .free "bool", .free "tuple", .free "len", .free "all", .free "max", .free "range", .free "repr", .free "str", .free "list", .free "dict", .free "zip", .free "min", .free "set", .int "MOST_NUMBER" 999, .int "MOST_LONG" 24, .glo "RowError"]
def faD : List He.Fa := faD0 ++ faD1
def looseD0 : List Str := ["RowError", "BadOne", "BadOther", "BadRow", "MOST_NUMBER", "MOST_LONG", "is_whole", "is_number_of", "is_row_of", "need_row", "is_twos_by", "two_power", "in_round_by", "is_in_round", "_law_begun", "_law_mixed", "_law_take", "_law_pick", "_law_caught", "_law_kinds", "_law_says", "_law_day", "_law_is_twos", "_law_line", "_law_two_power", "_law_in_round", "_law_row", "_law_signs", "_law_no_row", "_law_right"]
def looseD : List Str := looseD0
abbrev RR : PySem.W.OpenRow := PySem.W.OpenLaw.row PySem.Challenge.rw_ringrows_k06_whole_rows_in_rounds
def tfD : List He.Defn := [("law", none)]
abbrev TTl (K : PySem.W.Frag) : List (Addr × Str) := [((He.cT K ("law", none)).2, (("law" : Str) ++ (".<locals>." : Str)) ++ ("<lambda>" : Str))]
abbrev hkD : PySem.W.Hook := He.hookX 4 faD fnD [] tfD (exsB EXN)
def obL (s : PySem.W.SharedT) : He.AlX := He.obsX 4 faD fnD [] tfD (exsB EXN) (HandSHeadRun.getT s)
theorem obL_eq (s : PySem.W.SharedT) : obL s = hkD.obs s.abs := He.obsX_eq (HandSHeadRun.getT_eq s)
theorem runL (w : World) : HandSHeadRun.RunEq RR (PySem.W.view RR.prog [36]) hkD obL 3300 looseD w := by
  intro os
  kernel_rfl
theorem facts {P : Program} {w : World} {K : PySem.W.Frag} {h : Heap} {mg : Str → Option Value} {f : Addr} (X : K.In h) (Gm : h.Ns mainGlobals mg) (hfa : mg ("law" : Str) = some (.ref f)) (cX : He.SaysX faD fnD [] tfD (exsB EXN) w h K) :
    ∃ fd : FuncData, (∀ (s : Shared) (v : Value), BindsTo s fd ⟨[v], []⟩ [("script", v)]) ∧ ∀ base : Heap, K.In base → base.Ns mainGlobals mg → LamX.TabB base mg (He.cT K ("law", none)).1 (He.cT K ("law", none)).2 → FnOk P w K mg base (L2.CX P w) 8 f fd ["script"] (spLaw K (TTl K)) := by
  have c := cX.t.d
  have T : Tx (He.ga K) K mg := {
    b_isinstance := He.free_ok X Gm (c.fact 31 (f := .free "isinstance") rfl)
    b_int := He.free_ok X Gm (c.fact 32 (f := .free "int") rfl)
    b_bool := He.free_ok X Gm (c.fact 33 (f := .free "bool") rfl)
    b_tuple := He.free_ok X Gm (c.fact 34 (f := .free "tuple") rfl)
    b_len := He.free_ok X Gm (c.fact 35 (f := .free "len") rfl)
    b_all := He.free_ok X Gm (c.fact 36 (f := .free "all") rfl)
    b_max := He.free_ok X Gm (c.fact 37 (f := .free "max") rfl)
    b_range := He.free_ok X Gm (c.fact 38 (f := .free "range") rfl)
    b_repr := He.free_ok X Gm (c.fact 39 (f := .free "repr") rfl)
    b_str := He.free_ok X Gm (c.fact 40 (f := .free "str") rfl)
    b_list := He.free_ok X Gm (c.fact 41 (f := .free "list") rfl)
    b_dict := He.free_ok X Gm (c.fact 42 (f := .free "dict") rfl)
    b_zip := He.free_ok X Gm (c.fact 43 (f := .free "zip") rfl)
    b_min := He.free_ok X Gm (c.fact 44 (f := .free "min") rfl)
    b_set := He.free_ok X Gm (c.fact 45 (f := .free "set") rfl)
    x_BadOne := exIn_of X Gm (c.fact 25 (f := .glo "BadOne") rfl) (c.fact 26 (f := .exc "BadOne") rfl)
    x_BadOther := exIn_of X Gm (c.fact 27 (f := .glo "BadOther") rfl) (c.fact 28 (f := .exc "BadOther") rfl)
    x_BadRow := exIn_of X Gm (c.fact 29 (f := .glo "BadRow") rfl) (c.fact 30 (f := .exc "BadRow") rfl)
    i_MOST_NUMBER := He.int_ok X Gm (c.fact 46 (f := .int "MOST_NUMBER" 999) rfl)
    i_MOST_LONG := He.int_ok X Gm (c.fact 47 (f := .int "MOST_LONG" 24) rfl)
    m_RowError := He.glo_ok X Gm (c.fact 48 (f := .glo "RowError") rfl)
    xE := exsB_E cX.more
    xM := exsB_M cX.more
    xK := exsB_K cX.more }
  obtain ⟨fd_is_whole, F_is_whole⟩ := c.def_ 0 (d := d_is_whole) rfl
  have D_is_whole : DefIn K mg "is_whole" "is_whole" s_is_whole ["thing"] := defIn_of X Gm (c.fact 0 (f := .glo "is_whole") rfl) F_is_whole fun _ _ _ _ _ _ us hl => match us, hl with | [_], _ => rfl
  obtain ⟨fd_is_number_of, F_is_number_of⟩ := c.def_ 1 (d := d_is_number_of) rfl
  have D_is_number_of : DefIn K mg "is_number_of" "is_number_of" s_is_number_of ["thing"] := defIn_of X Gm (c.fact 1 (f := .glo "is_number_of") rfl) F_is_number_of fun _ _ _ _ _ _ us hl => match us, hl with | [_], _ => rfl
  obtain ⟨fd_is_row_of, F_is_row_of⟩ := c.def_ 2 (d := d_is_row_of) rfl
  have D_is_row_of : DefIn K mg "is_row_of" "is_row_of" s_is_row_of ["thing"] := defIn_of X Gm (c.fact 2 (f := .glo "is_row_of") rfl) F_is_row_of fun _ _ _ _ _ _ us hl => match us, hl with | [_], _ => rfl
  obtain ⟨fd_need_row, F_need_row⟩ := c.def_ 3 (d := d_need_row) rfl
  have D_need_row : DefIn K mg "need_row" "need_row" s_need_row ["row", "word"] := defIn_of X Gm (c.fact 3 (f := .glo "need_row") rfl) F_need_row fun _ _ _ _ _ _ us hl => match us, hl with | [_, _], _ => rfl
  obtain ⟨fd_is_twos_by, F_is_twos_by⟩ := c.def_ 4 (d := d_is_twos_by) rfl
  have D_is_twos_by : DefIn K mg "is_twos_by" "is_twos_by" s_is_twos_by ["row"] := defIn_of X Gm (c.fact 4 (f := .glo "is_twos_by") rfl) F_is_twos_by fun _ _ _ _ _ _ us hl => match us, hl with | [_], _ => rfl
  obtain ⟨fd_two_power, F_two_power⟩ := c.def_ 5 (d := d_two_power) rfl
  have D_two_power : DefIn K mg "two_power" "two_power" s_two_power ["many"] := defIn_of X Gm (c.fact 5 (f := .glo "two_power") rfl) F_two_power fun _ _ _ _ _ _ us hl => match us, hl with | [_], _ => rfl
  obtain ⟨fd_in_round_by, F_in_round_by⟩ := c.def_ 6 (d := d_in_round_by) rfl
  have D_in_round_by : DefIn K mg "in_round_by" "in_round_by" s_in_round_by ["row"] := defIn_of X Gm (c.fact 6 (f := .glo "in_round_by") rfl) F_in_round_by fun _ _ _ _ _ _ us hl => match us, hl with | [_], _ => rfl
  obtain ⟨fd_is_in_round, F_is_in_round⟩ := c.def_ 7 (d := d_is_in_round) rfl
  have D_is_in_round : DefIn K mg "is_in_round" "is_in_round" s_is_in_round ["row"] := defIn_of X Gm (c.fact 7 (f := .glo "is_in_round") rfl) F_is_in_round fun _ _ _ _ _ _ us hl => match us, hl with | [_], _ => rfl
  obtain ⟨fd__law_begun, F__law_begun⟩ := c.def_ 8 (d := d__law_begun) rfl
  have D__law_begun : DefIn K mg "_law_begun" "_law_begun" s__law_begun ["script"] := defIn_of X Gm (c.fact 8 (f := .glo "_law_begun") rfl) F__law_begun fun _ _ _ _ _ _ us hl => match us, hl with | [_], _ => rfl
  obtain ⟨fd__law_mixed, F__law_mixed⟩ := c.def_ 9 (d := d__law_mixed) rfl
  have D__law_mixed : DefIn K mg "_law_mixed" "_law_mixed" s__law_mixed ["draw"] := defIn_of X Gm (c.fact 9 (f := .glo "_law_mixed") rfl) F__law_mixed fun _ _ _ _ _ _ us hl => match us, hl with | [_], _ => rfl
  obtain ⟨fd__law_take, F__law_take⟩ := c.def_ 10 (d := d__law_take) rfl
  have D__law_take : DefIn K mg "_law_take" "_law_take" s__law_take ["draw", "amount"] := defIn_of X Gm (c.fact 10 (f := .glo "_law_take") rfl) F__law_take fun _ _ _ _ _ _ us hl => match us, hl with | [_, _], _ => rfl
  obtain ⟨fd__law_pick, F__law_pick⟩ := c.def_ 11 (d := d__law_pick) rfl
  have D__law_pick : DefIn K mg "_law_pick" "_law_pick" s__law_pick ["draw", "items"] := defIn_of X Gm (c.fact 11 (f := .glo "_law_pick") rfl) F__law_pick fun _ _ _ _ _ _ us hl => match us, hl with | [_, _], _ => rfl
  obtain ⟨fd__law_caught, F__law_caught⟩ := c.def_ 12 (d := d__law_caught) rfl
  have D__law_caught : DefIn K mg "_law_caught" "_law_caught" s__law_caught ["work"] := defIn_of X Gm (c.fact 12 (f := .glo "_law_caught") rfl) F__law_caught fun _ _ _ _ _ _ us hl => match us, hl with | [_], _ => rfl
  obtain ⟨fd__law_kinds, F__law_kinds⟩ := c.def_ 13 (d := d__law_kinds) rfl
  have D__law_kinds : DefIn K mg "_law_kinds" "_law_kinds" s__law_kinds ["thing"] := defIn_of X Gm (c.fact 13 (f := .glo "_law_kinds") rfl) F__law_kinds fun _ _ _ _ _ _ us hl => match us, hl with | [_], _ => rfl
  obtain ⟨fd__law_says, F__law_says⟩ := c.def_ 14 (d := d__law_says) rfl
  have D__law_says : DefIn K mg "_law_says" "_law_says" s__law_says ["told", "due"] := defIn_of X Gm (c.fact 14 (f := .glo "_law_says") rfl) F__law_says fun _ _ _ _ _ _ us hl => match us, hl with | [_, _], _ => rfl
  obtain ⟨fd__law_day, F__law_day⟩ := c.def_ 15 (d := d__law_day) rfl
  have D__law_day : DefIn K mg "_law_day" "_law_day" s__law_day ["row"] := defIn_of X Gm (c.fact 15 (f := .glo "_law_day") rfl) F__law_day fun _ _ _ _ _ _ us hl => match us, hl with | [_], _ => rfl
  obtain ⟨fd__law_is_twos, F__law_is_twos⟩ := c.def_ 16 (d := d__law_is_twos) rfl
  have D__law_is_twos : DefIn K mg "_law_is_twos" "_law_is_twos" s__law_is_twos ["row"] := defIn_of X Gm (c.fact 16 (f := .glo "_law_is_twos") rfl) F__law_is_twos fun _ _ _ _ _ _ us hl => match us, hl with | [_], _ => rfl
  obtain ⟨fd__law_line, F__law_line⟩ := c.def_ 17 (d := d__law_line) rfl
  have D__law_line : DefIn K mg "_law_line" "_law_line" s__law_line ["row"] := defIn_of X Gm (c.fact 17 (f := .glo "_law_line") rfl) F__law_line fun _ _ _ _ _ _ us hl => match us, hl with | [_], _ => rfl
  obtain ⟨fd__law_two_power, F__law_two_power⟩ := c.def_ 18 (d := d__law_two_power) rfl
  have D__law_two_power : DefIn K mg "_law_two_power" "_law_two_power" s__law_two_power ["many"] := defIn_of X Gm (c.fact 18 (f := .glo "_law_two_power") rfl) F__law_two_power fun _ _ _ _ _ _ us hl => match us, hl with | [_], _ => rfl
  obtain ⟨fd__law_in_round, F__law_in_round⟩ := c.def_ 19 (d := d__law_in_round) rfl
  have D__law_in_round : DefIn K mg "_law_in_round" "_law_in_round" s__law_in_round ["row"] := defIn_of X Gm (c.fact 19 (f := .glo "_law_in_round") rfl) F__law_in_round fun _ _ _ _ _ _ us hl => match us, hl with | [_], _ => rfl
  obtain ⟨fd__law_row, F__law_row⟩ := c.def_ 20 (d := d__law_row) rfl
  have D__law_row : DefIn K mg "_law_row" "_law_row" s__law_row ["draw", "most"] := defIn_of X Gm (c.fact 20 (f := .glo "_law_row") rfl) F__law_row fun _ _ _ _ _ _ us hl => match us, hl with | [_, _], _ => rfl
  obtain ⟨fd__law_signs, F__law_signs⟩ := c.def_ 21 (d := d__law_signs) rfl
  have D__law_signs : DefIn K mg "_law_signs" "_law_signs" s__law_signs ["draw", "many"] := defIn_of X Gm (c.fact 21 (f := .glo "_law_signs") rfl) F__law_signs fun _ _ _ _ _ _ us hl => match us, hl with | [_, _], _ => rfl
  obtain ⟨fd__law_no_row, F__law_no_row⟩ := c.def_ 22 (d := d__law_no_row) rfl
  have D__law_no_row : DefIn K mg "_law_no_row" "_law_no_row" s__law_no_row ["draw"] := defIn_of X Gm (c.fact 22 (f := .glo "_law_no_row") rfl) F__law_no_row fun _ _ _ _ _ _ us hl => match us, hl with | [_], _ => rfl
  obtain ⟨fd__law_right, F__law_right⟩ := c.def_ 23 (d := d__law_right) rfl
  have D__law_right : DefIn K mg "_law_right" "_law_right" s__law_right ["draw"] := defIn_of X Gm (c.fact 23 (f := .glo "_law_right") rfl) F__law_right fun _ _ _ _ _ _ us hl => match us, hl with | [_], _ => rfl
  obtain ⟨fd_law, F_law⟩ := c.def_ 24 (d := d_law) rfl
  have e := hfa.symm.trans (He.glo_ok X Gm (c.fact 24 (f := .glo "law") rfl))
  cases e
  have b := FunD.bindsA (ps := ["script"]) F_law fun _ _ _ _ _ _ us hl => match us, hl with | [_], _ => rfl
  refine ⟨fd_law, fun s v => b s [v] rfl, fun base _ _ TB => ?_⟩
  have CF_is_whole : CalF P w K (TTl K) mg base 1 "is_whole" "is_whole" s_is_whole ["thing"] (c_is_whole (He.ga K)) := ok_is_whole T D_is_whole
  have C_is_whole := CF_is_whole.toD
  have CF_is_number_of : CalF P w K (TTl K) mg base 2 "is_number_of" "is_number_of" s_is_number_of ["thing"] (c_is_number_of (He.ga K)) := ok_is_number_of T D_is_number_of C_is_whole
  have C_is_number_of := CF_is_number_of.toD
  have CF_is_row_of : CalF P w K (TTl K) mg base 3 "is_row_of" "is_row_of" s_is_row_of ["thing"] (c_is_row_of (He.ga K)) := ok_is_row_of T D_is_row_of C_is_number_of
  have C_is_row_of := CF_is_row_of.toD
  have CF_need_row : CalF P w K (TTl K) mg base 4 "need_row" "need_row" s_need_row ["row", "word"] (c_need_row (He.ga K)) := ok_need_row T D_need_row C_is_row_of
  have C_need_row := CF_need_row.toD
  have CF_is_twos_by : CalF P w K (TTl K) mg base 1 "is_twos_by" "is_twos_by" s_is_twos_by ["row"] (c_is_twos_by (He.ga K)) := ok_is_twos_by T D_is_twos_by
  have C_is_twos_by := CF_is_twos_by.toD
  have CF_two_power : CalF P w K (TTl K) mg base 1 "two_power" "two_power" s_two_power ["many"] (c_two_power (He.ga K)) := ok_two_power T D_two_power
  have C_two_power := CF_two_power.toD
  have CF_in_round_by : CalF P w K (TTl K) mg base 2 "in_round_by" "in_round_by" s_in_round_by ["row"] (c_in_round_by (He.ga K)) := ok_in_round_by T D_in_round_by C_two_power C_is_twos_by
  have C_in_round_by := CF_in_round_by.toD
  have CF_is_in_round : CalF P w K (TTl K) mg base 5 "is_in_round" "is_in_round" s_is_in_round ["row"] (c_is_in_round (He.ga K)) := ok_is_in_round T D_is_in_round C_need_row C_in_round_by
  have C_is_in_round := CF_is_in_round.toD
  have CF__law_begun : CalF P w K (TTl K) mg base 1 "_law_begun" "_law_begun" s__law_begun ["script"] (c__law_begun (He.ga K)) := ok__law_begun T D__law_begun
  have C__law_begun := CF__law_begun.toD
  obtain ⟨fM, fdM, FM, mM, bM⟩ := D__law_mixed.ex
  have GM : FnOk P w K mg base (L2.CX P w) 1 fM fdM ["draw"] spMixed := ok_mixed FM T.b_int
  obtain ⟨fT, fdT, FT, mT, bT⟩ := D__law_take.ex
  have C__law_take : CalD P w K (TTl K) mg base 2 "_law_take" (c__law_take (He.ga K)) := take_D (ok_take FT T.b_int GM mM FM.kp bM) mT FT.kp bT take_sp
  have CF__law_pick : CalF P w K (TTl K) mg base 3 "_law_pick" "_law_pick" s__law_pick ["draw", "items"] (c__law_pick (He.ga K)) := ok__law_pick T D__law_pick C__law_take
  have C__law_pick := CF__law_pick.toD
  have CF__law_kinds : CalF P w K (TTl K) mg base 1 "_law_kinds" "_law_kinds" s__law_kinds ["thing"] (c__law_kinds (He.ga K)) := ok__law_kinds T D__law_kinds
  have C__law_kinds := CF__law_kinds.toD
  have CF__law_says : CalF P w K (TTl K) mg base 2 "_law_says" "_law_says" s__law_says ["told", "due"] (c__law_says (He.ga K)) := ok__law_says T D__law_says C__law_kinds
  have C__law_says := CF__law_says.toD
  have CF__law_day : CalF P w K (TTl K) mg base 1 "_law_day" "_law_day" s__law_day ["row"] (c__law_day (He.ga K)) := ok__law_day T D__law_day
  have C__law_day := CF__law_day.toD
  have CF__law_is_twos : CalF P w K (TTl K) mg base 1 "_law_is_twos" "_law_is_twos" s__law_is_twos ["row"] (c__law_is_twos (He.ga K)) := ok__law_is_twos T D__law_is_twos
  have C__law_is_twos := CF__law_is_twos.toD
  have CF__law_line : CalF P w K (TTl K) mg base 2 "_law_line" "_law_line" s__law_line ["row"] (c__law_line (He.ga K)) := ok__law_line T D__law_line C__law_day
  have C__law_line := CF__law_line.toD
  have CF__law_two_power : CalF P w K (TTl K) mg base 1 "_law_two_power" "_law_two_power" s__law_two_power ["many"] (c__law_two_power (He.ga K)) := ok__law_two_power T D__law_two_power
  have C__law_two_power := CF__law_two_power.toD
  have CF__law_in_round : CalF P w K (TTl K) mg base 2 "_law_in_round" "_law_in_round" s__law_in_round ["row"] (c__law_in_round (He.ga K)) := ok__law_in_round T D__law_in_round C__law_two_power C__law_is_twos
  have C__law_in_round := CF__law_in_round.toD
  have CF__law_row : CalF P w K (TTl K) mg base 4 "_law_row" "_law_row" s__law_row ["draw", "most"] (c__law_row (He.ga K)) := ok__law_row T D__law_row C__law_take C__law_pick
  have C__law_row := CF__law_row.toD
  have CF__law_signs : CalF P w K (TTl K) mg base 3 "_law_signs" "_law_signs" s__law_signs ["draw", "many"] (c__law_signs (He.ga K)) := ok__law_signs T D__law_signs C__law_take
  have C__law_signs := CF__law_signs.toD
  have CF__law_no_row : CalF P w K (TTl K) mg base 4 "_law_no_row" "_law_no_row" s__law_no_row ["draw"] (c__law_no_row (He.ga K)) := ok__law_no_row T D__law_no_row C__law_pick
  have C__law_no_row := CF__law_no_row.toD
  have CF__law_right : CalF P w K (TTl K) mg base 6 "_law_right" "_law_right" s__law_right ["draw"] (c__law_right (He.ga K)) := ok__law_right T D__law_right C__law_row C__law_line C__law_says C_is_in_round C__law_in_round C__law_take C__law_signs C__law_two_power CF_is_in_round
  have C__law_right := CF__law_right.toD
  exact ok_law T F_law C__law_begun C__law_says C_is_in_round C__law_take C__law_line C__law_right C__law_no_row D__law_caught (code_of (x := "law") F_law) TB List.mem_cons_self (fun p hp _ => by rw [List.mem_singleton.mp hp])
end RP
open PySem PySem.W PySem.Calls PyProof.Rows
theorem PySem.Challenge.cw_ringrows_k06_whole_rows_in_rounds_holds : PySem.Challenge.rw_ringrows_k06_whole_rows_in_rounds.Holds := by
  w_on; o_law
  refine HandSHeadRun.head_any (r := OpenLaw.row PySem.Challenge.rw_ringrows_k06_whole_rows_in_rounds) (q := view (OpenLaw.row PySem.Challenge.rw_ringrows_k06_whole_rows_in_rounds).prog [36]) (H := RP.hkD) (ob := RP.obL) (M := 3300) (loose := RP.looseD) (d := HandSHeadRun.topDef (OpenLaw.row PySem.Challenge.rw_ringrows_k06_whole_rows_in_rounds).prog 36) (kwd := []) RP.obL_eq
    (by kernel_rfl) (fun s => by kernel_rfl) RP.runL (by kernel_rfl) (by kernel_rfl) (by kernel_rfl) (by rfl) (by first | assumption | decide +kernel) (by decide +kernel) ⟨rfl, rfl, rfl, rfl, rfl, by decide +kernel⟩ ?hw ?hc
  case hw => w_witness2
  case hc =>
    refine PL.walk_TB (l := PySem.Challenge.rw_ringrows_k06_whole_rows_in_rounds) (k := 8) rfl (by kernel_rfl) ⟨rfl, by decide, by decide⟩ ?F
    intro w mg fa h Y Gm hmg0
    obtain ⟨K, KX, c⟩ := Y
    have hmg : mg ("law" : PySem.Str) = some (.ref fa) := by
      have e : (HandSHeadRun.topDef (OpenLaw.row PySem.Challenge.rw_ringrows_k06_whole_rows_in_rounds).prog 36).name = ("law" : PySem.Str) := by kernel_rfl
      rw [← e]
      exact hmg0
    obtain ⟨fd, hb, hF⟩ := RP.facts (P := (PySem.Challenge.rw_ringrows_k06_whole_rows_in_rounds).prog) (w := w) KX Gm hmg c
    refine ⟨K, fd, RP.tfD.map (He.cT K), RP.TTl K, KX, fun p hp => ?_, fun p hp => ?_, fun p hp => ?_, hb, fun t ht => ?_, fun base k1 k2 k3 => hF base k1 k2 (k3 _ (List.mem_map.mpr ⟨_, List.mem_cons_self, rfl⟩))⟩
    · obtain ⟨q, hq, rfl⟩ := List.mem_map.mp hp
      exact c.empty q hq
    · obtain ⟨q, hq, rfl⟩ := List.mem_map.mp hp
      exact c.out q hq
    · obtain ⟨q, hq, rfl⟩ := List.mem_map.mp hp
      exact PySem.W.codeHd_of_K KX (c.hd q hq)
    · cases List.mem_singleton.mp ht
      exact ⟨_, List.mem_map.mpr ⟨_, List.mem_cons_self, rfl⟩, rfl⟩
