import PyProof.Rows.All
import Wide.All
import OpenK.AllK
import Wide.FinOn
import HandS.ForMost
import HandS.ForExc
import HandS.Deep
import HandS.Style
import HandS.Conv
import HandS.IsInst
import HandS.Flow
import HandS.Wide
import HandS.TupAny
import HandS.TupMul
import HandS.Rev
import HandS.Zip
import HandS.Star
import HandS.DictComp
import KE.DataMinMax
import KE.SortData
import KE.DataEq
import HandS.AnyAll
import HandS.GenList
import PyProof.TupleOfGen
import HandS.RevTup
import PyProof.Draws
import HandS.EndOwn
import KE.SortCalls
import PyProof.TupleOfSeq
import HandS.NoneIn
import HandS.WordsDict
import KE.KRevSl
import HandS.ExcOwn
import HandS.ExcCtx
import HandS.HotCalls
import HandS.ExcIs
import HandS.Gcd
import HandS.SetFor
import HandS.TupSets
import PySem.Challenge.RW_bucketsheld_k33_whole_tiredness_and_call
set_option Elab.async false
set_option linter.all false
set_option maxRecDepth 100000
/-! VL0: values without a heap (PyData), the state's relation to them, readings of value-level transformers. -/
namespace VL
open PySem PySem.Spec PyProof.Rows L2
/-- a row's tables; the draws' kind: a list of numbers, or (m2) turn, rest and cells -/
structure Tau where
  ps : List Addr
  m2 : Bool
def Tau.has (τ : Tau) (b : Addr) : Prop := b ∈ τ.ps
instance : Membership Addr Tau := ⟨fun τ b => τ.has b⟩
theorem Tau.mem {b : Addr} {ps : List Addr} {m : Bool} (h : b ∈ ps) : b ∈ Tau.mk ps m := h
theorem Tau.mem' {b : Addr} {ps : List Addr} {m : Bool} (h : b ∈ Tau.mk ps m) : b ∈ ps := h
variable {τ : Tau}

/-- what a local name holds, by value: a value that is never changed, an owned list, an owned dict, the draws, the script -/
inductive Slot where
  | fz (d : PyData)
  | ol (ds : List PyData)
  | od (kvs : List (Key × PyData))
  | ot (kvs : List (List Key × PyData))
  | dr
  | sc (ns : List Int)
  | ex (a : Addr)
@[simp ↓] def Slot.owns : Slot → Bool
  | .fz _ => false
  | .sc _ => false
  | .ex _ => false
  | _ => true
abbrev PEnv := List (Option Slot)
/-- a def's entry: the heap, what is frozen, the draws' address; what is kept aside for now (a list that a comprehension fills) -/
structure Root (τ : Tau) where
  H0 : Hp
  F0 : Hp
  d : Option Addr
  keep : Hp := fun _ => none
abbrev rt (H F : Hp) (d : Option Addr) : Root τ := ⟨H, F, d, fun _ => none⟩
def isTbl : HO → Bool
  | .tbl _ => true
  | _ => false
def isTup : HO → Bool
  | .tup _ => true
  | _ => false
def fzk : HO → Bool
  | .lst _ => true
  | .tup _ => true
  | .frz _ _ => true
  | _ => false
theorem fzk_tbl {o : HO} (h : fzk o = true) : isTbl o = false := by cases o <;> first | rfl | cases h
def DrawOk (n : Int) : Prop := 0 ≤ n ∧ n < 2147483648
/-- the draws' object -/
def DrB (τ : Tau) (F : Hp) (o : HO) : Prop := isTbl o = false ∧ match τ.m2 with
  | false => ∃ ns : List Int, o = .lst (ns.map V.int) ∧ ∀ n ∈ ns, DrawOk n
  | true => ∃ (t l : Int) (c : Addr) (cs : List Int), o = .lst [.int t, .int l, .ref c] ∧ 0 ≤ t ∧ 0 ≤ l ∧ F c = some (.lst (cs.map V.int)) ∧ cs ≠ [] ∧ cs.length ≤ 64 ∧ ∀ n ∈ cs, 0 ≤ n
theorem DrB.mono {F F' : Hp} {o : HO} (e : Same F F') (h : DrB τ F o) : DrB τ F' o := by
  obtain ⟨ps, m⟩ := τ
  obtain ⟨h0, h⟩ := h
  refine ⟨h0, ?_⟩
  cases m with
  | false => exact h
  | true =>
    obtain ⟨t, l, c, cs, h1, h2, h3, h4, h5⟩ := h
    exact ⟨t, l, c, cs, h1, h2, h3, e _ _ h4, h5⟩
theorem DrB.nt {F : Hp} {o : HO} (h : DrB τ F o) : isTup o = false := by
  obtain ⟨ps, m⟩ := τ
  obtain ⟨h0, h⟩ := h
  cases m with
  | false => obtain ⟨ns, h1, _⟩ := h; rw [h1]; rfl
  | true => obtain ⟨t, l, c, cs, h1, _⟩ := h; rw [h1]; rfl
theorem DrB.one {F : Hp} {o : HO} (hm : τ.m2 = false) (h : DrB τ F o) : ∃ ns : List Int, o = .lst (ns.map V.int) ∧ ∀ n ∈ ns, DrawOk n := by
  obtain ⟨ps, m⟩ := τ
  cases m with
  | false => exact h.2
  | true => cases hm
theorem DrB.mk1 {F : Hp} {ns : List Int} (hm : τ.m2 = false) (h : ∀ n ∈ ns, DrawOk n) : DrB τ F (.lst (ns.map V.int)) := by
  obtain ⟨ps, m⟩ := τ
  cases m with
  | false => exact ⟨rfl, ns, rfl, h⟩
  | true => cases hm
theorem DrB.two {F : Hp} {o : HO} (hm : τ.m2 = true) (h : DrB τ F o) : ∃ (t l : Int) (c : Addr) (cs : List Int), o = .lst [.int t, .int l, .ref c] ∧ 0 ≤ t ∧ 0 ≤ l ∧ F c = some (.lst (cs.map V.int)) ∧ cs ≠ [] ∧ cs.length ≤ 64 ∧ ∀ n ∈ cs, 0 ≤ n := by
  obtain ⟨ps, m⟩ := τ
  cases m with
  | true => exact h.2
  | false => cases hm
theorem DrB.mk2 {F : Hp} {t l : Int} {c : Addr} {cs : List Int} (hm : τ.m2 = true) (h1 : 0 ≤ t) (h2 : 0 ≤ l) (h3 : F c = some (.lst (cs.map V.int))) (h4 : cs ≠ []) (h5 : cs.length ≤ 64) (h6 : ∀ n ∈ cs, 0 ≤ n) : DrB τ F (.lst [.int t, .int l, .ref c]) := by
  obtain ⟨ps, m⟩ := τ
  cases m with
  | true => exact ⟨rfl, t, l, c, cs, rfl, h1, h2, h3, h4, h5, h6⟩
  | false => cases hm
def TabsOk (τ : Tau) (H : Hp) : Prop := ∀ b, b ∈ τ → ∀ ps, H b = some (.tbl ps) → TriplesOk ps.toList
structure Base (R : Root τ) (F H : Hp) : Prop where
  ext : Same R.F0 F
  sub : Same F H
  frame : ∀ b o, R.H0 b = some o → isTbl o = false → R.d ≠ some b → H b = some o
  tabs : ∀ b ps, R.H0 b = some (.tbl ps) → ∃ more, H b = some (.tbl (ps ++ more))
  tok : TabsOk τ H
  new : ∀ b o, F b = some o → R.F0 b = some o ∨ R.H0 b = none ∨ isTup o = true
  kt : ∀ a o, R.keep a = some o → isTup o = false
  kind : ∀ b o, F b = some o → fzk o = true
  drw : ∀ a, R.d = some a → F a = none ∧ (∃ o, R.H0 a = some o) ∧ ∃ o, H a = some o ∧ DrB τ F o
  kp : ∀ a o, R.keep a = some o → H a = some o ∧ F a = none ∧ isTbl o = false ∧ R.H0 a = none
  has : ∀ P ∈ τ, ∃ ps, H P = some (.tbl ps)
/-- a tuple that a run has made -/
def TupF (K : PySem.W.Frag) (F : Hp) (a : Addr) (xs : List V) : Prop := F a = some (.tup xs)
theorem TupF.sq {K : PySem.W.Frag} {F : Hp} {a : Addr} {xs : List V} (h : TupF K F a xs) : SqT K F a xs := .inl (.inl h)
theorem TupF.mono {K : PySem.W.Frag} {F F' : Hp} {a : Addr} {xs : List V} (e : Same F F') (h : TupF K F a xs) : TupF K F' a xs := e _ _ h
mutual
/-- v stands for the datum d: its tuples are made by the run, its lists are frozen -/
inductive Rp (K : PySem.W.Frag) (F : Hp) : V → PyData → Prop
  | non : Rp K F .non .none
  | bl (b : Bool) : Rp K F (.bl b) (.bool b)
  | int (i : Int) : Rp K F (.int i) (.int i)
  | str (x : Str) : Rp K F (.str x) (.str x)
  | lst {a : Addr} {xs : List V} {ds : List PyData} : F a = some (.lst xs) → RpL K F xs ds → Rp K F (.ref a) (.list ds)
  | tup {a : Addr} {xs : List V} {ds : List PyData} : TupF K F a xs → RpL K F xs ds → Rp K F (.ref a) (.tuple ds)
inductive RpL (K : PySem.W.Frag) (F : Hp) : List V → List PyData → Prop
  | nil : RpL K F [] []
  | cons {v : V} {vs : List V} {d : PyData} {ds : List PyData} : Rp K F v d → RpL K F vs ds → RpL K F (v :: vs) (d :: ds)
end
def Own (R : Root τ) (F : Hp) (a : Addr) : Prop := F a = none ∧ R.H0 a = none ∧ R.keep a = none
def KVs (K : PySem.W.Frag) (F : Hp) {κ : Type} : List (κ × V) → List (κ × PyData) → Prop := Paired fun (p : κ × V) (q : κ × PyData) => p.1 = q.1 ∧ Rp K F p.2 q.2
def SlotOk (K : PySem.W.Frag) (R : Root τ) (F H : Hp) (x : V) : Slot → Prop
  | .fz d => Rp K F x d
  | .ol ds => ∃ a xs, x = .ref a ∧ Own R F a ∧ H a = some (.lst xs) ∧ RpL K F xs ds
  | .od kvs => ∃ a ys, x = .ref a ∧ Own R F a ∧ H a = some (.dK ys) ∧ KVs K F ys kvs ∧ (kvs.map (·.1)).Nodup
  | .ot kvs => ∃ a ys, x = .ref a ∧ Own R F a ∧ H a = some (.dT ys) ∧ KVs K F ys kvs ∧ (kvs.map (·.1)).Nodup
  | .dr => ∃ a, x = .ref a ∧ (F a = none ∧ R.keep a = none) ∧ (R.H0 a = none ∨ R.d = some a) ∧ ∃ o, H a = some o ∧ DrB τ F o
  | .sc ns => ∃ a, x = .ref a ∧ SqL K F a (ns.map V.int)
  | .ex a => x = .ref a
structure Rel (K : PySem.W.Frag) (R : Root τ) (F : Hp) (env : PEnv) (σ : L2.St) (H : Hp) : Prop extends Base R F H where
  len : σ.length = env.length
  sl : ∀ (i : Nat) (s : Slot), env[i]? = some (some s) → ∃ x : V, σ[i]? = some (some x) ∧ SlotOk K R F H x s
  dis : ∀ (i j : Nat) (s t : Slot) (a : Addr), i ≠ j → env[i]? = some (some s) → s.owns = true → env[j]? = some (some t) → t.owns = true → σ[i]? = some (some (.ref a)) → σ[j]? ≠ some (some (.ref a))

section mono
variable {K : PySem.W.Frag} {H H' : Hp}
theorem seqT_mono {a : Addr} {xs : List V} (e : Same H H') (h : SqT K H a xs) : SqT K H' a xs := by
  rcases h with (h | ⟨o, h⟩) | h
  · exact .inl (.inl (e _ _ h))
  · exact .inl (.inr ⟨o, e _ _ h⟩)
  · exact .inr h
mutual
theorem rp_mono (e : Same H H') : ∀ (d : PyData) (v : V), Rp K H v d → Rp K H' v d
  | .none, _, h => by cases h; exact .non
  | .bool b, _, h => by cases h; exact .bl b
  | .int i, _, h => by cases h; exact .int i
  | .str x, _, h => by cases h; exact .str x
  | .list ds, _, h => by
    cases h with
    | lst hs ha => exact .lst (e _ _ hs) (rpL_mono e ds _ ha)
  | .tuple ds, _, h => by
    cases h with
    | tup hs ha => exact .tup (hs.mono e) (rpL_mono e ds _ ha)
  | .dict _, _, h => by cases h
theorem rpL_mono (e : Same H H') : ∀ (ds : List PyData) (vs : List V), RpL K H vs ds → RpL K H' vs ds
  | [], _, h => by cases h; exact .nil
  | d :: ds, _, h => by
    cases h with
    | cons h1 h2 => exact .cons (rp_mono e d _ h1) (rpL_mono e ds _ h2)
end
mutual
theorem Rp.dp (e : Same H H') : ∀ (d : PyData) (v : V), Rp K H v d → Dp K H' v d
  | .none, _, h => by cases h; exact .non
  | .bool b, _, h => by cases h; exact .bl b
  | .int i, _, h => by cases h; exact .int i
  | .str x, _, h => by cases h; exact .str x
  | .list ds, _, h => by
    cases h with
    | lst hs ha => exact .lst (.inl (.inl (e _ _ hs))) (RpL.dp e ds _ ha)
  | .tuple ds, _, h => by
    cases h with
    | tup hs ha => exact .tup (seqT_mono e hs.sq) (RpL.dp e ds _ ha)
  | .dict _, _, h => by cases h
theorem RpL.dp (e : Same H H') : ∀ (ds : List PyData) (vs : List V), RpL K H vs ds → DpAll K H' vs ds
  | [], _, h => by cases h; exact .nil
  | d :: ds, _, h => by
    cases h with
    | cons h1 h2 => exact .cons (Rp.dp e d _ h1) (RpL.dp e ds _ h2)
end
theorem RpL.length : ∀ {xs : List V} {ds : List PyData}, RpL K H xs ds → xs.length = ds.length
  | _, _, .nil => rfl
  | _, _, .cons _ t => congrArg (· + 1) (RpL.length t)
theorem RpL.append : ∀ {xs ys : List V} {ds es : List PyData}, RpL K H xs ds → RpL K H ys es → RpL K H (xs ++ ys) (ds ++ es)
  | _, _, _, _, .nil, s => s
  | _, _, _, _, .cons r t, s => .cons r (RpL.append t s)
theorem RpL.get : ∀ {xs : List V} {ds : List PyData} {i : Nat} {x : V}, RpL K H xs ds → xs[i]? = some x → ∃ d, ds[i]? = some d ∧ Rp K H x d
  | _, _, _, _, .nil, e => by simp at e
  | _, _, 0, _, .cons r _, e => by simp at e; subst e; exact ⟨_, rfl, r⟩
  | _, _, i + 1, x, .cons _ t, e => by
    obtain ⟨u, h1, h2⟩ := RpL.get (i := i) (x := x) t (by simpa using e)
    exact ⟨u, by simpa using h1, h2⟩
theorem RpL.get' : ∀ {xs : List V} {ds : List PyData} {i : Nat} {d : PyData}, RpL K H xs ds → ds[i]? = some d → ∃ x, xs[i]? = some x ∧ Rp K H x d
  | _, _, _, _, .nil, e => by simp at e
  | _, _, 0, _, .cons r _, e => by simp at e; subst e; exact ⟨_, rfl, r⟩
  | _, _, i + 1, x, .cons _ t, e => by
    obtain ⟨u, h1, h2⟩ := RpL.get' (i := i) t (by simpa using e)
    exact ⟨u, by simpa using h1, h2⟩
theorem RpL.set {x : V} {d : PyData} (r : Rp K H x d) : ∀ {xs : List V} {ds : List PyData} (i : Nat), RpL K H xs ds → RpL K H (xs.set i x) (ds.set i d)
  | _, _, _, .nil => .nil
  | _, _, 0, .cons _ t => .cons r t
  | _, _, i + 1, .cons q t => .cons q (RpL.set r i t)
theorem RpL.take : ∀ {xs : List V} {ds : List PyData} (n : Nat), RpL K H xs ds → RpL K H (xs.take n) (ds.take n)
  | _, _, 0, _ => .nil
  | _, _, _ + 1, .nil => .nil
  | _, _, n + 1, .cons r t => .cons r (RpL.take n t)
theorem RpL.drop : ∀ {xs : List V} {ds : List PyData} (n : Nat), RpL K H xs ds → RpL K H (xs.drop n) (ds.drop n)
  | _, _, 0, r => r
  | _, _, _ + 1, .nil => .nil
  | _, _, n + 1, .cons _ t => RpL.drop n t
theorem RpL.reverse : ∀ {xs : List V} {ds : List PyData}, RpL K H xs ds → RpL K H xs.reverse ds.reverse
  | _, _, .nil => .nil
  | _, _, .cons r t => by simp only [List.reverse_cons]; exact (RpL.reverse t).append (.cons r .nil)
theorem rpL_ints : ∀ (ns : List Int), RpL K H (ns.map V.int) (ns.map PyData.int)
  | [] => .nil
  | n :: ns => .cons (.int n) (rpL_ints ns)
theorem ints_of : ∀ (ns : List Int) {xs : List V}, RpL K H xs (ns.map PyData.int) → xs = ns.map V.int
  | [], _, h => by cases h; rfl
  | n :: ns, _, h => by
    cases h with
    | cons a t => cases a; rw [ints_of ns t]; rfl
theorem kvs_mono {κ : Type} (e : Same H H') {l : List (κ × V)} {m : List (κ × PyData)} (h : KVs K H l m) : KVs K H' l m :=
  Paired.mapP h fun p q z => ⟨z.1, rp_mono e _ _ z.2⟩
end mono

section base
variable {K : PySem.W.Frag} {R : Root τ} {F F' H H' : Hp} {env : PEnv} {σ : L2.St}
/-- an owned slot stands at an address -/
theorem SlotOk.addr {x : V} {s : Slot} (h : SlotOk K R F H x s) (o : s.owns = true) : ∃ a, x = .ref a ∧ (F a = none ∧ R.keep a = none) ∧ (R.H0 a = none ∨ R.d = some a) ∧ ∃ ob, H a = some ob ∧ isTbl ob = false := by
  cases s with
  | fz d => cases o
  | sc ns => cases o
  | ex a => cases o
  | ol ds => obtain ⟨a, xs, e, ow, h1, _⟩ := h; exact ⟨a, e, ⟨ow.1, ow.2.2⟩, .inl ow.2.1, _, h1, rfl⟩
  | od kvs => obtain ⟨a, xs, e, ow, h1, _⟩ := h; exact ⟨a, e, ⟨ow.1, ow.2.2⟩, .inl ow.2.1, _, h1, rfl⟩
  | ot kvs => obtain ⟨a, xs, e, ow, h1, _⟩ := h; exact ⟨a, e, ⟨ow.1, ow.2.2⟩, .inl ow.2.1, _, h1, rfl⟩
  | dr => obtain ⟨a, e, hF, h0, ob, h1, h2⟩ := h; exact ⟨a, e, hF, h0, _, h1, h2.1⟩
/-- behind a step that keeps all that stood (the tables grow) -/
theorem SlotOk.up {x : V} {s : Slot} (h : SlotOk K R F H x s) (b : Base (rt (τ := τ) H F none) F' H') (ff : Same F F') : SlotOk K R F' H' x s := by
  have hF : ∀ a o, F a = none → H a = some o → isTbl o = false → isTup o = false → F' a = none := fun a o h1 h2 h3 h4 => by
    cases q : F' a with
    | none => rfl
    | some u =>
      rcases b.new a u q with z | z | z
      · have z' : F a = some u := z
        rw [h1] at z'; cases z'
      · have z' : H a = none := z
        rw [h2] at z'; cases z'
      · have e := b.sub a u q
        rw [b.frame a o h2 h3 (by intro z; cases z)] at e
        cases e
        rw [h4] at z; cases z
  have hH : ∀ a o, H a = some o → isTbl o = false → H' a = some o := fun a o h1 h2 => b.frame a o h1 h2 (by intro z; cases z)
  cases s with
  | fz d => exact rp_mono ff _ _ h
  | sc ns => obtain ⟨a, e, h1⟩ := h; exact ⟨a, e, ff.seq h1⟩
  | ex a => exact h
  | ol ds =>
    obtain ⟨a, xs, e, ow, h1, h2⟩ := h
    exact ⟨a, xs, e, ⟨hF a _ ow.1 h1 rfl rfl, ow.2⟩, hH a _ h1 rfl, rpL_mono ff _ _ h2⟩
  | od kvs =>
    obtain ⟨a, xs, e, ow, h1, h2, h3⟩ := h
    exact ⟨a, xs, e, ⟨hF a _ ow.1 h1 rfl rfl, ow.2⟩, hH a _ h1 rfl, kvs_mono ff h2, h3⟩
  | ot kvs =>
    obtain ⟨a, xs, e, ow, h1, h2, h3⟩ := h
    exact ⟨a, xs, e, ⟨hF a _ ow.1 h1 rfl rfl, ow.2⟩, hH a _ h1 rfl, kvs_mono ff h2, h3⟩
  | dr =>
    obtain ⟨a, e, h0, h1, ob, h2, h3⟩ := h
    exact ⟨a, e, ⟨hF a _ h0.1 h2 h3.1 h3.nt, h0.2⟩, h1, ob, hH a _ h2 h3.1, h3.mono ff⟩
theorem Base.up (r : Base R F H) (b : Base (rt (τ := τ) H F none) F' H') (ff : Same F F') : Base R F' H' where
  ext := r.ext.trans ff
  has := b.has
  sub := b.sub
  frame := fun c o h1 h2 h3 => b.frame c o (r.frame c o h1 h2 h3) h2 (by intro z; cases z)
  tabs := fun c ps h => by
    obtain ⟨m1, e1⟩ := r.tabs c ps h
    obtain ⟨m2, e2⟩ := b.tabs c _ e1
    exact ⟨m1 ++ m2, by rw [e2, Array.append_assoc]⟩
  tok := b.tok
  new := fun c o h => by
    rcases b.new c o h with z | z | z
    · exact r.new c o z
    · refine .inr (.inl ?_)
      cases q : R.H0 c with
      | none => rfl
      | some u =>
        have hz : H c = none := z
        cases ht : isTbl u with
        | true =>
          cases u <;> first | cases ht | skip
          obtain ⟨m, e⟩ := r.tabs c _ q
          rw [hz] at e; cases e
        | false =>
          by_cases hd : R.d = some c
          · obtain ⟨_, _, ns, e, _⟩ := r.drw c hd
            rw [hz] at e; cases e
          · have e := r.frame c u q ht hd
            rw [hz] at e; cases e
    · exact .inr (.inr z)
  kt := r.kt
  kind := b.kind
  drw := fun a h => by
    obtain ⟨h1, h2, ns, h3, h4⟩ := r.drw a h
    refine ⟨?_, h2, ns, b.frame a _ h3 h4.1 (by intro z; cases z), h4.mono ff⟩
    cases q : F' a with
    | none => rfl
    | some u =>
      rcases b.new a u q with z | z | z
      · have z' : F a = some u := z
        rw [h1] at z'; cases z'
      · have z' : H a = none := z
        rw [h3] at z'; cases z'
      · have e := b.sub a u q
        rw [b.frame a _ h3 h4.1 (by intro z; cases z)] at e
        cases e
        rw [h4.nt] at z; cases z
  kp := fun a o h => by
    obtain ⟨h1, h2, h3, h4⟩ := r.kp a o h
    refine ⟨b.frame a o h1 h3 (by intro z; cases z), ?_, h3, h4⟩
    cases q : F' a with
    | none => rfl
    | some u =>
      rcases b.new a u q with z | z | z
      · have z' : F a = some u := z
        rw [h2] at z'; cases z'
      · have z' : H a = none := z
        rw [h1] at z'; cases z'
      · have e := b.sub a u q
        rw [b.frame a _ h1 h3 (by intro z; cases z)] at e
        cases e
        rw [r.kt a o h] at z; cases z
theorem Rel.up (r : Rel K R F env σ H) (b : Base (rt (τ := τ) H F none) F' H') (ff : Same F F') : Rel K R F' env σ H' :=
  { r.toBase.up b ff with
    len := r.len
    sl := fun i s e => by
      obtain ⟨x, h1, h2⟩ := r.sl i s e
      exact ⟨x, h1, h2.up b ff⟩
    dis := r.dis }
theorem Base.refl (r : Base R F H) : Base (rt (τ := τ) H F none) F H where
  ext := Same.refl F
  has := r.has
  sub := r.sub
  frame := fun _ _ h _ _ => h
  tabs := fun b ps h => ⟨#[], by
    have h : H b = some (.tbl ps) := h
    rw [h]; simp⟩
  tok := r.tok
  new := fun _ _ h => .inl h
  kind := r.kind
  drw := fun a h => by cases h
  kt := fun a o h => by cases h
  kp := fun a o h => by cases h
/-- a new frozen object -/
theorem Base.allocF {p : Addr} {o : HO} (r : Base R F H) (hp : H p = none) (k : fzk o = true) : Base (rt (τ := τ) H F none) (upd F p o) (upd H p o) where
  ext := fun b u h => by rw [upd_ne (ne_of_none (r.sub b u h) hp)]; exact h
  has := fun P hP => by
    obtain ⟨ps, e⟩ := r.has P hP
    exact ⟨ps, by rw [upd_ne (ne_of_none e hp)]; exact e⟩
  sub := fun b u h => by
    by_cases e : b = p
    · subst e; rw [upd_same] at h ⊢; exact h
    · rw [upd_ne e] at h ⊢; exact r.sub b u h
  frame := fun b u h _ _ => by rw [upd_ne (ne_of_none h hp)]; exact h
  tabs := fun b ps h => ⟨#[], by
    have h : H b = some (.tbl ps) := h
    rw [upd_ne (ne_of_none h hp), h]; simp⟩
  tok := fun b hm ps h => by
    by_cases e : b = p
    · subst e; rw [upd_same] at h; cases h; cases k
    · rw [upd_ne e] at h; exact r.tok b hm ps h
  new := fun b u h => by
    by_cases e : b = p
    · subst e; exact .inr (.inl hp)
    · rw [upd_ne e] at h; exact .inl h
  kind := fun b u h => by
    by_cases e : b = p
    · subst e; rw [upd_same] at h; cases h; exact k
    · rw [upd_ne e] at h; exact r.kind b u h
  drw := fun a h => by cases h
  kt := fun a o h => by cases h
  kp := fun a o h => by cases h
/-- a new object that is not frozen -/
theorem Base.allocO {p : Addr} {o : HO} (r : Base R F H) (hp : H p = none) (k : isTbl o = false) : Base (rt (τ := τ) H F none) F (upd H p o) where
  ext := Same.refl F
  has := fun P hP => by
    obtain ⟨ps, e⟩ := r.has P hP
    exact ⟨ps, by rw [upd_ne (ne_of_none e hp)]; exact e⟩
  sub := fun b u h => by rw [upd_ne (ne_of_none (r.sub b u h) hp)]; exact r.sub b u h
  frame := fun b u h _ _ => by rw [upd_ne (ne_of_none h hp)]; exact h
  tabs := fun b ps h => ⟨#[], by
    have h : H b = some (.tbl ps) := h
    rw [upd_ne (ne_of_none h hp), h]; simp⟩
  tok := fun b hm ps h => by
    by_cases e : b = p
    · subst e; rw [upd_same] at h; cases h; cases k
    · rw [upd_ne e] at h; exact r.tok b hm ps h
  new := fun b u h => .inl h
  kind := r.kind
  drw := fun a h => by cases h
  kt := fun a o h => by cases h
  kp := fun a o h => by cases h
theorem same_updF {p : Addr} {o : HO} (r : Base R F H) (hp : H p = none) : Same F (upd F p o) := fun b u h => by
  rw [upd_ne (ne_of_none (r.sub b u h) hp)]; exact h
/-- no address at which nothing stood is owned -/
def Fresh (env : PEnv) (σ : L2.St) (x : V) (s : Slot) : Prop := s.owns = true → ∀ (i : Nat) (t : Slot) (a : Addr), env[i]? = some (some t) → t.owns = true → σ[i]? = some (some (.ref a)) → x ≠ .ref a
theorem Rel.fresh (r : Rel K R F env σ H) {p : Addr} (hp : H p = none) (s : Slot) : Fresh env σ (.ref p) s := fun _ i t a h1 h2 h3 e => by
  obtain ⟨x, h4, h5⟩ := r.sl i t h1
  obtain ⟨b, e1, _, _, ob, h6, _⟩ := h5.addr h2
  rw [h3] at h4
  cases h4
  cases e1
  cases e
  rw [hp] at h6; cases h6

/-! ### owned things frozen -/
theorem list_ix_set {α : Type} {l : List α} {i j : Nat} {x y : α} (h : (l.set i x)[j]? = some y) : (j = i ∧ y = x) ∨ (j ≠ i ∧ l[j]? = some y) := by
  by_cases e : j = i
  · subst e
    refine .inl ⟨rfl, ?_⟩
    by_cases hl : j < l.length
    · rw [List.getElem?_set_self hl] at h; exact (Option.some.inj h).symm
    · rw [List.getElem?_eq_none (by rw [List.length_set]; omega)] at h; cases h
  · rw [List.getElem?_set_ne (Ne.symm e)] at h; exact .inr ⟨e, h⟩
/-- an owned list at a becomes frozen -/
theorem same_frz {a : Addr} {o : HO} (hn : F a = none) : Same F (upd F a o) := fun b u h => by
  rw [upd_ne (ne_of_none h hn)]; exact h
theorem Base.frz {a : Addr} {o : HO} (r : Base R F H) (hnF : F a = none) (ho : H a = some o) (k : fzk o = true) (hn : R.H0 a = none) (hk : R.keep a = none) : Base R (upd F a o) H where
  ext := r.ext.trans (same_frz hnF)
  has := r.has
  sub := fun b u h => by
    by_cases e : b = a
    · subst e; rw [upd_same] at h; cases h; exact ho
    · rw [upd_ne e] at h; exact r.sub b u h
  frame := r.frame
  tabs := r.tabs
  tok := r.tok
  new := fun b u h => by
    by_cases e : b = a
    · subst e; exact .inr (.inl hn)
    · rw [upd_ne e] at h; exact r.new b u h
  kt := r.kt
  kind := fun b u h => by
    by_cases e : b = a
    · subst e; rw [upd_same] at h; cases h; exact k
    · rw [upd_ne e] at h; exact r.kind b u h
  drw := fun c h => by
    obtain ⟨h1, ⟨o2, h2⟩, ob, h3, h4⟩ := r.drw c h
    refine ⟨?_, ⟨o2, h2⟩, ob, h3, h4.mono (same_frz hnF)⟩
    rw [upd_ne (ne_of_none h2 hn)]; exact h1
  kp := fun c o2 h => by
    obtain ⟨h1, h2, h3⟩ := r.kp c o2 h
    refine ⟨h1, ?_, h3⟩
    rw [upd_ne (ne_of_none h hk)]; exact h2
theorem SlotOk.frz {a : Addr} {o : HO} {x : V} {s : Slot} (hn : F a = none) (h : SlotOk K R F H x s) (ne : s.owns = true → x ≠ .ref a) : SlotOk K R (upd F a o) H x s := by
  have ff := same_frz (o := o) hn
  cases s with
  | fz d => exact rp_mono ff _ _ h
  | sc ns => obtain ⟨a, e, h1⟩ := h; exact ⟨a, e, ff.seq h1⟩
  | ex a => exact h
  | ol ds =>
    obtain ⟨b, xs, e, ow, h1, h2⟩ := h
    have hb : b ≠ a := fun z => ne rfl (by rw [e, z])
    exact ⟨b, xs, e, ⟨by rw [upd_ne hb]; exact ow.1, ow.2⟩, h1, rpL_mono ff _ _ h2⟩
  | od kvs =>
    obtain ⟨b, xs, e, ow, h1, h2, h3⟩ := h
    have hb : b ≠ a := fun z => ne rfl (by rw [e, z])
    exact ⟨b, xs, e, ⟨by rw [upd_ne hb]; exact ow.1, ow.2⟩, h1, kvs_mono ff h2, h3⟩
  | ot kvs =>
    obtain ⟨b, xs, e, ow, h1, h2, h3⟩ := h
    have hb : b ≠ a := fun z => ne rfl (by rw [e, z])
    exact ⟨b, xs, e, ⟨by rw [upd_ne hb]; exact ow.1, ow.2⟩, h1, kvs_mono ff h2, h3⟩
  | dr =>
    obtain ⟨b, e, h0, h1, ns, h2, h3⟩ := h
    have hb : b ≠ a := fun z => ne rfl (by rw [e, z])
    exact ⟨b, e, ⟨by rw [upd_ne hb]; exact h0.1, h0.2⟩, h1, ns, h2, h3.mono ff⟩
/-- slot i, an owned list, frozen -/
theorem Rel.frz {i : Nat} {ds : List PyData} (r : Rel K R F env σ H) (hi : env[i]? = some (some (.ol ds))) :
    ∃ F' x, σ[i]? = some (some x) ∧ Same F F' ∧ Rp K F' x (.list ds) ∧ Rel K R F' (env.set i (some (.fz (.list ds)))) σ H := by
  obtain ⟨x, h1, a, xs, rfl, ow, h2, h3⟩ := r.sl i _ hi
  have ff := same_frz (o := .lst xs) ow.1
  have dd : Rp K (upd F a (.lst xs)) (.ref a) (.list ds) := .lst upd_same (rpL_mono ff _ _ h3)
  refine ⟨upd F a (.lst xs), _, h1, ff, dd, { r.toBase.frz ow.1 h2 rfl ow.2.1 ow.2.2 with len := by rw [List.length_set]; exact r.len, sl := fun j s e => ?_, dis := fun j k s t b hjk e1 o1 e2 o2 e3 => ?_ }⟩
  · rcases list_ix_set e with ⟨rfl, ee⟩ | ⟨hj, e⟩
    · cases ee
      exact ⟨_, h1, dd⟩
    · obtain ⟨y, h4, h5⟩ := r.sl j s e
      refine ⟨y, h4, h5.frz ow.1 fun o z => ?_⟩
      subst z
      exact r.dis i j _ _ a (Ne.symm hj) hi rfl e o h1 h4
  · rcases list_ix_set e1 with ⟨rfl, ee⟩ | ⟨hj, e⟩
    · cases ee; cases o1
    · rcases list_ix_set e2 with ⟨rfl, ee⟩ | ⟨hk, e'⟩
      · cases ee; cases o2
      · exact r.dis j k s t b hjk e o1 e' o2 e3
end base

/-! ### the judgements by value: PE, PT, .. with the reading of a value-level transformer -/
abbrev WE := PEnv → (PyData → PEnv → Prop) → Prop
abbrev WF := PEnv → (Slot → PEnv → Prop) → Prop
abbrev WT := PEnv → (Bool → PEnv → Prop) → Prop
abbrev WA := PEnv → (List PyData → PEnv → Prop) → Prop
structure WD where
  nx : PEnv → Prop
  rt : Slot → Prop
  bk : PEnv → Prop := fun _ => False
  ct : PEnv → Prop := fun _ => False
abbrev WS := WD → PEnv → Prop

section rd
variable (K : PySem.W.Frag) (R : Root τ)
def rdE (w : WE) : TE := fun σ H Q => ∃ F env Qw, Rel K R F env σ H ∧ w env Qw ∧ ∀ F' env' H' x d, Same F F' → Rel K R F' env' σ H' → Rp K F' x d → Qw d env' → Q x H'
def rdF (w : WF) : TE := fun σ H Q => ∃ F env Qw, Rel K R F env σ H ∧ w env Qw ∧ ∀ F' env' H' x s, Same F F' → Rel K R F' env' σ H' → SlotOk K R F' H' x s → Fresh env' σ x s → Qw s env' → Q x H'
def rdT (w : WT) : TT := fun σ H Q => ∃ F env Qw, Rel K R F env σ H ∧ w env Qw ∧ ∀ F' env' H' b, Same F F' → Rel K R F' env' σ H' → Qw b env' → Q b H'
def rdA (w : WA) : TA := fun σ H Q => ∃ F env Qw, Rel K R F env σ H ∧ w env Qw ∧ ∀ F' env' H' xs ds, Same F F' → Rel K R F' env' σ H' → RpL K F' xs ds → Qw ds env' → Q xs H'
/-- what follows a statement, by value and by the heap -/
structure Lk (F : Hp) (D : Ends) (W : WD) : Prop where
  nx : ∀ F' env' σ' H', Same F F' → Rel K R F' env' σ' H' → W.nx env' → D.nx σ' H'
  bk : ∀ F' env' σ' H', Same F F' → Rel K R F' env' σ' H' → W.bk env' → D.bk σ' H'
  ct : ∀ F' env' σ' H', Same F F' → Rel K R F' env' σ' H' → W.ct env' → D.ct σ' H'
  rt : ∀ F' H' x s, Same F F' → Base R F' H' → SlotOk K R F' H' x s → W.rt s → D.rt x H'
def rdS (w : WS) : TS := fun D σ H => ∃ F env W, Rel K R F env σ H ∧ w W env ∧ Lk K R F D W
end rd
theorem Lk.up {K : PySem.W.Frag} {R : Root τ} {F F' : Hp} {D : Ends} {W : WD} (l : Lk K R F D W) (ff : Same F F') : Lk K R F' D W :=
  ⟨fun _ _ _ _ h => l.nx _ _ _ _ (ff.trans h), fun _ _ _ _ h => l.bk _ _ _ _ (ff.trans h), fun _ _ _ _ h => l.ct _ _ _ _ (ff.trans h), fun _ _ _ _ h => l.rt _ _ _ _ (ff.trans h)⟩
abbrev CE (X : Cx) (R : Root τ) (e : Expr) (w : WE) : Prop := PE X e (rdE X.K R w)
abbrev CF (X : Cx) (R : Root τ) (e : Expr) (w : WF) : Prop := PE X e (rdF X.K R w)
abbrev CT (X : Cx) (R : Root τ) (e : Expr) (w : WT) : Prop := PT X e (rdT X.K R w)
abbrev CW (X : Cx) (R : Root τ) (e : Expr) (w : WT) : Prop := PW X e (rdT X.K R w)
abbrev CA (X : Cx) (R : Root τ) (es : List Expr) (w : WA) : Prop := PA X es (rdA X.K R w)
abbrev CS (X : Cx) (R : Root τ) (st : Stmt) (w : WS) : Prop := PS X st (rdS X.K R w)
abbrev CSs (X : Cx) (R : Root τ) (sts : List Stmt) (w : WS) : Prop := PSs X sts (rdS X.K R w)

section imp
variable {X : Cx}
theorem pe_imp {e : Expr} {t t' : TE} (h : PE X e t) (i : ∀ σ H Q, t' σ H Q → t σ H Q) : PE X e t' := ⟨fun pins s σ H Q I q => h.run pins s σ H Q I (i σ H Q q)⟩
theorem pt_imp {e : Expr} {t t' : TT} (h : PT X e t) (i : ∀ σ H Q, t' σ H Q → t σ H Q) : PT X e t' := ⟨fun pins s σ H Q I q => h.run pins s σ H Q I (i σ H Q q)⟩
theorem pw_imp {e : Expr} {t t' : TT} (h : PW X e t) (i : ∀ σ H Q, t' σ H Q → t σ H Q) : PW X e t' := ⟨fun wh pins s σ H Q I q => h.run wh pins s σ H Q I (i σ H Q q)⟩
theorem pa_imp {es : List Expr} {t t' : TA} (h : PA X es t) (i : ∀ σ H Q, t' σ H Q → t σ H Q) : PA X es t' := ⟨fun pos pins s σ H Q I q => h.run pos pins s σ H Q I (i σ H Q q)⟩
theorem ps_imp {e : Stmt} {t t' : TS} (h : PS X e t) (i : ∀ D σ H, t' D σ H → t D σ H) : PS X e t' := ⟨fun pins s σ H D I q => h.run pins s σ H D I (i D σ H q)⟩
theorem pss_imp {e : List Stmt} {t t' : TS} (h : PSs X e t) (i : ∀ D σ H, t' D σ H → t D σ H) : PSs X e t' := ⟨fun pins s σ H D I q => h.run pins s σ H D I (i D σ H q)⟩
end imp
end VL
set_option Elab.async false
set_option linter.all false
set_option maxRecDepth 100000
/-! VL1: operands, operators by value. -/
namespace VL
open PySem PySem.Spec PyProof.Rows L2
variable {τ : Tau}

/-! ### operators by value -/
abbrev G2 := PyData → PyData → (PyData → Prop) → Prop
@[simp ↓] def gAdd : G2 := fun a b k => match a, b with
  | .int i, .int j => k (.int (i + j))
  | .str x, .str y => x.length + y.length ≤ sizeLine ∧ k (.str (x ++ y))
  | .list xs, .list ys => xs.length + ys.length ≤ sizeLine ∧ k (.list (xs ++ ys))
  | .tuple xs, .tuple ys => xs.length + ys.length ≤ sizeLine ∧ k (.tuple (xs ++ ys))
  | _, _ => False
@[simp ↓] def gSub : G2 := fun a b k => match a, b with
  | .int i, .int j => k (.int (i - j))
  | _, _ => False
/-- * of ints: together less than a million bits, or one of them less than 64 -/
def CMulA (i j : Int) : Prop := CMulW i j ∨ CMul i j
theorem CMulA.ok {i j : Int} (h : CMulA i j) : IntMulOk i j := h.elim (fun h => h.ok) fun h => h.ok
theorem cmulA_r {i j : Int} (h1 : -(2 ^ 64) < j) (h2 : j < 2 ^ 64) : CMulA i j := .inr (.inr ⟨h1, h2⟩)
theorem cmulA_l {i j : Int} (h1 : -(2 ^ 64) < i) (h2 : i < 2 ^ 64) : CMulA i j := .inr (.inl ⟨h1, h2⟩)
@[simp ↓] def gMul : G2 := fun a b k => match a, b with
  | .int i, .int j => CMulA i j ∧ k (.int (i * j))
  | .list xs, .int j => (-(2 ^ 63) ≤ j ∧ j < 2 ^ 63 ∧ xs.length * j.toNat ≤ sizeLine) ∧ k (.list (List.replicate j.toNat xs).flatten)
  | .tuple xs, .int j => (xs ≠ [] ∧ 0 ≤ j ∧ j ≤ 1000 ∧ xs.length ≤ 1000) ∧ k (.tuple (List.replicate j.toNat xs).flatten)
  | _, _ => False
@[simp ↓] def gFdiv : G2 := fun a b k => match a, b with
  | .int i, .int j => CDivW i j ∧ k (.int (i / j))
  | _, _ => False
@[simp ↓] def gMod : G2 := fun a b k => match a, b with
  | .int i, .int j => 0 < j ∧ k (.int (i % j))
  | _, _ => False
@[simp ↓] def gPow : G2 := fun a b k => match a, b with
  | .int i, .int j => CPow i j ∧ k (.int (i ^ j.toNat))
  | _, _ => False
@[simp ↓] def gCmp (p : Int → Int → Bool) : G2 := fun a b k => match a, b with
  | .int i, .int j => k (.bool (p i j))
  | _, _ => False
@[simp ↓] def gEq : G2 := fun a b k => SeqAt.shaped a = true ∧ SeqAt.shaped b = true ∧ k (.bool (PyData.eqv a b))
@[simp ↓] def gNe : G2 := fun a b k => SeqAt.shaped a = true ∧ SeqAt.shaped b = true ∧ k (.bool (!PyData.eqv a b))
def isNon : PyData → Bool
  | .none => true
  | _ => false
/-- x is y: y None, or both bools -/
@[simp ↓] def gIs : G2 := fun a b k => match a, b with
  | a, .none => k (.bool (isNon a))
  | .bool p, .bool q => k (.bool (decide (p = q)))
  | _, _ => False
@[simp ↓] def gIsNot : G2 := fun a b k => match a, b with
  | a, .none => k (.bool (!isNon a))
  | .bool p, .bool q => k (.bool (!decide (p = q)))
  | _, _ => False

/-- v may be read as the datum d now: it stands for it, or it is an owned list -/
inductive Br (K : PySem.W.Frag) (F H : Hp) : V → PyData → Prop
  | rp {x : V} {d : PyData} : Rp K F x d → Br K F H x d
  | ol {a : Addr} {xs : List V} {ds : List PyData} : H a = some (.lst xs) → RpL K F xs ds → Br K F H (.ref a) (.list ds)
section br
variable {K : PySem.W.Frag} {F H : Hp} {x : V}
theorem Br.dp {d : PyData} (s : Same F H) (h : Br K F H x d) : Dp K H x d := by
  cases h with
  | rp h => exact h.dp s
  | ol h l => exact .lst (.inl (.inl h)) (l.dp s)
theorem Br.int {i : Int} (h : Br K F H x (.int i)) : x = .int i := by
  cases h with
  | rp h => cases h; rfl
theorem Br.str {i : Str} (h : Br K F H x (.str i)) : x = .str i := by
  cases h with
  | rp h => cases h; rfl
theorem Br.bl {i : Bool} (h : Br K F H x (.bool i)) : x = .bl i := by
  cases h with
  | rp h => cases h; rfl
theorem Br.non (h : Br K F H x .none) : x = .non := by
  cases h with
  | rp h => cases h; rfl
theorem Br.lst {ds : List PyData} (s : Same F H) (h : Br K F H x (.list ds)) : ∃ a xs, x = .ref a ∧ H a = some (.lst xs) ∧ RpL K F xs ds := by
  cases h with
  | rp h => cases h with
    | lst h l => exact ⟨_, _, rfl, s _ _ h, l⟩
  | ol h l => exact ⟨_, _, rfl, h, l⟩
theorem Br.tup {ds : List PyData} (s : Same F H) (h : Br K F H x (.tuple ds)) : ∃ a xs, x = .ref a ∧ SqT K H a xs ∧ RpL K F xs ds ∧ Rp K F x (.tuple ds) := by
  cases h with
  | rp h => cases id h with
    | tup h1 l => exact ⟨_, _, rfl, seqT_mono s h1.sq, l, h⟩
theorem Br.nodict {kv : List (PyData × PyData)} (h : Br K F H x (.dict kv)) : False := by
  cases h with
  | rp h => cases h
end br
/-- an operand: a value, or a name of the def that is read when the operation runs -/
abbrev Opd := PyData ⊕ Nat
def OpdOk (K : PySem.W.Frag) (F : Hp) (σ : L2.St) (x : V) : Opd → Prop
  | .inl d => Rp K F x d
  | .inr i => σ[i]? = some (some x)
abbrev WO := PEnv → (Opd → PEnv → Prop) → Prop
abbrev WOs := PEnv → (List Opd → PEnv → Prop) → Prop
@[simp ↓] def res (env : PEnv) (o : Opd) (k : PyData → Prop) : Prop := match o with
  | .inl d => k d
  | .inr i => match env[i]? with
    | some (some (.fz d)) => k d
    | some (some (.ol ds)) => k (.list ds)
    | _ => False
@[simp ↓] def ress (env : PEnv) : List Opd → (List PyData → Prop) → Prop
  | [], k => k []
  | o :: os, k => res env o fun d => ress env os fun ds => k (d :: ds)
inductive OpdsOk (K : PySem.W.Frag) (F : Hp) (σ : L2.St) : List V → List Opd → Prop
  | nil : OpdsOk K F σ [] []
  | cons {x : V} {xs : List V} {o : Opd} {os : List Opd} : OpdOk K F σ x o → OpdsOk K F σ xs os → OpdsOk K F σ (x :: xs) (o :: os)
inductive BrL (K : PySem.W.Frag) (F H : Hp) : List V → List PyData → Prop
  | nil : BrL K F H [] []
  | cons {x : V} {xs : List V} {d : PyData} {ds : List PyData} : Br K F H x d → BrL K F H xs ds → BrL K F H (x :: xs) (d :: ds)
section opd
variable {K : PySem.W.Frag} {R : Root τ} {F F' H : Hp} {env : PEnv} {σ : L2.St}
theorem OpdOk.mono {x : V} {o : Opd} (f : Same F F') (h : OpdOk K F σ x o) : OpdOk K F' σ x o := by
  cases o with
  | inl d => exact rp_mono f _ _ h
  | inr i => exact h
theorem OpdsOk.mono (f : Same F F') : ∀ {xs : List V} {os : List Opd}, OpdsOk K F σ xs os → OpdsOk K F' σ xs os
  | _, _, .nil => .nil
  | _, _, .cons h t => .cons (h.mono f) (OpdsOk.mono f t)
theorem res_ok {x : V} {o : Opd} {k : PyData → Prop} (r : Rel K R F env σ H) (h : OpdOk K F σ x o) (w : res env o k) : ∃ d, Br K F H x d ∧ k d := by
  cases o with
  | inl d => exact ⟨d, .rp h, w⟩
  | inr i =>
    have w : (match env[i]? with
      | some (some (.fz d)) => k d
      | some (some (.ol ds)) => k (.list ds)
      | _ => False) := w
    cases e : env[i]? with
    | none => rw [e] at w; cases w
    | some o =>
      rw [e] at w
      cases o with
      | none => cases w
      | some s =>
        obtain ⟨v, h1, h2⟩ := r.sl i _ e
        have h : σ[i]? = some (some x) := h
        rw [h] at h1
        cases h1
        cases s with
        | fz d => exact ⟨d, .rp h2, w⟩
        | ol ds =>
          obtain ⟨a, xs, rfl, _, h3, h4⟩ := h2
          exact ⟨_, .ol h3 h4, w⟩
        | od _ => cases w
        | ot _ => cases w
        | dr => cases w
        | sc _ => cases w
        | ex _ => cases w
theorem ress_ok (r : Rel K R F env σ H) : ∀ {os : List Opd} {xs : List V} {k : List PyData → Prop}, OpdsOk K F σ xs os → ress env os k → ∃ ds, BrL K F H xs ds ∧ k ds
  | _, _, _, .nil, w => ⟨[], .nil, w⟩
  | _, _, _, .cons h t, w => by
    obtain ⟨d, h1, w1⟩ := res_ok r h w
    obtain ⟨ds, h2, w2⟩ := ress_ok r t w1
    exact ⟨d :: ds, .cons h1 h2, w2⟩
end opd
def rdO (K : PySem.W.Frag) (R : Root τ) (w : WO) : TE := fun σ H Q => ∃ F env Qw, Rel K R F env σ H ∧ w env Qw ∧ ∀ F' env' H' x o, Same F F' → Rel K R F' env' σ H' → OpdOk K F' σ x o → Qw o env' → Q x H'
def rdOs (K : PySem.W.Frag) (R : Root τ) (w : WOs) : TA := fun σ H Q => ∃ F env Qw, Rel K R F env σ H ∧ w env Qw ∧ ∀ F' env' H' xs os, Same F F' → Rel K R F' env' σ H' → OpdsOk K F' σ xs os → Qw os env' → Q xs H'
abbrev CO (X : Cx) (R : Root τ) (e : Expr) (w : WO) : Prop := PE X e (rdO X.K R w)
abbrev COs (X : Cx) (R : Root τ) (es : List Expr) (w : WOs) : Prop := PA X es (rdOs X.K R w)
/-- what an operation's reading r must have by the value-level g -/
def OpW (K : PySem.W.Frag) (R : Root τ) (r : R2) (g : G2) : Prop :=
  ∀ (F : Hp) (env : PEnv) (σ : L2.St) (H : Hp) (x y : V) (a b : PyData) (k : PyData → Prop) (Q : VK), Rel K R F env σ H → Br K F H x a → Br K F H y b → g a b k →
    (∀ F' H' z d, Same F F' → Rel K R F' env σ H' → Rp K F' z d → k d → Q z H') → r x y H Q

section new
variable {K : PySem.W.Frag} {R : Root τ} {F H : Hp} {env : PEnv} {σ : L2.St} {xs : List V} {ds : List PyData} {p : Addr}
theorem new_lst (r : Rel K R F env σ H) (hp : H p = none) (l : RpL K F xs ds) : Same F (upd F p (.lst xs)) ∧ Rel K R (upd F p (.lst xs)) env σ (upd H p (.lst xs)) ∧ Rp K (upd F p (.lst xs)) (.ref p) (.list ds) := by
  have ff := same_updF (o := .lst xs) r.toBase hp
  exact ⟨ff, r.up (r.allocF hp rfl) ff, .lst upd_same (rpL_mono ff _ _ l)⟩
theorem new_tup (r : Rel K R F env σ H) (hp : H p = none) (l : RpL K F xs ds) : Same F (upd F p (.tup xs)) ∧ Rel K R (upd F p (.tup xs)) env σ (upd H p (.tup xs)) ∧ Rp K (upd F p (.tup xs)) (.ref p) (.tuple ds) := by
  have ff := same_updF (o := .tup xs) r.toBase hp
  exact ⟨ff, r.up (r.allocF hp rfl) ff, .tup upd_same (rpL_mono ff _ _ l)⟩
end new
section ce
variable {X : Cx} {R : Root τ} {a b c e : Expr} {wa wb wc : WO} {pos : Pos}

/-! ### names, constants -/
@[simp ↓] def wVar (i : Nat) : WE := fun env Q => match env[i]? with
  | some (some (.fz d)) => Q d env
  | some (some (.ol ds)) => Q (.list ds) (env.set i (some (.fz (.list ds))))
  | _ => False
theorem ce_var {i : Nat} {x : Str} {pos : Pos} (h : PE X (.Name x pos) (tVar i)) : CE X R (.Name x pos) (wVar i) := by
  refine pe_imp h fun σ H Q ⟨F, env, Qw, r, w, k⟩ => ?_
  unfold wVar at w
  cases e : env[i]? with
  | none => rw [e] at w; cases w
  | some o =>
    rw [e] at w
    cases o with
    | none => cases w
    | some s =>
      cases s with
      | fz d =>
        obtain ⟨v, h1, h2⟩ := r.sl i _ e
        exact ⟨v, h1, k F env H v d (Same.refl F) r h2 w⟩
      | ol ds =>
        obtain ⟨F', v, h1, ff, h2, r'⟩ := r.frz e
        exact ⟨v, h1, k F' _ H v _ ff r' h2 w⟩
      | od _ => cases w
      | ot _ => cases w
      | dr => cases w
      | sc _ => cases w
      | ex _ => cases w
@[simp ↓] def wC (d : PyData) : WE := fun env Q => Q d env
theorem ce_int {i : Int} {j pos} : CE X R (.Constant (.int i) j pos) (wC (.int i)) := pe_imp pe_int fun σ H Q ⟨F, env, Qw, r, w, k⟩ => k F env H _ _ (Same.refl F) r (.int i) w
theorem ce_bl {b : Bool} {j pos} : CE X R (.Constant (.bool b) j pos) (wC (.bool b)) := pe_imp pe_bl fun σ H Q ⟨F, env, Qw, r, w, k⟩ => k F env H _ _ (Same.refl F) r (.bl b) w
theorem ce_non {j pos} : CE X R (.Constant .none j pos) (wC .none) := pe_imp pe_non fun σ H Q ⟨F, env, Qw, r, w, k⟩ => k F env H _ _ (Same.refl F) r .non w
theorem ce_str {x : Str} {j pos} : CE X R (.Constant (.str x) j pos) (wC (.str x)) := pe_imp pe_str fun σ H Q ⟨F, env, Qw, r, w, k⟩ => k F env H _ _ (Same.refl F) r (.str x) w
/-- a module's constant -/
theorem ce_glob {x : Str} {d : PyData} {v : V} (h : PE X (.Name x pos) (tC v)) (hd : Rp X.K (fun _ => none) v d) : CE X R (.Name x pos) (wC d) :=
  pe_imp h fun σ H Q ⟨F, env, Qw, r, w, k⟩ => k F env H _ _ (Same.refl F) r (rp_mono (fun _ _ z => by cases z) _ _ hd) w

/-! ### operands -/
@[simp ↓] def wO (w : WE) : WO := fun env Q => w env fun d e => Q (.inl d) e
theorem co {w : WE} (h : CE X R e w) : CO X R e (wO w) := pe_imp h fun σ H Q ⟨F, env, Qw, r, w, k⟩ => ⟨F, env, _, r, w, fun F' e' H' x d f r' p w' => k F' e' H' x (.inl d) f r' p w'⟩
@[simp ↓] def wB (i : Nat) : WO := fun env Q => (∃ s, env[i]? = some (some s)) ∧ Q (.inr i) env
theorem co_bor {i : Nat} {x : Str} (h : PE X (.Name x pos) (tVar i)) : CO X R (.Name x pos) (wB i) := pe_imp h fun σ H Q ⟨F, env, Qw, r, ⟨⟨s, hs⟩, w⟩, k⟩ => by
  obtain ⟨v, h1, h2⟩ := r.sl i s hs
  exact ⟨v, h1, k F env H v (.inr i) (Same.refl F) r h1 w⟩
@[simp ↓] def wOnil : WOs := fun env Q => Q [] env
@[simp ↓] def wOcons (w : WO) (ws : WOs) : WOs := fun env Q => w env fun o e1 => ws e1 fun os e2 => Q (o :: os) e2
theorem cos_nil : COs X R [] wOnil := pa_imp pa_nil fun σ H Q ⟨F, env, Qw, r, w, k⟩ => k F env H [] [] (Same.refl F) r .nil w
theorem cos_cons {es : List Expr} {ws : WOs} (ha : CO X R e wa) (hs : COs X R es ws) (hst : starEach (e :: es) X.env = (false, eval e X.env) :: starEach es X.env := by rfl) : COs X R (e :: es) (wOcons wa ws) :=
  pa_imp (pa_cons ha hs hst) fun σ H Q ⟨F, env, Qw, r, w, k⟩ => ⟨F, env, _, r, w, fun F1 e1 H1 x o f1 r1 p1 w1 => ⟨F1, e1, _, r1, w1, fun F2 e2 H2 xs os f2 r2 p2 w2 =>
    k F2 e2 H2 (x :: xs) (o :: os) (f1.trans f2) r2 (.cons (p1.mono f2) p2) w2⟩⟩

/-! ### operators -/
@[simp ↓] def wBin (g : G2) (wa wb : WO) : WE := fun env Q => wa env fun p e1 => wb e1 fun q e2 => res e2 p fun x => res e2 q fun y => g x y fun z => Q z e2
theorem wBin_rd {r : R2} {g : G2} (hw : OpW X.K R r g) : ∀ σ H Q, rdE X.K R (wBin g wa wb) σ H Q → tOp r (rdO X.K R wa) (rdO X.K R wb) σ H Q := fun σ H Q ⟨F, env, Qw, r0, w, k⟩ =>
  ⟨F, env, _, r0, w, fun F1 e1 H1 x da f1 r1 p1 w1 => ⟨F1, e1, _, r1, w1, fun F2 e2 H2 y db f2 r2 p2 w2 => by
    obtain ⟨da, b1, w3⟩ := res_ok r2 (p1.mono f2) w2
    obtain ⟨db, b2, w4⟩ := res_ok r2 p2 w3
    exact hw F2 e2 σ H2 x y da db _ Q r2 b1 b2 w4 fun F3 H3 z d f3 r3 p3 w3 => k F3 e2 H3 z d ((f1.trans f2).trans f3) r3 p3 w3⟩⟩
theorem ce_bin {op : Operator} {r : R2} {g : G2} (ho : OpR X (binaryOp op) r) (hw : OpW X.K R r g) (ha : CO X R a wa) (hb : CO X R b wb) : CE X R (.BinOp a op b pos) (wBin g wa wb) :=
  pe_imp (pe_op ho ha hb) (wBin_rd hw)
theorem ce_cmp {op : CmpOp} {r : R2} {g : G2} (ho : OpR X (compareOp op) r) (hw : OpW X.K R r g) (ha : CO X R a wa) (hb : CO X R b wb) (hm : behindInMarks op b = false := by first | exact nomark _ | rfl) : CE X R (.Compare a [op] [b] pos) (wBin g wa wb) :=
  pe_imp (pe_cmpR ho ha hb hm) (wBin_rd hw)
@[simp ↓] def wTst (w : WE) : WT := fun env Q => w env fun x e1 => match x with
  | .bool b => Q b e1
  | _ => False
theorem wTst_rd {w : WE} {t : TE} (h : ∀ σ H Q, rdE X.K R w σ H Q → t σ H Q) : ∀ σ H Q, rdT X.K R (wTst w) σ H Q → tTest t σ H Q := fun σ H Q ⟨F, env, Qw, r0, w, k⟩ =>
  h σ H _ ⟨F, env, _, r0, w, fun F1 e1 H1 x d f1 r1 p1 w1 => by
    cases p1 with
    | bl b => exact ⟨b, rfl, k F1 e1 H1 b f1 r1 w1⟩
    | _ => exact False.elim w1⟩
theorem ct_cmp {op : CmpOp} {r : R2} {g : G2} (ho : OpR X (compareOp op) r) (hw : OpW X.K R r g) (ha : CO X R a wa) (hb : CO X R b wb) (hm : behindInMarks op b = false := by first | exact nomark _ | rfl) : CT X R (.Compare a [op] [b] pos) (wTst (wBin g wa wb)) :=
  pt_imp (pt_cmpR ho ha hb hm) (wTst_rd (wBin_rd hw))
/-- a < b < c -/
@[simp ↓] def wChain (g g' : G2) (wa wb wc : WO) : WE := fun env Q => wa env fun p e1 => wb e1 fun q e2 => res e2 p fun x => res e2 q fun y => g x y fun z => match z with
  | .bool true => wc e2 fun u e3 => res e3 q fun y' => res e3 u fun z' => g' y' z' fun z' => Q z' e3
  | .bool false => Q (.bool false) e2
  | _ => False
theorem wChain_rd {r r' : R2} {g g' : G2} (hw : OpW X.K R r g) (hw' : OpW X.K R r' g') : ∀ σ H Q, rdE X.K R (wChain g g' wa wb wc) σ H Q → tChain r r' (rdO X.K R wa) (rdO X.K R wb) (rdO X.K R wc) σ H Q := fun σ H Q ⟨F, env, Qw, r0, w, k⟩ =>
  ⟨F, env, _, r0, w, fun F1 e1 H1 x da f1 r1 p1 w1 => ⟨F1, e1, _, r1, w1, fun F2 e2 H2 y db f2 r2 p2 w2 => by
    obtain ⟨dx, b1, w3⟩ := res_ok r2 (p1.mono f2) w2
    obtain ⟨dy, b2, w4⟩ := res_ok r2 p2 w3
    refine hw F2 e2 σ H2 x y dx dy _ _ r2 b1 b2 w4 fun F3 H3 z d f3 r3 p3 w3 => ?_
    cases p3 with
      | bl bb =>
        refine ⟨bb, rfl, ?_⟩
        cases bb with
        | false => exact k F3 e2 H3 _ _ ((f1.trans f2).trans f3) r3 (.bl false) w3
        | true => exact ⟨F3, e2, _, r3, w3, fun F4 e4 H4 u dc f4 r4 p4 w4 => by
            obtain ⟨dy', b3, w5⟩ := res_ok r4 (p2.mono (f3.trans f4)) w4
            obtain ⟨du, b4, w6⟩ := res_ok r4 p4 w5
            exact hw' F4 e4 σ H4 y u dy' du _ Q r4 b3 b4 w6 fun F5 H5 z5 d5 f5 r5 p5 w5 => k F5 e4 H5 z5 d5 ((((f1.trans f2).trans f3).trans f4).trans f5) r5 p5 w5⟩
      | _ => exact False.elim w3⟩⟩
theorem ce_chain {op op' : CmpOp} {r r' : R2} {g g' : G2} (ho : OpR X (compareOp op) r) (hw : OpW X.K R r g) (ho' : OpR X (compareOp op') r') (hw' : OpW X.K R r' g') (ha : CO X R a wa) (hb : CO X R b wb) (hc : CO X R c wc)
    (hm : lastMarks [op, op'] [b, c] = false := by with_unfolding_all rfl) : CE X R (.Compare a [op, op'] [b, c] pos) (wChain g g' wa wb wc) := pe_imp (pe_chain ho ho' ha hb hc hm) (wChain_rd hw hw')
theorem ct_chain {op op' : CmpOp} {r r' : R2} {g g' : G2} (ho : OpR X (compareOp op) r) (hw : OpW X.K R r g) (ho' : OpR X (compareOp op') r') (hw' : OpW X.K R r' g') (ha : CO X R a wa) (hb : CO X R b wb) (hc : CO X R c wc)
    (hm : lastMarks [op, op'] [b, c] = false := by with_unfolding_all rfl) : CT X R (.Compare a [op, op'] [b, c] pos) (wTst (wChain g g' wa wb wc)) := pt_imp (pt_chain ho ho' ha hb hc hm) (wTst_rd (wChain_rd hw hw'))

/-! ### the operators' rules -/
variable {K : PySem.W.Frag}
def rAddV (K : PySem.W.Frag) : R2 := fun x y H Q => rI0 (fun i j => .int (i + j)) x y H Q ∨ (∃ i j, x = .str i ∧ y = .str j ∧ i.length + j.length ≤ sizeLine ∧ Q (.str (i ++ j)) H) ∨ rCat x y H Q ∨ rCatA K x y H Q
theorem or_add : OpR X (binaryOp .Add) (rAddV X.K) := op_add.or (op_add_str.or (op_cat.or op_catA))
theorem ow_add : OpW K R (rAddV K) gAdd := by
  intro F env σ H x y a b k Q r pa pb w q
  cases a with
  | int i =>
    cases b with
    | int j => exact .inl ⟨i, j, pa.int, pb.int, q F H _ _ (Same.refl F) r (.int _) w⟩
    | _ => cases w
  | str i =>
    cases b with
    | str j => exact .inr (.inl ⟨i, j, pa.str, pb.str, w.1, q F H _ _ (Same.refl F) r (.str _) w.2⟩)
    | _ => cases w
  | list ds =>
    cases b with
    | list es =>
      obtain ⟨hz, w⟩ := w
      obtain ⟨p, xs, rfl, ha, la⟩ := pa.lst r.sub
      obtain ⟨p', ys, rfl, hb, lb⟩ := pb.lst r.sub
      refine .inr (.inr (.inl ⟨_, _, _, _, rfl, rfl, ha, hb, by rw [la.length, lb.length]; exact hz, fun p hp => ?_⟩))
      obtain ⟨ff, r2, p2⟩ := new_lst r hp (la.append lb)
      exact q _ _ _ _ ff r2 p2 w
    | _ => cases w
  | tuple ds =>
    cases b with
    | tuple es =>
      obtain ⟨hz, w⟩ := w
      obtain ⟨p, xs, rfl, ha, la, pa'⟩ := pa.tup r.sub
      obtain ⟨p', ys, rfl, hb, lb, pb'⟩ := pb.tup r.sub
      refine .inr (.inr (.inr ⟨_, _, _, _, rfl, rfl, ha, hb, by rw [la.length, lb.length]; exact hz, fun e => ?_, fun e1 e2 => ?_, fun e1 e2 p hp => ?_⟩))
      · subst e; cases la
        exact q F H _ _ (Same.refl F) r pb' w
      · subst e2; cases lb
        rw [List.append_nil] at w
        exact q F H _ _ (Same.refl F) r pa' w
      · obtain ⟨ff, r2, p2⟩ := new_tup r hp (la.append lb)
        exact q _ _ _ _ ff r2 p2 w
    | _ => cases w
  | _ => cases b <;> cases w
theorem ce_add (ha : CO X R a wa) (hb : CO X R b wb) : CE X R (.BinOp a .Add b pos) (wBin gAdd wa wb) := ce_bin or_add ow_add ha hb
theorem ow_sub : OpW K R (rI0 fun i j => .int (i - j)) gSub := by
  intro F env σ H x y a b k Q r pa pb w q
  cases a with
  | int i =>
    cases b with
    | int j => exact ⟨i, j, pa.int, pb.int, q F H _ _ (Same.refl F) r (.int _) w⟩
    | _ => cases w
  | _ => cases b <;> cases w
theorem ce_sub (ha : CO X R a wa) (hb : CO X R b wb) : CE X R (.BinOp a .Sub b pos) (wBin gSub wa wb) := ce_bin op_sub ow_sub ha hb
theorem ow_int {C : Int → Int → Prop} {f : Int → Int → Int} {g : G2} (h : ∀ a b k, g a b k → ∃ i j, a = .int i ∧ b = .int j ∧ C i j ∧ k (.int (f i j))) : OpW K R (rI C fun i j => .int (f i j)) g := by
  intro F env σ H x y a b k Q r pa pb w q
  obtain ⟨i, j, rfl, rfl, hc, w⟩ := h a b k w
  exact ⟨i, j, pa.int, pb.int, hc, q F H _ _ (Same.refl F) r (.int _) w⟩
theorem ow_cmp {p : Int → Int → Bool} : OpW K R (rI0 fun i j => .bl (p i j)) (gCmp p) := by
  intro F env σ H x y a b k Q r pa pb w q
  cases a with
  | int i =>
    cases b with
    | int j => exact ⟨i, j, pa.int, pb.int, q F H _ _ (Same.refl F) r (.bl _) w⟩
    | _ => cases w
  | _ => cases b <;> cases w
theorem ow_fdiv : OpW K R (rI CDivW fun i j => .int (i / j)) gFdiv := ow_int fun a b k w => by
  cases a with
  | int i =>
    cases b with
    | int j => exact ⟨i, j, rfl, rfl, w⟩
    | _ => cases w
  | _ => cases b <;> cases w
theorem ow_mod : OpW K R (rI (fun _ j => 0 < j) fun i j => .int (i % j)) gMod := ow_int fun a b k w => by
  cases a with
  | int i =>
    cases b with
    | int j => exact ⟨i, j, rfl, rfl, w⟩
    | _ => cases w
  | _ => cases b <;> cases w
theorem ow_pow : OpW K R (rI CPow fun i j => .int (i ^ j.toNat)) gPow := ow_int fun a b k w => by
  cases a with
  | int i =>
    cases b with
    | int j => exact ⟨i, j, rfl, rfl, w⟩
    | _ => cases w
  | _ => cases b <;> cases w
theorem ce_fdiv (ha : CO X R a wa) (hb : CO X R b wb) : CE X R (.BinOp a .FloorDiv b pos) (wBin gFdiv wa wb) := ce_bin op_fdivW ow_fdiv ha hb
theorem ce_mod (ha : CO X R a wa) (hb : CO X R b wb) : CE X R (.BinOp a .Mod b pos) (wBin gMod wa wb) := ce_bin op_mod ow_mod ha hb
theorem ce_pow (ha : CO X R a wa) (hb : CO X R b wb) : CE X R (.BinOp a .Pow b pos) (wBin gPow wa wb) := ce_bin op_pow ow_pow ha hb
theorem tuple_mul1 (l : Addr) (items : Array Value) (n : Nat) (dd : Option Addr) (sl : Array (Option Value)) (u : Tok) :
    Meets (Builtin.«tuple.__mul__» ⟨[.ref l, .int 1 u], []⟩) (fun _ R s => s.heap.get? l = some { cls := .type "tuple", dict := dd, data := .seq items n, slots := sl } ∧
      R (.ok (.ret (Value.ref l))) s) :=
  .of_wp fun prog w A R s h => by
    obtain ⟨hp, g, d, tk, os⟩ := s
    obtain ⟨hl, h⟩ := h
    have f1 := AutoSeq1.idx_int
    wp_walk using wpAny_loadPart' hl
    have c1 : (items.isEmpty || (1 : Int) == 1) = true := by simp
    repeat (first
      | (refine wpAny_ite_false (by decide) ?_; wp_walk using wpAny_loadPart' hl)
      | (refine wpAny_ite_true (decide_eq_true c1) ?_; wp_walk using wpAny_loadPart' hl))
    exact ⟨_, rfl, h⟩
/-- a tuple once -/
def rRepT1 (K : PySem.W.Frag) : R2 := fun x y H Q => ∃ l xs, x = .ref l ∧ y = .int 1 ∧ SqT K H l xs ∧ Q (.ref l) H
theorem op_repT1 : OpR X (binaryOp .Mult) (rRepT1 X.K) := by
  intro pins s σ H x y v u Q I rx ry h
  obtain ⟨l, xs, rfl, rfl, hT, q⟩ := h
  cases rx
  obtain ⟨t, rfl⟩ := ry
  obtain ⟨its, r, ⟨⟨cls, dd, data, sl⟩, ho, hc, n, hd⟩, hs⟩ := I.tuple hT
  simp only at hc hd
  subst hc hd
  refine wpAny_binaryOp_repeat_ref (T := "tuple") (U := "int") (by decide) ⟨_, ho, rfl⟩ (fun s' => typeIs_int s' 1 t) noFill_tuple_mul F.fills_int_mul F.slot_int_rmul repeat_tuple F.slot_int_index.lookup
    (call_meets F.slot_int_rmul (typeIs_int s 1 t) F.entry_int_rmul (F.args_int_rmul_2 _ _) (int_rmul_tuple 1 t l its.toArray n dd sl)
      ⟨ho, rfl, ⟨_, ho, rfl⟩, call_meets F.slot_tuple_mul ⟨_, ho, rfl⟩ F.entry_tuple_mul (F.args_tuple_mul_2 _ _) (tuple_mul1 l its.toArray n dd sl t) ⟨ho, ?_⟩⟩)
  exact ⟨.ref l, H, I, rfl, q⟩
theorem tuple_mul0 (l : Addr) (items : Array Value) (n : Nat) (dd : Option Addr) (sl : Array (Option Value)) (u : Tok) (c1 : (items.isEmpty || (0 : Int) == 1) = false) :
    Meets (Builtin.«tuple.__mul__» ⟨[.ref l, .int 0 u], []⟩) (fun _ R s => s.heap.get? l = some { cls := .type "tuple", dict := dd, data := .seq items n, slots := sl } ∧
      R (.ok (.ret (Value.ref s.heap.objs.size))) { s with heap := s.heap.push { cls := Value.type "tuple", data := Data.seq #[] }, toks := s.toks }) :=
  .of_wp fun prog w A R s h => by
    obtain ⟨hp, g, d, tk, os⟩ := s
    obtain ⟨hl, h⟩ := h
    have f1 := AutoSeq1.idx_int
    wp_walk using wpAny_loadPart' hl
    have c2 : (decide ((0 : Int) ≤ 0) || items.isEmpty) = true := by simp
    repeat (first
      | (refine wpAny_ite_false (decide_eq_false (by rw [c1]; exact Bool.false_ne_true)) ?_; wp_walk using wpAny_loadPart' hl)
      | (refine wpAny_ite_true (decide_eq_true c2) ?_; wp_walk using wpAny_loadPart' hl)
      | (refine wpAny_ite_false (by decide) ?_; wp_walk using wpAny_loadPart' hl))
    exact ⟨_, rfl, h⟩
/-- a tuple no times -/
def rRepT0 (K : PySem.W.Frag) : R2 := fun x y H Q => ∃ l xs, x = .ref l ∧ y = .int 0 ∧ SqT K H l xs ∧ xs ≠ [] ∧ ∀ p, H p = none → Q (.ref p) (upd H p (.tup []))
theorem op_repT0 : OpR X (binaryOp .Mult) (rRepT0 X.K) := by
  intro pins s σ H x y v u Q I rx ry h
  obtain ⟨l, xs, rfl, rfl, hT, hne, q⟩ := h
  cases rx
  obtain ⟨t, rfl⟩ := ry
  obtain ⟨its, r, ⟨⟨cls, dd, data, sl⟩, ho, hc, n, hd⟩, hs⟩ := I.tuple hT
  simp only at hc hd
  subst hc hd
  have hle : its.length = xs.length := r.length.symm
  have hi : its.toArray.isEmpty = false := by
    cases its with
    | nil => exact absurd (List.eq_nil_of_length_eq_zero hle.symm) hne
    | cons a b => rfl
  have c1 : (its.toArray.isEmpty || (0 : Int) == 1) = false := by rw [hi]; rfl
  refine wpAny_binaryOp_repeat_ref (T := "tuple") (U := "int") (by decide) ⟨_, ho, rfl⟩ (fun s' => typeIs_int s' 0 t) noFill_tuple_mul F.fills_int_mul F.slot_int_rmul repeat_tuple F.slot_int_index.lookup
    (call_meets F.slot_int_rmul (typeIs_int s 0 t) F.entry_int_rmul (F.args_int_rmul_2 _ _) (int_rmul_tuple 0 t l its.toArray n dd sl)
      ⟨ho, rfl, ⟨_, ho, rfl⟩, call_meets F.slot_tuple_mul ⟨_, ho, rfl⟩ F.entry_tuple_mul (F.args_tuple_mul_2 _ _) (tuple_mul0 l its.toArray n dd sl t c1) ⟨ho, ?_⟩⟩)
  refine ⟨.ref s.heap.objs.size, _, I.laid (t' := s.toks) (o := .tup []) (fun b ob q => Heap.get?_push_of_some _ q) (Nat.le_refl _) ?_, rfl, q _ (I.hok.fresh (Nat.le_refl _))⟩
  exact ⟨Nat.zero_le _, [], .nil, IsTup.new _ _⟩
def rMulV (K : PySem.W.Frag) : R2 := fun x y H Q => rI CMulA (fun i j => .int (i * j)) x y H Q ∨ rRep x y H Q ∨ rRepT K x y H Q ∨ rRepT1 K x y H Q ∨ rRepT0 K x y H Q
theorem or_mul : OpR X (binaryOp .Mult) (rMulV X.K) := OpR.or (opI fun _ _ _ _ _ _ _ hc q => mul_int q hc.ok) (op_rep.or (op_repT.or (op_repT1.or op_repT0)))
theorem rpL_rep {F : Hp} {xs : List V} {ds : List PyData} (l : RpL K F xs ds) : ∀ n : Nat, RpL K F (List.replicate n xs).flatten (List.replicate n ds).flatten
  | 0 => .nil
  | n + 1 => by
    rw [List.replicate_succ, List.replicate_succ, List.flatten_cons, List.flatten_cons]
    exact l.append (rpL_rep l n)
theorem ow_mul : OpW K R (rMulV K) gMul := by
  intro F env σ H x y a b k Q r pa pb w q
  cases a with
  | int i =>
    cases b with
    | int j => exact .inl ⟨i, j, pa.int, pb.int, w.1, q F H _ _ (Same.refl F) r (.int _) w.2⟩
    | _ => cases w
  | list ds =>
    cases b with
    | int j =>
      obtain ⟨⟨h1, h2, h3⟩, w⟩ := w
      obtain ⟨p, xs, rfl, ha, la⟩ := pa.lst r.sub
      refine .inr (.inl ⟨_, j, _, rfl, pb.int, ha, h1, h2, by rw [la.length]; exact h3, fun p hp => ?_⟩)
      obtain ⟨ff, r2, p2⟩ := new_lst r hp (rpL_rep la j.toNat)
      exact q _ _ _ _ ff r2 p2 w
    | _ => cases w
  | tuple ds =>
    cases b with
    | int j =>
      obtain ⟨⟨h1, h2, h3, h4⟩, w⟩ := w
      obtain ⟨p, xs, rfl, ha, la, pr⟩ := pa.tup r.sub
      by_cases j1 : j = 1
      · subst j1
        have e : (List.replicate (1 : Int).toNat ds).flatten = ds := by simp
        rw [e] at w
        exact .inr (.inr (.inr (.inl ⟨_, _, rfl, pb.int, ha, q F H _ _ (Same.refl F) r pr w⟩)))
      by_cases j0 : j = 0
      · subst j0
        refine .inr (.inr (.inr (.inr ⟨_, _, rfl, pb.int, ha, fun z => h1 (by subst z; cases la; rfl), fun p hp => ?_⟩)))
        obtain ⟨ff, r2, p2⟩ := new_tup r hp (rpL_rep la 0)
        exact q _ _ _ _ ff r2 p2 w
      · refine .inr (.inr (.inl ⟨_, j, _, rfl, pb.int, ha, fun z => h1 ?_, by omega, h3, by rw [la.length]; exact h4, fun p hp => ?_⟩))
        · subst z; cases la; rfl
        · obtain ⟨ff, r2, p2⟩ := new_tup r hp (rpL_rep la j.toNat)
          exact q _ _ _ _ ff r2 p2 w
    | _ => cases w
  | _ => cases b <;> cases w
theorem ce_mul (ha : CO X R a wa) (hb : CO X R b wb) : CE X R (.BinOp a .Mult b pos) (wBin gMul wa wb) := ce_bin or_mul ow_mul ha hb

@[simp ↓] def gLt : G2 := gCmp fun i j => decide (i < j)
@[simp ↓] def gLe : G2 := gCmp fun i j => decide (i ≤ j)
@[simp ↓] def gGt : G2 := gCmp fun i j => decide (j < i)
@[simp ↓] def gGe : G2 := gCmp fun i j => decide (j ≤ i)
theorem ow_lt : OpW K R (rI0 fun i j => .bl (decide (i < j))) gLt := ow_cmp
theorem ow_le : OpW K R (rI0 fun i j => .bl (decide (i ≤ j))) gLe := ow_cmp
theorem ow_gt : OpW K R (rI0 fun i j => .bl (decide (j < i))) gGt := ow_cmp
theorem ow_ge : OpW K R (rI0 fun i j => .bl (decide (j ≤ i))) gGe := ow_cmp
theorem ow_eq : OpW K R (rEqD K) gEq := fun F env σ H x y a b k Q r pa pb w q =>
  ⟨a, b, pa.dp r.sub, pb.dp r.sub, w.1, w.2.1, q F H _ _ (Same.refl F) r (.bl _) w.2.2⟩
theorem ow_ne : OpW K R (rNeD K) gNe := fun F env σ H x y a b k Q r pa pb w q =>
  ⟨a, b, pa.dp r.sub, pb.dp r.sub, w.1, w.2.1, q F H _ _ (Same.refl F) r (.bl _) w.2.2⟩
def rIsV : R2 := fun x y H Q => (y = .non ∧ Q (.bl (decide (x = .non))) H) ∨ rIsB x y H Q
def rIsNotV : R2 := fun x y H Q => (y = .non ∧ Q (.bl (!decide (x = .non))) H) ∨ rNotB x y H Q
theorem or_is : OpR X (compareOp .Is) rIsV := op_isN.or op_isBl
theorem or_isnot : OpR X (compareOp .IsNot) rIsNotV := op_notN.or op_notBl
theorem isNon_eq {F H : Hp} {x : V} {a : PyData} (p : Br K F H x a) : decide (x = V.non) = isNon a := by
  cases p with
  | rp p => cases p <;> first | rfl | exact decide_eq_false (fun z => nomatch z)
  | ol _ _ => exact decide_eq_false (fun z => nomatch z)
theorem ow_is : OpW K R rIsV gIs := by
  intro F env σ H x y a b k Q r pa pb w q
  cases b with
  | none =>
    refine .inl ⟨pb.non, ?_⟩
    rw [isNon_eq pa]
    exact q F H _ _ (Same.refl F) r (.bl _) (by cases a <;> exact w)
  | bool t =>
    cases a with
    | bool s => exact .inr ⟨s, t, pa.bl, pb.bl, q F H _ _ (Same.refl F) r (.bl _) w⟩
    | _ => cases w
  | _ => cases a <;> cases w
theorem ow_isnot : OpW K R rIsNotV gIsNot := by
  intro F env σ H x y a b k Q r pa pb w q
  cases b with
  | none =>
    refine .inl ⟨pb.non, ?_⟩
    rw [isNon_eq pa]
    exact q F H _ _ (Same.refl F) r (.bl _) (by cases a <;> exact w)
  | bool t =>
    cases a with
    | bool s => exact .inr ⟨s, t, pa.bl, pb.bl, q F H _ _ (Same.refl F) r (.bl _) w⟩
    | _ => cases w
  | _ => cases a <;> cases w
end ce
end VL
set_option Elab.async false
set_option linter.all false
set_option maxRecDepth 100000
/-! VL2: tests, displays, subscripts, slices, calls of built-ins. -/
namespace VL
open PySem PySem.Spec PyProof.Rows L2
variable {τ : Tau}

/-! ### truth -/
@[simp ↓] def gTru (d : PyData) (k : Bool → Prop) : Prop := match d with
  | .none => k false
  | .bool b => k b
  | .int i => k (i != 0)
  | .str s => s.length ≤ sizeLine ∧ k ((s.length : Int) != 0)
  | .list xs => k (!xs.isEmpty)
  | .tuple xs => k (!xs.isEmpty)
  | .dict _ => False
theorem rpL_empty {K : PySem.W.Frag} {F : Hp} {xs : List V} {ds : List PyData} (l : RpL K F xs ds) : ds.isEmpty = xs.isEmpty := by cases l <;> rfl
theorem tru_br {K : PySem.W.Frag} {F H : Hp} {x : V} {d : PyData} {k : Bool → Prop} (s : Same F H) (h : Br K F H x d) (w : gTru d k) : ∃ b, TruV K x H b ∧ k b := by
  cases d with
  | none => rw [h.non]; exact ⟨false, rfl, w⟩
  | bool b => rw [h.bl]; exact ⟨b, rfl, w⟩
  | int i => rw [h.int]; exact ⟨_, rfl, w⟩
  | str z => rw [h.str]; exact ⟨_, ⟨w.1, rfl⟩, w.2⟩
  | list ds =>
    obtain ⟨a, xs, rfl, h1, l⟩ := h.lst s
    exact ⟨_, .inl ⟨xs, .inl (.inl h1), rfl⟩, by rw [← rpL_empty l]; exact w⟩
  | tuple ds =>
    obtain ⟨a, xs, rfl, h1, l, _⟩ := h.tup s
    exact ⟨_, .inr (.inl ⟨xs, h1, rfl⟩), by rw [← rpL_empty l]; exact w⟩
  | dict _ => cases w

section tests
variable {X : Cx} {R : Root τ} {a b c e : Expr} {rest : List Expr} {wa wb wc : WT} {we wf : WE} {wo : WO} {pos : Pos}
@[simp ↓] def wTru (wo : WO) : WT := fun env Q => wo env fun o e1 => res e1 o fun d => gTru d fun b => Q b e1
theorem ct_tru (h : CO X R e wo) (he : ∀ whole, isTrue e X.env whole = (do let v ← whole; standAt e.pos; holding [v] (truthy v)) := by intro _; rfl) : CT X R e (wTru wo) :=
  pt_imp (pt_truth h he) fun σ H Q ⟨F, env, Qw, r, w, k⟩ => ⟨F, env, _, r, w, fun F1 e1 H1 x o f1 r1 p1 w1 => by
    obtain ⟨d, b1, w2⟩ := res_ok r1 p1 w1
    obtain ⟨b, t, w3⟩ := tru_br r1.sub b1 w2
    exact ⟨b, t, k F1 e1 H1 b f1 r1 w3⟩⟩
@[simp ↓] def wAndT (wa wb : WT) : WT := fun env Q => wa env fun c e1 => if c = true then wb e1 Q else Q false e1
@[simp ↓] def wOrT (wa wb : WT) : WT := fun env Q => wa env fun c e1 => if c = true then Q true e1 else wb e1 Q
@[simp ↓] def wNotT (wa : WT) : WT := fun env Q => wa env fun c e1 => Q (!c) e1
theorem cw_one_and (ha : CT X R a wa) : CW X R (.BoolOp .And [a] pos) wa := pw_and1 ha
theorem cw_one_or (ha : CT X R a wa) : CW X R (.BoolOp .Or [a] pos) wa := pw_or1 ha
theorem cw_and (ha : CT X R a wa) (hb : CW X R (.BoolOp .And (b :: rest) pos) wb) : CW X R (.BoolOp .And (a :: b :: rest) pos) (wAndT wa wb) :=
  pw_imp (pw_and ha hb) fun σ H Q ⟨F, env, Qw, r, w, k⟩ => ⟨F, env, _, r, w, fun F1 e1 H1 c f1 r1 w1 => by
    cases c with
    | true => exact ⟨F1, e1, _, r1, w1, fun F2 e2 H2 c f2 r2 w2 => k F2 e2 H2 c (f1.trans f2) r2 w2⟩
    | false => exact k F1 e1 H1 false f1 r1 w1⟩
theorem cw_or (ha : CT X R a wa) (hb : CW X R (.BoolOp .Or (b :: rest) pos) wb) : CW X R (.BoolOp .Or (a :: b :: rest) pos) (wOrT wa wb) :=
  pw_imp (pw_or ha hb) fun σ H Q ⟨F, env, Qw, r, w, k⟩ => ⟨F, env, _, r, w, fun F1 e1 H1 c f1 r1 w1 => by
    cases c with
    | false => exact ⟨F1, e1, _, r1, w1, fun F2 e2 H2 c f2 r2 w2 => k F2 e2 H2 c (f1.trans f2) r2 w2⟩
    | true => exact k F1 e1 H1 true f1 r1 w1⟩
theorem ct_not (ha : CT X R a wa) : CT X R (.UnaryOp .Not a pos) (wNotT wa) :=
  pt_imp (pt_not ha) fun σ H Q ⟨F, env, Qw, r, w, k⟩ => ⟨F, env, _, r, w, fun F1 e1 H1 c f1 r1 w1 => k F1 e1 H1 (!c) f1 r1 w1⟩
/-! .. as values -/
@[simp ↓] def wAndV (wa wb : WE) : WE := fun env Q => wa env fun x e1 => gTru x fun c => if c = true then wb e1 Q else Q x e1
@[simp ↓] def wOrV (wa wb : WE) : WE := fun env Q => wa env fun x e1 => gTru x fun c => if c = true then Q x e1 else wb e1 Q
@[simp ↓] def wNotV (wo : WO) : WE := fun env Q => wo env fun o e1 => res e1 o fun d => gTru d fun b => Q (.bool (!b)) e1
theorem ce_one {op} (ha : CE X R a we) : CE X R (.BoolOp op [a] pos) we := pe_one ha
theorem ce_and (ha : CE X R a we) (hb : CE X R (.BoolOp .And (b :: rest) pos) wf) : CE X R (.BoolOp .And (a :: b :: rest) pos) (wAndV we wf) :=
  pe_imp (pe_andT ha hb) fun σ H Q ⟨F, env, Qw, r, w, k⟩ => ⟨F, env, _, r, w, fun F1 e1 H1 x d f1 r1 p1 w1 => by
    obtain ⟨c, t, w2⟩ := tru_br r1.sub (.rp p1) w1
    refine ⟨c, t, ?_⟩
    cases c with
    | true => exact ⟨F1, e1, _, r1, w2, fun F2 e2 H2 x d f2 r2 p2 w2 => k F2 e2 H2 x d (f1.trans f2) r2 p2 w2⟩
    | false => exact k F1 e1 H1 x d f1 r1 p1 w2⟩
theorem ce_or (ha : CE X R a we) (hb : CE X R (.BoolOp .Or (b :: rest) pos) wf) : CE X R (.BoolOp .Or (a :: b :: rest) pos) (wOrV we wf) :=
  pe_imp (pe_orT ha hb) fun σ H Q ⟨F, env, Qw, r, w, k⟩ => ⟨F, env, _, r, w, fun F1 e1 H1 x d f1 r1 p1 w1 => by
    obtain ⟨c, t, w2⟩ := tru_br r1.sub (.rp p1) w1
    refine ⟨c, t, ?_⟩
    cases c with
    | false => exact ⟨F1, e1, _, r1, w2, fun F2 e2 H2 x d f2 r2 p2 w2 => k F2 e2 H2 x d (f1.trans f2) r2 p2 w2⟩
    | true => exact k F1 e1 H1 x d f1 r1 p1 w2⟩
theorem ce_not (ha : CO X R a wo) : CE X R (.UnaryOp .Not a pos) (wNotV wo) :=
  pe_imp (pe_notT ha) fun σ H Q ⟨F, env, Qw, r, w, k⟩ => ⟨F, env, _, r, w, fun F1 e1 H1 x o f1 r1 p1 w1 => by
    obtain ⟨d, b1, w2⟩ := res_ok r1 p1 w1
    obtain ⟨b, t, w3⟩ := tru_br r1.sub b1 w2
    exact ⟨b, t, k F1 e1 H1 _ _ f1 r1 (.bl _) w3⟩⟩
@[simp ↓] def wIf (wc : WT) (wa wb : WE) : WE := fun env Q => wc env fun c e1 => if c = true then wa e1 Q else wb e1 Q
theorem ce_if (hc : CT X R c wc) (ha : CE X R a we) (hb : CE X R b wf) : CE X R (.IfExp c a b pos) (wIf wc we wf) :=
  pe_imp (pe_ifExp hc ha hb) fun σ H Q ⟨F, env, Qw, r, w, k⟩ => ⟨F, env, _, r, w, fun F1 e1 H1 c f1 r1 w1 => by
    cases c with
    | true => exact ⟨F1, e1, _, r1, w1, fun F2 e2 H2 x d f2 r2 p2 w2 => k F2 e2 H2 x d (f1.trans f2) r2 p2 w2⟩
    | false => exact ⟨F1, e1, _, r1, w1, fun F2 e2 H2 x d f2 r2 p2 w2 => k F2 e2 H2 x d (f1.trans f2) r2 p2 w2⟩⟩
end tests

/-! ### fresh results -/
section fresh
variable {X : Cx} {R : Root τ} {K : PySem.W.Frag} {F H : Hp} {env : PEnv} {σ : L2.St} {e : Expr}
/-- a new list that nobody else has becomes frozen -/
theorem frzX {x : V} {ds : List PyData} (r : Rel K R F env σ H) (h : SlotOk K R F H x (.ol ds)) (fr : Fresh env σ x (.ol ds)) : ∃ F', Same F F' ∧ Rel K R F' env σ H ∧ Rp K F' x (.list ds) := by
  obtain ⟨a, xs, rfl, ow, h2, h3⟩ := h
  have ff := same_frz (o := .lst xs) ow.1
  refine ⟨upd F a (.lst xs), ff, { r.toBase.frz ow.1 h2 rfl ow.2.1 ow.2.2 with len := r.len, sl := fun j s e => ?_, dis := r.dis }, .lst upd_same (rpL_mono ff _ _ h3)⟩
  obtain ⟨y, h4, h5⟩ := r.sl j s e
  refine ⟨y, h4, h5.frz ow.1 fun o z => ?_⟩
  subst z
  exact fr rfl j s a e o h4 rfl
/-- a fresh result as a value -/
@[simp ↓] def wVal (w : WF) : WE := fun env Q => w env fun s e1 => match s with
  | .fz d => Q d e1
  | .ol ds => Q (.list ds) e1
  | _ => False
theorem ce_cf {w : WF} (h : CF X R e w) : CE X R e (wVal w) := pe_imp h fun σ H Q ⟨F, env, Qw, r, w, k⟩ => ⟨F, env, _, r, w, fun F1 e1 H1 x s f1 r1 p1 fr w1 => by
  cases s with
  | fz d => exact k F1 e1 H1 x d f1 r1 p1 w1
  | ol ds =>
    obtain ⟨F2, f2, r2, p2⟩ := frzX r1 p1 fr
    exact k F2 e1 H1 x _ (f1.trans f2) r2 p2 w1
  | _ => cases w1⟩
@[simp ↓] def wFz (w : WE) : WF := fun env Q => w env fun d e1 => Q (.fz d) e1
theorem cf_ce {w : WE} (h : CE X R e w) : CF X R e (wFz w) := pe_imp h fun σ H Q ⟨F, env, Qw, r, w, k⟩ => ⟨F, env, _, r, w, fun F1 e1 H1 x d f1 r1 p1 w1 => k F1 e1 H1 x (.fz d) f1 r1 p1 (fun z => nomatch z) w1⟩
theorem new_ol {xs : List V} {ds : List PyData} {p : Addr} (r : Rel K R F env σ H) (hp : H p = none) (l : RpL K F xs ds) :
    Rel K R F env σ (upd H p (.lst xs)) ∧ SlotOk K R F (upd H p (.lst xs)) (.ref p) (.ol ds) ∧ Fresh env σ (.ref p) (.ol ds) := by
  have hF : F p = none := by
    cases q : F p with
    | none => rfl
    | some o => have := r.sub p o q; rw [hp] at this; cases this
  have h0 : R.H0 p = none := by
    cases q : R.H0 p with
    | none => rfl
    | some u =>
      cases ht : isTbl u with
      | true =>
        cases u <;> first | cases ht | skip
        obtain ⟨m, e⟩ := r.tabs _ _ q
        rw [hp] at e; cases e
      | false =>
        by_cases hd : R.d = some p
        · obtain ⟨_, _, ns, e, _⟩ := r.drw p hd
          rw [hp] at e; cases e
        · have e := r.frame p u q ht hd
          rw [hp] at e; cases e
  have hk : R.keep p = none := by
    cases q : R.keep p with
    | none => rfl
    | some u =>
      have e := (r.kp p u q).1
      rw [hp] at e; cases e
  exact ⟨r.up (r.allocO hp rfl) (Same.refl F), ⟨p, xs, rfl, ⟨hF, h0, hk⟩, upd_same, l⟩, r.fresh hp _⟩
end fresh

/-! ### argument lists, displays -/
section disp
variable {X : Cx} {R : Root τ} {e : Expr} {es : List Expr} {we : WE} {wr : WA} {pos p : Pos}
@[simp ↓] def wNil : WA := fun env Q => Q [] env
@[simp ↓] def wCons (we : WE) (wr : WA) : WA := fun env Q => we env fun x e1 => wr e1 fun xs e2 => Q (x :: xs) e2
@[simp ↓] def wStar (we : WE) (wr : WA) : WA := fun env Q => we env fun x e1 => match x with
  | .tuple xs => wr e1 fun ys e2 => Q (xs ++ ys) e2
  | .list xs => wr e1 fun ys e2 => Q (xs ++ ys) e2
  | _ => False
theorem ca_nil : CA X R [] wNil := pa_imp pa_nil fun σ H Q ⟨F, env, Qw, r, w, k⟩ => k F env H [] [] (Same.refl F) r .nil w
theorem ca_cons (ha : CE X R e we) (hr : CA X R es wr) (hs : starEach (e :: es) X.env = (false, eval e X.env) :: starEach es X.env := by rfl) : CA X R (e :: es) (wCons we wr) :=
  pa_imp (pa_cons ha hr hs) fun σ H Q ⟨F, env, Qw, r, w, k⟩ => ⟨F, env, _, r, w, fun F1 e1 H1 x d f1 r1 p1 w1 => ⟨F1, e1, _, r1, w1, fun F2 e2 H2 xs ds f2 r2 p2 w2 =>
    k F2 e2 H2 (x :: xs) (d :: ds) (f1.trans f2) r2 (.cons (rp_mono f2 _ _ p1) p2) w2⟩⟩
theorem ca_star (ha : CE X R e we) (hr : CA X R es wr) (hs : starEach (.Starred e p :: es) X.env = (true, eval e X.env) :: starEach es X.env := by rfl) : CA X R (.Starred e p :: es) (wStar we wr) :=
  pa_imp (StX.pa_star ha hr hs) fun σ H Q ⟨F, env, Qw, r, w, k⟩ => ⟨F, env, _, r, w, fun F1 e1 H1 x d f1 r1 p1 w1 => by
    cases p1 with
    | lst h l =>
      exact ⟨_, _, rfl, .inr (.inl (.inl (r1.sub _ _ h))), F1, e1, _, r1, w1, fun F2 e2 H2 ys es f2 r2 p2 w2 => k F2 e2 H2 _ _ (f1.trans f2) r2 ((rpL_mono f2 _ _ l).append p2) w2⟩
    | tup h l =>
      exact ⟨_, _, rfl, .inl (seqT_mono r1.sub h.sq), F1, e1, _, r1, w1, fun F2 e2 H2 ys es f2 r2 p2 w2 => k F2 e2 H2 _ _ (f1.trans f2) r2 ((rpL_mono f2 _ _ l).append p2) w2⟩
    | _ => cases w1⟩
@[simp ↓] def wTup (wr : WA) : WE := fun env Q => wr env fun ds e1 => ds.length ≤ sizeLine ∧ Q (.tuple ds) e1
theorem ce_tup {x1} (h : CA X R es wr) : CE X R (.Tuple es x1 pos) (wTup wr) := pe_imp (pe_tup h) fun σ H Q ⟨F, env, Qw, r, w, k⟩ => ⟨F, env, _, r, w, fun F1 e1 H1 xs ds f1 r1 p1 ⟨hz, w1⟩ =>
  ⟨by rw [p1.length]; exact hz, fun p hp => by
    obtain ⟨f2, r2, p2⟩ := new_tup r1 hp p1
    exact k _ _ _ _ _ (f1.trans f2) r2 p2 w1⟩⟩
@[simp ↓] def wLst (wr : WA) : WF := fun env Q => wr env fun ds e1 => ds.length ≤ sizeLine ∧ Q (.ol ds) e1
theorem cf_lst (h : CA X R es wr) : CF X R (.List es pos) (wLst wr) := pe_imp (pe_lst h) fun σ H Q ⟨F, env, Qw, r, w, k⟩ => ⟨F, env, _, r, w, fun F1 e1 H1 xs ds f1 r1 p1 ⟨hz, w1⟩ =>
  ⟨by rw [p1.length]; exact hz, fun p hp => by
    obtain ⟨r2, p2, fr⟩ := new_ol r1 hp p1
    exact k _ _ _ _ _ f1 r2 p2 fr w1⟩⟩
end disp

/-! ### subscripts, slices -/
section ix
variable {X : Cx} {R : Root τ} {K : PySem.W.Frag} {a b : Expr} {wa wb : WO} {pos p2 : Pos} {lo hi : Option Expr}
@[simp ↓] def gIx : G2 := fun a b k => match a, b with
  | .list ds, .int i => ∃ d, atI ds i = some d ∧ k d
  | .tuple ds, .int i => ∃ d, atI ds i = some d ∧ k d
  | .str z, .int i => z.length ≤ sizeLine ∧ ∃ c, atI z.cps.toList i = some c ∧ k (.str ⟨#[c]⟩)
  | _, _ => False
def rIxV (K : PySem.W.Frag) : R2 := fun x y H Q => rIxL K x y H Q ∨ rIxT K x y H Q ∨ rIxS x y H Q
theorem IxR.or {r r' : R2} (h : IxR X r) (h' : IxR X r') : IxR X (fun x y H Q => r x y H Q ∨ r' x y H Q) := by
  intro value slice pins s σ H x y v u Q I rx ry q hs
  rcases q with q | q
  · exact h value slice pins s σ H x y v u Q I rx ry q hs
  · exact h' value slice pins s σ H x y v u Q I rx ry q hs
theorem or_ix : IxR X (rIxV X.K) := IxR.or ix_list (IxR.or ix_tup ix_str)
theorem atI_len {α β : Type} {xs : List α} {ys : List β} (h : xs.length = ys.length) {i : Int} {y : β} (e : atI ys i = some y) : ∃ (j : Nat) (x : α), atI xs i = some x ∧ xs[j]? = some x ∧ ys[j]? = some y := by
  unfold atI at e ⊢
  rw [h]
  cases q : ixN ys.length i with
  | none => rw [q] at e; cases e
  | some j =>
    rw [q] at e
    have e : ys[j]? = some y := e
    have hj : j < xs.length := by rw [h]; exact (List.getElem?_eq_some_iff.mp e).1
    exact ⟨j, xs[j], List.getElem?_eq_getElem hj, List.getElem?_eq_getElem hj, e⟩
theorem ow_ix : OpW K R (rIxV K) gIx := by
  intro F env σ H x y a b k Q r pa pb w q
  cases a with
  | list ds =>
    cases b with
    | int i =>
      obtain ⟨d, hd, w⟩ := w
      obtain ⟨p, xs, rfl, ha, la⟩ := pa.lst r.sub
      obtain ⟨j, v, e1, e2, e3⟩ := atI_len la.length hd
      obtain ⟨d', e4, rv⟩ := la.get e2
      rw [e3] at e4; cases e4
      exact .inl ⟨p, xs, i, v, rfl, pb.int, .inl (.inl ha), e1, q F H _ _ (Same.refl F) r rv w⟩
    | _ => cases w
  | tuple ds =>
    cases b with
    | int i =>
      obtain ⟨d, hd, w⟩ := w
      obtain ⟨p, xs, rfl, ha, la, _⟩ := pa.tup r.sub
      obtain ⟨j, v, e1, e2, e3⟩ := atI_len la.length hd
      obtain ⟨d', e4, rv⟩ := la.get e2
      rw [e3] at e4; cases e4
      exact .inr (.inl ⟨p, xs, i, v, rfl, pb.int, ha, e1, q F H _ _ (Same.refl F) r rv w⟩)
    | _ => cases w
  | str z =>
    cases b with
    | int i =>
      obtain ⟨hz, c, hc, w⟩ := w
      exact .inr (.inr ⟨z, i, c, pa.str, pb.int, hz, hc, q F H _ _ (Same.refl F) r (.str _) w⟩)
    | _ => cases w
  | _ => cases b <;> cases w
theorem ce_ix (ha : CO X R a wa) (hb : CO X R b wb) (hs : PlainIx b) : CE X R (.Subscript a b pos) (wBin gIx wa wb) := pe_imp (pe_ix or_ix ha hb hs) (wBin_rd ow_ix)
/-- the items of a slice -/
def cutD (xs : List PyData) (lo hi : Option Int) : List PyData := (xs.drop (HT.sIx xs.length 0 lo)).take (HT.sIx xs.length xs.length hi - HT.sIx xs.length 0 lo)
theorem rpL_cut {F : Hp} {xs : List V} {ds : List PyData} (l : RpL K F xs ds) (lo hi : Option Int) : RpL K F (cutV xs lo hi) (cutD ds lo hi) := by
  unfold cutV cutD
  rw [← l.length]
  exact (l.drop _).take _
theorem cutD_whole {ds : List PyData} {lo hi : Option Int} (h : HT.sIx ds.length 0 lo = 0 ∧ HT.sIx ds.length ds.length hi = ds.length) : cutD ds lo hi = ds := by
  unfold cutD
  rw [h.1, h.2, List.drop_zero, Nat.sub_zero, List.take_length]
abbrev WOp := PEnv → (Option Int → PEnv → Prop) → Prop
def rdOp (K : PySem.W.Frag) (R : Root τ) (w : WOp) : TO := fun σ H Q => ∃ F env Qw, Rel K R F env σ H ∧ w env Qw ∧ ∀ F' env' H' o, Same F F' → Rel K R F' env' σ H' → Qw o env' → Q o H'
abbrev CP (X : Cx) (R : Root τ) (e : Option Expr) (w : WOp) : Prop := PO X e (rdOp X.K R w)
@[simp ↓] def wNo : WOp := fun env Q => Q none env
@[simp ↓] def wSome (w : WE) : WOp := fun env Q => w env fun x e1 => match x with
  | .int i => Q (some i) e1
  | _ => False
theorem cp_none : CP X R none wNo := ⟨fun pins s σ H Q I ⟨F, env, Qw, r, w, k⟩ => po_none.run pins s σ H Q I (k F env H none (Same.refl F) r w)⟩
theorem cp_some {e : Expr} {w : WE} (h : CE X R e w) : CP X R (some e) (wSome w) := ⟨fun pins s σ H Q I ⟨F, env, Qw, r, w, k⟩ => (po_some h).run pins s σ H Q I ⟨F, env, _, r, w, fun F1 e1 H1 x d f1 r1 p1 w1 => by
  cases p1 with
  | int i => exact ⟨i, rfl, k F1 e1 H1 _ f1 r1 w1⟩
  | _ => cases w1⟩⟩
def rSlV (K : PySem.W.Frag) : V → Option Int → Option Int → Hp → VK → Prop := fun x lo hi H Q => rSlL K x lo hi H Q ∨ rSlA K x lo hi H Q
theorem or_sl : SlR X (rSlV X.K) := sl_list.or sl_tupA
/-- a slice: of a list a new one -/
@[simp ↓] def wSl (wa : WO) (wl wh : WOp) : WF := fun env Q => wa env fun o e1 => wl e1 fun l e2 => wh e2 fun h e3 => res e3 o fun d => match d with
  | .list ds => Q (.ol (cutD ds l h)) e3
  | .tuple ds => Q (.fz (.tuple (cutD ds l h))) e3
  | _ => False
theorem cf_sl {wl wh : WOp} (ha : CO X R a wa) (hl : CP X R lo wl) (hh : CP X R hi wh) : CF X R (.Subscript a (.Slice lo hi none p2) pos) (wSl wa wl wh) :=
  pe_imp (pe_slice or_sl ha hl hh) fun σ H Q ⟨F, env, Qw, r, w, k⟩ => ⟨F, env, _, r, w, fun F1 e1 H1 x o f1 r1 p1 w1 => ⟨F1, e1, _, r1, w1, fun F2 e2 H2 l f2 r2 w2 => ⟨F2, e2, _, r2, w2, fun F3 e3 H3 h f3 r3 w3 => by
    obtain ⟨d, b1, w4⟩ := res_ok r3 (p1.mono (f2.trans f3)) w3
    have ff := (f1.trans f2).trans f3
    cases d with
    | list ds =>
      obtain ⟨a, xs, rfl, ha, la⟩ := b1.lst r3.sub
      refine .inl ⟨a, xs, rfl, .inl (.inl ha), fun p hp => ?_⟩
      obtain ⟨r4, p4, fr⟩ := new_ol r3 hp (rpL_cut la l h)
      exact k F3 e3 _ _ _ ff r4 p4 fr w4
    | tuple ds =>
      obtain ⟨a, xs, rfl, ha, la, pr⟩ := b1.tup r3.sub
      refine .inr ⟨a, xs, rfl, ha, fun hw => ?_, fun hw p hp => ?_⟩
      · have w4 : Qw (.fz (.tuple (cutD ds l h))) e3 := w4
        rw [la.length] at hw
        rw [cutD_whole hw] at w4
        exact k F3 e3 _ _ (.fz _) ff r3 pr (fun z => nomatch z) w4
      · have w4 : Qw (.fz (.tuple (cutD ds l h))) e3 := w4
        obtain ⟨f4, r4, p4⟩ := new_tup r3 hp (rpL_cut la l h)
        exact k _ e3 _ _ (.fz _) (ff.trans f4) r4 p4 (fun z => nomatch z) w4
    | _ => cases w4⟩⟩⟩
/-- xs[::-1] of a list -/
@[simp ↓] def wRevL (wa : WO) : WF := fun env Q => wa env fun o e1 => res e1 o fun d => match d with
  | .list ds => Q (.ol ds.reverse) e1
  | _ => False
theorem cf_revL {k : Nat} {p1 p2 p3 pos : Pos} (ha : CO X R a wa) : CF X R (.Subscript a (.Slice none none (some (.UnaryOp .USub (.Constant (.int 1) k p1) p2)) p3) pos) (wRevL wa) :=
  pe_imp (pe_revL ha) fun σ H Q ⟨F, env, Qw, r, w, k⟩ => ⟨F, env, _, r, w, fun F1 e1 H1 x o f1 r1 p1 w1 => by
    obtain ⟨d, b1, w4⟩ := res_ok r1 p1 w1
    cases d with
    | list ds =>
      obtain ⟨a, xs, rfl, ha, la⟩ := b1.lst r1.sub
      refine ⟨a, xs, rfl, .inl (.inl ha), fun p hp => ?_⟩
      obtain ⟨r4, p4, fr⟩ := new_ol r1 hp la.reverse
      exact k F1 e1 _ _ _ f1 r4 p4 fr w4
    | _ => cases w4⟩
end ix

/-! ### calls of built-ins -/
section call
variable {X : Cx} {R : Root τ} {K : PySem.W.Frag} {e : Expr} {es : List Expr} {ws : WOs} {x : Str} {p pos : Pos} {id T : String} {r : List V → Hp → VK → Prop}
abbrev GA := List PyData → (PyData → Prop) → Prop
abbrev GF := List PyData → (Slot → Prop) → Prop
def CallW (K : PySem.W.Frag) (R : Root τ) (r : List V → Hp → VK → Prop) (g : GA) : Prop :=
  ∀ (F : Hp) (env : PEnv) (σ : L2.St) (H : Hp) (xs : List V) (ds : List PyData) (k : PyData → Prop) (Q : VK), Rel K R F env σ H → BrL K F H xs ds → g ds k →
    (∀ F' H' z d, Same F F' → Rel K R F' env σ H' → Rp K F' z d → k d → Q z H') → r xs H Q
def CallV (K : PySem.W.Frag) (R : Root τ) (r : List V → Hp → VK → Prop) (g : GF) : Prop :=
  ∀ (F : Hp) (env : PEnv) (σ : L2.St) (H : Hp) (xs : List V) (ds : List PyData) (k : Slot → Prop) (Q : VK), Rel K R F env σ H → BrL K F H xs ds → g ds k →
    (∀ F' H' z s, Same F F' → Rel K R F' env σ H' → SlotOk K R F' H' z s → Fresh env σ z s → k s → Q z H') → r xs H Q
@[simp ↓] def wCallB (g : GA) (ws : WOs) : WE := fun env Q => ws env fun os e1 => ress e1 os fun ds => g ds fun z => Q z e1
@[simp ↓] def wCallF (g : GF) (ws : WOs) : WF := fun env Q => ws env fun os e1 => ress e1 os fun ds => g ds fun z => Q z e1
theorem wCallB_rd {g : GA} (hw : CallW X.K R r g) : ∀ σ H Q, rdE X.K R (wCallB g ws) σ H Q → tCB r (rdOs X.K R ws) σ H Q := fun σ H Q ⟨F, env, Qw, r0, w, k⟩ =>
  ⟨F, env, _, r0, w, fun F1 e1 H1 xs os f1 r1 p1 w1 => by
    obtain ⟨ds, b1, w2⟩ := ress_ok r1 p1 w1
    exact hw F1 e1 σ H1 xs ds _ Q r1 b1 w2 fun F2 H2 z d f2 r2 p2 w2 => k F2 e1 H2 z d (f1.trans f2) r2 p2 w2⟩
theorem wCallF_rd {g : GF} (hw : CallV X.K R r g) : ∀ σ H Q, rdF X.K R (wCallF g ws) σ H Q → tCB r (rdOs X.K R ws) σ H Q := fun σ H Q ⟨F, env, Qw, r0, w, k⟩ =>
  ⟨F, env, _, r0, w, fun F1 e1 H1 xs os f1 r1 p1 w1 => by
    obtain ⟨ds, b1, w2⟩ := ress_ok r1 p1 w1
    exact hw F1 e1 σ H1 xs ds _ Q r1 b1 w2 fun F2 H2 z d f2 r2 p2 fr w2 => k F2 e1 H2 z d (f1.trans f2) r2 p2 fr w2⟩
theorem ce_callB {g : GA} (hc : CallR X (.builtin id) r) (hw : CallW X.K R r g) (hg : Gl X x) (hm : X.mg x = none) (hv : bootBuiltins x = some (.builtin id)) (ha : COs X R (e :: es) ws) (hn : x ≠ "__name__" := by decide) (hdb : (x == ("__debug__" : Str)) = false := by decide)
    (he : starEach (e :: es) X.env = (false, eval e X.env) :: starEach es X.env := by rfl) (hpl : (backTo pos (starEach es X.env)).any (·.1) = false := by rfl) : CE X R (.Call (.Name x p) (e :: es) [] pos) (wCallB g ws) :=
  pe_imp (pe_callB hc hg hm hv ha hn hdb he hpl) (wCallB_rd hw)
theorem ce_callTy {g : GA} (hc : CallR X (.type T) r) (hw : CallW X.K R r g) (hg : Gl X x) (hm : X.mg x = none) (hv : bootBuiltins x = some (.type T)) (ha : COs X R (e :: es) ws) (hn : x ≠ "__name__" := by decide) (hdb : (x == ("__debug__" : Str)) = false := by decide)
    (he : starEach (e :: es) X.env = (false, eval e X.env) :: starEach es X.env := by rfl) (hpl : (backTo pos (starEach es X.env)).any (·.1) = false := by rfl) : CE X R (.Call (.Name x p) (e :: es) [] pos) (wCallB g ws) :=
  pe_imp (pe_callTy hc hg hm hv ha hn hdb he hpl) (wCallB_rd hw)
theorem cf_callB {g : GF} (hc : CallR X (.builtin id) r) (hw : CallV X.K R r g) (hg : Gl X x) (hm : X.mg x = none) (hv : bootBuiltins x = some (.builtin id)) (ha : COs X R (e :: es) ws) (hn : x ≠ "__name__" := by decide) (hdb : (x == ("__debug__" : Str)) = false := by decide)
    (he : starEach (e :: es) X.env = (false, eval e X.env) :: starEach es X.env := by rfl) (hpl : (backTo pos (starEach es X.env)).any (·.1) = false := by rfl) : CF X R (.Call (.Name x p) (e :: es) [] pos) (wCallF g ws) :=
  pe_imp (pe_callB hc hg hm hv ha hn hdb he hpl) (wCallF_rd hw)
theorem cf_callTy {g : GF} (hc : CallR X (.type T) r) (hw : CallV X.K R r g) (hg : Gl X x) (hm : X.mg x = none) (hv : bootBuiltins x = some (.type T)) (ha : COs X R (e :: es) ws) (hn : x ≠ "__name__" := by decide) (hdb : (x == ("__debug__" : Str)) = false := by decide)
    (he : starEach (e :: es) X.env = (false, eval e X.env) :: starEach es X.env := by rfl) (hpl : (backTo pos (starEach es X.env)).any (·.1) = false := by rfl) : CF X R (.Call (.Name x p) (e :: es) [] pos) (wCallF g ws) :=
  pe_imp (pe_callTy hc hg hm hv ha hn hdb he hpl) (wCallF_rd hw)
theorem br1 {F H : Hp} {xs : List V} {d : PyData} (h : BrL K F H xs [d]) : ∃ x, xs = [x] ∧ Br K F H x d := by
  cases h with
  | cons a t => cases t; exact ⟨_, rfl, a⟩
theorem br2 {F H : Hp} {xs : List V} {d e : PyData} (h : BrL K F H xs [d, e]) : ∃ x y, xs = [x, y] ∧ Br K F H x d ∧ Br K F H y e := by
  cases h with
  | cons a t => cases t with
    | cons b t => cases t; exact ⟨_, _, rfl, a, b⟩
end call
end VL
set_option Elab.async false
set_option linter.all false
set_option maxRecDepth 100000
/-! VL3: the built-ins by value. -/
namespace VL
open PySem PySem.Spec PyProof.Rows L2
variable {τ : Tau}

section plain
variable {K : PySem.W.Frag} {F : Hp}
mutual
theorem Rp.plain : ∀ (d : PyData) (v : V), Rp K F v d → d.plain = true
  | .none, _, _ => rfl
  | .bool b, _, _ => rfl
  | .int i, _, _ => rfl
  | .str x, _, _ => rfl
  | .list ds, _, h => by
    cases h with
    | lst hs ha => simp only [PyData.plain]; exact RpL.plain ds _ ha
  | .tuple ds, _, h => by
    cases h with
    | tup hs ha => simp only [PyData.plain]; exact RpL.plain ds _ ha
  | .dict _, _, h => by cases h
theorem RpL.plain : ∀ (ds : List PyData) (vs : List V), RpL K F vs ds → PyData.plainAll ds = true
  | [], _, _ => by simp only [PyData.plainAll]
  | d :: ds, _, h => by
    cases h with
    | cons h1 h2 =>
      simp only [PyData.plainAll, Bool.and_eq_true]
      exact ⟨Rp.plain d _ h1, RpL.plain ds _ h2⟩
end
theorem RpL.each {xs : List V} {us : List Value} : ∀ {ds : List PyData}, RpL K F xs ds → Vals xs us → W.EachIs (fun v (b : V × PyData) => RelV b.1 v ∧ Rp K F b.1 b.2) us (xs.zip ds) := by
  induction xs generalizing us with
  | nil => intro ds h r; cases h; cases r; exact .nil
  | cons x xs ih => intro ds h r; cases h with
    | cons h1 h2 => cases r with
      | cons r1 r2 => exact .cons ⟨r1, h1⟩ (ih h2 r2)
theorem map_snd_zip' {α β : Type} : ∀ {xs : List α} {ys : List β}, xs.length = ys.length → (xs.zip ys).map (·.2) = ys
  | [], [], _ => rfl
  | _ :: _, [], h => nomatch h
  | [], _ :: _, h => nomatch h
  | x :: xs, y :: ys, h => by simp only [List.zip_cons_cons, List.map_cons]; rw [map_snd_zip' (Nat.succ.inj h)]
theorem each_out {out : List Value} : ∀ {bs : List (V × PyData)}, W.EachIs (fun v (b : V × PyData) => RelV b.1 v ∧ Rp K F b.1 b.2) out bs → Vals (bs.map (·.1)) out ∧ RpL K F (bs.map (·.1)) (bs.map (·.2)) := by
  induction out with
  | nil => intro bs h; cases h; exact ⟨.nil, .nil⟩
  | cons o out ih => intro bs h; cases h with
    | cons h1 h2 => exact ⟨.cons h1.1 (ih h2).1, .cons h1.2 (ih h2).2⟩
end plain

section b
variable {X : Cx} {R : Root τ} {K : PySem.W.Frag}

/-! ### len -/
@[simp ↓] def gLen : GA := fun ds k => match ds with
  | [.list xs] => k (.int (xs.length : Nat))
  | [.tuple xs] => k (.int (xs.length : Nat))
  | [.str z] => z.length ≤ sizeLine ∧ k (.int (z.length : Nat))
  | _ => False
theorem cw_len : CallW K R (fun xs H Q => ∃ x n, xs = [x] ∧ LenV K x H n ∧ Q (.int n) H) gLen := by
  intro F env σ H xs ds k Q r b w q
  match ds, w with
  | [.list es], w =>
    obtain ⟨x, rfl, bx⟩ := br1 b
    obtain ⟨a, ys, rfl, h, l⟩ := bx.lst r.sub
    exact ⟨_, ys.length, rfl, .inl ⟨ys, .inl (.inl h), rfl⟩, q F H _ _ (Same.refl F) r (.int _) (by rw [l.length]; exact w)⟩
  | [.tuple es], w =>
    obtain ⟨x, rfl, bx⟩ := br1 b
    obtain ⟨a, ys, rfl, h, l, _⟩ := bx.tup r.sub
    exact ⟨_, ys.length, rfl, .inr ⟨ys, h, rfl⟩, q F H _ _ (Same.refl F) r (.int _) (by rw [l.length]; exact w)⟩
  | [.str z], w =>
    obtain ⟨x, rfl, bx⟩ := br1 b
    exact ⟨_, z.length, rfl, by rw [bx.str]; exact ⟨w.1, rfl⟩, q F H _ _ (Same.refl F) r (.int _) w.2⟩

/-! ### ints -/
@[simp ↓] def gAbs : GA := fun ds k => match ds with
  | [.int i] => k (.int (if i < 0 then -i else i))
  | _ => False
theorem cw_abs : CallW K R (fun xs H Q => ∃ i, xs = [.int i] ∧ Q (.int (if i < 0 then -i else i)) H) gAbs := by
  intro F env σ H xs ds k Q r b w q
  match ds, w with
  | [.int i], w =>
    obtain ⟨x, rfl, bx⟩ := br1 b
    exact ⟨i, by rw [bx.int], q F H _ _ (Same.refl F) r (.int _) w⟩
@[simp ↓] def gInt : GA := fun ds k => match ds with
  | [.int i] => k (.int i)
  | [.bool b] => k (.int (if b then 1 else 0))
  | _ => False
theorem cw_int : CallW K R (fun xs H Q => (∃ i, xs = [.int i] ∧ Q (.int i) H) ∨ ∃ k, xs = [.bl k] ∧ Q (.int (if k then 1 else 0)) H) gInt := by
  intro F env σ H xs ds k Q r b w q
  match ds, w with
  | [.int i], w =>
    obtain ⟨x, rfl, bx⟩ := br1 b
    exact .inl ⟨i, by rw [bx.int], q F H _ _ (Same.refl F) r (.int _) w⟩
  | [.bool i], w =>
    obtain ⟨x, rfl, bx⟩ := br1 b
    exact .inr ⟨i, by rw [bx.bl], q F H _ _ (Same.refl F) r (.int _) w⟩
def rSeqOr (r r' : List V → Hp → VK → Prop) : List V → Hp → VK → Prop := fun xs H Q => r xs H Q ∨ r' xs H Q
theorem CallR.or2 {f : Value} {r r' : List V → Hp → VK → Prop} (h : CallR X f r) (h' : CallR X f r') : CallR X f (rSeqOr r r') := by
  intro pins s σ H xs us Q I rv q
  rcases q with q | q
  · exact h pins s σ H xs us Q I rv q
  · exact h' pins s σ H xs us Q I rv q

/-! ### sum -/
def numD : PyData → Option Int
  | .int i => some i
  | .bool b => some (if b = true then 1 else 0)
  | _ => none
def numsD : List PyData → Option (List Int)
  | [] => some []
  | d :: ds => match numD d, numsD ds with
    | some i, some is => some (i :: is)
    | _, _ => none
theorem numsD_ints : ∀ ns : List Int, numsD (ns.map PyData.int) = some ns
  | [] => rfl
  | n :: ns => by simp only [List.map_cons, numsD, numD, numsD_ints ns]
theorem numsD_bools : ∀ ns : List Bool, numsD (ns.map PyData.bool) = some (ns.map fun b => if b = true then 1 else 0)
  | [] => rfl
  | n :: ns => by simp only [List.map_cons, numsD, numD, numsD_bools ns]
@[simp ↓] def gSum : GA := fun ds k => match ds with
  | [.list xs] => ∃ ns, numsD xs = some ns ∧ k (.int ns.sum)
  | [.tuple xs] => ∃ ns, numsD xs = some ns ∧ k (.int ns.sum)
  | _ => False
theorem preSum_take (ns : List Int) : ∀ j, j ≤ ns.length → preSum (fun i => ns.getD i 0) j = (ns.take j).sum
  | 0, _ => by simp [preSum]
  | j + 1, h => by
    have h1 : ns[j]? = some (ns.getD j 0) := by
      rw [List.getD_eq_getElem?_getD, List.getElem?_eq_getElem (by omega)]; rfl
    rw [preSum, preSum_take ns j (by omega), sum_take h1]
theorem nums_at {F : Hp} {xs : List V} {us : List Value} : ∀ {ds : List PyData} {ns : List Int}, RpL K F xs ds → Vals xs us → numsD ds = some ns → ns.length = us.length ∧ ∀ i v, us[i]? = some v → NumOf (ns.getD i 0) v := by
  induction xs generalizing us with
  | nil =>
    intro ds ns l r h
    cases l; cases r; cases h
    exact ⟨rfl, fun i v e => by simp at e⟩
  | cons x xs ih =>
    intro ds ns l r h
    cases l with
    | cons l1 l2 =>
      cases r with
      | cons r1 r2 =>
        rename_i d ds' u us'
        unfold numsD at h
        cases e1 : numD d with
        | none => rw [e1] at h; cases h
        | some i =>
          cases e2 : numsD ds' with
          | none => rw [e1, e2] at h; cases h
          | some is =>
            rw [e1, e2] at h
            cases h
            obtain ⟨a1, a2⟩ := ih l2 r2 e2
            refine ⟨by simp [a1], fun j v e => ?_⟩
            cases j with
            | zero =>
              simp at e
              subst e
              cases l1 with
              | int i' => cases e1; obtain ⟨t, rfl⟩ := r1; exact .inl ⟨t, rfl⟩
              | bl b => cases e1; cases r1; exact .inr ⟨b, rfl, rfl⟩
              | _ => cases e1
            | succ j => exact a2 j v (by simpa using e)
def rSumV (K : PySem.W.Frag) : List V → Hp → VK → Prop := fun vs H Q => ∃ a xs ds ns, vs = [V.ref a] ∧ (SqL K H a xs ∨ SqT K H a xs) ∧ RpL K H xs ds ∧ numsD ds = some ns ∧ Q (.int ns.sum) H
theorem cr_sumV (hc : X.calm = true) : CallR X (.builtin "sum") (rSumV X.K) := by
  intro pins s σ H vs us Q I r h
  obtain ⟨a, xs, ds, ns, rfl, hs, l, hn, q⟩ := h
  rw [Vals.ref1 r]
  have fin : ∀ (its : List Value) (rv : Vals xs its), preSum (fun i => ns.getD i 0) its.toArray.size = ns.sum := fun its rv => by
    obtain ⟨a1, _⟩ := nums_at l rv hn
    rw [List.size_toArray, ← a1, preSum_take ns _ (Nat.le_refl _), List.take_length]
  rcases hs with hs | hs
  · obtain ⟨its, rv, hl, _⟩ := I.list hs
    obtain ⟨a1, a2⟩ := nums_at l rv hn
    refine call_sum_walkAnyB (W.iter_listW (A := X.A.in1) (I.ok.hd hc) hl.isList fun s₂ e Wk st hfp hw hk => ?_)
    refine ⟨_, _, _, _, _, _, _, fun i => ns.getD i 0, rfl, Wk, st, hfp, fun i v e => a2 i v (by simpa using e), fun s' t' m => ?_⟩
    obtain ⟨h', tk, rfl, hk'⟩ := W.moved_old e rfl m
    rw [fin its rv]
    exact ⟨.int _, H, I.kept hk', ⟨_, rfl⟩, q⟩
  · obtain ⟨its, rv, hl, _⟩ := I.tuple hs
    obtain ⟨a1, a2⟩ := nums_at l rv hn
    refine call_sum_walkAnyB (W.iter_tupleW (A := X.A.in1) (I.ok.hd hc) hl fun s₂ e Wk st hfp hw hk => ?_)
    refine ⟨_, _, _, _, _, _, _, fun i => ns.getD i 0, rfl, Wk, st, hfp, fun i v e => a2 i v (by simpa using e), fun s' t' m => ?_⟩
    obtain ⟨h', tk, rfl, hk'⟩ := W.moved_old e rfl m
    rw [fin its rv]
    exact ⟨.int _, H, I.kept hk', ⟨_, rfl⟩, q⟩
theorem cw_sum : CallW K R (rSumV K) gSum := by
  intro F env σ H xs ds k Q r b w q
  match ds, w with
  | [.list es], ⟨ns, hn, w⟩ =>
    obtain ⟨x, rfl, bx⟩ := br1 b
    obtain ⟨a, ys, rfl, h, l⟩ := bx.lst r.sub
    exact ⟨a, ys, es, ns, rfl, .inl (.inl (.inl h)), rpL_mono r.sub _ _ l, hn, q F H _ _ (Same.refl F) r (.int _) w⟩
  | [.tuple es], ⟨ns, hn, w⟩ =>
    obtain ⟨x, rfl, bx⟩ := br1 b
    obtain ⟨a, ys, rfl, h, l, _⟩ := bx.tup r.sub
    exact ⟨a, ys, es, ns, rfl, .inr h, rpL_mono r.sub _ _ l, hn, q F H _ _ (Same.refl F) r (.int _) w⟩

/-! ### list(xs), tuple(xs) -/
@[simp ↓] def gList : GF := fun ds k => match ds with
  | [.list xs] => k (.ol xs)
  | [.tuple xs] => k (.ol xs)
  | _ => False
theorem cv_list : CallV K R (fun xs H Q => ∃ p ys, xs = [.ref p] ∧ (SqL K H p ys ∨ SqT K H p ys) ∧ ∀ l, H l = none → Q (.ref l) (upd H l (.lst ys))) gList := by
  intro F env σ H xs ds k Q r b w q
  match ds, w with
  | [.list es], w =>
    obtain ⟨x, rfl, bx⟩ := br1 b
    obtain ⟨a, ys, rfl, h, l⟩ := bx.lst r.sub
    refine ⟨a, ys, rfl, .inl (.inl (.inl h)), fun p hp => ?_⟩
    obtain ⟨r2, p2, fr⟩ := new_ol r hp l
    exact q _ _ _ _ (Same.refl F) r2 p2 fr w
  | [.tuple es], w =>
    obtain ⟨x, rfl, bx⟩ := br1 b
    obtain ⟨a, ys, rfl, h, l, _⟩ := bx.tup r.sub
    refine ⟨a, ys, rfl, .inr h, fun p hp => ?_⟩
    obtain ⟨r2, p2, fr⟩ := new_ol r hp l
    exact q _ _ _ _ (Same.refl F) r2 p2 fr w
@[simp ↓] def gTuple : GA := fun ds k => match ds with
  | [.list xs] => k (.tuple xs)
  | [.tuple xs] => k (.tuple xs)
  | _ => False
theorem cw_tuple : CallW K R (fun xs H Q => ∃ p ys, xs = [.ref p] ∧ ((SqL K H p ys ∧ ∀ l, H l = none → Q (.ref l) (upd H l (.tup ys))) ∨ (SqT K H p ys ∧ Q (.ref p) H))) gTuple := by
  intro F env σ H xs ds k Q r b w q
  match ds, w with
  | [.list es], w =>
    obtain ⟨x, rfl, bx⟩ := br1 b
    obtain ⟨a, ys, rfl, h, l⟩ := bx.lst r.sub
    refine ⟨a, ys, rfl, .inl ⟨.inl (.inl h), fun p hp => ?_⟩⟩
    obtain ⟨f2, r2, p2⟩ := new_tup r hp l
    exact q _ _ _ _ f2 r2 p2 w
  | [.tuple es], w =>
    obtain ⟨x, rfl, bx⟩ := br1 b
    obtain ⟨a, ys, rfl, h, l, pr⟩ := bx.tup r.sub
    exact ⟨a, ys, rfl, .inr ⟨h, q F H _ _ (Same.refl F) r pr w⟩⟩

/-! ### in -/
def rInA (K : PySem.W.Frag) (neg : Bool) : R2 := fun x y H Q => ∃ d ds, Dp K H x d ∧ (Dp K H y (.list ds) ∨ Dp K H y (.tuple ds)) ∧ SeqAt.shaped d = true ∧ PyData.canLayAll0 ds = true ∧ Q (.bl (if neg then !ds.any (fun z => PyData.eqv z d) else ds.any fun z => PyData.eqv z d)) H
theorem op_inA (hu : X.A.units + 65 < cLine) : OpR X (compareOp .In) (rInA X.K false) := by
  intro pins s σ H x y v u Q I rx ry h
  obtain ⟨d, ds, hd, he, sd, se, q⟩ := h
  obtain ⟨as, r1⟩ := Dp.reads I d x v hd rx
  rcases he with he | he
  · obtain ⟨bs, r2⟩ := Dp.reads I (.list ds) y u he ry
    exact SeqAt.in_list_reads r2 r1 se (SeqAt.canLay_of_shaped sd) (room_in_shaped sd hu) ⟨.bl _, H, I, rfl, q⟩
  · obtain ⟨bs, r2⟩ := Dp.reads I (.tuple ds) y u he ry
    exact SeqAt.in_tuple_reads r2 r1 se (SeqAt.canLay_of_shaped sd) (room_in_shaped sd hu) ⟨.bl _, H, I, rfl, q⟩
theorem op_notInA (hu : X.A.units + 65 < cLine) : OpR X (compareOp .NotIn) (rInA X.K true) := by
  intro pins s σ H x y v u Q I rx ry h
  obtain ⟨d, ds, hd, he, sd, se, q⟩ := h
  obtain ⟨as, r1⟩ := Dp.reads I d x v hd rx
  rcases he with he | he
  · obtain ⟨bs, r2⟩ := Dp.reads I (.list ds) y u he ry
    exact SeqAt.notIn_list_reads r2 r1 se (SeqAt.canLay_of_shaped sd) (room_in_shaped sd hu) ⟨.bl _, H, I, rfl, q⟩
  · obtain ⟨bs, r2⟩ := Dp.reads I (.tuple ds) y u he ry
    exact SeqAt.notIn_tuple_reads r2 r1 se (SeqAt.canLay_of_shaped sd) (room_in_shaped sd hu) ⟨.bl _, H, I, rfl, q⟩
@[simp ↓] def gIn (neg : Bool) : G2 := fun a b k => match b with
  | .list ds => (SeqAt.shaped a = true ∧ PyData.canLayAll0 ds = true) ∧ k (.bool (if neg then !ds.any (fun z => PyData.eqv z a) else ds.any fun z => PyData.eqv z a))
  | .tuple ds => (SeqAt.shaped a = true ∧ PyData.canLayAll0 ds = true) ∧ k (.bool (if neg then !ds.any (fun z => PyData.eqv z a) else ds.any fun z => PyData.eqv z a))
  | _ => False
theorem ow_in {neg : Bool} : OpW K R (rInA K neg) (gIn neg) := by
  intro F env σ H x y a b k Q r pa pb w q
  cases b with
  | list ds => exact ⟨a, ds, pa.dp r.sub, .inl (pb.dp r.sub), w.1.1, w.1.2, q F H _ _ (Same.refl F) r (.bl _) w.2⟩
  | tuple ds => exact ⟨a, ds, pa.dp r.sub, .inr (pb.dp r.sub), w.1.1, w.1.2, q F H _ _ (Same.refl F) r (.bl _) w.2⟩
  | _ => cases w

/-! ### isinstance with a built-in class -/
def isiD (T : String) : PyData → Bool
  | .none => T == "NoneType"
  | .bool _ => T == "bool" || T == "int"
  | .int _ => T == "int"
  | .str _ => T == "str"
  | .list _ => T == "list"
  | .tuple _ => T == "tuple"
  | .dict _ => T == "dict"
structure IsiT (T : String) : Prop where
  n : kitB "NoneType" T = some (isiD T .none)
  b : kitB "bool" T = some (isiD T (.bool true))
  i : kitB "int" T = some (isiD T (.int 0))
  s : kitB "str" T = some (isiD T (.str Str.empty))
  l : kitB "list" T = some (isiD T (.list []))
  t : kitB "tuple" T = some (isiD T (.tuple []))
def gIsi (T : String) (d : PyData) (k : PyData → Prop) : Prop := k (.bool (isiD T d))
theorem tyx_of {F H : Hp} {x : V} {d : PyData} (s : Same F H) (b : Br K F H x d) {T : String} (h : IsiT T) : ∃ t, TyX K H x t ∧ PySem.W.kitOne K t (.type T) = some (isiD T d) := by
  cases d with
  | none => rw [b.non]; exact ⟨_, .base .non, kit_ty h.n⟩
  | bool v => rw [b.bl]; exact ⟨_, .base (.bl v), kit_ty h.b⟩
  | int i => rw [b.int]; exact ⟨_, .base (.int i), kit_ty h.i⟩
  | str z => rw [b.str]; exact ⟨_, .base (.str z), kit_ty h.s⟩
  | list ds =>
    obtain ⟨a, xs, rfl, h1, l⟩ := b.lst s
    exact ⟨_, .base (.lst h1), kit_ty h.l⟩
  | tuple ds =>
    obtain ⟨a, xs, rfl, h1, l, _⟩ := b.tup s
    rcases h1 with (h1 | ⟨o, h1⟩) | ⟨o, its, n, e, c, _⟩
    · exact ⟨_, .base (.tup h1), kit_ty h.t⟩
    · exact ⟨_, .fTuple h1, kit_ty h.t⟩
    · exact ⟨_, .kTuple e c, kit_ty h.t⟩
  | dict _ => exact absurd b (fun z => z.nodict)
@[simp ↓] def wIsi (T : String) (wo : WO) : WE := fun env Q => wo env fun o e1 => res e1 o fun d => Q (.bool (isiD T d)) e1
theorem ce_isi {T : String} {tn : Str} {e : Expr} {wo : WO} {p p2 pos : Pos} (h : IsiT T) (hg : Gl X "isinstance") (hm : X.mg "isinstance" = none) (hg2 : Gl X tn) (hm2 : X.mg tn = none) (hv : bootBuiltins tn = some (.type T)) (ho : CO X R e wo)
    (hv0 : bootBuiltins "isinstance" = some (.builtin "isinstance") := by decide +kernel)
    (hn : tn ≠ "__name__" := by decide) (hd : (tn == ("__debug__" : Str)) = false := by decide)
    (he : starEach [e, .Name tn p2] X.env = (false, eval e X.env) :: starEach [.Name tn p2] X.env := by rfl) (hpl : (backTo pos (starEach [.Name tn p2] X.env)).any (·.1) = false := by rfl) :
    CE X R (.Call (.Name "isinstance" p) [e, .Name tn p2] [] pos) (wIsi T wo) :=
  pe_imp (pe_callB call_isi hg hm hv0 (pa_cons ho (pa_cons (pe_bltn (v := .ty T) hg2 hm2 hv rfl hn hd) pa_nil) he) (by decide) (by decide) he hpl) fun σ H Q ⟨F, env, Qw, r, w, k⟩ =>
    ⟨F, env, _, r, w, fun F1 e1 H1 x o f1 r1 p1 w1 => by
      obtain ⟨d, b1, w2⟩ := res_ok r1 p1 w1
      obtain ⟨t, ht, hk⟩ := tyx_of r1.sub b1 h
      exact ⟨x, .ty T, t, .type T, _, rfl, .ty T, ht, hk, k F1 e1 H1 _ _ f1 r1 (.bl _) w2⟩⟩
theorem isi_tuple : IsiT "tuple" := ⟨by decide +kernel, by decide +kernel, by decide +kernel, by decide +kernel, by decide +kernel, by decide +kernel⟩
theorem isi_list : IsiT "list" := ⟨by decide +kernel, by decide +kernel, by decide +kernel, by decide +kernel, by decide +kernel, by decide +kernel⟩
theorem isi_int : IsiT "int" := ⟨by decide +kernel, by decide +kernel, by decide +kernel, by decide +kernel, by decide +kernel, by decide +kernel⟩
theorem isi_bool : IsiT "bool" := ⟨by decide +kernel, by decide +kernel, by decide +kernel, by decide +kernel, by decide +kernel, by decide +kernel⟩
theorem isi_str : IsiT "str" := ⟨by decide +kernel, by decide +kernel, by decide +kernel, by decide +kernel, by decide +kernel, by decide +kernel⟩
end b
end VL
set_option Elab.async false
set_option linter.all false
set_option maxRecDepth 100000
/-! VL4: statements by value: stores, loops, returns; calls of the program's own defs. -/
namespace VL
open PySem PySem.Spec PyProof.Rows L2
variable {τ : Tau}

section rel
variable {K : PySem.W.Frag} {R : Root τ} {F H : Hp} {env : PEnv} {σ : L2.St}
theorem set_get {α : Type} {l : List α} {i j : Nat} {x : α} (hi : i < l.length) : (l.set i x)[j]? = if j = i then some x else l[j]? := by
  by_cases e : j = i
  · subst e; rw [List.getElem?_set_self hi, if_pos rfl]
  · rw [List.getElem?_set_ne (Ne.symm e), if_neg e]
theorem Rel.set {i : Nat} {x : V} {s : Slot} (r : Rel K R F env σ H) (h : SlotOk K R F H x s) (fr : Fresh env σ x s) : Rel K R F (env.set i (some s)) (σ.set i (some x)) H := by
  by_cases hi : i < σ.length
  · have hi' : i < env.length := by rw [← r.len]; exact hi
    refine { r.toBase with len := by rw [List.length_set, List.length_set]; exact r.len, sl := fun j t e => ?_, dis := fun j k s' t a hjk e1 o1 e2 o2 e3 e4 => ?_ }
    · rw [set_get hi'] at e
      by_cases hj : j = i
      · rw [if_pos hj] at e; cases e
        exact ⟨x, by rw [set_get hi, if_pos hj], h⟩
      · rw [if_neg hj] at e
        obtain ⟨y, h1, h2⟩ := r.sl j t e
        exact ⟨y, by rw [set_get hi, if_neg hj]; exact h1, h2⟩
    · rw [set_get hi'] at e1 e2
      rw [set_get hi] at e3 e4
      by_cases hj : j = i
      · have hk : ¬ k = i := fun z => hjk (hj.trans z.symm)
        rw [if_pos hj] at e1 e3
        rw [if_neg hk] at e2 e4
        cases e1; cases e3
        exact fr o1 k t a e2 o2 e4 rfl
      · rw [if_neg hj] at e1 e3
        by_cases hk : k = i
        · rw [if_pos hk] at e2 e4
          cases e2; cases e4
          exact fr o2 j s' a e1 o1 e3 rfl
        · rw [if_neg hk] at e2 e4
          exact r.dis j k s' t a hjk e1 o1 e2 o2 e3 e4
  · have hl := r.len
    rw [List.set_eq_of_length_le (l := env) (by omega), List.set_eq_of_length_le (l := σ) (by omega)]
    exact r
/-- a slot forgotten -/
theorem Rel.drop {i : Nat} (r : Rel K R F env σ H) : Rel K R F (env.set i none) σ H := by
  refine { r.toBase with len := by rw [List.length_set]; exact r.len, sl := fun j t e => ?_, dis := fun j k s' t a hjk e1 o1 e2 o2 e3 e4 => ?_ }
  · rcases list_ix_set e with ⟨_, e⟩ | ⟨_, e⟩
    · cases e
    · exact r.sl j t e
  · rcases list_ix_set e1 with ⟨_, e⟩ | ⟨_, e1⟩
    · cases e
    · rcases list_ix_set e2 with ⟨_, e⟩ | ⟨_, e2⟩
      · cases e
      · exact r.dis j k s' t a hjk e1 o1 e2 o2 e3 e4
/-- the owned thing of slot i changes -/
theorem Rel.write {i : Nat} {s s' : Slot} {a : Addr} {o o' : HO} (r : Rel K R F env σ H) (hi : env[i]? = some (some s)) (hs : s.owns = true) (hs' : s'.owns = true) (hx : σ[i]? = some (some (.ref a))) (ho : H a = some o) (hF : F a = none) (hK : R.keep a = none)
    (hR : R.H0 a = none ∨ R.d = some a) (kt : isTbl o' = false) (hd : R.d = some a → DrB τ F o') (h : SlotOk K R F (upd H a o') (.ref a) s') : Rel K R F (env.set i (some s')) σ (upd H a o') := by
  have hl : i < env.length := (List.getElem?_eq_some_iff.mp hi).1
  have nt : isTbl o = false := by
    obtain ⟨x, h1, h2⟩ := r.sl i s hi
    rw [hx] at h1; cases h1
    obtain ⟨b, e1, _, _, ob, e2, e3⟩ := h2.addr hs
    cases e1
    rw [ho] at e2; cases e2; exact e3
  refine { ext := r.ext, sub := fun b u e => ?_, frame := fun b u e1 e2 e3 => ?_, tabs := fun b ps e => ?_, tok := fun b hm ps e => ?_, has := fun P hP => (let ⟨ps, e⟩ := r.has P hP; ⟨ps, by rw [upd_ne (fun z => by subst z; rw [ho] at e; cases e; cases nt)]; exact e⟩), new := r.new, kt := r.kt, kind := r.kind, drw := fun b e => ?_, kp := fun b u e => ?_, len := by rw [List.length_set]; exact r.len, sl := fun j t e => ?_, dis := fun j k s1 t b hjk e1 o1 e2 o2 e3 e4 => ?_ }
  · rw [upd_ne (ne_of_none e hF)]; exact r.sub b u e
  · have hb : b ≠ a := fun z => by
      subst z
      rcases hR with z | z
      · rw [z] at e1; cases e1
      · exact e3 z
    rw [upd_ne hb]; exact r.frame b u e1 e2 e3
  · obtain ⟨m, e1⟩ := r.tabs b ps e
    refine ⟨m, ?_⟩
    rw [upd_ne (fun z => ?_)]
    · exact e1
    · subst z; rw [ho] at e1; cases e1; cases nt
  · by_cases hb : b = a
    · subst hb; rw [upd_same] at e; cases e; cases kt
    · rw [upd_ne hb] at e; exact r.tok b hm ps e
  · obtain ⟨h1, h2, h3⟩ := r.drw b e
    refine ⟨h1, h2, ?_⟩
    by_cases hb : b = a
    · subst hb
      exact ⟨o', upd_same, hd e⟩
    · rw [upd_ne hb]; exact h3
  · obtain ⟨h1, h2⟩ := r.kp b u e
    exact ⟨by rw [upd_ne (ne_of_none e hK)]; exact h1, h2⟩
  · rw [set_get hl] at e
    by_cases hj : j = i
    · rw [if_pos hj] at e; cases e
      exact ⟨_, by rw [hj]; exact hx, h⟩
    · rw [if_neg hj] at e
      obtain ⟨y, h1, h2⟩ := r.sl j t e
      refine ⟨y, h1, ?_⟩
      have ne : t.owns = true → y ≠ .ref a := fun ot z => by
        subst z
        exact r.dis i j s t a (Ne.symm hj) hi hs e ot hx h1
      cases t with
      | fz d => exact h2
      | sc ns => exact h2
      | ex a => exact h2
      | ol ds => obtain ⟨b, xs, eb, ow, h3, h4⟩ := h2; exact ⟨b, xs, eb, ow, by rw [upd_ne (fun z => ne rfl (by rw [eb, z]))]; exact h3, h4⟩
      | od kvs => obtain ⟨b, xs, eb, ow, h3, h4⟩ := h2; exact ⟨b, xs, eb, ow, by rw [upd_ne (fun z => ne rfl (by rw [eb, z]))]; exact h3, h4⟩
      | ot kvs => obtain ⟨b, xs, eb, ow, h3, h4⟩ := h2; exact ⟨b, xs, eb, ow, by rw [upd_ne (fun z => ne rfl (by rw [eb, z]))]; exact h3, h4⟩
      | dr => obtain ⟨b, eb, h0, h1', ns, h3, h4⟩ := h2; exact ⟨b, eb, h0, h1', ns, by rw [upd_ne (fun z => ne rfl (by rw [eb, z]))]; exact h3, h4⟩
  · rw [set_get hl] at e1 e2
    have q1 : ∃ s2 : Slot, env[j]? = some (some s2) ∧ s2.owns = true := by
      by_cases hj : j = i
      · exact ⟨s, by rw [hj]; exact hi, hs⟩
      · rw [if_neg hj] at e1; exact ⟨s1, e1, o1⟩
    have q2 : ∃ s2 : Slot, env[k]? = some (some s2) ∧ s2.owns = true := by
      by_cases hj : k = i
      · exact ⟨s, by rw [hj]; exact hi, hs⟩
      · rw [if_neg hj] at e2; exact ⟨t, e2, o2⟩
    obtain ⟨a1, b1, c1⟩ := q1
    obtain ⟨a2, b2, c2⟩ := q2
    exact r.dis j k a1 a2 b hjk b1 c1 b2 c2 e3 e4
end rel

/-! ### targets -/
abbrev WG := PyData → PEnv → (PEnv → Prop) → Prop
abbrev WGs := List PyData → PEnv → (PEnv → Prop) → Prop
/-- the values differ at the slots vs alone -/
def Chg (vs : List Nat) (σ σ' : L2.St) : Prop := σ'.length = σ.length ∧ ∀ j, j ∉ vs → σ'[j]? = σ[j]?
theorem Chg.refl (vs : List Nat) (σ : L2.St) : Chg vs σ σ := ⟨rfl, fun _ _ => rfl⟩
theorem Chg.trans {vs : List Nat} {σ σ1 σ2 : L2.St} (a : Chg vs σ σ1) (b : Chg vs σ1 σ2) : Chg vs σ σ2 := ⟨b.1.trans a.1, fun j h => (b.2 j h).trans (a.2 j h)⟩
theorem Chg.mono {vs ws : List Nat} {σ σ1 : L2.St} (a : Chg vs σ σ1) (h : ∀ j ∈ vs, j ∈ ws) : Chg ws σ σ1 := ⟨a.1, fun j hj => a.2 j fun z => hj (h j z)⟩
def rdG (K : PySem.W.Frag) (R : Root τ) (vs : List Nat) (w : WG) : TG := fun v σ H Q => ∃ F env Qw d, Rel K R F env σ H ∧ Rp K F v d ∧ w d env Qw ∧ ∀ F' env' σ' H', Same F F' → Rel K R F' env' σ' H' → Chg vs σ σ' → Qw env' → Q σ' H'
def rdGs (K : PySem.W.Frag) (R : Root τ) (vs : List Nat) (w : WGs) : TGs := fun xs σ H Q => ∃ F env Qw ds, Rel K R F env σ H ∧ RpL K F xs ds ∧ w ds env Qw ∧ ∀ F' env' σ' H', Same F F' → Rel K R F' env' σ' H' → Chg vs σ σ' → Qw env' → Q σ' H'
abbrev CG (X : Cx) (R : Root τ) (vs : List Nat) (e : Expr) (w : WG) : Prop := PG X e (rdG X.K R vs w)
abbrev CGs (X : Cx) (R : Root τ) (vs : List Nat) (es : List Expr) (w : WGs) : Prop := PGs X es (rdGs X.K R vs w)
section targets
variable {X : Cx} {R : Root τ} {e : Expr} {es : List Expr} {pos : Pos}
theorem pg_imp {t t' : TG} (h : PG X e t) (i : ∀ v σ H Q, t' v σ H Q → t v σ H Q) : PG X e t' := ⟨fun pins s σ H v u Q I r q => h.run pins s σ H v u Q I r (i v σ H Q q)⟩
theorem pgs_imp {t t' : TGs} (h : PGs X es t) (i : ∀ v σ H Q, t' v σ H Q → t v σ H Q) : PGs X es t' := ⟨fun pins s σ H v u Q I r q => h.run pins s σ H v u Q I r (i v σ H Q q)⟩
@[simp ↓] def wgName (i : Nat) : WG := fun d env Q => Q (env.set i (some (.fz d)))
theorem fresh_fz {env : PEnv} {σ : L2.St} {x : V} {d : PyData} : Fresh env σ x (.fz d) := fun z => nomatch z
theorem cg_name {i : Nat} {x : Str} {vs : List Nat} (h : PG X (.Name x pos) (gName i)) (hv : i ∈ vs) : CG X R vs (.Name x pos) (wgName i) := pg_imp h fun v σ H Q ⟨F, env, Qw, d, r, p, w, k⟩ =>
  k F _ _ H (Same.refl F) (r.set (s := .fz d) p fresh_fz) ⟨by rw [List.length_set], fun j hj => List.getElem?_set_ne (fun z : i = j => hj (by rw [← z]; exact hv))⟩ w
@[simp ↓] def wgNil : WGs := fun ds env Q => ds = [] ∧ Q env
@[simp ↓] def wgCons (t : WG) (u : WGs) : WGs := fun ds env Q => match ds with
  | [] => False
  | d :: r => t d env fun e1 => u r e1 Q
theorem cgs_nil {vs : List Nat} : CGs X R vs [] wgNil := pgs_imp pgs_nil fun v σ H Q ⟨F, env, Qw, d, r, p, w, k⟩ => by
  obtain ⟨rfl, w⟩ := w
  cases p
  exact ⟨rfl, k F env σ H (Same.refl F) r (Chg.refl _ _) w⟩
theorem cgs_cons {vs : List Nat} {t : WG} {u : WGs} (h1 : CG X R vs e t) (h2 : CGs X R vs es u) (hs : (assignEach (e :: es) X.env).map (·.2) = assign e X.env :: (assignEach es X.env).map (·.2) := by rfl) : CGs X R vs (e :: es) (wgCons t u) :=
  pgs_imp (pgs_cons h1 h2 hs) fun v σ H Q ⟨F, env, Qw, ds, r, p, w, k⟩ => by
    cases p with
    | nil => cases w
    | cons p1 p2 => exact ⟨_, _, rfl, F, env, _, _, r, p1, w, fun F1 e1 σ1 H1 f1 r1 c1 w1 => ⟨F1, e1, _, _, r1, rpL_mono f1 _ _ p2, w1, fun F2 e2 σ2 H2 f2 r2 c2 w2 => k F2 e2 σ2 H2 (f1.trans f2) r2 (c1.trans c2) w2⟩⟩
/-- (a, b, ..) = a tuple of that length -/
@[simp ↓] def wgTup (n : Nat) (t : WGs) : WG := fun d env Q => match d with
  | .tuple ds => ds.length = n ∧ t ds env Q
  | _ => False
theorem cg_tup {vs : List Nat} {k : Nat} {t : WGs} {n : Nat} (hc : X.calm = true) (h : CGs X R vs es t) (hn : (assignEach es X.env).length = n := by rfl) (hst : (assignEach es X.env).findIdx? (·.1) = none := by rfl) : CG X R vs (.Tuple es k pos) (wgTup n t) :=
  pg_imp (pg_tup hc h hn hst) fun v σ H Q ⟨F, env, Qw, d, r, p, w, kk⟩ => by
    cases p with
    | tup h1 l => exact ⟨_, _, rfl, seqT_mono r.sub h1.sq, by rw [l.length]; exact w.1, F, env, _, _, r, l, w.2, kk⟩
    | _ => cases w
end targets

/-! ### plain statements -/
section stmts
variable {X : Cx} {R : Root τ} {K : PySem.W.Frag} {e : Expr} {st : Stmt} {sts a b : List Stmt} {pos pos' : Pos}
@[simp ↓] def wNext : WS := fun D env => D.nx env
@[simp ↓] def wSeq (t u : WS) : WS := fun D env => t { D with nx := u D } env
theorem css_nil : CSs X R [] wNext := pss_imp pss_nil fun D σ H ⟨F, env, W, r, w, l⟩ => l.nx F env σ H (Same.refl F) r w
theorem css_cons {t u : WS} (h1 : CS X R st t) (h2 : CSs X R sts u) : CSs X R (st :: sts) (wSeq t u) := pss_imp (pss_cons h1 h2) fun D σ H ⟨F, env, W, r, w, l⟩ =>
  ⟨F, env, _, r, w, ⟨fun F1 e1 σ1 H1 f1 r1 w1 => ⟨F1, e1, W, r1, w1, l.up f1⟩, l.bk, l.ct, l.rt⟩⟩
theorem css_one {t : WS} (h1 : CS X R st t) : CSs X R [st] t := pss_one h1
theorem cs_pass : CS X R (.Pass pos) wNext := ps_imp ps_pass fun D σ H ⟨F, env, W, r, w, l⟩ => l.nx F env σ H (Same.refl F) r w
@[simp ↓] def wBreak : WS := fun D env => D.bk env
@[simp ↓] def wCont : WS := fun D env => D.ct env
theorem cs_break : CS X R (.Break pos) wBreak := ps_imp ps_break fun D σ H ⟨F, env, W, r, w, l⟩ => l.bk F env σ H (Same.refl F) r w
theorem cs_continue : CS X R (.Continue pos) wCont := ps_imp ps_continue fun D σ H ⟨F, env, W, r, w, l⟩ => l.ct F env σ H (Same.refl F) r w
@[simp ↓] def wExpr (w : WE) : WS := fun D env => w env fun _ e1 => D.nx e1
theorem cs_expr {w : WE} (he : CE X R e w) (hs : swapsWith e none pos.line X.env = pure false := by rfl) : CS X R (.Expr e pos) (wExpr w) := ps_imp (ps_expr he hs) fun D σ H ⟨F, env, W, r, w, l⟩ =>
  ⟨F, env, _, r, w, fun F1 e1 H1 _ _ f1 r1 _ w1 => l.nx F1 e1 σ H1 f1 r1 w1⟩
@[simp ↓] def wRet (w : WF) : WS := fun D env => w env fun s _ => D.rt s
theorem cs_ret {w : WF} (he : CF X R e w) : CS X R (.Return (some e) pos) (wRet w) := ps_imp (ps_ret he) fun D σ H ⟨F, env, W, r, w, l⟩ =>
  ⟨F, env, _, r, w, fun F1 e1 H1 x s f1 r1 p1 _ w1 => l.rt F1 H1 x s f1 r1.toBase p1 w1⟩
@[simp ↓] def wRetN : WS := fun D _ => D.rt (.fz .none)
theorem cs_retN : CS X R (.Return none pos) wRetN := ps_imp ps_retN fun D σ H ⟨F, env, W, r, w, l⟩ => l.rt F H _ _ (Same.refl F) r.toBase (show SlotOk X.K R F H .non (.fz .none) from .non) w
@[simp ↓] def wIfS (c : WT) (t u : WS) : WS := fun D env => c env fun b e1 => if b = true then t D e1 else u D e1
theorem cs_if {c : Expr} {wc : WT} {t u : WS} (hc : CT X R c wc) (ha : CSs X R a t) (hb : CSs X R b u) : CS X R (.If c a b pos) (wIfS wc t u) := ps_imp (ps_if hc ha hb) fun D σ H ⟨F, env, W, r, w, l⟩ =>
  ⟨F, env, _, r, w, fun F1 e1 H1 b f1 r1 w1 => by
    cases b with
    | true => exact ⟨F1, e1, W, r1, w1, l.up f1⟩
    | false => exact ⟨F1, e1, W, r1, w1, l.up f1⟩⟩
/-- name = e -/
@[simp ↓] def wSet (i : Nat) (w : WF) : WS := fun D env => w env fun s e1 => D.nx (e1.set i (some s))
theorem wSet_rd {i : Nat} {w : WF} {te : TE} (h : ∀ σ H Q, rdF X.K R w σ H Q → te σ H Q) : ∀ D σ H, rdS X.K R (wSet i w) D σ H → tAsg te (gName i) D σ H := fun D σ H ⟨F, env, W, r, w, l⟩ =>
  h σ H _ ⟨F, env, _, r, w, fun F1 e1 H1 x s f1 r1 p1 fr w1 => l.nx F1 _ _ H1 f1 (r1.set p1 fr) w1⟩
theorem cs_set {i : Nat} {x : Str} {w : WF} (hN : X.N.Nodup) (hi : X.N[i]? = some x) (hx : Loc X.env.scope x) (he : CF X R e w) (hs : swapsWith e (some (.Name x pos')) pos.line X.env = pure false := by rfl)
    (hf : X.fn x = true ∨ X.env.scope.names.lookup x = some .local := by first | exact .inl rfl | exact .inr rfl | assumption) : CS X R (.Assign [.Name x pos'] e pos) (wSet i w) :=
  ps_imp (ps_set hN hi hx he hs hf) (wSet_rd fun _ _ _ z => z)
/-- target = e -/
@[simp ↓] def wAsg (w : WE) (g : WG) : WS := fun D env => w env fun d e1 => g d e1 D.nx
theorem cs_asg {vs : List Nat} {tg : Expr} {w : WE} {g : WG} (he : CE X R e w) (hg : CG X R vs tg g) (hs : swapsWithSole [tg] e pos.line X.env = pure false := by rfl) (hw : swappedStores [tg] e X.env = pure none := by rfl)
    (h1 : (assignEach [tg] X.env).map (·.2) = [assign tg X.env] := by rfl) : CS X R (.Assign [tg] e pos) (wAsg w g) := ps_imp (ps_asg he hg hs hw h1) fun D σ H ⟨F, env, W, r, w, l⟩ =>
  ⟨F, env, _, r, w, fun F1 e1 H1 x d f1 r1 p1 w1 => ⟨F1, e1, _, d, r1, p1, w1, fun F2 e2 σ2 H2 f2 r2 _ w2 => l.nx F2 e2 σ2 H2 (f1.trans f2) r2 w2⟩⟩
/-- a, b = x, y with plain local names -/
@[simp ↓] def wPar (i j : Nat) (w : WA) : WS := fun D env => w env fun ds e1 => match ds with
  | [d, d'] => D.nx ((e1.set i (some (.fz d))).set j (some (.fz d')))
  | _ => False
theorem cs_par {i j : Nat} {x y : Str} {a b : Expr} {w : WA} {px py pt : Pos} {kt k2 pt2} (hc : X.calm = true) (hN : X.N.Nodup) (hi : X.N[i]? = some x) (hj : X.N[j]? = some y) (hij : i ≠ j)
    (hx : X.env.scope.names.lookup x = some .local) (hy : X.env.scope.names.lookup y = some .local) (ha : CA X R [a, b] w)
    (hw : swappedStores [.Tuple [.Name x px, .Name y py] kt pt] (.Tuple [a, b] k2 pt2) X.env = pure (some [x, y]) := by rfl)
    (hs : swapsWithSole [.Tuple [.Name x px, .Name y py] kt pt] (.Tuple [a, b] k2 pt2) pos.line X.env = pure false := by rfl) :
    CS X R (.Assign [.Tuple [.Name x px, .Name y py] kt pt] (.Tuple [a, b] k2 pt2) pos) (wPar i j w) := ps_imp (ps_par hc hN hi hj hij hx hy ha hw hs) fun D σ H ⟨F, env, W, r, w, l⟩ =>
  ⟨F, env, _, r, w, fun F1 e1 H1 xs ds f1 r1 p1 w1 => by
    cases p1 with
    | nil => cases w1
    | cons p1 p2 => cases p2 with
      | nil => cases w1
      | cons p2 p3 => cases p3 with
        | nil => exact ⟨_, _, rfl, l.nx F1 _ _ H1 f1 ((r1.set (s := .fz _) p1 fresh_fz).set (s := .fz _) p2 fresh_fz) w1⟩
        | cons _ _ => cases w1⟩
@[simp ↓] def wPar3 (i j m : Nat) (w : WA) : WS := fun D env => w env fun ds e1 => match ds with
  | [d, d', d''] => D.nx (((e1.set i (some (.fz d))).set j (some (.fz d'))).set m (some (.fz d'')))
  | _ => False
theorem cs_par3 {i j m : Nat} {x y z : Str} {a b c : Expr} {w : WA} {px py pz pt : Pos} {kt k2 pt2} (hc : X.calm = true) (hN : X.N.Nodup) (hi : X.N[i]? = some x) (hj : X.N[j]? = some y) (hl : X.N[m]? = some z) (hij : i ≠ j) (him : i ≠ m) (hjm : j ≠ m)
    (hx : X.env.scope.names.lookup x = some .local) (hy : X.env.scope.names.lookup y = some .local) (hz : X.env.scope.names.lookup z = some .local) (ha : CA X R [a, b, c] w)
    (hw : swappedStores [.Tuple [.Name x px, .Name y py, .Name z pz] kt pt] (.Tuple [a, b, c] k2 pt2) X.env = pure (some [x, y, z]) := by rfl)
    (hs : swapsWithSole [.Tuple [.Name x px, .Name y py, .Name z pz] kt pt] (.Tuple [a, b, c] k2 pt2) pos.line X.env = pure false := by rfl) :
    CS X R (.Assign [.Tuple [.Name x px, .Name y py, .Name z pz] kt pt] (.Tuple [a, b, c] k2 pt2) pos) (wPar3 i j m w) := ps_imp (ps_par3 hc hN hi hj hl hij him hjm hx hy hz ha hw hs) fun D σ H ⟨F, env, W, r, w, l⟩ =>
  ⟨F, env, _, r, w, fun F1 e1 H1 xs ds f1 r1 p1 w1 => by
    cases p1 with
    | nil => cases w1
    | cons p1 p2 => cases p2 with
      | nil => cases w1
      | cons p2 p3 => cases p3 with
        | nil => cases w1
        | cons p3 p4 => cases p4 with
          | nil => exact ⟨_, _, _, rfl, l.nx F1 _ _ H1 f1 (((r1.set (s := .fz _) p1 fresh_fz).set (s := .fz _) p2 fresh_fz).set (s := .fz _) p3 fresh_fz) w1⟩
          | cons _ _ => cases w1⟩
/-- name op= e, ints -/
def wAugN (g : G2) (i : Nat) (w : WE) : WS := fun D env => match env[i]? with
  | some (some (.fz d)) => w env fun y e1 => g d y fun z => D.nx (e1.set i (some (.fz z)))
  | _ => False
theorem ce_imp {w w' : WE} (h : CE X R e w) (i : ∀ env Q, w' env Q → w env Q) : CE X R e w' := pe_imp h fun σ H Q ⟨F, env, Qw, r, w, k⟩ => ⟨F, env, Qw, r, i _ _ w, k⟩
theorem cs_aug {i : Nat} {x : Str} {w : WE} {op : Operator} {f : Int → Int → Int} {g : G2} (hN : X.N.Nodup) (hi : X.N[i]? = some x) (hx : Loc X.env.scope x) (he : CE X R e w) (ho : PIp X op (ipI f))
    (hg : ∀ a b k, g a b k → ∃ i j, a = .int i ∧ b = .int j ∧ k (.int (f i j)))
    (hf : X.fn x = true ∨ X.env.scope.names.lookup x = some .local := by first | exact .inl rfl | exact .inr rfl | assumption) : CS X R (.AugAssign (.Name x pos') op e pos) (wAugN g i w) :=
  ps_imp (ps_aug hN hi hx he ho hf) fun D σ H ⟨F, env, W, r, w, l⟩ => by
    unfold wAugN at w
    cases q : env[i]? with
    | none => rw [q] at w; cases w
    | some o =>
      rw [q] at w
      cases o with
      | none => cases w
      | some s =>
        cases s with
        | fz d =>
          obtain ⟨v, h1, h2⟩ := r.sl i _ q
          refine ⟨v, h1, F, env, _, r, w, fun F1 e1 H1 y dy f1 r1 p1 w1 => ?_⟩
          obtain ⟨a, b, rfl, rfl, w2⟩ := hg _ _ _ w1
          cases h2
          cases p1
          exact ⟨a, b, rfl, rfl, l.nx F1 _ _ H1 f1 (r1.set (s := .fz _) (.int _) fresh_fz) w2⟩
        | _ => cases w
end stmts

/-! ### loops -/
/-- by an invariant: what is left to walk, the names -/
structure ForI (g : WG) (body : WS) (D : WD) (I : List PyData → PEnv → Prop) : Prop where
  fin : ∀ e, I [] e → D.nx e
  step : ∀ x xs e, I (x :: xs) e → g x e fun e1 => body { nx := I xs, ct := I xs, bk := D.nx, rt := D.rt } e1
def forW (g : WG) (body : WS) (D : WD) (items : List PyData) (env : PEnv) : Prop := ∃ I, I items env ∧ ForI g body D I
structure WhileI (c : WT) (body : WS) (D : WD) (I : Nat → PEnv → Prop) : Prop where
  step : ∀ n e, I n e → c e fun b e1 => if b = true then ∃ N : PEnv → Prop, (∀ e', N e' → ∃ m, m < n ∧ I m e') ∧ body { nx := N, ct := N, bk := D.nx, rt := D.rt } e1 else D.nx e1
def whileW (c : WT) (body : WS) (D : WD) (env : PEnv) : Prop := ∃ I, (∃ n, I n env) ∧ WhileI c body D I
abbrev WI := PEnv → (List PyData → PEnv → Prop) → Prop
/-- the iterator J hands out the items -/
structure Yl (K : PySem.W.Frag) (F : Hp) (J : It) (items : List PyData) : Prop where
  go : ∀ {τ : Tau} (R : Root τ) (F1 : Hp) (env : PEnv) (σ : L2.St) (H : Hp) (i : Nat) (d : PyData), Same F F1 → Rel K R F1 env σ H → items[i]? = some d → J.go i H ∧ ∀ x H', J.yld i H x H' → ∃ F2, Same F1 F2 ∧ Rel K R F2 env σ H' ∧ Rp K F2 x d
  stop : ∀ {τ : Tau} (R : Root τ) (F1 : Hp) (env : PEnv) (σ : L2.St) (H : Hp), Same F F1 → Rel K R F1 env σ H → J.stop items.length H
def rdI (K : PySem.W.Frag) (R : Root τ) (w : WI) : TI := fun σ H Rk => ∃ F env Qw, Rel K R F env σ H ∧ w env Qw ∧ ∀ F' env' H' J items, Same F F' → Rel K R F' env' σ H' → Yl K F' J items → Qw items env' → Rk J H'
abbrev CI (X : Cx) (R : Root τ) (tg iter : Expr) (w : WI) : Prop := PI X tg iter (rdI X.K R w)
section loops
variable {X : Cx} {R : Root τ} {K : PySem.W.Frag} {e tg iter : Expr} {pos : Pos} {sts : List Stmt}
theorem pi_imp {t t' : TI} (h : PI X tg iter t) (i : ∀ σ H Q, t' σ H Q → t σ H Q) : PI X tg iter t' := ⟨fun pins s σ H Q I q => h.run pins s σ H Q I (i σ H Q q)⟩
@[simp ↓] def wFor (wi : WI) (g : WG) (body : WS) : WS := fun D env => wi env fun items e1 => forW g body D items e1
theorem cs_for {vs : List Nat} {wi : WI} {g : WG} {body : WS} (hp : PassesOwn (model X.prog X.w) X.A X.env X.xe) (hc : X.calm = true) (hi : CI X R tg iter wi) (hg : CG X R vs tg g) (hb : CSs X R sts body)
    (hs : ∀ x, foldedSetIterable iter X.env x = pure x := by intro _; rfl) : CS X R (.For tg iter sts [] pos) (wFor wi g body) := ps_imp (ps_for hp hc hi hg hb hs) fun D σ H ⟨F, env, W, r, w, l⟩ =>
  ⟨F, env, _, r, w, fun F1 e1 H1 J items f1 r1 y1 ⟨I, i0, iok⟩ => by
    refine ⟨fun i m σ H => m = items.length - i ∧ i ≤ items.length ∧ ∃ F2 env2, Same F1 F2 ∧ Rel X.K R F2 env2 σ H ∧ I (items.drop i) env2, ⟨items.length, rfl, Nat.zero_le _, F1, e1, Same.refl _, r1, i0⟩, ?_⟩
    rintro i m σ H ⟨rfl, hi, F2, env2, f2, r2, w2⟩
    by_cases hlt : i < items.length
    · have e0 : items.drop i = items[i] :: items.drop (i + 1) := List.drop_eq_getElem_cons hlt
      rw [e0] at w2
      replace w2 := iok.step _ _ _ w2
      obtain ⟨g1, g2⟩ := y1.go _ F2 env2 σ H i items[i] f2 r2 (List.getElem?_eq_getElem hlt)
      refine .inr ⟨g1, fun σ' H' => ∃ F3 env3, Same F1 F3 ∧ Rel X.K R F3 env3 σ' H' ∧ I (items.drop (i + 1)) env3, fun σ' H' ⟨F3, env3, f3, r3, w3⟩ => ⟨items.length - (i + 1), by omega, rfl, hlt, F3, env3, f3, r3, w3⟩, fun x H' hy => ?_⟩
      obtain ⟨F3, f3, r3, p3⟩ := g2 x H' hy
      have f13 := f2.trans f3
      refine ⟨F3, env2, _, items[i], r3, p3, w2, fun F4 e4 σ4 H4 f4 r4 _ w4 => ⟨F4, e4, _, r4, w4, ?_⟩⟩
      have f14 := f13.trans f4
      exact ⟨fun F5 e5 σ5 H5 f5 r5 w5 => ⟨F5, e5, f14.trans f5, r5, w5⟩, fun F5 e5 σ5 H5 f5 r5 w5 => l.nx F5 e5 σ5 H5 ((f1.trans f14).trans f5) r5 w5, fun F5 e5 σ5 H5 f5 r5 w5 => ⟨F5, e5, f14.trans f5, r5, w5⟩,
        fun F5 H5 x5 s5 f5 r5 p5 w5 => l.rt F5 H5 x5 s5 ((f1.trans f14).trans f5) r5 p5 w5⟩
    · have e0 : i = items.length := by omega
      subst e0
      rw [List.drop_length] at w2
      exact .inl ⟨y1.stop _ F2 env2 σ H f2 r2, l.nx F2 env2 σ H (f1.trans f2) r2 (iok.fin _ w2)⟩⟩
def wWhile (c : WT) (body : WS) : WS := fun D env => whileW c body D env
theorem cs_while {c : WT} {body : WS} (hp : PassesOwn (model X.prog X.w) X.A X.env X.xe) (hc : CT X R e c) (hb : CSs X R sts body) : CS X R (.While e sts [] pos) (wWhile c body) := ps_imp (ps_while hp hc hb) fun D σ H ⟨F, env, W, r, ⟨I, ⟨n, w⟩, iok⟩, l⟩ => by
  refine ⟨fun m σ H => ∃ F2 env2, Same F F2 ∧ Rel X.K R F2 env2 σ H ∧ I m env2, ⟨n, F, env, Same.refl F, r, w⟩, ?_⟩
  rintro m σ H ⟨F2, env2, f2, r2, w2⟩
  · refine ⟨F2, env2, _, r2, iok.step _ _ w2, fun F3 e3 H3 b f3 r3 w3 => ?_⟩
    have ff := f2.trans f3
    cases b with
    | true =>
      obtain ⟨N, hN, w3⟩ := w3
      exact ⟨fun σ' H' => ∃ F4 env4, Same F F4 ∧ Rel X.K R F4 env4 σ' H' ∧ N env4, fun σ' H' ⟨F4, env4, f4, r4, z⟩ => let ⟨m', hm, z'⟩ := hN _ z; ⟨m', hm, F4, env4, f4, r4, z'⟩, F3, e3, _, r3, w3,
        ⟨fun F5 e5 σ5 H5 f5 r5 w5 => ⟨F5, e5, ff.trans f5, r5, w5⟩, fun F5 e5 σ5 H5 f5 r5 w5 => l.nx F5 e5 σ5 H5 (ff.trans f5) r5 w5, fun F5 e5 σ5 H5 f5 r5 w5 => ⟨F5, e5, ff.trans f5, r5, w5⟩,
          fun F5 H5 x5 s5 f5 r5 p5 w5 => l.rt F5 H5 x5 s5 (ff.trans f5) r5 p5 w5⟩⟩
    | false => exact l.nx F3 e3 σ H3 ff r3 w3

/-! what a loop walks -/
@[simp ↓] def wiSeq (w : WE) : WI := fun env Q => w env fun d e1 => match d with
  | .list ds => Q ds e1
  | .tuple ds => Q ds e1
  | _ => False
theorem yl_list {F : Hp} {a : Addr} {xs : List V} {ds : List PyData} (h : F a = some (.lst xs)) (l : RpL K F xs ds) : Yl K F (Itl K a) ds where
  go := fun R F1 env σ H i d f r e => by
    obtain ⟨x, hx, px⟩ := l.get' e
    have hq : SqL K H a xs := .inl (.inl (r.sub _ _ (f _ _ h)))
    refine ⟨⟨xs, x, hq, hx⟩, fun y H' hy => ?_⟩
    obtain ⟨rfl, hy⟩ := hy
    have := hy xs hq
    rw [hx] at this; cases this
    exact ⟨F1, Same.refl _, r, rp_mono f _ _ px⟩
  stop := fun R F1 env σ H f r => ⟨xs, .inl (.inl (r.sub _ _ (f _ _ h))), Nat.le_of_eq l.length⟩
theorem yl_tup {F : Hp} {a : Addr} {xs : List V} {ds : List PyData} (h : SqT K F a xs) (l : RpL K F xs ds) : Yl K F (Itt K a) ds where
  go := fun R F1 env σ H i d f r e => by
    obtain ⟨x, hx, px⟩ := l.get' e
    have hq : SqT K H a xs := seqT_mono r.sub (seqT_mono f h)
    refine ⟨⟨xs, x, hq, hx⟩, fun y H' hy => ?_⟩
    obtain ⟨rfl, hy⟩ := hy
    have := hy xs hq
    rw [hx] at this; cases this
    exact ⟨F1, Same.refl _, r, rp_mono f _ _ px⟩
  stop := fun R F1 env σ H f r => ⟨xs, seqT_mono r.sub (seqT_mono f h), Nat.le_of_eq l.length⟩
/-- a value that is a list or a tuple -/
def iSeq (K : PySem.W.Frag) (te : TE) : TI := fun σ H Rk => te σ H fun x H1 => ∃ a, x = .ref a ∧ ((∃ xs, SqL K H1 a xs ∧ Rk (Itl K a) H1) ∨ ∃ xs, SqT K H1 a xs ∧ Rk (Itt K a) H1)
theorem pi_seq {te : TE} (he : PE X e te) : PI X tg e (iSeq X.K te) := by
  refine ⟨fun pins s σ H Rk I h => ?_⟩
  refine thn (he.run pins s σ H _ I h) fun v s1 ⟨x, H1, I1, r1, a, ex, q⟩ => ?_
  subst ex
  cases r1
  rcases q with ⟨xs, hq, q⟩ | ⟨xs, hq, q⟩
  · obtain ⟨its, rv, p, hz⟩ := I1.list hq
    refine wpAny_pyIter_list p.isList ?_
    refine ⟨s1.heap.objs.size, [s1.heap.objs.size], _, _, H1, rfl, I1.kept (t' := s1.toks) fun b o e => Heap.get?_push_of_some _ e, turn_list a _, ⟨_, Heap.get?_push_size _ rfl, rfl, rfl⟩, fun b hb => ?_, q⟩
    have e : b = s1.heap.objs.size := by simpa using hb
    subst e
    exact I1.fpOk (Nat.le_refl _) (I1.hok.fresh (Nat.le_refl _))
  · obtain ⟨its, rv, p, hz⟩ := I1.tuple hq
    refine wpAny_pyIter_tuple (show s1.heap.IsTuple a its.toArray from p) ?_
    refine ⟨s1.heap.objs.size, [s1.heap.objs.size], _, _, H1, rfl, I1.kept (t' := s1.toks) fun b o e => Heap.get?_push_of_some _ e, turn_tuple a _, ⟨_, Heap.get?_push_size _ rfl, rfl, rfl⟩, fun b hb => ?_, q⟩
    have e : b = s1.heap.objs.size := by simpa using hb
    subst e
    exact I1.fpOk (Nat.le_refl _) (I1.hok.fresh (Nat.le_refl _))
theorem ci_seq {w : WE} (he : CE X R e w) : CI X R tg e (wiSeq w) := pi_imp (pi_seq he) fun σ H Rk ⟨F, env, Qw, r, w, k⟩ =>
  ⟨F, env, _, r, w, fun F1 e1 H1 x d f1 r1 p1 w1 => by
    cases p1 with
    | lst h l => exact ⟨_, rfl, .inl ⟨_, .inl (.inl (r1.sub _ _ h)), k F1 e1 H1 _ _ f1 r1 (yl_list h l) w1⟩⟩
    | tup h l => exact ⟨_, rfl, .inr ⟨_, seqT_mono r1.sub h.sq, k F1 e1 H1 _ _ f1 r1 (yl_tup h.sq l) w1⟩⟩
    | _ => cases w1⟩
def rangeD (lo : Int) (n : Nat) : List PyData := (List.range n).map fun i => .int (lo + (i : Nat))
theorem yl_range {F : Hp} {lo : Int} {n : Nat} : Yl K F (Itr lo n) (rangeD lo n) where
  go := fun R F1 env σ H i d f r e => by
    unfold rangeD at e
    rw [List.getElem?_map] at e
    cases q : (List.range n)[i]? with
    | none => rw [q] at e; cases e
    | some j =>
      rw [q] at e
      obtain ⟨hi, ej⟩ := List.getElem?_eq_some_iff.mp q
      rw [List.length_range] at hi
      rw [List.getElem_range] at ej
      subst ej
      cases e
      refine ⟨hi, fun x H' hy => ?_⟩
      obtain ⟨rfl, rfl⟩ := hy
      exact ⟨F1, Same.refl _, r, .int _⟩
  stop := fun R F1 env σ H f r => by
    show n ≤ (rangeD lo n).length
    unfold rangeD
    rw [List.length_map, List.length_range]
    exact Nat.le_refl n
/-- range(j), range(i, j) -/
@[simp ↓] def gRg1 (d : PyData) (k : List PyData → Prop) : Prop := match d with
  | .int j => (-(2 ^ 62) ≤ j ∧ j < 2 ^ 62) ∧ k (rangeD 0 j.toNat)
  | _ => False
@[simp ↓] def gRg2 (d d' : PyData) (k : List PyData → Prop) : Prop := match d, d' with
  | .int i, .int j => (-(2 ^ 62) ≤ i ∧ i < 2 ^ 62 ∧ -(2 ^ 62) ≤ j ∧ j < 2 ^ 62) ∧ k (rangeD i (j - i).toNat)
  | _, _ => False
@[simp ↓] def wiRange1 (wo : WO) : WI := fun env Q => wo env fun o e1 => res e1 o fun d => gRg1 d fun ds => Q ds e1
@[simp ↓] def wiRange2 (wa wb : WO) : WI := fun env Q => wa env fun o e1 => wb e1 fun o' e2 => res e2 o fun d => res e2 o' fun d' => gRg2 d d' fun ds => Q ds e2
theorem ci_range1 {a : Expr} {wo : WO} {p : Pos} (hg : Gl X "range") (hm : X.mg "range" = none) (ha : CO X R a wo) (hs : starEach [a] X.env = [(false, eval a X.env)] := by rfl) : CI X R tg (.Call (.Name "range" p) [a] [] pos) (wiRange1 wo) :=
  pi_imp (pi_range1 hg hm (pa_cons ha pa_nil hs) hs) fun σ H Rk ⟨F, env, Qw, r, w, k⟩ => ⟨F, env, _, r, w, fun F1 e1 H1 x o f1 r1 p1 w1 => by
    obtain ⟨d, b1, w2⟩ := res_ok r1 p1 w1
    cases d with
    | int j => exact ⟨j, by rw [b1.int], w2.1.1, w2.1.2, k F1 e1 H1 _ _ f1 r1 yl_range w2.2⟩
    | _ => cases w2⟩
theorem ci_range2 {a b : Expr} {wa wb : WO} {p : Pos} (hg : Gl X "range") (hm : X.mg "range" = none) (ha : CO X R a wa) (hb : CO X R b wb) (hs : starEach [a, b] X.env = [(false, eval a X.env), (false, eval b X.env)] := by rfl) (hs2 : starEach [b] X.env = [(false, eval b X.env)] := by rfl) :
    CI X R tg (.Call (.Name "range" p) [a, b] [] pos) (wiRange2 wa wb) :=
  pi_imp (pi_range2 hg hm (pa_cons ha (pa_cons hb pa_nil hs2) (by rw [hs, hs2])) hs hs2) fun σ H Rk ⟨F, env, Qw, r, w, k⟩ => ⟨F, env, _, r, w, fun F1 e1 H1 x o f1 r1 p1 w1 => ⟨F1, e1, _, r1, w1, fun F2 e2 H2 y o' f2 r2 p2 w2 => by
    obtain ⟨d, b1, w3⟩ := res_ok r2 (p1.mono f2) w2
    obtain ⟨d', b2, w4⟩ := res_ok r2 p2 w3
    cases d with
    | int i =>
      cases d' with
      | int j => exact ⟨i, j, by rw [b1.int, b2.int], w4.1, k F2 e2 H2 _ _ (f1.trans f2) r2 yl_range w4.2⟩
      | _ => cases w4
    | _ => cases d' <;> cases w4⟩⟩
/-- enumerate(xs) -/
def enumD (ds : List PyData) : List PyData := (ds.zipIdx).map fun p => .tuple [.int (p.2 : Nat), p.1]
theorem enumD_at (ds : List PyData) (i : Nat) : (enumD ds)[i]? = (ds[i]?).map fun d => .tuple [.int (i : Nat), d] := by
  unfold enumD
  rw [List.getElem?_map, List.getElem?_zipIdx]
  cases ds[i]? with
  | none => rfl
  | some d => simp
theorem enumD_len (ds : List PyData) : (enumD ds).length = ds.length := by unfold enumD; simp
def gSeqI (d : PyData) (k : List PyData → Prop) : Prop := match d with
  | .list ds => k ds
  | .tuple ds => k ds
  | _ => False
end loops
end VL
set_option Elab.async false
set_option linter.all false
set_option maxRecDepth 100000
/-! VL5: list comprehensions by value. -/
namespace VL
open PySem PySem.Spec PyProof.Rows L2
variable {τ : Tau}

@[simp ↓] def wipeE (env : PEnv) : List Nat → PEnv
  | [] => env
  | v :: vs => (wipeE env vs).set v none
@[simp ↓] def restE (env env0 : PEnv) : List Nat → PEnv
  | [] => env
  | v :: vs => (restE env env0 vs).set v (env0.getD v none)
def noOwn (env : PEnv) (vs : List Nat) : Prop := ∀ v ∈ vs, ∀ s, env[v]? = some (some s) → s.owns = false
/-- nothing owned -/
def nO (v : Option Slot) : Prop := ∀ s, v = some s → s.owns = false
@[simp] theorem nO_none : nO none := fun _ h => by cases h
@[simp] theorem nO_fz (d : PyData) : nO (some (.fz d)) := fun s h => by injection h with h; subst h; rfl
@[simp] theorem nO_sc (d : List Int) : nO (some (.sc d)) := fun s h => by injection h with h; subst h; rfl
@[simp ↓] theorem noOwn_nil (env : PEnv) : noOwn env [] = True := by simp [noOwn]
@[simp ↓] theorem noOwn_cons (env : PEnv) (v : Nat) (vs : List Nat) : noOwn env (v :: vs) = (nO (env.getD v none) ∧ noOwn env vs) := by
  refine propext ⟨fun h => ⟨fun s e => h v List.mem_cons_self s ?_, fun w hw => h w (List.mem_cons_of_mem _ hw)⟩, fun ⟨h1, h2⟩ w hw s e => ?_⟩
  · rw [List.getD_eq_getElem?_getD] at e
    cases q : env[v]? with
    | none => rw [q] at e; cases e
    | some o => rw [q] at e; rw [show o = some s from e]
  · rcases List.mem_cons.mp hw with z | z
    · subst z
      refine h1 s ?_
      rw [List.getD_eq_getElem?_getD, e]; rfl
    · exact h2 w z s e
section
variable {K : PySem.W.Frag} {R : Root τ} {F F' H : Hp} {env env0 : PEnv} {σ : L2.St}
theorem wipeE_len (env : PEnv) : ∀ vs, (wipeE env vs).length = env.length
  | [] => rfl
  | v :: vs => by unfold wipeE; rw [List.length_set, wipeE_len env vs]
theorem restE_len (env env0 : PEnv) : ∀ vs, (restE env env0 vs).length = env.length
  | [] => rfl
  | v :: vs => by unfold restE; rw [List.length_set, restE_len env env0 vs]
theorem wipeE_some {i : Nat} {s : Slot} : ∀ {vs : List Nat}, (wipeE env vs)[i]? = some (some s) → env[i]? = some (some s) ∧ i ∉ vs
  | [], h => ⟨h, by simp⟩
  | v :: vs, h => by
    unfold wipeE at h
    rcases list_ix_set h with ⟨_, e⟩ | ⟨hj, e⟩
    · cases e
    · obtain ⟨h1, h2⟩ := wipeE_some e
      exact ⟨h1, by simp only [List.mem_cons, not_or]; exact ⟨hj, h2⟩⟩
theorem wipe_at {i : Nat} {x : V} : ∀ {vs : List Nat}, i ∉ vs → (wipe σ vs)[i]? = σ[i]?
  | [], _ => rfl
  | v :: vs, h => by
    simp only [List.mem_cons, not_or] at h
    unfold wipe
    rw [List.getElem?_set_ne (Ne.symm h.1), wipe_at (x := x) h.2]
theorem wipe_ext {σ σ' : L2.St} {vs : List Nat} (c : Chg vs σ σ') : wipe σ' vs = wipe σ vs := by
  have key : ∀ (us : List Nat), (∀ v ∈ us, v ∈ vs) → ∀ j, (j ∈ us ∨ j ∉ vs) → (wipe σ' us)[j]? = (wipe σ us)[j]? := by
    intro us
    induction us with
    | nil => intro _ j hj; rcases hj with h | h; cases h; exact c.2 j h
    | cons u us ih =>
      intro hs j hj
      unfold wipe
      by_cases e : j = u
      · subst e
        by_cases hl : j < σ.length
        · rw [List.getElem?_set_self (by rw [wipe_length, c.1]; exact hl), List.getElem?_set_self (by rw [wipe_length]; exact hl)]
        · rw [List.getElem?_eq_none (by rw [List.length_set, wipe_length, c.1]; omega), List.getElem?_eq_none (by rw [List.length_set, wipe_length]; omega)]
      · rw [List.getElem?_set_ne (Ne.symm e), List.getElem?_set_ne (Ne.symm e)]
        refine ih (fun v hv => hs v (List.mem_cons_of_mem _ hv)) j ?_
        rcases hj with h | h
        · rcases List.mem_cons.mp h with h | h
          · exact absurd h e
          · exact .inl h
        · exact .inr h
  refine List.ext_getElem? fun j => ?_
  by_cases h : j ∈ vs
  · exact key vs (fun _ h => h) j (.inl h)
  · exact key vs (fun _ h => h) j (.inr h)
theorem wipe_chg {vs : List Nat} : Chg vs (wipe σ vs) σ := ⟨by rw [wipe_length], fun j hj => (wipe_at (x := V.non) hj).symm⟩
theorem wipe_wipe {vs : List Nat} : wipe (wipe σ vs) vs = wipe σ vs := (wipe_ext (wipe_chg (σ := σ) (vs := vs))).symm
theorem Rel.wiped {σ' : L2.St} {vs : List Nat} (r : Rel K R F env σ' H) (c : Chg vs (wipe σ vs) σ') : Rel K R F (wipeE env vs) (wipe σ vs) H := by
  have e : ∀ j, j ∉ vs → (wipe σ vs)[j]? = σ'[j]? := fun j hj => (c.2 j hj).symm
  refine { r.toBase with len := by rw [wipeE_len, ← r.len, c.1], sl := fun i s h => ?_, dis := fun i j s t a hij h1 o1 h2 o2 h3 h4 => ?_ }
  · obtain ⟨h1, h2⟩ := wipeE_some h
    obtain ⟨x, h3, h4⟩ := r.sl i s h1
    exact ⟨x, by rw [e i h2]; exact h3, h4⟩
  · obtain ⟨a1, a2⟩ := wipeE_some h1
    obtain ⟨b1, b2⟩ := wipeE_some h2
    rw [e i a2] at h3
    rw [e j b2] at h4
    exact r.dis i j s t a hij a1 o1 b1 o2 h3 h4
theorem restE_at : ∀ {vs : List Nat} {i : Nat} {s : Slot}, (restE env env0 vs)[i]? = some (some s) → (i ∈ vs ∧ env0[i]? = some (some s)) ∨ (i ∉ vs ∧ env[i]? = some (some s))
  | [], i, s, h => .inr ⟨by simp, h⟩
  | v :: vs, i, s, h => by
    unfold restE at h
    rcases list_ix_set h with ⟨e1, e⟩ | ⟨hj, e⟩
    · subst e1
      refine .inl ⟨List.mem_cons_self, ?_⟩
      rw [List.getD_eq_getElem?_getD] at e
      cases q : env0[i]? with
      | none => rw [q] at e; cases e
      | some o => rw [q] at e; exact congrArg some e.symm
    · rcases restE_at e with ⟨a, b⟩ | ⟨a, b⟩
      · exact .inl ⟨List.mem_cons_of_mem _ a, b⟩
      · exact .inr ⟨by simp only [List.mem_cons, not_or]; exact ⟨hj, a⟩, b⟩
theorem SlotOk.fzmono {H' : Hp} {x : V} {s : Slot} (h : SlotOk K R F H x s) (o : s.owns = false) (f : Same F F') : SlotOk K R F' H' x s := by
  cases s with
  | fz d => exact rp_mono f _ _ h
  | sc ns => obtain ⟨a, e, h1⟩ := h; exact ⟨a, e, f.seq h1⟩
  | ex a => exact h
  | _ => cases o
theorem Rel.rest {H' : Hp} {vs : List Nat} (r0 : Rel K R F env0 σ H) (r : Rel K R F' env (wipe σ vs) H') (f : Same F F') (no : noOwn env0 vs) : Rel K R F' (restE env env0 vs) σ H' := by
  refine { r.toBase with len := by rw [restE_len, ← r.len, wipe_length], sl := fun i s h => ?_, dis := fun i j s t a hij h1 o1 h2 o2 h3 h4 => ?_ }
  · rcases restE_at h with ⟨a, b⟩ | ⟨a, b⟩
    · obtain ⟨x, h3, h4⟩ := r0.sl i s b
      exact ⟨x, h3, h4.fzmono (no i a s b) f⟩
    · obtain ⟨x, h3, h4⟩ := r.sl i s b
      exact ⟨x, by rw [← wipe_at (x := V.non) a]; exact h3, h4⟩
  · rcases restE_at h1 with ⟨a1, b1⟩ | ⟨a1, b1⟩
    · rw [no i a1 s b1] at o1; cases o1
    · rcases restE_at h2 with ⟨a2, b2⟩ | ⟨a2, b2⟩
      · rw [no j a2 t b2] at o2; cases o2
      · refine r.dis i j s t a hij b1 o1 b2 o2 ?_ ?_
        · rw [wipe_at (x := V.non) a1]; exact h3
        · rw [wipe_at (x := V.non) a2]; exact h4
/-- something of ours kept aside, taken back, changed -/
def Root.kee (R : Root τ) (k : Hp) : Root τ := { R with keep := k }
theorem Rel.aside {D : Addr} {o : HO} (r : Rel K R F env σ H) (hD : H D = some o) (hF : F D = none) (h0 : R.H0 D = none) (ht : isTbl o = false) (fr : ∀ (i : Nat) (t : Slot) (a : Addr), env[i]? = some (some t) → t.owns = true → σ[i]? = some (some (.ref a)) → a ≠ D) (htu : isTup o = false := by rfl) :
    Rel K (R.kee (upd R.keep D o)) F env σ H := by
  refine { ext := r.ext, sub := r.sub, frame := r.frame, tabs := r.tabs, tok := r.tok, has := r.has, new := r.new, kt := fun a u h => ?_, kind := r.kind, drw := r.drw, kp := fun a u h => ?_, len := r.len, sl := fun i s h => ?_, dis := r.dis }
  · by_cases e : a = D
    · subst e
      have h : upd R.keep a o a = some u := h
      rw [upd_same] at h; cases h
      exact htu
    · have h : upd R.keep D o a = some u := h
      rw [upd_ne e] at h; exact r.kt a u h
  · by_cases e : a = D
    · subst e
      have h : upd R.keep a o a = some u := h
      rw [upd_same] at h; cases h
      exact ⟨hD, hF, ht, h0⟩
    · have h : upd R.keep D o a = some u := h
      rw [upd_ne e] at h; exact r.kp a u h
  · obtain ⟨x, h1, h2⟩ := r.sl i s h
    refine ⟨x, h1, ?_⟩
    have ne : ∀ a, s.owns = true → x = .ref a → upd R.keep D o a = R.keep a := fun a os ex => upd_ne (fr i s a h os (by rw [h1, ex]))
    cases s with
    | fz d => exact h2
    | sc ns => exact h2
    | ex a => exact h2
    | ol ds => obtain ⟨a, xs, e, ow, h3⟩ := h2; exact ⟨a, xs, e, ⟨ow.1, ow.2.1, (ne a rfl e).trans ow.2.2⟩, h3⟩
    | od ds => obtain ⟨a, xs, e, ow, h3⟩ := h2; exact ⟨a, xs, e, ⟨ow.1, ow.2.1, (ne a rfl e).trans ow.2.2⟩, h3⟩
    | ot ds => obtain ⟨a, xs, e, ow, h3⟩ := h2; exact ⟨a, xs, e, ⟨ow.1, ow.2.1, (ne a rfl e).trans ow.2.2⟩, h3⟩
    | dr => obtain ⟨a, e, h0', h3⟩ := h2; exact ⟨a, e, ⟨h0'.1, (ne a rfl e).trans h0'.2⟩, h3⟩
theorem Rel.back {D : Addr} {o : HO} (r : Rel K (R.kee (upd R.keep D o)) F env σ H) (hn : R.keep D = none) : Rel K R F env σ H ∧ H D = some o ∧ F D = none ∧ R.H0 D = none ∧ ∀ (i : Nat) (t : Slot) (a : Addr), env[i]? = some (some t) → t.owns = true → σ[i]? = some (some (.ref a)) → a ≠ D := by
  have k0 : (R.kee (upd R.keep D o)).keep D = some o := upd_same
  obtain ⟨h1, h2, h3, h4⟩ := r.kp D o k0
  have kn : ∀ a, (R.kee (upd R.keep D o)).keep a = none → R.keep a = none := fun a h => by
    by_cases e : a = D
    · rw [e]; exact hn
    · have h : upd R.keep D o a = none := h
      rw [upd_ne e] at h; exact h
  refine ⟨{ ext := r.ext, sub := r.sub, frame := r.frame, tabs := r.tabs, tok := r.tok, has := r.has, new := r.new, kt := fun a u h => ?_, kind := r.kind, drw := r.drw, kp := fun a u h => ?_, len := r.len, sl := fun i s h => ?_, dis := r.dis }, h1, h2, h4, fun i t a e ot e2 z => ?_⟩
  · refine r.kt a u ?_
    show upd R.keep D o a = some u
    rw [upd_ne (ne_of_none h hn)]; exact h
  · refine r.kp a u ?_
    show upd R.keep D o a = some u
    rw [upd_ne (ne_of_none h hn)]; exact h
  · obtain ⟨x, h1, h2⟩ := r.sl i s h
    refine ⟨x, h1, ?_⟩
    cases s with
    | fz d => exact h2
    | sc ns => exact h2
    | ex a => exact h2
    | ol ds => obtain ⟨a, xs, e, ow, h3⟩ := h2; exact ⟨a, xs, e, ⟨ow.1, ow.2.1, kn a ow.2.2⟩, h3⟩
    | od ds => obtain ⟨a, xs, e, ow, h3⟩ := h2; exact ⟨a, xs, e, ⟨ow.1, ow.2.1, kn a ow.2.2⟩, h3⟩
    | ot ds => obtain ⟨a, xs, e, ow, h3⟩ := h2; exact ⟨a, xs, e, ⟨ow.1, ow.2.1, kn a ow.2.2⟩, h3⟩
    | dr => obtain ⟨a, e, h0', h3⟩ := h2; exact ⟨a, e, ⟨h0'.1, kn a h0'.2⟩, h3⟩
  · obtain ⟨x, h5, h6⟩ := r.sl i t e
    rw [e2] at h5; cases h5
    obtain ⟨b, e3, h7, _⟩ := h6.addr ot
    cases e3
    rw [z, k0] at h7
    cases h7.2
/-- an object kept aside alone changes -/
theorem Rel.writeK {D : Addr} {o o' : HO} (r : Rel K R F env σ H) (hD : H D = some o) (hF : F D = none) (hK : R.keep D = none) (h0 : R.H0 D = none) (ht : isTbl o = false) (ht' : isTbl o' = false) (fr : ∀ (i : Nat) (t : Slot) (a : Addr), env[i]? = some (some t) → t.owns = true → σ[i]? = some (some (.ref a)) → a ≠ D) :
    Rel K R F env σ (upd H D o') := by
  refine { ext := r.ext, sub := fun b u e => ?_, frame := fun b u e1 e2 e3 => ?_, tabs := fun b ps e => ?_, tok := fun b hm ps e => ?_, has := fun P hP => (let ⟨ps, e⟩ := r.has P hP; ⟨ps, by rw [upd_ne (fun z => by subst z; rw [hD] at e; cases e; cases ht)]; exact e⟩), new := r.new, kt := r.kt, kind := r.kind, drw := fun b e => ?_, kp := fun b u e => ?_, len := r.len, sl := fun j t e => ?_, dis := r.dis }
  · rw [upd_ne (ne_of_none e hF)]; exact r.sub b u e
  · rw [upd_ne (ne_of_none e1 h0)]; exact r.frame b u e1 e2 e3
  · obtain ⟨m, e1⟩ := r.tabs b ps e
    refine ⟨m, ?_⟩
    rw [upd_ne (ne_of_none e h0)]
    exact e1
  · by_cases hb : b = D
    · subst hb; rw [upd_same] at e; cases e; cases ht'
    · rw [upd_ne hb] at e; exact r.tok b hm ps e
  · obtain ⟨h1, ⟨o2, h2⟩, h3⟩ := r.drw b e
    refine ⟨h1, ⟨o2, h2⟩, ?_⟩
    rw [upd_ne (ne_of_none h2 h0)]; exact h3
  · obtain ⟨h1, h2⟩ := r.kp b u e
    exact ⟨by rw [upd_ne (ne_of_none e hK)]; exact h1, h2⟩
  · obtain ⟨y, h1, h2⟩ := r.sl j t e
    refine ⟨y, h1, ?_⟩
    cases t with
    | fz d => exact h2
    | sc ns => exact h2
    | ex a => exact h2
    | ol ds => obtain ⟨b, xs, eb, ow, h3, h4⟩ := h2; exact ⟨b, xs, eb, ow, by rw [upd_ne (fr j _ b e rfl (by rw [h1, eb]))]; exact h3, h4⟩
    | od kvs => obtain ⟨b, xs, eb, ow, h3, h4⟩ := h2; exact ⟨b, xs, eb, ow, by rw [upd_ne (fr j _ b e rfl (by rw [h1, eb]))]; exact h3, h4⟩
    | ot kvs => obtain ⟨b, xs, eb, ow, h3, h4⟩ := h2; exact ⟨b, xs, eb, ow, by rw [upd_ne (fr j _ b e rfl (by rw [h1, eb]))]; exact h3, h4⟩
    | dr => obtain ⟨b, eb, h0, h1', ns, h3, h4⟩ := h2; exact ⟨b, eb, h0, h1', ns, by rw [upd_ne (fr j _ b e rfl (by rw [h1, eb]))]; exact h3, h4⟩
end

/-! ### readings for any root -/
def rdEs (τ : Tau) (K : PySem.W.Frag) (w : WE) : TE := fun σ H Q => ∃ R : Root τ, rdE K R w σ H Q
def rdTs (τ : Tau) (K : PySem.W.Frag) (w : WT) : TT := fun σ H Q => ∃ R : Root τ, rdT K R w σ H Q
def rdGx (τ : Tau) (K : PySem.W.Frag) (vs : List Nat) (w : WG) : TG := fun v σ H Q => ∃ R : Root τ, rdG K R vs w v σ H Q
theorem pe_s {X : Cx} {e : Expr} {w : WE} (h : ∀ R : Root τ, CE X R e w) : PE X e (rdEs τ X.K w) := ⟨fun pins s σ H Q I ⟨R, q⟩ => (h R).run pins s σ H Q I q⟩
theorem pt_s {X : Cx} {e : Expr} {w : WT} (h : ∀ R : Root τ, CT X R e w) : PT X e (rdTs τ X.K w) := ⟨fun pins s σ H Q I ⟨R, q⟩ => (h R).run pins s σ H Q I q⟩
theorem pg_s {X : Cx} {e : Expr} {vs : List Nat} {w : WG} (h : ∀ R : Root τ, CG X R vs e w) : PG X e (rdGx τ X.K vs w) := ⟨fun pins s σ H v u Q I r ⟨R, q⟩ => (h R).run pins s σ H v u Q I r q⟩
/-- a clause's tests -/
def CTs (X : Cx) (R : Root τ) (es : List Expr) (w : WT) : Prop := PTs X es (rdT X.K R w)
@[simp ↓] def wYes : WT := fun env Q => Q true env
theorem cts_nil {X : Cx} {R : Root τ} : CTs X R [] wYes := ⟨fun pins s σ H Q I ⟨F, env, Qw, r, w, k⟩ => pts_nil.run pins s σ H Q I (k F env H true (Same.refl F) r w)⟩
theorem cts_one {X : Cx} {R : Root τ} {e : Expr} {w : WT} (h : CT X R e w) : CTs X R [e] w := pts_one h
theorem pts_s {X : Cx} {es : List Expr} {w : WT} (h : ∀ R : Root τ, CTs X R es w) : PTs X es (rdTs τ X.K w) := ⟨fun pins s σ H Q I ⟨R, q⟩ => (h R).run pins s σ H Q I q⟩

/-! ### the comprehension -/
/-- by an invariant: what is left to walk, what is made, the names -/
structure LcI (g : WG) (tt : WT) (we : WE) (vs : List Nat) (Q : List PyData → PEnv → Prop) (I : List PyData → List PyData → PEnv → Prop) : Prop where
  fin : ∀ acc e, I [] acc e → Q acc e
  step : ∀ x xs acc e, I (x :: xs) acc e → g x e fun e1 => tt e1 fun b e2 => if b = true then we e2 fun y e3 => acc.length < sizeLine ∧ I xs (acc ++ [y]) (wipeE e3 vs) else I xs acc (wipeE e2 vs)
def lcW (g : WG) (tt : WT) (we : WE) (vs : List Nat) (items acc : List PyData) (env : PEnv) (Q : List PyData → PEnv → Prop) : Prop := ∃ I, I items acc env ∧ LcI g tt we vs Q I
@[simp ↓] def wLc (wi : WI) (g : WG) (tt : WT) (we : WE) (vs : List Nat) : WF := fun env Q => wi env fun items e1 => noOwn e1 vs ∧ lcW g tt we vs items [] (wipeE e1 vs) fun ds e2 => Q (.ol ds) (restE e2 e1 vs)
section lc
variable {X : Cx} {R : Root τ} {elt tg iter : Expr} {ifs : List Expr} {scope : Scope} {own : List (Str × Nat)} {pos spos : Pos} {wi : WI} {g : WG} {tt : WT} {we : WE}
theorem wLc_rd {vs : List Nat} : ∀ σ H Q, rdF X.K R (wLc wi g tt we vs) σ H Q → tLc (rdI X.K R wi) (rdGx τ X.K vs g) (rdTs τ X.K tt) (rdEs τ X.K we) vs σ H Q := by
  intro σ H Q ⟨F, env, Qw, r, w, k⟩
  refine ⟨F, env, _, r, w, fun F1 e1 H1 J items f1 r1 y1 ⟨no, I, i0, iok⟩ => fun D hD => ?_⟩
  obtain ⟨rD, sD, frD⟩ := new_ol r1 hD (xs := []) (ds := []) .nil
  obtain ⟨D', xs', eD, owD, hD1, lD⟩ := sD
  cases eD
  have ex : xs' = [] := by cases lD; rfl
  subst ex
  have fr0 : ∀ (i : Nat) (t : Slot) (a : Addr), e1[i]? = some (some t) → t.owns = true → σ[i]? = some (some (.ref a)) → a ≠ D := fun i t a h1 h2 h3 z => frD rfl i t a h1 h2 h3 (by rw [z])
  have hKD : R.keep D = none := owD.2.2
  have rk0 := rD.aside hD1 owD.1 owD.2.1 rfl fr0
  -- the state between two turns: D kept aside
  refine ⟨fun i m H => m = items.length - i ∧ i ≤ items.length ∧ ∃ F2 env2 acc accD, Same F1 F2 ∧ Rel X.K (R.kee (upd R.keep D (.lst acc))) F2 env2 (wipe σ vs) H ∧ RpL X.K F2 acc accD ∧ I (items.drop i) accD env2,
    ⟨items.length, rfl, Nat.zero_le _, F1, _, [], [], Same.refl _, rk0.wiped (vs := vs) (σ := σ) wipe_chg, .nil, i0⟩, ?_⟩
  rintro i m H ⟨rfl, hi, F2, env2, acc, accD, f2, r2, l2, w2⟩
  by_cases hlt : i < items.length
  · have e0 : items.drop i = items[i] :: items.drop (i + 1) := List.drop_eq_getElem_cons hlt
    rw [e0] at w2
    replace w2 := iok.step _ _ _ _ w2
    obtain ⟨g1, g2⟩ := y1.go _ F2 env2 (wipe σ vs) H i items[i] f2 r2 (List.getElem?_eq_getElem hlt)
    refine .inr ⟨g1, fun H' => ∃ F3 env3 acc accD, Same F1 F3 ∧ Rel X.K (R.kee (upd R.keep D (.lst acc))) F3 env3 (wipe σ vs) H' ∧ RpL X.K F3 acc accD ∧ I (items.drop (i + 1)) accD env3,
      fun H' z => ⟨items.length - (i + 1), by omega, rfl, hlt, z⟩, fun x H' hy => ?_⟩
    obtain ⟨F3, f3, r3, p3⟩ := g2 x H' hy
    refine ⟨_, F3, env2, _, items[i], r3, p3, w2, fun F4 e4 σ4 H4 f4 r4 c4 w4 => ⟨(wipe_ext c4).trans wipe_wipe, _, F4, e4, _, r4, w4, fun F5 e5 H5 b f5 r5 w5 => ?_⟩⟩
    have ff5 := ((f2.trans f3).trans f4).trans f5
    have g25 := (f3.trans f4).trans f5
    cases b with
    | true =>
      refine ⟨_, F5, e5, _, r5, w5, fun F6 e6 H6 y d f6 r6 p6 ⟨hz, w6⟩ => ?_⟩
      obtain ⟨rb, hb1, hb2, hb3, hb4⟩ := r6.back hKD
      refine ⟨acc, hb1, by rw [l2.length]; exact hz, F6, wipeE e6 vs, acc ++ [y], accD ++ [d], ff5.trans f6, ?_, (rpL_mono (g25.trans f6) _ _ l2).append (.cons p6 .nil), w6⟩
      have rw6 := (rb.writeK hb1 hb2 hKD hb3 rfl (o' := .lst (acc ++ [y])) rfl hb4).aside upd_same hb2 hb3 rfl hb4
      exact rw6.wiped c4
    | false =>
      refine ⟨F5, wipeE e5 vs, acc, accD, ff5, r5.wiped c4, rpL_mono g25 _ _ l2, w5⟩
  · have e0 : i = items.length := by omega
    subst e0
    rw [List.drop_length] at w2
    replace w2 := iok.fin _ _ w2
    obtain ⟨rb, hb1, hb2, hb3, hb4⟩ := r2.back hKD
    have rr := r1.rest rb f2 no
    refine .inl ⟨y1.stop _ F2 env2 (wipe σ vs) H f2 r2, k F2 _ H (.ref D) (.ol accD) (f1.trans f2) rr ⟨D, acc, rfl, ⟨hb2, hb3, hKD⟩, hb1, l2⟩ (fun _ j t a h1 h2 h3 z => ?_) w2⟩
    cases z
    rcases restE_at h1 with ⟨q1, q2⟩ | ⟨q1, q2⟩
    · rw [no j q1 t q2] at h2; cases h2
    · exact hb4 j t D q2 h2 (by rw [wipe_at (x := V.non) q1]; exact h3) rfl
theorem cf_lc (hc : X.calm = true) (hN : X.N.Nodup) (hi : CI X R tg iter wi) (ok : BlkOk X.N X.env.scope scope own)
    (hg : ∀ (R : Root τ) (s : Shared) (H : Hp) (C : Addr) (cl : List (Str × Addr)) (fp : List Addr), CG (X.blk s H scope (compEnvC scope cl C X.env) fp) R (own.map (·.2)) tg g)
    (ht : ∀ (R : Root τ) (s : Shared) (H : Hp) (C : Addr) (cl : List (Str × Addr)) (fp : List Addr), CTs (X.blk s H scope (compEnvC scope cl C X.env) fp) R ifs tt)
    (he : ∀ (R : Root τ) (s : Shared) (H : Hp) (C : Addr) (cl : List (Str × Addr)) (fp : List Addr), CE (X.blk s H scope (compEnvC scope cl C X.env) fp) R elt we) (hs : ∀ x, foldedSetIterable iter X.env x = pure x := by intro _; rfl) :
    CF X R (.ListComp elt [⟨tg, iter, ifs, 0⟩] scope pos) (wLc wi g tt we (own.map (·.2))) :=
  pe_imp (pe_lc hc hN hi ok (fun s H C cl fp => pg_s fun R => hg R s H C cl fp) (fun s H C cl fp => pts_s fun R => ht R s H C cl fp) (fun s H C cl fp => pe_s fun R => he R s H C cl fp) hs) wLc_rd
/-- name = [..] on one line, the name a local -/
theorem cs_setLc {i : Nat} {y : Str} {py : Pos} (hc : X.calm = true) (hN : X.N.Nodup) (hy : X.N[i]? = some y) (hyl : X.env.scope.names.lookup y = some .local)
    (hsw : swapsWith (.ListComp elt [⟨tg, iter, ifs, 0⟩] scope pos) (some (.Name y py)) spos.line X.env = pure true) (hi : CI X R tg iter wi) (ok : BlkOk X.N X.env.scope scope own)
    (hg : ∀ (R : Root τ) (s : Shared) (H : Hp) (C : Addr) (cl : List (Str × Addr)) (fp : List Addr), CG (X.blk s H scope (compEnvC scope cl C X.env) fp) R (own.map (·.2)) tg g)
    (ht : ∀ (R : Root τ) (s : Shared) (H : Hp) (C : Addr) (cl : List (Str × Addr)) (fp : List Addr), CTs (X.blk s H scope (compEnvC scope cl C X.env) fp) R ifs tt)
    (he : ∀ (R : Root τ) (s : Shared) (H : Hp) (C : Addr) (cl : List (Str × Addr)) (fp : List Addr), CE (X.blk s H scope (compEnvC scope cl C X.env) fp) R elt we) (hs : ∀ x, foldedSetIterable iter X.env x = pure x := by intro _; rfl) :
    CS X R (.Assign [.Name y py] (.ListComp elt [⟨tg, iter, ifs, 0⟩] scope pos) spos) (wSet i (wLc wi g tt we (own.map (·.2)))) :=
  ps_imp (ps_setLc hc hN hy hyl hsw hi ok (fun s H C cl fp => pg_s fun R => hg R s H C cl fp) (fun s H C cl fp => pts_s fun R => ht R s H C cl fp) (fun s H C cl fp => pe_s fun R => he R s H C cl fp) hs) (wSet_rd wLc_rd)
end lc
end VL
set_option Elab.async false
set_option linter.all false
set_option maxRecDepth 100000
/-! VL6: what a def promises by value; its body; its calls. -/
namespace VL
open PySem PySem.Spec PyProof.Rows L2
variable {τ : Tau}

section
variable {K : PySem.W.Frag} {R : Root τ} {F F' H H' : Hp} {env : PEnv} {σ : L2.St}
theorem Base.h0 (r : Base R F H) {p : Addr} (hp : H p = none) : R.H0 p = none ∧ R.keep p = none := by
  constructor
  · cases q : R.H0 p with
    | none => rfl
    | some u =>
      cases ht : isTbl u with
      | true =>
        cases u <;> first | cases ht | skip
        obtain ⟨m, e⟩ := r.tabs _ _ q
        rw [hp] at e; cases e
      | false =>
        by_cases hd : R.d = some p
        · obtain ⟨_, _, ns, e, _⟩ := r.drw p hd
          rw [hp] at e; cases e
        · have e := r.frame p u q ht hd
          rw [hp] at e; cases e
  · cases q : R.keep p with
    | none => rfl
    | some u =>
      have e := (r.kp p u q).1
      rw [hp] at e; cases e
/-- behind a call that may draw from slot i's draws -/
theorem Rel.upD {i : Nat} {a : Addr} (r : Rel K R F env σ H) (hi : env[i]? = some (some .dr)) (hx : σ[i]? = some (some (.ref a))) (b : Base (rt (τ := τ) H F (some a)) F' H') (ff : Same F F') : Rel K R F' env σ H' := by
  obtain ⟨x, e1, a', e2, ⟨hFa, hKa⟩, hRa, ns0, hHa, hns0⟩ := r.sl i _ hi
  rw [hx] at e1; cases e1
  cases e2
  have fr : ∀ c o, c ≠ a → H c = some o → isTbl o = false → H' c = some o := fun c o hc h1 h2 => b.frame c o h1 h2 (fun z => by cases z; exact hc rfl)
  have tb : ∀ c ps, H c = some (.tbl ps) → ∃ m, H' c = some (.tbl (ps ++ m)) := fun c ps h => b.tabs c ps h
  have hF : ∀ c o, c ≠ a → F c = none → H c = some o → isTbl o = false → isTup o = false → F' c = none := fun c o hc h1 h2 h3 h4 => by
    cases q : F' c with
    | none => rfl
    | some u =>
      rcases b.new c u q with z | z | z
      · have z' : F c = some u := z
        rw [h1] at z'; cases z'
      · have z' : H c = none := z
        rw [h2] at z'; cases z'
      · have e := b.sub c u q
        rw [fr c o hc h2 h3] at e
        cases e
        rw [h4] at z; cases z
  obtain ⟨hFa', _, ns', hHa', hns'⟩ := b.drw a rfl
  have nka : ∀ c o, R.keep c = some o → c ≠ a := fun c o h z => by rw [z, hKa] at h; cases h
  refine { ext := r.ext.trans ff, sub := b.sub, frame := fun c o h1 h2 h3 => ?_, tabs := fun c ps h => ?_, tok := b.tok, has := b.has, new := fun c o h => ?_, kt := r.kt, kind := b.kind, drw := fun c h => ?_, kp := fun c o h => ?_, len := r.len, sl := fun j t e => ?_, dis := r.dis }
  · refine fr c o (fun z => ?_) (r.frame c o h1 h2 h3) h2
    subst z
    rcases hRa with z | z
    · rw [h1] at z; cases z
    · exact h3 z
  · obtain ⟨m1, q1⟩ := r.tabs c ps h
    obtain ⟨m2, q2⟩ := tb c _ q1
    exact ⟨m1 ++ m2, by rw [q2, Array.append_assoc]⟩
  · rcases b.new c o h with z | z | z
    · exact r.new c o z
    · exact .inr (.inl (r.toBase.h0 z).1)
    · exact .inr (.inr z)
  · obtain ⟨h1, h2, ns, h3, h4⟩ := r.drw c h
    by_cases hc : c = a
    · subst hc; exact ⟨hFa', h2, ns', hHa', hns'⟩
    · exact ⟨hF c _ hc h1 h3 h4.1 h4.nt, h2, ns, fr c _ hc h3 h4.1, h4.mono ff⟩
  · obtain ⟨h1, h2, h3, h4⟩ := r.kp c o h
    exact ⟨fr c o (nka c o h) h1 h3, hF c _ (nka c o h) h2 h1 h3 (r.kt c o h), h3, h4⟩
  · obtain ⟨y, h1, h2⟩ := r.sl j t e
    refine ⟨y, h1, ?_⟩
    have ne : ∀ c, t.owns = true → y = .ref c → j ≠ i → c ≠ a := fun c ot ey hj z => by
      subst z; subst ey
      exact r.dis j i t .dr c hj e ot hi rfl h1 hx
    cases t with
    | fz d => exact rp_mono ff _ _ h2
    | sc ns => obtain ⟨c, ec, h3⟩ := h2; exact ⟨c, ec, ff.seq h3⟩
    | ex a => exact h2
    | ol ds =>
      obtain ⟨c, xs, ec, ow, h3, h4⟩ := h2
      have hj : j ≠ i := fun z => by rw [z, hi] at e; cases e
      exact ⟨c, xs, ec, ⟨hF c _ (ne c rfl ec hj) ow.1 h3 rfl rfl, ow.2⟩, fr c _ (ne c rfl ec hj) h3 rfl, rpL_mono ff _ _ h4⟩
    | od ds =>
      obtain ⟨c, xs, ec, ow, h3, h4, h5⟩ := h2
      have hj : j ≠ i := fun z => by rw [z, hi] at e; cases e
      exact ⟨c, xs, ec, ⟨hF c _ (ne c rfl ec hj) ow.1 h3 rfl rfl, ow.2⟩, fr c _ (ne c rfl ec hj) h3 rfl, kvs_mono ff h4, h5⟩
    | ot ds =>
      obtain ⟨c, xs, ec, ow, h3, h4, h5⟩ := h2
      have hj : j ≠ i := fun z => by rw [z, hi] at e; cases e
      exact ⟨c, xs, ec, ⟨hF c _ (ne c rfl ec hj) ow.1 h3 rfl rfl, ow.2⟩, fr c _ (ne c rfl ec hj) h3 rfl, kvs_mono ff h4, h5⟩
    | dr =>
      obtain ⟨c, ec, h0, h1', ns, h3, h4⟩ := h2
      by_cases hj : j = i
      · subst hj; subst ec
        rw [hx] at h1; cases h1
        exact ⟨a, rfl, ⟨hFa', h0.2⟩, h1', ns', hHa', hns'⟩
      · exact ⟨c, ec, ⟨hF c _ (ne c rfl ec hj) h0.1 h3 h4.1 h4.nt, h0.2⟩, h1', ns, fr c _ (ne c rfl ec hj) h3 h4.1, h4.mono ff⟩
end

/-! ### what a def promises -/
/-- a def by value: its arguments, what is wanted of its result, what is wanted of an exception's name -/
abbrev FW := List Slot → (Slot → Prop) → (Str → Prop) → Prop
def ArgOk (K : PySem.W.Frag) (F : Hp) (d : Option Addr) (x : V) : Slot → Prop
  | .fz v => Rp K F x v
  | .sc ns => ∃ a, x = .ref a ∧ SqL K F a (ns.map V.int)
  | .dr => ∃ a, d = some a ∧ x = .ref a
  | .ex a => x = .ref a
  | _ => False
structure ArgL (K : PySem.W.Frag) (F : Hp) (d : Option Addr) (vs : List V) (args : List Slot) : Prop where
  len : vs.length = args.length
  at_ : ∀ (i : Nat) (s : Slot), args[i]? = some s → ∃ x : V, vs[i]? = some x ∧ ArgOk K F d x s
  one : ∀ i j : Nat, args[i]? = some .dr → args[j]? = some .dr → i = j
def spW (τ : Tau) (K : PySem.W.Frag) (mg : Str → Option Value) (n : Nat) (fw : FW) : Sp := fun vs H Q E => vs.length = n ∧ ∃ (F : Hp) (d : Option Addr) (args : List Slot) (Qw : Slot → Prop) (Ew : Str → Prop), Base (rt (τ := τ) H F d) F H ∧ ArgL K F d vs args ∧ fw args Qw Ew ∧
  (∀ F' H' x s, Same F F' → Base (rt (τ := τ) H F d) F' H' → SlotOk K (rt (τ := τ) H F d) F' H' x s → Qw s → Q x H') ∧
  (∀ nm C F' H', mg nm = some (.ref C) → Same F F' → Base (rt (τ := τ) H F d) F' H' → Ew nm → E (.ref C) none H')
/-- the body's transformer, as the def's -/
@[simp ↓] def fwOf (n : Nat) (bw : (Str → Prop) → WS) : FW := fun args Q Ew => bw Ew { nx := fun _ => Q (.fz .none), rt := Q } (args.map some ++ List.replicate (n - args.length) none)
theorem rel_start {K : PySem.W.Frag} {F H : Hp} {d : Option Addr} {vs : List V} {args : List Slot} {N : List Str} (b : Base (rt (τ := τ) H F d) F H) (l : ArgL K F d vs args) : Rel K (rt (τ := τ) H F d) F (args.map some ++ List.replicate (N.length - args.length) none) (L2.start N vs) H := by
  have at' : ∀ (i : Nat) (s : Slot), (args.map some ++ List.replicate (N.length - args.length) none)[i]? = some (some s) → args[i]? = some s := fun i s e => by
    by_cases hi : i < args.length
    · rw [List.getElem?_append_left (by rw [List.length_map]; exact hi), List.getElem?_map] at e
      cases q : args[i]? with
      | none => rw [q] at e; cases e
      | some t => rw [q] at e; cases e; rfl
    · rw [List.getElem?_append_right (by rw [List.length_map]; omega), List.getElem?_replicate] at e
      split at e <;> cases e
  have st : ∀ (i : Nat) (x : V), vs[i]? = some x → (L2.start N vs)[i]? = some (some x) := fun i x e => by
    have hi := (List.getElem?_eq_some_iff.mp e).1
    unfold L2.start
    rw [List.getElem?_append_left (by rw [List.length_map]; exact hi), List.getElem?_map, e]
    rfl
  refine { b with len := ?_, sl := fun i s e => ?_, dis := fun i j s t a hij e1 o1 e2 o2 e3 e4 => ?_ }
  · unfold L2.start
    rw [List.length_append, List.length_append, List.length_map, List.length_map, List.length_replicate, List.length_replicate, l.len]
  · obtain ⟨x, h1, h2⟩ := l.at_ i s (at' i s e)
    refine ⟨x, st i x h1, ?_⟩
    cases s with
    | fz v => exact h2
    | sc ns => exact h2
    | ex a => exact h2
    | dr =>
      obtain ⟨a, hd, ex⟩ := h2
      obtain ⟨q1, _, q3⟩ := b.drw a hd
      exact ⟨a, ex, ⟨q1, rfl⟩, .inr hd, q3⟩
    | _ => cases h2
  · have a1 := at' i s e1
    have a2 := at' j t e2
    obtain ⟨x, _, h2⟩ := l.at_ i s a1
    obtain ⟨y, _, h4⟩ := l.at_ j t a2
    have key : ∀ {x : V} {s : Slot}, ArgOk K F d x s → s.owns = true → s = .dr := fun {x s} h o => by
      cases s with
      | dr => rfl
      | fz _ => cases o
      | sc _ => cases o
      | ex _ => cases o
      | _ => exact False.elim h
    have dr1 : s = .dr := key h2 o1
    have dr2 : t = .dr := key h4 o2
    rw [dr1] at a1
    rw [dr2] at a2
    exact hij (l.one i j a1 a2)

section body
variable {P : Program} {w : World} {K : PySem.W.Frag} {mg : Str → Option Value} {base : Heap}
/-- a def that lets nothing out keeps its promise by its body -/
theorem fnW {x qual : Str} {st : Stmt} {f : Addr} {fd : FuncData} {N ps : List Str} {k : Nat} {bw : (Str → Prop) → WS} (F : Fun K x qual st f fd) (S : FnScope N ps (defScope st))
    (hbody : ∀ (R : Root τ) (cdv : Value) (A : Around) (outer : List Env) (s : Shared) (H : Hp) (E : XK) (Ew : Str → Prop), Room k (A.deeper (envOfC qual (defScope st) s.heap.objs.size f cdv)) →
      CSs (cxOf CX0 P w K mg base N qual (defScope st) f cdv A outer s H E).nox R (defBody st) (bw Ew)) : FnOk P w K mg base CX0 (k + 1) f fd ps (spW τ K mg ps.length (fwOf N.length bw)) := by
  refine F.ok S (fun vs H Q E h => h.1) fun cdv A outer s H vs Q E hr h => ?_
  obtain ⟨hl, Fz, d, args, Qw, Ew, hb, ha, hf, hq, he⟩ := h
  refine ⟨_, hbody (rt (τ := τ) H Fz d) cdv A outer s H E Ew hr, Fz, _, _, rel_start hb ha, hf, fun F' env' σ' H' ff r q => ?_, fun _ _ _ _ _ _ z => z.elim, fun _ _ _ _ _ _ z => z.elim, fun F' H' y t ff r p q => hq F' H' y t ff r p q⟩
  exact hq F' H' .non (.fz .none) ff r.toBase .non q
end body

/-! ### calls -/
abbrev WAr := PEnv → (List Slot → PEnv → Prop) → Prop
/-- an argument, as it stands when all are there -/
def ArOk (K : PySem.W.Frag) (F : Hp) (env : PEnv) (σ : L2.St) (x : V) : Slot → Prop
  | .fz v => Rp K F x v
  | .sc ns => ∃ a, x = .ref a ∧ SqL K F a (ns.map V.int)
  | .dr => ∃ i : Nat, σ[i]? = some (some x)
  | .ex a => x = .ref a
  | _ => False
inductive ArsOk (K : PySem.W.Frag) (F : Hp) (σ : L2.St) : List V → List Slot → List (Option Nat) → Prop
  | nil : ArsOk K F σ [] [] []
  | fz {x : V} {v : PyData} {xs : List V} {as : List Slot} {is : List (Option Nat)} : Rp K F x v → ArsOk K F σ xs as is → ArsOk K F σ (x :: xs) (.fz v :: as) (none :: is)
  | sc {a : Addr} {ns : List Int} {xs : List V} {as : List Slot} {is : List (Option Nat)} : SqL K F a (ns.map V.int) → ArsOk K F σ xs as is → ArsOk K F σ (.ref a :: xs) (.sc ns :: as) (none :: is)
  | ex {a : Addr} {xs : List V} {as : List Slot} {is : List (Option Nat)} : ArsOk K F σ xs as is → ArsOk K F σ (.ref a :: xs) (.ex a :: as) (none :: is)
  | dr {x : V} {i : Nat} {xs : List V} {as : List Slot} {is : List (Option Nat)} : σ[i]? = some (some x) → ArsOk K F σ xs as is → ArsOk K F σ (x :: xs) (.dr :: as) (some i :: is)
/-- the arguments and which slots are draws -/
abbrev WAs := PEnv → (List Slot → List (Option Nat) → PEnv → Prop) → Prop
def rdAs (K : PySem.W.Frag) (R : Root τ) (w : WAs) : TA := fun σ H Q => ∃ F env Qw, Rel K R F env σ H ∧ w env Qw ∧ ∀ F' env' H' xs as is, Same F F' → Rel K R F' env' σ H' → ArsOk K F' σ xs as is → Qw as is env' → Q xs H'
abbrev CAs (X : Cx) (R : Root τ) (es : List Expr) (w : WAs) : Prop := PA X es (rdAs X.K R w)
@[simp ↓] def wAsNil : WAs := fun env Q => Q [] [] env
@[simp ↓] def wAsFz (we : WE) (wr : WAs) : WAs := fun env Q => we env fun d e1 => wr e1 fun as is e2 => Q (.fz d :: as) (none :: is) e2
@[simp ↓] def wAsDr (i : Nat) (wr : WAs) : WAs := fun env Q => (∃ s, env[i]? = some (some s)) ∧ wr env fun as is e2 => Q (.dr :: as) (some i :: is) e2
@[simp ↓] def wAsSc (i : Nat) (wr : WAs) : WAs := fun env Q => match env[i]? with
  | some (some (.sc ns)) => wr env fun as is e2 => Q (.sc ns :: as) (none :: is) e2
  | _ => False
/-- the draws' slots are draws, one at most -/
@[simp ↓] def drsOk (env : PEnv) : List (Option Nat) → Option Nat → Prop
  | [], _ => True
  | none :: r, o => drsOk env r o
  | some i :: r, none => env[i]? = some (some .dr) ∧ drsOk env r (some i)
  | some _ :: _, some _ => False
section calls
variable {X : Cx} {R : Root τ} {e : Expr} {es : List Expr} {pos p : Pos}
theorem ArsOk.mono {K : PySem.W.Frag} {F F' : Hp} {σ : L2.St} (f : Same F F') : ∀ {xs : List V} {as : List Slot} {is : List (Option Nat)}, ArsOk K F σ xs as is → ArsOk K F' σ xs as is
  | _, _, _, .nil => .nil
  | _, _, _, .fz h t => .fz (rp_mono f _ _ h) (t.mono f)
  | _, _, _, .sc h t => .sc (f.seq h) (t.mono f)
  | _, _, _, .ex t => .ex (t.mono f)
  | _, _, _, .dr h t => .dr h (t.mono f)
theorem cas_nil : CAs X R [] wAsNil := pa_imp pa_nil fun σ H Q ⟨F, env, Qw, r, w, k⟩ => k F env H [] [] [] (Same.refl F) r .nil w
theorem cas_fz {we : WE} {wr : WAs} (ha : CE X R e we) (hr : CAs X R es wr) (hs : starEach (e :: es) X.env = (false, eval e X.env) :: starEach es X.env := by rfl) : CAs X R (e :: es) (wAsFz we wr) :=
  pa_imp (pa_cons ha hr hs) fun σ H Q ⟨F, env, Qw, r, w, k⟩ => ⟨F, env, _, r, w, fun F1 e1 H1 x d f1 r1 p1 w1 => ⟨F1, e1, _, r1, w1, fun F2 e2 H2 xs as is f2 r2 p2 w2 =>
    k F2 e2 H2 _ _ _ (f1.trans f2) r2 (.fz (rp_mono f2 _ _ p1) p2) w2⟩⟩
theorem cas_dr {i : Nat} {x : Str} {wr : WAs} (ha : PE X (.Name x p) (tVar i)) (hr : CAs X R es wr) (hs : starEach (.Name x p :: es) X.env = (false, eval (.Name x p) X.env) :: starEach es X.env := by rfl) : CAs X R (.Name x p :: es) (wAsDr i wr) :=
  pa_imp (pa_cons ha hr hs) fun σ H Q ⟨F, env, Qw, r, ⟨⟨s, hs⟩, w⟩, k⟩ => by
    obtain ⟨v, h1, h2⟩ := r.sl i s hs
    exact ⟨v, h1, F, env, _, r, w, fun F2 e2 H2 xs as is f2 r2 p2 w2 => k F2 e2 H2 _ _ _ f2 r2 (.dr h1 p2) w2⟩
theorem cas_sc {i : Nat} {x : Str} {wr : WAs} (ha : PE X (.Name x p) (tVar i)) (hr : CAs X R es wr) (hs : starEach (.Name x p :: es) X.env = (false, eval (.Name x p) X.env) :: starEach es X.env := by rfl) : CAs X R (.Name x p :: es) (wAsSc i wr) :=
  pa_imp (pa_cons ha hr hs) fun σ H Q ⟨F, env, Qw, r, w, k⟩ => by
    unfold wAsSc at w
    cases q : env[i]? with
    | none => rw [q] at w; cases w
    | some o =>
      rw [q] at w
      cases o with
      | none => cases w
      | some s =>
        cases s with
        | sc ns =>
          obtain ⟨v, h1, a, ev, h2⟩ := r.sl i _ q
          subst ev
          exact ⟨_, h1, F, env, _, r, w, fun F2 e2 H2 xs as is f2 r2 p2 w2 => k F2 e2 H2 _ _ _ f2 r2 (.sc (f2.seq h2) p2) w2⟩
        | _ => cases w
@[simp ↓] def wAsEx (i : Nat) (wr : WAs) : WAs := fun env Q => match env[i]? with
  | some (some (.ex a)) => wr env fun as is e2 => Q (.ex a :: as) (none :: is) e2
  | _ => False
theorem cas_ex {i : Nat} {x : Str} {wr : WAs} (ha : PE X (.Name x p) (tVar i)) (hr : CAs X R es wr) (hs : starEach (.Name x p :: es) X.env = (false, eval (.Name x p) X.env) :: starEach es X.env := by rfl) : CAs X R (.Name x p :: es) (wAsEx i wr) :=
  pa_imp (pa_cons ha hr hs) fun σ H Q ⟨F, env, Qw, r, w, k⟩ => by
    unfold wAsEx at w
    cases q : env[i]? with
    | none => rw [q] at w; cases w
    | some o =>
      rw [q] at w
      cases o with
      | none => cases w
      | some s =>
        cases s with
        | ex a =>
          obtain ⟨v, h1, ev⟩ := r.sl i _ q
          subst ev
          exact ⟨_, h1, F, env, _, r, w, fun F2 e2 H2 xs as is f2 r2 p2 w2 => k F2 e2 H2 _ _ _ f2 r2 (.ex p2) w2⟩
        | _ => cases w
/-- a call of a def of one's own -/
@[simp ↓] def okRet (is : List (Option Nat)) (s : Slot) : Prop := match s with
  | .dr => ∀ i, some i ∉ is
  | _ => True
@[simp ↓] def wCall (n : Nat) (fw : FW) (wa : WAs) : WF := fun env Q => wa env fun as is e1 => as.length = n ∧ drsOk e1 is none ∧ fw as (fun s => okRet is s ∧ Q s e1) fun _ => False
theorem argl_none {K : PySem.W.Frag} {F : Hp} {env : PEnv} {σ : L2.St} : ∀ {xs : List V} {as : List Slot} {is : List (Option Nat)} {i0 : Nat}, ArsOk K F σ xs as is → drsOk env is (some i0) → ∀ d, xs.length = as.length ∧ (∀ (i : Nat) (s : Slot), as[i]? = some s → s ≠ .dr ∧ ∃ x : V, xs[i]? = some x ∧ ArgOk K F d x s)
  | _, _, _, _, .nil, _, d => ⟨rfl, fun i s e => by simp at e⟩
  | _, _, _, _, .fz h t, hd, d => by
    obtain ⟨h1, h2⟩ := argl_none t hd d
    refine ⟨congrArg (· + 1) h1, fun i s e => ?_⟩
    cases i with
    | zero => cases e; exact ⟨(fun z => nomatch z), _, rfl, h⟩
    | succ i => exact h2 i s e
  | _, _, _, _, .sc h t, hd, d => by
    obtain ⟨h1, h2⟩ := argl_none t hd d
    refine ⟨congrArg (· + 1) h1, fun i s e => ?_⟩
    cases i with
    | zero => cases e; exact ⟨(fun z => nomatch z), _, rfl, _, rfl, h⟩
    | succ i => exact h2 i s e
  | _, _, _, _, .ex t, hd, d => by
    obtain ⟨h1, h2⟩ := argl_none t hd d
    refine ⟨congrArg (· + 1) h1, fun i s e => ?_⟩
    cases i with
    | zero => cases e; exact ⟨(fun z => nomatch z), _, rfl, rfl⟩
    | succ i => exact h2 i s e
  | _, _, _, _, .dr h t, hd, d => hd.elim
theorem argl_of {K : PySem.W.Frag} {R : Root τ} {F H : Hp} {env : PEnv} {σ : L2.St} (r : Rel K R F env σ H) : ∀ {xs : List V} {as : List Slot} {is : List (Option Nat)}, ArsOk K F σ xs as is → drsOk env is none →
    (∀ d, ArgL K F d xs as) ∨ ∃ i a, some i ∈ is ∧ env[i]? = some (some .dr) ∧ σ[i]? = some (some (.ref a)) ∧ ArgL K F (some a) xs as
  | _, _, _, .nil, _ => .inl fun d => ⟨rfl, fun i s e => by simp at e, fun i j e => by simp at e⟩
  | _, _, _, .fz h t, hd => by
    have up : ∀ {d xs as v x}, ArgL K F d xs as → Rp K F x v → ArgL K F d (x :: xs) (.fz v :: as) := fun l h => ⟨congrArg (· + 1) l.len, fun i s e => by
      cases i with
      | zero => cases e; exact ⟨_, rfl, h⟩
      | succ i => exact l.at_ i s e, fun i j e1 e2 => by
      cases i with
      | zero => cases e1
      | succ i => cases j with
        | zero => cases e2
        | succ j => exact congrArg (· + 1) (l.one i j e1 e2)⟩
    rcases argl_of r t hd with h2 | ⟨i, a, hm, h2, h3, h4⟩
    · exact .inl fun d => up (h2 d) h
    · exact .inr ⟨i, a, List.mem_cons_of_mem _ hm, h2, h3, up h4 h⟩
  | _, _, _, .sc h t, hd => by
    have up : ∀ {d xs as ns a}, ArgL K F d xs as → SqL K F a (ns.map V.int) → ArgL K F d (.ref a :: xs) (.sc ns :: as) := fun l h => ⟨congrArg (· + 1) l.len, fun i s e => by
      cases i with
      | zero => cases e; exact ⟨_, rfl, _, rfl, h⟩
      | succ i => exact l.at_ i s e, fun i j e1 e2 => by
      cases i with
      | zero => cases e1
      | succ i => cases j with
        | zero => cases e2
        | succ j => exact congrArg (· + 1) (l.one i j e1 e2)⟩
    rcases argl_of r t hd with h2 | ⟨i, a, hm, h2, h3, h4⟩
    · exact .inl fun d => up (h2 d) h
    · exact .inr ⟨i, a, List.mem_cons_of_mem _ hm, h2, h3, up h4 h⟩
  | _, _, _, .ex t, hd => by
    have up : ∀ {d xs as a}, ArgL K F d xs as → ArgL K F d (.ref a :: xs) (.ex a :: as) := fun l => ⟨congrArg (· + 1) l.len, fun i s e => by
      cases i with
      | zero => cases e; exact ⟨_, rfl, rfl⟩
      | succ i => exact l.at_ i s e, fun i j e1 e2 => by
      cases i with
      | zero => cases e1
      | succ i => cases j with
        | zero => cases e2
        | succ j => exact congrArg (· + 1) (l.one i j e1 e2)⟩
    rcases argl_of r t hd with h2 | ⟨i, a, hm, h2, h3, h4⟩
    · exact .inl fun d => up (h2 d)
    · exact .inr ⟨i, a, List.mem_cons_of_mem _ hm, h2, h3, up h4⟩
  | _, _, _, .dr (i := i) h t, hd => by
    obtain ⟨h1, h2⟩ := hd
    obtain ⟨x, e1, a, e2, _⟩ := r.sl i _ h1
    rw [h] at e1; cases e1
    subst e2
    refine .inr ⟨i, a, List.mem_cons_self, h1, h, ?_⟩
    obtain ⟨l1, l2⟩ := argl_none t h2 (some a)
    refine ⟨congrArg (· + 1) l1, fun j s e => ?_, fun j k e1 e2 => ?_⟩
    · cases j with
      | zero => cases e; exact ⟨_, rfl, a, rfl, rfl⟩
      | succ j => exact (l2 j s e).2
    · cases j with
      | zero => cases k with
        | zero => rfl
        | succ k => exact absurd rfl (l2 k _ e2).1
      | succ j => exact absurd rfl (l2 j _ e1).1
theorem base_call {R : Root τ} {F H : Hp} (r : Base R F H) (d : Option Addr) (hd : ∀ a, d = some a → F a = none ∧ ∃ o, H a = some o ∧ DrB τ F o) : Base (rt (τ := τ) H F d) F H where
  sub := r.sub
  frame := fun _ _ h _ _ => h
  tabs := fun b ps h => ⟨#[], by
    have h : H b = some (.tbl ps) := h
    rw [h]; simp⟩
  tok := r.tok
  ext := Same.refl F
  has := r.has
  new := fun _ _ h => .inl h
  kind := r.kind
  drw := fun a h => by
    obtain ⟨h1, ns, h2, h3⟩ := hd a h
    exact ⟨h1, ⟨_, h2⟩, ns, h2, h3⟩
  kt := fun _ _ h => by cases h
  kp := fun _ _ h => by cases h
theorem slot_back {K : PySem.W.Frag} {R : Root τ} {F F' H H' : Hp} {d : Option Addr} {x : V} {s : Slot} {env : PEnv} {σ : L2.St} (r : Rel K R F env σ H) (nd : s ≠ .dr ∨ d = none) (h : SlotOk K (rt (τ := τ) H F d) F' H' x s) : SlotOk K R F' H' x s ∧ Fresh env σ x s := by
  have key : ∀ a, (rt (τ := τ) H F d).H0 a = none → R.H0 a = none ∧ R.keep a = none := fun a h => r.toBase.h0 h
  have fr : ∀ (a : Addr), H a = none → x = .ref a → Fresh env σ x s := fun a h e => by rw [e]; exact r.fresh h s
  cases s with
  | fz v => exact ⟨h, fun z => nomatch z⟩
  | sc ns => exact ⟨h, fun z => nomatch z⟩
  | ex a => exact ⟨h, fun z => nomatch z⟩
  | ol ds => obtain ⟨a, xs, e, ow, h2⟩ := h; exact ⟨⟨a, xs, e, ⟨ow.1, key a ow.2.1⟩, h2⟩, fr a ow.2.1 e⟩
  | od ds => obtain ⟨a, xs, e, ow, h2⟩ := h; exact ⟨⟨a, xs, e, ⟨ow.1, key a ow.2.1⟩, h2⟩, fr a ow.2.1 e⟩
  | ot ds => obtain ⟨a, xs, e, ow, h2⟩ := h; exact ⟨⟨a, xs, e, ⟨ow.1, key a ow.2.1⟩, h2⟩, fr a ow.2.1 e⟩
  | dr =>
    obtain ⟨a, e, h0, h1, h2⟩ := h
    rcases nd with z | z
    · exact absurd rfl z
    · subst z
      rcases h1 with h1 | h1
      · exact ⟨⟨a, e, ⟨h0.1, (key a h1).2⟩, .inl (key a h1).1, h2⟩, fr a h1 e⟩
      · cases h1
/-- from what the callee promises to what its caller wants -/
theorem call_rd {K : PySem.W.Frag} {mg : Str → Option Value} {R : Root τ} {F H : Hp} {env : PEnv} {σ : L2.St} {xs : List V} {as : List Slot} {is : List (Option Nat)} {n : Nat} {fw : FW} {Qw : Slot → Prop} {Q : VK} {E : XK} (hn : xs.length = n) (r : Rel K R F env σ H) (ha : ArsOk K F σ xs as is) (hd : drsOk env is none)
    (hf : fw as (fun s => okRet is s ∧ Qw s) fun _ => False) (k : ∀ F' H' x s, Same F F' → Rel K R F' env σ H' → SlotOk K R F' H' x s → Fresh env σ x s → Qw s → Q x H') : spW τ K mg n fw xs H Q E := by
  rcases argl_of r ha hd with l | ⟨i, a, hm, h1, h2, l⟩
  · refine ⟨hn, F, none, as, _, _, base_call r.toBase none (fun a h => by cases h), l none, hf, fun F' H' x s ff b p ⟨_, q⟩ => ?_, fun nm C F' H' _ _ _ z => z.elim⟩
    have r' := r.up b ff
    obtain ⟨p1, _⟩ := slot_back r (.inr rfl) p
    obtain ⟨_, p2⟩ := slot_back r (.inr rfl) p
    exact k F' H' x s ff r' p1 p2 q
  · obtain ⟨x0, e1, a0, e2, h0, _, hns⟩ := r.sl i _ h1
    rw [h2] at e1; cases e1
    cases e2
    refine ⟨hn, F, some a, as, _, _, base_call r.toBase (some a) (fun c h => by cases h; exact ⟨h0.1, hns⟩), l, hf, fun F' H' x s ff b p ⟨q0, q⟩ => ?_, fun nm C F' H' _ _ _ z => z.elim⟩
    have r' := r.upD h1 h2 b ff
    have nd : s ≠ .dr := fun z => by subst z; exact q0 i hm
    obtain ⟨p1, p2⟩ := slot_back r (.inl nd) p
    exact k F' H' x s ff r' p1 p2 q
theorem ArsOk.len {K : PySem.W.Frag} {F : Hp} {σ : L2.St} : ∀ {xs : List V} {as : List Slot} {is : List (Option Nat)}, ArsOk K F σ xs as is → xs.length = as.length
  | _, _, _, .nil => rfl
  | _, _, _, .fz _ t => congrArg (· + 1) t.len
  | _, _, _, .sc _ t => congrArg (· + 1) t.len
  | _, _, _, .ex t => congrArg (· + 1) t.len
  | _, _, _, .dr _ t => congrArg (· + 1) t.len
variable {k : Nat} {f : Addr} {fd : FuncData} {ps : List Str} {fw : FW} {x : Str} {wa : WAs}
/-- f(e, ..) -/
theorem cf_call (F : FnOk X.prog X.w X.K X.mg X.base CX0 k f fd ps (spW τ X.K X.mg ps.length fw)) (hr : Room k X.A) (hg : Gl X x) (hm : X.mg x = some (.ref f)) (hk : PySem.W.keepIn X.K (.ref f) = true) (hb : Binds X.K fd ps [])
    (ha : CAs X R (e :: es) wa) (hdb : (x == ("__debug__" : Str)) = false := by decide) (he : starEach (e :: es) X.env = (false, eval e X.env) :: starEach es X.env := by rfl) (hpl : (backTo pos (starEach es X.env)).any (·.1) = false := by rfl) :
    CF X R (.Call (.Name x p) (e :: es) [] pos) (wCall ps.length fw wa) := pe_imp (pe_call F hr hg hm hk hb .nil pass0 ha hdb he hpl) fun σ H Q ⟨Fz, env, Qw, r, w, kk⟩ =>
  ⟨Fz, env, _, r, w, fun F1 e1 H1 xs as is f1 r1 p1 ⟨hl, hd, w1⟩ => by
    show spW τ X.K X.mg ps.length fw (xs ++ []) H1 Q E0
    rw [List.append_nil]
    exact call_rd (by rw [p1.len]; exact hl) r1 p1 hd w1 fun F2 H2 y s f2 r2 p2 fr q => kk F2 e1 H2 y s (f1.trans f2) r2 p2 fr q⟩
theorem cf_call0 (F : FnOk X.prog X.w X.K X.mg X.base CX0 k f fd [] (spW τ X.K X.mg 0 fw)) (hr : Room k X.A) (hg : Gl X x) (hm : X.mg x = some (.ref f)) (hk : PySem.W.keepIn X.K (.ref f) = true) (hb : Binds X.K fd [] [])
    (hdb : (x == ("__debug__" : Str)) = false := by decide) : CF X R (.Call (.Name x p) [] [] pos) (wCall 0 fw wAsNil) := pe_imp (pe_call0 F hr hg hm hk hb .nil pass0 hdb) fun σ H Q ⟨Fz, env, Qw, r, w, kk⟩ =>
  call_rd rfl r .nil trivial w.2.2 fun F2 H2 y s f2 r2 p2 fr q => kk F2 env H2 y s f2 r2 p2 fr q
end calls
end VL
set_option Elab.async false
set_option linter.all false
set_option maxRecDepth 100000
set_option maxHeartbeats 1000000
/-! VL7: generator expressions over anything that PI serves. -/
namespace VL
open PySem PySem.Spec PyProof.Rows L2

/-- the context of a generator expression's frame: made at s, its first iterator's objects at fp -/
abbrev genCx (X : Cx) (A : Around) (s : Shared) (H : Hp) (cenv : Env) (fp : List Addr) : Cx := { X with A := A, s_0 := s, H_0 := H, env := cenv, outer := X.stack, stack := cenv :: X.stack, ex := fp, fn := fun _ => false, pn := [], xe := fun _ _ => False }
/-- the scope of a generator expression -/
structure GenSc (N : List Str) (sc scope : Scope) (own : List (Str × Nat)) : Prop extends BlkOk N sc scope own where
  co : scope.isCoroutine = false
  cell : ∀ y ∈ scope.names, y.2 ≠ .cell
  dot : scope.names.lookup (".0" : Str) = some NameKind.local
def genC (N : List Str) (sc scope : Scope) (own : List (Str × Nat)) : Bool :=
  blkC N sc scope own && !scope.isCoroutine && (scope.names.all fun y => match y.2 with | .cell => false | _ => true) && (match scope.names.lookup (".0" : Str) with | some .local => true | _ => false)
theorem genSc_by {N : List Str} {sc scope : Scope} {own : List (Str × Nat)} (h : genC N sc scope own = true) : GenSc N sc scope own := by
  unfold genC at h
  simp only [Bool.and_eq_true, List.all_eq_true, Bool.not_eq_true'] at h
  obtain ⟨⟨⟨h1, h2⟩, h3⟩, h4⟩ := h
  refine { blkOk_by h1 with co := h2, cell := fun y hy e => ?_, dot := ?_ }
  · have := h3 y hy
    rw [e] at this; cases this
  · split at h4
    · assumption
    · cases h4
section
variable {X : Cx} {pins : List (Addr × Obj)} {σ : L2.St} {H : Hp} {s s5 : Shared}
theorem gen_start {scope : Scope} {own : List (Str × Nat)} {fp : List Addr} {A : Around} {code : Value} {m0 : Str → Option Value} {a : Addr} {go : Obj} (I : Inv X pins σ H s) (ok : GenSc X.N X.env.scope scope own) (hN : X.N.Nodup) (hfp : ∀ b ∈ fp, FpOk X pins H b ∧ b < s.heap.objs.size)
    (hA : A.handled = none) (hAf : A.frames = some (genEnv scope (cloFrom X.env.cells scope.names []) s.heap.objs.size code builtinsNs X.env :: X.stack)) (kp : ∀ b o, s.heap.get? b = some o → s5.heap.get? b = some o) (hns : s5.heap.Ns s.heap.objs.size m0)
    (hos : s5.os = s.os) (hb : AllBare s5.gens) (hgo : s5.heap.get? a = some go) (ha : s.heap.objs.size < a) (hgd : ∀ v, go.data ≠ .cell v) :
    Inv (genCx X A s H (genEnv scope (cloFrom X.env.cells scope.names []) s.heap.objs.size code builtinsNs X.env) fp) [(a, go)] (wipe σ (own.map (·.2))) H s5 := by
  have hfree : ∀ y ∈ scope.names, y.2 = .free → ∃ c, X.env.cells.lookup y.1 = some c := fun y hy e => by
    rcases ok.free y hy e with k | k
    · exact I.ok.has _ (.inl k)
    · exact I.ok.has _ (.inr k)
  generalize hcenv : genEnv scope (cloFrom X.env.cells scope.names []) s.heap.objs.size code builtinsNs X.env = cenv at hAf ⊢
  have hL : cenv.locals = s.heap.objs.size := by rw [← hcenv]; rfl
  have hcl : cenv.cells = cloFrom X.env.cells scope.names [] := by rw [← hcenv]; rfl
  have hsc : cenv.scope = scope := by rw [← hcenv]; rfl
  have hfr : cenv.frame = some cenv.locals := by rw [← hcenv]; rfl
  have cm : ∀ {y c}, (y, c) ∈ cloFrom X.env.cells scope.names [] → X.env.cells.lookup y = some c ∧ c < s.heap.objs.size := fun {y c} hm => by
    rcases cloFrom_mem hm with hm | ⟨h1, rfl⟩
    · cases hm
    · obtain ⟨c, hc⟩ := hfree _ h1 rfl
      rw [hc]
      obtain ⟨w, z⟩ := I.cell _ _ hc
      exact ⟨rfl, z.lt⟩
  have mem : ∀ {y c}, cenv.cells.lookup y = some c → X.env.cells.lookup y = some c ∧ c < s.heap.objs.size := fun {y c} e => by
    rw [hcl] at e
    exact cm (PySem.mem_of_lookup e)
  have look : ∀ {y}, scope.names.lookup y = some .free → ∃ c, cenv.cells.lookup y = some c ∧ X.env.cells.lookup y = some c := fun {y} hl => by
    have hy : (y, NameKind.free) ∈ scope.names := PySem.mem_of_lookup hl
    obtain ⟨c', e'⟩ := mem_lookup (cloFrom_has (cells := X.env.cells) (acc := []) hy)
    rw [← hcl] at e'
    exact ⟨c', e', (mem e').1⟩
  have nocell : ∀ {y}, scope.names.lookup y ≠ some .cell := fun {y} e => ok.cell _ (PySem.mem_of_lookup e) rfl
  have okB : (genCx X A s H cenv fp).Ok := by
    refine ⟨I.ok.mod, by show cenv.scope.kind = _; rw [hsc]; exact ok.kind, by show cenv.globals = _; rw [← hcenv]; exact I.ok.glob, by show cenv.builtins = _; rw [← hcenv]; rfl, by show s.heap.objs.size ≤ cenv.locals; rw [hL]; exact Nat.le_refl _,
      fun y z c e1 e2 => ?_, fun y hy => ?_, fun y c z e => (by cases z), fun _ => hA, hAf, .inr ⟨rfl, hfr⟩, fun b hb => ⟨?_, fun y c e z => ?_⟩, I.bs, Nat.le_trans I.ok.bsz I.sz, fun b o e hb => ?_, fun b hb z => ?_, I.stack, I.stkFree⟩
    · have e1 : cenv.cells.lookup y = some c := e1
      have e2 : cenv.cells.lookup z = some c := e2
      exact I.ok.inj y z c (mem e1).1 (mem e2).1
    · have hy : cenv.kindOf y = some .cell ∨ cenv.kindOf y = some .free := hy
      unfold Env.kindOf at hy
      rw [hsc] at hy
      rcases hy with hy | hy
      · exact absurd hy nocell
      · obtain ⟨c, h1, _⟩ := look hy
        exact ⟨c, h1⟩
    · show b ≠ cenv.locals
      rw [hL]; exact Nat.ne_of_lt (hfp b hb).2
    · have e : cenv.cells.lookup y = some c := e
      exact (hfp b hb).1.2.2.2.2.1 y c (mem e).1 z
    · rcases (hfp b hb).1.2.2.2.1 with z | z
      · exact I.ok.noex b o e z
      · exact absurd (Nat.lt_of_lt_of_le (Heap.lt_size e) (Nat.le_trans I.ok.bsz z)) (Nat.lt_irrefl _)
    · rcases List.mem_cons.mp (I.stkSub b z) with z | z
      · exact (hfp b hb).1.2.1 z
      · exact (hfp b hb).1.2.2.1 z
  refine ⟨okB, hos, hb, Un.kept kp, ⟨m0, ?_, fun i y av e1 e2 e3 => ?_⟩, fun y c e => ?_, ?_, fun y c e => ?_, fun p hp => ?_, I.hok.kept kp, by rw [wipe_length]; exact I.len⟩
  · show Heap.Ns _ cenv.locals _
    rw [hL]; exact hns
  · obtain ⟨e2, hne⟩ := wipe_some e2
    have hfr : scope.names.lookup y = some .free := by
      have e3 : Vis cenv.scope y := e3
      rw [hsc] at e3
      rcases e3 with e3 | e3 | e3
      · rcases ok.own _ (PySem.mem_of_lookup e3) (.inl rfl) with e' | e'
        · obtain ⟨p, hp, hpy⟩ := List.mem_map.mp e'
          have e4 := ok.ix p hp
          have : p.1 = y := hpy
          rw [this] at e4
          exact absurd (List.mem_map.mpr ⟨p, hp, nodup_ix hN e4 e1⟩) hne
        · exact absurd (List.mem_of_getElem? e1) e'
      · exact absurd e3 nocell
      · exact e3
    obtain ⟨m, hn, hl⟩ := I.loc
    have hvis : Vis X.env.scope y := (ok.free _ (PySem.mem_of_lookup hfr) rfl).elim (fun k => .inr (.inl k)) (fun k => .inr (.inr k))
    obtain ⟨w, r, q⟩ := hl i y av e1 e2 hvis
    refine ⟨w, r, .inr ⟨.inr (by show cenv.scope.names.lookup y = _; rw [hsc]; exact hfr), ?_⟩⟩
    obtain ⟨c, h1, h2⟩ := look hfr
    rcases q with ⟨k, _⟩ | ⟨_, c', e', z⟩
    · have k : X.env.scope.names.lookup y = some .local := k
      rcases ok.free _ (PySem.mem_of_lookup hfr) rfl with k' | k' <;> rw [show X.env.scope.names.lookup y = _ from k'] at k <;> cases k
    · rw [h2] at e'; cases e'
      exact ⟨c, h1, z.keeps kp⟩
  · have e : cenv.cells.lookup y = some c := e
    obtain ⟨w, z⟩ := I.cell y c (mem e).1
    exact ⟨w, z.keeps kp⟩
  · show H cenv.locals = none
    rw [hL]; exact I.hok.fresh (Nat.le_refl _)
  · have e : cenv.cells.lookup y = some c := e
    exact I.freeC y c (mem e).1
  · have hp : p ∈ ([] : List (Addr × Obj)) ++ [(a, go)] := hp
    rw [List.nil_append] at hp
    rw [List.mem_singleton.mp hp]
    refine ⟨hgo, I.hok.fresh (Nat.le_of_lt ha), by show a ≠ cenv.locals; rw [hL]; exact Nat.ne_of_gt ha, fun hm => ?_, hgd⟩
    have hm : a ∈ frs X.stack := hm
    rcases List.mem_cons.mp (I.stkSub a hm) with z | z
    · exact absurd (Nat.lt_trans I.lt ha) (by rw [z]; exact Nat.lt_irrefl _)
    · exact I.nofs (Nat.le_of_lt ha) z
end

/-! ### the loop of a generator expression -/
section
/-- the consumer: its own pins by what is out; what follows an item -/
structure Cons where
  C : List V → List (Addr × Obj) → Prop
  D : List V → V → Hp → Prop → Prop
  mono : ∀ ys y H (p q : Prop), (p → q) → D ys y H p → D ys y H q
def GnY (X : Cx) (c : Cons) (go : Addr × Obj) (σ0 : L2.St) : Protocol := fun n s₀ v s kap =>
  ∃ ys x ip σ H cp, RelV x v ∧ c.C ys cp ∧ (∀ p ∈ ip, p.1 ∈ X.ex) ∧ Inv X ((cp ++ [go]) ++ ip) σ H s ∧ c.D ys x H (∀ s' cp', c.C (ys ++ [x]) cp' → Inv X ((cp' ++ [go]) ++ ip) σ H s' → kap (.send .none) s')
def GnF (X : Cx) (c : Cons) (go : Addr × Obj) (σ0 : L2.St) (Qe : List V → Hp → Prop) : Shared → Prop := fun s => ∃ ys H cp, c.C ys cp ∧ Inv X (cp ++ [go]) σ0 H s ∧ Qe ys H
def GnR (X : Cx) (c : Cons) (go : Addr × Obj) (σ0 : L2.St) (Qe : List V → Hp → Prop) : GenEnd := fun n s₀ r s1 =>
  ((r = .ok (.ret .none) ∨ r = .ok .next) ∧ GnF X c go σ0 Qe s1) ∨ ∃ e, r = .error e ∧ False
abbrev WGn := Nat → Nat → List V → Hp → Prop
/-- a turn -/
def GTurn (J : It) (D : List V → V → Hp → Prop → Prop) (g : TG) (tt : TT) (te : TE) (vs : List Nat) (σ0 : L2.St) (Qe : List V → Hp → Prop) (W : WGn) : Prop := ∀ i m ys H, W i m ys H →
  (J.stop i H ∧ Qe ys H) ∨ (J.go i H ∧ ∃ Nx : List V → Hp → Prop, (∀ ys' H', Nx ys' H' → ∃ m', m' < m ∧ W (i + 1) m' ys' H') ∧ ∀ x H', J.yld i H x H' → g x σ0 H' fun σ2 H2 => wipe σ2 vs = σ0 ∧ tt σ2 H2 fun b H3 =>
    if b = true then te σ2 H3 fun y H4 => D ys y H4 (Nx (ys ++ [y]) H4) else Nx ys H3)
variable {X : Cx} {A : Around}
theorem gen_loop {elt tg iter : Expr} {ifs : List Expr} {scope : Scope} {pos : Pos} {J : It} {fp : List Addr} {it : Addr} {tn : Nat → Heap → Prop} {c : Cons} {go : Addr × Obj} {g : TG} {tt : TT} {te : TE} {vs : List Nat} {σ0 : L2.St} {Qe : List V → Hp → Prop} {W : WGn}
    (hA : X.A = A.over (.compLoop (.GeneratorExp elt [⟨tg, iter, ifs, 0⟩] scope pos) 0 (.ref it) .none X.env) []) (hc : X.calm = true) (hco : X.env.scope.isCoroutine = false) (hxe : X.xe = fun _ _ => False)
    (T : Turn X.prog X.w X.K tg J fp it tn) (hfp : fp ⊆ X.ex) (hpn : X.pn = []) (hgo : ∀ b ∈ fp, go.1 ≠ b) (hC : ∀ ys cp, c.C ys cp → ∀ p ∈ cp, ∀ b ∈ fp, p.1 ≠ b)
    (hg : PG X tg g) (ht : PTs X ifs tt) (he : PE X elt te) (hσ : wipe σ0 vs = σ0) (turn : GTurn J c.D g tt te vs σ0 Qe W) :
    ∀ (m n i : Nat) (ys : List V) (H : Hp) (cp : List (Addr × Obj)) (s₀ s : Shared), m < n → W i m ys H → tn i s.heap → (∀ b ∈ fp, H b = none) → c.C ys cp → Inv X (cp ++ [go]) σ0 H s →
      Seg (model X.prog X.w) A (GnR X c go σ0 Qe) (GnY X c go σ0) n s₀ (.compLoop (.GeneratorExp elt [⟨tg, iter, ifs, 0⟩] scope pos) 0 (.ref it) .none X.env)
        ((model X.prog X.w).den (.compLoop (.GeneratorExp elt [⟨tg, iter, ifs, 0⟩] scope pos) 0 (.ref it) .none X.env)) [] s := by
  have stat : ∀ {ps : List (Addr × Obj)} {σ' : L2.St} {H' : Hp} {s' : Shared}, Inv X ps σ' H' s' → (∀ b ∈ fp, H' b = none) → (∀ p ∈ ps, ∀ b ∈ fp, p.1 ≠ b) → ∀ b ∈ fp, FpOk X ps H' b := fun {ps σ' H' s'} I' hn hp b hb =>
    ⟨hn b hb, (I'.ok.exf b (hfp hb)).1, I'.ok.exfs b (hfp hb), .inl (hfp hb), fun x c e => (I'.ok.exf b (hfp hb)).2 x c e, fun p hp' => by
      rw [hpn, List.nil_append] at hp'
      exact hp p hp' b hb⟩
  intro m
  induction m using Nat.strongRecOn with
  | ind m ih =>
    intro n i ys H cp s₀ s hmn w st hn hcp I
    have hps : ∀ p ∈ cp ++ [go], ∀ b ∈ fp, p.1 ≠ b := fun p hp b hb => by
      rcases List.mem_append.mp hp with z | z
      · exact hC ys cp hcp p z b hb
      · rw [List.mem_singleton.mp z]; exact hgo b hb
    show Seg _ A _ _ _ s₀ _ ((compTurn (.GeneratorExp elt [⟨tg, iter, ifs, 0⟩] scope pos) 0 (.ref it) .none X.env).onRaise (leaving X.env)) [] s
    rw [compTurn_gen, Sem.onRaise_eq_wrap]
    refine seg_bind_wrap (wpAny_standAt ?_)
    rcases turn i m ys H w with ⟨stop, qq⟩ | ⟨go', Nx, hNx, step⟩
    · have td := T.done X rfl rfl rfl hc i (cp ++ [go]) s _ H (fun _ _ => False) I (stat I hn hps) st stop
      refine seg_bind_wrap ?_
      rw [← hA]
      refine thnF td fun r s6 ⟨hr, I6⟩ => ?_
      subst hr
      exact seg_end (.ok .next) (.inl ⟨.inr rfl, ys, H, cp, hcp, I6, qq⟩)
    · have ti := T.item X rfl rfl rfl hc i (cp ++ [go]) s _ H (fun _ _ => False) I (stat I hn hps) st go'
      refine seg_bind_wrap ?_
      rw [← hA]
      refine thnF ti fun r s6 ⟨u, hr, h6⟩ => ?_
      subst hr
      refine seg_bind_wrap ?_
      rw [← hA]
      refine thnF h6 fun _ s7 ⟨x, H7, I7, r7, y7, st7, n7⟩ => ?_
      have I7' := I7.pinned (stat I7 n7 hps) (T.obj _ _ st7)
      have pg := hg.run _ s7 _ H7 x u _ I7' r7 (step x H7 y7)
      rw [hxe] at pg
      refine seg_bind_wrap ?_
      rw [← hA]
      refine thnF pg fun _ s8 ⟨σ8, H8, I8, hw8, q8⟩ => ?_
      have pt := ht.run _ s8 σ8 H8 _ I8 q8
      rw [hxe] at pt
      refine seg_bind_wrap ?_
      rw [← hA]
      refine thnF pt fun b s9 ⟨H9, I9, q9⟩ => ?_
      have fin : ∀ {n' : Nat} {s₀' s' : Shared} {H' : Hp} {ys' : List V} {cp' : List (Addr × Obj)}, m ≤ n' → c.C ys' cp' → Inv X ((cp' ++ [go]) ++ pinsAt fp s7.heap) σ8 H' s' → Nx ys' H' →
          Seg (model X.prog X.w) A (GnR X c go σ0 Qe) (GnY X c go σ0) n' s₀' (.compLoop (.GeneratorExp elt [⟨tg, iter, ifs, 0⟩] scope pos) 0 (.ref it) .none X.env)
            ((model X.prog X.w).den (.compLoop (.GeneratorExp elt [⟨tg, iter, ifs, 0⟩] scope pos) 0 (.ref it) .none X.env)) [] s' := fun {n' s₀' s' H' ys' cp'} hn' hcp' I' nx => by
        obtain ⟨m', hm, w'⟩ := hNx ys' H' nx
        have pin' : ∀ b ∈ fp, ∀ o, s7.heap.get? b = some o → s'.heap.get? b = some o ∧ H' b = none := fun b hb o e =>
          let z := I'.pin (b, o) (List.mem_append_right _ (List.mem_append_right _ (mem_pinsAt hb e)))
          ⟨z.1, z.2.1⟩
        have hl : σ0.length = σ8.length := by rw [← hw8, wipe_length]
        refine ih m' hm n' (i + 1) ys' H' cp' s₀' s' (by omega) w' (T.keep _ _ _ st7 fun b hb o e => (pin' b hb o e).1) (fun b hb => ?_) hcp' ((I'.unpinned).weak hl (fun j v e => ?_))
        · obtain ⟨o, e, _⟩ := T.obj _ _ st7 b hb
          exact (pin' b hb o e).2
        · rw [← hw8] at e
          exact (wipe_some e).1
      cases b with
      | false =>
        simp only [Bool.false_eq_true, if_false] at q9 ⊢
        exact seg_again rfl (fin (Nat.le_of_lt hmn) hcp I9 q9)
      | true =>
        simp only [if_true] at q9 ⊢
        have hy : ∀ v, yieldOut X.env v = yieldValue v := fun v => by simp only [yieldOut, hco, Bool.false_eq_true, if_false]
        simp only [hy]
        have pe := he.run _ s9 σ8 H9 _ I9 q9
        rw [hxe] at pe
        rw [Sem.bind_eq_wrap', Sem.bind_eq_wrap', Sem.wrap_wrap, Sem.wrap_wrap]
        refine seg_wrap ?_
        rw [← hA]
        refine thnF pe fun z s10 ⟨yv, H10, I10, r10, dd⟩ => ?_
        obtain ⟨n, rfl⟩ : ∃ k, n = k + 1 := ⟨n - 1, by omega⟩
        refine seg_at (seg_yield rfl rfl rfl ⟨ys, yv, _, _, _, cp, r10, hcp, fun p hp => hfp (of_pinsAt hp).1, I10, c.mono _ _ _ _ _ (fun nx s' cp' hcp' I' => ?_) dd⟩)
        exact seg_again rfl (fin (by omega) hcp' I' nx)
theorem gen_segStart {elt tg iter : Expr} {ifs : List Expr} {scope : Scope} {pos : Pos} {it : Addr} {R : GenEnd} {Y : Protocol} {n : Nat} {s₀ s : Shared} {tn : Nat → Heap → Prop} {fp : List Addr} {J : It} (T : Turn X.prog X.w X.K tg J fp it tn) (st : tn 0 s.heap)
    (h : Seg (model X.prog X.w) A R Y n s₀ (.compLoop (.GeneratorExp elt [⟨tg, iter, ifs, 0⟩] scope pos) 0 (.ref it) .none X.env)
      ((model X.prog X.w).den (.compLoop (.GeneratorExp elt [⟨tg, iter, ifs, 0⟩] scope pos) 0 (.ref it) .none X.env)) [] s) :
    Seg (model X.prog X.w) A R Y n s₀ (.compStart (.GeneratorExp elt [⟨tg, iter, ifs, 0⟩] scope pos) 0 (.ref it) .none X.env)
      ((model X.prog X.w).den (.compStart (.GeneratorExp elt [⟨tg, iter, ifs, 0⟩] scope pos) 0 (.ref it) .none X.env)) [] s := by
  show Seg _ A _ _ _ s₀ _ ((compStart (.GeneratorExp elt [⟨tg, iter, ifs, 0⟩] scope pos) 0 (.ref it) .none X.env).onRaise (leaving X.env)) [] s
  unfold compStart
  rw [Sem.onRaise_eq_wrap]
  show Seg _ A _ _ _ s₀ _ ((ask >>= _).wrap _ _ _ _) [] s
  refine seg_bind_wrap (wpAny_askSetting ?_)
  split
  · exact seg_again rfl h
  · refine seg_bind_wrap (wpAny_rule ?_)
    show Seg _ A _ _ _ s₀ _ ((standAt iter.pos >>= _).wrap _ _ _ _) [] s
    exact seg_bind_wrap (wpAny_standAt (seg_bind_wrap (T.self _ 0 s _ _ st (seg_again rfl h))))
end

/-! ### the making -/
def TabUp (P : Addr) (H H' : Hp) : Prop := ∃ ps more : Array Value, H P = some (.tbl ps) ∧ H' = upd H P (.tbl (ps ++ more)) ∧ TriplesOk (ps ++ more).toList
section
variable {X : Cx} {pins : List (Addr × Obj)} {σ : L2.St} {H : Hp} {s : Shared}
abbrev genCode (elt tg iter : Expr) (ifs : List Expr) (scope : Scope) (pos : Pos) (it : Addr) (cenv : Env) : Code := .compStart (.GeneratorExp elt [⟨tg, iter, ifs, 0⟩] scope pos) 0 (.ref it) .none cenv
abbrev genLoopC (elt tg iter : Expr) (ifs : List Expr) (scope : Scope) (pos : Pos) (it : Addr) (cenv : Env) : Code := .compLoop (.GeneratorExp elt [⟨tg, iter, ifs, 0⟩] scope pos) 0 (.ref it) .none cenv
/-- a generator expression at a that has not begun -/
structure GRdy (X : Cx) (pins : List (Addr × Obj)) (σ : L2.St) (H2 : Hp) (J : It) (elt tg iter : Expr) (ifs : List Expr) (scope : Scope) (pos : Pos) (s4 : Shared) (cenv : Env) (it : Addr) (fp : List Addr) (tn : Nat → Heap → Prop) (g : Nat) (a : Addr) (go : Obj) (s5 : Shared) : Prop where
  I : Inv X pins σ H2 s4
  fpo : ∀ b ∈ fp, FpOk X pins H2 b ∧ b < s4.heap.objs.size
  kp : ∀ b o, s4.heap.get? b = some o → s5.heap.get? b = some o
  os : s5.os = s4.os
  bare : AllBare s5.gens
  lo : s4.heap.objs.size < a
  hi : a < s5.heap.objs.size
  obj : s5.heap.get? a = some go
  isg : ∃ nm qn, go.cls = .type "generator" ∧ go.data = .fields #[.int g 0, nm, qn] ∧ go.slots = #[]
  gs : s5.gens[g]? = some (.fresh (genCode elt tg iter ifs scope pos it cenv))
  env : ∃ code, cenv = genEnv scope (cloFrom X.env.cells scope.names []) s4.heap.objs.size code builtinsNs X.env
  st : tn 0 s4.heap
  T : Turn X.prog X.w X.K tg J fp it tn
  ns : ∃ m0, s5.heap.Ns s4.heap.objs.size m0
theorem gen_make {c P : Addr} {elt tg iter : Expr} {ifs : List Expr} {gpos : Pos} {scope : Scope} {own : List (Str × Nat)} {wi : TI} {k : Nat} {Q' : Value → Shared → Prop} {Rr : It → Hp → Prop}
    (hr : Room k X.A) (TB : GxR.TabB X.base X.mg c P) (hcode : X.env.code = .ref c) (ok : GenSc X.N X.env.scope scope own) (hi : PI X tg iter wi)
    (hs : ∀ v, genFold iter X.env v = pure v) (I : Inv X pins σ H s) (h : wi σ H fun J H1 => GxR.TabG H1 P ∧ Rr J H1)
    (hQ : ∀ J H1 H2 s4 cenv it fp tn g a go s5, Rr J H1 → TabUp P H1 H2 → GRdy X pins σ H2 J elt tg iter ifs scope gpos s4 cenv it fp tn g a go s5 → Q' (.ref a) s5) :
    wpAny (model X.prog X.w) X.A (eval (.GeneratorExp elt [⟨tg, iter, ifs, 0⟩] scope gpos) X.env) Q' X.xe s := by
  have hfree : ∀ y ∈ scope.names, y.2 = .free → ∃ c, X.env.cells.lookup y.1 = some c := fun y hy e => by
    rcases ok.free y hy e with k | k
    · exact I.ok.has _ (.inl k)
    · exact I.ok.has _ (.inr k)
  refine wpAny_GeneratorExp_make ok.co (closure_ok hfree) ok.cell ok.dot ok.kind (by have := hr.dp; omega) (thn (hi.run pins s σ H _ I h) fun xv s1 hx => thn hx fun itv s2 h2 => ?_) hs
  obtain ⟨it, fp, tn, J, H1, e, I1, T, st2, f2, ⟨ps, hP, ht⟩, q1⟩ := h2
  subst e
  refine ⟨I1.nolimit, ?_⟩
  have hPs : s2.heap.get? P = some { cls := .none, data := .fields ps } := I1.hok P _ hP
  have cd : PySem.W.CodeHd s2.heap c P := TB.code.keeps I1.bk
  have cont : ∀ (code : Value) (h3 : Heap) (tk : Nat) (ps' : Array Value), Heap.ExtBut P s2.heap h3 → s2.heap.objs.size ≤ h3.objs.size → h3.get? P = some { cls := .none, data := .fields ps' } → (∃ more, ps' = ps ++ more) → TriplesOk ps'.toList →
      wpAny (model X.prog X.w) X.A (builtinsFor X.env.globals X.env.builtins) (fun bi s₄ =>
        ∀ h', h'.Ns s₄.heap.objs.size (fun y => if y = ".0" then some (.ref it) else none) → Heap.SameBut s₄.heap.objs.size (s₄.heap.push { cls := .type "frame", data := .dict #[] }) h' →
          Q' (.ref h'.objs.size) { s₄ with
            gens := s₄.gens.push (.fresh (.compStart (.GeneratorExp elt [⟨tg, iter, ifs, 0⟩] scope gpos) 0 (.ref it) .none (genEnv scope (cloFrom X.env.cells scope.names []) s₄.heap.objs.size code bi X.env))),
            toks := s₄.toks + 1 + 1 + 1,
            heap := h'.push { cls := .type "generator", data := .fields #[.int s₄.gens.size 0, .str "<genexpr>" (s₄.toks + 1), .str (X.env.qual ++ "<genexpr>") (s₄.toks + 1 + 1)] } }) X.xe { s2 with heap := h3, toks := tk } := by
    intro code h3 tk ps' hx hsz hP3 hmore ht3
    obtain ⟨more, em⟩ := hmore
    obtain ⟨bm, ob, e1, e2, e3, e4, e5, e6, e7, e8⟩ := TB.bm
    have keep3 : ∀ b u, b ≠ P → s2.heap.get? b = some u → h3.get? b = some u := fun b u hb e => hx b u hb e
    have I4 : Inv X pins σ (upd H1 P (.tbl (ps ++ more))) { s2 with heap := h3, toks := tk } :=
      GxR.inv_tab (more := more) (h' := h3) (g' := s2.gens) (d' := s2.drawn) (t' := tk) I1 hP (fun b u hb e => keep3 b u hb e) (by rw [← em]; exact hP3) I1.bare
    refine wpAny_builtinsFor (m := X.mg) (by rw [I1.ok.glob]; exact (I1.mod.glob.keeps I4.bk)) e1 e2 (I4.bk _ _ e5) e6 e7 e8 ?_
    intro h' hn' hs'
    have hsz' : h'.objs.size = h3.objs.size + 1 := by rw [hs'.1, Heap.size_push]
    have keep' : ∀ b o, h3.get? b = some o → h'.get? b = some o := fun b o e => hs'.extBut b o (Nat.ne_of_lt (Heap.lt_size e)) (Heap.get?_push_of_some _ e)
    have fne : ∀ b ∈ fp, b ≠ P := fun b hb z => by
      have := (f2 b hb).1
      rw [z, hP] at this; cases this
    have ft : ∀ b ∈ fp, ∀ o, s2.heap.get? b = some o → h3.get? b = some o := fun b hb o e => keep3 b o (fne b hb) e
    refine hQ J H1 (upd H1 P (.tbl (ps ++ more))) { s2 with heap := h3, toks := tk } (genEnv scope (cloFrom X.env.cells scope.names []) h3.objs.size code builtinsNs X.env) it fp tn s2.gens.size h'.objs.size _ _ q1 ⟨ps, more, hP, rfl, by rw [← em]; exact ht3⟩ {
      I := I4
      fpo := fun b hb => ⟨⟨?_, (f2 b hb).2⟩, ?_⟩
      kp := fun b o e => Heap.get?_push_of_some _ (keep' b o e)
      os := rfl
      bare := I1.bare.push rfl
      lo := by show h3.objs.size < h'.objs.size; omega
      hi := by show h'.objs.size < (h'.push _).objs.size; rw [Heap.size_push]; exact Nat.lt_succ_self _
      obj := Heap.get?_push_size _ rfl
      isg := ⟨_, _, rfl, rfl, rfl⟩
      gs := Array.getElem?_push_size ..
      env := ⟨code, rfl⟩
      st := T.keep _ _ _ st2 ft
      T := T
      ns := ⟨_, hn'.push _⟩ }
    · rw [upd_ne (fne b hb)]; exact (f2 b hb).1
    · obtain ⟨o, e, _⟩ := T.obj _ _ st2 b hb
      exact Heap.lt_size (ft b hb o e)
  cases hf : codeAmong gpos ps.toList with
  | none =>
    refine wpAny_genexprCodeX hcode (cd.code hPs ht) (cd.tab hPs) hf fun c' h' tk hx hge hlt hco' _ htab' _ => ?_
    obtain ⟨o1, vs, f1, tf, fl, tg, inF, tx, tt, op, _, _, _, _, _, _, _, _, _, htr, _⟩ := hco'
    exact cont _ h' tk _ hx (Nat.le_trans hge (Nat.le_of_lt hlt)) htab'.2 ⟨_, rfl⟩ htr
  | some cv =>
    refine wpAny_genexprCode_hit hcode (cd.code hPs ht) hf ?_
    exact cont cv s2.heap s2.toks ps (Heap.ExtBut.refl _ _) (Nat.le_refl _) hPs ⟨#[], by simp⟩ ht
/-- the context in which it runs -/
abbrev gCx (X : Cx) (Aw : Around) (s4 : Shared) (H2 : Hp) (cenv : Env) (fp : List Addr) (elt tg iter : Expr) (ifs : List Expr) (scope : Scope) (pos : Pos) (it : Addr) : Cx := genCx X (Aw.over (genLoopC elt tg iter ifs scope pos it cenv) []) s4 H2 cenv fp
section rdy
variable {H2 : Hp} {J : It} {elt tg iter : Expr} {ifs : List Expr} {scope : Scope} {pos : Pos} {s4 s5 s6 : Shared} {cenv : Env} {it : Addr} {fp : List Addr} {tn : Nat → Heap → Prop} {g : Nat} {a : Addr} {go : Obj} {own : List (Str × Nat)} {Aw : Around}
theorem GRdy.wake (r : GRdy X pins σ H2 J elt tg iter ifs scope pos s4 cenv it fp tn g a go s5) (ok : GenSc X.N X.env.scope scope own) (hN : X.N.Nodup) (hh : Aw.handled = none) (hfr : Aw.frames = some X.stack)
    (kp : ∀ b o, s5.heap.get? b = some o → s6.heap.get? b = some o) (os : s6.os = s5.os) (bare : AllBare s6.gens) : Inv (gCx X Aw s4 H2 cenv fp elt tg iter ifs scope pos it) [(a, go)] (wipe σ (own.map (·.2))) H2 s6 := by
  obtain ⟨code, rfl⟩ := r.env
  obtain ⟨m0, hm⟩ := r.ns
  refine gen_start r.I ok hN r.fpo hh ?_ (fun b o e => kp b o (r.kp b o e)) (hm.keeps kp) (os.trans r.os) bare (kp _ _ r.obj) r.lo ?_
  · obtain ⟨hd, d, fr, gs, u⟩ := Aw
    have hfr : fr = some X.stack := hfr
    subst hfr
    first
      | rfl
      | simp [Around.over, marksOver, frameCount, unitsOf, envsOf, guardsOf, pushEnvs, pushGuards, Code.envs, Code.env?, Code.isFrame, Code.guards, Code.isGuard, Code.weight, Code.frames, Code.isCreation, Code.isCaller, Code.cUnits]
  · obtain ⟨_, _, _, d, _⟩ := r.isg
    intro v q
    rw [d] at q; cases q
theorem GRdy.back (r : GRdy X pins σ H2 J elt tg iter ifs scope pos s4 cenv it fp tn g a go s5) {ps : List (Addr × Obj)} {σ' : L2.St} {H' : Hp} {s' : Shared} (I : Inv (gCx X Aw s4 H2 cenv fp elt tg iter ifs scope pos it) ps σ' H' s') : Inv X pins σ H' s' :=
  r.I.call' (ch := fp) I.os I.base I.hok I.bare fun b hb => ⟨(r.fpo b hb).1.2.2.2.1, (r.fpo b hb).1.2.1, (r.fpo b hb).1.2.2.2.2.1, (r.fpo b hb).1.2.2.2.2.2⟩
theorem GRdy.isGen (r : GRdy X pins σ H2 J elt tg iter ifs scope pos s4 cenv it fp tn g a go s5) {h : Heap} (e : h.get? a = some go) : h.IsGen a g := by
  obtain ⟨nm, qn, h1, h2, h3⟩ := r.isg
  exact ⟨go, nm, qn, e, h1, h2, h3⟩
end rdy
end

/-! ### all, any -/
theorem _root_.L2.Inv.gens {X : Cx} {ps : List (Addr × Obj)} {σ : L2.St} {H : Hp} {s s' : Shared} (I : Inv X ps σ H s) (hh : s'.heap = s.heap) (os : s'.os = s.os) (hb : AllBare s'.gens) : Inv X ps σ H s' :=
  I.call' (ch := []) os (by rw [hh]; exact Un.kept fun b o e => e) (by rw [hh]; exact I.hok) hb fun b z => by simp at z
section
variable {X : Cx} {A : Around} {a : Addr} {go : Obj} {g : Nat} {σ0 : L2.St} {Qe : List V → Hp → Prop} {c : Cons}
theorem gen_next {E : Value → Shared → Prop} {Q : Option Value → Shared → Prop} (hh : A.handled = none) (hd : A.depth < recursionLimit) (isg : ∀ h : Heap, h.get? a = some go → h.IsGen a g) {n : Nat} {s : Shared} {ps0 : List (Addr × Obj)} {σ1 : L2.St} {H1 : Hp} (I : Inv X ps0 σ1 H1 s) (hm : (a, go) ∈ ps0)
    (hG : ∃ gs, s.gens[g]? = some gs ∧ gs.Goes (model X.prog X.w) A.in1 (GnR X c (a, go) σ0 Qe) (GnY X c (a, go) σ0) n (.send .none) (s.setGen g .running))
    (hnone : ∀ s1 ys H cp, c.C ys cp → Inv X (cp ++ [(a, go)]) σ0 H s1 → Qe ys H → Q none s1)
    (hsome : ∀ v s1 ys x ip σ H cp, RelV x v → c.C ys cp → (∀ p ∈ ip, p.1 ∈ X.ex) → Inv X ((cp ++ [(a, go)]) ++ ip) σ H s1 →
      c.D ys x H (∀ s' cp', c.C (ys ++ [x]) cp' → Inv X ((cp' ++ [(a, go)]) ++ ip) σ H s' → s'.gens = s1.gens → ∃ n', n' < n ∧ ∃ gs', s'.gens[g]? = some gs' ∧ gs'.Goes (model X.prog X.w) A.in1 (GnR X c (a, go) σ0 Qe) (GnY X c (a, go) σ0) n' (.send .none) (s'.setGen g .running)) → Q (some v) s1) :
    wpAny (model X.prog X.w) A (pyNext (.ref a)) Q E s := by
  obtain ⟨gs, hgs, hgo⟩ := hG
  have ea : s.heap.get? a = some go := (I.pin (a, go) (List.mem_append_right _ hm)).1
  have hgl : g < s.gens.size := (Array.getElem?_eq_some_iff.mp hgs).1
  refine GenW.wpAny_gsz (n := g + 1) hgl ?_
  refine next_genG (Er := fun _ _ => False) (F := fun _ _ s1 => GnF X c (a, go) σ0 Qe s1) hh I.nolimit hd (isg _ ea) hgs hgo (fun v s₁ gs' hbare hv => ?_) (fun s₁ hp h' hk => ?_) fun e s₁ he => he.elim
  · intro hsz
    obtain ⟨ys, x, ip, σ, H, cp, rx, hcp, hip, I1, dd⟩ := hv
    have hsz1 : g < s₁.gens.size := by
      have q : (s₁.setGen g gs').gens.size = s₁.gens.size := GenW.setGen_size _ _ _
      have hsz' : g + 1 ≤ (s₁.setGen g gs').gens.size := hsz
      omega
    refine hsome v _ ys x ip σ H cp rx hcp hip (I1.gens (s' := s₁.setGen g gs') rfl rfl (allBare_setGen I1.bare hbare)) (c.mono _ _ _ _ _ (fun kap s' cp' hcp' I' hge => ?_) dd)
    have hb' : AllBare s'.gens := I'.bare
    have I2 : Inv X ((cp' ++ [(a, go)]) ++ ip) σ H (s'.setGen g .running) := I'.gens rfl rfl (allBare_setGen hb' rfl)
    have kk := kap _ cp' hcp' I2
    cases n with
    | zero => exact kk.elim
    | succ m =>
      refine ⟨m, Nat.lt_succ_self _, gs', ?_, kk⟩
      rw [hge]
      exact setGen_at hsz1
  · intro _
    obtain ⟨ys, H, cp, hcp, I1, q⟩ := hp
    refine hnone _ ys H cp hcp ?_ q
    exact I1.call' (ch := []) rfl (Un.kept hk) (I1.hok.kept hk) (allBare_setGen I1.bare rfl) fun b z => by simp at z
end
/-- all (b0 = true), any (b0 = false) -/
def allC (b0 : Bool) (Qf : Hp → Prop) : Cons where
  C := fun _ cp => cp = []
  D := fun _ y H K => ∃ c, y = .bl c ∧ (if c = b0 then K else Qf H)
  mono := fun _ y H p q h ⟨c, e, r⟩ => ⟨c, e, by
    split at r
    · rename_i hc; rw [if_pos hc]; exact h r
    · rename_i hc; rw [if_neg hc]; exact r⟩
section
variable {X : Cx} {A : Around} {Rr : Result → Shared → Prop} {a : Addr} {go : Obj} {g : Nat} {σ0 : L2.St} {Qe : List V → Hp → Prop} {Qf : Hp → Prop}
theorem all_loop (hh : A.handled = none) (hd : A.depth < recursionLimit) (isg : ∀ h : Heap, h.get? a = some go → h.IsGen a g)
    (hend : ∀ ys ps H s', Inv X ps σ0 H s' → Qe ys H → Rr (.ok (.ret (.bool true))) s') (hbrk : ∀ ps σ' H s', Inv X ps σ' H s' → Qf H → Rr (.ok (.ret (.bool false))) s') :
    ∀ (n : Nat) (s : Shared), (∃ ps σ H, Inv X ([(a, go)] ++ ps) σ H s) →
      (∃ gs, s.gens[g]? = some gs ∧ gs.Goes (model X.prog X.w) A.in1.in1 (GnR X (allC true Qf) (a, go) σ0 Qe) (GnY X (allC true Qf) (a, go) σ0) n (.send .none) (s.setGen g .running)) →
      codeAny (model X.prog X.w) A (.builtin "all.loop" ⟨[.ref a], []⟩) Rr s := by
  intro n
  induction n using Nat.strongRecOn with
  | ind n ih =>
    intro s ⟨ps, σ, H, I⟩ hG
    refine codeAny_builtin F.entry_all_loop ?_
    rw [Around.under_plainId F.plain_all_loop _]
    show wpAny _ A.in1 (pyNext (.ref a) >>= _) _ _ s
    refine wpAny_bind (gen_next (A := A.in1) hh hd isg I (List.mem_append_left _ (List.mem_singleton.mpr rfl)) hG (fun s1 ys H cp _ I1 q => ?_) fun v s1 ys x ip σ1 H1 cp rx hcp _ I1 dd => ?_)
    · refine wpAny_bind (wpAny_rule (wpAny_pure ?_))
      exact hend ys _ H s1 I1 q
    · obtain ⟨b, rfl, q⟩ := dd
      have ev : v = Value.bool b := rx
      subst ev
      refine wpAny_bind (wpAny_holding (wpAny_truthy_bool ?_))
      refine wpAny_bind (wpAny_letGo ?_)
      cases b with
      | true =>
        rw [if_pos rfl] at q
        simp only [if_true]
        have hcp : cp = [] := hcp
        subst hcp
        obtain ⟨n', hn, hG'⟩ := q _ [] rfl I1 rfl
        refine wpAny_pure ⟨plainId_quiet F.plain_all_loop _, ih n' hn _ ⟨ip, σ1, H1, I1⟩ hG'⟩
      | false =>
        rw [if_neg (by decide)] at q
        simp only [Bool.false_eq_true, if_false]
        refine wpAny_bind (wpAny_rule (wpAny_pure ?_))
        exact hbrk _ _ _ _ I1 q
theorem any_loop (hh : A.handled = none) (hd : A.depth < recursionLimit) (isg : ∀ h : Heap, h.get? a = some go → h.IsGen a g)
    (hend : ∀ ys ps H s', Inv X ps σ0 H s' → Qe ys H → Rr (.ok (.ret (.bool false))) s') (hbrk : ∀ ps σ' H s', Inv X ps σ' H s' → Qf H → Rr (.ok (.ret (.bool true))) s') :
    ∀ (n : Nat) (s : Shared), (∃ ps σ H, Inv X ([(a, go)] ++ ps) σ H s) →
      (∃ gs, s.gens[g]? = some gs ∧ gs.Goes (model X.prog X.w) A.in1.in1 (GnR X (allC false Qf) (a, go) σ0 Qe) (GnY X (allC false Qf) (a, go) σ0) n (.send .none) (s.setGen g .running)) →
      codeAny (model X.prog X.w) A (.builtin "any.loop" ⟨[.ref a], []⟩) Rr s := by
  intro n
  induction n using Nat.strongRecOn with
  | ind n ih =>
    intro s ⟨ps, σ, H, I⟩ hG
    refine codeAny_builtin F.entry_any_loop ?_
    rw [Around.under_plainId F.plain_any_loop _]
    show wpAny _ A.in1 (pyNext (.ref a) >>= _) _ _ s
    refine wpAny_bind (gen_next (A := A.in1) hh hd isg I (List.mem_append_left _ (List.mem_singleton.mpr rfl)) hG (fun s1 ys H cp _ I1 q => ?_) fun v s1 ys x ip σ1 H1 cp rx hcp _ I1 dd => ?_)
    · refine wpAny_bind (wpAny_rule (wpAny_pure ?_))
      exact hend ys _ H s1 I1 q
    · obtain ⟨b, rfl, q⟩ := dd
      have ev : v = Value.bool b := rx
      subst ev
      refine wpAny_bind (wpAny_holding (wpAny_truthy_bool ?_))
      refine wpAny_bind (wpAny_letGo ?_)
      cases b with
      | false =>
        rw [if_pos rfl] at q
        simp only [Bool.false_eq_true, if_false]
        have hcp : cp = [] := hcp
        subst hcp
        obtain ⟨n', hn, hG'⟩ := q _ [] rfl I1 rfl
        refine wpAny_pure ⟨plainId_quiet F.plain_any_loop _, ih n' hn _ ⟨ip, σ1, H1, I1⟩ hG'⟩
      | true =>
        rw [if_neg (by decide)] at q
        simp only [if_true]
        refine wpAny_bind (wpAny_rule (wpAny_pure ?_))
        exact hbrk _ _ _ _ I1 q
end
theorem room_gen {k : Nat} {A : Around} (r : Room (k + 1) A) {elt tg iter : Expr} {ifs : List Expr} {scope : Scope} {pos : Pos} {it : Addr} {cenv : Env} {m : Nat} (hm : m ≤ 8) {A' : Around} (h1 : A'.handled = A.handled) (h2 : A'.depth = A.depth) (h3 : A'.units = A.units + m) :
    Room k (A'.over (genLoopC elt tg iter ifs scope pos it cenv) []) := by
  have e1 : (A'.over (genLoopC elt tg iter ifs scope pos it cenv) []).handled = A'.handled := rfl
  have e2 : (A'.over (genLoopC elt tg iter ifs scope pos it cenv) []).depth = A'.depth + 1 := rfl
  have e3 : (A'.over (genLoopC elt tg iter ifs scope pos it cenv) []).units = A'.units + 3 := rfl
  have := r.dp
  have := r.un
  exact ⟨by rw [e1, h1]; exact r.hd, by rw [e2, h2]; omega, by rw [e3, h3]; omega⟩
/-- all(elt for tg in iter if ..) and any(..) -/
def tQu (b0 : Bool) (P : Addr) (wi : TI) (g : TG) (tt : TT) (te : TE) (vs : List Nat) : TE := fun σ H Q => wi σ H fun J H1 => GxR.TabG H1 P ∧ ∀ H2, TabUp P H1 H2 → ∃ W : WGn, (∃ m, W 0 m [] H2) ∧
  GTurn J (allC b0 (Q (.bl (!b0)))).D g tt te vs (wipe σ vs) (fun _ => Q (.bl b0)) W
section
variable {X : Cx} {c P : Addr} {elt tg iter : Expr} {ifs : List Expr} {scope : Scope} {own : List (Str × Nat)} {wi : TI} {g : TG} {tt : TT} {te : TE} {k : Nat} {p pos gpos : Pos}
theorem gen_run {pins : List (Addr × Obj)} {σ : L2.St} {H2 : Hp} {J : It} {s4 s5 s6 : Shared} {cenv : Env} {it : Addr} {fp : List Addr} {tn : Nat → Heap → Prop} {gn : Nat} {a : Addr} {go : Obj} {Aw : Around} {cc : Cons} {Qe : List V → Hp → Prop} {W : WGn} {m : Nat} {cp : List (Addr × Obj)}
    (r : GRdy X pins σ H2 J elt tg iter ifs scope pos s4 cenv it fp tn gn a go s5) (hc : X.calm = true) (ok : GenSc X.N X.env.scope scope own) (hN : X.N.Nodup) (hk : Room k (Aw.over (genLoopC elt tg iter ifs scope pos it cenv) []))
    (hg : ∀ (A : Around) (s : Shared) (H : Hp) (C : Addr) (cl : List (Str × Addr)) (code : Value) (fp : List Addr), Room k A → PG (genCx X A s H (genEnv scope cl C code builtinsNs X.env) fp) tg g)
    (ht : ∀ (A : Around) (s : Shared) (H : Hp) (C : Addr) (cl : List (Str × Addr)) (code : Value) (fp : List Addr), Room k A → PTs (genCx X A s H (genEnv scope cl C code builtinsNs X.env) fp) ifs tt)
    (he : ∀ (A : Around) (s : Shared) (H : Hp) (C : Addr) (cl : List (Str × Addr)) (code : Value) (fp : List Addr), Room k A → PE (genCx X A s H (genEnv scope cl C code builtinsNs X.env) fp) elt te)
    (hC : ∀ ys cp, cc.C ys cp → ∀ p ∈ cp, s4.heap.objs.size ≤ p.1) (hfst : s6.gens[gn]? = some (.fresh (genCode elt tg iter ifs scope pos it cenv))) (hcp : cc.C [] cp)
    (I : Inv (gCx X Aw s4 H2 cenv fp elt tg iter ifs scope pos it) (cp ++ [(a, go)]) (wipe σ (own.map (·.2))) H2 (s6.setGen gn .running)) (kp : ∀ b o, s4.heap.get? b = some o → s6.heap.get? b = some o)
    (w : W 0 m [] H2) (turn : GTurn J cc.D g tt te (own.map (·.2)) (wipe σ (own.map (·.2))) Qe W) :
    ∃ gs, s6.gens[gn]? = some gs ∧ gs.Goes (model X.prog X.w) Aw (GnR (gCx X Aw s4 H2 cenv fp elt tg iter ifs scope pos it) cc (a, go) (wipe σ (own.map (·.2))) Qe) (GnY (gCx X Aw s4 H2 cenv fp elt tg iter ifs scope pos it) cc (a, go) (wipe σ (own.map (·.2)))) (m + 1) (.send .none) (s6.setGen gn .running) := by
  obtain ⟨code, rfl⟩ := r.env
  refine ⟨_, hfst, rfl, ?_⟩
  have hlt : ∀ b ∈ fp, b < s4.heap.objs.size := fun b hb => (r.fpo b hb).2
  have st6 : tn 0 s6.heap := r.T.keep _ _ _ r.st fun b _ o e => kp b o e
  refine gen_segStart (X := gCx X Aw s4 H2 _ fp elt tg iter ifs scope pos it) (T := r.T) st6 ?_
  refine gen_loop (X := gCx X Aw s4 H2 _ fp elt tg iter ifs scope pos it) rfl hc ok.co rfl r.T (fun b hb => hb) rfl (fun b hb z => ?_) (fun ys cp h p hp b hb z => ?_) (hg _ _ _ _ _ _ _ hk) (ht _ _ _ _ _ _ _ hk) (he _ _ _ _ _ _ _ hk) wipe_wipe turn m (m + 1) 0 [] H2 cp _ _ (Nat.lt_succ_self _) w st6 (fun b hb => (r.fpo b hb).1.1) hcp I
  · exact absurd (Nat.lt_trans (hlt b hb) r.lo) (by rw [show a = b from z]; exact Nat.lt_irrefl _)
  · exact absurd (Nat.lt_of_lt_of_le (hlt b hb) (hC ys cp h p hp)) (by rw [z]; exact Nat.lt_irrefl _)
theorem pe_all (hc : X.calm = true) (hN : X.N.Nodup) (hr : Room (k + 1) X.A) (hgl : Gl X "all") (hm : X.mg "all" = none) (TB : GxR.TabB X.base X.mg c P) (hcode : X.env.code = .ref c) (ok : GenSc X.N X.env.scope scope own) (hi : PI X tg iter wi)
    (hg : ∀ (A : Around) (s : Shared) (H : Hp) (C : Addr) (cl : List (Str × Addr)) (code : Value) (fp : List Addr), Room k A → PG (genCx X A s H (genEnv scope cl C code builtinsNs X.env) fp) tg g)
    (ht : ∀ (A : Around) (s : Shared) (H : Hp) (C : Addr) (cl : List (Str × Addr)) (code : Value) (fp : List Addr), Room k A → PTs (genCx X A s H (genEnv scope cl C code builtinsNs X.env) fp) ifs tt)
    (he : ∀ (A : Around) (s : Shared) (H : Hp) (C : Addr) (cl : List (Str × Addr)) (code : Value) (fp : List Addr), Room k A → PE (genCx X A s H (genEnv scope cl C code builtinsNs X.env) fp) elt te)
    (hs : ∀ v, genFold iter X.env v = pure v := by intro _; rfl)
    (hst : starEach [.GeneratorExp elt [⟨tg, iter, ifs, 0⟩] scope gpos] X.env = (false, eval (.GeneratorExp elt [⟨tg, iter, ifs, 0⟩] scope gpos) X.env) :: starEach [] X.env := by rfl) :
    PE X (.Call (.Name "all" p) [.GeneratorExp elt [⟨tg, iter, ifs, 0⟩] scope gpos] [] pos) (tQu true P wi g tt te (own.map (·.2))) := by
  refine ⟨fun pins s σ H Q I h => ?_⟩
  refine wpAny_Call_Name_kw (ld_blt (u := .builtin "all") I hgl hm (by decide +kernel) ?_)
  refine PyProof.Rows.callWith_builtin1 ?_ hst (by rfl)
  rw [hst]
  show wpAny _ _ (spliced ((false, eval (.GeneratorExp elt [⟨tg, iter, ifs, 0⟩] scope gpos) X.env) :: backTo pos (starEach [] X.env))) _ _ s
  refine Calls.spliced_cons (gen_make hr TB hcode ok hi hs I h fun J H1 H2 s4 cenv it fp tn gn a go s5 hR hT r => ?_)
  obtain ⟨W, ⟨m, w⟩, turn⟩ := hR H2 hT
  refine Calls.spliced_nil ?_
  refine call_function_tree F.kind_all F.plain_all F.entry_all (F.args_all1 _) ?_
  unfold Builtin.«all»
  refine wpAny_bind (m := oneArg "all" _) (wpAny_pure ?_)
  refine wpAny_bind (wpAny_pyIter_gen (r.isGen r.obj) ?_)
  refine wpAny_pure ⟨plainId_quiet F.plain_all_loop _, ?_⟩
  have hAw : Room k ((X.A.in1.in1).over (genLoopC elt tg iter ifs scope gpos it cenv) []) := room_gen hr (m := 2) (by omega) rfl rfl rfl
  have I5 := r.wake (own := own) (s6 := s5) (Aw := X.A.in1.in1) ok hN hr.hd I.ok.frames (fun _ _ e => e) rfl r.bare
  have I6 := r.wake (own := own) (s6 := s5.setGen gn .running) (Aw := X.A.in1.in1) ok hN hr.hd I.ok.frames (fun _ _ e => e) rfl (allBare_setGen r.bare rfl)
  refine all_loop (σ0 := wipe σ (own.map (·.2))) (Qe := fun _ => Q (.bl true)) (Qf := Q (.bl false)) (X := gCx X X.A.in1.in1 s4 H2 cenv fp elt tg iter ifs scope gpos it) hr.hd (by have := hr.dp; show X.A.depth < _; omega) (fun h e => r.isGen e) (fun ys ps H s' I' q => ⟨.bl true, H, r.back I', rfl, q⟩) (fun ps σ' H s' I' q => ⟨.bl false, H, r.back I', rfl, q⟩) (m + 1) s5 ⟨[], _, _, I5⟩ ?_
  exact gen_run r hc ok hN hAw hg ht he (fun ys cp h p hp => by rw [show cp = [] from h] at hp; cases hp) r.gs (show [] = [] from rfl) I6 (fun b o e => r.kp b o e) w turn
theorem pe_any (hc : X.calm = true) (hN : X.N.Nodup) (hr : Room (k + 1) X.A) (hgl : Gl X "any") (hm : X.mg "any" = none) (TB : GxR.TabB X.base X.mg c P) (hcode : X.env.code = .ref c) (ok : GenSc X.N X.env.scope scope own) (hi : PI X tg iter wi)
    (hg : ∀ (A : Around) (s : Shared) (H : Hp) (C : Addr) (cl : List (Str × Addr)) (code : Value) (fp : List Addr), Room k A → PG (genCx X A s H (genEnv scope cl C code builtinsNs X.env) fp) tg g)
    (ht : ∀ (A : Around) (s : Shared) (H : Hp) (C : Addr) (cl : List (Str × Addr)) (code : Value) (fp : List Addr), Room k A → PTs (genCx X A s H (genEnv scope cl C code builtinsNs X.env) fp) ifs tt)
    (he : ∀ (A : Around) (s : Shared) (H : Hp) (C : Addr) (cl : List (Str × Addr)) (code : Value) (fp : List Addr), Room k A → PE (genCx X A s H (genEnv scope cl C code builtinsNs X.env) fp) elt te)
    (hs : ∀ v, genFold iter X.env v = pure v := by intro _; rfl)
    (hst : starEach [.GeneratorExp elt [⟨tg, iter, ifs, 0⟩] scope gpos] X.env = (false, eval (.GeneratorExp elt [⟨tg, iter, ifs, 0⟩] scope gpos) X.env) :: starEach [] X.env := by rfl) :
    PE X (.Call (.Name "any" p) [.GeneratorExp elt [⟨tg, iter, ifs, 0⟩] scope gpos] [] pos) (tQu false P wi g tt te (own.map (·.2))) := by
  refine ⟨fun pins s σ H Q I h => ?_⟩
  refine wpAny_Call_Name_kw (ld_blt (u := .builtin "any") I hgl hm (by decide +kernel) ?_)
  refine PyProof.Rows.callWith_builtin1 ?_ hst (by rfl)
  rw [hst]
  show wpAny _ _ (spliced ((false, eval (.GeneratorExp elt [⟨tg, iter, ifs, 0⟩] scope gpos) X.env) :: backTo pos (starEach [] X.env))) _ _ s
  refine Calls.spliced_cons (gen_make hr TB hcode ok hi hs I h fun J H1 H2 s4 cenv it fp tn gn a go s5 hR hT r => ?_)
  obtain ⟨W, ⟨m, w⟩, turn⟩ := hR H2 hT
  refine Calls.spliced_nil ?_
  refine call_function_tree F.kind_any F.plain_any F.entry_any (F.args_any1 _) ?_
  unfold Builtin.«any»
  refine wpAny_bind (m := oneArg "any" _) (wpAny_pure ?_)
  refine wpAny_bind (wpAny_pyIter_gen (r.isGen r.obj) ?_)
  refine wpAny_pure ⟨plainId_quiet F.plain_any_loop _, ?_⟩
  have hAw : Room k ((X.A.in1.in1).over (genLoopC elt tg iter ifs scope gpos it cenv) []) := room_gen hr (m := 2) (by omega) rfl rfl rfl
  have I5 := r.wake (own := own) (s6 := s5) (Aw := X.A.in1.in1) ok hN hr.hd I.ok.frames (fun _ _ e => e) rfl r.bare
  have I6 := r.wake (own := own) (s6 := s5.setGen gn .running) (Aw := X.A.in1.in1) ok hN hr.hd I.ok.frames (fun _ _ e => e) rfl (allBare_setGen r.bare rfl)
  refine any_loop (σ0 := wipe σ (own.map (·.2))) (Qe := fun _ => Q (.bl false)) (Qf := Q (.bl true)) (X := gCx X X.A.in1.in1 s4 H2 cenv fp elt tg iter ifs scope gpos it) hr.hd (by have := hr.dp; show X.A.depth < _; omega) (fun h e => r.isGen e) (fun ys ps H s' I' q => ⟨.bl false, H, r.back I', rfl, q⟩) (fun ps σ' H s' I' q => ⟨.bl true, H, r.back I', rfl, q⟩) (m + 1) s5 ⟨[], _, _, I5⟩ ?_
  exact gen_run r hc ok hN hAw hg ht he (fun ys cp h p hp => by rw [show cp = [] from h] at hp; cases hp) r.gs (show [] = [] from rfl) I6 (fun b o e => r.kp b o e) w turn
end
end VL
set_option Elab.async false
set_option linter.all false
set_option maxRecDepth 100000
set_option maxHeartbeats 1000000
/-! VL8: tuple(..), sorted(..) of a generator expression. -/
namespace VL
open PySem PySem.Spec PyProof.Rows L2
/-- the consumer that fills the list at S -/
def lstC (S : Addr) : Cons where
  C := fun ys cp => ∃ acc c, cp = [(S, lstObj acc c)] ∧ Vals ys acc.toList ∧ ys.length ≤ sizeLine
  D := fun ys y H K => ys.length < sizeLine ∧ K
  mono := fun _ y H p q h ⟨e, r⟩ => ⟨e, h r⟩
section
variable {X : Cx} {A : Around} {Rr : Result → Shared → Prop} {a S : Addr} {go : Obj} {g : Nat} {σ0 : L2.St} {Qe : List V → Hp → Prop} {res : Value}
theorem ext_loop (hh : A.handled = none) (hd : A.depth < recursionLimit) (isg : ∀ h : Heap, h.get? a = some go → h.IsGen a g) (hA : Apart X S) (hpn : X.pn = []) (hSx : S ∉ X.ex) (hSa : a ≠ S)
    (hend : ∀ ys acc c H s', Vals ys acc.toList → ys.length ≤ sizeLine → Inv X ([(S, lstObj acc c)] ++ [(a, go)]) σ0 H s' → Qe ys H → Rr (.ok (.ret res)) s') :
    ∀ (n : Nat) (s : Shared), (∃ ps σ H ys cp, (lstC S).C ys cp ∧ (∀ p ∈ ps, p.1 ≠ S) ∧ Inv X ((cp ++ [(a, go)]) ++ ps) σ H s) →
      (∃ gs, s.gens[g]? = some gs ∧ gs.Goes (model X.prog X.w) A.in1.in1 (GnR X (lstC S) (a, go) σ0 Qe) (GnY X (lstC S) (a, go) σ0) n (.send .none) (s.setGen g .running)) →
      codeAny (model X.prog X.w) A (.builtin "list.extend.loop" ⟨[.ref S, .ref a, res], []⟩) Rr s := by
  intro n
  induction n using Nat.strongRecOn with
  | ind n ih =>
    intro s ⟨ps, σ, H, ys0, cp0, hc0, _, I⟩ hG
    refine codeAny_builtin F.entry_extend_loop ?_
    rw [Around.under_plainId F.plain_extend_loop _]
    show wpAny _ A.in1 (pyNext (.ref a) >>= _) _ _ s
    refine wpAny_bind (gen_next (A := A.in1) hh hd isg I (List.mem_append_left _ (List.mem_append_right _ (List.mem_singleton.mpr rfl))) hG (fun s1 ys H cp hcp I1 q => ?_) fun v s1 ys x ip σ1 H1 cp rx hcp hip I1 dd => ?_)
    · obtain ⟨acc, c, rfl, hv, hl⟩ := hcp
      exact wpAny_pure (hend ys acc c H s1 hv hl I1 q)
    · obtain ⟨acc, c, rfl, hv, hl⟩ := hcp
      obtain ⟨hlt, q⟩ := dd
      have hS1 : s1.heap.get? S = some (lstObj acc c) := (I1.pin (S, lstObj acc c) (List.mem_append_right _ List.mem_cons_self)).1
      have hasz : acc.size = ys.length := by
        have e1 := hv.length
        have e2 : acc.toList.length = acc.size := by simp
        omega
      have hasz' : acc.size < sizeLine := by omega
      have G1 : GI X S ((a, go) :: ip) ys σ1 H1 s1 := ⟨acc, c, hv, I1⟩
      show wpAny _ A.in1 (updateSeq S (·.push v) >>= _) _ _ _
      refine wpAny_bind ?_
      refine wpAny_updateSeq hS1 rfl (wpAny_pure ⟨plainId_quiet F.plain_extend_loop _, ?_⟩) (Nat.le_of_lt hasz') (by show (acc.push v).size ≤ sizeLine + 1; rw [Array.size_push]; omega)
      have hip' : ∀ p ∈ ip, p.1 ≠ S := fun p hp z => hSx (z ▸ hip p hp)
      obtain ⟨acc2, c2, hv2, I2⟩ := G1.woken (s' := { s1 with heap := s1.heap.update S (Obj.mapSeq (·.push v)) }) (x := x) (v := v) (fun p hp => by rw [hpn] at hp; cases hp)
        (fun p hp => by
          rcases List.mem_cons.mp hp with z | z
          · rw [z]; exact hSa
          · exact hip' p z) hA rx (Slept.push hS1 I1.bare)
      have hc2 : (lstC S).C (ys ++ [x]) [(S, lstObj acc2 c2)] := ⟨acc2, c2, rfl, hv2, by rw [List.length_append]; exact hlt⟩
      obtain ⟨n', hn, hG'⟩ := q { s1 with heap := s1.heap.update S (Obj.mapSeq (·.push v)) } _ hc2 I2 rfl
      exact ih n' hn _ ⟨ip, σ1, H1, _, _, hc2, hip', I2⟩ hG'
end
section
variable {X : Cx} {pins : List (Addr × Obj)} {σ : L2.St} {elt tg iter : Expr} {ifs : List Expr} {scope : Scope} {own : List (Str × Nat)} {g : TG} {tt : TT} {te : TE} {k : Nat} {pos : Pos}
theorem gcollect {H2 : Hp} {J : It} {s4 s5 : Shared} {cenv : Env} {it : Addr} {fp : List Addr} {tn : Nat → Heap → Prop} {gn : Nat} {a : Addr} {go : Obj} {A : Around} {Qe : List V → Hp → Prop} {W : WGn} {m : Nat} {Q : List Value → Shared → Prop} {E : Value → Shared → Prop}
    (r : GRdy X pins σ H2 J elt tg iter ifs scope pos s4 cenv it fp tn gn a go s5) (hc : X.calm = true) (ok : GenSc X.N X.env.scope scope own) (hN : X.N.Nodup)
    (hh : A.handled = none) (hd : A.depth < recursionLimit) (hfr : A.frames = some X.stack) (hk : Room k ((A.in1.in1).over (genLoopC elt tg iter ifs scope pos it cenv) []))
    (hg : ∀ (A : Around) (s : Shared) (H : Hp) (C : Addr) (cl : List (Str × Addr)) (code : Value) (fp : List Addr), Room k A → PG (genCx X A s H (genEnv scope cl C code builtinsNs X.env) fp) tg g)
    (ht : ∀ (A : Around) (s : Shared) (H : Hp) (C : Addr) (cl : List (Str × Addr)) (code : Value) (fp : List Addr), Room k A → PTs (genCx X A s H (genEnv scope cl C code builtinsNs X.env) fp) ifs tt)
    (he : ∀ (A : Around) (s : Shared) (H : Hp) (C : Addr) (cl : List (Str × Addr)) (code : Value) (fp : List Addr), Room k A → PE (genCx X A s H (genEnv scope cl C code builtinsNs X.env) fp) elt te)
    (w : W 0 m [] H2) (turn : GTurn J (lstC 0).D g tt te (own.map (·.2)) (wipe σ (own.map (·.2))) Qe W)
    (hQ : ∀ ys acc H s', Vals ys acc → ys.length ≤ sizeLine → Inv X pins σ H s' → Qe ys H → Q acc s') : wpAny (model X.prog X.w) A (collect (.ref a)) Q E s5 := by
  have hSa : s5.heap.objs.size ≠ a := Nat.ne_of_gt r.hi
  have isg : ∀ h : Heap, h.get? a = some go → h.IsGen a gn := fun h e => r.isGen e
  unfold collect
  refine wpAny_bind (wpAny_runValue (codeAny_builtin F.entry_proto_collect ?_))
  rw [Around.under_plainId F.plain_proto_collect _]
  show wpAny _ A.in1 (newList [] >>= fun l => again (.builtin "list.__iadd__" ⟨[l, .ref a], []⟩)) _ _ s5
  refine wpAny_bind (wpAny_newObj_type ?_)
  refine wpAny_pure ⟨plainId_quiet F.plain_list_iadd _, codeAny_builtin F.entry_list_iadd ?_⟩
  rw [Around.under_plainId F.plain_list_iadd _]
  generalize hS : s5.heap.objs.size = S at hSa
  have hS₁ : (s5.heap.push { cls := .type "list", data := .seq ([] : List Value).toArray }).get? S = some { cls := .type "list", data := .seq ([] : List Value).toArray } := by rw [← hS]; exact Heap.get?_push_size _ rfl
  have lt : ∀ b o, s5.heap.get? b = some o → b ≠ S := fun b o e => by rw [← hS]; exact Nat.ne_of_lt (Heap.lt_size e)
  have up : ∀ (h : Heap) (f : Obj → Obj), (∀ b o, s5.heap.get? b = some o → h.get? b = some o) → ∀ b o, s5.heap.get? b = some o → (h.update S f).get? b = some o := fun h f q b o e =>
    (Heap.get?_update_other _ _ (Ne.symm (lt b o e))).trans (q b o e)
  have k1 : ∀ b o, s5.heap.get? b = some o → (s5.heap.push { cls := .type "list", data := .seq ([] : List Value).toArray }).get? b = some o := fun b o e => Heap.get?_push_of_some _ e
  have gty : ∀ {h : Heap}, (∀ b o, s5.heap.get? b = some o → h.get? b = some o) → h.IsGen a gn := fun {h} q => (r.isGen r.obj).keeps q
  show wpAny _ A.in1 (Builtin.List.listExtendWith (.ref S) (.ref a) (.ref S)) _ _ _
  unfold Builtin.List.listExtendWith
  refine wpAny_bind (wpAny_typeOf (Heap.IsGen.typeIs (s := { s5 with heap := _ }) (gty k1)) ?_)
  have h1 : Builtin.List.listSameRef (.ref S) (.ref a) = false := by simp [Builtin.List.listSameRef, hSa]
  have h2 : (Value.type "generator" == Value.type "list") = false := by decide
  have h3 : (Value.type "generator" == Value.type "tuple") = false := by decide
  simp only [h1, h2, h3, Bool.or_false, Bool.false_eq_true, if_false]
  refine wpAny_bind (wpAny_pyIter_gen (s := { s5 with heap := _ }) (gty k1) ?_)
  refine wpAny_bind (wpAny_holding ?_)
  unfold Builtin.List.listLengthHint
  refine wpAny_bind (wpAny_specialOf (Heap.IsGen.typeIs (s := { s5 with heap := _ }) (gty k1)) F.gen_no_len ?_)
  show wpAny _ A.in1 (specialOf (Value.ref a) (Str.ofString "__length_hint__") >>= _) _ _ _
  refine wpAny_bind (wpAny_specialOf (Heap.IsGen.typeIs (s := { s5 with heap := _ }) (gty k1)) F.gen_no_hint ?_)
  refine wpAny_pure ?_
  show wpAny _ A.in1 (rule "list.extend.makes-room" >>= fun _ => Builtin.List.listTouch (.ref S) >>= fun _ =>
    again (.builtin "list.extend.loop" ⟨[.ref S, .ref a, .ref S], []⟩)) _ _ _
  refine wpAny_bind (wpAny_rule ?_)
  refine wpAny_bind ?_
  show wpAny _ A.in1 (updateSeq S (·.push .none) >>= fun _ => updateSeq S (·.pop)) _ _ _
  refine wpAny_bind (wpAny_updateSeq hS₁ rfl ?_)
  have hS₂ := Heap.get?_update_self (Obj.mapSeq (·.push Value.none)) hS₁ rfl
  refine wpAny_updateSeq (hz := by seq_fits) hS₂ rfl ?_
  have hS₃ := Heap.get?_update_self (Obj.mapSeq (·.pop)) hS₂ rfl
  have k3 := up _ (Obj.mapSeq (·.pop)) (up _ (Obj.mapSeq (·.push Value.none)) k1)
  generalize hh6 : ((s5.heap.push { cls := .type "list", data := .seq ([] : List Value).toArray }).update S (Obj.mapSeq (·.push Value.none))).update S (Obj.mapSeq (·.pop)) = h6 at hS₃ k3 ⊢
  have hS3 : ∃ c, h6.get? S = some (lstObj #[] c) := ⟨_, hS₃⟩
  obtain ⟨cS, heS⟩ := hS3
  have hlo : s4.heap.objs.size < S := by rw [← hS]; exact Nat.lt_trans r.lo r.hi
  have mk : ∀ (G : Array GenState), AllBare G → Inv (gCx X A.in1.in1 s4 H2 cenv fp elt tg iter ifs scope pos it) ([(S, lstObj #[] cS)] ++ [(a, go)]) (wipe σ (own.map (·.2))) H2 { s5 with heap := h6, gens := G } := fun G hG => by
    have I6 := r.wake (own := own) (s6 := { s5 with heap := h6, gens := G }) (Aw := A.in1.in1) ok hN hh hfr k3 rfl hG
    refine I6.pins_of fun p hp => ?_
    rcases List.mem_append.mp hp with z | z
    · rw [List.mem_singleton.mp z]
      refine ⟨heS, r.I.hok.fresh (Nat.le_of_lt hlo), ?_, r.I.nofs (Nat.le_of_lt hlo) ∘ fun z => ?_, fun v q => by cases q⟩
      · obtain ⟨code, rfl⟩ := r.env
        exact Nat.ne_of_gt hlo
      · have z : S ∈ frs X.stack := z
        rcases List.mem_cons.mp (r.I.stkSub S z) with y | y
        · exact absurd (Nat.lt_trans r.I.lt hlo) (by rw [y]; exact Nat.lt_irrefl _)
        · exact y
    · exact I6.pin p (List.mem_append_right _ z)
  have I7 := mk s5.gens r.bare
  refine wpAny_pure ⟨plainId_quiet F.plain_extend_loop _, ?_⟩
  have ap : Apart (gCx X A.in1.in1 s4 H2 cenv fp elt tg iter ifs scope pos it) S := by
    refine ⟨Nat.le_of_lt hlo, ?_, fun x c e z => ?_⟩
    · obtain ⟨code, rfl⟩ := r.env
      exact Nat.ne_of_gt hlo
    · have I5 := r.wake (own := own) (s6 := s5) (Aw := A.in1.in1) ok hN hh hfr (fun _ _ e => e) rfl r.bare
      obtain ⟨v, q⟩ := I5.cell x c e
      have q2 := q.lt
      rw [z, ← hS] at q2
      exact absurd q2 (Nat.lt_irrefl _)
  refine ext_loop (σ0 := wipe σ (own.map (·.2))) (Qe := Qe) (X := gCx X A.in1.in1 s4 H2 cenv fp elt tg iter ifs scope pos it) hh hd isg ap rfl (fun hm => ?_) (Ne.symm hSa) (fun ys acc c H s' hv hl I' q => ?_) (m + 1) _ ⟨[], _, _, [], _, ⟨#[], cS, rfl, .nil, Nat.zero_le _⟩, (fun p hp => by cases hp), by rw [List.append_nil]; exact I7⟩ ?_
  · exact absurd (Nat.lt_trans (r.fpo S hm).2 hlo) (Nat.lt_irrefl _)
  · have eS : s'.heap.get? S = some (lstObj acc c) := (I'.pin (S, lstObj acc c) (List.mem_append_right _ List.mem_cons_self)).1
    show wpAny _ A (load S >>= _) _ _ s'
    refine wpAny_bind (wpAny_load eS ?_)
    exact wpAny_pure (hQ ys acc.toList H s' hv hl (r.back I') q)
  · exact gen_run r hc ok hN hk hg ht he (fun ys cp h p hp => by
      obtain ⟨acc, c, rfl, _⟩ := h
      rw [List.mem_singleton.mp hp]
      exact Nat.le_of_lt hlo) r.gs (show (lstC S).C [] [(S, lstObj #[] cS)] from ⟨#[], cS, rfl, .nil, Nat.zero_le _⟩) (mk _ (allBare_setGen (s := { s5 with heap := h6 }) r.bare rfl)) (fun b o e => k3 b o (r.kp b o e)) w turn
end

/-! ### tuple(..) -/
theorem code_tuple_new_col {prog : Program} {w : World} {A : Around} {E : Value → Shared → Prop} {s : Shared} {a : Addr} {Q₁ : Value → Shared → Prop} {B : List Value → Shared → Prop} (hT : s.TypeIs (.ref a) "generator")
    (hcol : ∀ (Q : List Value → Shared → Prop) (E : Value → Shared → Prop), (∀ acc s', B acc s' → Q acc s') → wpAny (model prog w) A.in1 (collect (.ref a)) Q E s)
    (h : ∀ s' acc, B acc s' → Q₁ (.ref s'.heap.objs.size) { s' with heap := s'.heap.push { cls := .type "tuple", data := .seq acc.toArray } }) (hsz : ∀ s' acc, B acc s' → acc.length ≤ sizeLine) :
    codeAny (model prog w) A (.call (.builtin "tuple.__new__") ⟨[.type "tuple", .ref a], []⟩) (wants Q₁ E) s := by
  refine codeAny_of_tree ?_
  show wpAny _ A.in1 (do checkBuiltinCall "tuple.__new__" ⟨[.type "tuple", .ref a], []⟩; again (.builtin "tuple.__new__" ⟨[.type "tuple", .ref a], []⟩)) _ _ s
  refine wpAny_bind (wpAny_of_eq (F.newCall_tuple_1 _) (wpAny_pure ⟨plainId_quiet F.plain_tuple_new _, codeAny_builtin F.entry_tuple_new ?_⟩))
  rw [Around.under_plainId F.plain_tuple_new _]
  have hsub := sub_tuple_self
  have hinit := init_tuple_lookup
  have hmh := madeHere_tuple
  wp_walk using wpAny_typeOf hT, hcol
  intro acc s' hB
  show wpAny _ _ (Builtin.Tuple.tupleExact acc.toArray >>= fun v => ret v) _ _ _
  unfold Builtin.Tuple.tupleExact
  refine wpAny_bind (wpAny_newObj_type ?_ (by show acc.toArray.size ≤ sizeLine; rw [List.size_toArray]; exact hsz s' acc hB))
  refine wpAny_pure ?_
  exact h s' acc hB
def tTupG (P : Addr) (wi : TI) (g : TG) (tt : TT) (te : TE) (vs : List Nat) : TE := fun σ H Q => wi σ H fun J H1 => GxR.TabG H1 P ∧ ∀ H2, TabUp P H1 H2 → ∃ W : WGn, (∃ m, W 0 m [] H2) ∧
  GTurn J (lstC 0).D g tt te vs (wipe σ vs) (fun ys H => ∀ p, H p = none → Q (.ref p) (upd H p (.tup ys))) W
section
variable {X : Cx} {c P : Addr} {elt tg iter : Expr} {ifs : List Expr} {scope : Scope} {own : List (Str × Nat)} {wi : TI} {g : TG} {tt : TT} {te : TE} {k : Nat} {p pos gpos : Pos}
theorem pe_tupG (hc : X.calm = true) (hN : X.N.Nodup) (hr : Room (k + 1) X.A) (hgl : Gl X "tuple") (hm : X.mg "tuple" = none) (TB : GxR.TabB X.base X.mg c P) (hcode : X.env.code = .ref c) (ok : GenSc X.N X.env.scope scope own) (hi : PI X tg iter wi)
    (hg : ∀ (A : Around) (s : Shared) (H : Hp) (C : Addr) (cl : List (Str × Addr)) (code : Value) (fp : List Addr), Room k A → PG (genCx X A s H (genEnv scope cl C code builtinsNs X.env) fp) tg g)
    (ht : ∀ (A : Around) (s : Shared) (H : Hp) (C : Addr) (cl : List (Str × Addr)) (code : Value) (fp : List Addr), Room k A → PTs (genCx X A s H (genEnv scope cl C code builtinsNs X.env) fp) ifs tt)
    (he : ∀ (A : Around) (s : Shared) (H : Hp) (C : Addr) (cl : List (Str × Addr)) (code : Value) (fp : List Addr), Room k A → PE (genCx X A s H (genEnv scope cl C code builtinsNs X.env) fp) elt te)
    (hs : ∀ v, genFold iter X.env v = pure v := by intro _; rfl)
    (hst : starEach [.GeneratorExp elt [⟨tg, iter, ifs, 0⟩] scope gpos] X.env = (false, eval (.GeneratorExp elt [⟨tg, iter, ifs, 0⟩] scope gpos) X.env) :: starEach [] X.env := by rfl) :
    PE X (.Call (.Name "tuple" p) [.GeneratorExp elt [⟨tg, iter, ifs, 0⟩] scope gpos] [] pos) (tTupG P wi g tt te (own.map (·.2))) := by
  refine ⟨fun pins s σ H Q I h => ?_⟩
  refine wpAny_Call_Name_kw (ld_blt (u := .type "tuple") I hgl hm (by decide +kernel) ?_)
  refine PyProof.Rows.callWith_type1 ?_ hst rfl
  rw [hst]
  show wpAny _ _ (spliced ((false, eval (.GeneratorExp elt [⟨tg, iter, ifs, 0⟩] scope gpos) X.env) :: backTo pos (starEach [] X.env))) _ _ s
  refine Calls.spliced_cons (gen_make hr TB hcode ok hi hs I h fun J H1 H2 s4 cenv it fp tn gn a go s5 hR hT r => ?_)
  obtain ⟨W, ⟨m, w⟩, turn⟩ := hR H2 hT
  refine Calls.spliced_nil ?_
  have hAw : Room k ((X.A.in1.in1.in1.in1).over (genLoopC elt tg iter ifs scope gpos it cenv) []) := room_gen hr (m := 4) (by omega) rfl rfl rfl
  refine callType_codes (Q₁ := fun obj s₁ => s₁.TypeIs obj "tuple" ∧ EP X pins σ Q obj s₁) F.called_tuple (F.typeCall_tuple_1 _) F.entry_object_init
    (code_tuple_new_col (B := fun acc s' => ∃ ys H, Vals ys acc ∧ ys.length ≤ sizeLine ∧ Inv X pins σ H s' ∧ ∀ p, H p = none → Q (.ref p) (upd H p (.tup ys))) (Heap.IsGen.typeIs (r.isGen r.obj))
      (fun Q' E' hB => gcollect (A := X.A.in1.in1) r hc ok hN hr.hd (by have := hr.dp; show X.A.depth < _; omega) I.ok.frames hAw hg ht he w turn fun ys acc H s' hv hl I' q => hB acc s' ⟨ys, H, hv, hl, I', q⟩)
      (fun s' acc ⟨ys, H, hv, hl, I', q⟩ => ?_) (fun s' acc ⟨ys, H, hv, hl, I', q⟩ => by rw [← hv.length]; exact hl)) fun obj s₁ h₁ => ?_
  · refine ⟨⟨_, Heap.get?_push_size _ rfl, rfl⟩, .ref s'.heap.objs.size, upd H s'.heap.objs.size (.tup ys), ?_, rfl, q _ (I'.hok.fresh (Nat.le_refl _))⟩
    exact I'.laid (t' := s'.toks) (fun b o e => Heap.get?_push_of_some _ e) (Nat.le_refl _) ⟨hl, acc, hv, _, Heap.get?_push_size _ rfl, rfl, _, rfl⟩
  · exact ⟨h₁.1, F.args_object_init_2 obj _, object_init_meets F.called_tuple.init.lookup F.called_tuple.made (by decide) X.prog X.w X.A.in1 _ s₁ ⟨h₁.1, rfl, h₁.2⟩⟩
end
end VL
set_option Elab.async false
set_option linter.all false
set_option maxRecDepth 100000
/-! VL9: all, any, tuple of generator expressions, by value. -/
namespace VL
open PySem PySem.Spec PyProof.Rows L2
variable {τ : Tau}

section
variable {K : PySem.W.Frag} {R : Root τ} {F F' H H' : Hp} {env : PEnv} {σ : L2.St} {P : Addr}
theorem Base.tabUp (r : Base R F H) (t : TabUp P H H') : Base (rt (τ := τ) H F none) F H' := by
  obtain ⟨ps, more, h1, rfl, h2⟩ := t
  have ne : ∀ b u, H b = some u → isTbl u = false → b ≠ P := fun b u e k z => by
    rw [z, h1] at e; cases e; cases k
  refine { ext := Same.refl F, sub := fun b u e => ?_, frame := fun b u e k _ => ?_, tabs := fun b qs e => ?_, tok := fun b hm qs e => ?_, has := fun p hp => ?_, new := fun b u e => .inl e, kt := fun a o e => (by cases e), kind := r.kind, drw := fun a e => (by cases e), kp := fun a o e => (by cases e) }
  · have e1 := r.sub b u e
    rw [upd_ne (ne b u e1 (fzk_tbl (r.kind b u e)))]; exact e1
  · rw [upd_ne (ne b u e k)]; exact e
  · have e : H b = some (.tbl qs) := e
    by_cases hb : b = P
    · subst hb; rw [h1] at e; cases e
      exact ⟨more, upd_same⟩
    · exact ⟨#[], by rw [upd_ne hb, e]; simp⟩
  · by_cases hb : b = P
    · subst hb; rw [upd_same] at e; cases e; exact h2
    · rw [upd_ne hb] at e; exact r.tok b hm qs e
  · obtain ⟨qs, e⟩ := r.has p hp
    by_cases hb : p = P
    · subst hb; exact ⟨_, upd_same⟩
    · exact ⟨qs, by rw [upd_ne hb]; exact e⟩
theorem Rel.tabUp (r : Rel K R F env σ H) (t : TabUp P H H') : Rel K R F env σ H' := r.up (r.toBase.tabUp t) (Same.refl F)
theorem Base.tabG (r : Base R F H) (hP : P ∈ τ) : GxR.TabG H P := by
  obtain ⟨ps, e⟩ := r.has P hP
  exact ⟨ps, e, r.tok P hP ps e⟩
end
/-- all (b0), any (¬ b0) -/
structure QuI (b0 : Bool) (g : WG) (tt : WT) (we : WE) (vs : List Nat) (Q : Bool → PEnv → Prop) (I : List PyData → PEnv → Prop) : Prop where
  fin : ∀ e, I [] e → Q b0 e
  step : ∀ x xs e, I (x :: xs) e → g x e fun e1 => tt e1 fun b e2 => if b = true then we e2 fun y e3 => ∃ c, y = .bool c ∧ (if c = b0 then I xs (wipeE e3 vs) else Q (!b0) (wipeE e3 vs)) else I xs (wipeE e2 vs)
def quW (b0 : Bool) (g : WG) (tt : WT) (we : WE) (vs : List Nat) (items : List PyData) (env : PEnv) (Q : Bool → PEnv → Prop) : Prop := ∃ I, I items env ∧ QuI b0 g tt we vs Q I
@[simp ↓] def wQu (b0 : Bool) (wi : WI) (g : WG) (tt : WT) (we : WE) (vs : List Nat) : WE := fun env Q => wi env fun items e1 => noOwn e1 vs ∧ quW b0 g tt we vs items (wipeE e1 vs) fun b e2 => Q (.bool b) (restE e2 e1 vs)
/-- tuple(..) -/
@[simp ↓] def wTg (wi : WI) (g : WG) (tt : WT) (we : WE) (vs : List Nat) : WE := fun env Q => wi env fun items e1 => noOwn e1 vs ∧ lcW g tt we vs items [] (wipeE e1 vs) fun ds e2 => Q (.tuple ds) (restE e2 e1 vs)
section
variable {X : Cx} {R : Root τ} {c P : Addr} {elt tg iter : Expr} {ifs : List Expr} {scope : Scope} {own : List (Str × Nat)} {wi : WI} {g : WG} {tt : WT} {we : WE} {k : Nat} {p pos gpos : Pos}
theorem wQu_rd (b0 : Bool) {vs : List Nat} (hP : P ∈ τ) : ∀ σ H Q, rdE X.K R (wQu b0 wi g tt we vs) σ H Q → tQu b0 P (rdI X.K R wi) (rdGx τ X.K vs g) (rdTs τ X.K tt) (rdEs τ X.K we) vs σ H Q := by
  intro σ H Q ⟨F, env, Qw, r, w, k⟩
  refine ⟨F, env, _, r, w, fun F1 e1 H1 J items f1 r1 y1 ⟨no, I, i0, iok⟩ => ⟨r1.toBase.tabG hP, fun H2 hT => ?_⟩⟩
  have r2 := r1.tabUp hT
  refine ⟨fun i m ys H => m = items.length - i ∧ i ≤ items.length ∧ ∃ F2 env2, Same F1 F2 ∧ Rel X.K R F2 env2 (wipe σ vs) H ∧ I (items.drop i) env2,
    ⟨items.length, rfl, Nat.zero_le _, F1, _, Same.refl _, r2.wiped (vs := vs) (σ := σ) wipe_chg, i0⟩, ?_⟩
  rintro i m ys H ⟨rfl, hi, F2, env2, f2, r3, w2⟩
  by_cases hlt : i < items.length
  · have e0 : items.drop i = items[i] :: items.drop (i + 1) := List.drop_eq_getElem_cons hlt
    rw [e0] at w2
    replace w2 := iok.step _ _ _ w2
    obtain ⟨g1, g2⟩ := y1.go _ F2 env2 (wipe σ vs) H i items[i] f2 r3 (List.getElem?_eq_getElem hlt)
    refine .inr ⟨g1, fun _ H' => ∃ F3 env3, Same F1 F3 ∧ Rel X.K R F3 env3 (wipe σ vs) H' ∧ I (items.drop (i + 1)) env3,
      fun _ H' z => ⟨items.length - (i + 1), by omega, rfl, hlt, z⟩, fun x H' hy => ?_⟩
    obtain ⟨F3, f3, r4, p3⟩ := g2 x H' hy
    refine ⟨_, F3, env2, _, items[i], r4, p3, w2, fun F4 e4 σ4 H4 f4 r5 c4 w4 => ⟨(wipe_ext c4).trans wipe_wipe, _, F4, e4, _, r5, w4, fun F5 e5 H5 b f5 r6 w5 => ?_⟩⟩
    have ff5 := ((f2.trans f3).trans f4).trans f5
    cases b with
    | true =>
      refine ⟨_, F5, e5, _, r6, w5, fun F6 e6 H6 y d f6 r7 p6 ⟨cb, hd, w6⟩ => ?_⟩
      subst hd
      cases p6
      refine ⟨cb, rfl, ?_⟩
      by_cases hc : cb = b0
      · rw [if_pos hc] at w6 ⊢
        exact ⟨F6, wipeE e6 vs, ff5.trans f6, r7.wiped c4, w6⟩
      · rw [if_neg hc] at w6 ⊢
        exact k F6 _ H6 (.bl (!b0)) (.bool (!b0)) (f1.trans (ff5.trans f6)) (r2.rest (r7.wiped c4) (ff5.trans f6) no) (.bl _) w6
    | false =>
      exact ⟨F5, wipeE e5 vs, ff5, r6.wiped c4, w5⟩
  · have e0 : i = items.length := by omega
    subst e0
    rw [List.drop_length] at w2
    exact .inl ⟨y1.stop _ F2 env2 (wipe σ vs) H f2 r3, k F2 _ H (.bl b0) (.bool b0) (f1.trans f2) (r2.rest r3 f2 no) (.bl _) (iok.fin _ w2)⟩
theorem wTg_rd {vs : List Nat} (hP : P ∈ τ) : ∀ σ H Q, rdE X.K R (wTg wi g tt we vs) σ H Q → tTupG P (rdI X.K R wi) (rdGx τ X.K vs g) (rdTs τ X.K tt) (rdEs τ X.K we) vs σ H Q := by
  intro σ H Q ⟨F, env, Qw, r, w, k⟩
  refine ⟨F, env, _, r, w, fun F1 e1 H1 J items f1 r1 y1 ⟨no, I, i0, iok⟩ => ⟨r1.toBase.tabG hP, fun H2 hT => ?_⟩⟩
  have r2 := r1.tabUp hT
  refine ⟨fun i m ys H => m = items.length - i ∧ i ≤ items.length ∧ ∃ F2 env2 accD, Same F1 F2 ∧ Rel X.K R F2 env2 (wipe σ vs) H ∧ RpL X.K F2 ys accD ∧ I (items.drop i) accD env2,
    ⟨items.length, rfl, Nat.zero_le _, F1, _, [], Same.refl _, r2.wiped (vs := vs) (σ := σ) wipe_chg, .nil, i0⟩, ?_⟩
  rintro i m ys H ⟨rfl, hi, F2, env2, accD, f2, r3, l2, w2⟩
  by_cases hlt : i < items.length
  · have e0 : items.drop i = items[i] :: items.drop (i + 1) := List.drop_eq_getElem_cons hlt
    rw [e0] at w2
    replace w2 := iok.step _ _ _ _ w2
    obtain ⟨g1, g2⟩ := y1.go _ F2 env2 (wipe σ vs) H i items[i] f2 r3 (List.getElem?_eq_getElem hlt)
    refine .inr ⟨g1, fun ys' H' => ∃ F3 env3 accD, Same F1 F3 ∧ Rel X.K R F3 env3 (wipe σ vs) H' ∧ RpL X.K F3 ys' accD ∧ I (items.drop (i + 1)) accD env3,
      fun _ H' z => ⟨items.length - (i + 1), by omega, rfl, hlt, z⟩, fun x H' hy => ?_⟩
    obtain ⟨F3, f3, r4, p3⟩ := g2 x H' hy
    refine ⟨_, F3, env2, _, items[i], r4, p3, w2, fun F4 e4 σ4 H4 f4 r5 c4 w4 => ⟨(wipe_ext c4).trans wipe_wipe, _, F4, e4, _, r5, w4, fun F5 e5 H5 b f5 r6 w5 => ?_⟩⟩
    have ff5 := ((f2.trans f3).trans f4).trans f5
    have g25 := (f3.trans f4).trans f5
    cases b with
    | true =>
      refine ⟨_, F5, e5, _, r6, w5, fun F6 e6 H6 y d f6 r7 p6 ⟨hz, w6⟩ => ?_⟩
      exact ⟨by rw [l2.length]; exact hz, F6, wipeE e6 vs, accD ++ [d], ff5.trans f6, r7.wiped c4, (rpL_mono (g25.trans f6) _ _ l2).append (.cons p6 .nil), w6⟩
    | false =>
      exact ⟨F5, wipeE e5 vs, accD, ff5, r6.wiped c4, rpL_mono g25 _ _ l2, w5⟩
  · have e0 : i = items.length := by omega
    subst e0
    rw [List.drop_length] at w2
    refine .inl ⟨y1.stop _ F2 env2 (wipe σ vs) H f2 r3, fun p hp => ?_⟩
    have rr := r2.rest r3 f2 no
    refine k (upd F2 p (.tup ys)) _ (upd H p (.tup ys)) (.ref p) (.tuple accD) ((f1.trans f2).trans (same_updF rr.toBase hp)) (rr.up (rr.toBase.allocF hp rfl) (same_updF rr.toBase hp)) (.tup (show TupF _ _ _ _ from upd_same) (rpL_mono (same_updF rr.toBase hp) _ _ l2)) (iok.fin _ _ w2)
abbrev GenG (τ : Tau) (X : Cx) (k : Nat) (scope : Scope) (vs : List Nat) (tg : Expr) (g : WG) : Prop := ∀ (R : Root τ) (A : Around) (s : Shared) (H : Hp) (C : Addr) (cl : List (Str × Addr)) (code : Value) (fp : List Addr), Room k A → CG (genCx X A s H (genEnv scope cl C code builtinsNs X.env) fp) R vs tg g
abbrev GenT (τ : Tau) (X : Cx) (k : Nat) (scope : Scope) (ifs : List Expr) (tt : WT) : Prop := ∀ (R : Root τ) (A : Around) (s : Shared) (H : Hp) (C : Addr) (cl : List (Str × Addr)) (code : Value) (fp : List Addr), Room k A → CTs (genCx X A s H (genEnv scope cl C code builtinsNs X.env) fp) R ifs tt
abbrev GenE (τ : Tau) (X : Cx) (k : Nat) (scope : Scope) (elt : Expr) (we : WE) : Prop := ∀ (R : Root τ) (A : Around) (s : Shared) (H : Hp) (C : Addr) (cl : List (Str × Addr)) (code : Value) (fp : List Addr), Room k A → CE (genCx X A s H (genEnv scope cl C code builtinsNs X.env) fp) R elt we
theorem ce_all (hc : X.calm = true) (hN : X.N.Nodup) (hr : Room (k + 1) X.A) (hgl : Gl X "all") (hm : X.mg "all" = none) (TB : GxR.TabB X.base X.mg c P) (hcode : X.env.code = .ref c) (hP : P ∈ τ) (ok : GenSc X.N X.env.scope scope own) (hi : CI X R tg iter wi)
    (hg : GenG τ X k scope (own.map (·.2)) tg g) (ht : GenT τ X k scope ifs tt) (he : GenE τ X k scope elt we) (hs : ∀ v, genFold iter X.env v = pure v := by intro _; rfl)
    (hst : starEach [.GeneratorExp elt [⟨tg, iter, ifs, 0⟩] scope gpos] X.env = (false, eval (.GeneratorExp elt [⟨tg, iter, ifs, 0⟩] scope gpos) X.env) :: starEach [] X.env := by rfl) :
    CE X R (.Call (.Name "all" p) [.GeneratorExp elt [⟨tg, iter, ifs, 0⟩] scope gpos] [] pos) (wQu true wi g tt we (own.map (·.2))) :=
  pe_imp (pe_all hc hN hr hgl hm TB hcode ok hi (fun A s H C cl code fp h => pg_s fun R => hg R A s H C cl code fp h) (fun A s H C cl code fp h => pts_s fun R => ht R A s H C cl code fp h) (fun A s H C cl code fp h => pe_s fun R => he R A s H C cl code fp h) hs hst) (wQu_rd true hP)
theorem ce_any (hc : X.calm = true) (hN : X.N.Nodup) (hr : Room (k + 1) X.A) (hgl : Gl X "any") (hm : X.mg "any" = none) (TB : GxR.TabB X.base X.mg c P) (hcode : X.env.code = .ref c) (hP : P ∈ τ) (ok : GenSc X.N X.env.scope scope own) (hi : CI X R tg iter wi)
    (hg : GenG τ X k scope (own.map (·.2)) tg g) (ht : GenT τ X k scope ifs tt) (he : GenE τ X k scope elt we) (hs : ∀ v, genFold iter X.env v = pure v := by intro _; rfl)
    (hst : starEach [.GeneratorExp elt [⟨tg, iter, ifs, 0⟩] scope gpos] X.env = (false, eval (.GeneratorExp elt [⟨tg, iter, ifs, 0⟩] scope gpos) X.env) :: starEach [] X.env := by rfl) :
    CE X R (.Call (.Name "any" p) [.GeneratorExp elt [⟨tg, iter, ifs, 0⟩] scope gpos] [] pos) (wQu false wi g tt we (own.map (·.2))) :=
  pe_imp (pe_any hc hN hr hgl hm TB hcode ok hi (fun A s H C cl code fp h => pg_s fun R => hg R A s H C cl code fp h) (fun A s H C cl code fp h => pts_s fun R => ht R A s H C cl code fp h) (fun A s H C cl code fp h => pe_s fun R => he R A s H C cl code fp h) hs hst) (wQu_rd false hP)
theorem ce_tupG (hc : X.calm = true) (hN : X.N.Nodup) (hr : Room (k + 1) X.A) (hgl : Gl X "tuple") (hm : X.mg "tuple" = none) (TB : GxR.TabB X.base X.mg c P) (hcode : X.env.code = .ref c) (hP : P ∈ τ) (ok : GenSc X.N X.env.scope scope own) (hi : CI X R tg iter wi)
    (hg : GenG τ X k scope (own.map (·.2)) tg g) (ht : GenT τ X k scope ifs tt) (he : GenE τ X k scope elt we) (hs : ∀ v, genFold iter X.env v = pure v := by intro _; rfl)
    (hst : starEach [.GeneratorExp elt [⟨tg, iter, ifs, 0⟩] scope gpos] X.env = (false, eval (.GeneratorExp elt [⟨tg, iter, ifs, 0⟩] scope gpos) X.env) :: starEach [] X.env := by rfl) :
    CE X R (.Call (.Name "tuple" p) [.GeneratorExp elt [⟨tg, iter, ifs, 0⟩] scope gpos] [] pos) (wTg wi g tt we (own.map (·.2))) :=
  pe_imp (pe_tupG hc hN hr hgl hm TB hcode ok hi (fun A s H C cl code fp h => pg_s fun R => hg R A s H C cl code fp h) (fun A s H C cl code fp h => pts_s fun R => ht R A s H C cl code fp h) (fun A s H C cl code fp h => pe_s fun R => he R A s H C cl code fp h) hs hst) (wTg_rd hP)
end
end VL
set_option Elab.async false
set_option linter.all false
set_option maxRecDepth 100000
set_option maxHeartbeats 1000000
/-! VL10: list(reversed(x)); the script; lists that a def owns: append, extend, pop, item stores. -/
namespace VL
open PySem PySem.Spec PyProof.Rows L2
variable {τ : Tau}

section
variable {prog : Program} {w : World} {A : Around} {E : Value → Shared → Prop} {s : Shared}
theorem call_list_rev {it l : Addr} {items : Array Value} {Q : Value → Shared → Prop} (hh : A.handled = none) (hit : s.heap.IsRevIter it l ((items.size : Int) - 1)) (hl : s.heap.IsList l items) (hne : l ≠ it) (hn : items.size ≤ sizeLine)
    (hQ : ∀ (h' : Heap) (tk : Nat) (acc : Array Value) (c' : Nat), (∀ b o, b ≠ it → s.heap.get? b = some o → h'.get? b = some o) → h'.get? s.heap.objs.size = some (lstObj acc c') → ItemsOf (fun i v => items[items.size - 1 - i]? = some v) acc items.size →
      Q (.ref s.heap.objs.size) { s with heap := h', toks := tk }) :
    wpAny (model prog w) A (call (.type "list") [.ref it]) Q E s := by
  have W := (Walks.listRev (prog := prog) (w := w) (A := A.in1.in1) hh it l hne items).toS
  obtain ⟨oi, hoi, _⟩ := id hit
  obtain ⟨ol, hol, _⟩ := id hl
  have hSi : s.heap.objs.size ≠ it := Nat.ne_of_gt (Heap.lt_size hoi)
  have hSl : s.heap.objs.size ≠ l := Nat.ne_of_gt (Heap.lt_size hol)
  have hSf : s.heap.objs.size ∉ [it, l] := by simp only [List.mem_cons, List.not_mem_nil, or_false, not_or]; exact ⟨hSi, hSl⟩
  refine callType_codes (Q₁ := fun obj s₁ => obj = .ref s.heap.objs.size ∧ s₁ = { s with heap := s.heap.push { cls := .type "list", data := .seq #[] } }) F.called_list (F.typeCall_list_1 _) F.entry_list_init
    (code_list_new _ ⟨rfl, rfl⟩) fun obj s₁ h₁ => ?_
  obtain ⟨rfl, rfl⟩ := h₁
  have hS : (s.heap.push { cls := .type "list", data := .seq #[] }).get? s.heap.objs.size = some { cls := .type "list", data := .seq #[] } := Heap.get?_push_size _ rfl
  refine ⟨⟨_, hS, rfl⟩, F.args_list_init_2 _ _, ?_⟩
  show wpAny _ A.in1.in1 (do let old ← Builtin.List.listItems (.ref s.heap.objs.size); Builtin.List.listUpdate (.ref s.heap.objs.size) (fun _ => #[]); letGo old.toList.reverse; Builtin.List.listExtendWith (.ref s.heap.objs.size) (.ref it) .none) _ _ _
  refine wpAny_bind ?_
  unfold Builtin.List.listItems
  refine wpAny_bind (wpAny_seqItems hS rfl (wpAny_pure ?_))
  show wpAny _ A.in1.in1 (updateSeq s.heap.objs.size (fun _ => #[]) >>= fun _ => letGo (#[] : Array Value).toList.reverse >>= fun _ => Builtin.List.listExtendWith (.ref s.heap.objs.size) (.ref it) .none) _ _ _
  refine wpAny_bind (wpAny_updateSeq hS rfl ?_)
  have hS2 := Heap.get?_update_self (Obj.mapSeq (fun _ => (#[] : Array Value))) hS rfl
  refine wpAny_bind (wpAny_letGo ?_)
  have up : ∀ (h : Heap) (f : Obj → Obj), (∀ b o, s.heap.get? b = some o → h.get? b = some o) → ∀ b o, s.heap.get? b = some o → (h.update s.heap.objs.size f).get? b = some o := fun h f q b o e =>
    (Heap.get?_update_other _ _ (Ne.symm (Nat.ne_of_lt (Heap.lt_size e)))).trans (q b o e)
  have k1 : ∀ b o, s.heap.get? b = some o → (s.heap.push { cls := .type "list", data := .seq #[] }).get? b = some o := fun b o e => Heap.get?_push_of_some _ e
  have k2 := up _ (Obj.mapSeq (fun _ => (#[] : Array Value))) k1
  generalize hh2 : (s.heap.push { cls := .type "list", data := .seq #[] }).update s.heap.objs.size (Obj.mapSeq (fun _ => (#[] : Array Value))) = h2 at hS2 k2 ⊢
  have hit1 : h2.IsRevIter it l ((items.size : Int) - 1) := hit.at fun o e => k2 _ _ e
  have hl1 : h2.IsList l items := let ⟨o, e, r⟩ := hl; ⟨o, k2 _ _ e, r⟩
  have hT : ({ s with heap := h2 } : Shared).TypeIs (.ref it) "list_reverseiterator" := Heap.IsRevIter.typeIs (s := { s with heap := h2 }) hit1
  have h1 : Builtin.List.listSameRef (.ref s.heap.objs.size) (.ref it) = false := by simp [Builtin.List.listSameRef, hSi]
  show wpAny _ A.in1.in1 (Builtin.List.listExtendWith (.ref s.heap.objs.size) (.ref it) .none) _ _ { s with heap := h2 }
  unfold Builtin.List.listExtendWith
  refine wpAny_bind (wpAny_typeOf hT ?_)
  rw [if_neg (by rw [h1]; decide)]
  refine wpAny_bind (wpAny_pyIter_revIter (s := { s with heap := h2 }) hit1 ?_)
  refine wpAny_bind (wpAny_holding ?_)
  unfold Builtin.List.listLengthHint
  refine wpAny_bind (wpAny_specialOf hT RT.nolen_lri ?_)
  show wpAny _ A.in1.in1 (specialOf (Value.ref it) (Str.ofString "__length_hint__") >>= _) _ _ _
  refine wpAny_bind (wpAny_specialOf hT RT.hint_lri ?_)
  generalize hid : ("list_reverseiterator.__length_hint__" : String) = id0
  wp_delta
  rw [show splitId id0 = some ("list_reverseiterator", "__length_hint__") from by subst hid; decide +kernel]
  subst hid
  refine wpAny_bind (wpAny_isInstance (b := true) hT (by rw [isSubtype_type]; kernel_rfl) ?_)
  refine wpAny_pure ?_
  rw [if_neg (by decide)]
  have e0 : ((items.size : Nat) : Int) - 1 - ((0 : Nat) : Int) = (items.size : Int) - 1 := by omega
  refine wpAny_pure ⟨plainId_quiet F.plain_extend_loop _, codeAny_extend_loopS (A := A.in1) W hn _ hSf _ items.size 0 _ _ _ rfl (Nat.zero_le _) ⟨Nat.zero_le _, by rw [e0]; exact hit1, hl1⟩ hS2 (ItemsOf.nil _) fun s' acc' c' hm hS' hacc => ?_⟩
  refine ⟨rfl, ?_⟩
  rw [Moved.eq_with hm]
  refine hQ s'.heap s'.toks acc' c' (fun b o hb e => hm.heap b o (fun hmem => ?_) (k2 _ _ e)) hS' hacc
  rcases List.mem_cons.mp hmem with e' | hmem
  · exact absurd (Heap.lt_size e) (by rw [e']; exact Nat.lt_irrefl _)
  · exact hb (List.mem_singleton.mp hmem)
end
def tLstRev (K : PySem.W.Frag) (te : TE) : TE := fun σ H Q => te σ H fun v H1 => ∃ (a : Addr) (xs : List V), v = .ref a ∧ SqL K H1 a xs ∧ ∀ q, H1 q = none → Q (.ref q) (upd H1 q (.lst xs.reverse))
section
variable {X : Cx}
theorem pe_listRev {e : Expr} {te : TE} {p p2 pos pos2 : Pos} (hc : X.calm = true) (hg : Gl X "list") (hm : X.mg "list" = none) (hg2 : Gl X "reversed") (hm2 : X.mg "reversed" = none) (he : PE X e te)
    (hs : starEach [e] X.env = (false, eval e X.env) :: starEach [] X.env := by rfl)
    (hs2 : starEach [.Call (.Name "reversed" p2) [e] [] pos2] X.env = (false, eval (.Call (.Name "reversed" p2) [e] [] pos2) X.env) :: starEach [] X.env := by rfl) :
    PE X (.Call (.Name "list" p) [.Call (.Name "reversed" p2) [e] [] pos2] [] pos) (tLstRev X.K te) := by
  refine ⟨fun pins s σ H Q I h => ?_⟩
  refine Call_ (ld_blt I hg hm boot_list (PyProof.Rows.callWith_type1 (args_cons (Call_ (ld_blt I hg2 hm2 PyProof.Rows.boot_reversed (PyProof.Rows.callWith_type1 (args_cons (thn (he.run pins s σ H _ I h) fun u s1 ⟨v, H1, I1, r1, q1⟩ => args_nil ?_) hs) hs rfl))) hs2) hs2 rfl))
  obtain ⟨a, xs, ev, hq, q⟩ := q1
  subst ev
  obtain rfl : u = Value.ref a := r1
  obtain ⟨its, rv, p', hz⟩ := I1.list hq
  refine call_reversed_list p'.isList (args_nil ?_)
  have k0 : ∀ b o, s1.heap.get? b = some o → (s1.heap.push (revObj a ((its.toArray.size : Int) - 1))).get? b = some o := fun b o e => Heap.get?_push_of_some _ e
  have I2 : Inv X pins σ H1 { s1 with heap := s1.heap.push (revObj a ((its.toArray.size : Int) - 1)) } := I1.kept (t' := s1.toks) k0
  obtain ⟨f0, f1, f2, f3, f4, f5⟩ := I1.fpOk (H' := H1) (b := s1.heap.objs.size) (Nat.le_refl _) (I1.hok.fresh (Nat.le_refl _))
  have hl := p'.isList
  obtain ⟨ol, hol, _⟩ := id hl
  have hne : a ≠ s1.heap.objs.size := Nat.ne_of_lt (Heap.lt_size hol)
  have hn : its.toArray.size ≤ sizeLine := by rw [List.size_toArray, ← rv.length]; exact hz
  refine call_list_rev (s := { s1 with heap := s1.heap.push (revObj a ((its.toArray.size : Int) - 1)) }) (I1.ok.hd hc) ⟨_, Heap.get?_push_size _ rfl, rfl, rfl⟩ (hl.push _) hne hn fun h' tk acc c' hk hS hi => ?_
  have kk : ∀ b o, s1.heap.get? b = some o → h'.get? b = some o := fun b o e => hk b o (Nat.ne_of_lt (Heap.lt_size e)) (k0 b o e)
  have hn' : H1 (s1.heap.push (revObj a ((its.toArray.size : Int) - 1))).objs.size = none := I1.hok.fresh (by rw [Heap.size_push]; exact Nat.le_succ _)
  refine ⟨.ref _, upd H1 _ (.lst xs.reverse), I1.drained (s' := { s1 with heap := h', toks := tk }) (ex := []) (by rw [Heap.size_push]; exact Nat.le_succ _) (by rw [List.length_reverse]; exact hz) hS (RT.vals_rev rv hi) ExOk.nil rfl I1.bare (Un.kept kk) (I1.hok.kept kk) hn', rfl, q _ hn'⟩
end

/-! ### by value -/
section
variable {X : Cx} {R : Root τ} {e : Expr} {we : WE} {p p2 pos pos2 ap : Pos} {x : Str} {i : Nat}
/-- list(reversed(o)) -/
@[simp ↓] def wLstRev (wo : WO) : WF := fun env Q => wo env fun o e1 => res e1 o fun d => match d with
  | .list ds => Q (.ol ds.reverse) e1
  | _ => False
theorem cf_listRev {wo : WO} (hc : X.calm = true) (hg : Gl X "list") (hm : X.mg "list" = none) (hg2 : Gl X "reversed") (hm2 : X.mg "reversed" = none) (he : CO X R e wo)
    (hs : starEach [e] X.env = (false, eval e X.env) :: starEach [] X.env := by rfl)
    (hs2 : starEach [.Call (.Name "reversed" p2) [e] [] pos2] X.env = (false, eval (.Call (.Name "reversed" p2) [e] [] pos2) X.env) :: starEach [] X.env := by rfl) :
    CF X R (.Call (.Name "list" p) [.Call (.Name "reversed" p2) [e] [] pos2] [] pos) (wLstRev wo) := pe_imp (pe_listRev hc hg hm hg2 hm2 he hs hs2) fun σ H Q ⟨F, env, Qw, r, w, k⟩ =>
  ⟨F, env, _, r, w, fun F1 e1 H1 x o f1 r1 p1 w1 => by
    obtain ⟨d, hd, w2⟩ := res_ok r1 p1 w1
    cases d with
    | list ds =>
      obtain ⟨a, xs, rfl, h1, l⟩ := hd.lst r1.sub
      refine ⟨a, xs, rfl, .inl (.inl h1), fun q hq => ?_⟩
      obtain ⟨r2, p2, fr⟩ := new_ol r1 hq l.reverse
      exact k F1 e1 _ _ _ f1 r2 p2 fr w2
    | _ => cases w2⟩
/-- an owned thing handed on: return xs -/
@[simp ↓] def wMove (i : Nat) : WF := fun env Q => match env[i]? with
  | some (some (.fz d)) => Q (.fz d) env
  | some (some (.ol ds)) => Q (.ol ds) (env.set i none)
  | some (some (.od ds)) => Q (.od ds) (env.set i none)
  | some (some (.ot ds)) => Q (.ot ds) (env.set i none)
  | _ => False
theorem cf_move (h : PE X (.Name x p) (tVar i)) : CF X R (.Name x p) (wMove i) := by
  refine pe_imp h fun σ H Q ⟨F, env, Qw, r, w, k⟩ => ?_
  unfold wMove at w
  cases e : env[i]? with
  | none => rw [e] at w; cases w
  | some o =>
    rw [e] at w
    cases o with
    | none => cases w
    | some s =>
      obtain ⟨v, h1, h2⟩ := r.sl i _ e
      have fr : ∀ (s' : Slot), s.owns = true → Fresh (env.set i none) σ v s' := fun s' os _ j t a e2 ot e3 z => by
        subst z
        rcases list_ix_set e2 with ⟨_, q⟩ | ⟨hj, q⟩
        · cases q
        · exact r.dis i j s t a (Ne.symm hj) e os q ot h1 e3
      cases s with
      | fz d => exact ⟨v, h1, k F env H v (.fz d) (Same.refl F) r h2 fresh_fz w⟩
      | ol ds => exact ⟨v, h1, k F _ H v (.ol ds) (Same.refl F) r.drop h2 (fr _ rfl) w⟩
      | od ds => exact ⟨v, h1, k F _ H v (.od ds) (Same.refl F) r.drop h2 (fr _ rfl) w⟩
      | ot ds => exact ⟨v, h1, k F _ H v (.ot ds) (Same.refl F) r.drop h2 (fr _ rfl) w⟩
      | dr => cases w
      | sc _ => cases w
      | ex _ => cases w
/-- xs.append(e) -/
@[simp ↓] def wAppE (i : Nat) (we : WE) : WE := fun env Q => (∃ ds0, env[i]? = some (some (.ol ds0))) ∧ we env fun y e1 => match e1[i]? with
  | some (some (.ol ds)) => ds.length < sizeLine ∧ Q .none (e1.set i (some (.ol (ds ++ [y]))))
  | _ => False
theorem ol_at {K : PySem.W.Frag} {F H : Hp} {env : PEnv} {σ : L2.St} {ds : List PyData} (r : Rel K R F env σ H) (h : env[i]? = some (some (.ol ds))) : ∃ a xs, σ[i]? = some (some (.ref a)) ∧ Own R F a ∧ H a = some (.lst xs) ∧ RpL K F xs ds := by
  obtain ⟨v, h1, a, xs, rfl, h2⟩ := r.sl i _ h
  exact ⟨a, xs, h1, h2⟩
theorem ol_write {K : PySem.W.Frag} {F H : Hp} {env : PEnv} {σ : L2.St} {ds es : List PyData} {a : Addr} {xs ys : List V} (r : Rel K R F env σ H) (h : env[i]? = some (some (.ol ds))) (hx : σ[i]? = some (some (.ref a))) (ow : Own R F a) (ha : H a = some (.lst xs)) (l : RpL K F ys es) :
    Rel K R F (env.set i (some (.ol es))) σ (upd H a (.lst ys)) :=
  r.write h rfl rfl hx ha ow.1 ow.2.2 (.inl ow.2.1) rfl (fun hd => by
    obtain ⟨_, ⟨o, ho⟩, _⟩ := r.drw a hd
    rw [ow.2.1] at ho; cases ho) ⟨a, ys, rfl, ow, upd_same, l⟩
theorem ce_append (h : PE X (.Name x p) (tVar i)) (he : CE X R e we)
    (hbase : attributeBase (.Name x p) "append" X.env (eval (.Name x p) X.env) = eval (.Name x p) X.env := by rfl)
    (hfew : ((backTo pos (starEach [e] X.env)).all (fun x => !x.1) && (backToKw pos (keywordEach [] X.env)).all (fun x => x.1.isSome)
      && decide ([e].length + ([] : List Keyword).length + (if ([] : List Keyword).isEmpty then 0 else 1) < 30)) = true := by rfl)
    (hline : (ap.endLine == pos.line) = true := by rfl) (hs : starEach [e] X.env = (false, eval e X.env) :: starEach [] X.env := by rfl) (hplain : (backTo pos (starEach [] X.env)).any (·.1) = false := by rfl) :
    CE X R (.Call (.Attribute (.Name x p) "append" ap) [e] [] pos) (wAppE i we) :=
  pe_imp (pe_bm PySem.F.plainAttrs_list PySem.F.slot_list_append PySem.F.type_list_append mt_append h (ca_cons he ca_nil hs) hbase hfew hline hs hplain) fun σ H Q ⟨F, env, Qw, r, ⟨⟨ds0, h0⟩, w⟩, k⟩ => by
    obtain ⟨a, xs0, h1, ow0, h2, l0⟩ := ol_at r h0
    refine ⟨_, h1, .inl ⟨rfl, xs0, .inl (.inl h2)⟩, F, env, fun ds e2 => match ds with
      | [y] => match e2[i]? with
        | some (some (.ol ds)) => ds.length < sizeLine ∧ Qw .none (e2.set i (some (.ol (ds ++ [y]))))
        | _ => False
      | _ => False, r, w, fun F1 e1 H1 ys ds f1 r1 p1 w1 => ?_⟩
    match ds, p1, w1 with
    | [d], .cons (v := y) q1 q2, w1 =>
      cases q2
      have w1 : (match e1[i]? with
        | some (some (.ol ds)) => ds.length < sizeLine ∧ Qw .none (e1.set i (some (.ol (ds ++ [d]))))
        | _ => False) := w1
      cases q : e1[i]? with
      | none => rw [q] at w1; cases w1
      | some o =>
        rw [q] at w1
        cases o with
        | none => cases w1
        | some sl =>
          cases sl with
          | ol ds =>
            obtain ⟨hz, w2⟩ := w1
            obtain ⟨a', xs, h3, ow, h4, l⟩ := ol_at r1 q
            rw [h1] at h3; cases h3
            refine ⟨a, xs, y, rfl, rfl, h4, by rw [l.length]; exact hz, ?_⟩
            exact k F1 _ _ .non .none f1 (ol_write r1 q h1 ow h4 (l.append (.cons q1 .nil))) .non w2
          | _ => cases w1
/-- xs.extend(e), e a list -/
@[simp ↓] def wExtM (i : Nat) (Q : PyData → PEnv → Prop) (y : PyData) (e1 : PEnv) : Prop := match e1[i]?, y with
  | some (some (.ol ds)), .list es => ds.length + es.length ≤ sizeLine ∧ Q .none (e1.set i (some (.ol (ds ++ es))))
  | _, _ => False
theorem wExtM_at {Q : PyData → PEnv → Prop} {y : PyData} {e1 : PEnv} (w : wExtM i Q y e1) : ∃ ds es, e1[i]? = some (some (.ol ds)) ∧ y = .list es ∧ ds.length + es.length ≤ sizeLine ∧ Q .none (e1.set i (some (.ol (ds ++ es)))) := by
  unfold wExtM at w
  split at w
  · exact ⟨_, _, by assumption, rfl, w⟩
  · cases w
@[simp ↓] def wExtE (i : Nat) (we : WE) : WE := fun env Q => (∃ ds0, env[i]? = some (some (.ol ds0))) ∧ we env fun y e1 => wExtM i Q y e1
theorem ce_extend (h : PE X (.Name x p) (tVar i)) (he : CE X R e we)
    (hbase : attributeBase (.Name x p) "extend" X.env (eval (.Name x p) X.env) = eval (.Name x p) X.env := by rfl)
    (hfew : ((backTo pos (starEach [e] X.env)).all (fun x => !x.1) && (backToKw pos (keywordEach [] X.env)).all (fun x => x.1.isSome)
      && decide ([e].length + ([] : List Keyword).length + (if ([] : List Keyword).isEmpty then 0 else 1) < 30)) = true := by rfl)
    (hline : (ap.endLine == pos.line) = true := by rfl) (hs : starEach [e] X.env = (false, eval e X.env) :: starEach [] X.env := by rfl) (hplain : (backTo pos (starEach [] X.env)).any (·.1) = false := by rfl) :
    CE X R (.Call (.Attribute (.Name x p) "extend" ap) [e] [] pos) (wExtE i we) :=
  pe_imp (pe_bm PySem.F.plainAttrs_list PySem.F.slot_list_extend PySem.F.type_list_extend mt_extend h (ca_cons he ca_nil hs) hbase hfew hline hs hplain) fun σ H Q ⟨F, env, Qw, r, ⟨⟨ds0, h0⟩, w⟩, k⟩ => by
    obtain ⟨a, xs0, h1, ow0, h2, l0⟩ := ol_at r h0
    refine ⟨_, h1, .inl ⟨rfl, xs0, .inl (.inl h2)⟩, F, env, fun ds e2 => match ds with
      | [y] => wExtM i Qw y e2
      | _ => False, r, w, fun F1 e1 H1 ys ds f1 r1 p1 w1 => ?_⟩
    match ds, p1, w1 with
    | [d], .cons (v := y) q1 q2, w1 =>
      cases q2
      obtain ⟨ds, es, q, ed, hz, w2⟩ := wExtM_at (show wExtM i Qw d e1 from w1)
      subst ed
      obtain ⟨a', xs, h3, ow, h4, l⟩ := ol_at r1 q
      rw [h1] at h3; cases h3
      cases q1 with
      | lst q1 l2 =>
        refine ⟨a, _, xs, _, rfl, rfl, h4, r1.sub _ _ q1, by rw [l.length, l2.length]; exact hz, ?_⟩
        exact k F1 _ _ .non .none f1 (ol_write r1 q h1 ow h4 (l.append l2)) .non w2
/-- xs.pop() -/
@[simp ↓] def wPopE (i : Nat) : WE := fun env Q => match env[i]? with
  | some (some (.ol ds)) => ∃ y, ds[ds.length - 1]? = some y ∧ Q y (env.set i (some (.ol ds.dropLast)))
  | _ => False
theorem rpL_dropLast {K : PySem.W.Frag} {F : Hp} : ∀ {xs : List V} {ds : List PyData}, RpL K F xs ds → RpL K F xs.dropLast ds.dropLast
  | _, _, .nil => .nil
  | _, _, .cons _ .nil => .nil
  | _, _, .cons a (.cons b t) => .cons a (rpL_dropLast (.cons b t))
theorem ce_pop (h : PE X (.Name x p) (tVar i)) (hbase : attributeBase (.Name x p) "pop" X.env (eval (.Name x p) X.env) = eval (.Name x p) X.env := by rfl) (hline : (ap.endLine == pos.line) = true := by rfl) :
    CE X R (.Call (.Attribute (.Name x p) "pop" ap) [] [] pos) (wPopE i) :=
  pe_imp (pe_bm0 PySem.F.plainAttrs_list PySem.F.slot_list_pop PySem.F.type_list_pop mt_pop h hbase hline) fun σ H Q ⟨F, env, Qw, r, w, k⟩ => by
    unfold wPopE at w
    cases q : env[i]? with
    | none => rw [q] at w; cases w
    | some o =>
      rw [q] at w
      cases o with
      | none => cases w
      | some sl =>
        cases sl with
        | ol ds =>
          obtain ⟨y, hy, w2⟩ := w
          obtain ⟨a, xs, h1, ow, h2, l⟩ := ol_at r q
          obtain ⟨v, hv, rv⟩ := l.get' hy
          refine ⟨_, h1, .inl ⟨rfl, xs, .inl (.inl h2)⟩, a, xs, v, rfl, rfl, h2, by rw [l.length]; exact hv, ?_⟩
          exact k F _ _ v y (Same.refl F) (ol_write r q h1 ow h2 (rpL_dropLast l)) rv w2
        | _ => cases w
/-- xs[k] = .. -/
@[simp ↓] def wSubM (i : Nat) (d : PyData) (Q : PEnv → Prop) (y : PyData) (e1 : PEnv) : Prop := match e1[i]?, y with
  | some (some (.ol ds)), .int k => ∃ j, ixN ds.length k = some j ∧ Q (e1.set i (some (.ol (ds.set j d))))
  | _, _ => False
theorem wSubM_at {d : PyData} {Q : PEnv → Prop} {y : PyData} {e1 : PEnv} (w : wSubM i d Q y e1) : ∃ ds k j, e1[i]? = some (some (.ol ds)) ∧ y = .int k ∧ ixN ds.length k = some j ∧ Q (e1.set i (some (.ol (ds.set j d)))) := by
  unfold wSubM at w
  split at w
  · obtain ⟨j, h1, h2⟩ := w
    exact ⟨_, _, j, by assumption, rfl, h1, h2⟩
  · cases w
@[simp ↓] def wgSub (i : Nat) (wi : WE) : WG := fun d env Q => (∃ ds0, env[i]? = some (some (.ol ds0))) ∧ wi env fun y e1 => wSubM i d Q y e1
theorem cg_sub {vs : List Nat} {e : Expr} (h : PE X (.Name x p) (tVar i)) (he : CE X R e we)
    (ha : ∀ v, assign (.Subscript (.Name x p) e pos) X.env v = (do
      let ov ← holding [v] (eval (.Name x p) X.env)
      let iv ← holding [v, ov] (eval e X.env)
      standAt pos
      holding [v, ov, iv] (setItem ov iv v)
      release [v, ov, iv] []) := by intro _; rfl) : CG X R vs (.Subscript (.Name x p) e pos) (wgSub i we) :=
  pg_imp (pg_sub h he set_list ha) fun v σ H Q ⟨F, env, Qw, d, r, pd, ⟨⟨ds0, h0⟩, w⟩, k⟩ => by
    obtain ⟨a, xs0, h1, ow0, h2, l0⟩ := ol_at r h0
    refine ⟨_, h1, F, env, _, r, w, fun F1 e1 H1 y dy f1 r1 p1 w1 => ?_⟩
    obtain ⟨ds, kk, j, q, ed, hj, w2⟩ := wSubM_at w1
    subst ed
    obtain ⟨a', xs, h3, ow, h4, l⟩ := ol_at r1 q
    rw [h1] at h3; cases h3
    cases p1
    refine ⟨a, xs, kk, j, rfl, rfl, h4, by rw [l.length]; exact hj, ?_⟩
    exact k F1 _ σ _ f1 (ol_write r1 q h1 ow h4 (l.set (rp_mono f1 _ _ pd) j)) (Chg.refl _ _) w2
end
/-! ### the script -/
section
variable {X : Cx} {R : Root τ} {tg : Expr} {p pos p2 pos2 : Pos} {x : Str} {i : Nat}
theorem sc_at {K : PySem.W.Frag} {F H : Hp} {env : PEnv} {σ : L2.St} {ns : List Int} (r : Rel K R F env σ H) (h : env[i]? = some (some (.sc ns))) : ∃ a, σ[i]? = some (some (.ref a)) ∧ SqL K F a (ns.map V.int) := by
  obtain ⟨v, h1, a, rfl, h2⟩ := r.sl i _ h
  exact ⟨a, h1, h2⟩
@[simp ↓] def wSc (i : Nat) (f : List Int → PEnv → Prop) (env : PEnv) : Prop := match env[i]? with
  | some (some (.sc ns)) => f ns env
  | _ => False
theorem wSc_at {f : List Int → PEnv → Prop} {env : PEnv} (w : wSc i f env) : ∃ ns, env[i]? = some (some (.sc ns)) ∧ f ns env := by
  unfold wSc at w
  split at w
  · exact ⟨_, by assumption, w⟩
  · cases w
/-- for cell in script -/
@[simp ↓] def wiSc (i : Nat) : WI := fun env Q => wSc i (fun ns e => Q (ns.map .int) e) env
theorem yl_seq {K : PySem.W.Frag} {F : Hp} {a : Addr} {xs : List V} {ds : List PyData} (h : SqL K F a xs) (l : RpL K F xs ds) : Yl K F (Itl K a) ds where
  go := fun R F1 env σ H i d f r e => by
    obtain ⟨x, hx, px⟩ := l.get' e
    refine ⟨⟨xs, x, (f.trans r.sub).seq h, hx⟩, fun y H' hy => ?_⟩
    obtain ⟨e1, hy⟩ := hy
    subst e1
    have := hy xs ((f.trans r.sub).seq h)
    rw [hx] at this; cases this
    exact ⟨F1, Same.refl _, r, rp_mono f _ _ px⟩
  stop := fun R F1 env σ H f r => ⟨xs, (f.trans r.sub).seq h, by rw [l.length]; exact Nat.le_refl _⟩
theorem ci_sc (h : PE X (.Name x p) (tVar i)) : CI X R tg (.Name x p) (wiSc i) := pi_imp (pi_seq h) fun σ H Rk ⟨F, env, Qw, r, w, k⟩ => by
  obtain ⟨ns, hi, w⟩ := wSc_at w
  obtain ⟨a, h1, h2⟩ := sc_at r hi
  exact ⟨_, h1, a, rfl, .inl ⟨_, r.sub.seq h2, k F env H (Itl X.K a) _ (Same.refl F) r (yl_seq h2 (rpL_ints ns)) w⟩⟩
/-- len(script) -/
@[simp ↓] def wLenSc (i : Nat) : WE := fun env Q => wSc i (fun ns e => Q (.int (ns.length : Nat)) e) env
theorem ce_lenSc (hg : Gl X "len") (hm : X.mg "len" = none) (h : PE X (.Name x p) (tVar i)) (he : starEach [.Name x p] X.env = (false, eval (.Name x p) X.env) :: starEach [] X.env := by rfl) :
    CE X R (.Call (.Name "len" p2) [.Name x p] [] pos2) (wLenSc i) :=
  pe_imp (pe_callB call_len hg hm boot_len (pa_cons h pa_nil he)) fun σ H Q ⟨F, env, Qw, r, w, k⟩ => by
    obtain ⟨ns, hi, w⟩ := wSc_at w
    obtain ⟨a, h1, h2⟩ := sc_at r hi
    exact ⟨_, h1, _, ns.length, rfl, .inl ⟨_, r.sub.seq h2, by rw [List.length_map]⟩, k F env H _ _ (Same.refl F) r (.int _) w⟩
/-- script[e] -/
@[simp ↓] def wIxSc (i : Nat) (we : WE) : WE := fun env Q => wSc i (fun ns e => we e fun y e1 => match y with
  | .int j => ∃ z, atI ns j = some z ∧ Q (.int z) e1
  | _ => False) env
theorem ce_ixSc {b : Expr} {we : WE} (h : PE X (.Name x p) (tVar i)) (hb : CE X R b we) (hs : PlainIx b) : CE X R (.Subscript (.Name x p) b pos) (wIxSc i we) :=
  pe_imp (pe_ix ix_list h hb hs) fun σ H Q ⟨F, env, Qw, r, w, k⟩ => by
    obtain ⟨ns, hi, w⟩ := wSc_at w
    obtain ⟨a, h1, h2⟩ := sc_at r hi
    refine ⟨_, h1, F, env, _, r, w, fun F1 e1 H1 y dy f1 r1 p1 w1 => ?_⟩
    cases dy with
    | int j =>
      obtain ⟨z, hz, w2⟩ := w1
      cases p1
      obtain ⟨jj, v, e1', e2, e3⟩ := atI_len (xs := ns.map V.int) (ys := ns) (by rw [List.length_map]) hz
      rw [List.getElem?_map, e3] at e2
      cases e2
      exact ⟨a, _, j, .int z, rfl, rfl, (f1.trans r1.sub).seq h2, e1', k F1 e1 H1 _ _ f1 r1 (.int z) w2⟩
    | _ => cases w1
/-- script[lo:hi] -/
@[simp ↓] def wSlSc (i : Nat) (wl wh : WOp) : WF := fun env Q => wSc i (fun ns e => wl e fun l e2 => wh e2 fun h e3 => Q (.ol (cutD (ns.map .int) l h)) e3) env
theorem cf_slSc {wl wh : WOp} {lo hi : Option Expr} (h : PE X (.Name x p) (tVar i)) (hl : CP X R lo wl) (hh : CP X R hi wh) : CF X R (.Subscript (.Name x p) (.Slice lo hi none p2) pos) (wSlSc i wl wh) :=
  pe_imp (pe_slice sl_list h hl hh) fun σ H Q ⟨F, env, Qw, r, w, k⟩ => by
    obtain ⟨ns, hi, w⟩ := wSc_at w
    obtain ⟨a, h1, h2⟩ := sc_at r hi
    refine ⟨_, h1, F, env, _, r, w, fun F2 e2 H2 l f2 r2 w2 => ⟨F2, e2, _, r2, w2, fun F3 e3 H3 h f3 r3 w3 => ?_⟩⟩
    refine ⟨a, _, rfl, (f2.trans (f3.trans r3.sub)).seq h2, fun p hp => ?_⟩
    obtain ⟨r4, p4, fr⟩ := new_ol r3 hp (rpL_cut (rpL_ints ns) l h)
    exact k F3 e3 _ _ _ (f2.trans f3) r4 p4 fr w3
end
end VL
set_option Elab.async false
set_option linter.all false
set_option maxRecDepth 100000
set_option maxHeartbeats 1000000
/-! VL11: enumerate over lists and tuples. -/
namespace VL
open PySem PySem.Spec PyProof.Rows L2
variable {τ : Tau}
section
variable {prog : Program} {w : World} {A : Around} {E : Value → Shared → Prop} {s : Shared}
theorem nextOf_tup_item {it t : Addr} {i : Nat} {items : Array Value} {x : Value} {Q : Value → Shared → Prop} (hit : IsTupIter s.heap it t i) (ht : IsTup s.heap t items) (hx : items[i]? = some x)
    (hQ : ∀ h', IsTupIter h' it t (i + 1) → Heap.SameBut it s.heap h' → Q x { s with heap := h' }) : wpAny (model prog w) A (Builtin.SmallTypes.nextOf (.ref it)) Q E s := by
  unfold Builtin.SmallTypes.nextOf
  exact wpAny_bind (special_tup_item hit ht hx fun h' a b => wpAny_pure (hQ h' a b))
theorem nextOf_tup_end {it t : Addr} {i : Nat} {items : Array Value} {Q : Value → Shared → Prop} (hh : A.handled = none) (hit : IsTupIter s.heap it t i) (ht : IsTup s.heap t items) (hx : items[i]? = none)
    (hE : ∀ h' e, Heap.ExtBut it s.heap h' → (∃ o, h'.get? e = some o ∧ o.cls = .type "StopIteration") → E (.ref e) { s with heap := h' }) :
    wpAny (model prog w) A (Builtin.SmallTypes.nextOf (.ref it)) Q E s := by
  obtain ⟨o, ho, hc, hd⟩ := id hit
  obtain ⟨ol, hol, _, nl, hdl⟩ := ht
  unfold Builtin.SmallTypes.nextOf
  refine wpAny_bind (wpAny_callSpecial?_slot (name := Str.ofString "__next__") hit.typeIs slot_tupleiter_next
    (wpAny_call_entry slot_tupleiter_next hit.typeIs entry_tupleiter_next ?_ (args_tupleiter_next _)))
  show wpAny _ _ (field (.ref it) 0 >>= _) _ _ s
  refine wpAny_bind (wpAny_field ho hd (x := .ref t) rfl ?_)
  show wpAny _ _ (if (Value.ref t == Value.none) = true then _ else _) _ _ s
  rw [if_neg (show ¬ ((Value.ref t == Value.none) = true) from Bool.false_ne_true)]
  show wpAny _ _ (field (.ref it) 1 >>= _) _ _ s
  refine wpAny_bind (wpAny_field ho hd (x := .int i 0) rfl ?_)
  show wpAny _ _ (seqItems? (.ref t) >>= _) _ _ s
  refine wpAny_bind (wpAny_seqItems hol hdl ?_)
  simp only [Int.toNat_natCast, hx]
  refine wpAny_bind (wpAny_rule (wpAny_bind (wpAny_setField ho hd (by simp) ?_)))
  show wpAny _ _ (newExc (.type "StopIteration") [] >>= _) _ _ _
  refine wpAny_bind ?_
  simp only [newExc, newTuple]
  refine wpAny_bind (wpAny_newObj_type ?_ (by size_fits))
  refine wpAny_bind (m := firstArgMember _ _) (wpAny_of_eq (a := Value.none) (by first | rfl | (simp only [firstArgMember]; rfl)) ?_)
  refine wpAny_newObj_type ?_ (by size_fits)
  simp only [raiseNew]
  refine wpAny_bind (wpAny_handled ?_)
  first | rw [show A.in1.handled = none from hh] | rw [hh]
  refine wpAny_bind (wpAny_pure (wpAny_throw ?_))
  exact hE _ _ (((Heap.SameBut.update ..).extBut.push _).push _) ⟨_, Heap.get?_push_size _ rfl, rfl⟩
theorem pyNext_enumT_end {e it l : Addr} {i : Nat} {items : Array Value} {old : Value} {Q : Option Value → Shared → Prop} (hh : A.handled = none)
    (he : IsEnum s.heap e it i old) (hit : IsTupIter s.heap it l i) (hl : IsTup s.heap l items) (hx : items[i]? = none)
    (hQ : ∀ h', Heap.ExtBut it s.heap h' → Q none { s with heap := h' }) : wpAny (model prog w) A (pyNext (.ref e)) Q E s := by
  have hT : s.TypeIs (.ref e) "enumerate" := ⟨_, he, rfl⟩
  unfold pyNext
  refine wpAny_bind (wpAny_attempt (wpAny_callSpecial?_slot (name := Str.ofString "__next__") hT F.slot_enumerate_next
    (wpAny_call_entry F.slot_enumerate_next hT F.entry_enumerate_next ?_ (F.args_enumerate_next_1 _))))
  show wpAny _ _ (field (.ref e) 2 >>= _) _ _ _
  refine wpAny_bind (wpAny_field he rfl (x := .ref it) rfl ?_)
  refine wpAny_bind (nextOf_tup_end (A := A.in1) hh hit hl hx fun h' x he' hx' => ?_)
  obtain ⟨o, ho, hc⟩ := hx'
  refine wpAny_bind (wpAny_isInstance (T := "StopIteration") (b := true) ⟨o, ho, hc⟩ isSubtype_stop ?_)
  exact wpAny_pure (hQ _ he')
theorem draws_tup (hh : A.handled = none) (it t : Addr) (hne : t ≠ it) (items : Array Value) :
    Draws prog w A it [it, t] items.size (fun i v => items[i]? = some v) (fun i h => IsTupIter h it t i ∧ IsTup h t items) where
  live := fun _ _ st => let ⟨o, ho, _⟩ := st.1; ⟨o, ho⟩
  frame := fun _ _ _ st hk => ⟨let ⟨o, ho, r⟩ := st.1; ⟨o, hk it (by simp) o ho, r⟩, let ⟨o, ho, r⟩ := st.2; ⟨o, hk t (by simp) o ho, r⟩⟩
  item := fun i s Q E hi st hQ => by
    refine nextOf_tup_item st.1 st.2 (x := items[i]) (by simp [hi]) fun h' hit' hs' => ?_
    exact hQ _ h' s.toks (by simp [hi]) ⟨hit', st.2.extBut hs'.extBut hne⟩ hs'
  done := fun s Q E st hE => nextOf_tup_end hh st.1 st.2 (by simp) hE
theorem meets_enumerate_newT (l : Addr) (items : Array Value) (n : Nat) (dct : Option Addr) (sl : Array (Option Value)) :
    Meets (Builtin.«enumerate.__new__» ⟨[.type "enumerate", .ref l], []⟩) (fun _ R s => s.heap.get? l = some { cls := .type "tuple", dict := dct, data := .seq items n, slots := sl } ∧
      R (.ok (.ret (.ref (s.heap.push { cls := .type "tuple_iterator", data := .fields #[.ref l, .int 0 0] }).objs.size)))
        { s with heap := (s.heap.push { cls := .type "tuple_iterator", data := .fields #[.ref l, .int 0 0] }).push { cls := .type "enumerate", data := .fields #[.none, .bool false, .ref s.heap.objs.size, rawInt 0, .none, .none] } }) :=
  .of_wp fun prog w A R s h => by
    obtain ⟨hp, g, d, tk, os⟩ := s; obtain ⟨hl, h⟩ := h
    have hsub := sub_enumerate
    have hL : Heap.IsTuple (Shared.heap ⟨hp, g, d, tk, os⟩) l items := ⟨_, hl, rfl, n, rfl⟩
    wp_walk using AutoSeq1.wpAny_loadPart' hl
    refine wpAny_stack_any fun st => wpAny_pure ?_
    split
    · rename_i c _ _ _ _ _
      cases (c == Value.type "enumerate")
      · wp_walk using AutoSeq1.wpAny_loadPart' hl, wpAny_pyIter_tuple hL
        exact ⟨_, rfl, h⟩
      · wp_walk using AutoSeq1.wpAny_loadPart' hl, wpAny_pyIter_tuple hL
        exact ⟨_, rfl, h⟩
    · wp_walk using AutoSeq1.wpAny_loadPart' hl, wpAny_pyIter_tuple hL
      exact ⟨_, rfl, h⟩
theorem call_enumerate_tup {l : Addr} {items : Array Value} {Q : Value → Shared → Prop} (hL : IsTup s.heap l items)
    (h : ∀ h', IsEnum h' (s.heap.objs.size + 1) s.heap.objs.size 0 .none → IsTupIter h' s.heap.objs.size l 0 → h'.objs.size = s.heap.objs.size + 2 →
      (∀ b o, s.heap.get? b = some o → h'.get? b = some o) → Q (.ref (s.heap.objs.size + 1)) { s with heap := h' }) :
    wpAny (model prog w) A (call (.type "enumerate") [.ref l]) Q E s := by
  obtain ⟨⟨c, dct, dt, sl⟩, hl, hc, n, hd⟩ := hL
  replace hc : c = .type "tuple" := hc
  replace hd : dt = .seq items n := hd
  subst hc hd
  refine callType_new F.called_enumerate (by decide) (F.typeCall_enumerate_1 _) (F.newCall_enumerate_1 _) (fun obj => F.args_object_init_2 obj _) F.entry_enumerate_new
    (meets_enumerate_newT l items n dct sl) ⟨hl, ?_⟩
  have hz : (s.heap.push { cls := .type "tuple_iterator", data := .fields #[.ref l, .int 0 0] }).objs.size = s.heap.objs.size + 1 := Heap.size_push ..
  show _ ∧ _
  rw [hz]
  have he : IsEnum ((s.heap.push { cls := .type "tuple_iterator", data := .fields #[.ref l, .int 0 0] }).push
      { cls := .type "enumerate", data := .fields #[.none, .bool false, .ref s.heap.objs.size, rawInt 0, .none, .none] }) (s.heap.objs.size + 1) s.heap.objs.size 0 .none := by
    have := Heap.get?_push_size (s.heap.push { cls := .type "tuple_iterator", data := .fields #[.ref l, .int 0 0] })
      (o := { cls := .type "enumerate", data := .fields #[.none, .bool false, .ref s.heap.objs.size, rawInt 0, .none, .none] }) rfl
    rw [hz] at this; exact this
  refine ⟨⟨_, he, rfl⟩, h _ he ⟨_, Heap.get?_push_of_some _ (Heap.get?_push_size _ rfl), rfl, rfl⟩ (by rw [Heap.size_push, hz]) fun b o x => Heap.get?_push_of_some _ (Heap.get?_push_of_some _ x)⟩
end
/-- the tuple at a, each item in a new pair -/
def Iet (K : PySem.W.Frag) (a : Addr) : It :=
  ⟨fun i H => ∃ (xs : List V) (x : V), SqT K H a xs ∧ xs[i]? = some x, fun i H v H' => ∃ T x, v = .ref T ∧ H T = none ∧ H' = upd H T (.tup [.int (i : Nat), x]) ∧ ∀ xs, SqT K H a xs → xs[i]? = some x, fun i H => ∃ xs : List V, SqT K H a xs ∧ xs.length ≤ i⟩
theorem turn_enumT {P : Program} {w : World} {K : PySem.W.Frag} {elts : List Expr} {kk : Nat} {tpos : Pos} (a e it : Addr) :
    Turn P w K (.Tuple elts kk tpos) (Iet K a) [e, it] e (fun i h => (∃ old, IsEnum h e it ((i : Nat) : Int) old) ∧ IsTupIter h it a i ∧ e ≠ it) where
  mem := by simp
  obj := fun i h st b hb => by
    obtain ⟨⟨old, he⟩, ⟨o, ho, hc, hd⟩, _⟩ := st
    have e' : b = e ∨ b = it := by simpa using hb
    rcases e' with z | z
    · rw [z]; exact ⟨_, he, fun v q => nomatch q⟩
    · rw [z]; exact ⟨o, ho, fun v q => by rw [hd] at q; cases q⟩
  keep := fun i h h' st k => let ⟨⟨old, he⟩, ⟨o, ho, r⟩, hne⟩ := st; ⟨⟨old, k e (by simp) _ he⟩, ⟨o, k it (by simp) o ho, r⟩, hne⟩
  item := by
    intro X hP hw hK hc i pins s σ H E I hf st hg
    subst hP hw hK
    obtain ⟨⟨old, he⟩, hit, hne⟩ := st
    obtain ⟨xs, x, hq, hx⟩ := hg
    obtain ⟨its, rv, p, hz⟩ := I.tuple hq
    obtain ⟨u, hu, ru⟩ := rv.get hx
    have hel : e < s.heap.objs.size := Heap.lt_size he
    have hil : it < s.heap.objs.size := by obtain ⟨_, q, _⟩ := hit; exact Heap.lt_size q
    have hai : a ≠ it := fun z => by
      obtain ⟨o, e1, c1, _⟩ := id p
      obtain ⟨o2, e2, c2, _⟩ := id hit
      rw [z, e2] at e1; cases e1
      exact absurd (Value.type.inj (c1.symm.trans c2)) (by decide)
    have hea : e ∉ [it, a] := fun hm => by
      rcases List.mem_cons.mp hm with z | z
      · exact hne z
      · rw [List.mem_singleton] at z
        obtain ⟨o, e1, c1, _⟩ := id p
        rw [← z] at e1
        have he' : s.heap.get? e = some _ := he
        rw [he'] at e1; cases e1; exact absurd (Value.type.inj c1) (by decide)
    refine wpAny_pyNext_enum_itemD (draws_tup (A := X.A.in1) (I.ok.hd hc) it a hai its.toArray) he ⟨hit, p⟩ (by rw [List.size_toArray]; exact (List.getElem?_eq_some_iff.mp hu).1) hne hea fun u' h' tk hu' ho hit' hT hsz hk => ?_
    have e1 : u' = u := by
      have : its.toArray[i]? = some u := by simpa using hu
      rw [this] at hu'; exact (Option.some.inj hu').symm
    subst e1
    refine ⟨_, rfl, wpAny_letOwnedTupleGo_enum (s := { s with heap := h', toks := tk + 1 }) ho fun h'' he' sb => ?_⟩
    have hT2 : h''.get? s.heap.objs.size = some { cls := .type "tuple", data := .seq #[.int i tk, u'] } := (sb.2 _ (Nat.ne_of_gt hel)).trans hT
    have new : ObjOk X.prog X.w (upd H s.heap.objs.size (.tup [.int (i : Nat), x])) h'' s.heap.objs.size (.tup [.int (i : Nat), x]) :=
      ⟨by show 2 ≤ sizeLine; decide, [.int i tk, u'], .cons ⟨_, rfl⟩ (.cons ru .nil), ⟨_, hT2, rfl, _, rfl⟩⟩
    have I1 : Inv X pins σ (upd H s.heap.objs.size (.tup [.int (i : Nat), x])) { s with heap := h'', toks := tk + 1 } :=
      I.turnedNew (ch := [e, it]) (fun b ob hb q => (sb.2 b (fun z => hb (by simp [z]))).trans (hk b ob (fun z => hb (by simp [z])) (fun z => hb (by simp [z])) q)) hf (Nat.le_refl _) new
    refine ⟨.ref s.heap.objs.size, _, I1, rfl, ⟨_, x, rfl, I.hok.fresh (Nat.le_refl _), rfl, fun ys hy => by rw [I.tuple_inj hy hq]; exact hx⟩, ⟨⟨u', ?_⟩, ?_, hne⟩, fun b hb => ?_⟩
    · have e1 : ((i + 1 : Nat) : Int) = (i : Int) + 1 := by omega
      rw [e1]; exact he'
    · obtain ⟨o, ho2, r⟩ := hit'.1
      exact ⟨o, (sb.2 it (Ne.symm hne)).trans ho2, r⟩
    · have hb' : b < s.heap.objs.size := by
        have e' : b = e ∨ b = it := by simpa using hb
        rcases e' with z | z
        · rw [z]; exact hel
        · rw [z]; exact hil
      rw [upd_ne (Nat.ne_of_lt hb')]
      exact (hf b hb).1
  done := by
    intro X hP hw hK hc i pins s σ H E I hf st hg
    subst hP hw hK
    obtain ⟨⟨old, he⟩, hit, hne⟩ := st
    obtain ⟨xs, hq, hx⟩ := hg
    obtain ⟨its, rv, p, hz⟩ := I.tuple hq
    obtain ⟨f0, f1, f2, f3, f4, f5⟩ := hf it (by simp)
    have hai : a ≠ it := fun z => by
      obtain ⟨o, e1, c1, _⟩ := id p
      obtain ⟨o2, e2, c2, _⟩ := id hit
      rw [z, e2] at e1; cases e1
      exact absurd (Value.type.inj (c1.symm.trans c2)) (by decide)
    have hl := rv.length
    exact pyNext_enumT_end (I.ok.hd hc) he hit p (by simp; omega) fun h' eb => ⟨rfl, I.turned (t' := s.toks) (fun b o hb q => eb b o hb q) f0 f1 f3 f4 f5⟩
  self := fun A i s Q E st h => let ⟨⟨_, he⟩, _⟩ := st; wpAny_pyIter_enum he h

def iEnumA (K : PySem.W.Frag) (te : TE) : TI := fun σ H Rk => te σ H fun v H1 => ∃ a xs, v = .ref a ∧ ((SqL K H1 a xs ∧ Rk (Ite K a) H1) ∨ (SqT K H1 a xs ∧ Rk (Iet K a) H1))
theorem pi_enumA {X : Cx} {e : Expr} {te : TE} {p pos tpos : Pos} {elts : List Expr} {kk : Nat} (hg : Gl X "enumerate") (hm : X.mg "enumerate" = none) (he : PE X e te) (hs : starEach [e] X.env = (false, eval e X.env) :: starEach [] X.env := by rfl) :
    PI X (.Tuple elts kk tpos) (.Call (.Name "enumerate" p) [e] [] pos) (iEnumA X.K te) := by
  refine ⟨fun pins s σ H R I h => ?_⟩
  refine Call_ (ld_blt I hg hm boot_enumerate (PyProof.Rows.callWith_type1 (args_cons (thn (he.run pins s σ H _ I h) fun u s1 ⟨v, H1, I1, r1, q1⟩ => args_nil ?_) hs) hs rfl))
  obtain ⟨a, xs, ev, q⟩ := q1
  subst ev
  obtain rfl : u = Value.ref a := r1
  have fp : ∀ b ∈ [s1.heap.objs.size + 1, s1.heap.objs.size], FpOk X pins H1 b := fun b hb => by
    have e' : b = s1.heap.objs.size + 1 ∨ b = s1.heap.objs.size := by simpa using hb
    have hle : s1.heap.objs.size ≤ b := by
      rcases e' with z | z
      · rw [z]; exact Nat.le_add_right _ _
      · rw [z]; exact Nat.le_refl _
    exact I1.fpOk hle (I1.hok.fresh hle)
  rcases q with ⟨hq, q⟩ | ⟨hq, q⟩
  · obtain ⟨its, rv, p', hz⟩ := I1.list hq
    refine call_enumerate_list p'.isList fun h' he hit hsz hk => wpAny_pyIter_enum he ?_
    have I2 : Inv X pins σ H1 { s1 with heap := h' } := I1.kept (t' := s1.toks) hk
    exact ⟨s1.heap.objs.size + 1, [s1.heap.objs.size + 1, s1.heap.objs.size], _, _, H1, rfl, I2, turn_enum a (s1.heap.objs.size + 1) s1.heap.objs.size, ⟨⟨.none, he⟩, hit, Nat.succ_ne_self _⟩, fp, q⟩
  · obtain ⟨its, rv, p', hz⟩ := I1.tuple hq
    refine call_enumerate_tup p' fun h' he hit hsz hk => wpAny_pyIter_enum he ?_
    have I2 : Inv X pins σ H1 { s1 with heap := h' } := I1.kept (t' := s1.toks) hk
    exact ⟨s1.heap.objs.size + 1, [s1.heap.objs.size + 1, s1.heap.objs.size], _, _, H1, rfl, I2, turn_enumT a (s1.heap.objs.size + 1) s1.heap.objs.size, ⟨⟨.none, he⟩, hit, Nat.succ_ne_self _⟩, fp, q⟩
theorem enum_step {K : PySem.W.Frag} {R : Root τ} {F1 H H' : Hp} {env : PEnv} {σ : L2.St} {i : Nat} {xs : List V} {ds : List PyData} {d : PyData} (r : Rel K R F1 env σ H) (l : RpL K F1 xs ds) (e : (enumD ds)[i]? = some d) {v : V}
    (hy : ∃ T x, v = .ref T ∧ H T = none ∧ H' = upd H T (.tup [.int (i : Nat), x]) ∧ xs[i]? = some x) : ∃ F2, Same F1 F2 ∧ Rel K R F2 env σ H' ∧ Rp K F2 v d := by
  obtain ⟨T, x, rfl, hT, rfl, hx⟩ := hy
  rw [enumD_at] at e
  obtain ⟨d0, hd0, px⟩ := l.get hx
  rw [hd0] at e
  cases e
  obtain ⟨f2, r2, p2⟩ := new_tup r hT (.cons (.int (i : Nat)) (.cons px .nil))
  exact ⟨_, f2, r2, p2⟩
theorem yl_enumL {K : PySem.W.Frag} {F : Hp} {a : Addr} {xs : List V} {ds : List PyData} (h : SqL K F a xs) (l : RpL K F xs ds) : Yl K F (Ite K a) (enumD ds) where
  go := fun R F1 env σ H i d f r e => by
    have hl : i < ds.length := by rw [← enumD_len]; exact (List.getElem?_eq_some_iff.mp e).1
    obtain ⟨x, hx⟩ : ∃ x, xs[i]? = some x := ⟨_, List.getElem?_eq_getElem (by rw [l.length]; exact hl)⟩
    have hs : SqL K H a xs := (f.trans r.sub).seq h
    exact ⟨⟨xs, x, hs, hx⟩, fun y H' ⟨T, z, e1, e2, e3, e4⟩ => enum_step r (rpL_mono f _ _ l) e ⟨T, z, e1, e2, e3, e4 xs hs⟩⟩
  stop := fun R F1 env σ H f r => ⟨xs, (f.trans r.sub).seq h, by rw [enumD_len, l.length]; exact Nat.le_refl _⟩
theorem yl_enumT {K : PySem.W.Frag} {F : Hp} {a : Addr} {xs : List V} {ds : List PyData} (h : SqT K F a xs) (l : RpL K F xs ds) : Yl K F (Iet K a) (enumD ds) where
  go := fun R F1 env σ H i d f r e => by
    have hl : i < ds.length := by rw [← enumD_len]; exact (List.getElem?_eq_some_iff.mp e).1
    obtain ⟨x, hx⟩ : ∃ x, xs[i]? = some x := ⟨_, List.getElem?_eq_getElem (by rw [l.length]; exact hl)⟩
    have hs : SqT K H a xs := seqT_mono (f.trans r.sub) h
    exact ⟨⟨xs, x, hs, hx⟩, fun y H' ⟨T, z, e1, e2, e3, e4⟩ => enum_step r (rpL_mono f _ _ l) e ⟨T, z, e1, e2, e3, e4 xs hs⟩⟩
  stop := fun R F1 env σ H f r => ⟨xs, seqT_mono (f.trans r.sub) h, by rw [enumD_len, l.length]; exact Nat.le_refl _⟩
@[simp ↓] def wiEnum (we : WE) : WI := fun env Q => we env fun d e1 => match d with
  | .list ds => Q (enumD ds) e1
  | .tuple ds => Q (enumD ds) e1
  | _ => False
theorem ci_enum {X : Cx} {R : Root τ} {e : Expr} {we : WE} {p pos tpos : Pos} {elts : List Expr} {kk : Nat} (hg : Gl X "enumerate") (hm : X.mg "enumerate" = none) (he : CE X R e we) (hs : starEach [e] X.env = (false, eval e X.env) :: starEach [] X.env := by rfl) :
    CI X R (.Tuple elts kk tpos) (.Call (.Name "enumerate" p) [e] [] pos) (wiEnum we) :=
  pi_imp (pi_enumA hg hm he hs) fun σ H Rk ⟨F, env, Qw, r, w, k⟩ => ⟨F, env, _, r, w, fun F1 e1 H1 x d f1 r1 p1 w1 => by
    cases d with
    | list ds =>
      cases p1 with
      | lst h l => exact ⟨_, _, rfl, .inl ⟨.inl (.inl (r1.sub _ _ h)), k F1 e1 H1 _ _ f1 r1 (yl_enumL (.inl (.inl h)) l) w1⟩⟩
    | tuple ds =>
      cases p1 with
      | tup h l => exact ⟨_, _, rfl, .inr ⟨seqT_mono r1.sub h.sq, k F1 e1 H1 _ _ f1 r1 (yl_enumT h.sq l) w1⟩⟩
    | _ => cases w1⟩

/-! ### range with a step -/
def rangeCD (lo c : Int) (n : Nat) : List PyData := (List.range n).map fun i => .int (lo + (i : Nat) * c)
theorem yl_rangeC {K : PySem.W.Frag} {F : Hp} {lo c : Int} {n : Nat} : Yl K F (Itc lo c n) (rangeCD lo c n) where
  go := fun R F1 env σ H i d f r e => by
    unfold rangeCD at e
    rw [List.getElem?_map] at e
    cases q : (List.range n)[i]? with
    | none => rw [q] at e; cases e
    | some j =>
      rw [q] at e; cases e
      obtain ⟨hi, hj⟩ := List.getElem?_eq_some_iff.mp q
      rw [List.getElem_range] at hj
      subst hj
      refine ⟨(by simpa using hi : i < n), fun x H' ⟨e1, e2⟩ => ?_⟩
      subst e1; subst e2
      exact ⟨F1, Same.refl _, r, .int _⟩
  stop := fun R F1 env σ H f r => by
    show n ≤ (rangeCD lo c n).length
    unfold rangeCD
    rw [List.length_map, List.length_range]
    exact Nat.le_refl _
@[simp ↓] def gRg3 (d d' d'' : PyData) (k : List PyData → Prop) : Prop := match d, d', d'' with
  | .int i, .int j, .int c => ∃ n : Nat, RgC i j c n ∧ k (rangeCD i c n)
  | _, _, _ => False
@[simp ↓] def wiRange3 (wa wb wc : WO) : WI := fun env Q => wa env fun o e1 => wb e1 fun o' e2 => wc e2 fun o'' e3 => res e3 o fun d => res e3 o' fun d' => res e3 o'' fun d'' => gRg3 d d' d'' fun ds => Q ds e3
theorem ci_range3 {X : Cx} {R : Root τ} {tg a b c : Expr} {wa wb wc : WO} {p pos : Pos} (hg : Gl X "range") (hm : X.mg "range" = none) (ha : CO X R a wa) (hb : CO X R b wb) (hc : CO X R c wc)
    (hs : starEach [a, b, c] X.env = (false, eval a X.env) :: starEach [b, c] X.env := by rfl) (hs2 : starEach [b, c] X.env = (false, eval b X.env) :: starEach [c] X.env := by rfl) (hs3 : starEach [c] X.env = (false, eval c X.env) :: starEach [] X.env := by rfl) (hpl : (backTo pos (starEach [b, c] X.env)).any (·.1) = false := by rfl) :
    CI X R tg (.Call (.Name "range" p) [a, b, c] [] pos) (wiRange3 wa wb wc) :=
  pi_imp (pi_range3 hg hm (pa_cons ha (pa_cons hb (pa_cons hc pa_nil hs3) hs2) hs) hs hpl) fun σ H Rk ⟨F, env, Qw, r, w, k⟩ =>
    ⟨F, env, _, r, w, fun F1 e1 H1 x o f1 r1 p1 w1 => ⟨F1, e1, _, r1, w1, fun F2 e2 H2 y o' f2 r2 p2 w2 => ⟨F2, e2, _, r2, w2, fun F3 e3 H3 z o'' f3 r3 p3 w3 => by
      obtain ⟨d, h1, w4⟩ := res_ok r3 (p1.mono (f2.trans f3)) w3
      obtain ⟨d', h2, w5⟩ := res_ok r3 (p2.mono f3) w4
      obtain ⟨d'', h3, w6⟩ := res_ok r3 p3 w5
      cases d with
      | int i => cases d' with
        | int j => cases d'' with
          | int c =>
            obtain ⟨n, hn, w7⟩ := w6
            exact ⟨i, j, c, n, by rw [h1.int, h2.int, h3.int], hn, k F3 e3 H3 _ _ ((f1.trans f2).trans f3) r3 yl_rangeC w7⟩
          | _ => cases w6
        | _ => cases w6
      | _ => cases w6⟩⟩⟩
end VL
set_option Elab.async false
set_option linter.all false
set_option maxRecDepth 100000
set_option maxHeartbeats 2000000
/-! VL12: the end of a row: the tables of all defs of the text. -/
namespace VL
open PySem PySem.Spec PyProof.Rows L2 LamX
/-- the defs of the text, their code objects, their tables, empty -/
def AllTab (q : Program) (mg : Str → Option Value) (h : Heap) : Prop := ∀ d ∈ recsOf q, ∃ a o fd c P, mg d.name = some (.ref a) ∧ h.get? a = some o ∧ o.data = .func fd ∧ fd.code = .ref c ∧ h.IsCode c P #[] ∧ h.TableAt c P #[]
/-- the def x stands at f, its code at c, its table at P, empty -/
theorem AllTab.at {q : Program} {mg : Str → Option Value} {h : Heap} {K : PySem.W.Frag} (T : AllTab q mg h) (KX : K.In h) {x : Str} (hx : ((recsOf q).any fun e => e.name == x) = true) {f c P : Addr} (hf : mg x = some (.ref f)) {o : Obj} {fd : FuncData} {e : Value} {dd : Option Addr} {vs : Array Value} {sl : Array (Option Value)}
    (k1 : K.lookup f = some o) (k2 : o.data = .func fd) (k3 : fd.code = .ref c) (k4 : K.lookup c = some ⟨e, dd, .fields vs, sl⟩) (k5 : vs[11]? = some (.ref P)) : h.get? P = some { cls := .none, data := .fields #[] } := by
  obtain ⟨d, hm, hn1⟩ := List.any_eq_true.mp hx
  have hn2 : d.name = x := beq_iff_eq.mp hn1
  obtain ⟨a', o', fd', c', P', h1, h2, h3, h4, h5, h6⟩ := T d hm
  rw [hn2, hf] at h1
  cases h1
  have g1 := KX _ _ k1
  rw [g1] at h2
  cases h2
  rw [k2] at h3
  cases h3
  rw [k3] at h4
  cases h4
  obtain ⟨⟨oc, vc, e1, _, e3, e4⟩, hP⟩ := h6
  have g2 := KX _ _ k4
  rw [g2] at e1
  cases e1
  cases e3
  rw [k5] at e4
  cases e4
  exact hP
theorem walk_ofAll {l : PySem.W.OpenLaw} {n k : Nat} {q : Program} {loose : List Str} {XP : (Str → Option Value) → Heap → Prop} {YP : World → Heap → Prop} {d : DefRec} {K : Params → PySem.W.Frag} {CX : World → CXT} {x : Str}
    (hn : l.most = some n) (hn2 : n ≤ sizeLine) (hdf : d.params.defaults = []) (hr : Room k callerA) (hY : ∀ (w : World) (h : Heap), YP w h → (K w.params).In h)
    (F : ∀ (w : World) (mg : Str → Option Value) (fa : Addr) (h : Heap), YP w h → (K w.params).In h → h.Ns mainGlobals mg → mg d.name = some (.ref fa) → AllTab q mg h → LawAtS l w (K w.params) (CX w) k n x mg fa h)
    (hCX : ∀ (w : World) (H : Hp) (s : Shared) (e : Value) (s' : Shared), CX w [] H s (fun _ _ _ => False) e s' → False) :
    PySem.W.WalkO q loose XP YP l.row.toRowW d [] (fun f vs => PySem.call f vs) := by
  refine Att.attach_callB hn hdf fun w s₀ s₁ mg mb fa o pm cd doc a vs ns G Y ho hd hcd hmg hobj hints hlen hbits hg => ?_
  have KX := hY w _ Y
  obtain ⟨fd, cs, sp, hT, nT, C, hb, hsp, hF⟩ := F w mg fa _ Y KX G.T.g hmg G.T.tab
  exact law_callTs KX G.T.g G.T.b G.T.builtins G.T.nolimit hg hT nT C G.T.bmain hobj hints (Nat.le_trans hlen hn2) hr hF hb (fun H hH hS => hsp H a ns hlen hbits hH hS) fun H e s' => hCX w H s₁ e s'
end VL
set_option Elab.async false
set_option linter.all false
set_option maxRecDepth 100000
set_option maxHeartbeats 1000000
/-! VL13: defs whose code is known; the law's draws; the law's entry. -/
namespace VL
open PySem PySem.Spec PyProof.Rows L2
variable {τ : Tau}
/-- f is the def st of the text, its code object at c -/
structure FunT (K : PySem.W.Frag) (x : Str) (st : Stmt) (f : Addr) (fd : FuncData) (c : Addr) : Prop where
  ex : ∃ (oc : Value) (od : Option Addr) (kV doc pm : Value) (an : Option Addr) (ct : Value) (osl : Array (Option Value)),
    fd = PySem.W.fnOf x x (defArgs st) (defBody st) (defScope st) .none kV doc pm an (.ref c) ct ∧ K.lookup f = some ⟨oc, od, .func fd, osl⟩ ∧ PySem.W.codeIn K (.ref c) x = true
  kp : PySem.W.keepIn K (.ref f) = true
theorem funT_mk {K : PySem.W.Frag} {x : Str} {st : Stmt} {f c : Addr} {oc : Value} {od an : Option Addr} {osl : Array (Option Value)} {kV doc pm ct : Value} (l : K.lookup f = some ⟨oc, od, .func (PySem.W.fnOf x x (defArgs st) (defBody st) (defScope st) .none kV doc pm an (.ref c) ct), osl⟩)
    (h : PySem.W.codeIn K (.ref c) x = true) (k : PySem.W.keepIn K (.ref f) = true) : FunT K x st f (PySem.W.fnOf x x (defArgs st) (defBody st) (defScope st) .none kV doc pm an (.ref c) ct) c := ⟨⟨oc, od, kV, doc, pm, an, ct, osl, rfl, l, h⟩, k⟩
section
variable {P : Program} {w : World} {K : PySem.W.Frag} {mg : Str → Option Value} {base : Heap} {x : Str} {st : Stmt} {f c : Addr} {fd : FuncData}
theorem FunT.toFun (F : FunT K x st f fd c) : Fun K x x st f fd := by
  obtain ⟨oc, od, kV, doc, pm, an, ct, osl, e, l, h⟩ := F.ex
  exact ⟨⟨oc, od, kV, doc, pm, an, .ref c, ct, osl, e, l, h⟩, F.kp⟩
theorem FunT.ok {N ps : List Str} {k : Nat} {sp : Sp} (F : FunT K x st f fd c) (S : FnScope N ps (defScope st)) (len : ∀ vs H Q E, sp vs H Q E → vs.length = ps.length)
    (hbody : ∀ (A : Around) (outer : List Env) (s : Shared) (H : Hp) (vs : List V) (Q : VK) (E : XK), Room k (A.deeper (envOfC x (defScope st) s.heap.objs.size f (.ref c))) → sp vs H Q E →
      ∃ t, PSs (cxOf CX0 P w K mg base N x (defScope st) f (.ref c) A outer s H E).nox (defBody st) t ∧ t { nx := fun _ H' => Q .non H', rt := Q } (start N vs) H) : FnOk P w K mg base CX0 (k + 1) f fd ps sp := by
  obtain ⟨oc, od, kV, doc, pm, an, ct, osl, rfl, lk, hcd⟩ := F.ex
  refine fn_of lk hcd S len fun A outer s H vs Q E hr hsp => ?_
  obtain ⟨t, h, q⟩ := hbody A outer s H vs Q E hr hsp
  exact ⟨t, h.nox, q⟩
/-- a def that lets nothing out keeps its promise by its body -/
theorem fnT {N ps : List Str} {k : Nat} {bw : (Str → Prop) → WS} (F : FunT K x st f fd c) (S : FnScope N ps (defScope st))
    (hbody : ∀ (R : Root τ) (A : Around) (outer : List Env) (s : Shared) (H : Hp) (E : XK) (Ew : Str → Prop), Room k (A.deeper (envOfC x (defScope st) s.heap.objs.size f (.ref c))) →
      CSs (cxOf CX0 P w K mg base N x (defScope st) f (.ref c) A outer s H E).nox R (defBody st) (bw Ew)) : FnOk P w K mg base CX0 (k + 1) f fd ps (spW τ K mg ps.length (fwOf N.length bw)) := by
  refine F.ok S (fun vs H Q E h => h.1) fun A outer s H vs Q E hr h => ?_
  obtain ⟨hl, Fz, d, args, Qw, Ew, hb, ha, hf, hq, he⟩ := h
  refine ⟨_, hbody (rt (τ := τ) H Fz d) A outer s H E Ew hr, Fz, _, _, rel_start hb ha, hf, fun F' env' σ' H' ff r q => ?_, fun _ _ _ _ _ _ z => z.elim, fun _ _ _ _ _ _ z => z.elim, fun F' H' y t ff r p q => hq F' H' y t ff r p q⟩
  exact hq F' H' .non (.fz .none) ff r.toBase .non q
/-- the promise in other words -/
theorem fn_fw {k n : Nat} {ps : List Str} {fw fw' : FW} {CX : CXT} (F : FnOk P w K mg base CX k f fd ps (spW τ K mg n fw)) (h : ∀ args Q Ew, fw' args Q Ew → fw args Q Ew) : FnOk P w K mg base CX k f fd ps (spW τ K mg n fw') :=
  F.imp fun vs H Q E ⟨hl, Fz, d, args, Qw, Ew, hb, ha, hf, hq, he⟩ => ⟨hl, Fz, d, args, Qw, Ew, hb, ha, h _ _ _ hf, hq, he⟩
theorem fn_up {j k : Nat} {ps : List Str} {sp : Sp} {CX : CXT} (F : FnOk P w K mg base CX j f fd ps sp) (h : j ≤ k) : FnOk P w K mg base CX k f fd ps sp := ⟨F.len, fun A outer s H args us vs Q E hr => F.run A outer s H args us vs Q E (hr.mono h)⟩
/-- a list of draws as draws -/
def drW (fw : FW) : FW := fun args Q Ew => fw args (fun s => ∃ ns : List Int, s = .ol (ns.map .int) ∧ (∀ n ∈ ns, DrawOk n) ∧ Q .dr) Ew
theorem fn_dr (hm : τ.m2 = false) {k n : Nat} {ps : List Str} {fw : FW} {CX : CXT} (F : FnOk P w K mg base CX k f fd ps (spW τ K mg n fw)) : FnOk P w K mg base CX k f fd ps (spW τ K mg n (drW fw)) :=
  F.imp fun vs H Q E ⟨hl, Fz, d, args, Qw, Ew, hb, ha, hf, hq, he⟩ => ⟨hl, Fz, d, args, _, Ew, hb, ha, hf, fun F' H' x s ff b p ⟨ns, e, hn, q⟩ => by
    subst e
    obtain ⟨a, xs, ex, ow, h1, l⟩ := p
    refine hq F' H' x .dr ff b ⟨a, ex, ⟨ow.1, ow.2.2⟩, .inl ow.2.1, _, (by rw [h1, ints_of ns l]), DrB.mk1 hm hn⟩ q, he⟩
end

/-! ### one draw -/
@[simp ↓] def takeW : FW := fun args Q _ => match args with
  | [.dr, .fz (.int b)] => 0 < b ∧ ∀ v : Int, 0 ≤ v → v < b → Q (.fz (.int v))
  | _ => False
theorem takeW_at {args : List Slot} {Q : Slot → Prop} {Ew : Str → Prop} (h : takeW args Q Ew) : ∃ b : Int, args = [.dr, .fz (.int b)] ∧ 0 < b ∧ ∀ v : Int, 0 ≤ v → v < b → Q (.fz (.int v)) := by
  unfold takeW at h
  split at h
  · exact ⟨_, rfl, h⟩
  · exact h.elim
def takeBody (p1 p2 p3 p4 p5 p6 p7 p8 p9 p10 p11 p12 p13 p14 p15 p16 : Pos) : List Stmt :=
  [.If (.Compare (.Call (.Name "len" p1) [.Name "draws" p2] [] p3) [.Eq] [.Constant (.int 0) 0 p4] p5) [.Return (some (.Constant (.int 0) 0 p6)) p7] [] p8,
   .Return (some (.BinOp (.Call (.Name "int" p9) [.Call (.Attribute (.Name "draws" p10) "pop" p11) [] [] p12] [] p13) .Mod (.Name "bound" p14) p15)) p16]
section
variable {P : Program} {w : World} {K : PySem.W.Frag} {mg : Str → Option Value} {base : Heap} {x : Str} {st : Stmt} {f c : Addr} {fd : FuncData}
variable {p1 p2 p3 p4 p5 p6 p7 p8 p9 p10 p11 p12 p13 p14 p15 p16 : Pos}
theorem ok_take (hm : τ.m2 = false) (F : FunT K x st f fd c) (S : FnScope ["draws", "bound"] ["draws", "bound"] (defScope st)) (hb : defBody st = takeBody p1 p2 p3 p4 p5 p6 p7 p8 p9 p10 p11 p12 p13 p14 p15 p16) (hl : (p11.endLine == p12.line) = true)
    (g1 : (defScope st).names.lookup ("len" : Str) = some .globalImplicit) (g2 : (defScope st).names.lookup ("int" : Str) = some .globalImplicit) (l0 : (defScope st).names.lookup ("draws" : Str) = some .local) (l1 : (defScope st).names.lookup ("bound" : Str) = some .local)
    (m1 : mg "len" = none) (m2 : mg "int" = none) : FnOk P w K mg base CX0 1 f fd ["draws", "bound"] (spW τ K mg 2 takeW) := by
  refine F.ok S (fun vs H Q E h => h.1) fun A outer s H vs Q E hr h => ?_
  rw [hb]
  have v0 : ∀ {p : Pos}, PE (cxOf CX0 P w K mg base ["draws", "bound"] x (defScope st) f (.ref c) A outer s H E).nox (.Name "draws" p) (tVar 0) := pv 0 rfl (.inl l0)
  have v1 : ∀ {p : Pos}, PE (cxOf CX0 P w K mg base ["draws", "bound"] x (defScope st) f (.ref c) A outer s H E).nox (.Name "bound" p) (tVar 1) := pv 1 rfl (.inl l1)
  refine ⟨_, pss_cons (ps_if (pt_cmpR op_eq (pe_callB call_len g1 m1 boot_len (pa_cons v0 pa_nil)) pe_int (nomark _)) (pss_one (ps_ret pe_int)) pss_nil)
    (pss_one (ps_ret (pe_op op_mod (pe_callTy call_int1 g2 m2 boot_int (pa_cons (pe_bm0 PySem.F.plainAttrs_list PySem.F.slot_list_pop PySem.F.type_list_pop mt_pop v0 rfl hl) pa_nil)) v1))), ?_⟩
  obtain ⟨hl2, Fz, d, args, Qw, Ew, hbs, ha, hw, hq, he⟩ := h
  obtain ⟨b, rfl, hb0, hv⟩ := takeW_at hw
  obtain ⟨xa, ea, a, ed, rfl⟩ := ha.at_ 0 .dr rfl
  obtain ⟨xb, eb, pb⟩ := ha.at_ 1 (.fz (.int b)) rfl
  cases pb
  have ev : vs = [.ref a, .int b] := by
    match vs, hl2, ea, eb with
    | [v1, v2], _, ea, eb => cases ea; cases eb; rfl
  subst ev
  subst ed
  obtain ⟨hF, _, ob, hH, hdr⟩ := hbs.drw a rfl
  obtain ⟨ns, rfl, hns⟩ := hdr.one hm
  have hH : H a = some (.lst (ns.map V.int)) := hH
  refine ⟨_, rfl, _, ns.length, rfl, .inl ⟨ns.map V.int, .inl (.inl hH), by rw [List.length_map]⟩, rfl, _, rfl, ?_⟩
  cases hn : decide (V.int (ns.length : Nat) = V.int 0) with
  | true =>
    refine iteT ?_
    exact hq Fz H _ (.fz (.int 0)) (Same.refl Fz) hbs (show Rp K Fz (.int 0) (.int 0) from .int 0) (hv 0 (Int.le_refl _) hb0)
  | false =>
    refine iteF ?_
    have hn' : ns.length ≠ 0 := by
      have := of_decide_eq_false hn
      intro z
      exact this (by rw [z]; rfl)
    have hlt : ns.length - 1 < ns.length := by omega
    have hy : ns[ns.length - 1]? = some ns[ns.length - 1] := List.getElem?_eq_getElem hlt
    have hz : V.int ns[ns.length - 1] = V.int ns[ns.length - 1] := rfl
    refine ⟨_, rfl, .inl ⟨rfl, ns.map V.int, .inl (.inl hH)⟩, a, ns.map V.int, V.int ns[ns.length - 1], rfl, rfl, hH, by rw [List.length_map, List.getElem?_map, hy]; rfl, .inl ⟨_, rfl, _, rfl, _, _, rfl, rfl, hb0, ?_⟩⟩
    have hsub : ∀ n ∈ ns.dropLast, DrawOk n := fun n h => hns n (List.dropLast_subset ns h)
    have hE : HO.lst (ns.map V.int).dropLast = HO.lst (ns.dropLast.map V.int) := by rw [List.map_dropLast]
    have ne : ∀ b' o, H b' = some o → isTbl o = true → b' ≠ a := fun b' o e k z => by rw [z, hH] at e; cases e; cases k
    refine hq Fz _ _ (.fz (.int (ns[ns.length - 1] % b))) (Same.refl Fz) ?_ (show Rp K Fz (.int _) (.int _) from .int _) (hv _ (Int.emod_nonneg _ (by omega)) (Int.emod_lt_of_pos _ hb0))
    refine { ext := hbs.ext, sub := fun b' u e => ?_, frame := fun b' o e1 e2 e3 => ?_, tabs := fun b' ps e => ?_, tok := fun b' hm ps e => ?_, has := fun p hp => (let ⟨ps, e⟩ := hbs.has p hp; ⟨ps, by rw [upd_ne (ne p _ e rfl)]; exact e⟩), new := hbs.new, kt := fun a' o e => (by cases e), kind := hbs.kind, drw := fun a' e => ?_, kp := fun a' o e => (by cases e) }
    · have nb : b' ≠ a := fun z => by rw [z, hF] at e; cases e
      rw [upd_ne nb]; exact hbs.sub b' u e
    · have nb : b' ≠ a := fun z => e3 (by rw [z])
      rw [upd_ne nb]; exact e1
    · have e : H b' = some (.tbl ps) := e
      exact ⟨#[], by rw [upd_ne (ne b' _ e rfl), e]; simp⟩
    · have nb : b' ≠ a := fun z => by rw [z, upd_same] at e; cases e
      rw [upd_ne nb] at e
      exact hbs.tok b' hm ps e
    · have e : some a = some a' := e
      cases e
      exact ⟨hF, ⟨_, hH⟩, _, (by rw [upd_same, hE]), DrB.mk1 hm hsub⟩
end
end VL
set_option Elab.async false
set_option linter.all false
set_option maxRecDepth 100000
set_option maxHeartbeats 1000000
/-! VL14: what a def's walk takes of the defs that it calls; the law's entry. -/
namespace VL
open PySem PySem.Spec PyProof.Rows L2
variable {τ : Tau}
theorem room_hu {k : Nat} {A : Around} (r : Room k A) : A.units + 65 < cLine := by have := r.un; omega
theorem room_hu64 {k : Nat} {A : Around} (r : Room k A) : A.units + 64 < cLine := by have := r.un; omega
/-- the def x of the text keeps its promise fw -/
structure Cal (τ : Tau) (P : Program) (w : World) (K : PySem.W.Frag) (mg : Str → Option Value) (base : Heap) (k : Nat) (x : Str) (ps : List Str) (fw : FW) : Prop where
  ex : ∃ f fd, FnOk P w K mg base CX0 k f fd ps (spW τ K mg ps.length fw) ∧ mg x = some (.ref f) ∧ PySem.W.keepIn K (.ref f) = true ∧ Binds K fd ps []
section
variable {X : Cx} {R : Root τ} {e : Expr} {es : List Expr} {pos p : Pos} {k : Nat} {ps : List Str} {fw : FW} {x : Str} {wa : WAs}
theorem cf_callC {n : Nat} (C : Cal τ X.prog X.w X.K X.mg X.base k x ps fw) (hn : ps.length = n) (hr : Room k X.A) (hg : Gl X x) (ha : CAs X R (e :: es) wa) (hdb : (x == ("__debug__" : Str)) = false)
    (he : starEach (e :: es) X.env = (false, eval e X.env) :: starEach es X.env) (hpl : (backTo pos (starEach es X.env)).any (·.1) = false) :
    CF X R (.Call (.Name x p) (e :: es) [] pos) (wCall n fw wa) := by
  subst hn
  obtain ⟨f, fd, F, hm, hk, hb⟩ := C.ex
  exact cf_call F hr hg hm hk hb ha hdb he hpl
/-- -e -/
@[simp ↓] def gNeg (d : PyData) (k : PyData → Prop) : Prop := match d with
  | .int i => k (.int (-i))
  | _ => False
@[simp ↓] def wNeg (wo : WO) : WE := fun env Q => wo env fun o e1 => res e1 o fun d => gNeg d fun z => Q z e1
theorem ce_neg {wo : WO} (h : CO X R e wo) : CE X R (.UnaryOp .USub e pos) (wNeg wo) := pe_imp (pe_un un_neg h) fun σ H Q ⟨F, env, Qw, r, w, k⟩ => ⟨F, env, _, r, w, fun F1 e1 H1 x o f1 r1 p1 w1 => by
  obtain ⟨d, hd, w2⟩ := res_ok r1 p1 w1
  cases d with
  | int i => exact ⟨i, hd.int, k F1 e1 H1 _ _ f1 r1 (.int _) w2⟩
  | _ => cases w2⟩
end
theorem base_entry {H F : Hp} (sub : Same F H) (kind : ∀ b o, F b = some o → fzk o = true) (ht : ∀ P ∈ τ, H P = some (.tbl #[])) : Base (rt (τ := τ) H F none) F H where
  sub := sub
  frame := fun _ _ h _ _ => h
  tabs := fun b ps h => ⟨#[], by
    have h : H b = some (.tbl ps) := h
    rw [h]; simp⟩
  tok := fun b hm ps h => by
    rw [ht b hm] at h; cases h; trivial
  ext := Same.refl F
  has := fun P hP => ⟨_, ht P hP⟩
  new := fun _ _ h => .inl h
  kind := kind
  drw := fun a h => by cases h
  kt := fun _ _ h => by cases h
  kp := fun _ _ h => by cases h
theorem law_sp {K : PySem.W.Frag} {mg : Str → Option Value} {fw : FW} {n : Nat} (h : ∀ ns : List Int, ns.length ≤ n → fw [.sc ns] (fun s => s = .fz (.bool true)) fun _ => False) (H : Hp) (a : Addr) (ns : List Int) (hl : ns.length ≤ n)
    (ht : ∀ P ∈ τ, H P = some (.tbl #[])) (hs : SqL K H a (ns.map V.int)) : spW τ K mg 1 fw [.ref a] H (fun v _ => v = .bl true) fun _ _ _ => False := by
  have one : ∀ o : HO, H a = some o → fzk o = true → Same (upd (fun _ => none) a o) H ∧ ∀ b u, upd (fun _ => none) a o b = some u → fzk u = true := fun o ho k => by
    refine ⟨fun b u e => ?_, fun b u e => ?_⟩
    · by_cases hb : b = a
      · subst hb; rw [upd_same] at e; cases e; exact ho
      · rw [upd_ne hb] at e; cases e
    · by_cases hb : b = a
      · subst hb; rw [upd_same] at e; cases e; exact k
      · rw [upd_ne hb] at e; cases e
  have key : ∃ F : Hp, Same F H ∧ (∀ b o, F b = some o → fzk o = true) ∧ SqL K F a (ns.map V.int) := by
    rcases hs with (h | ⟨o, h⟩) | h
    · exact ⟨_, (one _ h rfl).1, (one _ h rfl).2, .inl (.inl upd_same)⟩
    · exact ⟨_, (one _ h rfl).1, (one _ h rfl).2, .inl (.inr ⟨o, upd_same⟩)⟩
    · exact ⟨fun _ => none, (fun b o e => by cases e), (fun b o e => by cases e), .inr h⟩
  obtain ⟨F, sub, kind, hq⟩ := key
  refine ⟨rfl, F, none, [.sc ns], _, _, base_entry sub kind ht, ⟨rfl, fun i s e => ?_, fun i j e1 e2 => ?_⟩, h ns hl, fun F' H' x s ff b p q => ?_, fun nm C F' H' _ _ _ z => z.elim⟩
  · match i, e with
    | 0, e => cases e; exact ⟨_, rfl, a, rfl, hq⟩
  · match i, e1 with
    | 0, e1 => cases e1
  · subst q
    cases p; rfl
end VL
set_option Elab.async false
set_option linter.all false
set_option maxRecDepth 100000
set_option maxHeartbeats 1000000
/-! VL15: the readings opened: data, loops, comprehensions; the laws' own helpers. -/
namespace VL
open PySem PySem.Spec PyProof.Rows L2
@[simp] theorem eqv_bb (a b : Bool) : PyData.eqv (.bool a) (.bool b) = (a == b) := by simp [PyData.eqv]
@[simp] theorem eqv_ii (a b : Int) : PyData.eqv (.int a) (.int b) = (a == b) := by simp [PyData.eqv]
@[simp] theorem eqv_ss (a b : Str) : PyData.eqv (.str a) (.str b) = (a == b) := by simp [PyData.eqv]
@[simp] theorem eqv_nn : PyData.eqv .none .none = true := by simp [PyData.eqv]
@[simp] theorem shaped_n : SeqAt.shaped .none = true := by decide
@[simp] theorem shaped_b (b : Bool) : SeqAt.shaped (.bool b) = true := by cases b <;> decide
@[simp] theorem shaped_i (i : Int) : SeqAt.shaped (.int i) = true := by simp [SeqAt.shaped, PyData.canLay0, PyData.depth]
@[simp] theorem isNon_n : isNon .none = true := rfl
@[simp] theorem isNon_b (b : Bool) : isNon (.bool b) = false := rfl
@[simp] theorem isNon_i (b : Int) : isNon (.int b) = false := rfl
@[simp] theorem isNon_s (b : Str) : isNon (.str b) = false := rfl
@[simp] theorem isNon_l (b : List PyData) : isNon (.list b) = false := rfl
@[simp] theorem isNon_t (b : List PyData) : isNon (.tuple b) = false := rfl
@[simp] theorem isi_nx (T : String) : isiD T .none = (T == "NoneType") := rfl
@[simp] theorem isi_bx (T : String) (b : Bool) : isiD T (.bool b) = (T == "bool" || T == "int") := rfl
@[simp] theorem isi_ix (T : String) (b : Int) : isiD T (.int b) = (T == "int") := rfl
@[simp] theorem isi_sx (T : String) (b : Str) : isiD T (.str b) = (T == "str") := rfl
@[simp] theorem isi_lx (T : String) (b : List PyData) : isiD T (.list b) = (T == "list") := rfl
@[simp] theorem isi_tx (T : String) (b : List PyData) : isiD T (.tuple b) = (T == "tuple") := rfl

/-! ### loops -/
theorem forW_at {g : WG} {body : WS} {D : WD} {items : List PyData} {env : PEnv} (P : Nat → PEnv → Prop) (h0 : P 0 env)
    (hs : ∀ i x e, items[i]? = some x → P i e → g x e fun e1 => body { nx := P (i + 1), ct := P (i + 1), bk := D.nx, rt := D.rt } e1) (hd : ∀ e, P items.length e → D.nx e) : forW g body D items env := by
  refine ⟨fun xs e => ∃ i, i + xs.length = items.length ∧ xs = items.drop i ∧ P i e, ⟨0, by simp, rfl, h0⟩, fun e ⟨i, h1, h2, h3⟩ => ?_, fun x xs e ⟨i, h1, h2, h3⟩ => ?_⟩
  · have : i = items.length := by simpa using h1
    subst this; exact hd e h3
  · have hx : items[i]? = some x := by
      have := congrArg (·[0]?) h2
      simpa using this.symm
    have hxs : xs = items.drop (i + 1) := by
      have := congrArg List.tail h2
      simpa using this
    have hl : i + 1 + xs.length = items.length := by simp at h1; omega
    have hP : (fun e => ∃ j, j + xs.length = items.length ∧ xs = items.drop j ∧ P j e) = P (i + 1) := by
      funext e
      refine propext ⟨fun ⟨j, a, _, c⟩ => ?_, fun c => ⟨i + 1, hl, hxs, c⟩⟩
      have : j = i + 1 := by omega
      rw [← this]; exact c
    rw [hP]
    exact hs i x e hx h3
theorem rangeD_at {lo : Int} {n i : Nat} {x : PyData} (h : (rangeD lo n)[i]? = some x) : i < n ∧ x = .int (lo + (i : Nat)) := by
  unfold rangeD at h
  rw [List.getElem?_map] at h
  cases q : (List.range n)[i]? with
  | none => rw [q] at h; cases h
  | some j =>
    rw [q] at h; cases h
    obtain ⟨hi, hj⟩ := List.getElem?_eq_some_iff.mp q
    rw [List.getElem_range] at hj
    subst hj
    exact ⟨by simpa using hi, rfl⟩
theorem rangeD_len (lo : Int) (n : Nat) : (rangeD lo n).length = n := by unfold rangeD; simp
theorem forW_range {g : WG} {body : WS} {D : WD} {lo : Int} {n : Nat} {env : PEnv} (P : Nat → PEnv → Prop) (h0 : P 0 env)
    (hs : ∀ i e, i < n → P i e → g (.int (lo + (i : Nat))) e fun e1 => body { nx := P (i + 1), ct := P (i + 1), bk := D.nx, rt := D.rt } e1) (hd : ∀ e, P n e → D.nx e) : forW g body D (rangeD lo n) env :=
  forW_at P h0 (fun i x e hx p => by obtain ⟨h1, rfl⟩ := rangeD_at hx; exact hs i e h1 p) (by rw [rangeD_len]; exact hd)
/-! ### comprehensions -/
theorem lcW_at {g : WG} {tt : WT} {we : WE} {vs : List Nat} {items acc0 : List PyData} {env : PEnv} {Q : List PyData → PEnv → Prop} (P : Nat → List PyData → PEnv → Prop) (h0 : P 0 acc0 env)
    (hs : ∀ i x acc e, items[i]? = some x → P i acc e → g x e fun e1 => tt e1 fun b e2 => if b = true then we e2 fun y e3 => acc.length < sizeLine ∧ P (i + 1) (acc ++ [y]) (wipeE e3 vs) else P (i + 1) acc (wipeE e2 vs))
    (hd : ∀ acc e, P items.length acc e → Q acc e) : lcW g tt we vs items acc0 env Q := by
  refine ⟨fun xs acc e => ∃ i, i + xs.length = items.length ∧ xs = items.drop i ∧ P i acc e, ⟨0, by simp, rfl, h0⟩, fun acc e ⟨i, h1, h2, h3⟩ => ?_, fun x xs acc e ⟨i, h1, h2, h3⟩ => ?_⟩
  · have : i = items.length := by simpa using h1
    subst this; exact hd acc e h3
  · have hx : items[i]? = some x := by
      have := congrArg (·[0]?) h2
      simpa using this.symm
    have hxs : xs = items.drop (i + 1) := by
      have := congrArg List.tail h2
      simpa using this
    have hl : i + 1 + xs.length = items.length := by simp at h1; omega
    have hP : (fun acc e => ∃ j, j + xs.length = items.length ∧ xs = items.drop j ∧ P j acc e) = P (i + 1) := by
      funext acc e
      refine propext ⟨fun ⟨j, a, _, c⟩ => ?_, fun c => ⟨i + 1, hl, hxs, c⟩⟩
      have : j = i + 1 := by omega
      rw [← this]; exact c
    have hP' : ∀ acc e, (∃ j, j + xs.length = items.length ∧ xs = items.drop j ∧ P j acc e) = P (i + 1) acc e := fun acc e => congrFun (congrFun hP acc) e
    simp only [hP']
    exact hs i x acc e hx h3
/-- a comprehension that leaves the names as they are: f x is what it makes of x -/
theorem lcW_pure {g : WG} {tt : WT} {we : WE} {vs : List Nat} {items : List PyData} {env : PEnv} {Q : List PyData → PEnv → Prop} (f : PyData → Option PyData) (hl : items.length ≤ sizeLine)
    (hs : ∀ x ∈ items, ∀ (Y : PyData → PEnv → Prop) (Z : PEnv → Prop), (∀ y, f x = some y → Y y env) → (f x = none → Z env) → g x env fun e1 => tt e1 fun b e2 => if b = true then we e2 fun y e3 => Y y (wipeE e3 vs) else Z (wipeE e2 vs))
    (hd : Q (items.filterMap f) env) : lcW g tt we vs items [] env Q := by
  refine lcW_at (fun i acc e => e = env ∧ acc = (items.take i).filterMap f) ⟨rfl, by simp⟩ (fun i x acc e hx ⟨he, ha⟩ => ?_) (fun acc e ⟨he, ha⟩ => by subst he; rw [ha, List.take_length]; exact hd)
  subst he
  have hi := (List.getElem?_eq_some_iff.mp hx).1
  have ht : items.take (i + 1) = items.take i ++ [x] := by rw [List.take_add_one, hx]; rfl
  have hal : acc.length < sizeLine := by
    rw [ha]
    have h1 := List.length_filterMap_le f (items.take i)
    have h2 : (items.take i).length = i := by rw [List.length_take]; omega
    omega
  refine hs x (List.mem_of_getElem? hx) (fun y e3 => acc.length < sizeLine ∧ (e3 = e ∧ acc ++ [y] = (items.take (i + 1)).filterMap f)) (fun e2 => e2 = e ∧ acc = (items.take (i + 1)).filterMap f) (fun y hy => ⟨hal, rfl, ?_⟩) (fun hn => ⟨rfl, ?_⟩)
  · rw [ht, List.filterMap_append, ha]; simp [hy]
  · rw [ht, List.filterMap_append, ha]; simp [hn]
theorem quW_at {b0 : Bool} {g : WG} {tt : WT} {we : WE} {vs : List Nat} {items : List PyData} {env : PEnv} {Q : Bool → PEnv → Prop} (P : Nat → PEnv → Prop) (h0 : P 0 env)
    (hs : ∀ i x e, items[i]? = some x → P i e → g x e fun e1 => tt e1 fun b e2 => if b = true then we e2 fun y e3 => ∃ c, y = .bool c ∧ (if c = b0 then P (i + 1) (wipeE e3 vs) else Q (!b0) (wipeE e3 vs)) else P (i + 1) (wipeE e2 vs))
    (hd : ∀ e, P items.length e → Q b0 e) : quW b0 g tt we vs items env Q := by
  refine ⟨fun xs e => ∃ i, i + xs.length = items.length ∧ xs = items.drop i ∧ P i e, ⟨0, by simp, rfl, h0⟩, fun e ⟨i, h1, h2, h3⟩ => ?_, fun x xs e ⟨i, h1, h2, h3⟩ => ?_⟩
  · have : i = items.length := by simpa using h1
    subst this; exact hd e h3
  · have hx : items[i]? = some x := by
      have := congrArg (·[0]?) h2
      simpa using this.symm
    have hxs : xs = items.drop (i + 1) := by
      have := congrArg List.tail h2
      simpa using this
    have hl : i + 1 + xs.length = items.length := by simp at h1; omega
    have hP' : ∀ e, (∃ j, j + xs.length = items.length ∧ xs = items.drop j ∧ P j e) = P (i + 1) e := fun e => by
      refine propext ⟨fun ⟨j, a, _, c⟩ => ?_, fun c => ⟨i + 1, hl, hxs, c⟩⟩
      have : j = i + 1 := by omega
      rw [← this]; exact c
    simp only [hP']
    exact hs i x e hx h3
theorem quW_pure {b0 : Bool} {g : WG} {tt : WT} {we : WE} {vs : List Nat} {items : List PyData} {env : PEnv} {Q : Bool → PEnv → Prop} (p : PyData → Bool)
    (hs : ∀ x ∈ items, ∀ (Y : Bool → PEnv → Prop) (Z : PEnv → Prop), Y (p x) env → (p x = b0 → Z env) → g x env fun e1 => tt e1 fun b e2 => if b = true then we e2 fun y e3 => ∃ c, y = .bool c ∧ Y c (wipeE e3 vs) else Z (wipeE e2 vs))
    (hd : Q (if b0 then items.all p else items.any p) env) : quW b0 g tt we vs items env Q := by
  have tot : ∀ i x, items[i]? = some x → (p x = !b0) → (if b0 then items.all p else items.any p) = !b0 := fun i x hx hp => by
    have hm := List.mem_of_getElem? hx
    cases b0 with
    | true => simp only [if_true]; rw [Bool.not_true] at hp ⊢; exact List.all_eq_false.mpr ⟨x, hm, by simp [hp]⟩
    | false => simp only [Bool.false_eq_true, if_false]; rw [Bool.not_false] at hp ⊢; exact List.any_eq_true.mpr ⟨x, hm, hp⟩
  refine quW_at (fun i e => e = env ∧ ∀ j x, j < i → items[j]? = some x → p x = b0) ⟨rfl, fun j x h => by omega⟩ (fun i x e hx ⟨he, ha⟩ => ?_) (fun e ⟨he, ha⟩ => ?_)
  · subst he
    have nx : p x = b0 → ∀ j y, j < i + 1 → items[j]? = some y → p y = b0 := fun hb j y hj hy => by
      by_cases hji : j = i
      · subst hji; rw [hx] at hy; cases hy; exact hb
      · exact ha j y (by omega) hy
    refine hs x (List.mem_of_getElem? hx) (fun c e3 => if c = b0 then (e3 = e ∧ ∀ j y, j < i + 1 → items[j]? = some y → p y = b0) else Q (!b0) e3) (fun e3 => e3 = e ∧ ∀ j y, j < i + 1 → items[j]? = some y → p y = b0) ?_ (fun hb => ⟨rfl, nx hb⟩)
    by_cases hb : p x = b0
    · rw [if_pos hb]; exact ⟨rfl, nx hb⟩
    · rw [if_neg hb]
      have hb' : p x = !b0 := by cases h : p x <;> cases b0 <;> simp_all
      rw [← tot i x hx hb']; exact hd
  · subst he
    have hall : ∀ x ∈ items, p x = b0 := fun x hx => by
      obtain ⟨j, hj, e⟩ := List.getElem_of_mem hx
      exact ha j x hj (by rw [← e]; exact List.getElem?_eq_getElem hj)
    have : (if b0 then items.all p else items.any p) = b0 := by
      cases b0 with
      | true =>
        simp only [if_true]
        exact List.all_eq_true.mpr hall
      | false =>
        simp only [Bool.false_eq_true, if_false]
        exact List.any_eq_false.mpr fun x hx => by simp [hall x hx]
    rw [this] at hd; exact hd
def w_same (fwr : FW) : (Str → Prop) → WS := fun _ => (wSeq (wIfS (wOrT (wTst (wBin gIs (wB 1) (wO (wC .none)))) (wTst (wBin gIs (wB 0) (wO (wC .none))))) (wRet (wFz (wAndV (wBin gIs (wB 1) (wO (wC .none))) (wBin gIs (wB 0) (wO (wC .none)))))) wNext)
  (wSeq (wIfS (wOrT (wTru (wO (wIsi "tuple" (wB 1)))) (wTru (wO (wIsi "list" (wB 1))))) (wSeq (wIfS (wOrT (wTst (wBin gNe (wO (wIsi "tuple" (wB 1))) (wO (wIsi "tuple" (wB 0))))) (wTst (wBin gNe (wO (wIsi "list" (wB 1))) (wO (wIsi "list" (wB 0)))))) (wRet (wFz (wC (.bool false)))) wNext)
  (wSeq (wIfS (wTst (wBin gNe (wO (wCallB gLen (wOcons (wB 0) wOnil))) (wO (wCallB gLen (wOcons (wB 1) wOnil))))) (wRet (wFz (wC (.bool false)))) wNext)
  (wSeq (wFor (wiRange1 (wO (wCallB gLen (wOcons (wB 1) wOnil)))) (wgName 2) (wIfS (wNotT (wTru (wO (wVal (wCall 2 fwr (wAsFz (wBin gIx (wB 0) (wB 2)) (wAsFz (wBin gIx (wB 1) (wB 2)) wAsNil))))))) (wRet (wFz (wC (.bool false)))) wNext))
  (wRet (wFz (wC (.bool true))))))) wNext)
  (wSeq (wIfS (wTst (wBin gNe (wO (wIsi "bool" (wB 1))) (wO (wIsi "bool" (wB 0))))) (wRet (wFz (wC (.bool false)))) wNext)
  (wSeq (wIfS (wOrT (wTst (wBin gNe (wO (wIsi "int" (wB 1))) (wO (wIsi "int" (wB 0))))) (wTst (wBin gNe (wO (wIsi "str" (wB 1))) (wO (wIsi "str" (wB 0)))))) (wRet (wFz (wC (.bool false)))) wNext)
  (wRet (wFz (wBin gEq (wB 0) (wB 1))))))))

end VL
set_option Elab.async false
set_option linter.all false
set_option maxRecDepth 100000
set_option maxHeartbeats 2000000
namespace VL
open PySem PySem.Spec PyProof.Rows L2
/-- data without dicts, n deep at most -/
def okD : Nat → PyData → Prop
  | _, .none => True
  | _, .bool _ => True
  | _, .int _ => True
  | _, .str x => PyData.strOk x = true
  | _, .dict _ => False
  | 0, .list _ => False
  | 0, .tuple _ => False
  | n + 1, .list xs => xs.length ≤ 1000000 ∧ ∀ x ∈ xs, okD n x
  | n + 1, .tuple xs => xs.length ≤ 1000000 ∧ ∀ x ∈ xs, okD n x
/-- a = b -/
def sameW (n : Nat) : FW := fun args Q _ => match args with
  | [.fz a, .fz b] => okD n a ∧ okD n b ∧ (a = b → Q (.fz (.bool true))) ∧ (a ≠ b → Q (.fz (.bool false)))
  | _ => False
theorem sameW_at {n : Nat} {args : List Slot} {Q : Slot → Prop} {Ew : Str → Prop} (h : sameW n args Q Ew) : ∃ a b, args = [.fz a, .fz b] ∧ okD n a ∧ okD n b ∧ (a = b → Q (.fz (.bool true))) ∧ (a ≠ b → Q (.fz (.bool false))) := by
  unfold sameW at h
  split at h
  · exact ⟨_, _, rfl, h⟩
  · exact h.elim
def sameR : Nat → FW
  | 0 => fun _ _ _ => False
  | n + 1 => sameW n
@[simp] theorem shaped_s (x : Str) : SeqAt.shaped (.str x) = PyData.strOk x := by simp [SeqAt.shaped, PyData.canLay0, PyData.depth]
@[simp] theorem atI_nat {α : Type} (xs : List α) (i : Nat) : atI xs (i : Int) = xs[i]? := by
  unfold atI ixN
  by_cases h : i < xs.length
  · rw [if_pos (by omega), if_pos (by omega)]
    simp
  · rw [if_pos (by omega), if_neg (by omega), List.getElem?_eq_none (by omega)]
    rfl
theorem ext_upto {xs ys : List PyData} (hl : xs.length = ys.length) (h : ∀ j, j < ys.length → xs[j]? = ys[j]?) : xs = ys := by
  refine List.ext_getElem? fun j => ?_
  by_cases hj : j < ys.length
  · exact h j hj
  · rw [List.getElem?_eq_none (by omega), List.getElem?_eq_none (by omega)]
/-- the items one by one -/
theorem same_loop {n : Nat} {A B : PyData} {xs ys : List PyData} {D : WD} (hA : (A = .list xs ∧ B = .list ys) ∨ (A = .tuple xs ∧ B = .tuple ys)) (hl : xs.length = ys.length) (hx : ∀ x ∈ xs, ∃ m, n = m + 1 ∧ okD m x) (hy : ∀ x ∈ ys, ∃ m, n = m + 1 ∧ okD m x)
    (hn : xs = ys → ∀ e, D.nx e) (hr : xs ≠ ys → D.rt (.fz (.bool false))) :
    forW (wgName 2) (wIfS (wNotT (wTru (wO (wVal (wCall 2 (sameR n) (wAsFz (wBin gIx (wB 0) (wB 2)) (wAsFz (wBin gIx (wB 1) (wB 2)) wAsNil))))))) (wRet (wFz (wC (.bool false)))) wNext) D (rangeD 0 ys.length) [some (.fz A), some (.fz B), none] := by
  refine forW_range (fun i e => (∃ v, e = [some (.fz A), some (.fz B), v]) ∧ ∀ j, j < i → xs[j]? = ys[j]?) ⟨⟨_, rfl⟩, fun j h => by omega⟩ (fun i e hi ⟨⟨v, he⟩, hp⟩ => ?_) (fun e ⟨_, hp⟩ => hn (ext_upto hl hp) e)
  subst he
  have hix : i < xs.length := by omega
  obtain ⟨m, rfl, o1⟩ := hx xs[i] (List.getElem_mem hix)
  obtain ⟨m', em, o2⟩ := hy ys[i] (List.getElem_mem hi)
  have em : m = m' := by omega
  subst em
  have fin : okD m xs[i] ∧ okD m ys[i] ∧ (xs[i] = ys[i] → ∀ j, j < i + 1 → xs[j]? = ys[j]?) ∧ (¬ xs[i] = ys[i] → D.rt (.fz (.bool false))) := by
    refine ⟨o1, o2, fun e => ?_, fun e => ?_⟩
    · intro j hj
      by_cases hji : j = i
      · subst hji; rw [List.getElem?_eq_getElem hix, List.getElem?_eq_getElem hi, e]
      · exact hp j (by omega)
    · exact hr fun z => e (by subst z; rfl)
  rcases hA with ⟨rfl, rfl⟩ | ⟨rfl, rfl⟩
  · simpa [sameR, sameW, hix, hi] using fin
  · simpa [sameR, sameW, hix, hi] using fin
theorem same_step (n : Nat) (args : List Slot) (Q : Slot → Prop) (Ew : Str → Prop) (h : sameR (n + 1) args Q Ew) : fwOf 3 (w_same (sameR n)) args Q Ew := by
  obtain ⟨a, b, rfl, ha, hb, h1, h2⟩ := sameW_at (Ew := Ew) h
  cases a <;> cases b
  case list.list xs ys =>
    cases n with
    | zero => exact ha.elim
    | succ n =>
      by_cases hl : xs.length = ys.length
      · simp [w_same, hl]
        refine ⟨by have := hb.1; omega, ?_⟩
        refine same_loop (.inl ⟨rfl, rfl⟩) hl (fun x hx => ⟨n, rfl, ha.2 x hx⟩) (fun x hx => ⟨n, rfl, hb.2 x hx⟩) (fun e _ => ?_) (fun e => ?_)
        · simpa using h1 (by rw [e])
        · simpa using h2 (fun z => e (PyData.list.inj z))
      · simp [w_same]
        rw [if_neg (by omega)]
        exact h2 (fun z => hl (by rw [PyData.list.inj z]))
  case tuple.tuple xs ys =>
    cases n with
    | zero => exact ha.elim
    | succ n =>
      by_cases hl : xs.length = ys.length
      · simp [w_same, hl]
        refine ⟨by have := hb.1; omega, ?_⟩
        refine same_loop (.inr ⟨rfl, rfl⟩) hl (fun x hx => ⟨n, rfl, ha.2 x hx⟩) (fun x hx => ⟨n, rfl, hb.2 x hx⟩) (fun e _ => ?_) (fun e => ?_)
        · simpa using h1 (by rw [e])
        · simpa using h2 (fun z => e (PyData.tuple.inj z))
      · simp [w_same]
        rw [if_neg (by omega)]
        exact h2 (fun z => hl (by rw [PyData.tuple.inj z]))
  case bool.bool x y =>
    simp [w_same]
    by_cases e : x = y
    · subst e; simpa using h1 rfl
    · rw [beq_eq_false_iff_ne.mpr e]; exact h2 (fun z => e (PyData.bool.inj z))
  case int.int x y =>
    simp [w_same]
    by_cases e : x = y
    · subst e; simpa using h1 rfl
    · rw [beq_eq_false_iff_ne.mpr e]; exact h2 (fun z => e (PyData.int.inj z))
  case str.str x y =>
    simp [w_same]
    refine ⟨by cases n <;> exact ha, by cases n <;> exact hb, ?_⟩
    by_cases e : x = y
    · subst e; simpa using h1 rfl
    · rw [beq_eq_false_iff_ne.mpr e]; exact h2 (fun z => e (PyData.str.inj z))
  all_goals first
    | exact ha.elim
    | exact hb.elim
    | (cases n <;> exact ha.elim)
    | (cases n <;> exact hb.elim)
    | (simp [w_same]; first | exact h1 rfl | exact h2 (fun z => nomatch z))
end VL
set_option Elab.async false
set_option linter.all false
set_option maxRecDepth 100000
set_option maxHeartbeats 2000000
/-! VL17: the plain law of _law_draws. -/
namespace VL
open PySem PySem.Spec PyProof.Rows L2
def dIn : WS := wFor (wiRange1 (wO (wC (.int 60)))) (wgName 4) (wIfS (wTst (wBin gGt (wB 3) (wO (wC (.int 0))))) (wSeq (wExpr (wAppE 1 (wBin gMod (wO (wCallB gInt (wOcons (wB 3) wOnil))) (wO (wC (.int 997))))))
  (wSet 3 (wFz (wBin gFdiv (wB 3) (wO (wC (.int 997))))))) wNext)
def dFirst : WS := wSeq (wSet 5 (wFz (wBin gMod (wO (wCallB gInt (wOcons (wO (wBin gAdd (wO (wBin gMul (wB 3) (wO (wC (.int 48271))))) (wO (wC (.int 11))))) wOnil))) (wO (wC (.int 2147483647))))))
  (wSeq (wExpr (wAppE 1 (wBin gMod (wO (wCallB gInt (wOcons (wO (wBin gAdd (wO (wBin gMul (wB 5) (wO (wC (.int 69621))))) (wB 3))) wOnil))) (wO (wC (.int 2147483629))))))
  (wSeq (wExpr (wAppE 1 (wBin gMod (wO (wCallB gInt (wOcons (wO (wBin gAdd (wB 5) (wO (wBin gFdiv (wB 3) (wO (wC (.int 7))))))) wOnil))) (wO (wC (.int 1000003))))))
  (wSet 3 (wFz (wC (.int 0))))))
def dCell : WS := wSeq (wSet 3 (wFz (wCallB gAbs (wOcons (wB 2) wOnil))))
  (wSeq (wIfS (wTst (wBin gLt (wB 3) (wO (wBin gPow (wO (wC (.int 10))) (wO (wC (.int 18))))))) dFirst wNext) dIn)
def dSeed : WS := wFor (wiRange1 (wO (wC (.int 900)))) (wgName 4) (wSeq (wSet 6 (wFz (wBin gMod (wO (wCallB gInt (wOcons (wO (wBin gAdd (wO (wBin gMul (wB 6) (wO (wC (.int 48271))))) (wO (wC (.int 69621))))) wOnil))) (wO (wC (.int 2147483647))))))
  (wExpr (wAppE 1 (wBin gFdiv (wB 6) (wO (wC (.int 5)))))))
def w_draws : (Str → Prop) → WS := fun _ => wSeq (wSet 1 (wLst wNil))
  (wSeq (wFor (wiSc 0) (wgName 2) dCell)
  (wSeq (wSet 6 (wFz (wC (.int 1))))
  (wSeq (wIfS (wTst (wBin gGt (wO (wLenSc 0)) (wO (wC (.int 0))))) (wSet 6 (wFz (wBin gAdd (wO (wC (.int 1))) (wO (wCallB gAbs (wOcons (wO (wIxSc 0 (wC (.int 0)))) wOnil)))))) wNext)
  (wSeq dSeed (wRet (wLstRev (wB 1)))))))
@[simp ↓] def drawsW : FW := fun args Q _ => match args with
  | [.sc ns] => ns.length ≤ 63 ∧ Q .dr
  | _ => False
theorem log2_small {n : Nat} (h : n < 2 ^ 100) : n.log2 < 100 := by
  by_cases h0 : n = 0
  · subst h0; decide
  · exact (Nat.log2_lt h0).mpr h
def Draws' (n : Nat) (zs : List Int) : Prop := zs.length ≤ n ∧ ∀ z ∈ zs, DrawOk z
theorem Draws'.app {n : Nat} {zs : List Int} (h : Draws' n zs) {z : Int} (hz : 0 ≤ z) (hz' : z < 2147483648) : Draws' (n + 1) (zs ++ [z]) :=
  ⟨by rw [List.length_append]; have := h.1; simp; omega, fun y hy => by
    rcases List.mem_append.mp hy with q | q
    · exact h.2 y q
    · rw [List.mem_singleton.mp q]; exact ⟨hz, hz'⟩⟩
theorem dIn_ok {ns : List Int} {D : WD} {v2 v4 v5 v6 : Option Slot} {zs : List Int} {num : Int} {n : Nat} (hn : n ≤ 100000) (h : Draws' n zs) (h0 : 0 ≤ num)
    (k : ∀ zs' num' v4', Draws' (n + 60) zs' → D.nx [some (.sc ns), some (.ol (zs'.map .int)), v2, some (.fz (.int num')), v4', v5, v6]) :
    dIn D [some (.sc ns), some (.ol (zs.map .int)), v2, some (.fz (.int num)), v4, v5, v6] := by
  simp only [dIn, wFor, wiRange1, wO, wC, res, gRg1]
  refine ⟨by decide, ?_⟩
  refine forW_range (n := 60) (fun i e => ∃ zs' num' v4', e = [some (.sc ns), some (.ol (zs'.map .int)), v2, some (.fz (.int num')), v4', v5, v6] ∧ 0 ≤ num' ∧ Draws' (n + i) zs') ⟨zs, num, v4, rfl, h0, h⟩ (fun i e hi ⟨zs', num', v4', he, hp, hz⟩ => ?_) (fun e ⟨zs', num', v4', he, hp, hz⟩ => by subst he; exact k _ _ _ hz)
  subst he
  have hlen : zs'.length < sizeLine := by
    have := hz.1
    have hs : (200000 : Nat) < sizeLine := by decide
    omega
  by_cases hg : 0 < num'
  · simp [hg, hlen]
    have b1 := Int.emod_nonneg num' (b := 997) (by decide)
    have b2 := Int.emod_lt_of_pos num' (b := 997) (by decide)
    exact ⟨⟨by decide, by decide⟩, zs' ++ [num' % 997], num' / 997, ⟨by simp, rfl⟩, Int.ediv_nonneg hp (by decide), hz.app b1 (by omega)⟩
  · simp [hg]
    exact ⟨zs', num', ⟨rfl, rfl⟩, hp, by have := hz.1; omega, hz.2⟩
theorem dCell_ok {ns : List Int} {D : WD} {v3 v4 v5 v6 : Option Slot} {zs : List Int} {c : Int} {n : Nat} (hn : n ≤ 90000) (h : Draws' n zs)
    (k : ∀ zs' v2' v3' v4' v5', Draws' (n + 62) zs' → D.nx [some (.sc ns), some (.ol (zs'.map .int)), v2', v3', v4', v5', v6]) :
    dCell D [some (.sc ns), some (.ol (zs.map .int)), some (.fz (.int c)), v3, v4, v5, v6] := by
  have hlen : zs.length + 2 < sizeLine := by
    have := h.1
    have hs : (200000 : Nat) < sizeLine := by decide
    omega
  generalize hnum : (if c < 0 then -c else c) = num
  have h0 : 0 ≤ num := by rw [← hnum]; split <;> omega
  by_cases hg : num < 1000000000000000000
  · have l1 : num.natAbs.log2 < 100 := log2_small (by omega)
    have l2 : (48271 : Int).natAbs.log2 < 100 := log2_small (by decide)
    have l3 : (69621 : Int).natAbs.log2 < 100 := log2_small (by decide)
    generalize hf : (num * 48271 + 11) % 2147483647 = fi
    have f1 : 0 ≤ fi := by rw [← hf]; exact Int.emod_nonneg _ (by decide)
    have f2 : fi < 2147483647 := by rw [← hf]; exact Int.emod_lt_of_pos _ (by decide)
    have l4 : fi.natAbs.log2 < 100 := log2_small (by omega)
    have g1 := Int.emod_nonneg (fi * 69621 + num) (b := 2147483629) (by decide)
    have g2 := Int.emod_lt_of_pos (fi * 69621 + num) (b := 2147483629) (by decide)
    have g3 := Int.emod_nonneg (fi + num / 7) (b := 1000003) (by decide)
    have g4 := Int.emod_lt_of_pos (fi + num / 7) (b := 1000003) (by decide)
    have hd := (h.app g1 (by omega)).app g3 (by omega)
    have := dIn_ok (ns := ns) (D := D) (v2 := some (.fz (.int c))) (v4 := v4) (v5 := some (.fz (.int fi))) (v6 := v6) (num := 0) (n := n + 2) (by omega) hd (Int.le_refl _) (fun zs' num' v4' hz => k _ _ _ _ _ (by rw [show n + 62 = n + 2 + 60 by omega]; exact hz))
    simp [dCell, dFirst, hnum, hg, CPow, CDivW, hf]
    have l5 : Nat.log2 7 < 100 := log2_small (by decide)
    refine ⟨cmulA_r (by decide) (by decide), cmulA_r (by decide) (by decide), by omega, by omega, by omega, ?_⟩
    have e : (((zs ++ [(fi * 69621 + num) % 2147483629]) ++ [(fi + num / 7) % 1000003]).map PyData.int) = List.map PyData.int zs ++ [PyData.int ((fi * 69621 + num) % 2147483629), PyData.int ((fi + num / 7) % 1000003)] := by simp
    rw [e] at this
    exact this
  · simp [dCell, dFirst, hnum, hg, CPow]
    exact dIn_ok (n := n) (by omega) h h0 (fun zs' num' v4' hz => k _ _ _ _ _ ⟨by have := hz.1; omega, hz.2⟩)
theorem dSeed_ok {ns : List Int} {D : WD} {v2 v3 v4 v5 : Option Slot} {zs : List Int} {sd : Int} {n : Nat} (hn : n ≤ 100000) (h : Draws' n zs) (h0 : 0 ≤ sd)
    (k : ∀ (zs' : List Int) v4' v6', (∀ z ∈ zs', DrawOk z) → zs'.length < sizeLine → D.nx [some (.sc ns), some (.ol (zs'.map .int)), v2, v3, v4', v5, v6']) :
    dSeed D [some (.sc ns), some (.ol (zs.map .int)), v2, v3, v4, v5, some (.fz (.int sd))] := by
  simp only [dSeed, wFor, wiRange1, wO, wC, res, gRg1]
  have big : (200000 : Nat) < sizeLine := by decide
  refine ⟨by decide, ?_⟩
  refine forW_range (n := 900) (fun i e => ∃ zs' sd' v4', e = [some (.sc ns), some (.ol (zs'.map .int)), v2, v3, v4', v5, some (.fz (.int sd'))] ∧ 0 ≤ sd' ∧ Draws' (n + i) zs') ⟨zs, sd, v4, rfl, h0, h⟩ (fun i e hi ⟨zs', sd', v4', he, hp, hz⟩ => ?_)
    (fun e ⟨zs', sd', v4', he, hp, hz⟩ => by subst he; exact k _ _ _ hz.2 (by have := hz.1; omega))
  subst he
  have hlen : zs'.length < sizeLine := by
    have := hz.1
    omega
  generalize hf : (sd' * 48271 + 69621) % 2147483647 = fi
  have f1 : 0 ≤ fi := by rw [← hf]; exact Int.emod_nonneg _ (by decide)
  have f2 : fi < 2147483647 := by rw [← hf]; exact Int.emod_lt_of_pos _ (by decide)
  have l5 : Nat.log2 5 < 100 := log2_small (by decide)
  simp [hlen, CDivW, hf]
  exact ⟨cmulA_r (by decide) (by decide), by omega, zs' ++ [fi / 5], fi, ⟨by simp, rfl⟩, f1, hz.app (Int.ediv_nonneg f1 (by decide)) (by omega)⟩
theorem draws_law (args : List Slot) (Q : Slot → Prop) (Ew : Str → Prop) (h : drawsW args Q Ew) : drW (fwOf 7 w_draws) args Q Ew := by
  have h : ∃ ns : List Int, args = [.sc ns] ∧ ns.length ≤ 63 ∧ Q .dr := by
    unfold drawsW at h
    split at h
    · exact ⟨_, rfl, h⟩
    · exact h.elim
  obtain ⟨ns, rfl, hl, q⟩ := h
  unfold drW
  generalize hR : (fun s => ∃ ns : List Int, s = Slot.ol (ns.map .int) ∧ (∀ n ∈ ns, DrawOk n) ∧ Q .dr) = R
  simp [w_draws]
  refine forW_at (fun i e => ∃ zs v2 v3 v4 v5, e = [some (.sc ns), some (.ol (zs.map .int)), v2, v3, v4, v5, none] ∧ Draws' (62 * i) zs) ⟨[], none, none, none, none, rfl, Nat.zero_le _, fun z h => by cases h⟩ (fun i x e hx ⟨zs, v2, v3, v4, v5, he, hz⟩ => ?_) (fun e ⟨zs, v2, v3, v4, v5, he, hz⟩ => ?_)
  · subst he
    have hi := (List.getElem?_eq_some_iff.mp hx).1
    rw [List.length_map] at hi
    have hx' : ∃ c : Int, x = .int c := by
      have hm := List.mem_of_getElem? hx
      obtain ⟨c, _, e⟩ := List.mem_map.mp hm
      exact ⟨c, e.symm⟩
    obtain ⟨c, rfl⟩ := hx'
    exact dCell_ok (n := 62 * i) (by omega) hz (fun zs' a b c d hz' => ⟨zs', a, b, c, d, rfl, hz'⟩)
  · subst he
    have hl' : (62 * (ns.map PyData.int).length) ≤ 100000 := by rw [List.length_map]; omega
    have fin : ∀ (zs' : List Int), (∀ z ∈ zs', DrawOk z) → zs'.length < sizeLine → R (.ol (zs'.map PyData.int).reverse) := fun zs' hd _ => by
      rw [← hR]
      exact ⟨zs'.reverse, by rw [List.map_reverse], fun n hn => hd n (List.mem_reverse.mp hn), q⟩
    cases ns with
    | nil =>
      simp
      refine dSeed_ok (n := 62 * (([] : List Int).map PyData.int).length) hl' hz (by decide) (fun zs' a b hd hl2 => ?_)
      simpa using fin zs' hd hl2
    | cons c cs =>
      have ha : atI (c :: cs) (0 : Int) = some c := by
        have := atI_nat (c :: cs) 0
        simpa using this
      simp [ha]
      refine dSeed_ok (n := 62 * ((c :: cs).map PyData.int).length) hl' hz (by split <;> omega) (fun zs' a b hd hl2 => ?_)
      simpa using fin zs' hd hl2
end VL
set_option Elab.async false
set_option linter.all false
set_option maxRecDepth 100000
set_option maxHeartbeats 2000000
/-! VL18: is_number; defs that call themselves. -/
namespace VL
open PySem PySem.Spec PyProof.Rows L2
variable {τ : Tau}
theorem fn_rec {P : Program} {w : World} {K : PySem.W.Frag} {mg : Str → Option Value} {base : Heap} {x : Str} {f : Addr} {fd : FuncData} {ps : List Str} (W : Nat → FW) (h0 : ∀ a Q E, ¬ W 0 a Q E) (hm : mg x = some (.ref f)) (hk : PySem.W.keepIn K (.ref f) = true) (hb : Binds K fd ps [])
    (step : ∀ n, Cal τ P w K mg base n x ps (W n) → FnOk P w K mg base CX0 (n + 1) f fd ps (spW τ K mg ps.length (W (n + 1)))) : ∀ n, FnOk P w K mg base CX0 n f fd ps (spW τ K mg ps.length (W n)) := by
  intro n
  induction n with
  | zero => exact ⟨fun vs H Q E h => h.1, fun A outer s H args us vs Q E _ _ _ _ ⟨_, _, _, _, _, _, _, _, hf, _⟩ => absurd hf (h0 _ _ _)⟩
  | succ n ih => exact step n ⟨f, fd, ih, hm, hk, hb⟩
def w_isnum : (Str → Prop) → WS := fun _ => (wRet (wFz (wAndV (wIsi "int" (wB 0)) (wAndV (wNotV (wO (wIsi "bool" (wB 0)))) (wChain gLe gLe (wB 1) (wB 0) (wB 2))))))
def isNum (v : PyData) (a b : Int) : Bool := match v with
  | .int i => decide (a ≤ i) && decide (i ≤ b)
  | _ => false
@[simp] theorem isNum_i (i a b : Int) : isNum (.int i) a b = (decide (a ≤ i) && decide (i ≤ b)) := rfl
@[simp] theorem isNum_n (a b : Int) : isNum .none a b = false := rfl
@[simp] theorem isNum_b (c : Bool) (a b : Int) : isNum (.bool c) a b = false := rfl
@[simp] theorem isNum_s (c : Str) (a b : Int) : isNum (.str c) a b = false := rfl
@[simp] theorem isNum_l (c : List PyData) (a b : Int) : isNum (.list c) a b = false := rfl
@[simp] theorem isNum_t (c : List PyData) (a b : Int) : isNum (.tuple c) a b = false := rfl
@[simp ↓] def isnumW : FW := fun args Q _ => match args with
  | [.fz v, .fz (.int a), .fz (.int b)] => Q (.fz (.bool (isNum v a b)))
  | _ => False
theorem isnum_law (args : List Slot) (Q : Slot → Prop) (Ew : Str → Prop) (h : isnumW args Q Ew) : fwOf 3 w_isnum args Q Ew := by
  unfold isnumW at h
  split at h
  · rename_i v a b
    cases v with
    | int i =>
      simp [w_isnum]
      by_cases h1 : a ≤ i
      · simp [h1] at h ⊢; exact h
      · simp [h1] at h ⊢; exact h
    | bool c => simpa [w_isnum] using h
    | none => simpa [w_isnum] using h
    | str s => simpa [w_isnum] using h
    | list s => simpa [w_isnum] using h
    | tuple s => simpa [w_isnum] using h
    | dict s => simpa [w_isnum, isiD, isNum] using h
  · exact h.elim
end VL
set_option Elab.async false
set_option linter.all false
set_option maxRecDepth 100000
set_option maxHeartbeats 2000000
/-! VL19: small facts for the plain laws. -/
namespace VL
open PySem PySem.Spec PyProof.Rows L2
theorem sIx_nat (len dd n : Nat) : HT.sIx len dd (some (n : Int)) = min n len := by
  unfold HT.sIx
  simp
  omega
theorem cutD_drop (xs : List PyData) (n : Nat) : cutD xs (some (n : Int)) none = xs.drop n := by
  unfold cutD
  rw [sIx_nat]
  have h0 : HT.sIx xs.length xs.length none = xs.length := rfl
  rw [h0]
  by_cases h : n ≤ xs.length
  · rw [Nat.min_eq_left h]
    rw [List.take_of_length_le (by rw [List.length_drop]; omega)]
  · rw [Nat.min_eq_right (by omega), List.drop_length, List.drop_of_length_le (by omega)]
    simp
@[simp] theorem cutD_tail (xs : List PyData) : cutD xs (some 1) none = xs.tail := by
  have := cutD_drop xs 1
  rw [List.drop_one] at this
  exact this
theorem cutD_take (xs : List PyData) (n : Nat) : cutD xs none (some (n : Int)) = xs.take n := by
  unfold cutD
  rw [sIx_nat]
  have h0 : HT.sIx xs.length 0 none = 0 := rfl
  rw [h0, List.drop_zero, Nat.sub_zero]
  by_cases h : n ≤ xs.length
  · rw [Nat.min_eq_left h]
  · rw [Nat.min_eq_right (by omega), List.take_length, List.take_of_length_le (by omega)]
@[simp] theorem numsD_iL (hs : List Int) : numsD (hs.map PyData.int) = some hs := numsD_ints hs
theorem map_tail_int (hs : List Int) : (hs.map PyData.int).tail = hs.tail.map PyData.int := by simp
theorem ifold {p : Bool} {Q : Slot → Prop} (h : Q (.fz (.bool p))) : (if p = true then Q (.fz (.bool true)) else Q (.fz (.bool false))) := by
  cases p <;> simpa using h
theorem szle {n : Nat} (h : n ≤ 100000) : n ≤ sizeLine := by
  have : (100000 : Nat) ≤ sizeLine := by decide
  omega
theorem fm_if {α β : Type} {p : α → Bool} {g : α → β} {f : α → Option β} : ∀ {l : List α}, (∀ i ∈ l, f i = if p i = true then some (g i) else none) → l.filterMap f = (l.filter p).map g
  | [], _ => rfl
  | a :: l, h => by
    have ih := fm_if (l := l) fun i hi => h i (List.mem_cons_of_mem _ hi)
    have ha := h a List.mem_cons_self
    by_cases e : p a = true
    · rw [if_pos e] at ha
      rw [List.filterMap_cons_some ha, List.filter_cons_of_pos e, List.map_cons, ih]
    · rw [if_neg e] at ha
      rw [List.filterMap_cons_none ha, List.filter_cons_of_neg e, ih]
theorem fm_range {p : Nat → Bool} {g : Nat → PyData} {f : PyData → Option PyData} {lo : Int} {n : Nat} (h : ∀ i, i < n → f (.int (lo + (i : Nat))) = if p i = true then some (g i) else none) : (rangeD lo n).filterMap f = ((List.range n).filter p).map g := by
  unfold rangeD
  rw [List.filterMap_map]
  exact fm_if fun i hi => h i (List.mem_range.mp hi)
theorem rangeD_mem {lo : Int} {n : Nat} {x : PyData} (hx : x ∈ rangeD lo n) : ∃ i : Nat, i < n ∧ x = .int (lo + (i : Nat)) := by
  obtain ⟨j, hj, e⟩ := List.getElem_of_mem hx
  obtain ⟨h1, h2⟩ := rangeD_at (List.getElem?_eq_getElem hj)
  exact ⟨j, h1, by rw [← e, h2]⟩
end VL
set_option Elab.async false
set_option linter.all false
set_option maxRecDepth 100000
set_option maxHeartbeats 2000000
/-! VL20: local dicts: {}, d[k], d[k] = v, k in d, len(d). -/
namespace VL
open PySem PySem.Spec PyProof.Rows L2
variable {τ : Tau}
def keyOf : PyData → Option Key
  | .int i => some (.inl i)
  | .str x => some (.inr x)
  | _ => none
def keysOf : List PyData → Option (List Key)
  | [] => some []
  | d :: r => match keyOf d, keysOf r with
    | some k, some ks => some (k :: ks)
    | _, _ => none
def keyD : Key → PyData
  | .inl i => .int i
  | .inr x => .str x
section
variable {κ : Type} [DecidableEq κ]
def valD (kvs : List (κ × PyData)) (k : κ) : Option PyData := (kvs.find? fun kv => decide (kv.1 = k)).map (·.2)
def putD (kvs : List (κ × PyData)) (k : κ) (v : PyData) : List (κ × PyData) :=
  if (kvs.any fun kv => decide (kv.1 = k)) = true then kvs.map (fun kv => if kv.1 = k then (kv.1, v) else kv) else kvs ++ [(k, v)]
theorem kvs_val {K : PySem.W.Frag} {F : Hp} {ys : List (κ × V)} {kvs : List (κ × PyData)} (k : κ) (h : KVs K F ys kvs) : (valV ys k = none ∧ valD kvs k = none) ∨ ∃ v d, valV ys k = some v ∧ valD kvs k = some d ∧ Rp K F v d := by
  induction h with
  | nil => exact .inl ⟨rfl, rfl⟩
  | @cons p q ps qs r t ih =>
    obtain ⟨e, r⟩ := r
    by_cases hk : p.1 = k
    · refine .inr ⟨p.2, q.2, ?_, ?_, r⟩
      · simp [valV, List.find?_cons, hk]
      · simp [valD, List.find?_cons, ← e, hk]
    · have e1 : valV (p :: ps) k = valV ps k := by simp [valV, List.find?_cons, hk]
      have e2 : valD (q :: qs) k = valD qs k := by simp [valD, List.find?_cons, ← e, hk]
      rw [e1, e2]; exact ih
theorem kvs_any {K : PySem.W.Frag} {F : Hp} {ys : List (κ × V)} {kvs : List (κ × PyData)} (k : κ) (h : KVs K F ys kvs) : (ys.any fun kv => decide (kv.1 = k)) = (kvs.any fun kv => decide (kv.1 = k)) := by
  induction h with
  | nil => rfl
  | cons r t ih => rw [List.any_cons, List.any_cons, ih, r.1]
omit [DecidableEq κ] in
theorem kvs_map' {K : PySem.W.Frag} {F : Hp} {f : κ × V → κ × V} {g : κ × PyData → κ × PyData} (fg : ∀ a b, (a.1 = b.1 ∧ Rp K F a.2 b.2) → ((f a).1 = (g b).1 ∧ Rp K F (f a).2 (g b).2)) {ys : List (κ × V)} {kvs : List (κ × PyData)} (h : KVs K F ys kvs) : KVs K F (ys.map f) (kvs.map g) := by
  induction h with
  | nil => exact .nil
  | cons r t ih => exact .cons (fg _ _ r) ih
omit [DecidableEq κ] in
theorem kvs_snoc {K : PySem.W.Frag} {F : Hp} (k : κ) {v : V} {d : PyData} (p : Rp K F v d) {ys : List (κ × V)} {kvs : List (κ × PyData)} (h : KVs K F ys kvs) : KVs K F (ys ++ [(k, v)]) (kvs ++ [(k, d)]) := by
  induction h with
  | nil => exact .cons ⟨rfl, p⟩ .nil
  | cons r t ih => exact .cons r ih
theorem kvs_put {K : PySem.W.Frag} {F : Hp} {ys : List (κ × V)} {kvs : List (κ × PyData)} (k : κ) {v : V} {d : PyData} (p : Rp K F v d) (h : KVs K F ys kvs) : KVs K F (putK ys k v) (putD kvs k d) := by
  unfold putK putD
  rw [kvs_any k h]
  split
  · refine kvs_map' (fun a b r => ?_) h
    rw [r.1]
    split
    · exact ⟨rfl, p⟩
    · exact r
  · exact kvs_snoc k p h
theorem kvs_len {K : PySem.W.Frag} {F : Hp} {ys : List (κ × V)} {kvs : List (κ × PyData)} (h : KVs K F ys kvs) : ys.length = kvs.length := Paired.length h
theorem put_keys (kvs : List (κ × PyData)) (k : κ) (d : PyData) (h : (kvs.map (·.1)).Nodup) : ((putD kvs k d).map (·.1)).Nodup := by
  unfold putD
  split
  · rename_i hk
    rw [List.map_map]
    have : ((fun x : κ × PyData => x.1) ∘ fun kv : κ × PyData => if kv.1 = k then (kv.1, d) else kv) = fun x => x.1 := by
      funext x
      simp only [Function.comp]
      split <;> rfl
    rw [this]; exact h
  · rename_i hk
    rw [List.map_append]
    refine List.nodup_append.mpr ⟨h, by simp, fun a ha b hb => ?_⟩
    simp at hb
    subst hb
    intro e
    subst e
    obtain ⟨q, hq, e⟩ := List.mem_map.mp ha
    exact hk (List.any_eq_true.mpr ⟨q, hq, by simp [e]⟩)
end
theorem keyOf_rp {K : PySem.W.Frag} {F : Hp} {y : V} {d : PyData} {k : Key} (p : Rp K F y d) (h : keyOf d = some k) : y = kV k := by
  cases p <;> cases h <;> rfl
theorem keysOf_rp {K : PySem.W.Frag} {F : Hp} : ∀ {ys : List V} {ds : List PyData} {ks : List Key}, RpL K F ys ds → keysOf ds = some ks → ys = ks.map kV
  | _, _, _, .nil, h => by cases h; rfl
  | _, _, _, .cons (d := d) (ds := ds) p l, h => by
    unfold keysOf at h
    cases e1 : keyOf d with
    | none => rw [e1] at h; cases h
    | some k =>
      cases e2 : keysOf ds with
      | none => rw [e1, e2] at h; cases h
      | some ks =>
        rw [e1, e2] at h
        cases h
        rw [keyOf_rp p e1, keysOf_rp l e2]; rfl
section
variable {X : Cx} {R : Root τ} {e : Expr} {p p2 pos pos2 : Pos} {x : Str} {i : Nat}
variable {K : PySem.W.Frag} {F H : Hp} {env : PEnv} {σ : L2.St}
theorem od_at {kvs : List (Key × PyData)} (r : Rel K R F env σ H) (h : env[i]? = some (some (.od kvs))) : ∃ a ys, σ[i]? = some (some (.ref a)) ∧ Own R F a ∧ H a = some (.dK ys) ∧ KVs K F ys kvs ∧ (kvs.map (·.1)).Nodup := by
  obtain ⟨v, h1, a, xs, rfl, h2⟩ := r.sl i _ h
  exact ⟨a, xs, h1, h2⟩
theorem ot_at {kvs : List (List Key × PyData)} (r : Rel K R F env σ H) (h : env[i]? = some (some (.ot kvs))) : ∃ a ys, σ[i]? = some (some (.ref a)) ∧ Own R F a ∧ H a = some (.dT ys) ∧ KVs K F ys kvs ∧ (kvs.map (·.1)).Nodup := by
  obtain ⟨v, h1, a, xs, rfl, h2⟩ := r.sl i _ h
  exact ⟨a, xs, h1, h2⟩
/-- a new empty dict -/
@[simp ↓] def wNewK : WF := fun env Q => Q (.od []) env
@[simp ↓] def wNewT : WF := fun env Q => Q (.ot []) env
theorem own_new {a : Addr} (r : Rel K R F env σ H) (hp : H a = none) : Own R F a := by
  refine ⟨?_, ?_, ?_⟩
  · cases q : F a with
    | none => rfl
    | some u => have := r.sub a u q; rw [hp] at this; cases this
  · cases q : R.H0 a with
    | none => rfl
    | some u =>
      cases ht : isTbl u with
      | true =>
        cases u <;> first | cases ht | skip
        obtain ⟨m, e⟩ := r.tabs a _ q
        rw [hp] at e; cases e
      | false =>
        by_cases hd : R.d = some a
        · obtain ⟨_, _, ns, e, _⟩ := r.drw a hd
          rw [hp] at e; cases e
        · have e := r.frame a u q ht hd
          rw [hp] at e; cases e
  · cases q : R.keep a with
    | none => rfl
    | some u =>
      obtain ⟨h1, _⟩ := r.kp a u q
      rw [hp] at h1; cases h1
theorem cf_dnewK : CF X R (.Dict [] [] pos) wNewK := pe_imp pe_dnewK fun σ H Q ⟨F, env, Qw, r, w, k⟩ => fun a ha =>
  k F env _ _ (.od []) (Same.refl F) (r.up (r.toBase.allocO ha rfl) (Same.refl F)) ⟨a, [], rfl, own_new r ha, upd_same, .nil, List.nodup_nil⟩ (r.fresh ha _) w
theorem cf_dnewT : CF X R (.Dict [] [] pos) wNewT := pe_imp pe_dnewT fun σ H Q ⟨F, env, Qw, r, w, k⟩ => fun a ha =>
  k F env _ _ (.ot []) (Same.refl F) (r.up (r.toBase.allocO ha rfl) (Same.refl F)) ⟨a, [], rfl, own_new r ha, upd_same, .nil, List.nodup_nil⟩ (r.fresh ha _) w
/-- what slot i, a dict, holds at the key y -/
@[simp ↓] def dAt (env : PEnv) (i : Nat) (y : PyData) (Q : Option PyData → Prop) : Prop := match env[i]? with
  | some (some (.od kvs)) => ∃ k, keyOf y = some k ∧ Q (valD kvs k)
  | some (some (.ot kvs)) => ∃ ds ks, y = .tuple ds ∧ keysOf ds = some ks ∧ Q (valD kvs ks)
  | _ => False
@[simp ↓] def isDict (env : PEnv) (i : Nat) : Prop := match env[i]? with
  | some (some (.od _)) => True
  | some (some (.ot _)) => True
  | _ => False
theorem dAt_ok {y : V} {d : PyData} {Q : Option PyData → Prop} (r : Rel K R F env σ H) (py : Rp K F y d) (w : dAt env i d Q) : ∃ a o od, σ[i]? = some (some (.ref a)) ∧ DGet H a y o ∧ Q od ∧ ((o = none ∧ od = none) ∨ ∃ v u, o = some v ∧ od = some u ∧ Rp K F v u) := by
  unfold dAt at w
  split at w
  · rename_i kvs hi
    obtain ⟨k, hk, q⟩ := w
    obtain ⟨a, ys, h1, ow, h2, l, _⟩ := od_at r hi
    obtain rfl := keyOf_rp py hk
    exact ⟨a, valV ys k, _, h1, .k h2, q, kvs_val k l⟩
  · rename_i kvs hi
    obtain ⟨ds, ks, rfl, hk, q⟩ := w
    obtain ⟨a, ys, h1, ow, h2, l, _⟩ := ot_at r hi
    cases py with
    | tup ht lt =>
      obtain rfl := keysOf_rp lt hk
      exact ⟨a, valV ys ks, _, h1, .t h2 (r.sub _ _ ht), q, kvs_val ks l⟩
  · cases w
theorem isDict_at (r : Rel K R F env σ H) (w : isDict env i) : ∃ a, σ[i]? = some (some (.ref a)) := by
  unfold isDict at w
  split at w
  · rename_i kvs hi
    obtain ⟨a, ys, h1, _⟩ := od_at r hi
    exact ⟨a, h1⟩
  · rename_i kvs hi
    obtain ⟨a, ys, h1, _⟩ := ot_at r hi
    exact ⟨a, h1⟩
  · cases w
/-- d[e] -/
@[simp ↓] def wDGet (i : Nat) (we : WE) : WE := fun env Q => isDict env i ∧ we env fun y e1 => dAt e1 i y fun o => ∃ v, o = some v ∧ Q v e1
theorem ce_dget {we : WE} (hu : X.A.units + 1 < cLine) (h : PE X (.Name x p) (tVar i)) (he : CE X R e we) (hs : NoSl e) : CE X R (.Subscript (.Name x p) e pos) (wDGet i we) :=
  pe_imp (pe_dget hu h he hs) fun σ H Q ⟨F, env, Qw, r, ⟨hd, w⟩, k⟩ => by
    obtain ⟨a0, h0⟩ := isDict_at r hd
    refine ⟨_, h0, F, env, _, r, w, fun F1 e1 H1 y dy f1 r1 p1 w1 => ?_⟩
    obtain ⟨a, o, od, h1, g, ⟨v, ev, q⟩, hv⟩ := dAt_ok r1 p1 w1
    rw [h0] at h1; cases h1
    subst ev
    rcases hv with ⟨_, z⟩ | ⟨u, v', e1, e2, pv⟩
    · cases z
    · cases e2; subst e1
      exact ⟨a0, u, rfl, g, k _ _ _ _ _ f1 r1 pv q⟩
/-- e in d -/
@[simp ↓] def wDIn (b : Bool) (i : Nat) (we : WE) : WE := fun env Q => we env fun y e1 => dAt e1 i y fun o => Q (.bool (o.isSome == b)) e1
theorem pc_imp {op : CmpOp} {a b : Expr} {t t' : TE} (h : PC X op a b t) (i : ∀ σ H Q, t' σ H Q → t σ H Q) : PC X op a b t' := ⟨fun pins s σ H Q I q => h.run pins s σ H Q I (i σ H Q q)⟩
theorem pc_dinW {we : WE} (hu : X.A.units + 1 < cLine) (h : PE X (.Name x p) (tVar i)) (he : CE X R e we) : PC X .In e (.Name x p) (rdE X.K R (wDIn true i we)) :=
  pc_imp (pc_din hu he h) fun σ H Q ⟨F, env, Qw, r, w, k⟩ => by
    refine ⟨F, env, _, r, w, fun F1 e1 H1 y dy f1 r1 p1 w1 => ?_⟩
    obtain ⟨a, o, od, h1, g, q, hv⟩ := dAt_ok r1 p1 w1
    refine ⟨_, h1, a, o, rfl, g, k _ _ _ _ _ f1 r1 ?_ q⟩
    rcases hv with ⟨z1, z2⟩ | ⟨u, v', e1, e2, pv⟩
    · subst z1; subst z2; exact .bl _
    · subst e1; subst e2; exact .bl _
theorem pc_dninW {we : WE} (hu : X.A.units + 1 < cLine) (h : PE X (.Name x p) (tVar i)) (he : CE X R e we) : PC X .NotIn e (.Name x p) (rdE X.K R (wDIn false i we)) :=
  pc_imp (pc_dnotin hu he h) fun σ H Q ⟨F, env, Qw, r, w, k⟩ => by
    refine ⟨F, env, _, r, w, fun F1 e1 H1 y dy f1 r1 p1 w1 => ?_⟩
    obtain ⟨a, o, od, h1, g, q, hv⟩ := dAt_ok r1 p1 w1
    refine ⟨_, h1, a, o, rfl, g, k _ _ _ _ _ f1 r1 ?_ q⟩
    rcases hv with ⟨z1, z2⟩ | ⟨u, v', e1, e2, pv⟩
    · subst z1; subst z2; exact .bl _
    · subst e1; subst e2; exact .bl _
theorem ce_din {we : WE} (hu : X.A.units + 1 < cLine) (h : PE X (.Name x p) (tVar i)) (he : CE X R e we) : CE X R (.Compare e [.In] [.Name x p] pos) (wDIn true i we) := pe_cmp (pc_dinW hu h he) rfl
theorem ce_dnin {we : WE} (hu : X.A.units + 1 < cLine) (h : PE X (.Name x p) (tVar i)) (he : CE X R e we) : CE X R (.Compare e [.NotIn] [.Name x p] pos) (wDIn false i we) := pe_cmp (pc_dninW hu h he) rfl
theorem ct_din {we : WE} (hu : X.A.units + 1 < cLine) (h : PE X (.Name x p) (tVar i)) (he : CE X R e we) : CT X R (.Compare e [.In] [.Name x p] pos) (wTst (wDIn true i we)) := pt_imp (pt_cmp (pc_dinW hu h he) rfl) (wTst_rd fun _ _ _ z => z)
theorem ct_dnin {we : WE} (hu : X.A.units + 1 < cLine) (h : PE X (.Name x p) (tVar i)) (he : CE X R e we) : CT X R (.Compare e [.NotIn] [.Name x p] pos) (wTst (wDIn false i we)) := pt_imp (pt_cmp (pc_dninW hu h he) rfl) (wTst_rd fun _ _ _ z => z)
/-- slot i, a dict, with v at the key y -/
@[simp ↓] def dSet (env : PEnv) (i : Nat) (y v : PyData) (Q : PEnv → Prop) : Prop := match env[i]? with
  | some (some (.od kvs)) => ∃ k, keyOf y = some k ∧ kvs.length < sizeLine ∧ Q (env.set i (some (.od (putD kvs k v))))
  | some (some (.ot kvs)) => ∃ ds ks, y = .tuple ds ∧ keysOf ds = some ks ∧ kvs.length < sizeLine ∧ Q (env.set i (some (.ot (putD kvs ks v))))
  | _ => False
theorem dSet_ok {y v : V} {d dv : PyData} {Q : PEnv → Prop} (r : Rel K R F env σ H) (py : Rp K F y d) (pv : Rp K F v dv) (w : dSet env i d dv Q) : ∃ a H' env', σ[i]? = some (some (.ref a)) ∧ DPut H a y v H' ∧ Rel K R F env' σ H' ∧ Q env' := by
  unfold dSet at w
  have nd : ∀ {a : Addr}, Own R F a → R.d = some a → False := fun ow hd => by
    obtain ⟨_, ⟨o, ho⟩, _⟩ := r.drw _ hd
    rw [ow.2.1] at ho; cases ho
  split at w
  · rename_i kvs hi
    obtain ⟨k, hk, hl, q⟩ := w
    obtain ⟨a, ys, h1, ow, h2, l, nn⟩ := od_at r hi
    obtain rfl := keyOf_rp py hk
    refine ⟨a, _, _, h1, .k h2 (by rw [kvs_len l]; exact hl), r.write (s' := .od (putD kvs k dv)) hi rfl rfl h1 h2 ow.1 ow.2.2 (.inl ow.2.1) rfl (fun hd => (nd ow hd).elim) ⟨a, _, rfl, ow, upd_same, kvs_put k pv l, put_keys kvs k dv nn⟩, q⟩
  · rename_i kvs hi
    obtain ⟨ds, ks, rfl, hk, hl, q⟩ := w
    obtain ⟨a, ys, h1, ow, h2, l, nn⟩ := ot_at r hi
    cases py with
    | tup ht lt =>
      obtain rfl := keysOf_rp lt hk
      refine ⟨a, _, _, h1, .t h2 (r.sub _ _ ht) (by rw [kvs_len l]; exact hl), r.write (s' := .ot (putD kvs ks dv)) hi rfl rfl h1 h2 ow.1 ow.2.2 (.inl ow.2.1) rfl (fun hd => (nd ow hd).elim) ⟨a, _, rfl, ow, upd_same, kvs_put ks pv l, put_keys kvs ks dv nn⟩, q⟩
  · cases w
/-- d[e] = v -/
@[simp ↓] def wDPut (i : Nat) (we wv : WE) : WS := fun D env => wv env fun v e1 => isDict e1 i ∧ we e1 fun y e2 => dSet e2 i y v D.nx
theorem cs_dput {value : Expr} {we wv : WE} (hu : X.A.units + 1 < cLine) (h : PE X (.Name x p) (tVar i)) (he : CE X R e we) (hv : CE X R value wv) (hs : swapsWith value (some (.Subscript (.Name x p) e pos2)) pos.line X.env = pure false := by rfl) :
    CS X R (.Assign [.Subscript (.Name x p) e pos2] value pos) (wDPut i we wv) :=
  ps_imp (ps_dput hu h he hv hs) fun D σ H ⟨F, env, W, r, w, l⟩ => by
    refine ⟨F, env, _, r, w, fun F1 e1 H1 v dv f1 r1 p1 w1 => ?_⟩
    obtain ⟨hd, w1⟩ := w1
    obtain ⟨a0, h0⟩ := isDict_at r1 hd
    refine ⟨_, h0, F1, e1, _, r1, w1, fun F2 e2 H2 y dy f2 r2 p2 w2 => ?_⟩
    obtain ⟨a, H', env', h1, g, r3, q⟩ := dSet_ok r2 p2 (rp_mono f2 _ _ p1) w2
    rw [h0] at h1; cases h1
    exact ⟨a0, H', rfl, g, l.nx F2 env' σ H' (f1.trans f2) r3 q⟩
end
end VL
set_option Elab.async false
set_option linter.all false
set_option maxRecDepth 100000
set_option maxHeartbeats 2000000
/-! VL21: max and min. -/
namespace VL
open PySem PySem.Spec PyProof.Rows L2
variable {τ : Tau}
def rBest (K : PySem.W.Frag) (best : PyData → List PyData → PyData) : List V → Hp → VK → Prop := fun vs H Q => ∃ a ys x xs, vs = [V.ref a] ∧ (SqL K H a ys ∨ SqT K H a ys) ∧ DpAll K H ys (x :: xs) ∧ W.AlikeAll (x :: xs) ∧ PyData.depthAll (x :: xs) ≤ 62 ∧
  ∀ (i : Nat) (y : V), ys[i]? = some y → (x :: xs)[i]? = some (best x xs) → Q y H
section
variable {X : Cx}
theorem best_fin {pins : List (Addr × Obj)} {σ : L2.St} {H : Hp} {s : Shared} {ys : List V} {Q : VK} {best : PyData → List PyData → PyData} {x : PyData} {xs : List PyData} (I : Inv X pins σ H s) (q : ∀ (i : Nat) (y : V), ys[i]? = some y → (x :: xs)[i]? = some (best x xs) → Q y H) (hl : ys.length = (x :: xs).length)
    {its : List Value} (rv : Vals ys its) {v : Value} {i : Nat} (hv : its.toArray[i]? = some v) (hm : (x :: xs).getD i .none = best x xs) (h' : Heap) (tk : Nat) (hk : ∀ b o, s.heap.get? b = some o → h'.get? b = some o) : EP X pins σ Q v { s with heap := h', toks := tk } := by
  have hv : its[i]? = some v := by simpa using hv
  have hl1 := rv.length
  have hi : i < its.length := (List.getElem?_eq_some_iff.mp hv).1
  have hi2 : i < (x :: xs).length := by omega
  obtain ⟨y, hy⟩ : ∃ y, ys[i]? = some y := ⟨_, List.getElem?_eq_getElem (by omega)⟩
  obtain ⟨u, hu, ru⟩ := rv.get hy
  rw [hv] at hu; cases hu
  refine ⟨y, H, I.kept hk, ru, q i y hy ?_⟩
  rw [← hm, List.getD_eq_getElem?_getD, List.getElem?_eq_getElem hi2]; rfl
theorem cr_maxD (hc : X.calm = true) (hu : X.A.units + 64 < cLine) : CallR X (.builtin "max") (rBest X.K W.maxD) := by
  intro pins s σ H vs us Q I r h
  obtain ⟨a, ys, x, xs, rfl, hs, l, hal, hd, q⟩ := h
  rw [Vals.ref1 r]
  rcases hs with hs | hs
  · obtain ⟨its, rv, hl, _⟩ := I.list hs
    obtain ⟨as, hr⟩ := Dp.readsAll I _ _ _ l rv
    have hr : ReadsAll s.heap its.toArray.toList (x :: xs) as := hr
    have hn : its.toArray.size = xs.length + 1 := W.readsAll_len hr
    refine PySem.call_max_walkH (W.iter_listW (A := X.A.in1) (I.ok.hd hc) hl.isList fun s₂ e Wk st hfp hw hk => ?_)
    refine ⟨_, _, _, _, _, _, _, s.heap, _, rfl, Wk, st, hfp, by omega, hw, hk, W.cmpIn_gt (A := X.A.in1) hr hal (by show X.A.units + 1 + _ < _; omega), fun v s' hP m => ?_⟩
    obtain ⟨h', tk, rfl, hk'⟩ := W.moved_old e rfl m
    have e2 := (W.argBest_fold (fun a b => W.dataLt b a) PyData.none x xs xs.length (Nat.le_refl _)).2
    rw [List.take_length] at e2
    have e1 : its.toArray.size - 1 = xs.length := by omega
    rw [e1] at hP
    exact best_fin I q (by rw [rv.length]; simpa using hn) rv hP e2 h' tk hk'
  · obtain ⟨its, rv, hl, _⟩ := I.tuple hs
    obtain ⟨as, hr⟩ := Dp.readsAll I _ _ _ l rv
    have hr : ReadsAll s.heap its.toArray.toList (x :: xs) as := hr
    have hn : its.toArray.size = xs.length + 1 := W.readsAll_len hr
    refine PySem.call_max_walkH (W.iter_tupleW (A := X.A.in1) (I.ok.hd hc) hl fun s₂ e Wk st hfp hw hk => ?_)
    refine ⟨_, _, _, _, _, _, _, s.heap, _, rfl, Wk, st, hfp, by omega, hw, hk, W.cmpIn_gt (A := X.A.in1) hr hal (by show X.A.units + 1 + _ < _; omega), fun v s' hP m => ?_⟩
    obtain ⟨h', tk, rfl, hk'⟩ := W.moved_old e rfl m
    have e2 := (W.argBest_fold (fun a b => W.dataLt b a) PyData.none x xs xs.length (Nat.le_refl _)).2
    rw [List.take_length] at e2
    have e1 : its.toArray.size - 1 = xs.length := by omega
    rw [e1] at hP
    exact best_fin I q (by rw [rv.length]; simpa using hn) rv hP e2 h' tk hk'
theorem cr_minD (hc : X.calm = true) (hu : X.A.units + 64 < cLine) : CallR X (.builtin "min") (rBest X.K W.minD) := by
  intro pins s σ H vs us Q I r h
  obtain ⟨a, ys, x, xs, rfl, hs, l, hal, hd, q⟩ := h
  rw [Vals.ref1 r]
  rcases hs with hs | hs
  · obtain ⟨its, rv, hl, _⟩ := I.list hs
    obtain ⟨as, hr⟩ := Dp.readsAll I _ _ _ l rv
    have hr : ReadsAll s.heap its.toArray.toList (x :: xs) as := hr
    have hn : its.toArray.size = xs.length + 1 := W.readsAll_len hr
    refine PySem.call_min_walkH (W.iter_listW (A := X.A.in1) (I.ok.hd hc) hl.isList fun s₂ e Wk st hfp hw hk => ?_)
    refine ⟨_, _, _, _, _, _, _, s.heap, _, rfl, Wk, st, hfp, by omega, hw, hk, W.cmpIn_lt (A := X.A.in1) hr hal (by show X.A.units + 1 + _ < _; omega), fun v s' hP m => ?_⟩
    obtain ⟨h', tk, rfl, hk'⟩ := W.moved_old e rfl m
    have e2 := (W.argBest_fold (fun a b => W.dataLt a b) PyData.none x xs xs.length (Nat.le_refl _)).2
    rw [List.take_length] at e2
    have e1 : its.toArray.size - 1 = xs.length := by omega
    rw [e1] at hP
    exact best_fin I q (by rw [rv.length]; simpa using hn) rv hP e2 h' tk hk'
  · obtain ⟨its, rv, hl, _⟩ := I.tuple hs
    obtain ⟨as, hr⟩ := Dp.readsAll I _ _ _ l rv
    have hr : ReadsAll s.heap its.toArray.toList (x :: xs) as := hr
    have hn : its.toArray.size = xs.length + 1 := W.readsAll_len hr
    refine PySem.call_min_walkH (W.iter_tupleW (A := X.A.in1) (I.ok.hd hc) hl fun s₂ e Wk st hfp hw hk => ?_)
    refine ⟨_, _, _, _, _, _, _, s.heap, _, rfl, Wk, st, hfp, by omega, hw, hk, W.cmpIn_lt (A := X.A.in1) hr hal (by show X.A.units + 1 + _ < _; omega), fun v s' hP m => ?_⟩
    obtain ⟨h', tk, rfl, hk'⟩ := W.moved_old e rfl m
    have e2 := (W.argBest_fold (fun a b => W.dataLt a b) PyData.none x xs xs.length (Nat.le_refl _)).2
    rw [List.take_length] at e2
    have e1 : its.toArray.size - 1 = xs.length := by omega
    rw [e1] at hP
    exact best_fin I q (by rw [rv.length]; simpa using hn) rv hP e2 h' tk hk'
end
/-- max(xs) of alike data; max(i, j) -/
def rMax2 (K : PySem.W.Frag) : List V → Hp → VK → Prop := fun xs H Q => (∃ i j, xs = [.int i, .int j] ∧ Q (.int (if j > i then j else i)) H) ∨ rBest K W.maxD xs H Q
def rMin2 (K : PySem.W.Frag) : List V → Hp → VK → Prop := fun xs H Q => (∃ i j, xs = [.int i, .int j] ∧ Q (.int (if j < i then j else i)) H) ∨ rBest K W.minD xs H Q
section
variable {X : Cx} {K : PySem.W.Frag} {R : Root τ}
theorem call_max (hc : X.calm = true) (hu : X.A.units + 64 < cLine) : CallR X (.builtin "max") (rMax2 X.K) := by
  intro pins s σ H vs us Q I r h
  rcases h with h | h
  · exact call_max2 hc pins s σ H vs us Q I r h
  · exact cr_maxD hc hu pins s σ H vs us Q I r h
theorem call_min (hc : X.calm = true) (hu : X.A.units + 64 < cLine) : CallR X (.builtin "min") (rMin2 X.K) := by
  intro pins s σ H vs us Q I r h
  rcases h with h | h
  · exact call_min2 hc pins s σ H vs us Q I r h
  · exact cr_minD hc hu pins s σ H vs us Q I r h
def okBest (xs : List PyData) : Prop := W.AlikeAll xs ∧ PyData.depthAll xs ≤ 62
@[simp ↓] def gMax : GA := fun ds k => match ds with
  | [.int i, .int j] => k (.int (max i j))
  | [.list (x :: xs)] => okBest (x :: xs) ∧ k (W.maxD x xs)
  | [.tuple (x :: xs)] => okBest (x :: xs) ∧ k (W.maxD x xs)
  | _ => False
@[simp ↓] def gMin : GA := fun ds k => match ds with
  | [.int i, .int j] => k (.int (min i j))
  | [.list (x :: xs)] => okBest (x :: xs) ∧ k (W.minD x xs)
  | [.tuple (x :: xs)] => okBest (x :: xs) ∧ k (W.minD x xs)
  | _ => False
theorem cw_best {best : PyData → List PyData → PyData} {F : Hp} {env : PEnv} {σ : L2.St} {H : Hp} {xs : List V} {Q : VK} {k : PyData → Prop} {d : PyData} {x : PyData} {ds : List PyData} (r : Rel K R F env σ H) (b : BrL K F H xs [d]) (hd : d = .list (x :: ds) ∨ d = .tuple (x :: ds)) (ok : okBest (x :: ds)) (w : k (best x ds))
    (q : ∀ F' H' z d, Same F F' → Rel K R F' env σ H' → Rp K F' z d → k d → Q z H') : rBest K best xs H Q := by
  obtain ⟨y, rfl, bx⟩ := br1 b
  have fin : ∀ ys : List V, RpL K F ys (x :: ds) → ∀ (i : Nat) (z : V), ys[i]? = some z → (x :: ds)[i]? = some (best x ds) → Q z H := fun ys l i z hz hb => by
    obtain ⟨u, hu, pu⟩ := l.get hz
    rw [hb] at hu; cases hu
    exact q F H z _ (Same.refl F) r pu w
  rcases hd with rfl | rfl
  · obtain ⟨a, ys, rfl, h, l⟩ := bx.lst r.sub
    exact ⟨a, ys, x, ds, rfl, .inl (.inl (.inl h)), l.dp r.sub, ok.1, ok.2, fin ys l⟩
  · obtain ⟨a, ys, rfl, h, l, _⟩ := bx.tup r.sub
    exact ⟨a, ys, x, ds, rfl, .inr h, l.dp r.sub, ok.1, ok.2, fin ys l⟩
theorem cw_max : CallW K R (rMax2 K) gMax := by
  intro F env σ H xs ds k Q r b w q
  match ds, w with
  | [.int i, .int j], w =>
    obtain ⟨x, y, rfl, bx, by'⟩ := br2 b
    refine .inl ⟨i, j, by rw [bx.int, by'.int], q F H _ (.int (max i j)) (Same.refl F) r ?_ w⟩
    have : (if j > i then j else i) = max i j := by split <;> omega
    rw [this]; exact .int _
  | [.list (x :: es)], w => exact .inr (cw_best r b (.inl rfl) w.1 w.2 q)
  | [.tuple (x :: es)], w => exact .inr (cw_best r b (.inr rfl) w.1 w.2 q)
theorem cw_min : CallW K R (rMin2 K) gMin := by
  intro F env σ H xs ds k Q r b w q
  match ds, w with
  | [.int i, .int j], w =>
    obtain ⟨x, y, rfl, bx, by'⟩ := br2 b
    refine .inl ⟨i, j, by rw [bx.int, by'.int], q F H _ (.int (min i j)) (Same.refl F) r ?_ w⟩
    have : (if j < i then j else i) = min i j := by split <;> omega
    rw [this]; exact .int _
  | [.list (x :: es)], w => exact .inr (cw_best r b (.inl rfl) w.1 w.2 q)
  | [.tuple (x :: es)], w => exact .inr (cw_best r b (.inr rfl) w.1 w.2 q)
theorem alike_ints (ns : List Int) : W.AlikeAll (ns.map PyData.int) := ⟨fun x hx y hy => by
  obtain ⟨i, _, rfl⟩ := List.mem_map.mp hx
  obtain ⟨j, _, rfl⟩ := List.mem_map.mp hy
  rfl, fun x hx => by
  obtain ⟨i, _, rfl⟩ := List.mem_map.mp hx
  intro z; cases z⟩
@[simp] theorem okBest_ints (n : Int) (ns : List Int) : okBest (.int n :: ns.map PyData.int) := ⟨alike_ints (n :: ns), by rw [show PyData.int n :: ns.map PyData.int = (n :: ns).map PyData.int from rfl, W.depth_ints]; omega⟩
end
end VL
set_option Elab.async false
set_option linter.all false
set_option maxRecDepth 100000
set_option maxHeartbeats 2000000
/-! VL22: _law_alike; comprehensions over a range by index; data that are shaped. -/
namespace VL
open PySem PySem.Spec PyProof.Rows L2
theorem lcW_rng {g : WG} {tt : WT} {we : WE} {vs : List Nat} {n : Nat} {env : PEnv} {Q : List PyData → PEnv → Prop} (p : Nat → Bool) (gf : Nat → PyData) (hl : n ≤ sizeLine)
    (hs : ∀ i : Nat, i < n → ∀ (Y : PyData → PEnv → Prop) (Z : PEnv → Prop), (p i = true → Y (gf i) env) → (p i = false → Z env) → g (.int (i : Int)) env fun e1 => tt e1 fun b e2 => if b = true then we e2 fun y e3 => Y y (wipeE e3 vs) else Z (wipeE e2 vs))
    (hd : Q (((List.range n).filter p).map gf) env) : lcW g tt we vs (rangeD 0 n) [] env Q := by
  refine lcW_at (fun i acc e => e = env ∧ acc = ((List.range i).filter p).map gf) ⟨rfl, rfl⟩ (fun i x acc e hx ⟨he, ha⟩ => ?_) (fun acc e ⟨he, ha⟩ => by subst he; rw [ha, rangeD_len]; exact hd)
  subst he
  obtain ⟨hi, rfl⟩ := rangeD_at hx
  have hal : acc.length < sizeLine := by
    rw [ha, List.length_map]
    have h1 := List.length_filter_le p (List.range i)
    rw [List.length_range] at h1
    omega
  have := hs i hi (fun y e3 => acc.length < sizeLine ∧ (e3 = e ∧ acc ++ [y] = ((List.range (i + 1)).filter p).map gf)) (fun e2 => e2 = e ∧ acc = ((List.range (i + 1)).filter p).map gf)
    (fun hp => ⟨hal, rfl, by rw [List.range_succ, List.filter_append, List.map_append, ha]; simp [hp]⟩)
    (fun hp => ⟨rfl, by rw [List.range_succ, List.filter_append, List.map_append, ha]; simp [hp]⟩)
  rw [Int.zero_add]
  exact this
mutual
theorem okD_lay : ∀ (n : Nat) (d : PyData), okD n d → d.canLay0 = true ∧ d.depth ≤ n
  | _, .none, _ => by simp [PyData.canLay0, PyData.depth]
  | _, .bool _, _ => by simp [PyData.canLay0, PyData.depth]
  | _, .int _, _ => by simp [PyData.canLay0, PyData.depth]
  | n, .str x, h => ⟨by simp only [PyData.canLay0]; cases n <;> exact h, by simp [PyData.depth]⟩
  | 0, .list _, h => h.elim
  | 0, .tuple _, h => h.elim
  | n + 1, .list xs, h => by
    obtain ⟨h1, h2⟩ := okD_layAll n xs h.2
    exact ⟨by simpa [PyData.canLay0] using h1, by simp [PyData.depth]; omega⟩
  | n + 1, .tuple xs, h => by
    obtain ⟨h1, h2⟩ := okD_layAll n xs h.2
    exact ⟨by simpa [PyData.canLay0] using h1, by simp [PyData.depth]; omega⟩
  | 0, .dict _, h => h.elim
  | _ + 1, .dict _, h => h.elim
theorem okD_layAll : ∀ (n : Nat) (xs : List PyData), (∀ x ∈ xs, okD n x) → PyData.canLayAll0 xs = true ∧ PyData.depthAll xs ≤ n
  | _, [], _ => by simp [PyData.canLayAll0, PyData.depthAll]
  | n, x :: xs, h => by
    obtain ⟨h1, h2⟩ := okD_lay n x (h x List.mem_cons_self)
    obtain ⟨h3, h4⟩ := okD_layAll n xs fun y hy => h y (List.mem_cons_of_mem _ hy)
    exact ⟨by simp [PyData.canLayAll0, h1, h3], by simp [PyData.depthAll]; omega⟩
end
theorem okD_shaped {n : Nat} {d : PyData} (h : okD n d) (hn : n ≤ 64) : SeqAt.shaped d = true := by
  obtain ⟨h1, h2⟩ := okD_lay n d h
  unfold SeqAt.shaped
  rw [h1]
  simp; omega
def w_alike (fwr : FW) : (Str → Prop) → WS := fun _ => (wSeq (wIfS (wOrT (wTru (wO (wIsi "list" (wB 1)))) (wTru (wO (wIsi "tuple" (wB 1))))) (wSeq (wIfS (wOrT (wTst (wBin gNe (wO (wIsi "list" (wB 0))) (wO (wIsi "list" (wB 1))))) (wTst (wBin gNe (wO (wIsi "tuple" (wB 0))) (wO (wIsi "tuple" (wB 1)))))) (wRet (wFz (wC (.bool false)))) wNext)
  (wRet (wFz (wAndV (wBin gEq (wO (wCallB gLen (wOcons (wB 0) wOnil))) (wO (wCallB gLen (wOcons (wB 1) wOnil)))) (wBin gEq (wO (wVal (wLc (wiRange1 (wO (wCallB gLen (wOcons (wB 1) wOnil)))) (wgName 2) (wNotT (wTru (wO (wVal (wCall 2 fwr (wAsFz (wBin gIx (wB 0) (wB 2)) (wAsFz (wBin gIx (wB 1) (wB 2)) wAsNil))))))) (wVar 2) [2]))) (wO (wVal (wLst wNil)))))))) wNext)
  (wSeq (wIfS (wTst (wBin gIs (wB 1) (wO (wC .none)))) (wRet (wFz (wBin gIs (wB 0) (wO (wC .none))))) wNext)
  (wSeq (wIfS (wOrT (wTru (wO (wIsi "bool" (wB 1)))) (wTru (wO (wIsi "bool" (wB 0))))) (wRet (wFz (wAndV (wIsi "bool" (wB 0)) (wAndV (wIsi "bool" (wB 1)) (wBin gEq (wB 0) (wB 1)))))) wNext)
  (wSeq (wIfS (wTru (wO (wIsi "int" (wB 1)))) (wRet (wFz (wAndV (wIsi "int" (wB 0)) (wBin gEq (wB 0) (wB 1))))) wNext)
  (wRet (wFz (wAndV (wIsi "str" (wB 0)) (wBin gEq (wB 0) (wB 1)))))))))

theorem alike_loop {n : Nat} {A B : PyData} {xs ys : List PyData} {Q : List PyData → PEnv → Prop} (hA : (A = .list xs ∧ B = .list ys) ∨ (A = .tuple xs ∧ B = .tuple ys)) (hl : xs.length = ys.length) (hz : ys.length ≤ sizeLine) (hx : ∀ x ∈ xs, ∃ m, n = m + 1 ∧ okD m x) (hy : ∀ x ∈ ys, ∃ m, n = m + 1 ∧ okD m x)
    (hn : ∀ ns : List Int, (ns = [] ↔ xs = ys) → Q (ns.map .int) [some (.fz A), some (.fz B), none]) :
    lcW (wgName 2) (wNotT (wTru (wO (wVal (wCall 2 (sameR n) (wAsFz (wBin gIx (wB 0) (wB 2)) (wAsFz (wBin gIx (wB 1) (wB 2)) wAsNil))))))) (wVar 2) [2] (rangeD 0 ys.length) [] [some (.fz A), some (.fz B), none] Q := by
  have key : ∀ {i : Nat}, i < ys.length → ∀ (Y Z : Prop), ((xs[i]? ≠ ys[i]?) → Y) → (xs[i]? = ys[i]? → Z) → ∃ d, xs[i]? = some d ∧ ∃ e, ys[i]? = some e ∧ ∃ m, n = m + 1 ∧ okD m d ∧ okD m e ∧ (d = e → Z) ∧ (¬ d = e → Y) := fun {i} hi Y Z h1 h2 => by
    have hix : i < xs.length := by omega
    obtain ⟨m, rfl, o1⟩ := hx xs[i] (List.getElem_mem hix)
    obtain ⟨m', em, o2⟩ := hy ys[i] (List.getElem_mem hi)
    have em : m = m' := by omega
    subst em
    refine ⟨xs[i], List.getElem?_eq_getElem hix, ys[i], List.getElem?_eq_getElem hi, m, rfl, o1, o2, fun e => h2 ?_, fun e => h1 ?_⟩
    · rw [List.getElem?_eq_getElem hix, List.getElem?_eq_getElem hi, e]
    · rw [List.getElem?_eq_getElem hix, List.getElem?_eq_getElem hi]; exact fun z => e (Option.some.inj z)
  refine lcW_rng (fun j => @decide (xs[j]? ≠ ys[j]?) (Classical.propDecidable _)) (fun j => .int j) hz (fun j hj Y Z hY hZ => ?_) ?_
  · obtain ⟨d, h1, e, h2, m, rfl, o1, o2, q1, q2⟩ := key hj _ _ (fun z => hY (@decide_eq_true _ (Classical.propDecidable _) z)) (fun z => hZ (@decide_eq_false _ (Classical.propDecidable _) (fun t => t z)))
    rcases hA with ⟨rfl, rfl⟩ | ⟨rfl, rfl⟩
    · simpa [sameR, sameW, h1, h2] using ⟨o1, o2, q1, q2⟩
    · simpa [sameR, sameW, h1, h2] using ⟨o1, o2, q1, q2⟩
  · have := hn (((List.range ys.length).filter fun j => @decide (xs[j]? ≠ ys[j]?) (Classical.propDecidable _)).map fun j => ((j : Nat) : Int)) ?_
    · simpa [List.map_map, Function.comp_def] using this
    · rw [List.map_eq_nil_iff, List.filter_eq_nil_iff]
      constructor
      · intro h
        refine ext_upto hl fun j hj => Classical.byContradiction fun z => h j (List.mem_range.mpr hj) (@decide_eq_true _ (Classical.propDecidable _) z)
      · intro h j _
        subst h
        simp
theorem szleM {n : Nat} (h : n ≤ 1000000) : n ≤ sizeLine := by
  have : (1000000 : Nat) ≤ sizeLine := by decide
  omega
theorem shapedN (ns : List Int) : SeqAt.shaped (.list (ns.map .int)) = true := by
  have h : ∀ ns : List Int, PyData.canLayAll0 (ns.map .int) = true ∧ PyData.depthAll (ns.map .int) ≤ 0 := fun ns => okD_layAll 0 _ fun x hx => by
    obtain ⟨i, _, rfl⟩ := List.mem_map.mp hx
    trivial
  obtain ⟨h1, h2⟩ := h ns
  unfold SeqAt.shaped
  simp only [PyData.canLay0, h1, PyData.depth, Bool.true_and]
  simp; omega
theorem eqv_nil (ns : List Int) : (PyData.list (ns.map .int)).eqv (.list []) = decide (ns = []) := by
  cases ns with
  | nil => rfl
  | cons a b => simp [PyData.eqv, PyData.eqvAll]
theorem alike_step (n : Nat) (args : List Slot) (Q : Slot → Prop) (Ew : Str → Prop) (h : sameR (n + 1) args Q Ew) : fwOf 3 (w_alike (sameR n)) args Q Ew := by
  obtain ⟨a, b, rfl, ha, hb, h1, h2⟩ := sameW_at (Ew := Ew) h
  cases a <;> cases b
  case bool.bool x y =>
    simp [w_alike]
    by_cases e : x = y
    · subst e; simpa using h1 rfl
    · rw [beq_eq_false_iff_ne.mpr e]; exact h2 (fun z => e (PyData.bool.inj z))
  case int.int x y =>
    simp [w_alike]
    by_cases e : x = y
    · subst e; simpa using h1 rfl
    · rw [beq_eq_false_iff_ne.mpr e]; exact h2 (fun z => e (PyData.int.inj z))
  case str.str x y =>
    simp [w_alike]
    refine ⟨by cases n <;> exact ha, by cases n <;> exact hb, ?_⟩
    by_cases e : x = y
    · subst e; simpa using h1 rfl
    · rw [beq_eq_false_iff_ne.mpr e]; exact h2 (fun z => e (PyData.str.inj z))
  case list.list xs ys =>
    cases n with
    | zero => exact ha.elim
    | succ n =>
      by_cases hl : xs.length = ys.length
      · simp [w_alike, hl]
        refine ⟨by have := hb.1; omega, ?_⟩
        refine alike_loop (Or.inl ⟨rfl, rfl⟩) hl (szleM hb.1) (fun x hx => ⟨n, rfl, ha.2 x hx⟩) (fun x hx => ⟨n, rfl, hb.2 x hx⟩) fun ns hns => ⟨shapedN ns, rfl, ?_⟩
        rw [eqv_nil]
        by_cases e : xs = ys
        · rw [decide_eq_true (hns.mpr e)]; exact h1 (by rw [e])
        · rw [decide_eq_false (fun z => e (hns.mp z))]; exact h2 (fun z => e (PyData.list.inj z))
      · simp [w_alike]
        have hl' : ¬ (xs.length : Int) = ys.length := by omega
        rw [if_neg hl', beq_eq_false_iff_ne.mpr hl']
        exact h2 (fun z => hl (by rw [PyData.list.inj z]))
  case tuple.tuple xs ys =>
    cases n with
    | zero => exact ha.elim
    | succ n =>
      by_cases hl : xs.length = ys.length
      · simp [w_alike, hl]
        refine ⟨by have := hb.1; omega, ?_⟩
        refine alike_loop (Or.inr ⟨rfl, rfl⟩) hl (szleM hb.1) (fun x hx => ⟨n, rfl, ha.2 x hx⟩) (fun x hx => ⟨n, rfl, hb.2 x hx⟩) fun ns hns => ⟨shapedN ns, rfl, ?_⟩
        rw [eqv_nil]
        by_cases e : xs = ys
        · rw [decide_eq_true (hns.mpr e)]; exact h1 (by rw [e])
        · rw [decide_eq_false (fun z => e (hns.mp z))]; exact h2 (fun z => e (PyData.tuple.inj z))
      · simp [w_alike]
        have hl' : ¬ (xs.length : Int) = ys.length := by omega
        rw [if_neg hl', beq_eq_false_iff_ne.mpr hl']
        exact h2 (fun z => hl (by rw [PyData.tuple.inj z]))
  all_goals first
    | exact ha.elim
    | exact hb.elim
    | (cases n <;> exact ha.elim)
    | (cases n <;> exact hb.elim)
    | (simp [w_alike]; first | exact h1 rfl | exact h2 (fun z => nomatch z))
end VL
set_option Elab.async false
set_option linter.all false
set_option maxRecDepth 100000
set_option maxHeartbeats 2000000
/-! VL23: loops and comprehensions in short words. -/
namespace VL
open PySem PySem.Spec PyProof.Rows L2
abbrev iL (hs : List Int) : List PyData := hs.map PyData.int
abbrev fi (i : Int) : Option Slot := some (.fz (.int i))
abbrev fb (b : Bool) : Option Slot := some (.fz (.bool b))
abbrev fd (d : PyData) : Option Slot := some (.fz d)
abbrev ft (hs : List PyData) : Option Slot := some (.fz (.tuple hs))
abbrev fl (hs : List PyData) : Option Slot := some (.ol hs)
/-- the places is hold vs -/
@[simp ↓] def updL : PEnv → List Nat → List (Option Slot) → PEnv
  | e, i :: is, v :: vs => updL (e.set i v) is vs
  | e, [], _ => e
  | e, _ :: _, [] => e
theorem forW_env {g : WG} {body : WS} {D : WD} {items : List PyData} {env : PEnv} (P : PEnv → Nat → PEnv → Prop) (h0 : P env 0 env)
    (hs : ∀ i x e, items[i]? = some x → P env i e → g x e fun e1 => body { nx := P env (i + 1), ct := P env (i + 1), bk := D.nx, rt := D.rt } e1) (hd : ∀ e, P env items.length e → D.nx e) : forW g body D items env := forW_at (P env) h0 hs hd
theorem forW_rngE {g : WG} {body : WS} {D : WD} {lo : Int} {n : Nat} {env : PEnv} (P : PEnv → Nat → PEnv → Prop) (h0 : P env 0 env)
    (hs : ∀ i e, i < n → P env i e → g (.int (lo + (i : Nat))) e fun e1 => body { nx := P env (i + 1), ct := P env (i + 1), bk := D.nx, rt := D.rt } e1) (hd : ∀ e, P env n e → D.nx e) : forW g body D (rangeD lo n) env := forW_range (P env) h0 hs hd
/-- items that are xs -/
theorem forW_ty {α : Type} {enc : α → PyData} {g : WG} {body : WS} {D : WD} {xs : List α} {env : PEnv} (P : PEnv → Nat → PEnv → Prop) (h0 : P env 0 env)
    (hs : ∀ i a e, xs[i]? = some a → P env i e → g (enc a) e fun e1 => body { nx := P env (i + 1), ct := P env (i + 1), bk := D.nx, rt := D.rt } e1) (hd : ∀ e, P env xs.length e → D.nx e) : forW g body D (xs.map enc) env :=
  forW_at (P env) h0 (fun i x e hx p => by
    rw [List.getElem?_map] at hx
    cases q : xs[i]? with
    | none => rw [q] at hx; cases hx
    | some a => rw [q] at hx; cases hx; exact hs i a e q p) (by rw [List.length_map]; exact hd)
/-- a loop of tests: one place changes, nothing else -/
theorem forW_chk {g : WG} {body : WS} {D : WD} {items : List PyData} {env : PEnv} (is : List Nat) (hs : ∀ x ∈ items, ∀ vs, vs.length = is.length → g x (updL env is vs) fun e1 => body { nx := fun e => ∃ vs, vs.length = is.length ∧ e = updL env is vs, ct := fun e => ∃ vs, vs.length = is.length ∧ e = updL env is vs, bk := D.nx, rt := D.rt } e1)
    (v0 : List (Option Slot)) (hv : v0.length = is.length) (h0 : env = updL env is v0) (hd : ∀ vs, vs.length = is.length → D.nx (updL env is vs)) : forW g body D items env :=
  forW_at (fun _ e => ∃ vs, vs.length = is.length ∧ e = updL env is vs) ⟨v0, hv, h0⟩ (fun i x e hx ⟨vs, hl, he⟩ => by subst he; exact hs x (List.mem_of_getElem? hx) vs hl) (fun e ⟨vs, hl, he⟩ => by subst he; exact hd vs hl)
/-- a comprehension over xs, by a test and a value -/
theorem lcW_ty {α : Type} {enc : α → PyData} {g : WG} {tt : WT} {we : WE} {vs : List Nat} {xs : List α} {env : PEnv} {Q : List PyData → PEnv → Prop} (p : α → Bool) (f : α → PyData) (hl : xs.length ≤ sizeLine)
    (hs : ∀ x ∈ xs, ∀ (Y : PyData → PEnv → Prop) (Z : PEnv → Prop), (p x = true → Y (f x) env) → (p x = false → Z env) → g (enc x) env fun e1 => tt e1 fun b e2 => if b = true then we e2 fun y e3 => Y y (wipeE e3 vs) else Z (wipeE e2 vs))
    (hd : Q ((xs.filter p).map f) env) : lcW g tt we vs (xs.map enc) [] env Q := by
  refine lcW_at (fun i acc e => e = env ∧ acc = ((xs.take i).filter p).map f) ⟨rfl, rfl⟩ (fun i x acc e hx ⟨he, ha⟩ => ?_) (fun acc e ⟨he, ha⟩ => by subst he; rw [ha, List.length_map, List.take_length]; exact hd)
  subst he
  rw [List.getElem?_map] at hx
  cases q : xs[i]? with
  | none => rw [q] at hx; cases hx
  | some a =>
    rw [q] at hx; cases hx
    have ht : xs.take (i + 1) = xs.take i ++ [a] := by rw [List.take_add_one, q]; rfl
    have hi := (List.getElem?_eq_some_iff.mp q).1
    have hal : acc.length < sizeLine := by
      rw [ha, List.length_map]
      have h1 := List.length_filter_le p (xs.take i)
      have h2 : (xs.take i).length = i := by rw [List.length_take]; omega
      omega
    exact hs a (List.mem_of_getElem? q) (fun y e3 => acc.length < sizeLine ∧ (e3 = e ∧ acc ++ [y] = ((xs.take (i + 1)).filter p).map f)) (fun e2 => e2 = e ∧ acc = ((xs.take (i + 1)).filter p).map f)
      (fun hp => ⟨hal, rfl, by rw [ht, List.filter_append, List.map_append, ha]; simp [hp]⟩)
      (fun hp => ⟨rfl, by rw [ht, List.filter_append, List.map_append, ha]; simp [hp]⟩)
/-- a comprehension without a test -/
theorem lcW_map {α : Type} {enc : α → PyData} {g : WG} {we : WE} {vs : List Nat} {xs : List α} {env : PEnv} {Q : List PyData → PEnv → Prop} (f : α → PyData) (hl : xs.length ≤ sizeLine)
    (hs : ∀ x ∈ xs, ∀ (Y : PyData → PEnv → Prop), Y (f x) env → g (enc x) env fun e1 => we e1 fun y e3 => Y y (wipeE e3 vs))
    (hd : Q (xs.map f) env) : lcW g wYes we vs (xs.map enc) [] env Q := by
  refine lcW_ty (fun _ => true) f hl (fun x hx Y Z hY hZ => ?_) (by rw [List.filter_eq_self.mpr fun _ _ => rfl]; exact hd)
  simpa using hs x hx Y (hY rfl)
theorem rangeD_map (lo : Int) (n : Nat) : rangeD lo n = (List.range n).map fun (i : Nat) => PyData.int (lo + i) := rfl
/-- a comprehension over a range without a test -/
theorem lcW_rngM {g : WG} {we : WE} {vs : List Nat} {lo : Int} {n : Nat} {env : PEnv} {Q : List PyData → PEnv → Prop} (f : Nat → PyData) (hl : n ≤ sizeLine)
    (hs : ∀ i : Nat, i < n → ∀ (Y : PyData → PEnv → Prop), Y (f i) env → g (.int (lo + (i : Nat))) env fun e1 => we e1 fun y e3 => Y y (wipeE e3 vs))
    (hd : Q ((List.range n).map f) env) : lcW g wYes we vs (rangeD lo n) [] env Q := by
  rw [rangeD_map]
  exact lcW_map f (by simpa using hl) (fun i hi Y => hs i (List.mem_range.mp hi) Y) hd
theorem lcW_rngP {g : WG} {tt : WT} {we : WE} {vs : List Nat} {lo : Int} {n : Nat} {env : PEnv} {Q : List PyData → PEnv → Prop} (p : Nat → Bool) (f : Nat → PyData) (hl : n ≤ sizeLine)
    (hs : ∀ i : Nat, i < n → ∀ (Y : PyData → PEnv → Prop) (Z : PEnv → Prop), (p i = true → Y (f i) env) → (p i = false → Z env) → g (.int (lo + (i : Nat))) env fun e1 => tt e1 fun b e2 => if b = true then we e2 fun y e3 => Y y (wipeE e3 vs) else Z (wipeE e2 vs))
    (hd : Q (((List.range n).filter p).map f) env) : lcW g tt we vs (rangeD lo n) [] env Q := by
  rw [rangeD_map]
  exact lcW_ty p f (by simpa using hl) (fun i hi Y Z => hs i (List.mem_range.mp hi) Y Z) hd
/-- a comprehension none of whose items passes -/
theorem lcW_nil {g : WG} {tt : WT} {we : WE} {vs : List Nat} {items : List PyData} {env : PEnv} {Q : List PyData → PEnv → Prop} (hl : items.length ≤ sizeLine)
    (hs : ∀ x ∈ items, ∀ (Y : PyData → PEnv → Prop) (Z : PEnv → Prop), Z env → g x env fun e1 => tt e1 fun b e2 => if b = true then we e2 fun y e3 => Y y (wipeE e3 vs) else Z (wipeE e2 vs))
    (hd : Q [] env) : lcW g tt we vs items [] env Q := by
  have := lcW_ty (enc := id) (xs := items) (g := g) (tt := tt) (we := we) (vs := vs) (env := env) (Q := Q) (fun _ => false) (fun x => x) hl (fun x hx Y Z _ hZ => hs x hx Y Z (hZ rfl)) (by
    have : List.filter (fun _ : PyData => false) items = [] := List.filter_eq_nil_iff.mpr fun _ _ => by simp
    rw [this]; exact hd)
  simpa using this
/-- a comprehension that draws: as many, all as wished -/
theorem lcW_draw {α : Type} (enc : α → PyData) (P : α → Prop) {g : WG} {we : WE} {vs : List Nat} {items : List PyData} {env : PEnv} {Q : List PyData → PEnv → Prop} (hl : items.length ≤ sizeLine)
    (hs : ∀ (i : Nat) (x : PyData), items[i]? = some x → ∀ (Y : PyData → PEnv → Prop), (∀ a, P a → Y (enc a) env) → g x env fun e1 => we e1 fun y e3 => Y y (wipeE e3 vs))
    (hd : ∀ as : List α, as.length = items.length → (∀ a ∈ as, P a) → Q (as.map enc) env) : lcW g wYes we vs items [] env Q := by
  refine lcW_at (fun i acc e => e = env ∧ ∃ as : List α, acc = as.map enc ∧ as.length = i ∧ ∀ a ∈ as, P a) ⟨rfl, [], rfl, rfl, fun _ h => by cases h⟩ (fun i x acc e hx ⟨he, as, ha, hal, hp⟩ => ?_) (fun acc e ⟨he, as, ha, hal, hp⟩ => by subst he; subst ha; exact hd as hal hp)
  subst he; subst ha
  have hi := (List.getElem?_eq_some_iff.mp hx).1
  have := hs i x hx (fun y e3 => (as.map enc).length < sizeLine ∧ e3 = e ∧ ∃ as' : List α, as.map enc ++ [y] = as'.map enc ∧ as'.length = i + 1 ∧ ∀ a ∈ as', P a) fun a h => ⟨by rw [List.length_map]; omega, rfl, as ++ [a], by simp, by simp [hal], fun b hb => by
    rcases List.mem_append.mp hb with q | q
    · exact hp b q
    · rw [List.mem_singleton.mp q]; exact h⟩
  simpa using this
section
variable {κ : Type} [DecidableEq κ]
theorem putD_new {kvs : List (κ × PyData)} {k : κ} {v : PyData} (h : ∀ kv ∈ kvs, kv.1 ≠ k) : putD kvs k v = kvs ++ [(k, v)] := by
  unfold putD
  rw [if_neg]
  intro z
  obtain ⟨kv, hm, e⟩ := List.any_eq_true.mp z
  exact h kv hm (of_decide_eq_true e)
theorem valD_map {α : Type} {f : α → κ} {g : α → PyData} : ∀ {ks : List α} {a : α}, a ∈ ks → (∀ b ∈ ks, f b = f a → g b = g a) → valD (ks.map fun a => (f a, g a)) (f a) = some (g a)
  | [], _, h, _ => by cases h
  | b :: ks, a, h, hi => by
    unfold valD
    rw [List.map_cons, List.find?_cons]
    by_cases e : f b = f a
    · simp [e, hi b List.mem_cons_self e]
    · have hm : a ∈ ks := by
        rcases List.mem_cons.mp h with z | z
        · subst z; exact absurd rfl e
        · exact z
      have ih := valD_map (f := f) (g := g) hm fun c hc => hi c (List.mem_cons_of_mem _ hc)
      unfold valD at ih
      simp [e]
      simpa using ih
theorem valD_none {kvs : List (κ × PyData)} {k : κ} (h : ∀ kv ∈ kvs, kv.1 ≠ k) : valD kvs k = none := by
  unfold valD
  rw [List.find?_eq_none.mpr fun kv hm => by simpa using h kv hm]
  rfl
end
theorem find_range_head {p : Nat → Bool} {n : Nat} : ((List.range n).filter p).head? = (List.range n).find? p := List.head?_filter
end VL
namespace VL
open PySem PySem.Spec PyProof.Rows L2
theorem forW_nil {g : WG} {body : WS} {D : WD} {env : PEnv} (h : D.nx env) : forW g body D [] env := forW_at (fun _ e => D.nx e) h (fun i x e hx => by simp at hx) (fun e h => h)
end VL
set_option Elab.async false
set_option linter.all false
set_option maxRecDepth 100000
set_option maxHeartbeats 2000000
/-! VL24: data that are shaped, equality of data, in simp's words. -/
namespace VL
open PySem PySem.Spec PyProof.Rows L2
def lay (n : Nat) (d : PyData) : Prop := d.canLay0 = true ∧ d.depth ≤ n
@[simp] theorem lay_n (n : Nat) : lay n .none := by simp [lay, PyData.canLay0, PyData.depth]
@[simp] theorem lay_b (n : Nat) (b : Bool) : lay n (.bool b) := by simp [lay, PyData.canLay0, PyData.depth]
@[simp] theorem lay_i (n : Nat) (b : Int) : lay n (.int b) := by simp [lay, PyData.canLay0, PyData.depth]
@[simp] theorem lay_s (n : Nat) (b : Str) : lay n (.str b) ↔ PyData.strOk b = true := by simp [lay, PyData.canLay0, PyData.depth]
theorem layAll {n : Nat} : ∀ {xs : List PyData}, (PyData.canLayAll0 xs = true ∧ PyData.depthAll xs ≤ n) ↔ ∀ x ∈ xs, lay n x
  | [] => by simp [PyData.canLayAll0, PyData.depthAll]
  | x :: xs => by
    have ih := layAll (n := n) (xs := xs)
    simp only [PyData.canLayAll0, PyData.depthAll, Bool.and_eq_true, List.forall_mem_cons, lay]
    unfold lay at ih
    rw [← ih]
    constructor
    · intro ⟨⟨a, b⟩, c⟩; exact ⟨⟨a, by omega⟩, b, by omega⟩
    · intro ⟨⟨a, b⟩, c, d⟩; exact ⟨⟨a, c⟩, by omega⟩
@[simp] theorem lay_l (n : Nat) (xs : List PyData) : lay (n + 1) (.list xs) ↔ ∀ x ∈ xs, lay n x := by
  rw [← layAll]
  simp only [lay, PyData.canLay0, PyData.depth]
  constructor <;> exact fun ⟨a, b⟩ => ⟨a, by omega⟩
@[simp] theorem lay_t (n : Nat) (xs : List PyData) : lay (n + 1) (.tuple xs) ↔ ∀ x ∈ xs, lay n x := by
  rw [← layAll]
  simp only [lay, PyData.canLay0, PyData.depth]
  constructor <;> exact fun ⟨a, b⟩ => ⟨a, by omega⟩
theorem shaped_lay {d : PyData} : SeqAt.shaped d = true ↔ lay 64 d := by simp [SeqAt.shaped, lay]
@[simp] theorem shaped_l (xs : List PyData) : (SeqAt.shaped (.list xs) = true) ↔ ∀ x ∈ xs, lay 63 x := by rw [shaped_lay]; exact lay_l 63 xs
@[simp] theorem shaped_t (xs : List PyData) : (SeqAt.shaped (.tuple xs) = true) ↔ ∀ x ∈ xs, lay 63 x := by rw [shaped_lay]; exact lay_t 63 xs
theorem canAll {xs : List PyData} : PyData.canLayAll0 xs = true ↔ ∀ x ∈ xs, x.canLay0 = true := by
  induction xs with
  | nil => simp [PyData.canLayAll0]
  | cons x xs ih => simp [PyData.canLayAll0, ih]
@[simp] theorem canAll_s (xs : List PyData) : (PyData.canLayAll0 xs = true) ↔ ∀ x ∈ xs, x.canLay0 = true := canAll
@[simp] theorem can_n : PyData.canLay0 .none = true := by simp [PyData.canLay0]
@[simp] theorem can_b (b : Bool) : PyData.canLay0 (.bool b) = true := by simp [PyData.canLay0]
@[simp] theorem can_i (b : Int) : PyData.canLay0 (.int b) = true := by simp [PyData.canLay0]
@[simp] theorem can_str (b : Str) : PyData.canLay0 (.str b) = PyData.strOk b := by simp [PyData.canLay0]
@[simp] theorem can_l (xs : List PyData) : (PyData.canLay0 (.list xs) = true) ↔ ∀ x ∈ xs, x.canLay0 = true := by simp [PyData.canLay0]
@[simp] theorem can_t (xs : List PyData) : (PyData.canLay0 (.tuple xs) = true) ↔ ∀ x ∈ xs, x.canLay0 = true := by simp [PyData.canLay0]
/-! ### equality -/
@[simp] theorem eqv_l0 (xs : List PyData) : (PyData.list xs).eqv (.list []) = xs.isEmpty := by cases xs <;> simp [PyData.eqv, PyData.eqvAll]
@[simp] theorem eqv_0l (xs : List PyData) : (PyData.list []).eqv (.list xs) = xs.isEmpty := by cases xs <;> simp [PyData.eqv, PyData.eqvAll]
@[simp] theorem eqv_t0 (xs : List PyData) : (PyData.tuple xs).eqv (.tuple []) = xs.isEmpty := by cases xs <;> simp [PyData.eqv, PyData.eqvAll]
@[simp] theorem eqv_0t (xs : List PyData) : (PyData.tuple []).eqv (.tuple xs) = xs.isEmpty := by cases xs <;> simp [PyData.eqv, PyData.eqvAll]
@[simp] theorem eqv_tt (xs ys : List PyData) : (PyData.tuple xs).eqv (.tuple ys) = PyData.eqvAll xs ys := by simp [PyData.eqv]
@[simp] theorem eqv_ll (xs ys : List PyData) : (PyData.list xs).eqv (.list ys) = PyData.eqvAll xs ys := by simp [PyData.eqv]
@[simp] theorem eqvAll_nn : PyData.eqvAll [] [] = true := by simp [PyData.eqvAll]
@[simp] theorem eqvAll_nc (y : PyData) (ys : List PyData) : PyData.eqvAll [] (y :: ys) = false := by simp [PyData.eqvAll]
@[simp] theorem eqvAll_cn (y : PyData) (ys : List PyData) : PyData.eqvAll (y :: ys) [] = false := by simp [PyData.eqvAll]
@[simp] theorem eqvAll_xn (xs : List PyData) : PyData.eqvAll xs [] = xs.isEmpty := by cases xs <;> simp [PyData.eqvAll]
@[simp] theorem eqvAll_nx (xs : List PyData) : PyData.eqvAll [] xs = xs.isEmpty := by cases xs <;> simp [PyData.eqvAll]
@[simp] theorem eqvAll_cc (x y : PyData) (xs ys : List PyData) : PyData.eqvAll (x :: xs) (y :: ys) = (PyData.eqv x y && PyData.eqvAll xs ys) := by simp [PyData.eqvAll]
theorem eqvAll_map {α : Type} [DecidableEq α] {enc : α → PyData} (he : ∀ a b, PyData.eqv (enc a) (enc b) = decide (a = b)) : ∀ xs ys : List α, PyData.eqvAll (xs.map enc) (ys.map enc) = decide (xs = ys)
  | [], [] => by simp
  | [], y :: ys => by simp
  | x :: xs, [] => by simp
  | x :: xs, y :: ys => by
    simp [he, eqvAll_map he xs ys]
@[simp] theorem eqvAll_ints (xs ys : List Int) : PyData.eqvAll (xs.map PyData.int) (ys.map PyData.int) = decide (xs = ys) := eqvAll_map (fun a b => by simp; rfl) xs ys
@[simp] theorem eqv_nx (d : PyData) : PyData.eqv .none d = isNon d := by cases d <;> simp [PyData.eqv, isNon]
theorem eqv_xn (d : PyData) : PyData.eqv d .none = isNon d := by cases d <;> simp [PyData.eqv, isNon]
/-- a list's first item by index -/
@[simp] theorem atI_0 {α : Type} (x : α) (xs : List α) : atI (x :: xs) (0 : Int) = some x := by
  have := atI_nat (x :: xs) 0
  simpa using this
@[simp] theorem atI_1 {α : Type} (x y : α) (xs : List α) : atI (x :: y :: xs) (1 : Int) = some y := by
  have := atI_nat (x :: y :: xs) 1
  simpa using this
@[simp] theorem atI_2 {α : Type} (x y z : α) (xs : List α) : atI (x :: y :: z :: xs) (2 : Int) = some z := by
  have := atI_nat (x :: y :: z :: xs) 2
  simpa using this
@[simp] theorem atI_m1 {α : Type} (xs : List α) : atI xs (-1 : Int) = xs.getLast? := by
  unfold atI ixN
  cases xs with
  | nil => simp
  | cons a l =>
    rw [if_neg (by omega)]
    simp [List.getLast?_eq_getElem?]
    rw [if_pos (by omega)]
    have e : (-1 + ((l.length : Int) + 1)).toNat = l.length := by omega
    rw [e]
    simp
theorem atI_get {α : Type} {xs : List α} {i : Int} {n : Nat} (h : i = n) : atI xs i = xs[n]? := by rw [h, atI_nat]
@[simp] theorem sizeLine_1 : (1 : Nat) ≤ sizeLine := by decide
@[simp] theorem sizeLine_2 : (2 : Nat) ≤ sizeLine := by decide
@[simp] theorem sizeLine_3 : (3 : Nat) ≤ sizeLine := by decide
@[simp] theorem sizeLine_4 : (4 : Nat) ≤ sizeLine := by decide
@[simp] theorem sizeLine_5 : (5 : Nat) ≤ sizeLine := by decide
@[simp] theorem sizeLine_6 : (6 : Nat) ≤ sizeLine := by decide
theorem sizeLine_is : sizeLine = 16777216 := by decide
end VL
set_option Elab.async false
set_option linter.all false
set_option maxRecDepth 100000
set_option maxHeartbeats 2000000
/-! VL25: sorted over lists and tuples of alike data. -/
namespace PySem.W
open Lean PySem PySem.Calls PyProof.Rows PyProof.V PySem.Spec
section
variable {prog : Program} {w : World} {A : Around} {E : Value → Shared → Prop} {s : Shared} {β : Type} {R : Value → β → Prop} {enc : β → PyData} {bs : List β}
theorem collect_tuple {l : Addr} {o : Obj} {vs : List Value} {n : Nat} {Q : List Value → Shared → Prop} (ho : s.heap.get? l = some o) (hc : o.cls = .type "tuple") (hd : o.data = .seq vs.toArray n)
    (h : Q vs { s with heap := (s.heap.push (seqObj "list" #[] 0)).update s.heap.objs.size (Obj.mapSeq (· ++ vs.toArray)) }) (hsz : vs.length ≤ sizeLine) :
    wpAny (model prog w) A (collect (.ref l)) Q E s := by
  unfold collect
  refine wpAny_bind (wpAny_runValue (codeAny_builtin entry_proto_collect' ?_))
  show wpAny _ _ (do again (.builtin "list.__iadd__" ⟨[← newList [], .ref l], []⟩)) _ _ s
  refine wpAny_bind (wpAny_newList (wpAny_pure ⟨Code.quiet_builtin _ (by decide +kernel), codeAny_builtin entry_list_iadd' ?_⟩))
  show wpAny _ _ (Builtin.List.listExtendWith (.ref s.heap.objs.size) (.ref l) (.ref s.heap.objs.size)) _ _ { s with heap := s.heap.push (seqObj "list" #[] 0) }
  unfold Builtin.List.listExtendWith
  have ho' : (s.heap.push (seqObj "list" #[] 0)).get? l = some o := Heap.get?_push_of_some _ ho
  refine wpAny_bind (wpAny_typeOf (T := "tuple") ⟨o, ho', hc⟩ ?_)
  have ht : (Value.type "tuple" == Value.type "tuple") = true := by rfl
  rw [if_pos (by rw [ht]; simp)]
  refine wpAny_bind (listItems_at ho' hd ?_)
  refine wpAny_bind (listItems_at (xs := #[]) (n := 0) (Heap.get?_push_size _ rfl) rfl ?_)
  rw [if_neg (by simp)]
  refine wpAny_bind (listUpdate_at (xs := #[]) (n := 0) (Heap.get?_push_size _ rfl) rfl ?_ (Nat.zero_le _) (by show (#[] ++ vs.toArray).size ≤ sizeLine + 1; simp only [Array.size_append, List.size_toArray, List.length_nil]; omega))
  refine wpAny_pure ?_
  show wpAny (model prog w) A (do
      let o ← load s.heap.objs.size
      match o.data with
      | .seq xs _ => pure xs.toList
      | _ => unsupported "internal:collect") Q E { s with heap := (s.heap.push (seqObj "list" #[] 0)).update s.heap.objs.size (Obj.mapSeq (· ++ vs.toArray)) }
  refine wpAny_bind (wpAny_load (get?_update_seq (Heap.get?_push_size _ rfl) _) ?_)
  show wpAny _ _ (pure ((#[] : Array Value) ++ vs.toArray).toList) Q E _
  rw [show ((#[] : Array Value) ++ vs.toArray).toList = vs by simp]
  exact wpAny_pure h
theorem collect_seqE {l : Addr} {T : String} {o : Obj} {vs : List Value} {n : Nat} {Q : List Value → Shared → Prop} (hT : T = "list" ∨ T = "tuple") (ho : s.heap.get? l = some o) (hc : o.cls = .type T) (hd : o.data = .seq vs.toArray n)
    (h : Q vs { s with heap := (s.heap.push (seqObj "list" #[] 0)).update s.heap.objs.size (Obj.mapSeq (· ++ vs.toArray)) }) (hsz : vs.length ≤ sizeLine) :
    wpAny (model prog w) A (collect (.ref l)) Q E s := by
  rcases hT with rfl | rfl
  · exact collect_list ⟨o, ho, hc, n, hd⟩ h hsz
  · exact collect_tuple ho hc hd h hsz
theorem sorted_seq {it : Addr} {T : String} {o : Obj} {vs : List Value} {n : Nat} {Q : Value → Shared → Prop} (hT : T = "list" ∨ T = "tuple") (ho : s.heap.get? it = some o) (hc : o.cls = .type T) (hd : o.data = .seq vs.toArray n)
    (e : EachIs R vs bs) (er : EachIs (fun v b => ∃ as, Reads s.heap v (enc b) as) vs bs) (hal : AllAlike (bs.map enc)) (hk : Sortable (bs.map enc)) (hL : bs.length ≤ sizeLine)
    (hu : ∀ b, b ∈ bs → A.units + 2 + (enc b).depth < cLine) (h : ∀ h' d out, (∀ b u, s.heap.get? b = some u → h'.get? b = some u) → s.heap.objs.size ≤ d → (∃ n, h'.get? d = some (seqObj "list" (List.toArray out) n)) → out.length = bs.length → EachIs R out (bs.mergeSort (dataLe false enc)) → Q (.ref d) { s with heap := h' }) :
    wpAny (model prog w) A (call (.builtin "sorted") [.ref it]) Q E s := by
  have hlen : vs.length = bs.length := e.length
  refine call_function_entry_kw kind_sorted plain_sorted entry_sorted (args_sorted1 _) ?_
  unfold Builtin.«sorted»
  refine wpAny_bind (m := checkCount "sorted" 1 1 _) (wpAny_pure ?_)
  refine wpAny_bind (collect_seqE hT ho hc hd ?_ (by omega))
  generalize hS1 : (s.heap.push (seqObj "list" #[] 0)).update s.heap.objs.size (Obj.mapSeq (· ++ vs.toArray)) = h1
  have sz1 : h1.objs.size = s.heap.objs.size + 1 := by rw [← hS1, Heap.size_update, size_push']
  have k1 : ∀ b u, s.heap.get? b = some u → h1.get? b = some u := fun b u q => by
    rw [← hS1]; exact (Heap.get?_update_other _ _ (Nat.ne_of_gt (Heap.lt_size q))).trans (Heap.get?_push_of_some _ q)
  refine wpAny_bind (wpAny_newList ?_ (by omega))
  generalize hS : (h1.push { cls := .type "list", data := .seq vs.toArray }) = h2
  have sz2 : h2.objs.size = s.heap.objs.size + 2 := by rw [← hS, size_push', sz1]
  have k2 : ∀ b u, s.heap.get? b = some u → h2.get? b = some u := fun b u q => by rw [← hS]; exact Heap.get?_push_of_some _ (k1 b u q)
  have at2 : h2.get? h1.objs.size = some (seqObj "list" vs.toArray 0) := by rw [← hS]; exact Heap.get?_push_size _ rfl
  have er' : EachIs (fun v b => ∃ as, Reads (sortingHeap h2 h1.objs.size vs) v (enc b) as) vs bs := er.mono fun _ _ ⟨as, r⟩ => ⟨as, PyProof.Rows.Reads.keeps (fun b u q => sortingHeap_old (by
    have hlt := Heap.lt_size q
    have e1 : h1.objs.size = s.heap.objs.size + 1 := sz1
    exact fun z => by rw [z, e1] at hlt; exact absurd hlt (Nat.not_lt.mpr (Nat.le_succ _))) (k2 b u q)) r⟩
  refine wpAny_bind (wpAny_holding (wpAny_call_entry slot_list_sort ⟨_, at2, rfl⟩ entry_list_sort (list_sort_vals (s := { s with heap := h2 }) (κ := dataKind (sortingHeap h2 h1.objs.size vs) (bs.map enc)) at2 (SortsAt.data (s := { s with heap := sortingHeap h2 h1.objs.size vs }) (each_map (R := fun v d => ∃ as, Reads (sortingHeap h2 h1.objs.size vs) v d as) enc er') hal hk (bound_map hu)) (by omega) ⟨.none, rfl, ?_⟩) (args_list_sort _)))
  refine wpAny_pure ⟨_, rfl, ?_⟩
  refine h _ _ _ (fun b u q => ?_) (by rw [sz1]; exact Nat.le_succ _) (sortedHeap_at at2) (by rw [sortVals_length false rfl]; exact e.length) (sortVals_data false e er' hal)
  have hlt := Heap.lt_size q
  exact (sortedHeap_old (fun z => by rw [z, sz1] at hlt; exact absurd hlt (Nat.not_lt.mpr (Nat.le_succ _))) (by rw [sz2]; exact Nat.lt_succ_of_lt (Nat.lt_succ_of_lt hlt))).trans (k2 b u q)
end
end PySem.W
namespace VL
open PySem PySem.Spec PyProof.Rows L2
variable {τ : Tau}
def rSortV (K : PySem.W.Frag) : List V → Hp → VK → Prop := fun vs H Q => ∃ (a : Addr) (ps : List (V × PyData)), vs = [V.ref a] ∧ (SqL K H a (ps.map (·.1)) ∨ SqT K H a (ps.map (·.1))) ∧ DpAll K H (ps.map (·.1)) (ps.map (·.2)) ∧ W.AllAlike (ps.map (·.2)) ∧ W.Sortable (ps.map (·.2)) ∧ PyData.depthAll (ps.map (·.2)) ≤ 60 ∧
  ∀ p, H p = none → Q (.ref p) (upd H p (.lst ((ps.mergeSort (W.dataLe false (·.2))).map (·.1))))
theorem eachV : ∀ {ps : List (V × PyData)} {its : List Value}, Vals (ps.map (·.1)) its → W.EachIs (fun v (b : V × PyData) => RelV b.1 v) its ps
  | [], _, h => by cases h; exact .nil
  | p :: ps, _, h => by
    cases h with
    | cons a t => exact .cons a (eachV t)
theorem eachB : ∀ {ps : List (V × PyData)} {its : List Value}, W.EachIs (fun v (b : V × PyData) => RelV b.1 v) its ps → Vals (ps.map (·.1)) its
  | [], _, h => by cases h; exact .nil
  | p :: ps, _, h => by
    cases h with
    | cons a t => exact .cons a (eachB t)
theorem depthAll_mem {d : PyData} : ∀ {ds : List PyData}, d ∈ ds → d.depth ≤ PyData.depthAll ds
  | [], h => by cases h
  | x :: xs, h => by
    rcases List.mem_cons.mp h with rfl | h
    · simp only [PyData.depthAll]; omega
    · have := depthAll_mem h
      simp only [PyData.depthAll]; omega
section
variable {X : Cx}
theorem cr_sortV (hu : X.A.units + 64 < cLine) : CallR X (.builtin "sorted") (rSortV X.K) := by
  intro pins s σ H vs us Q I r h
  obtain ⟨a, ps, rfl, hs, l, hal, hk, hd, q⟩ := h
  rw [Vals.ref1 r]
  have key : ∀ {T : String} {o : Obj} {its : List Value} {n : Nat}, (T = "list" ∨ T = "tuple") → s.heap.get? a = some o → o.cls = .type T → o.data = .seq its.toArray n → Vals (ps.map (·.1)) its → ps.length ≤ sizeLine →
      wpAny (model X.prog X.w) X.A (call (.builtin "sorted") [.ref a]) (EP X pins σ Q) X.xe s := fun {T o its n} hT ho hc hdt rv hz => by
    obtain ⟨as, hr⟩ := Dp.readsAll I _ _ _ l rv
    refine W.sorted_seq (R := fun v (b : V × PyData) => RelV b.1 v) (enc := fun (b : V × PyData) => b.2) hT ho hc hdt (eachV rv) (W.readsAll_each (fun (b : V × PyData) => b.2) hr) hal hk hz (fun b hb => ?_) fun h' d out kp hd2 hn hlen he => ?_
    · have := depthAll_mem (List.mem_map.mpr ⟨b, hb, rfl⟩ : b.2 ∈ ps.map (·.2))
      omega
    · obtain ⟨n2, hn⟩ := hn
      refine ⟨.ref d, upd H d (.lst ((ps.mergeSort (W.dataLe false (·.2))).map (·.1))), I.laid (t' := s.toks) kp hd2 ⟨?_, out, n2, eachB he, hn⟩, rfl, q d (I.hok.fresh hd2)⟩
      rw [List.length_map, List.length_mergeSort]; exact hz
  rcases hs with hs | hs
  · obtain ⟨its, rv, hl, hz⟩ := I.list hs
    obtain ⟨o, ho, hc, n, hdt⟩ := hl.isList
    exact key (.inl rfl) ho hc hdt rv (by simpa using hz)
  · obtain ⟨its, rv, hl, hz⟩ := I.tuple hs
    obtain ⟨o, ho, hc, n, hdt⟩ := hl
    exact key (.inr rfl) ho hc hdt rv (by simpa using hz)
/-- the data sorted -/
def sortD (xs : List PyData) : List PyData := xs.mergeSort (W.dataLe false id)
def okSort (xs : List PyData) : Prop := W.AllAlike xs ∧ W.Sortable xs ∧ PyData.depthAll xs ≤ 60
@[simp ↓] def gSorted : GF := fun ds k => match ds with
  | [.list xs] => okSort xs ∧ k (.ol (sortD xs))
  | [.tuple xs] => okSort xs ∧ k (.ol (sortD xs))
  | _ => False
theorem zip_snd' {α β : Type} : ∀ {xs : List α} {ys : List β}, xs.length = ys.length → (xs.zip ys).map (·.2) = ys
  | [], [], _ => rfl
  | _ :: xs, _ :: ys, h => by simp at h; simp [zip_snd' h]
theorem zip_fst' {α β : Type} : ∀ {xs : List α} {ys : List β}, xs.length = ys.length → (xs.zip ys).map (·.1) = xs
  | [], [], _ => rfl
  | _ :: xs, _ :: ys, h => by simp at h; simp [zip_fst' h]
theorem rpL_zip {K : PySem.W.Frag} {F : Hp} : ∀ {ps : List (V × PyData)}, (∀ p ∈ ps, Rp K F p.1 p.2) → RpL K F (ps.map (·.1)) (ps.map (·.2))
  | [], _ => .nil
  | p :: ps, h => .cons (h p List.mem_cons_self) (rpL_zip fun q hq => h q (List.mem_cons_of_mem _ hq))
theorem zip_rpL {K : PySem.W.Frag} {F : Hp} : ∀ {xs : List V} {ds : List PyData}, RpL K F xs ds → ∀ p ∈ xs.zip ds, Rp K F p.1 p.2
  | _, _, .nil, p, h => by simp at h
  | _, _, .cons a t, p, h => by
    rw [List.zip_cons_cons] at h
    rcases List.mem_cons.mp h with rfl | h
    · exact a
    · exact zip_rpL t p h
variable {K : PySem.W.Frag} {R : Root τ}
theorem cv_sorted : CallV K R (rSortV K) gSorted := by
  intro F env σ H xs ds k Q r b w q
  have fin : ∀ (a : Addr) (ys : List V) (es : List PyData), (SqL K H a ys ∨ SqT K H a ys) → RpL K F ys es → okSort es → k (.ol (sortD es)) → rSortV K [V.ref a] H Q := fun a ys es hs l ok w => by
    have e1 := zip_fst' l.length
    have e2 := zip_snd' l.length
    refine ⟨a, ys.zip es, rfl, by rw [e1]; exact hs, by rw [e1, e2]; exact l.dp r.sub, by rw [e2]; exact ok.1, by rw [e2]; exact ok.2.1, by rw [e2]; exact ok.2.2, fun p hp => ?_⟩
    have ls : RpL K F (((ys.zip es).mergeSort (W.dataLe false (·.2))).map (·.1)) (((ys.zip es).mergeSort (W.dataLe false (·.2))).map (·.2)) := rpL_zip fun p hp => zip_rpL l p (List.mem_mergeSort.mp hp)
    have e3 : ((ys.zip es).mergeSort (W.dataLe false (·.2))).map (·.2) = sortD es := by
      have := List.map_mergeSort (f := fun (x : V × PyData) => x.2) (r := W.dataLe false (fun (x : V × PyData) => x.2)) (s := W.dataLe false id) (l := ys.zip es) (fun a _ b _ => rfl)
      rw [e2] at this
      exact this
    rw [e3] at ls
    obtain ⟨r4, p4, fr⟩ := new_ol r hp ls
    exact q F _ _ _ (Same.refl F) r4 p4 fr w
  match ds, w with
  | [.list es], w =>
    obtain ⟨y, rfl, bx⟩ := br1 b
    obtain ⟨a, ys, rfl, h, l⟩ := bx.lst r.sub
    exact fin a ys es (.inl (.inl (.inl h))) l w.1 w.2
  | [.tuple es], w =>
    obtain ⟨y, rfl, bx⟩ := br1 b
    obtain ⟨a, ys, rfl, h, l, _⟩ := bx.tup r.sub
    exact fin a ys es (.inr h) l w.1 w.2
end
end VL
set_option Elab.async false
set_option linter.all false
set_option maxRecDepth 100000
set_option maxHeartbeats 2000000
/-! VL26: zip, index, count, op=, bits. -/
namespace VL
open PySem PySem.Spec PyProof.Rows L2 RZ
variable {τ : Tau}
/-! ### zip -/
def zipD (xs ys : List PyData) : List PyData := (xs.zip ys).map fun p => .tuple [p.1, p.2]
theorem zip_at {α β : Type} : ∀ (xs : List α) (ys : List β) (i : Nat), (xs.zip ys)[i]? = match xs[i]?, ys[i]? with
    | some x, some y => some (x, y)
    | _, _ => none
  | [], ys, i => by simp
  | x :: xs, [], i => by cases h : (x :: xs)[i]? <;> simp [h]
  | x :: xs, y :: ys, 0 => by simp
  | x :: xs, y :: ys, i + 1 => by simpa using zip_at xs ys i
theorem zip_step {K : PySem.W.Frag} {R : Root τ} {F1 H H' : Hp} {env : PEnv} {σ : L2.St} {i : Nat} {xs ys : List V} {ds es : List PyData} {d : PyData} (r : Rel K R F1 env σ H) (l : RpL K F1 xs ds) (l2 : RpL K F1 ys es) (e : (zipD ds es)[i]? = some d) {v : V}
    (hy : ∃ T x y, v = .ref T ∧ H T = none ∧ H' = upd H T (.tup [x, y]) ∧ xs[i]? = some x ∧ ys[i]? = some y) : ∃ F2, Same F1 F2 ∧ Rel K R F2 env σ H' ∧ Rp K F2 v d := by
  obtain ⟨T, x, y, rfl, hT, rfl, hx, hy⟩ := hy
  unfold zipD at e
  rw [List.getElem?_map, zip_at] at e
  obtain ⟨d0, hd0, px⟩ := l.get hx
  obtain ⟨d1, hd1, py⟩ := l2.get hy
  rw [hd0, hd1] at e
  cases e
  obtain ⟨f2, r2, p2⟩ := new_tup r hT (.cons px (.cons py .nil))
  exact ⟨_, f2, r2, p2⟩
theorem zipD_lt {ds es : List PyData} {i : Nat} {d : PyData} (e : (zipD ds es)[i]? = some d) : i < ds.length ∧ i < es.length := by
  have h := (List.getElem?_eq_some_iff.mp e).1
  unfold zipD at h
  rw [List.length_map, List.length_zip] at h
  omega
theorem zipD_len (ds es : List PyData) : (zipD ds es).length = min ds.length es.length := by unfold zipD; simp
theorem yl_zipL {K : PySem.W.Frag} {F : Hp} {a b : Addr} {xs ys : List V} {ds es : List PyData} (h : SqL K F a xs) (h2 : SqL K F b ys) (l : RpL K F xs ds) (l2 : RpL K F ys es) : Yl K F (Itz K a b) (zipD ds es) where
  go := fun R F1 env σ H i d f r e => by
    obtain ⟨hl, hl2⟩ := zipD_lt e
    obtain ⟨x, hx⟩ : ∃ x, xs[i]? = some x := ⟨_, List.getElem?_eq_getElem (by rw [l.length]; exact hl)⟩
    obtain ⟨y, hy⟩ : ∃ x, ys[i]? = some x := ⟨_, List.getElem?_eq_getElem (by rw [l2.length]; exact hl2)⟩
    have hs : SqL K H a xs := (f.trans r.sub).seq h
    have hs2 : SqL K H b ys := (f.trans r.sub).seq h2
    exact ⟨⟨xs, ys, x, y, hs, hs2, hx, hy⟩, fun v H' ⟨T, z, z2, e1, e2, e3, e4, e5⟩ => zip_step r (rpL_mono f _ _ l) (rpL_mono f _ _ l2) e ⟨T, z, z2, e1, e2, e3, e4 xs hs, e5 ys hs2⟩⟩
  stop := fun R F1 env σ H f r => ⟨xs, ys, (f.trans r.sub).seq h, (f.trans r.sub).seq h2, by rw [zipD_len, l.length, l2.length]; omega⟩
theorem yl_zipT {K : PySem.W.Frag} {F : Hp} {a b : Addr} {xs ys : List V} {ds es : List PyData} (h : SqT K F a xs) (h2 : SqT K F b ys) (l : RpL K F xs ds) (l2 : RpL K F ys es) : Yl K F (ItzT K a b) (zipD ds es) where
  go := fun R F1 env σ H i d f r e => by
    obtain ⟨hl, hl2⟩ := zipD_lt e
    obtain ⟨x, hx⟩ : ∃ x, xs[i]? = some x := ⟨_, List.getElem?_eq_getElem (by rw [l.length]; exact hl)⟩
    obtain ⟨y, hy⟩ : ∃ x, ys[i]? = some x := ⟨_, List.getElem?_eq_getElem (by rw [l2.length]; exact hl2)⟩
    have hs : SqT K H a xs := seqT_mono (f.trans r.sub) h
    have hs2 : SqT K H b ys := seqT_mono (f.trans r.sub) h2
    exact ⟨⟨xs, ys, x, y, hs, hs2, hx, hy⟩, fun v H' ⟨T, z, z2, e1, e2, e3, e4, e5⟩ => zip_step r (rpL_mono f _ _ l) (rpL_mono f _ _ l2) e ⟨T, z, z2, e1, e2, e3, e4 xs hs, e5 ys hs2⟩⟩
  stop := fun R F1 env σ H f r => ⟨xs, ys, seqT_mono (f.trans r.sub) h, seqT_mono (f.trans r.sub) h2, by rw [zipD_len, l.length, l2.length]; omega⟩
@[simp ↓] def wiZip (wa : WA) : WI := fun env Q => wa env fun ds e1 => match ds with
  | [.list xs, .list ys] => Q (zipD xs ys) e1
  | [.tuple xs, .tuple ys] => Q (zipD xs ys) e1
  | _ => False
theorem ci_zip {X : Cx} {R : Root τ} {e e2 : Expr} {wa : WA} {p pos tpos : Pos} {elts : List Expr} {kk : Nat} (hg : Gl X "zip") (hm : X.mg "zip" = none) (he : CA X R [e, e2] wa) (hs : starEach [e, e2] X.env = (false, eval e X.env) :: starEach [e2] X.env := by rfl) (hpl : (backTo pos (starEach [e2] X.env)).any (·.1) = false := by rfl) :
    CI X R (.Tuple elts kk tpos) (.Call (.Name "zip" p) [e, e2] [] pos) (wiZip wa) :=
  pi_imp (pi_zipA hg hm he hs hpl) fun σ H Rk ⟨F, env, Qw, r, w, k⟩ => ⟨F, env, _, r, w, fun F1 e1 H1 xs ds f1 r1 p1 w1 => by
    match ds, p1, w1 with
    | [.list es, .list gs], .cons (.lst h1 l1) (.cons (.lst h2 l2) .nil), w1 =>
      exact ⟨_, _, _, _, rfl, .inl ⟨.inl (.inl (r1.sub _ _ h1)), .inl (.inl (r1.sub _ _ h2)), k F1 e1 H1 _ _ f1 r1 (yl_zipL (.inl (.inl h1)) (.inl (.inl h2)) l1 l2) w1⟩⟩
    | [.tuple es, .tuple gs], .cons (.tup h1 l1) (.cons (.tup h2 l2) .nil), w1 =>
      exact ⟨_, _, _, _, rfl, .inr ⟨seqT_mono r1.sub h1.sq, seqT_mono r1.sub h2.sq, k F1 e1 H1 _ _ f1 r1 (yl_zipT h1.sq h2.sq l1 l2) w1⟩⟩⟩
/-! ### bits -/
@[simp ↓] def gXor : G2 := fun a b k => match a, b with
  | .int i, .int j => k (.int (Builtin.bitXor i j))
  | _, _ => False
@[simp ↓] def gAnd : G2 := fun a b k => match a, b with
  | .int i, .int j => k (.int (Builtin.bitAnd i j))
  | _, _ => False
@[simp ↓] def gShr : G2 := fun a b k => match a, b with
  | .int i, .int j => 0 ≤ j ∧ k (.int (i / 2 ^ j.toNat))
  | _, _ => False
@[simp ↓] def gShl : G2 := fun a b k => match a, b with
  | .int i, .int j => CPow i j ∧ k (.int (i * 2 ^ j.toNat))
  | _, _ => False
section
variable {X : Cx} {R : Root τ} {a b : Expr} {wa wb : WO} {pos : Pos} {K : PySem.W.Frag}
theorem ow_xor : OpW K R (rI0 fun i j => .int (Builtin.bitXor i j)) gXor := by
  intro F env σ H x y a b k Q r pa pb w q
  cases a with
  | int i =>
    cases b with
    | int j => exact ⟨i, j, pa.int, pb.int, q F H _ _ (Same.refl F) r (.int _) w⟩
    | _ => cases w
  | _ => cases b <;> cases w
theorem ow_and : OpW K R (rI0 fun i j => .int (Builtin.bitAnd i j)) gAnd := by
  intro F env σ H x y a b k Q r pa pb w q
  cases a with
  | int i =>
    cases b with
    | int j => exact ⟨i, j, pa.int, pb.int, q F H _ _ (Same.refl F) r (.int _) w⟩
    | _ => cases w
  | _ => cases b <;> cases w
theorem ce_xor (ha : CO X R a wa) (hb : CO X R b wb) : CE X R (.BinOp a .BitXor b pos) (wBin gXor wa wb) := ce_bin op_xor ow_xor ha hb
theorem ce_band (ha : CO X R a wa) (hb : CO X R b wb) : CE X R (.BinOp a .BitAnd b pos) (wBin gAnd wa wb) := ce_bin op_and ow_and ha hb
theorem ce_shr (ha : CO X R a wa) (hb : CO X R b wb) : CE X R (.BinOp a .RShift b pos) (wBin gShr wa wb) := ce_bin op_shr (ow_int fun a b k h => by
  match a, b, h with
  | .int i, .int j, h => exact ⟨i, j, rfl, rfl, h.1, h.2⟩) ha hb
theorem ce_shl (ha : CO X R a wa) (hb : CO X R b wb) : CE X R (.BinOp a .LShift b pos) (wBin gShl wa wb) := ce_bin op_shl (ow_int fun a b k h => by
  match a, b, h with
  | .int i, .int j, h => exact ⟨i, j, rfl, rfl, h.1, h.2⟩) ha hb
end
/-! ### x op= e -/
@[simp ↓] def gAddI : G2 := fun a b k => match a, b with
  | .int i, .int j => k (.int (i + j))
  | _, _ => False
@[simp ↓] def gMulI : G2 := fun a b k => match a, b with
  | .int i, .int j => CMul i j ∧ k (.int (i * j))
  | _, _ => False
@[simp ↓] def wAug (g : G2) (i : Nat) (we : WE) : WS := fun D env => res env (.inr i) (fun d => match d with | .int _ => True | _ => False) ∧ we env fun y e1 => res e1 (.inr i) fun x => g x y fun z => D.nx (e1.set i (some (.fz z)))
section
variable {X : Cx} {R : Root τ} {K : PySem.W.Frag} {e : Expr} {we : WE} {pos pos' : Pos} {i : Nat} {x : Str} {op : Operator} {r : R2} {g : G2}
theorem ow_addI : OpW K R (rI0 fun i j => .int (i + j)) gAddI := by
  intro F env σ H x y a b k Q r pa pb w q
  cases a with
  | int i =>
    cases b with
    | int j => exact ⟨i, j, pa.int, pb.int, q F H _ _ (Same.refl F) r (.int _) w⟩
    | _ => cases w
  | _ => cases b <;> cases w
theorem ow_mulI : OpW K R (rI CMul fun i j => .int (i * j)) gMulI := ow_int fun a b k h => by
  match a, b, h with
  | .int i, .int j, h => exact ⟨i, j, rfl, rfl, h.1, h.2⟩
theorem cs_augW (ho : OpR X (inplaceOp op) r) (hw : OpW X.K R r g) (hN : X.N.Nodup) (hi : X.N[i]? = some x) (hx : Loc X.env.scope x) (he : CE X R e we) (hf : X.fn x = true ∨ X.env.scope.names.lookup x = some .local := by first | exact .inl rfl | exact .inr rfl | assumption) :
    CS X R (.AugAssign (.Name x pos') op e pos) (wAug g i we) :=
  ps_imp (ps_aug hN hi hx he ho hf) fun D σ H ⟨F, env, W, r0, ⟨w0, w⟩, l⟩ => by
    have hv : ∃ v, σ[i]? = some (some v) := by
      unfold res at w0
      cases q : env[i]? with
      | none => simp [q] at w0
      | some o =>
        cases o with
        | none => simp [q] at w0
        | some s =>
          obtain ⟨v, h1, _⟩ := r0.sl i s q
          exact ⟨v, h1⟩
    obtain ⟨v, hv⟩ := hv
    refine ⟨v, hv, F, env, _, r0, w, fun F1 e1 H1 y d f1 r1 p1 w1 => ?_⟩
    obtain ⟨dx, b1, w2⟩ := res_ok r1 (o := .inr i) hv w1
    exact hw F1 e1 σ H1 v y dx d _ _ r1 b1 (.rp p1) w2 fun F2 H2 z dz f2 r2 p2 w3 => l.nx F2 _ _ H2 (f1.trans f2) (r2.set (s := .fz dz) p2 fresh_fz) w3
/-! ### xs[i] op= e -/
theorem get_list : PGet X (rIxL X.K) := by
  intro pins s σ H x y v u Q I rx ry h
  obtain ⟨p, xs, i, z, rfl, rfl, hq, he, q⟩ := h
  cases rx
  obtain ⟨t, rfl⟩ := ry
  obtain ⟨its, r, pl, hz⟩ := I.list hq
  obtain ⟨j, h1, h2, h3, h4, h5⟩ := L2.atI_get he
  obtain ⟨w, ew, rw'⟩ := r.get h2
  have hl := r.length
  have hn := line63
  have fin : EP X pins σ Q w s := ⟨z, H, I, rw', q⟩
  by_cases h0 : 0 ≤ i
  · have hj : i.toNat = j := by
      rw [seqIndex_of h0 h5] at h1
      exact Option.some.inj h1
    exact wpAny_getItem_list pl.isList h0 (by omega) (by rw [hj]; simpa using ew) fin
  · have hj : (i + (its.toArray.size : Int)).toNat = j := by
      rw [seqIndex_neg (by omega) h4] at h1
      rw [List.size_toArray, ← hl]
      exact Option.some.inj h1
    exact wpAny_getItem_list_neg pl.isList (by omega) (by rw [List.size_toArray] <;> omega) (by omega) (by rw [hj]; simpa using ew) fin
@[simp ↓] def wAugSM (i : Nat) (D : WD) (kk : Int) (x : PyData) (e2 : PEnv) (z : PyData) : Prop := match e2[i]? with
  | some (some (.ol es)) => ∃ j, ixN es.length kk = some j ∧ D.nx (e2.set i (some (.ol (es.set j z))))
  | _ => False
@[simp ↓] def wAugSK (i : Nat) (g : G2) (we : WE) (D : WD) (y : PyData) (e1 : PEnv) : Prop := match e1[i]?, y with
  | some (some (.ol ds)), .int kk => ∃ x, atI ds kk = some x ∧ we e1 fun y2 e2 => (∃ xi, x = .int xi) ∧ g x y2 fun z => wAugSM i D kk x e2 z
  | _, _ => False
@[simp ↓] def wAugS (i : Nat) (g : G2) (wi we : WE) : WS := fun D env => (∃ ds0, env[i]? = some (some (.ol ds0))) ∧ wi env fun y e1 => wAugSK i g we D y e1
theorem cs_augS {ie : Expr} {wi : WE} {tpos : Pos} (ho : OpR X (inplaceOp op) r) (hw : OpW X.K R r g) (h : PE X (.Name x pos') (tVar i)) (hi : CE X R ie wi) (he : CE X R e we)
    (ha : ∀ ov iv new, augStore ie ov iv new = (do holding [new, ov, iv] (setItem ov iv new); release [new, ov, iv] []; pure .next) := by intros; rfl) :
    CS X R (.AugAssign (.Subscript (.Name x pos') ie tpos) op e pos) (wAugS i g wi we) :=
  ps_imp (ps_augS h hi get_list he ho set_list ha) fun D σ H ⟨F, env, W, r0, ⟨⟨ds0, h0⟩, w⟩, l⟩ => by
    obtain ⟨a, xs0, h1, ow0, h2, l0⟩ := ol_at r0 h0
    refine ⟨_, h1, F, env, _, r0, w, fun F1 e1 H1 y dy f1 r1 p1 w1 => ?_⟩
    unfold wAugSK at w1
    split at w1
    · rename_i ds kk q
      obtain ⟨x, hx, w2⟩ := w1
      obtain ⟨a', xs, h3, ow, h4, l1⟩ := ol_at r1 q
      rw [h1] at h3; cases h3
      cases p1
      obtain ⟨j, v, e1', e2', e3'⟩ := atI_len l1.length hx
      obtain ⟨d', e4, rv⟩ := l1.get e2'
      rw [e3'] at e4; cases e4
      refine ⟨a, xs, kk, v, rfl, rfl, .inl (.inl h4), e1', F1, e1, _, r1, w2, fun F2 e2 H2 y2 dy2 f2 r2 p2 w3 => ?_⟩
      obtain ⟨⟨xi, rfl⟩, w3⟩ := w3
      cases rv
      refine hw F2 e2 σ H2 _ y2 (.int xi) dy2 _ _ r2 (.rp (.int xi)) (.rp p2) w3 fun F3 H3 z dz f3 r3 p3 w4 => ?_
      unfold wAugSM at w4
      split at w4
      · rename_i es q2
        obtain ⟨j2, hj2, w5⟩ := w4
        obtain ⟨a2, xs2, h5, ow2, h6, l2⟩ := ol_at r3 q2
        rw [h1] at h5; cases h5
        refine ⟨a, xs2, kk, j2, rfl, rfl, h6, by rw [l2.length]; exact hj2, ?_⟩
        exact l.nx F3 _ σ _ ((f1.trans f2).trans f3) (ol_write r3 q2 h1 ow2 h6 (l2.set p3 j2)) w5
      · cases w4
    · cases w1
/-! ### xs.index(e), xs.count(e) -/
def idxD (ds : List PyData) (y : PyData) : Option Nat := ds.findIdx? fun z => PyData.eqv z y
@[simp ↓] def wIdx (wo : WO) (we : WE) : WE := fun env Q => wo env fun o e1 => res e1 o (fun d => match d with | .list _ => True | _ => False) ∧ we e1 fun y e2 => res e2 o fun d => match d with
  | .list ds => SeqAt.shaped (.list ds) = true ∧ SeqAt.shaped y = true ∧ ∃ j, idxD ds y = some j ∧ Q (.int (j : Nat)) e2
  | _ => False
theorem ce_index {eo ea : Expr} {wo : WO} {wa : WE} {ap : Pos} (hu : X.A.units + 65 < cLine) (h : CO X R eo wo) (he : CE X R ea wa)
    (hbase : attributeBase eo "index" X.env (eval eo X.env) = eval eo X.env := by rfl)
    (hfew : ((backTo pos (starEach [ea] X.env)).all (fun x => !x.1) && (backToKw pos (keywordEach [] X.env)).all (fun x => x.1.isSome)
      && decide ([ea].length + ([] : List Keyword).length + (if ([] : List Keyword).isEmpty then 0 else 1) < 30)) = true := by rfl)
    (hline : (ap.endLine == pos.line) = true := by rfl) (hs : starEach [ea] X.env = (false, eval ea X.env) :: starEach [] X.env := by rfl) (hplain : (backTo pos (starEach [] X.env)).any (·.1) = false := by rfl) :
    CE X R (.Call (.Attribute eo "index" ap) [ea] [] pos) (wIdx wo wa) :=
  pe_imp (pe_bm PySem.F.plainAttrs_list PySem.F.slot_list_index PySem.F.type_list_index (mt_indexD hu) h (ca_cons he ca_nil hs) hbase hfew hline hs hplain) fun σ H Q ⟨F, env, Qw, r0, w, k⟩ =>
    ⟨F, env, _, r0, w, fun F1 e1 H1 x o f1 r1 p1 ⟨w1, w2⟩ => by
      obtain ⟨d, b1, w3⟩ := res_ok r1 p1 w1
      cases d with
      | list ds0 =>
        obtain ⟨a, xs, rfl, ha, la⟩ := b1.lst r1.sub
        refine ⟨.inl ⟨rfl, xs, .inl (.inl ha)⟩, F1, e1, fun ds e2 => match ds with
          | [y] => res e2 o fun d => match d with
            | .list ds => SeqAt.shaped (.list ds) = true ∧ SeqAt.shaped y = true ∧ ∃ j, idxD ds y = some j ∧ Qw (.int (j : Nat)) e2
            | _ => False
          | _ => False, r1, w2, fun F2 e2 H2 ys es f2 r2 p2 w4 => ?_⟩
        match es, p2, w4 with
        | [d], .cons q1 .nil, w4 =>
          obtain ⟨d2, b2, w5⟩ := res_ok r2 (p1.mono f2) w4
          cases d2 with
          | list ds =>
            obtain ⟨s1, s2, j, hj, w6⟩ := w5
            obtain ⟨a2, xs2, e2', ha2, la2⟩ := b2.lst r2.sub
            cases e2'
            unfold idxD at hj
            rw [List.findIdx?_eq_some_iff_getElem] at hj
            obtain ⟨hlt, hz, hno⟩ := hj
            refine ⟨a, _, d, ds, j, ds[j], rfl, rfl, .lst (.inl (.inl ha2)) (la2.dp r2.sub), q1.dp r2.sub, s1, s2, List.getElem?_eq_getElem hlt, hz, fun m z' hm hz' => ?_, k F2 e2 H2 _ _ (f1.trans f2) r2 (.int _) w6⟩
            have hml : m < ds.length := by omega
            rw [List.getElem?_eq_getElem hml] at hz'
            cases hz'
            simpa using hno m hm
          | _ => cases w5
      | _ => cases w3⟩
end
end VL
set_option Elab.async false
set_option linter.all false
set_option maxRecDepth 100000
set_option maxHeartbeats 2000000
/-! VL27: the draws of _law_open. -/
namespace VL
open PySem PySem.Spec PyProof.Rows L2 RZ
variable {τ : Tau}
/-- the draws' parts: turn, rest, cells -/
def Dr3 (t l : Int) (cs : List Int) : Prop := 0 ≤ t ∧ 0 ≤ l ∧ cs ≠ [] ∧ cs.length ≤ 64 ∧ ∀ n ∈ cs, 0 ≤ n
@[simp ↓] def wDrUn (i : Nat) (g : WGs) : WS := fun D env => env[i]? = some (some .dr) ∧ ∀ (t l : Int) (cs : List Int), Dr3 t l cs → g [.int t, .int l, .list (cs.map .int)] env D.nx
@[simp ↓] def wgDr (i : Nat) (wi : WE) : WG := fun d env Q => env[i]? = some (some .dr) ∧ wi env fun y e1 => (y = .int 0 ∨ y = .int 1) ∧ e1[i]? = some (some .dr) ∧ (match d with | .int z => 0 ≤ z | _ => False) ∧ Q e1
section
variable {X : Cx} {R : Root τ} {x : Str} {p pos tpos : Pos} {i : Nat}
theorem dr_at {K : PySem.W.Frag} {F H : Hp} {env : PEnv} {σ : L2.St} (hm : τ.m2 = true) (r : Rel K R F env σ H) (h : env[i]? = some (some .dr)) : ∃ a t l c cs, σ[i]? = some (some (.ref a)) ∧ (F a = none ∧ R.keep a = none) ∧ (R.H0 a = none ∨ R.d = some a) ∧ H a = some (.lst [.int t, .int l, .ref c]) ∧ F c = some (.lst (cs.map V.int)) ∧ Dr3 t l cs := by
  obtain ⟨v, h1, a, rfl, h2, h3, o, h4, h5⟩ := r.sl i _ h
  obtain ⟨t, l, c, cs, rfl, q1, q2, q3, q4, q5, q6⟩ := h5.two hm
  exact ⟨a, t, l, c, cs, h1, h2, h3, h4, q3, q1, q2, q4, q5, q6⟩
theorem cs_drUn {es : List Expr} {kk : Nat} {vs : List Nat} {g : WGs} {n : Nat} (hm : τ.m2 = true) (hn3 : n = 3) (hc : X.calm = true) (h : PE X (.Name x p) (tVar i)) (hg : CGs X R vs es g) (hn : (assignEach es X.env).length = n := by rfl) (hst : (assignEach es X.env).findIdx? (·.1) = none := by rfl)
    (hs : swapsWithSole [.Tuple es kk tpos] (.Name x p) pos.line X.env = pure false := by rfl) (hw : swappedStores [.Tuple es kk tpos] (.Name x p) X.env = pure none := by rfl)
    (h1 : (assignEach [.Tuple es kk tpos] X.env).map (·.2) = [assign (.Tuple es kk tpos) X.env] := by rfl) : CS X R (.Assign [.Tuple es kk tpos] (.Name x p) pos) (wDrUn i g) :=
  ps_imp (ps_asg h (pg_unl hc hg hn hst) hs hw h1) fun D σ H ⟨F, env, W, r, ⟨h0, w⟩, l⟩ => by
    subst hn3
    obtain ⟨a, t, l', c, cs, q1, q2, q3, q4, q5, q6⟩ := dr_at hm r h0
    exact ⟨_, q1, a, _, rfl, .inl (.inl q4), rfl, F, env, _, [.int t, .int l', .list (cs.map .int)], r, .cons (.int t) (.cons (.int l') (.cons (.lst q5 (rpL_ints cs)) .nil)), w t l' cs q6, fun F2 e2 σ2 H2 f2 r2 _ w2 => l.nx F2 e2 σ2 H2 f2 r2 w2⟩
theorem cg_drSet {vs : List Nat} {e : Expr} {we : WE} (hm : τ.m2 = true) (h : PE X (.Name x p) (tVar i)) (he : CE X R e we)
    (ha : ∀ v, assign (.Subscript (.Name x p) e pos) X.env v = (do
      let ov ← holding [v] (eval (.Name x p) X.env)
      let iv ← holding [v, ov] (eval e X.env)
      standAt pos
      holding [v, ov, iv] (setItem ov iv v)
      release [v, ov, iv] []) := by intro _; rfl) : CG X R vs (.Subscript (.Name x p) e pos) (wgDr i we) :=
  pg_imp (pg_sub h he set_list ha) fun v σ H Q ⟨F, env, Qw, d, r, pd, ⟨h0, w⟩, k⟩ => by
    obtain ⟨a0, _, _, _, _, q1, _⟩ := dr_at hm r h0
    refine ⟨_, q1, F, env, _, r, w, fun F1 e1 H1 y dy f1 r1 p1 ⟨hy, h2, hz, w2⟩ => ?_⟩
    obtain ⟨a, t, l', c, cs, s1, s2, s3, s4, s5, s6⟩ := dr_at hm r1 h2
    rw [q1] at s1; cases s1
    have hz : ∃ z, d = .int z ∧ 0 ≤ z := by
      cases d with
      | int z => exact ⟨z, rfl, hz⟩
      | _ => cases hz
    obtain ⟨z, rfl, hz0⟩ := hz
    cases pd
    have wr : ∀ o', DrB τ F1 o' → Rel X.K R F1 (e1.set i (some .dr)) σ (upd H1 a0 o') := fun o' b => r1.write h2 rfl rfl q1 s4 s2.1 s2.2 s3 b.1 (fun _ => b) ⟨a0, rfl, s2, s3, o', upd_same, b⟩
    have es : e1.set i (some .dr) = e1 := by
      refine List.ext_getElem? fun j => ?_
      by_cases hj : j = i
      · subst hj; rw [List.getElem?_set_self (List.getElem?_eq_some_iff.mp h2).1, h2]
      · rw [List.getElem?_set_ne (Ne.symm hj)]
    rw [es] at wr
    rcases hy with rfl | rfl
    · cases p1
      exact ⟨a0, _, 0, 0, rfl, rfl, s4, rfl, k F1 e1 σ _ f1 (wr _ (DrB.mk2 hm hz0 s6.2.1 s5 s6.2.2.1 s6.2.2.2.1 s6.2.2.2.2)) (Chg.refl _ _) w2⟩
    · cases p1
      exact ⟨a0, _, 1, 1, rfl, rfl, s4, rfl, k F1 e1 σ _ f1 (wr _ (DrB.mk2 hm s6.1 hz0 s5 s6.2.2.1 s6.2.2.2.1 s6.2.2.2.2)) (Chg.refl _ _) w2⟩
end
section
variable {P : Program} {w : World} {K : PySem.W.Frag} {mg : Str → Option Value} {base : Heap} {f : Addr} {fd : FuncData}
/-- turn, rest, cells as draws -/
def drW2 (fw : FW) : FW := fun args Q Ew => fw args (fun s => ∃ (t l : Int) (cs : List Int), s = .ol [.int t, .int l, .list (cs.map .int)] ∧ Dr3 t l cs ∧ Q .dr) Ew
theorem fn_dr2 (hm : τ.m2 = true) {k n : Nat} {ps : List Str} {fw : FW} {CX : CXT} (F : FnOk P w K mg base CX k f fd ps (spW τ K mg n fw)) : FnOk P w K mg base CX k f fd ps (spW τ K mg n (drW2 fw)) :=
  F.imp fun vs H Q E ⟨hl, Fz, d, args, Qw, Ew, hb, ha, hf, hq, he⟩ => ⟨hl, Fz, d, args, _, Ew, hb, ha, hf, fun F' H' x s ff b p ⟨t, l', cs, e, h3, q⟩ => by
    subst e
    obtain ⟨a, xs, ex, ow, h1, l⟩ := p
    match xs, l with
    | [_, _, _], .cons (.int _) (.cons (.int _) (.cons (.lst hc lc) .nil)) =>
      obtain rfl := ints_of cs lc
      exact hq F' H' x .dr ff b ⟨a, ex, ⟨ow.1, ow.2.2⟩, .inl ow.2.1, _, h1, DrB.mk2 hm h3.1 h3.2.1 hc h3.2.2.1 h3.2.2.2.1 h3.2.2.2.2⟩ q, he⟩
end
end VL
set_option Elab.async false
set_option linter.all false
set_option maxRecDepth 100000
set_option maxHeartbeats 2000000
/-! VL28: the plain laws of _law_open, _law_mixed, _law_draw. -/
namespace VL
open PySem PySem.Spec PyProof.Rows L2
@[simp ↓] def mixW : FW := fun args Q _ => match args with
  | [.fz (.int c), .fz (.int t)] => 0 ≤ t ∧ ∀ v : Int, 0 ≤ v → v < 2305843009213693952 → Q (.fz (.int v))
  | _ => False
@[simp ↓] def openW : FW := fun args Q _ => match args with
  | [.sc ns] => ns.length ≤ 63 ∧ Q .dr
  | _ => False
def w_open : (Str → Prop) → WS := fun _ => (wSeq (wSet 1 (wLc (wiSeq (wVal (wSlSc 0 wNo (wSome (wC (.int 63)))))) (wgName 2) wYes (wCallB gAbs (wOcons (wO (wCallB gInt (wOcons (wB 2) wOnil))) wOnil)) [2]))
  (wRet (wLst (wCons (wC (.int 0)) (wCons (wC (.int 0)) (wCons (wBin gAdd (wB 1) (wO (wVal (wLst (wCons (wC (.int 0)) wNil))))) wNil))))))
def w_mixed : (Str → Prop) → WS := fun _ => (wSeq (wSet 2 (wFz (wBin gMod (wO (wBin gAdd (wO (wBin gAdd (wO (wBin gMul (wO (wBin gMod (wB 0) (wO (wBin gSub (wO (wBin gPow (wO (wC (.int 2))) (wO (wC (.int 61))))) (wO (wC (.int 1))))))) (wO (wC (.int 6364136223846793005))))) (wO (wBin gMul (wB 1) (wO (wC (.int 1442695040888963407))))))) (wO (wC (.int 97))))) (wO (wBin gPow (wO (wC (.int 2))) (wO (wC (.int 61))))))))
  (wSeq (wSet 2 (wFz (wBin gMod (wO (wBin gMul (wO (wBin gXor (wB 2) (wO (wBin gShr (wB 2) (wO (wC (.int 29))))))) (wO (wC (.int 3935559000370003845))))) (wO (wBin gPow (wO (wC (.int 2))) (wO (wC (.int 61))))))))
  (wRet (wFz (wBin gMod (wO (wBin gMul (wO (wBin gXor (wB 2) (wO (wBin gShr (wB 2) (wO (wC (.int 31))))))) (wO (wC (.int 2862933555777941757))))) (wO (wBin gPow (wO (wC (.int 2))) (wO (wC (.int 61))))))))))
def w_draw : (Str → Prop) → WS := fun _ => (wSeq (wDrUn 0 (wgCons (wgName 2) (wgCons (wgName 3) (wgCons (wgName 4) wgNil))))
  (wSeq (wIfS (wTst (wBin gLt (wB 3) (wB 1))) (wSeq (wSet 5 (wFz (wBin gIx (wB 4) (wO (wBin gMod (wB 2) (wO (wCallB gLen (wOcons (wB 4) wOnil))))))))
  (wSeq (wSet 3 (wFz (wIf (wAndT (wTst (wBin gLt (wB 2) (wO (wCallB gLen (wOcons (wB 4) wOnil))))) (wTst (wBin gGe (wB 5) (wO (wBin gPow (wO (wC (.int 10))) (wO (wC (.int 18)))))))) (wVar 5) (wVal (wCall 2 mixW (wAsFz (wVar 5) (wAsFz (wVar 2) wAsNil)))))))
  (wSet 2 (wFz (wBin gAdd (wB 2) (wO (wC (.int 1)))))))) wNext)
  (wSeq (wAsg (wVar 2) (wgDr 0 (wC (.int 0))))
  (wSeq (wAsg (wBin gFdiv (wB 3) (wB 1)) (wgDr 0 (wC (.int 1))))
  (wRet (wFz (wBin gMod (wB 3) (wB 1))))))))
@[simp ↓] def drawW : FW := fun args Q _ => match args with
  | [.dr, .fz (.int b)] => 0 < b ∧ b ≤ 1000000000000000000000000000000 ∧ ∀ v : Int, 0 ≤ v → v < b → Q (.fz (.int v))
  | _ => False
theorem drawW_at {args : List Slot} {Q : Slot → Prop} {Ew : Str → Prop} (h : drawW args Q Ew) : ∃ b : Int, args = [.dr, .fz (.int b)] ∧ 0 < b ∧ b ≤ 1000000000000000000000000000000 ∧ ∀ v : Int, 0 ≤ v → v < b → Q (.fz (.int v)) := by
  unfold drawW at h
  split at h
  · exact ⟨_, rfl, h⟩
  · exact h.elim
theorem mixed_law (args : List Slot) (Q : Slot → Prop) (Ew : Str → Prop) (h : mixW args Q Ew) : fwOf 3 w_mixed args Q Ew := by
  unfold mixW at h
  split at h
  · rename_i c t
    obtain ⟨h0, q⟩ := h
    have p61 : CPow 2 61 := by simp [CPow]
    simp [w_mixed, p61]
    refine ⟨cmulA_r (by decide) (by decide), cmulA_r (by decide) (by decide), cmulA_r (by decide) (by decide), cmulA_r (by decide) (by decide), q _ (Int.emod_nonneg _ (by decide)) (Int.emod_lt_of_pos _ (by decide))⟩
  · exact h.elim
theorem open_law (args : List Slot) (Q : Slot → Prop) (Ew : Str → Prop) (h : openW args Q Ew) : drW2 (fwOf 3 w_open) args Q Ew := by
  unfold openW at h
  split at h
  · rename_i ns
    obtain ⟨hl, q⟩ := h
    unfold drW2
    generalize hR : (fun s => ∃ (t l : Int) (cs : List Int), s = Slot.ol [.int t, .int l, .list (cs.map .int)] ∧ Dr3 t l cs ∧ Q .dr) = RR
    simp [w_open]
    have e : cutD (ns.map .int) none (some 63) = (ns.take 63).map PyData.int := by
      have := cutD_take (ns.map PyData.int) 63
      rw [← List.map_take] at this
      exact this
    rw [e]
    have h63 : (63 : Nat) ≤ sizeLine := by decide
    refine lcW_map (fun c => PyData.int (if c < 0 then -c else c)) (by rw [List.length_take]; omega) (fun c hc Y hY => by simpa using hY) ?_
    simp
    refine ⟨by rw [sizeLine_is]; omega, ?_⟩
    rw [← hR]
    have e2 : ((ns.take 63).map fun c => if c < 0 then -c else c).map PyData.int = (ns.take 63).map fun c => PyData.int (if c < 0 then -c else c) := by rw [List.map_map]; rfl
    refine ⟨0, 0, ((ns.take 63).map fun c => if c < 0 then -c else c) ++ [0], ?_, ⟨by omega, by omega, by simp, by simp; omega, fun n hn => ?_⟩, q⟩
    · rw [List.map_append, e2, List.map_take]; rfl
    · rcases List.mem_append.mp hn with z | z
      · obtain ⟨c, _, rfl⟩ := List.mem_map.mp z
        split <;> omega
      · rw [List.mem_singleton.mp z]; exact Int.le_refl _
  · exact h.elim
theorem cdiv30 {i b : Int} (h0 : 0 < b) (h1 : b ≤ 1000000000000000000000000000000) : CDivW i b := by
  refine ⟨h0, ?_⟩
  have h100 : b.natAbs.log2 < 100 := log2_small (by omega)
  omega
theorem draw_law (args : List Slot) (Q : Slot → Prop) (Ew : Str → Prop) (h : drawW args Q Ew) : fwOf 6 w_draw args Q Ew := by
  obtain ⟨b, rfl, hb, hb2, q⟩ := drawW_at (Ew := Ew) h
  simp [w_draw]
  intro t l cs hd
  obtain ⟨h1, h2, h3, h4, h5⟩ := hd
  have hn : 0 < (cs.length : Int) := by
    have := List.length_pos_iff.mpr h3
    omega
  have fin : ∀ v : Int, 0 ≤ v → CDivW v b ∧ 0 ≤ v / b ∧ 0 < b ∧ Q (.fz (.int (v % b))) := fun v h0 => ⟨cdiv30 hb hb2, Int.ediv_nonneg h0 (by omega), hb, q _ (Int.emod_nonneg _ (by omega)) (Int.emod_lt_of_pos _ hb)⟩
  by_cases hlt : l < b
  · obtain ⟨j, hj⟩ : ∃ j : Nat, t % (cs.length : Int) = j := ⟨(t % (cs.length : Int)).toNat, (Int.toNat_of_nonneg (Int.emod_nonneg _ (by omega))).symm⟩
    have hjl : j < cs.length := by
      have := Int.emod_lt_of_pos t hn
      omega
    have hc := h5 cs[j] (List.getElem_mem hjl)
    have ha : atI (cs.map PyData.int) (t % (cs.length : Int)) = some (.int cs[j]) := by
      rw [hj, atI_nat]; simp [hjl]
    have p18 : CPow 10 18 := by simp [CPow]
    rw [if_pos hlt]
    refine ⟨by omega, _, ha, ?_⟩
    simp
    split
    · refine ⟨p18, ?_⟩
      split
      · exact ⟨by omega, fin _ hc⟩
      · exact ⟨h1, fun v v0 _ => ⟨by omega, fin _ v0⟩⟩
    · exact ⟨h1, fun v v0 _ => ⟨by omega, fin _ v0⟩⟩
  · rw [if_neg hlt]
    exact ⟨h1, fin _ h2⟩
end VL
set_option Elab.async false
set_option linter.all false
set_option maxRecDepth 100000
set_option maxHeartbeats 2000000
/-! VL29: dict(pairs), len of dicts. -/
namespace VL
open PySem PySem.Spec PyProof.Rows L2 RZ
variable {τ : Tau}
/-- the pairs' keys and values -/
def pairsD : List PyData → Option (List (Key × PyData))
  | [] => some []
  | .tuple [k, v] :: ds => match keyOf k, pairsD ds with
    | some k, some r => some ((k, v) :: r)
    | _, _ => none
  | _ :: _ => none
def mergeD (kvs more : List (Key × PyData)) : List (Key × PyData) := more.foldl (fun acc kv => putD acc kv.1 kv.2) kvs
@[simp ↓] def gDict : GF := fun ds k => match ds with
  | [.list xs] => ∃ kvs, pairsD xs = some kvs ∧ k (.od (mergeD [] kvs))
  | _ => False
theorem kvs_merge {K : PySem.W.Frag} {F : Hp} : ∀ {more : List (Key × V)} {rs : List (Key × PyData)} {ys : List (Key × V)} {kvs : List (Key × PyData)}, KVs K F more rs → KVs K F ys kvs → KVs K F (mergeK ys more) (mergeD kvs rs)
  | _, _, _, _, .nil, q => q
  | _, _, _, _, .cons (a := p) (b := q0) h t, q => by
    obtain ⟨e, r⟩ := h
    have := kvs_put p.1 r q
    rw [e] at this
    have ih := kvs_merge t this
    unfold mergeK mergeD at *
    rw [List.foldl_cons, List.foldl_cons, e]
    exact ih
theorem merge_keys : ∀ (more kvs : List (Key × PyData)), (kvs.map (·.1)).Nodup → ((mergeD kvs more).map (·.1)).Nodup
  | [], kvs, h => h
  | p :: more, kvs, h => merge_keys more _ (put_keys kvs p.1 p.2 h)
theorem pairs_rp {K : PySem.W.Frag} {F H : Hp} (s : Same F H) : ∀ {ds : List PyData} {xs : List V} {kvs : List (Key × PyData)}, RpL K F xs ds → pairsD ds = some kvs → ∃ (ps : List Addr) (ys : List (Key × V)), xs = ps.map V.ref ∧ Paired (fun p kv => SqT K H p [kV kv.1, kv.2]) ps ys ∧ KVs K F ys kvs
  | [], _, _, l, h => by cases l; cases h; exact ⟨[], [], rfl, .nil, .nil⟩
  | d :: ds, _, kvs, l, h => by
    unfold pairsD at h
    split at h
    · rename_i e; cases e
    · rename_i k v ds' e
      cases e
      split at h
      · rename_i k' r h1 h2
        cases h
        cases l with
        | cons p t =>
          cases p with
          | tup ht lt =>
            cases lt with
            | cons pk lt2 =>
              cases lt2 with
              | cons pv lt3 =>
                cases lt3
                obtain ⟨ps, ys, e1, e2, e3⟩ := pairs_rp s t h2
                obtain rfl := keyOf_rp pk h1
                exact ⟨_ :: ps, (k', _) :: ys, by rw [e1]; rfl, .cons (seqT_mono s ht.sq) e2, .cons ⟨rfl, pv⟩ e3⟩
      · cases h
    · cases h
section
variable {X : Cx} {K : PySem.W.Frag} {R : Root τ}
theorem new_od {F H : Hp} {env : PEnv} {σ : L2.St} {ys : List (Key × V)} {kvs : List (Key × PyData)} {p : Addr} (r : Rel K R F env σ H) (hp : H p = none) (l : KVs K F ys kvs) (nd : (kvs.map (·.1)).Nodup) :
    Rel K R F env σ (upd H p (.dK ys)) ∧ SlotOk K R F (upd H p (.dK ys)) (.ref p) (.od kvs) ∧ Fresh env σ (.ref p) (.od kvs) :=
  ⟨r.up (r.allocO hp rfl) (Same.refl F), ⟨p, ys, rfl, own_new r hp, upd_same, l, nd⟩, r.fresh hp _⟩
theorem cv_dict : CallV X.K R (fun xs H Q => ∃ (a : Addr) (ps : List Addr) (kvs : List (Key × V)), xs = [.ref a] ∧ SqL X.K H a (ps.map V.ref) ∧ Paired (fun p kv => SqT X.K H p [kV kv.1, kv.2]) ps kvs ∧
    ∀ p, H p = none → Q (.ref p) (upd H p (.dK (mergeK [] kvs)))) gDict := by
  intro F env σ H xs ds k Q r b w q
  match ds, w with
  | [.list es], w =>
    obtain ⟨y, rfl, bx⟩ := br1 b
    obtain ⟨a, zs, rfl, h, l⟩ := bx.lst r.sub
    obtain ⟨kvs, hk, w⟩ := w
    obtain ⟨ps, ys, e1, e2, e3⟩ := pairs_rp r.sub l hk
    subst e1
    refine ⟨a, ps, ys, rfl, .inl (.inl h), e2, fun p hp => ?_⟩
    obtain ⟨r4, p4, fr⟩ := new_od r hp (kvs_merge e3 .nil) (merge_keys kvs [] (by simp))
    exact q F _ _ _ (Same.refl F) r4 p4 fr w
end
/-- len of a new dict -/
@[simp ↓] def wLenF (wf : WF) : WE := fun env Q => wf env fun s e1 => match s with
  | .od kvs => Q (.int (kvs.length : Nat)) e1
  | _ => False
theorem ce_lenF {X : Cx} {R : Root τ} {e : Expr} {wf : WF} {p pos : Pos} (hg : Gl X "len") (hm : X.mg "len" = none) (he : CF X R e wf) (hst : starEach [e] X.env = (false, eval e X.env) :: starEach [] X.env := by rfl) (hpl : (backTo pos (starEach [] X.env)).any (·.1) = false := by rfl) :
    CE X R (.Call (.Name "len" p) [e] [] pos) (wLenF wf) :=
  pe_imp (pe_callB call_lenD hg hm boot_len (pa_cons he pa_nil hst) (by decide) (by decide) hst hpl) fun σ H Q ⟨F, env, Qw, r, w, k⟩ =>
    ⟨F, env, _, r, w, fun F1 e1 H1 x s f1 r1 p1 fr w1 => by
      cases s with
      | od kvs =>
        obtain ⟨a, ys, rfl, ow, h1, l, nd⟩ := p1
        exact ⟨a, ys, rfl, h1, by rw [kvs_len l]; exact k F1 e1 H1 _ _ f1 r1 (.int _) w1⟩
      | _ => cases w1⟩
/-- len of a dict held by a name -/
@[simp ↓] def wLenN (i : Nat) : WE := fun env Q => match env[i]? with
  | some (some (.od kvs)) => Q (.int (kvs.length : Nat)) env
  | _ => False
theorem ce_lenN {X : Cx} {R : Root τ} {x : Str} {i : Nat} {p p2 pos : Pos} (hg : Gl X "len") (hm : X.mg "len" = none) (he : PE X (.Name x p2) (tVar i)) (hst : starEach [Expr.Name x p2] X.env = (false, eval (.Name x p2) X.env) :: starEach [] X.env := by rfl) (hpl : (backTo pos (starEach [] X.env)).any (·.1) = false := by rfl) :
    CE X R (.Call (.Name "len" p) [.Name x p2] [] pos) (wLenN i) :=
  pe_imp (pe_callB call_lenD hg hm boot_len (pa_cons he pa_nil hst) (by decide) (by decide) hst hpl) fun σ H Q ⟨F, env, Qw, r, w, k⟩ => by
    unfold wLenN at w
    split at w
    · rename_i kvs h
      obtain ⟨a, ys, h1, ow, h2, l, nd⟩ := od_at r h
      exact ⟨_, h1, a, ys, rfl, h2, by rw [kvs_len l]; exact k F env H _ _ (Same.refl F) r (.int _) w⟩
    · cases w
end VL
set_option Elab.async false
set_option linter.all false
set_option maxRecDepth 100000
set_option maxHeartbeats 2000000
/-! VL30: sorted, typed: by insertion. -/
namespace VL
open PySem PySem.Spec PyProof.Rows L2 RZ
/-! ### insertion -/
section
variable {α : Type} (le : α → α → Bool)
def insB (a : α) : List α → List α
  | [] => [a]
  | b :: l => if le a b then a :: b :: l else b :: insB a l
def isort : List α → List α
  | [] => []
  | a :: l => insB le a (isort l)
theorem insB_perm (a : α) : ∀ l : List α, (insB le a l).Perm (a :: l)
  | [] => .refl _
  | b :: l => by
    unfold insB
    split
    · exact .refl _
    · exact ((insB_perm a l).cons b).trans (.swap a b l)
theorem isort_perm : ∀ l : List α, (isort le l).Perm l
  | [] => .refl _
  | a :: l => (insB_perm le a _).trans ((isort_perm l).cons a)
theorem isort_len (l : List α) : (isort le l).length = l.length := (isort_perm le l).length_eq
theorem isort_mem {l : List α} {a : α} : a ∈ isort le l ↔ a ∈ l := (isort_perm le l).mem_iff
variable (tr : ∀ a b c, le a b = true → le b c = true → le a c = true) (tot : ∀ a b, (le a b || le b a) = true)
include tr tot
theorem insB_sorted (a : α) : ∀ {l : List α}, l.Pairwise (fun x y => le x y = true) → (insB le a l).Pairwise fun x y => le x y = true
  | [], _ => by simp [insB]
  | b :: l, h => by
    have h' := List.pairwise_cons.mp h
    unfold insB
    split
    · rename_i hab
      exact List.pairwise_cons.mpr ⟨fun c hc => by
        rcases List.mem_cons.mp hc with rfl | hc
        · exact hab
        · exact tr _ _ _ hab (h'.1 c hc), h⟩
    · rename_i hab
      have hba : le b a = true := by
        have := tot a b
        simp [hab] at this
        exact this
      exact List.pairwise_cons.mpr ⟨fun c hc => by
        rcases List.mem_cons.mp ((insB_perm le a l).mem_iff.mp hc) with rfl | hc
        · exact hba
        · exact h'.1 c hc, insB_sorted a h'.2⟩
theorem isort_sorted : ∀ l : List α, (isort le l).Pairwise fun x y => le x y = true
  | [] => .nil
  | a :: l => insB_sorted le tr tot a (isort_sorted l)
variable (anti : ∀ a b, le a b = true → le b a = true → a = b)
include anti
theorem sort_unique {l m : List α} (p : l.Perm m) (hl : l.Pairwise fun x y => le x y = true) (hm : m.Pairwise fun x y => le x y = true) : l = m :=
  p.eq_of_pairwise (fun a b _ _ h1 h2 => anti a b h1 h2) hl hm
theorem isort_eq (l : List α) : l.mergeSort le = isort le l :=
  sort_unique le tr tot anti ((List.mergeSort_perm l le).trans (isort_perm le l).symm) (List.pairwise_mergeSort (fun a b c => tr a b c) (fun a b => tot a b) l) (isort_sorted le tr tot l)
theorem isort_of_perm {l m : List α} (p : l.Perm m) : isort le l = isort le m :=
  sort_unique le tr tot anti (((isort_perm le l).trans p).trans (isort_perm le m).symm) (isort_sorted le tr tot l) (isort_sorted le tr tot m)
end
/-! ### ints -/
def leI (a b : Int) : Bool := decide (a ≤ b)
abbrev sortI (xs : List Int) : List Int := isort leI xs
theorem leI_tr (a b c : Int) (h1 : leI a b = true) (h2 : leI b c = true) : leI a c = true := by simp [leI] at *; omega
theorem leI_tot (a b : Int) : (leI a b || leI b a) = true := by simp [leI]; omega
theorem leI_anti (a b : Int) (h1 : leI a b = true) (h2 : leI b a = true) : a = b := by simp [leI] at *; omega
theorem sortI_sorted (xs : List Int) : (sortI xs).Pairwise (· ≤ ·) := (isort_sorted leI leI_tr leI_tot xs).imp fun h => by simpa [leI] using h
theorem sortI_of_perm {l m : List Int} (p : l.Perm m) : sortI l = sortI m := isort_of_perm leI leI_tr leI_tot leI_anti p
theorem sortD_enc {α : Type} {enc : α → PyData} {le : α → α → Bool} (h : ∀ a b, W.dataLe false id (enc a) (enc b) = le a b) (tr : ∀ a b c, le a b = true → le b c = true → le a c = true) (tot : ∀ a b, (le a b || le b a) = true) (anti : ∀ a b, le a b = true → le b a = true → a = b) (xs : List α) : sortD (xs.map enc) = (isort le xs).map enc := by
  unfold sortD
  rw [← isort_eq le tr tot anti]
  exact (List.map_mergeSort (f := enc) (r := le) (s := W.dataLe false id) (l := xs) (fun a _ b _ => (h a b).symm)).symm
@[simp] theorem sortD_ints (xs : List Int) : sortD (xs.map .int) = (sortI xs).map .int := sortD_enc (fun a b => by
  have := W.dataLe_int (fun x : PyData => match x with | .int i => i | _ => 0)
  have h2 : W.dataLe false id (.int a) (.int b) = W.dataLe false (fun x : Int => PyData.int x) a b := rfl
  rw [h2, W.dataLe_int]; rfl) leI_tr leI_tot leI_anti xs
theorem depthAll_le {n : Nat} {xs : List PyData} (h : ∀ x ∈ xs, x.depth ≤ n) : PyData.depthAll xs ≤ n := by
  induction xs with
  | nil => simp [PyData.depthAll]
  | cons x xs ih =>
    simp only [PyData.depthAll]
    have h1 := h x List.mem_cons_self
    have h2 := ih fun y hy => h y (List.mem_cons_of_mem _ hy)
    omega
@[simp] theorem okSort_ints (xs : List Int) : okSort (xs.map .int) := by
  refine ⟨W.AllAlike.of (enc := PyData.int) fun _ _ => by simp [W.alike], W.Sortable.others (enc := PyData.int) fun _ => ⟨by simp, by simp⟩, depthAll_le fun x hx => ?_⟩
  obtain ⟨i, _, rfl⟩ := List.mem_map.mp hx
  simp [PyData.depth]
/-! ### pairs of ints -/
def encII (p : Int × Int) : PyData := .tuple [.int p.1, .int p.2]
def leP (p q : Int × Int) : Bool := decide (p.1 < q.1 ∨ (p.1 = q.1 ∧ p.2 ≤ q.2))
abbrev sortP (xs : List (Int × Int)) : List (Int × Int) := isort leP xs
theorem leP_tr (a b c : Int × Int) (h1 : leP a b = true) (h2 : leP b c = true) : leP a c = true := by simp [leP] at *; omega
theorem leP_tot (a b : Int × Int) : (leP a b || leP b a) = true := by simp [leP]; omega
theorem leP_anti (a b : Int × Int) (h1 : leP a b = true) (h2 : leP b a = true) : a = b := by
  simp [leP] at *
  exact Prod.ext (by omega) (by omega)
theorem sortD_pairs (xs : List (Int × Int)) : sortD (xs.map encII) = (sortP xs).map encII := sortD_enc (fun a b => by
  have h2 : W.dataLe false id (encII a) (encII b) = W.dataLe false (fun x : Int × Int => PyData.tuple [.int x.1, .int x.2]) a b := rfl
  rw [h2, W.dataLe_ii]; rfl) leP_tr leP_tot leP_anti xs
theorem okSort_pairs (xs : List (Int × Int)) : okSort (xs.map encII) := by
  refine ⟨W.AllAlike.of (enc := encII) fun _ _ => by simp [encII, W.alike, W.alikeAll], W.Sortable.tuples (enc := encII) fun p => ⟨_, _, rfl⟩, depthAll_le fun x hx => ?_⟩
  obtain ⟨i, _, rfl⟩ := List.mem_map.mp hx
  simp [encII, PyData.depth, PyData.depthAll]
theorem sortP_sorted (xs : List (Int × Int)) : (sortP xs).Pairwise fun p q => p.1 < q.1 ∨ (p.1 = q.1 ∧ p.2 ≤ q.2) := (isort_sorted leP leP_tr leP_tot xs).imp fun h => by simpa [leP] using h
/-! ### rows of ints -/
def encR (r : List Int) : PyData := .tuple (r.map .int)
def leR (p q : List Int) : Bool := decide (p ≤ q)
abbrev sortR (xs : List (List Int)) : List (List Int) := isort leR xs
theorem leR_tr (a b c : List Int) (h1 : leR a b = true) (h2 : leR b c = true) : leR a c = true := by
  simp only [leR, decide_eq_true_eq] at *
  exact List.le_trans h1 h2
theorem leR_tot (a b : List Int) : (leR a b || leR b a) = true := by
  simp only [leR, Bool.or_eq_true, decide_eq_true_eq]
  exact List.le_total a b
theorem leR_anti (a b : List Int) (h1 : leR a b = true) (h2 : leR b a = true) : a = b := by
  simp only [leR, decide_eq_true_eq] at *
  exact List.le_antisymm h1 h2
theorem sortD_rows (xs : List (List Int)) : sortD (xs.map encR) = (sortR xs).map encR := sortD_enc (fun a b => by
  have h2 : W.dataLe false id (encR a) (encR b) = W.dataLe false (fun x : List Int => PyData.list (x.map .int)) a b := rfl
  rw [h2, W.dataLe_rows]; rfl) leR_tr leR_tot leR_anti xs
theorem okSort_rows {xs : List (List Int)} (h : ∀ r ∈ xs, r ≠ []) : okSort (xs.map encR) := by
  refine ⟨W.AllAlike.of (enc := encR) fun a b => W.alike_ints a b, .inl fun d hd => ?_, depthAll_le fun x hx => ?_⟩
  · obtain ⟨r, hr, rfl⟩ := List.mem_map.mp hd
    cases r with
    | nil => exact absurd rfl (h _ hr)
    | cons a l => exact ⟨_, _, rfl⟩
  · obtain ⟨r, _, rfl⟩ := List.mem_map.mp hx
    simp only [encR, PyData.depth, W.depth_ints]; omega
end VL
set_option Elab.async false
set_option linter.all false
set_option maxRecDepth 100000
set_option maxHeartbeats 2000000
/-! VL31: more words for simp. -/
namespace VL
open PySem PySem.Spec PyProof.Rows L2 RZ
@[simp] theorem sizeLine_s : sizeLine = 16777216 := sizeLine_is
theorem ixN_at {n j : Nat} {i : Int} (h : i = j) (hj : j < n) : ixN n i = some j := by
  unfold ixN
  rw [if_pos (by omega), if_pos (by omega)]
  simp [h]
theorem atI_some {xs : List PyData} {i : Int} {j : Nat} {d : PyData} (h : i = j) (hd : xs[j]? = some d) : atI xs i = some d := by rw [VL.atI_get h, hd]
theorem iL_get {xs : List Int} {j : Nat} (hj : j < xs.length) : (xs.map PyData.int)[j]? = some (.int xs[j]) := by simp [hj]
/-! ### xs * n, xs + ys as new lists that are owned -/
variable {τ : Tau}
abbrev G2F := PyData → PyData → (Slot → Prop) → Prop
@[simp ↓] def gMulF : G2F := fun a b k => match a, b with
  | .list xs, .int j => (-(2 ^ 63) ≤ j ∧ j < 2 ^ 63 ∧ xs.length * j.toNat ≤ sizeLine) ∧ k (.ol (List.replicate j.toNat xs).flatten)
  | _, _ => False
@[simp ↓] def gAddF : G2F := fun a b k => match a, b with
  | .list xs, .list ys => xs.length + ys.length ≤ sizeLine ∧ k (.ol (xs ++ ys))
  | _, _ => False
@[simp ↓] def wBinF (g : G2F) (wa wb : WO) : WF := fun env Q => wa env fun p e1 => wb e1 fun q e2 => res e2 p fun x => res e2 q fun y => g x y fun z => Q z e2
section
variable {X : Cx} {R : Root τ} {a b : Expr} {wa wb : WO} {pos : Pos} {K : PySem.W.Frag}
def OpV (K : PySem.W.Frag) (R : Root τ) (r : R2) (g : G2F) : Prop :=
  ∀ (F : Hp) (env : PEnv) (σ : L2.St) (H : Hp) (x y : V) (a b : PyData) (k : Slot → Prop) (Q : VK), Rel K R F env σ H → Br K F H x a → Br K F H y b → g a b k →
    (∀ H' z s, Rel K R F env σ H' → SlotOk K R F H' z s → Fresh env σ z s → k s → Q z H') → r x y H Q
theorem cf_bin {op : Operator} {r : R2} {g : G2F} (ho : OpR X (binaryOp op) r) (hw : OpV X.K R r g) (ha : CO X R a wa) (hb : CO X R b wb) : CF X R (.BinOp a op b pos) (wBinF g wa wb) :=
  pe_imp (pe_op ho ha hb) fun σ H Q ⟨F, env, Qw, r0, w, k⟩ => ⟨F, env, _, r0, w, fun F1 e1 H1 x da f1 r1 p1 w1 => ⟨F1, e1, _, r1, w1, fun F2 e2 H2 y db f2 r2 p2 w2 => by
    obtain ⟨da, b1, w3⟩ := res_ok r2 (p1.mono f2) w2
    obtain ⟨db, b2, w4⟩ := res_ok r2 p2 w3
    exact hw F2 e2 σ H2 x y da db _ Q r2 b1 b2 w4 fun H3 z s r3 p3 fr w3 => k F2 e2 H3 z s (f1.trans f2) r3 p3 fr w3⟩⟩
theorem ov_mul : OpV K R rRep gMulF := by
  intro F env σ H x y a b k Q r pa pb w q
  match a, b, w with
  | .list ds, .int j, w =>
    obtain ⟨⟨h1, h2, h3⟩, w⟩ := w
    obtain ⟨p, xs, rfl, ha, la⟩ := pa.lst r.sub
    refine ⟨_, j, _, rfl, pb.int, ha, h1, h2, by rw [la.length]; exact h3, fun p hp => ?_⟩
    obtain ⟨r2, p2, fr⟩ := new_ol r hp (rpL_rep la j.toNat)
    exact q _ _ _ r2 p2 fr w
theorem ov_add : OpV K R rCat gAddF := by
  intro F env σ H x y a b k Q r pa pb w q
  match a, b, w with
  | .list ds, .list es, w =>
    obtain ⟨hz, w⟩ := w
    obtain ⟨p, xs, rfl, ha, la⟩ := pa.lst r.sub
    obtain ⟨p', ys, rfl, hb, lb⟩ := pb.lst r.sub
    refine ⟨_, _, _, _, rfl, rfl, ha, hb, by rw [la.length, lb.length]; exact hz, fun p hp => ?_⟩
    obtain ⟨r2, p2, fr⟩ := new_ol r hp (la.append lb)
    exact q _ _ _ r2 p2 fr w
theorem cf_mulL (ha : CO X R a wa) (hb : CO X R b wb) : CF X R (.BinOp a .Mult b pos) (wBinF gMulF wa wb) := cf_bin op_rep ov_mul ha hb
theorem cf_addL (ha : CO X R a wa) (hb : CO X R b wb) : CF X R (.BinOp a .Add b pos) (wBinF gAddF wa wb) := cf_bin op_cat ov_add ha hb
end
/-! ### a name that is never changed holds a value -/
@[simp ↓] def frzS : Slot → Slot
  | .ol ds => .fz (.list ds)
  | s => s
@[simp ↓] def wFrz (w : WF) : WF := fun env Q => w env fun s e1 => Q (frzS s) e1
theorem cs_frz {X : Cx} {R : Root τ} {st : Stmt} {i : Nat} {w : WF} (h : CS X R st (wSet i w)) : CS X R st (wSet i (wFrz w)) :=
  ps_imp h fun D σ H ⟨F, env, W, r, hw, l⟩ => by
    refine ⟨F, env, { nx := fun e => (match e[i]? with
      | some (some (.ol ds)) => W.nx (e.set i (some (.fz (.list ds))))
      | _ => W.nx e), rt := W.rt, bk := W.bk, ct := W.ct }, r, ?_, fun F' e' σ' H' ff r' q => ?_, l.bk, l.ct, l.rt⟩
    · have hw : w env fun s e1 => W.nx (e1.set i (some (frzS s))) := hw
      show w env fun s e1 => (match (e1.set i (some s))[i]? with
        | some (some (.ol ds)) => W.nx ((e1.set i (some s)).set i (some (.fz (.list ds))))
        | _ => W.nx (e1.set i (some s)))
      have e : (fun (s : Slot) (e1 : PEnv) => (match (e1.set i (some s))[i]? with
        | some (some (.ol ds)) => W.nx ((e1.set i (some s)).set i (some (.fz (.list ds))))
        | _ => W.nx (e1.set i (some s)))) = fun s e1 => W.nx (e1.set i (some (frzS s))) := by
        funext s e1
        by_cases hi : i < e1.length
        · rw [List.getElem?_set_self hi]
          cases s with
          | ol ds => simp only [frzS]; rw [List.set_set]
          | _ => rfl
        · have e0 : ∀ x, e1.set i x = e1 := fun x => List.set_eq_of_length_le (by omega)
          rw [e0, e0, List.getElem?_eq_none (by omega)]
      rw [e]; exact hw
    · show D.nx σ' H'
      have q : (match e'[i]? with
        | some (some (.ol ds)) => W.nx (e'.set i (some (.fz (.list ds))))
        | _ => W.nx e') := q
      split at q
      · rename_i ds hd
        obtain ⟨F2, x, h1, f2, _, r2⟩ := r'.frz hd
        exact l.nx F2 _ σ' H' (ff.trans f2) r2 q
      · exact l.nx F' e' σ' H' ff r' q
end VL
set_option Elab.async false
set_option linter.all false
set_option maxRecDepth 100000
set_option maxHeartbeats 2000000
/-! VL32: typed arguments found by simp. -/
namespace VL
open PySem PySem.Spec PyProof.Rows L2 RZ
theorem map_inj {α : Type} {enc : α → PyData} (h : ∀ a b, enc a = enc b → a = b) : ∀ {xs ys : List α}, xs.map enc = ys.map enc ↔ xs = ys
  | [], [] => by simp
  | [], _ :: _ => by simp
  | _ :: _, [] => by simp
  | x :: xs, y :: ys => by
    simp only [List.map_cons, List.cons.injEq, map_inj h (xs := xs) (ys := ys)]
    constructor
    · intro ⟨a, b⟩; exact ⟨h _ _ a, b⟩
    · intro ⟨a, b⟩; exact ⟨by rw [a], b⟩
@[simp] theorem ints_inj {xs ys : List Int} : xs.map PyData.int = ys.map PyData.int ↔ xs = ys := map_inj fun a b h => PyData.int.inj h
@[simp] theorem ex_ints {xs : List Int} {P : List Int → Prop} : (∃ ys : List Int, xs.map PyData.int = ys.map PyData.int ∧ P ys) ↔ P xs := by
  constructor
  · rintro ⟨ys, h, p⟩
    rw [ints_inj] at h
    subst h; exact p
  · exact fun p => ⟨xs, rfl, p⟩
@[simp] theorem ex_ints0 {P : List Int → Prop} : (∃ ys : List Int, ([] : List PyData) = ys.map PyData.int ∧ P ys) ↔ P [] := by
  constructor
  · rintro ⟨ys, h, p⟩
    cases ys with
    | nil => exact p
    | cons a b => cases h
  · exact fun p => ⟨[], rfl, p⟩
@[simp] theorem ex_intsC {a : Int} {xs : List PyData} {P : List Int → Prop} : (∃ ys : List Int, (PyData.int a :: xs) = ys.map PyData.int ∧ P ys) ↔ ∃ zs : List Int, xs = zs.map PyData.int ∧ P (a :: zs) := by
  constructor
  · rintro ⟨ys, h, p⟩
    cases ys with
    | nil => cases h
    | cons b ys =>
      simp only [List.map_cons, List.cons.injEq] at h
      have := PyData.int.inj h.1
      subst this
      exact ⟨ys, h.2, p⟩
  · rintro ⟨zs, h, p⟩
    exact ⟨a :: zs, by rw [h]; rfl, p⟩
end VL
set_option Elab.async false
set_option linter.all false
set_option maxRecDepth 100000
set_option maxHeartbeats 2000000
/-! VL33: xs[::-1] of lists and tuples. -/
namespace VL
open PySem PySem.Spec PyProof.Rows PySem.W HT PySem.SeqAt
section
variable {prog : Program} {w : World} {A : Around} {E : Value → Shared → Prop} {s : Shared}
theorem back_places (n : Nat) : Builtin.Slice.slicePlaces ((n : Int) - 1) (-1) (-1) = n := by
  unfold Builtin.Slice.slicePlaces
  rw [if_neg (by omega)]
  by_cases h : n = 0
  · subst h; rfl
  · rw [if_pos (by omega)]
    have e : ((n : Int) - 1 - -1 - 1) / (- -1) + 1 = (n : Int) := by rw [show (- -1 : Int) = 1 by decide, Int.ediv_one]; omega
    rw [e]; rfl
theorem back_adjust (n : Nat) : Builtin.Slice.sliceAdjust none none (-1) (n : Int) = ((n : Int) - 1, -1) := rfl
theorem back_applied {sl : Addr} {t : Tok} {n : Nat} {Q : Int × Int × Nat → Shared → Prop} (hs : s.heap.IsSliceOf sl .none .none (.int (-1) t)) (h : Q ((n : Int) - 1, -1, n) s) :
    wpAny (model prog w) A (Builtin.Slice.sliceApplied (.ref sl) (pure (n : Int))) Q E s := by
  obtain ⟨os, hos, hcs, hds⟩ := id hs
  unfold Builtin.Slice.sliceApplied Builtin.Slice.sliceFields
  refine wpAny_bind (wpAny_bind (wpAny_field hos hds (x := .none) rfl (wpAny_bind (wpAny_field hos hds (x := .none) rfl (wpAny_bind (wpAny_field hos hds (x := .int (-1) t) rfl (wpAny_pure ?_)))))))
  refine wpAny_bind (slicePart_int ?_)
  show wpAny _ _ (if ((-1 : Int) == 0) = true then _ else _) _ _ s
  rw [if_neg (show ¬ (((-1 : Int) == 0) = true) by decide)]
  refine wpAny_bind (slicePart_none (wpAny_bind (slicePart_none (wpAny_bind (wpAny_pure ?_)))))
  show wpAny _ _ (pure (((n : Int) - 1), (-1 : Int), Builtin.Slice.slicePlaces ((n : Int) - 1) (-1) (-1))) _ _ s
  rw [back_places]
  exact wpAny_pure h
theorem fm_congr {α β : Type} {f g : α → Option β} : ∀ {l : List α}, (∀ x ∈ l, f x = g x) → l.filterMap f = l.filterMap g
  | [], _ => rfl
  | a :: l, h => by rw [List.filterMap_cons, List.filterMap_cons, h a List.mem_cons_self, fm_congr fun x hx => h x (List.mem_cons_of_mem _ hx)]
theorem back_pick (xs : Array Value) : ((List.range xs.size).filterMap fun (k : Nat) => xs[(((xs.size : Int) - 1) + (k : Int) * -1).toNat]?) = xs.toList.reverse := by
  have h := krv_all xs
  rw [← h, ← List.filterMap_reverse, ← krv_range, List.filterMap_map]
  refine fm_congr fun k hk => ?_
  have := List.mem_range.mp hk
  show _ = xs[xs.size - 1 - k]?
  congr 1
  omega
theorem back_tuple {t sl : Addr} {tk : Tok} {items : Array Value} {Q : Value → Shared → Prop} (ht : IsTup s.heap t items) (hs : s.heap.IsSliceOf sl .none .none (.int (-1) tk)) (hsz : items.size ≤ sizeLine)
    (h : Q (.ref s.heap.objs.size) { s with heap := s.heap.push { cls := .type "tuple", data := .seq items.toList.reverse.toArray } }) : wpAny (model prog w) A (getItem (.ref t) (.ref sl)) Q E s := by
  have hfit : sizeOk (.seq items.toList.reverse.toArray) := by
    show items.toList.reverse.toArray.size ≤ sizeLine
    rw [List.size_toArray, List.length_reverse, Array.length_toList]
    exact hsz
  obtain ⟨os, hos, hcs, hds⟩ := id hs
  have hTs : s.TypeIs (.ref sl) "slice" := ⟨os, hos, hcs⟩
  unfold getItem
  refine wpAny_holding ?_
  refine wpAny_bind (wpAny_sequenceKey ht.typeIs (by decide) ?_)
  refine wpAny_bind (wpAny_callSpecial?_slot (name := Str.ofString "__getitem__") ht.typeIs PyProof.Rows.slot_tuple_getitem
    (wpAny_call_entry PyProof.Rows.slot_tuple_getitem ht.typeIs entry_tuple_getitem ?_ (args_tuple_getitem _ _)))
  show wpAny _ _ (Builtin.Tuple.tupleItemsOf (.ref t) >>= _) _ _ s
  refine wpAny_bind (tupleItemsOf_ ht ?_)
  refine wpAny_bind (wpAny_typeOf hTs ?_)
  rw [if_pos (by decide)]
  refine wpAny_bind (back_applied hs ?_)
  show wpAny _ _ (if (((items.size : Int) - 1 == 0) && ((-1 : Int) == 1) && (items.size == items.size)) = true then _ else _) _ _ s
  rw [if_neg (by simp), back_pick]
  first
    | exact wpAny_bind (m := Builtin.Tuple.tupleExact _) (wpAny_newObj_type (wpAny_pure ⟨_, rfl, wpAny_pure h⟩) hfit)
    | exact wpAny_bind (m := Builtin.Tuple.tupleExact _) (wpAny_newObj_type (wpAny_bind (wpAny_pure (wpAny_pure ⟨_, rfl, wpAny_pure h⟩))) hfit)
    | exact wpAny_bind (wpAny_bind (m := Builtin.Tuple.tupleExact _) (wpAny_newObj_type (wpAny_pure (wpAny_pure ⟨_, rfl, wpAny_pure h⟩)) hfit))
end
open L2 RZ
variable {τ : Tau}
def tRevT (K : PySem.W.Frag) (te : TE) : TE := fun σ H Q => te σ H fun x H1 => ∃ a xs, x = .ref a ∧ ((SqL K H1 a xs ∧ ∀ p, H1 p = none → Q (.ref p) (upd H1 p (.lst xs.reverse))) ∨ (SqT K H1 a xs ∧ ∀ p, H1 p = none → Q (.ref p) (upd H1 p (.tup xs.reverse))))
theorem pe_revT {X : Cx} {e : Expr} {te : TE} {k : Nat} {p1 p2 p3 pos : Pos} (he : PE X e te) : PE X (.Subscript e (.Slice none none (some (.UnaryOp .USub (.Constant (.int 1) k p1) p2)) p3) pos) (tRevT X.K te) := by
  refine ⟨fun pins s σ H Q I h => ?_⟩
  refine Subscript_ (thn (he.run pins s σ H _ I h) fun v s1 ⟨x, H1, I1, r1, q1⟩ => ?_)
  obtain ⟨a, xs, ex, q⟩ := q1
  subst ex
  cases r1
  have hst : PO X (some (.UnaryOp .USub (.Constant (.int 1) k p1) p2)) (tPart (tUn (rU fun i => .int (-i)) (tC (.int 1)))) := po_some (pe_un un_neg pe_int)
  refine wpAny_Slice (thn (po_none.run pins s1 σ H1 (fun o H2 => o = none ∧ H2 = H1) I1 ⟨rfl, rfl⟩) fun vl s2 ⟨l, H2, I2, pl, el, e2⟩ => ?_)
  subst el e2
  refine thn (po_none.run pins s2 σ H2 (fun o H3 => o = none ∧ H3 = H2) I2 ⟨rfl, rfl⟩) fun vu s3 ⟨u, H3, I3, pu, eu, e3⟩ => ?_
  subst eu e3
  refine thn (hst.run pins s3 σ H3 (fun o H4 => o = some (-1) ∧ H4 = H3) I3 ⟨1, rfl, -1, rfl, rfl, rfl⟩) fun vs s4 ⟨o, H4, I4, ps, eo, e4⟩ => ?_
  subst eo e4
  generalize hs5 : ({ s4 with heap := s4.heap.push { cls := .type "slice", data := .fields #[vl, vu, vs] } } : Shared) = s5
  have I5 : Inv X pins σ H4 s5 := by rw [← hs5]; exact I4.kept (t' := s4.toks) fun b ob q => Heap.get?_push_of_some _ q
  have isl : s5.heap.IsSliceOf s4.heap.objs.size vl vu vs := by rw [← hs5]; exact Heap.IsSliceOf.new _ vl vu vs
  rcases q with ⟨hx, q⟩ | ⟨hx, q⟩
  · obtain ⟨its, r, ht, hz⟩ := I5.list hx
    have hlen := r.length
    show wpAny (model X.prog X.w) X.A (subscriptTail e (.Slice none none (some (.UnaryOp .USub (.Constant (.int 1) k p1) p2)) p3) (.ref a) (.ref s4.heap.objs.size)) (EP X pins σ Q) X.xe _
    refine tail_any (ops := [.ref a, .ref s4.heap.objs.size]) ht.isList.typeIs (PySem.slot_list_getitem.lookup) ?_ (by with_unfolding_all rfl)
    refine wpAny_getItem_list_slice ht.isList isl pl pu ps (by decide) ?_ (by rw [List.size_toArray]; omega)
    rw [PySem.W.krv_pick]
    exact ⟨.ref _, _, I5.laid (t' := s5.toks) (o := .lst xs.reverse) (fun b ob q => Heap.get?_push_of_some _ q) (Nat.le_refl _) ⟨by rw [List.length_reverse]; exact hz, _, 0, r.reverse, Heap.get?_push_size _ rfl⟩, rfl, q _ (I5.hok.fresh (Nat.le_refl _))⟩
  · obtain ⟨its, r, ht, hz⟩ := I5.tuple hx
    have hlen := r.length
    cases pl
    cases pu
    cases ps
    show wpAny (model X.prog X.w) X.A (subscriptTail e (.Slice none none (some (.UnaryOp .USub (.Constant (.int 1) k p1) p2)) p3) (.ref a) (.ref s4.heap.objs.size)) (EP X pins σ Q) X.xe _
    refine tail_any (ops := [.ref a, .ref s4.heap.objs.size]) ht.typeIs (PyProof.Rows.slot_tuple_getitem.lookup) ?_ (by with_unfolding_all rfl)
    refine back_tuple ht isl (by rw [List.size_toArray]; omega) ?_
    exact ⟨.ref _, _, I5.laid (t' := s5.toks) (o := .tup xs.reverse) (fun b ob q => Heap.get?_push_of_some _ q) (Nat.le_refl _) ⟨by rw [List.length_reverse]; exact hz, _, r.reverse, IsTup.new _ _⟩, rfl, q _ (I5.hok.fresh (Nat.le_refl _))⟩
/-- xs[::-1]: of a list a new one -/
@[simp ↓] def wRevA (wa : WO) : WF := fun env Q => wa env fun o e1 => res e1 o fun d => match d with
  | .list ds => Q (.ol ds.reverse) e1
  | .tuple ds => Q (.fz (.tuple ds.reverse)) e1
  | _ => False
theorem cf_revA {X : Cx} {R : Root τ} {a : Expr} {wa : WO} {pos : Pos} {k : Nat} {p1 p2 p3 : Pos} (ha : CO X R a wa) : CF X R (.Subscript a (.Slice none none (some (.UnaryOp .USub (.Constant (.int 1) k p1) p2)) p3) pos) (wRevA wa) :=
  pe_imp (pe_revT ha) fun σ H Q ⟨F, env, Qw, r, w, k⟩ => ⟨F, env, _, r, w, fun F1 e1 H1 x o f1 r1 p1 w1 => by
    obtain ⟨d, b1, w4⟩ := res_ok r1 p1 w1
    cases d with
    | list ds =>
      obtain ⟨a, xs, rfl, ha, la⟩ := b1.lst r1.sub
      refine ⟨a, xs, rfl, .inl ⟨.inl (.inl ha), fun p hp => ?_⟩⟩
      obtain ⟨r4, p4, fr⟩ := new_ol r1 hp la.reverse
      exact k F1 e1 _ _ _ f1 r4 p4 fr w4
    | tuple ds =>
      obtain ⟨a, xs, rfl, ha, la, _⟩ := b1.tup r1.sub
      refine ⟨a, xs, rfl, .inr ⟨ha, fun p hp => ?_⟩⟩
      obtain ⟨f4, r4, p4⟩ := new_tup r1 hp la.reverse
      exact k _ e1 _ _ (.fz _) (f1.trans f4) r4 p4 (fun z => nomatch z) w4
    | _ => cases w4⟩
end VL
set_option Elab.async false
set_option linter.all false
set_option maxRecDepth 100000
set_option maxHeartbeats 2000000
namespace VL
open PySem PySem.Spec PyProof.Rows L2 RZ
theorem pairsD_typed {α : Type} (enc : α → PyData) (ky : α → Key) (v : α → PyData) (h : ∀ a, keyOf (enc a) = some (ky a)) : ∀ xs : List α, pairsD (xs.map fun a => .tuple [enc a, v a]) = some (xs.map fun a => (ky a, v a))
  | [] => rfl
  | a :: xs => by
    show pairsD (.tuple [enc a, v a] :: _) = _
    unfold pairsD
    rw [h a, pairsD_typed enc ky v h xs]
    rfl
theorem mergeD_new : ∀ (more kvs : List (Key × PyData)), ((kvs ++ more).map (·.1)).Nodup → mergeD kvs more = kvs ++ more
  | [], kvs, _ => by simp [mergeD]
  | kv :: more, kvs, h => by
    have hn : ∀ q ∈ kvs, q.1 ≠ kv.1 := by
      rw [List.map_append, List.nodup_append] at h
      intro q hq
      exact h.2.2 q.1 (List.mem_map_of_mem hq) kv.1 (by simp)
    have : mergeD kvs (kv :: more) = mergeD (putD kvs kv.1 kv.2) more := rfl
    rw [this, putD_new hn, mergeD_new more _ (by simpa using h)]
    simp
theorem mergeD_nodup {α : Type} (ky : α → Key) (v : α → PyData) (inj : ∀ a b, ky a = ky b → a = b) {xs : List α} (h : xs.Nodup) : mergeD [] (xs.map fun a => (ky a, v a)) = xs.map fun a => (ky a, v a) := by
  have := mergeD_new (xs.map fun a => (ky a, v a)) [] (by
    simp only [List.nil_append, List.map_map]
    exact List.Pairwise.map _ (fun a b hab e => hab (inj a b e)) h)
  simpa using this
end VL
set_option Elab.async false
set_option linter.all false
set_option maxRecDepth 100000
set_option maxHeartbeats 2000000
/-! VL35: list(range), walking a new dict. -/
namespace VL
open PySem PySem.Spec PyProof.Rows L2 RZ
variable {τ : Tau}
section
variable {K : PySem.W.Frag} {R : Root τ} {F H : Hp} {env : PEnv} {σ : L2.St} {a : Addr} {o u : HO}
theorem Base.lock (r : Base R F H) (hnF : F a = none) (ho : H a = some o) (k : fzk u = true) (hto : isTbl o = false) (hn : R.H0 a = none) (hk : R.keep a = none) : Base R (upd F a u) (upd H a u) where
  ext := r.ext.trans (same_frz hnF)
  has := fun P hP => by
    obtain ⟨ps, h⟩ := r.has P hP
    refine ⟨ps, ?_⟩
    rw [upd_ne (fun z => by subst z; rw [ho] at h; cases h; cases hto)]; exact h
  sub := fun b u h => by
    by_cases e : b = a
    · subst e; rw [upd_same] at h ⊢; exact h
    · rw [upd_ne e] at h ⊢; exact r.sub b u h
  frame := fun b u h1 h2 h3 => by rw [upd_ne (ne_of_none h1 hn)]; exact r.frame b u h1 h2 h3
  tabs := fun b ps h => by
    obtain ⟨more, q⟩ := r.tabs b ps h
    exact ⟨more, by rw [upd_ne (ne_of_none h hn)]; exact q⟩
  tok := fun b hb ps h => by
    by_cases e : b = a
    · subst e; rw [upd_same] at h; cases h; cases k
    · rw [upd_ne e] at h; exact r.tok b hb ps h
  new := fun b u h => by
    by_cases e : b = a
    · subst e; exact .inr (.inl hn)
    · rw [upd_ne e] at h; exact r.new b u h
  kt := r.kt
  kind := fun b u h => by
    by_cases e : b = a
    · subst e; rw [upd_same] at h; cases h; exact k
    · rw [upd_ne e] at h; exact r.kind b u h
  drw := fun c h => by
    obtain ⟨h1, ⟨o2, h2⟩, ob, h3, h4⟩ := r.drw c h
    have hc : c ≠ a := ne_of_none h2 hn
    exact ⟨by rw [upd_ne hc]; exact h1, ⟨o2, h2⟩, ob, by rw [upd_ne hc]; exact h3, h4.mono (same_frz hnF)⟩
  kp := fun c o2 h => by
    obtain ⟨h1, h2, h3⟩ := r.kp c o2 h
    have hc : c ≠ a := ne_of_none h hk
    exact ⟨by rw [upd_ne hc]; exact h1, by rw [upd_ne hc]; exact h2, h3⟩
theorem SlotOk.lock {x : V} {s : Slot} (hn : F a = none) (h : SlotOk K R F H x s) (ne : s.owns = true → x ≠ .ref a) : SlotOk K R (upd F a u) (upd H a u) x s := by
  have h' := h.frz (o := u) hn ne
  cases s with
  | fz d => exact h'
  | sc ns => exact h'
  | ex a => exact h'
  | ol ds =>
    obtain ⟨b, xs, e, ow, h1, h2⟩ := h'
    exact ⟨b, xs, e, ow, by rw [upd_ne (fun z => ne rfl (by rw [e, z]))]; exact h1, h2⟩
  | od kvs =>
    obtain ⟨b, xs, e, ow, h1, h2⟩ := h'
    exact ⟨b, xs, e, ow, by rw [upd_ne (fun z => ne rfl (by rw [e, z]))]; exact h1, h2⟩
  | ot kvs =>
    obtain ⟨b, xs, e, ow, h1, h2⟩ := h'
    exact ⟨b, xs, e, ow, by rw [upd_ne (fun z => ne rfl (by rw [e, z]))]; exact h1, h2⟩
  | dr =>
    obtain ⟨b, e, h0, h1, ns, h2, h3⟩ := h'
    exact ⟨b, e, h0, h1, ns, by rw [upd_ne (fun z => ne rfl (by rw [e, z]))]; exact h2, h3⟩
/-- a thing that no place holds, locked -/
theorem Rel.lock (r : Rel K R F env σ H) (ow : Own R F a) (ho : H a = some o) (k : fzk u = true) (hto : isTbl o = false) (fr : ∀ (i : Nat) (t : Slot) (b : Addr), env[i]? = some (some t) → t.owns = true → σ[i]? = some (some (.ref b)) → a ≠ b) : Rel K R (upd F a u) env σ (upd H a u) :=
  { r.toBase.lock ow.1 ho k hto ow.2.1 ow.2.2 with
    len := r.len
    sl := fun j s e => by
      obtain ⟨y, h4, h5⟩ := r.sl j s e
      exact ⟨y, h4, h5.lock ow.1 fun o z => by subst z; exact fr j s a e o h4 rfl⟩
    dis := r.dis }
end
/-! ### walking a new dict's keys -/
theorem rp_kV {K : PySem.W.Frag} {F : Hp} : ∀ k : Key, Rp K F (kV k) (keyD k)
  | .inl i => .int i
  | .inr x => .str x
theorem kvs_at {K : PySem.W.Frag} {F : Hp} {κ : Type} : ∀ {ys : List (κ × V)} {kvs : List (κ × PyData)} (i : Nat), KVs K F ys kvs → (ys[i]?).map (·.1) = (kvs[i]?).map (·.1)
  | [], [], i, .nil => rfl
  | y :: ys, q :: kvs, 0, .cons ⟨h, _⟩ t => by simp [h]
  | y :: ys, q :: kvs, i + 1, .cons ⟨h, _⟩ t => by simpa using kvs_at i t
theorem yl_keys {K : PySem.W.Frag} {F : Hp} {d : Addr} {o : Obj} {ys : List (Key × V)} {kvs : List (Key × PyData)} (h : F d = some (.frz o (.dK ys))) (l : KVs K F ys kvs) : Yl K F (Itk d o ys) (kvs.map fun kv => keyD kv.1) where
  go := fun R F1 env σ H i dd f r e => by
    rw [List.getElem?_map] at e
    cases q : kvs[i]? with
    | none => rw [q] at e; cases e
    | some kv =>
      rw [q] at e; cases e
      have hi : i < ys.length := by rw [kvs_len l]; exact (List.getElem?_eq_some_iff.mp q).1
      have hk := kvs_at i l
      rw [q, List.getElem?_eq_getElem hi] at hk
      have hk : ys[i].1 = kv.1 := by simpa using hk
      refine ⟨⟨r.sub _ _ (f _ _ h), hi⟩, fun x H' ⟨e1, k, v, e2, e3⟩ => ?_⟩
      subst e1; subst e3
      rw [List.getElem?_eq_getElem hi] at e2
      have e2 := Option.some.inj e2
      rw [e2] at hk
      exact ⟨F1, Same.refl _, r, by show Rp K F1 (kV k) (keyD kv.1); rw [← hk]; exact rp_kV k⟩
  stop := fun R F1 env σ H f r => ⟨r.sub _ _ (f _ _ h), by rw [List.length_map, kvs_len l]; exact Nat.le_refl _⟩
def iKeysL (td : TE) : TI := fun σ H R => td σ H fun x H1 => ∃ d kvs, x = .ref d ∧ H1 d = some (.dK kvs) ∧ ∀ o, R (Itk d o kvs) (upd H1 d (.frz o (.dK kvs)))
theorem pi_keysL {X : Cx} {tg e : Expr} {td : TE} (he : PE X e td) : PI X tg e (iKeysL td) := by
  refine ⟨fun pins s σ H R I h => ?_⟩
  refine thn (he.run pins s σ H _ I h) fun u s1 ⟨x, H1, I1, rx, d, kvs, ex, hd, q⟩ => ?_
  subst ex
  obtain rfl : u = Value.ref d := rx
  obtain ⟨o, I2⟩ := I1.lock hd trivial
  have hd2 : upd H1 d (.frz o (.dK kvs)) d = some (.frz o (.dK kvs)) := upd_same
  obtain ⟨hs, hgd, hx, es, ep, vs, hdt, hsz, kv, hm⟩ := I2.frzK hd2
  refine iter_keys hs hgd hx hdt (pi_one (tk := s1.toks) I2 _ (turn_keys _ hdt) ⟨_, Heap.get?_push_size _ rfl, rfl, ?_⟩ (q o))
  rw [hsz] <;> rfl
@[simp ↓] def wiDict (wf : WF) : WI := fun env Q => wf env fun s e1 => match s with
  | .od kvs => Q (kvs.map fun kv => keyD kv.1) e1
  | _ => False
theorem ci_dict {X : Cx} {R : Root τ} {tg e : Expr} {wf : WF} (he : CF X R e wf) : CI X R tg e (wiDict wf) :=
  pi_imp (pi_keysL he) fun σ H Rk ⟨F, env, Qw, r, w, k⟩ => ⟨F, env, _, r, w, fun F1 e1 H1 x s f1 r1 p1 fr w1 => by
    cases s with
    | od kvs =>
      obtain ⟨a, ys, rfl, ow, h1, l, nd⟩ := p1
      refine ⟨a, ys, rfl, h1, fun o => ?_⟩
      have ff : Same F1 (upd F1 a (.frz o (.dK ys))) := same_frz ow.1
      have r2 := r1.lock (u := .frz o (.dK ys)) ow h1 rfl rfl fun i t b h2 h3 h4 z => fr rfl i t b h2 h3 h4 (by rw [z])
      exact k _ e1 _ _ _ (f1.trans ff) r2 (yl_keys upd_same (kvs_mono ff l)) w1
    | _ => cases w1⟩
/-! ### list(range(..)) -/
theorem rp_rgV {K : PySem.W.Frag} {F : Hp} (a : Int) : ∀ n : List Nat, RpL K F (n.map fun i => V.int (a + (i : Nat))) (n.map fun i => PyData.int (a + (i : Nat)))
  | [] => .nil
  | i :: n => .cons (.int _) (rp_rgV a n)
def RgL (i j : Int) : Prop := RgOk i j
@[simp ↓] def wLstRg1 (wo : WO) : WF := fun env Q => wo env fun o e1 => res e1 o fun d => match d with
  | .int j => RgOk 0 j ∧ Q (.ol (rangeD 0 j.toNat)) e1
  | _ => False
@[simp ↓] def wLstRg2 (wa wb : WO) : WF := fun env Q => wa env fun o e1 => wb e1 fun o' e2 => res e2 o fun d => res e2 o' fun d' => match d, d' with
  | .int i, .int j => RgOk i j ∧ Q (.ol (rangeD i (j - i).toNat)) e2
  | _, _ => False
theorem cf_listRg1 {X : Cx} {R : Root τ} {a : Expr} {wo : WO} {p p2 pos pos2 : Pos} (hc : X.calm = true) (hg : Gl X "list") (hm : X.mg "list" = none) (hg2 : Gl X "range") (hm2 : X.mg "range" = none) (ha : CO X R a wo)
    (na : starEach [a] X.env = (false, eval a X.env) :: starEach [] X.env := by rfl) (nl : starEach [.Call (.Name "range" p2) [a] [] pos2] X.env = (false, eval (.Call (.Name "range" p2) [a] [] pos2) X.env) :: starEach [] X.env := by rfl) :
    CF X R (.Call (.Name "list" p) [.Call (.Name "range" p2) [a] [] pos2] [] pos) (wLstRg1 wo) :=
  pe_imp (pe_listRg hc hg hm (prg_1 hg2 hm2 ha na) nl) fun σ H Q ⟨F, env, Qw, r, w, k⟩ => ⟨F, env, _, r, w, fun F1 e1 H1 x o f1 r1 p1 w1 => by
    obtain ⟨d, b1, w2⟩ := res_ok r1 p1 w1
    cases d with
    | int j =>
      refine ⟨j, by rw [b1.int], w2.1, fun q hq => ?_⟩
      have e : (j - 0).toNat = j.toNat := by rw [Int.sub_zero]
      obtain ⟨r4, p4, fr⟩ := new_ol r1 hq (rp_rgV (K := X.K) (F := F1) 0 (List.range (j - 0).toNat))
      exact k F1 e1 _ _ _ f1 r4 p4 fr (by rw [e]; exact w2.2)
    | _ => cases w2⟩
theorem cf_listRg2 {X : Cx} {R : Root τ} {a b : Expr} {wa wb : WO} {p p2 pos pos2 : Pos} (hc : X.calm = true) (hg : Gl X "list") (hm : X.mg "list" = none) (hg2 : Gl X "range") (hm2 : X.mg "range" = none) (ha : CO X R a wa) (hb : CO X R b wb)
    (na : starEach [a, b] X.env = (false, eval a X.env) :: starEach [b] X.env := by rfl) (nb : starEach [b] X.env = (false, eval b X.env) :: starEach [] X.env := by rfl) (hp : (backTo pos2 (starEach [b] X.env)).any (·.1) = false := by rfl)
    (nl : starEach [.Call (.Name "range" p2) [a, b] [] pos2] X.env = (false, eval (.Call (.Name "range" p2) [a, b] [] pos2) X.env) :: starEach [] X.env := by rfl) :
    CF X R (.Call (.Name "list" p) [.Call (.Name "range" p2) [a, b] [] pos2] [] pos) (wLstRg2 wa wb) :=
  pe_imp (pe_listRg hc hg hm (prg_2 hg2 hm2 ha hb na nb hp) nl) fun σ H Q ⟨F, env, Qw, r, w, k⟩ => ⟨F, env, _, r, w, fun F1 e1 H1 x o f1 r1 p1 w1 => ⟨F1, e1, _, r1, w1, fun F2 e2 H2 y o' f2 r2 p2 w2 => by
    obtain ⟨d, b1, w3⟩ := res_ok r2 (p1.mono f2) w2
    obtain ⟨d', b2, w4⟩ := res_ok r2 p2 w3
    cases d with
    | int i =>
      cases d' with
      | int j =>
        refine ⟨i, j, by rw [b1.int], by rw [b2.int], w4.1, fun q hq => ?_⟩
        obtain ⟨r4, p4, fr⟩ := new_ol r2 hq (rp_rgV (K := X.K) (F := F2) i (List.range (j - i).toNat))
        exact k F2 e2 _ _ _ (f1.trans f2) r4 p4 fr w4.2
      | _ => cases w4
    | _ => cases d' <;> cases w4⟩⟩
end VL
set_option Elab.async false
set_option linter.all false
set_option maxRecDepth 100000
set_option maxHeartbeats 2000000
/-! VL36: all, any over typed lists and ranges; neighbours. -/
namespace VL
open PySem PySem.Spec PyProof.Rows L2
theorem quW_ty {α : Type} {enc : α → PyData} {b0 : Bool} {g : WG} {we : WE} {vs : List Nat} {xs : List α} {env : PEnv} {Q : Bool → PEnv → Prop} (p : α → Bool)
    (hs : ∀ a ∈ xs, ∀ (Y : Bool → PEnv → Prop), Y (p a) env → g (enc a) env fun e1 => we e1 fun y e3 => ∃ c, y = .bool c ∧ Y c (wipeE e3 vs))
    (hd : Q (if b0 then xs.all p else xs.any p) env) : quW b0 g wYes we vs (xs.map enc) env Q := by
  refine quW_at (fun i e => e = env ∧ ∀ a ∈ xs.take i, p a = b0) ⟨rfl, by simp⟩ (fun i x e hx ⟨he, ha⟩ => ?_) (fun e ⟨he, ha⟩ => ?_)
  · subst he
    rw [List.getElem?_map] at hx
    cases q : xs[i]? with
    | none => rw [q] at hx; cases hx
    | some a =>
      rw [q] at hx; cases hx
      have hm := List.mem_of_getElem? q
      have := hs a hm (fun c e3 => if c = b0 then e3 = e ∧ ∀ a ∈ xs.take (i + 1), p a = b0 else Q (!b0) e3) (by
        by_cases h : p a = b0
        · rw [if_pos h]
          refine ⟨rfl, fun z hz => ?_⟩
          rw [List.take_add_one, q] at hz
          rcases List.mem_append.mp hz with hz | hz
          · exact ha z hz
          · simp at hz; subst hz; exact h
        · rw [if_neg h]
          have : (if b0 then xs.all p else xs.any p) = !b0 := by
            cases b0 with
            | true =>
              simp only [if_true, Bool.not_true]
              exact List.all_eq_false.mpr ⟨a, hm, by simpa using h⟩
            | false =>
              simp only [Bool.not_false]
              exact List.any_eq_true.mpr ⟨a, hm, by simpa using h⟩
          rw [this] at hd; exact hd)
      simpa using this
  · subst he
    rw [List.length_map, List.take_length] at ha
    have : (if b0 then xs.all p else xs.any p) = b0 := by
      cases b0 with
      | true => simp only [if_true]; exact List.all_eq_true.mpr ha
      | false =>
        simp only [Bool.false_eq_true, if_false]
        exact List.any_eq_false.mpr fun x hx => by rw [ha x hx]; simp
    rw [this] at hd; exact hd
theorem quW_rngP {b0 : Bool} {g : WG} {we : WE} {vs : List Nat} {lo : Int} {n : Nat} {env : PEnv} {Q : Bool → PEnv → Prop} (p : Nat → Bool)
    (hs : ∀ i : Nat, i < n → ∀ (Y : Bool → PEnv → Prop), Y (p i) env → g (.int (lo + (i : Nat))) env fun e1 => we e1 fun y e3 => ∃ c, y = .bool c ∧ Y c (wipeE e3 vs))
    (hd : Q (if b0 then (List.range n).all p else (List.range n).any p) env) : quW b0 g wYes we vs (rangeD lo n) env Q := by
  rw [rangeD_map]
  exact quW_ty p (fun i hi Y => hs i (List.mem_range.mp hi) Y) hd
/-- each two neighbours -/
def adjB {α : Type} (r : α → α → Bool) : List α → Bool
  | x :: y :: l => r x y && adjB r (y :: l)
  | _ => true
theorem adjB_iff {α : Type} {r : α → α → Bool} : ∀ {l : List α}, adjB r l = true ↔ ∀ k (h : k + 1 < l.length), r l[k] l[k + 1] = true
  | [] => by simp [adjB]
  | [x] => by simp [adjB]
  | x :: y :: l => by
    have ih := adjB_iff (r := r) (l := y :: l)
    simp only [adjB, Bool.and_eq_true, ih]
    constructor
    · rintro ⟨h1, h2⟩ k hk
      cases k with
      | zero => exact h1
      | succ k => exact h2 k (by simpa using hk)
    · intro h
      exact ⟨h 0 (by simp), fun k hk => h (k + 1) (by simpa using hk)⟩
theorem adjB_range {α : Type} {r : α → α → Bool} {l : List α} {f : Nat → Bool} {n : Nat} (hn : n = l.length - 1) (h : ∀ k (h : k + 1 < l.length), f k = r l[k] l[k + 1]) : (List.range n).all f = adjB r l := by
  subst hn
  rw [Bool.eq_iff_iff, adjB_iff, List.all_eq_true]
  constructor
  · intro q k hk
    rw [← h k hk]; exact q k (List.mem_range.mpr (by omega))
  · intro q k hk
    have hk := List.mem_range.mp hk
    rw [h k (by omega)]; exact q k _
theorem bool_congr {a b : Bool} (h : a = true ↔ b = true) : a = b := Bool.eq_iff_iff.mpr h
theorem cdivS {a b : Int} (h0 : 0 < b) (h1 : b < 1000000) : CDivW a b := by
  refine ⟨h0, ?_⟩
  by_cases z : b.natAbs = 0
  · rw [z]; decide
  · have := (Nat.log2_lt z (k := 20)).mpr (by omega)
    omega
theorem foldl_max_le {R : Int} : ∀ {bs : List Int} {a : Int}, bs.foldl max a ≤ R ↔ ∀ x ∈ a :: bs, x ≤ R
  | [], a => by simp
  | b :: bs, a => by
    rw [List.foldl_cons, foldl_max_le]
    simp only [List.mem_cons, forall_eq_or_imp]
    constructor
    · rintro ⟨h1, h2⟩; exact ⟨by omega, by omega, h2⟩
    · rintro ⟨h1, h2, h3⟩; exact ⟨by omega, h3⟩
theorem le_foldl_min {R : Int} : ∀ {bs : List Int} {a : Int}, R ≤ bs.foldl min a ↔ ∀ x ∈ a :: bs, R ≤ x
  | [], a => by simp
  | b :: bs, a => by
    rw [List.foldl_cons, le_foldl_min]
    simp only [List.mem_cons, forall_eq_or_imp]
    constructor
    · rintro ⟨h1, h2⟩; exact ⟨by omega, by omega, h2⟩
    · rintro ⟨h1, h2, h3⟩; exact ⟨by omega, h3⟩
theorem foldl_min_mem : ∀ {bs : List Int} {a : Int}, bs.foldl min a ∈ a :: bs
  | [], a => by simp
  | b :: bs, a => by
    rw [List.foldl_cons]
    have := @foldl_min_mem bs (min a b)
    rcases List.mem_cons.mp this with h | h
    · rw [h]
      rcases Int.le_total a b with c | c
      · rw [Int.min_eq_left c]; simp
      · rw [Int.min_eq_right c]; simp
    · simp [h]
theorem foldl_max_mem : ∀ {bs : List Int} {a : Int}, bs.foldl max a ∈ a :: bs
  | [], a => by simp
  | b :: bs, a => by
    rw [List.foldl_cons]
    have := @foldl_max_mem bs (max a b)
    rcases List.mem_cons.mp this with h | h
    · rw [h]
      rcases Int.le_total a b with c | c
      · rw [Int.max_eq_right c]; simp
      · rw [Int.max_eq_left c]; simp
    · simp [h]
theorem sIx_m1 (len dd : Nat) : HT.sIx len dd (some (-1)) = len - 1 := by
  unfold HT.sIx
  simp
  omega
@[simp] theorem cutD_last (xs : List PyData) : cutD xs (some (-1)) none = xs.drop (xs.length - 1) := by
  unfold cutD
  rw [sIx_m1]
  have h0 : HT.sIx xs.length xs.length none = xs.length := rfl
  rw [h0, List.take_of_length_le (by rw [List.length_drop]; omega)]
@[simp] theorem cutD_init (xs : List PyData) : cutD xs none (some (-1)) = xs.dropLast := by
  unfold cutD
  rw [sIx_m1]
  have h0 : HT.sIx xs.length 0 none = 0 := rfl
  rw [h0, List.drop_zero, Nat.sub_zero, List.dropLast_eq_take]
theorem drop_snoc {α : Type} (l : List α) (x : α) {n : Nat} (h : n = l.length) : (l ++ [x]).drop n = [x] := by
  subst h; simp
/-! ### keys once each -/
section
variable {α : Type} [DecidableEq α]
def uniq (xs : List α) : List α := xs.foldl (fun acc x => if x ∈ acc then acc else acc ++ [x]) []
theorem uniq_go (xs : List α) : ∀ acc : List α, acc.Nodup → (xs.foldl (fun acc x => if x ∈ acc then acc else acc ++ [x]) acc).Nodup ∧ ∀ z, z ∈ xs.foldl (fun acc x => if x ∈ acc then acc else acc ++ [x]) acc ↔ z ∈ acc ∨ z ∈ xs := by
  induction xs with
  | nil => intro acc h; exact ⟨h, fun z => by simp⟩
  | cons x xs ih =>
    intro acc h
    rw [List.foldl_cons]
    by_cases hx : x ∈ acc
    · rw [if_pos hx]
      obtain ⟨a, b⟩ := ih acc h
      refine ⟨a, fun z => ?_⟩
      rw [b z]
      constructor
      · rintro (h | h)
        · exact .inl h
        · exact .inr (by simp [h])
      · rintro (h | h)
        · exact .inl h
        · rcases List.mem_cons.mp h with rfl | h
          · exact .inl hx
          · exact .inr h
    · rw [if_neg hx]
      obtain ⟨a, b⟩ := ih (acc ++ [x]) (by
        rw [List.nodup_append]
        refine ⟨h, by simp, fun y hy z hz => ?_⟩
        simp at hz; subst hz
        intro e; subst e; exact hx hy)
      refine ⟨a, fun z => ?_⟩
      rw [b z]
      simp only [List.mem_append, List.mem_cons, List.not_mem_nil, or_false]
      exact ⟨fun h => by rcases h with (h | h) | h <;> simp [h], fun h => by rcases h with h | h | h <;> simp [h]⟩
theorem uniq_nodup (xs : List α) : (uniq xs).Nodup := (uniq_go xs [] .nil).1
@[simp] theorem mem_uniq {xs : List α} {z : α} : z ∈ uniq xs ↔ z ∈ xs := by
  have := (uniq_go xs [] .nil).2 z
  unfold uniq
  simpa using this
theorem uniq_len (xs : List α) : (uniq xs).length ≤ xs.length := by
  have : ∀ (xs acc : List α), (xs.foldl (fun acc x => if x ∈ acc then acc else acc ++ [x]) acc).length ≤ acc.length + xs.length := by
    intro xs
    induction xs with
    | nil => intro acc; simp
    | cons x xs ih =>
      intro acc
      rw [List.foldl_cons]
      by_cases h : x ∈ acc
      · rw [if_pos h]; have := ih acc; simp; omega
      · rw [if_neg h]; have := ih (acc ++ [x]); simp at *; omega
  unfold uniq
  simpa using this xs []
end
theorem putD_keys {κ : Type} [DecidableEq κ] (kvs : List (κ × PyData)) (k : κ) (v : PyData) : (putD kvs k v).map (·.1) = if k ∈ kvs.map (·.1) then kvs.map (·.1) else kvs.map (·.1) ++ [k] := by
  unfold putD
  by_cases h : (kvs.any fun kv => kv.1 = k) = true
  · have hm : k ∈ kvs.map (·.1) := by
      obtain ⟨kv, h1, h2⟩ := List.any_eq_true.mp h
      exact List.mem_map.mpr ⟨kv, h1, by simpa using h2⟩
    rw [if_pos hm]
    simp only [h, if_true]
    rw [List.map_map]
    refine List.map_congr_left fun kv _ => ?_
    by_cases e : kv.1 = k <;> simp [e]
  · have hm : ¬ k ∈ kvs.map (·.1) := fun z => by
      obtain ⟨kv, h1, h2⟩ := List.mem_map.mp z
      exact h (List.any_eq_true.mpr ⟨kv, h1, by simpa using h2⟩)
    rw [if_neg hm]
    simp [h]
theorem mergeD_keys {α : Type} [DecidableEq α] (ky : α → Key) (v : α → PyData) (inj : ∀ a b, ky a = ky b → a = b) (xs : List α) : (mergeD [] (xs.map fun a => (ky a, v a))).map (·.1) = (uniq xs).map ky := by
  have : ∀ (xs : List α) (kvs : List (Key × PyData)) (acc : List α), kvs.map (·.1) = acc.map ky → (mergeD kvs (xs.map fun a => (ky a, v a))).map (·.1) = (xs.foldl (fun acc x => if x ∈ acc then acc else acc ++ [x]) acc).map ky := by
    intro xs
    induction xs with
    | nil => intro kvs acc h; exact h
    | cons x xs ih =>
      intro kvs acc h
      rw [List.map_cons, List.foldl_cons]
      show (mergeD (putD kvs (ky x) (v x)) _).map (·.1) = _
      refine ih _ _ ?_
      rw [putD_keys, h]
      have hi : ky x ∈ acc.map ky ↔ x ∈ acc := ⟨fun z => by
        obtain ⟨y, hy, e⟩ := List.mem_map.mp z
        rw [← inj _ _ e]; exact hy, fun z => List.mem_map_of_mem z⟩
      by_cases hx : x ∈ acc
      · rw [if_pos hx, if_pos (hi.mpr hx)]
      · rw [if_neg hx, if_neg (fun z => hx (hi.mp z))]; simp
  exact this xs [] [] rfl
theorem mergeD_ints (v : Int → PyData) (xs : List Int) : (mergeD [] (xs.map fun a => (Sum.inl a, v a))).map (fun kv => keyD kv.1) = (uniq xs).map .int := by
  have := congrArg (List.map keyD) (mergeD_keys Sum.inl v (fun a b h => by injection h) xs)
  rw [List.map_map, List.map_map] at this
  exact this
end VL
set_option Elab.async false
set_option linter.all false
set_option maxRecDepth 100000
set_option maxHeartbeats 2000000
/-! VL37: e in CONSTANT, a module's tuple of numbers and texts. -/
namespace VL
open PySem PySem.Spec PyProof.Rows L2 RZ
variable {τ : Tau}
def CstT (K : PySem.W.Frag) (u : Value) (ds : List PyData) : Prop := ∃ (a : Addr) (xs : List V), u = .ref a ∧ (∀ H : Hp, SqT K H a xs) ∧ ∀ H : Hp, RpL K H xs ds
@[simp ↓] def wInC (neg : Bool) (ds : List PyData) (wa : WO) : WE := fun env Q => wa env fun o e1 => res e1 o fun d => gIn neg d (.tuple ds) fun b => Q b e1
theorem ce_inC {X : Cx} {R : Root τ} {op : CmpOp} {neg : Bool} {ds : List PyData} {c : Str} {a : Expr} {wa : WO} {p pos : Pos} (ho : OpR X (compareOp op) (rInA X.K neg)) (hg : Gl X c) (hm : ∃ u, X.mg c = some u ∧ CstT X.K u ds) (ha : CO X R a wa)
    (hd : (c == ("__debug__" : Str)) = false := by decide) (hk : behindInMarks op (.Name c p) = false := by first | exact nomark _ | rfl) : CE X R (.Compare a [op] [.Name c p] pos) (wInC neg ds wa) := by
  obtain ⟨u, hm, ad, xs, rfl, kt, dp⟩ := hm
  have hb : PE X (.Name c p) (tC (V.ref ad)) := pe_glob hg hm rfl hd
  refine pe_imp (pe_cmpR ho ha hb hk) fun σ H Q ⟨F, env, Qw, r, w, k⟩ => ?_
  refine ⟨F, env, _, r, w, fun F1 e1 H1 x o f1 r1 p1 w1 => ?_⟩
  obtain ⟨d, b1, w2⟩ := res_ok r1 p1 w1
  exact ⟨d, ds, b1.dp r1.sub, .inr (.tup (kt H1) (RpL.dp (Same.refl H1) ds xs (dp H1))), w2.1.1, w2.1.2, k F1 e1 H1 _ _ f1 r1 (.bl _) w2.2⟩
theorem ct_inC {X : Cx} {R : Root τ} {op : CmpOp} {neg : Bool} {ds : List PyData} {c : Str} {a : Expr} {wa : WO} {p pos : Pos} (ho : OpR X (compareOp op) (rInA X.K neg)) (hg : Gl X c) (hm : ∃ u, X.mg c = some u ∧ CstT X.K u ds) (ha : CO X R a wa)
    (hd : (c == ("__debug__" : Str)) = false := by decide) (hk : behindInMarks op (.Name c p) = false := by first | exact nomark _ | rfl) : CT X R (.Compare a [op] [.Name c p] pos) (wTst (wInC neg ds wa)) := by
  obtain ⟨u, hm, ad, xs, rfl, kt, dp⟩ := hm
  have hb : PE X (.Name c p) (tC (V.ref ad)) := pe_glob hg hm rfl hd
  refine pt_imp (pt_cmpR ho ha hb hk) (wTst_rd fun σ H Q ⟨F, env, Qw, r, w, k⟩ => ?_)
  refine ⟨F, env, _, r, w, fun F1 e1 H1 x o f1 r1 p1 w1 => ?_⟩
  obtain ⟨d, b1, w2⟩ := res_ok r1 p1 w1
  exact ⟨d, ds, b1.dp r1.sub, .inr (.tup (kt H1) (RpL.dp (Same.refl H1) ds xs (dp H1))), w2.1.1, w2.1.2, k F1 e1 H1 _ _ f1 r1 (.bl _) w2.2⟩
theorem cst_ints {K : PySem.W.Frag} {a : Addr} {od sl} {ts : List (Int × Tok)} {n : Nat} (h : K.lookup a = some ⟨.type "tuple", od, .seq (ts.map fun p => Value.int p.1 p.2).toArray n, sl⟩) (hl : ts.length ≤ 1000) : CstT K (.ref a) (ts.map fun p => .int p.1) := by
  refine ⟨a, ts.map fun p => V.int p.1, rfl, fun H => .inr ⟨_, _, _, h, rfl, rfl, by simp; omega, ?_⟩, fun H => ?_⟩
  · simp
    clear h hl
    induction ts with
    | nil => exact .nil
    | cons p ts ih => exact .cons ⟨_, rfl⟩ ih
  · clear h hl
    induction ts with
    | nil => exact .nil
    | cons p ts ih => exact .cons (.int _) ih
theorem cst_strs {K : PySem.W.Frag} {a : Addr} {od sl} {ts : List (Str × Tok)} {n : Nat} (h : K.lookup a = some ⟨.type "tuple", od, .seq (ts.map fun p => Value.str p.1 p.2).toArray n, sl⟩) (hl : ts.length ≤ 1000) : CstT K (.ref a) (ts.map fun p => .str p.1) := by
  refine ⟨a, ts.map fun p => V.str p.1, rfl, fun H => .inr ⟨_, _, _, h, rfl, rfl, by simp; omega, ?_⟩, fun H => ?_⟩
  · simp
    clear h hl
    induction ts with
    | nil => exact .nil
    | cons p ts ih => exact .cons ⟨_, rfl⟩ ih
  · clear h hl
    induction ts with
    | nil => exact .nil
    | cons p ts ih => exact .cons (.str _) ih
end VL
set_option Elab.async false
set_option linter.all false
set_option maxRecDepth 100000
set_option maxHeartbeats 2000000
/-! VL38: raise, calls of defs that may raise. -/
namespace VL
open PySem PySem.Spec PyProof.Rows L2 RZ
variable {τ : Tau}
/-- what is wanted of an exception: its class's name, the places -/
abbrev Ex := Str → PEnv → Prop
/-- the context takes such exceptions -/
def TakesW (X : Cx) (R : Root τ) (ex : Ex) : Prop := ∃ W : WX, L2N.Takes X W ∧ ∀ nm C F env σ H, X.mg nm = some (.ref C) → Rel X.K R F env σ H → ex nm env → W (.ref C) none σ H
/-- a class of one's own that is raised -/
structure ErrC (K : PySem.W.Frag) (mg : Str → Option Value) (nm : Str) : Prop where
  ex : ∃ (C : Addr) (B newId initId : String) (bmB : List Value), ExcBaseFacts B newId initId bmB ∧ PySem.W.excIn K C bmB newId = true ∧ mg nm = some (.ref C) ∧ PySem.W.keepIn K (.ref C) = true ∧
    PySem.W.subIn K (.ref C) (.type "BaseException") = some true ∧ PySem.W.typeIn K (.ref C) = some (.type "type")
section
variable {X : Cx} {R : Root τ}
@[simp ↓] def wRaise (ex : Ex) (nm : Str) : WS := fun _ env => ex nm env
theorem cs_raise {nm m : Str} {j : Nat} {p p2 pos rpos : Pos} {ex : Ex} (hc : X.calm = true) (tk : TakesW X R ex) (hg : Gl X nm) (C : ErrC X.K X.mg nm) (hdb : (nm == ("__debug__" : Str)) = false := by decide) :
    CS X R (.Raise (some (.Call (.Name nm p) [.Constant (.str m) j p2] [] pos)) none rpos) (wRaise ex nm) := by
  obtain ⟨W, tk, hw⟩ := tk
  obtain ⟨C, B, newId, initId, bmB, F, q, gC, kC, h1, h2⟩ := C.ex
  exact ps_imp (L2N.ps_raise hc tk (L2N.pmk_own F q gC kC (raises_own h1 h2) hg hdb)) fun D σ H ⟨F, env, W, r, w, l⟩ => hw _ _ F env σ H gC r w
/-- f(e, ..) that may raise -/
@[simp ↓] def wCallX (ex : Ex) (n : Nat) (fw : FW) (wa : WAs) : WF := fun env Q => wa env fun as is e1 => as.length = n ∧ drsOk e1 is none ∧ fw as (fun s => okRet is s ∧ Q s e1) fun nm => ex nm e1
theorem call_rdX {K : PySem.W.Frag} {mg : Str → Option Value} {R : Root τ} {F H : Hp} {env : PEnv} {σ : L2.St} {xs : List V} {as : List Slot} {is : List (Option Nat)} {n : Nat} {fw : FW} {Qw : Slot → Prop} {Q : VK} {E : XK} {ew : Str → Prop} (hn : xs.length = n) (r : Rel K R F env σ H) (ha : ArsOk K F σ xs as is) (hd : drsOk env is none)
    (hf : fw as (fun s => okRet is s ∧ Qw s) ew) (k : ∀ F' H' x s, Same F F' → Rel K R F' env σ H' → SlotOk K R F' H' x s → Fresh env σ x s → Qw s → Q x H')
    (kx : ∀ nm C F' H', mg nm = some (.ref C) → Rel K R F' env σ H' → ew nm → E (.ref C) none H') : spW τ K mg n fw xs H Q E := by
  rcases argl_of r ha hd with l | ⟨i, a, hm, h1, h2, l⟩
  · refine ⟨hn, F, none, as, _, _, base_call r.toBase none (fun a h => by cases h), l none, hf, fun F' H' x s ff b p ⟨_, q⟩ => ?_, fun nm C F' H' g ff b z => kx nm C F' H' g (r.up b ff) z⟩
    obtain ⟨p1, p2⟩ := slot_back r (.inr rfl) p
    exact k F' H' x s ff (r.up b ff) p1 p2 q
  · obtain ⟨x0, e1, a0, e2, h0, _, hns⟩ := r.sl i _ h1
    rw [h2] at e1; cases e1
    cases e2
    refine ⟨hn, F, some a, as, _, _, base_call r.toBase (some a) (fun c h => by cases h; exact ⟨h0.1, hns⟩), l, hf, fun F' H' x s ff b p ⟨q0, q⟩ => ?_, fun nm C F' H' g ff b z => kx nm C F' H' g (r.upD h1 h2 b ff) z⟩
    have nd : s ≠ .dr := fun z => by subst z; exact q0 i hm
    obtain ⟨p1, p2⟩ := slot_back r (.inl nd) p
    exact k F' H' x s ff (r.upD h1 h2 b ff) p1 p2 q
/-- the def x of the text keeps its promise fw, or raises -/
structure CalX (τ : Tau) (P : Program) (w : World) (K : PySem.W.Frag) (mg : Str → Option Value) (base : Heap) (k : Nat) (x : Str) (ps : List Str) (fw : FW) : Prop where
  ex : ∃ f fd, FnOk P w K mg base (L2N.CX P w) k f fd ps (spW τ K mg ps.length fw) ∧ mg x = some (.ref f) ∧ PySem.W.keepIn K (.ref f) = true ∧ Binds K fd ps []
variable {e : Expr} {es : List Expr} {pos p : Pos} {k : Nat} {ps : List Str} {fw : FW} {x : Str} {wa : WAs} {ex : Ex}
theorem cf_callX {n : Nat} (C : CalX τ X.prog X.w X.K X.mg X.base k x ps fw) (tk : TakesW X R ex) (hn : ps.length = n) (hr : Room k X.A) (hg : Gl X x) (ha : CAs X R (e :: es) wa) (hdb : (x == ("__debug__" : Str)) = false)
    (he : starEach (e :: es) X.env = (false, eval e X.env) :: starEach es X.env) (hpl : (backTo pos (starEach es X.env)).any (·.1) = false) :
    CF X R (.Call (.Name x p) (e :: es) [] pos) (wCallX ex n fw wa) := by
  subst hn
  obtain ⟨W, tk, hw⟩ := tk
  obtain ⟨f, fd, F, hm, hk, hb⟩ := C.ex
  refine pe_imp (pe_callS F hr hg hm hk hb (L2N.passAt tk) ha hdb he hpl) fun σ H Q ⟨Fz, env, Qw, r, w, kk⟩ => ?_
  refine ⟨Fz, env, _, r, w, fun F1 e1 H1 xs as is f1 r1 p1 ⟨hl, hd, w1⟩ => ?_⟩
  exact call_rdX (by rw [p1.len]; exact hl) r1 p1 hd w1 (fun F2 H2 y s f2 r2 p2 fr q => kk F2 e1 H2 y s (f1.trans f2) r2 p2 fr q) fun nm C F2 H2 g r2 z => hw nm C F2 e1 σ H2 g r2 z
/-- .. that does not raise here, in any context -/
theorem cf_callN {n : Nat} (C : CalX τ X.prog X.w X.K X.mg X.base k x ps fw) (hn : ps.length = n) (hr : Room k X.A) (hg : Gl X x) (ha : CAs X R (e :: es) wa) (hdb : (x == ("__debug__" : Str)) = false)
    (he : starEach (e :: es) X.env = (false, eval e X.env) :: starEach es X.env) (hpl : (backTo pos (starEach es X.env)).any (·.1) = false) :
    CF X R (.Call (.Name x p) (e :: es) [] pos) (wCall n fw wa) := by
  subst hn
  obtain ⟨f, fd, F, hm, hk, hb⟩ := C.ex
  refine pe_imp (pe_callS (E := fun _ _ _ _ => False) F hr hg hm hk hb (fun σ pins H s e s' I ⟨a, B, H', cls, d, _, _, _, _, _, _, _, z⟩ => z.elim) ha hdb he hpl) fun σ H Q ⟨Fz, env, Qw, r, w, kk⟩ => ?_
  refine ⟨Fz, env, _, r, w, fun F1 e1 H1 xs as is f1 r1 p1 ⟨hl, hd, w1⟩ => ?_⟩
  exact call_rdX (by rw [p1.len]; exact hl) r1 p1 hd w1 (fun F2 H2 y s f2 r2 p2 fr q => kk F2 e1 H2 y s (f1.trans f2) r2 p2 fr q) fun nm C F2 H2 g r2 z => z.elim
end
section
variable {P : Program} {w : World} {K : PySem.W.Frag} {mg : Str → Option Value} {base : Heap} {x : Str} {st : Stmt} {f c : Addr} {fd : FuncData}
/-- a def that may raise keeps its promise by its body -/
theorem fnTX {N ps : List Str} {k : Nat} {bw : (Str → Prop) → WS} (F : FunT K x st f fd c) (S : FnScope N ps (defScope st))
    (hbody : ∀ (R : Root τ) (A : Around) (outer : List Env) (s : Shared) (H : Hp) (E : XK) (Ew : Str → Prop), Room k (A.deeper (envOfC x (defScope st) s.heap.objs.size f (.ref c))) →
      TakesW (cxOf (L2N.CX P w) P w K mg base N x (defScope st) f (.ref c) A outer s H E) R (fun nm _ => Ew nm) →
      CSs (cxOf (L2N.CX P w) P w K mg base N x (defScope st) f (.ref c) A outer s H E) R (defBody st) (bw Ew)) : FnOk P w K mg base (L2N.CX P w) (k + 1) f fd ps (spW τ K mg ps.length (fwOf N.length bw)) := by
  obtain ⟨oc, od, kV, doc, pm, an, ct, osl, rfl, lk, hcd⟩ := F.ex
  refine fn_of lk hcd S (fun vs H Q E h => h.1) fun A outer s H vs Q E hr h => ?_
  obtain ⟨hl, Fz, d, args, Qw, Ew, hb, ha, hf, hq, he⟩ := h
  have tk : TakesW (cxOf (L2N.CX P w) P w K mg base N x (defScope st) f (.ref c) A outer s H E) (rt (τ := τ) H Fz d) (fun nm _ => Ew nm) :=
    ⟨fun cls d _ H => E cls d H, L2N.takes_of (X := cxOf (L2N.CX P w) P w K mg base N x (defScope st) f (.ref c) A outer s H E) rfl rfl rfl rfl, fun nm C F' env σ H' g r z => he nm C F' H' g r.toBase.ext r.toBase z⟩
  refine ⟨_, hbody (rt (τ := τ) H Fz d) A outer s H E Ew hr tk, Fz, _, _, rel_start hb ha, hf, fun F' env' σ' H' ff r q => ?_, fun _ _ _ _ _ _ z => z.elim, fun _ _ _ _ _ _ z => z.elim, fun F' H' y t ff r p q => hq F' H' y t ff r p q⟩
  exact hq F' H' .non (.fz .none) ff r.toBase .non q
end
end VL
set_option Elab.async false
set_option linter.all false
set_option maxRecDepth 100000
set_option maxHeartbeats 2000000
/-! VL39: try: .. except X as e. -/
namespace VL
open PySem PySem.Spec PyProof.Rows L2 RZ
variable {τ : Tau}
/-- the root as of now -/
def Root.now (R : Root τ) (F : Hp) : Root τ := { R with F0 := F }
section
variable {K : PySem.W.Frag} {R : Root τ} {F F' H H' : Hp} {env : PEnv} {σ : L2.St}
theorem Base.now (r : Base R F H) : Base (R.now F) F H := { r with ext := Same.refl F, new := fun b o h => .inl h }
theorem Base.then (r : Base R F H) (r' : Base (R.now F) F' H') : Base R F' H' := { r' with ext := r.ext.trans r'.ext, new := fun b o h => (r'.new b o h).elim (fun z => r.new b o z) .inr }
theorem slot_now {x : V} {s : Slot} : SlotOk K (R.now F) F' H' x s ↔ SlotOk K R F' H' x s := by cases s <;> exact Iff.rfl
theorem Rel.now (r : Rel K R F env σ H) : Rel K (R.now F) F env σ H := { r.toBase.now with len := r.len, sl := fun i s e => (r.sl i s e).imp fun x h => ⟨h.1, slot_now.mpr h.2⟩, dis := r.dis }
theorem Rel.then {env' : PEnv} {σ' : L2.St} (r : Base R F H) (r' : Rel K (R.now F) F' env' σ' H') : Rel K R F' env' σ' H' := { r.then r'.toBase with len := r'.len, sl := fun i s e => (r'.sl i s e).imp fun x h => ⟨h.1, slot_now.mp h.2⟩, dis := r'.dis }
end
theorem Rel.unset {K : PySem.W.Frag} {R : Root τ} {F H : Hp} {env : PEnv} {σ : L2.St} {i : Nat} (r : Rel K R F env σ H) : Rel K R F (env.set i none) (σ.set i none) H := by
  refine { r.toBase with len := by rw [List.length_set, List.length_set]; exact r.len, sl := fun j t e => ?_, dis := fun j k s' t a hjk e1 o1 e2 o2 e3 e4 => ?_ }
  · rcases list_ix_set e with ⟨_, z⟩ | ⟨hj, e⟩
    · cases z
    · obtain ⟨y, h1, h2⟩ := r.sl j t e
      exact ⟨y, by rw [List.getElem?_set_ne (Ne.symm hj)]; exact h1, h2⟩
  · rcases list_ix_set e1 with ⟨_, z⟩ | ⟨hj, e1⟩
    · cases z
    · rcases list_ix_set e2 with ⟨_, z⟩ | ⟨hk, e2⟩
      · cases z
      · rw [List.getElem?_set_ne (Ne.symm hj)] at e3
        rw [List.getElem?_set_ne (Ne.symm hk)] at e4
        exact r.dis j k s' t a hjk e1 o1 e2 o2 e3 e4
/-- try: body, except x as n: a suite -/
@[simp ↓] def wTry (i : Nat) (wb : Ex → WS) (names : Str → Prop) (ws : Addr → Str → WS) : WS := fun D env => wb (fun nm e1 => names nm ∧ i < e1.length ∧ ∀ a, ws a nm { nx := fun e => D.nx (e.set i none), rt := D.rt, bk := fun e => D.bk (e.set i none), ct := fun e => D.ct (e.set i none) } (e1.set i (some (.ex a)))) D env
section
variable {X : Cx} {R : Root τ} {x n : Str} {c : Value} {i : Nat} {body suite : List Stmt} {b₀ : Stmt} {np pos pos' : Pos} {wb : Ex → WS} {names : Str → Prop} {ws : Addr → Str → WS}
theorem cs_try (hs : X.stack = X.env :: X.outer) (hf : X.env.frame = some X.env.locals) (hN : X.N.Nodup) (hi : X.N[i]? = some n) (hln : X.env.kindOf n = some .local) (hc : Names X x c)
    (hcls : ∀ nm C, names nm → X.mg nm = some (.ref C) → PySem.W.exmOne X.K (.ref C) c = some true)
    (hb : ∀ (R' : Root τ) (pn : List (Addr × Obj)) (xe : Value → Shared → Prop) (ex : Ex), TakesW (X.tr pn xe) R' ex → PassesOwn (model X.prog X.w) X.A X.env xe → CSs (X.tr pn xe) R' body (wb ex))
    (hsu : ∀ (R' : Root τ) (a : Addr) (oe : Obj) (C : Addr) (nm : Str) (pn : List (Addr × Obj)), names nm → X.mg nm = some (.ref C) → L2N.Zn (.ref C) none oe → (∃ vs, oe.data = .fields vs) →
      CSs (X.suite a ((a, oe) :: pn)) R' (b₀ :: suite) (ws a nm)) :
    CS X R (.Try body [.ExceptHandler (some (.Name x np)) (some n) (b₀ :: suite) pos'] [] [] pos) (wTry i wb names ws) := by
  have main := L2N.ps_try_as (X := X) (Wout := fun _ _ _ _ => False) (body := body) (pos := pos) (pos' := pos') (np := np)
    (tb := fun W D σ H => ∃ (F : Hp) (env : PEnv) (Wd : WD) (ex : Ex), Rel X.K (R.now F) F env σ H ∧ wb ex Wd env ∧ Lk X.K (R.now F) F D Wd ∧ ∀ nm C F' env' σ' H', X.mg nm = some (.ref C) → Rel X.K (R.now F) F' env' σ' H' → ex nm env' → W (.ref C) none σ' H')
    (ts := fun a cls d D σ H => ∃ nm C, names nm ∧ X.mg nm = some (.ref C) ∧ cls = .ref C ∧ d = none ∧ ∃ (F : Hp) (env : PEnv) (Wd : WD), Rel X.K R F env σ H ∧ ws a nm Wd env ∧ Lk X.K R F D Wd)
    hs hf hN hi hln hc (fun _ _ ⟨_, _, _, _, _, _, _, _, _, _, _, _, _, _, _, _, w⟩ => w.elim)
    (fun W pn xe tk hp => ⟨fun pins s σ H D I ⟨F, env, Wd, ex, r, w, l, hw⟩ => (hb (R.now F) pn xe ex ⟨W, tk, hw⟩ hp).run pins s σ H D I ⟨F, env, Wd, r, w, l⟩⟩)
    (fun a oe cls d pn hz hfd => ⟨fun pins s σ H D I ⟨nm, C, h1, h2, h3, h4, h5⟩ => by
      subst h3; subst h4
      exact (hsu R a oe C nm pn h1 h2 hz hfd).run pins s σ H D I h5⟩)
  refine ps_imp main fun D σ H ⟨F, env, Wd, r, w, l⟩ => ?_
  refine ⟨F, env, Wd, _, r.now, w, ⟨fun F5 e5 σ5 H5 f5 r5 w5 => l.nx F5 e5 σ5 H5 f5 (Rel.then r.toBase r5) w5, fun F5 e5 σ5 H5 f5 r5 w5 => l.bk F5 e5 σ5 H5 f5 (Rel.then r.toBase r5) w5, fun F5 e5 σ5 H5 f5 r5 w5 => l.ct F5 e5 σ5 H5 f5 (Rel.then r.toBase r5) w5,
    fun F5 H5 x5 s5 f5 r5 p5 w5 => l.rt F5 H5 x5 s5 f5 (r.toBase.then r5) (slot_now.mp p5) w5⟩, fun nm C F' env' σ' H' g r' ⟨hn, hlt, w'⟩ => ?_⟩
  refine ⟨true, hcls nm C hn g, fun _ a ha => ⟨nm, C, hn, g, rfl, rfl, F', _, _, (Rel.then r.toBase r').set (x := .ref a) (s := .ex a) rfl (fun z => nomatch z), w' a, ?_⟩, fun z => by cases z⟩
  have ff : Same F F' := r'.ext
  exact ⟨fun F5 e5 σ5 H5 f5 r5 w5 => l.nx F5 _ _ H5 (ff.trans f5) r5.unset w5, fun F5 e5 σ5 H5 f5 r5 w5 => l.bk F5 _ _ H5 (ff.trans f5) r5.unset w5, fun F5 e5 σ5 H5 f5 r5 w5 => l.ct F5 _ _ H5 (ff.trans f5) r5.unset w5,
    fun F5 H5 x5 s5 f5 r5 p5 w5 => l.rt F5 H5 x5 s5 (ff.trans f5) r5 p5 w5⟩
end
end VL
set_option Elab.async false
set_option linter.all false
set_option maxRecDepth 100000
set_option maxHeartbeats 2000000
/-! VL40: a def that is handed the exception of the suite. -/
namespace VL
open PySem PySem.Spec PyProof.Rows L2 RZ L2H
section
variable {P : Program} {w : World} {K : PySem.W.Frag} {mg : Str → Option Value} {base : Heap}
/-- the promise of a def, the handled exception's object being p's -/
structure FnE (P : Program) (w : World) (K : PySem.W.Frag) (mg : Str → Option Value) (base : Heap) (k : Nat) (f : Addr) (fd : FuncData) (ps : List Str) (p : Addr × Obj) (sp : Sp) : Prop where
  len : ∀ vs H Q E, sp vs H Q E → vs.length = ps.length
  run : ∀ (A : Around) (outer : List Env) (s : Shared) (H : Hp) (args : Args) (us : List Value) (vs : List V) (Q : VK) (E : XK), RoomH k A → Hot1 A p → PinOk outer H s p → Env0 P w K mg base A outer s H → BindsTo s fd args (ps.zip us) → Vals vs us → sp vs H Q E →
    codeAny (model P w) A (.call (.ref f) args) (CR CX0 outer P w H s Q E) s
theorem fnE_of {k : Nat} {f : Addr} {name qual : Str} {params : Arguments} {body : List Stmt} {scope : Scope} {dV kV doc pm cdv ct oc : Value} {an od : Option Addr} {osl : Array (Option Value)} {N ps : List Str} {sp : Sp} {p : Addr × Obj}
    (lk : K.lookup f = some ⟨oc, od, .func (PySem.W.fnOf name qual params body scope dV kV doc pm an cdv ct), osl⟩) (hcd : PySem.W.codeIn K cdv qual = true) (S : FnScope N ps scope)
    (len : ∀ vs H Q E, sp vs H Q E → vs.length = ps.length)
    (hbody : ∀ (A : Around) (outer : List Env) (s : Shared) (H : Hp) (vs : List V) (Q : VK) (E : XK), Hot1 A p → RoomH k (A.deeper (envOfC qual scope s.heap.objs.size f cdv)) → sp vs H Q E →
      ∃ t, PSs (cxH CX0 P w K mg base N qual scope f cdv A outer s H E p) body t ∧ t { nx := fun _ H' => Q .non H', rt := Q } (L2.start N vs) H) :
    FnE P w K mg base (k + 1) f (PySem.W.fnOf name qual params body scope dV kV doc pm an cdv ct) ps p sp where
  len := len
  run := fun A outer s H args us vs Q E hr hot hpin e0 hb r hsp => by
    have KX : K.In s.heap := e0.mod.kin.keeps fun b o e => (e0.bs b o e).1
    have lim : s.heap.NoLimit := e0.mod.nolimit.keeps fun b o e => (e0.bs b o e).1
    have loc : ∀ y ∈ ps.zip us, scope.names.lookup y.1 = some .local ∨ (scope.names.lookup y.1 = some .cell ∧ ((cellsFrom (s.heap.objs.size + 1) scope.names []).lookup y.1).isSome = true) := fun y hy =>
      (S.par y.1 (List.of_mem_zip hy).1).imp id fun q => ⟨q, PySem.W.cellsFrom_some _ _ _ (.inl q)⟩
    refine codeAny_call_function hr.depth (KX _ _ lk) rfl S.co S.gen rfl (PySem.W.codeRec_of KX hcd) (hb _ _ _ _ ?_)
    refine wpAny_newFunctionEnv_cells S.kind loc fun env he s1 x => ?_
    subst he
    refine ⟨lim.keeps x.toInCall.keep, codeAny_func ?_⟩
    obtain ⟨t, ht, hq⟩ := hbody A outer s H vs Q E hot (hr.deeper _) hsp
    refine wpAny_mono (ht.run [] s1 (L2.start N vs) H _ (inv_startH S hpin e0 (len _ _ _ _ hsp) r x) hq) (fun fl s' hs => ?_) fun e s' hs => hs
    have out : ∀ {σ' : L2.St} {H' : Hp} {v : V} {u : Value}, Inv (cxH CX0 P w K mg base N qual scope f cdv A outer s H E p) [] σ' H' s' → RelV v u → Q v H' → L2.CE outer P w H s Q u s' :=
      fun {σ' H' v u} J rv q => ⟨v, H', J.os, J.bare, J.base, J.hok, rv, q⟩
    cases fl with
    | ret u => obtain ⟨v, σ', H', J, rv, q⟩ := hs; exact out J rv q
    | next => obtain ⟨σ', H', J, q⟩ := hs; exact out (v := V.non) (u := Value.none) J rfl q
    | brk => obtain ⟨_, _, _, q⟩ := hs; exact q.elim
    | cont => obtain ⟨_, _, _, q⟩ := hs; exact q.elim
end
section
variable {X : Cx} {k : Nat} {f : Addr} {fd : FuncData} {ps : List Str} {sp : Sp} {x : Str} {q pos : Pos} {e : Expr} {es : List Expr} {t : TA} {p : Addr × Obj}
/-- f(e, ..) within the suite that handles p -/
theorem pe_callE (F : FnE X.prog X.w X.K X.mg X.base k f fd ps p sp) (hr : RoomH k X.A) (hot : Hot1 X.A p) (hp : p ∈ X.pn) (hg : Gl X x) (hm : X.mg x = some (.ref f)) (hk : PySem.W.keepIn X.K (.ref f) = true) (hb : L2.Binds X.K fd ps [])
    (ha : PA X (e :: es) t) (hdb : (x == ("__debug__" : Str)) = false := by decide) (he : starEach (e :: es) X.env = (false, eval e X.env) :: starEach es X.env := by rfl) (hpl : (backTo pos (starEach es X.env)).any (·.1) = false := by rfl) :
    PE X (.Call (.Name x q) (e :: es) [] pos) (fun σ H Q => t σ H fun vs H1 => sp vs H1 Q fun _ _ _ => False) := by
  refine ⟨fun pins s σ H Q I h => ?_⟩
  refine wpAny_Call_Name_kw (ld_glob I hg hm ?_ hdb)
  refine PySem.W.callWith_K (h₀ := X.base) I.ok.mod.kin hk (thn (ha.run pos pins s σ H _ I h) fun us s1 ⟨vs, H1, J, r, hsp⟩ => ⟨J.kIn, ?_⟩) he hpl
  have b := hb s1 us J.kIn (by rw [List.append_nil, ← r.length]; exact F.len _ _ _ _ hsp)
  rw [List.append_nil] at b
  have P1 := J.pin p (List.mem_append_left _ hp)
  have hpin : PinOk X.stack H1 s1 p := ⟨P1.1, P1.2.1, fun hm => (List.mem_cons.mp (J.stkSub p.1 hm)).elim P1.2.2.1 P1.2.2.2.1, P1.2.2.2.2⟩
  refine wpAny_call (codeAny_mono (F.run X.A X.stack s1 H1 ⟨us, []⟩ us vs Q _ hr hot hpin J.env0 b r hsp) fun r s' hq => ?_)
  cases r with
  | error e => exact hq.elim
  | ok fl =>
    cases fl with
    | ret u => exact J.after hq
    | next => exact hq.elim
    | brk => exact hq.elim
    | cont => exact hq.elim
/-- isinstance(e, c), e an exception whose object is pinned -/
theorem call_isP {a D : Addr} {oe : Obj} (C : ExcC X.K D) (hz : Zc (.ref D) none oe) (hf : ∃ vs, oe.data = .fields vs) (hp : (a, oe) ∈ X.pn) : CallR X (.builtin "isinstance") (rIsE X.K D a) := by
  intro pins s σ H xs us Q I r h
  obtain ⟨c, cv, b, rfl, hcv, e, q⟩ := h
  cases r with
  | cons rx rr =>
    cases rr with
    | cons rt rr =>
      cases rr
      cases rx
      have ec := hcv _ rt
      subst ec
      have hget := (I.pin (a, oe) (List.mem_append_left _ hp)).1
      obtain ⟨vs, hv⟩ := hf
      have J : PySem.W.InstAt s.heap a oe D none := by
        obtain ⟨oc, od, oda, osl⟩ := oe
        obtain ⟨h1, h2⟩ := hz
        dsimp only at h1 h2 hv
        subst h1 h2 hv
        exact ⟨hget, rfl, rfl, trivial⟩
      exact PySem.W.kia_one (PySem.W.handS_kitx_exc C.hg C.hk C.hs C.hd C.ha C.hn C.ht C.hm) I.kIn J e (fun z => nomatch z) fun tk => ⟨.bl b, H, I.kept (t' := tk) fun _ _ z => z, rfl, q⟩
end
end VL
set_option Elab.async false
set_option linter.all false
set_option maxRecDepth 100000
set_option maxHeartbeats 2000000
/-! VL41: a list's iterator at its end while an exception is handled; tuple targets there. -/
namespace VL
open PySem PySem.Spec PyProof.Rows HotX
section
variable {prog : Program} {w : World} {A : Around} {E : Value → Shared → Prop} {s : Shared}
theorem next_end_hot {it l x1 : Addr} {i : Nat} {items : Array Value} {Q : Option Value → Shared → Prop} (hot : HotAt A x1 s.heap) (hne : x1 ≠ it)
    (hit : s.heap.IsListIter it l i) (hl : s.heap.IsList l items) (hx : items[i]? = none)
    (hQ : ∀ h', Heap.ExtBut it s.heap h' → Q none { s with heap := h' }) : wpAny (model prog w) A (pyNext (.ref it)) Q E s := by
  obtain ⟨o, ho, hc, hd⟩ := id hit
  obtain ⟨ol, hol, _, nl, hdl⟩ := hl
  obtain ⟨hh, o1, vs1, h1, d1, c1⟩ := hot
  unfold pyNext
  refine wpAny_bind (wpAny_attempt (wpAny_callSpecial?_slot (name := Str.ofString "__next__") hit.typeIs slot_listiter_next
    (wpAny_call_entry slot_listiter_next hit.typeIs entry_listiter_next ?_ (args_listiter_next _))))
  show wpAny _ _ (field (.ref it) 0 >>= _) _ _ s
  refine wpAny_bind (wpAny_field ho hd (x := .ref l) rfl ?_)
  show wpAny _ _ (if (Value.ref l == Value.none) = true then _ else _) _ _ s
  rw [if_neg (show ¬ ((Value.ref l == Value.none) = true) from Bool.false_ne_true)]
  show wpAny _ _ (field (.ref it) 1 >>= _) _ _ s
  refine wpAny_bind (wpAny_field ho hd (x := .int i 0) rfl ?_)
  show wpAny _ _ (seqItems? (.ref l) >>= _) _ _ s
  refine wpAny_bind (wpAny_seqItems hol hdl ?_)
  simp only [Int.toNat_natCast, hx]
  refine wpAny_bind (wpAny_rule (wpAny_bind (wpAny_setField ho hd (by simp) ?_)))
  show wpAny _ _ (newExc (.type "StopIteration") [] >>= _) _ _ _
  refine wpAny_bind ?_
  simp only [newExc, newTuple]
  refine wpAny_bind (wpAny_newObj_type ?_ (by size_fits))
  refine wpAny_bind (m := firstArgMember _ _) (wpAny_of_eq (a := Value.none) (by first | rfl | (simp only [firstArgMember]; rfl)) ?_)
  refine wpAny_newObj_type ?_ (by size_fits)
  have h1' := (Heap.get?_update_other s.heap (Obj.mapFields (·.setIfInBounds 0 .none)) (Ne.symm hne)).trans h1
  refine raiseNew_hot ⟨hh, o1, vs1, Heap.get?_push_of_some _ (Heap.get?_push_of_some _ h1'), d1, c1⟩ (Nat.ne_of_lt (Heap.lt_size (Heap.get?_push_of_some _ h1'))) (Heap.get?_push_size _ rfl) rfl (by first | (simp; done) | (simp; omega)) ?_
  refine wpAny_bind (wpAny_isInstance (T := "StopIteration") (b := true) ⟨_, Heap.get?_update_self _ (Heap.get?_push_size _ rfl) rfl, rfl⟩ isSubtype_stop ?_)
  refine wpAny_pure (hQ _ ?_)
  intro b o hb e
  have e1 := (Heap.get?_update_other s.heap (Obj.mapFields (·.setIfInBounds 0 .none)) (Ne.symm hb)).trans e
  rw [Heap.get?_update_other _ _ (Nat.ne_of_gt (Heap.lt_size (Heap.get?_push_of_some _ e1)))]
  exact Heap.get?_push_of_some _ (Heap.get?_push_of_some _ e1)
theorem next_tuple_end_hot {it t x1 : Addr} {i : Nat} {items : Array Value} {Q : Option Value → Shared → Prop} (hot : HotAt A x1 s.heap) (hne : x1 ≠ it)
    (hit : IsTupIter s.heap it t i) (ht : IsTup s.heap t items) (hx : items[i]? = none)
    (hQ : ∀ h', Heap.ExtBut it s.heap h' → Q none { s with heap := h' }) : wpAny (model prog w) A (pyNext (.ref it)) Q E s := by
  obtain ⟨o, ho, hc, hd⟩ := id hit
  obtain ⟨ol, hol, _, nl, hdl⟩ := ht
  obtain ⟨hh, o1, vs1, h1, d1, c1⟩ := hot
  unfold pyNext
  refine wpAny_bind (wpAny_attempt (wpAny_callSpecial?_slot (name := Str.ofString "__next__") hit.typeIs slot_tupleiter_next
    (wpAny_call_entry slot_tupleiter_next hit.typeIs entry_tupleiter_next ?_ (args_tupleiter_next _))))
  show wpAny _ _ (field (.ref it) 0 >>= _) _ _ s
  refine wpAny_bind (wpAny_field ho hd (x := .ref t) rfl ?_)
  show wpAny _ _ (if (Value.ref t == Value.none) = true then _ else _) _ _ s
  rw [if_neg (show ¬ ((Value.ref t == Value.none) = true) from Bool.false_ne_true)]
  show wpAny _ _ (field (.ref it) 1 >>= _) _ _ s
  refine wpAny_bind (wpAny_field ho hd (x := .int i 0) rfl ?_)
  show wpAny _ _ (seqItems? (.ref t) >>= _) _ _ s
  refine wpAny_bind (wpAny_seqItems hol hdl ?_)
  simp only [Int.toNat_natCast, hx]
  refine wpAny_bind (wpAny_rule (wpAny_bind (wpAny_setField ho hd (by simp) ?_)))
  show wpAny _ _ (newExc (.type "StopIteration") [] >>= _) _ _ _
  refine wpAny_bind ?_
  simp only [newExc, newTuple]
  refine wpAny_bind (wpAny_newObj_type ?_ (by size_fits))
  refine wpAny_bind (m := firstArgMember _ _) (wpAny_of_eq (a := Value.none) (by first | rfl | (simp only [firstArgMember]; rfl)) ?_)
  refine wpAny_newObj_type ?_ (by size_fits)
  have h1' := (Heap.get?_update_other s.heap (Obj.mapFields (·.setIfInBounds 0 .none)) (Ne.symm hne)).trans h1
  refine raiseNew_hot ⟨hh, o1, vs1, Heap.get?_push_of_some _ (Heap.get?_push_of_some _ h1'), d1, c1⟩ (Nat.ne_of_lt (Heap.lt_size (Heap.get?_push_of_some _ h1'))) (Heap.get?_push_size _ rfl) rfl (by first | (simp; done) | (simp; omega)) ?_
  refine wpAny_bind (wpAny_isInstance (T := "StopIteration") (b := true) ⟨_, Heap.get?_update_self _ (Heap.get?_push_size _ rfl) rfl, rfl⟩ isSubtype_stop ?_)
  refine wpAny_pure (hQ _ ?_)
  intro b o hb e
  have e1 := (Heap.get?_update_other s.heap (Obj.mapFields (·.setIfInBounds 0 .none)) (Ne.symm hb)).trans e
  rw [Heap.get?_update_other _ _ (Nat.ne_of_gt (Heap.lt_size (Heap.get?_push_of_some _ e1)))]
  exact Heap.get?_push_of_some _ (Heap.get?_push_of_some _ e1)
theorem HotAt.upto {x1 : Addr} {h h' : Heap} (hot : HotAt A x1 h) (k : ∀ o, h.get? x1 = some o → h'.get? x1 = some o) : HotAt A x1 h' := by
  obtain ⟨hh, o1, vs1, h1, d1, c1⟩ := hot
  exact ⟨hh, o1, vs1, k _ h1, d1, c1⟩
theorem unpackItems_tuple_hot {t x1 : Addr} {items : Array Value} {Q : List Value → Shared → Prop} (hot : HotAt A x1 s.heap) (ht : IsTup s.heap t items)
    (hQ : ∀ h', Heap.ExtBut s.heap.objs.size s.heap h' → Q items.toList { s with heap := h' }) : wpAny (model prog w) A (unpackItems (.ref t) items.size none) Q E s := by
  have hlt : t ≠ s.heap.objs.size := by obtain ⟨o, ho, _⟩ := ht; exact Nat.ne_of_lt (Heap.lt_size ho)
  have hx1 : x1 ≠ s.heap.objs.size := by obtain ⟨_, o, _, ho, _⟩ := id hot; exact Nat.ne_of_lt (Heap.lt_size ho)
  unfold unpackItems
  refine wpAny_bind ?_
  · unfold notIterableAtAll
    refine wpAny_bind (wpAny_specialOf ht.typeIs slot_tuple_iter.lookup ?_)
    refine wpAny_pure ?_
    simp only [Bool.false_eq_true, if_false]
    refine wpAny_bind (wpAny_holding (iter_tuple ht ?_))
    refine wpAny_bind (wpAny_holding (draw_tuple hlt items.size 0 _ _ ⟨_, Heap.get?_push_size _ rfl, rfl, rfl⟩ (ht.push _) (by omega) fun h₁ hit₁ hs₁ => ?_))
    have hall : List.take items.size (List.drop 0 items.toList) = items.toList := by
      rw [List.drop_zero]; exact List.take_of_length_le (by simp)
    rw [hall]
    rw [if_neg (by simp)]
    have ht₁ : IsTup h₁ t items := (ht.push _).extBut hs₁.extBut hlt
    have hot₁ : HotAt A x1 h₁ := HotAt.upto hot fun o e => hs₁.extBut x1 o hx1 (Heap.get?_push_of_some _ e)
    refine wpAny_bind (wpAny_holding (next_tuple_end_hot hot₁ hx1 hit₁ ht₁ (by simp) fun h₂ he₂ => ?_))
    simp only [Option.isSome_none, Bool.false_eq_true, if_false]
    refine wpAny_pure (hQ h₂ fun b o hb e => he₂ b o hb (hs₁.extBut b o hb (Heap.get?_push_of_some _ e)))
theorem unpack_tuple_hot {t x1 : Addr} {items : Array Value} {targets : List (Bool × (Value → Sem Unit))} {Q : Unit → Shared → Prop} (hot : HotAt A x1 s.heap) (ht : IsTup s.heap t items)
    (hn : targets.length = items.size) (hstar : targets.findIdx? (·.1) = none)
    (h : ∀ h', Heap.ExtBut s.heap.objs.size s.heap h' → wpAny (model prog w) A (assignInOrder (targets.map (·.2)) items.toList) Q E { s with heap := h' }) :
    wpAny (model prog w) A (unpack (.ref t) targets) Q E s := by
  unfold unpack
  rw [hn, hstar]
  exact wpAny_bind (wpAny_holding (unpackItems_tuple_hot hot ht h))
theorem assign_Tuple_tuple_hot {env : Env} {elts : List Expr} {x1} {pos : Pos} {t y1 : Addr} {items : Array Value} {Q : Unit → Shared → Prop} (hot : HotAt A y1 s.heap) (ht : IsTup s.heap t items)
    (hn : (assignEach elts env).length = items.size) (hstar : (assignEach elts env).findIdx? (·.1) = none)
    (h : ∀ h', Heap.ExtBut s.heap.objs.size s.heap h' → wpAny (model prog w) A (assignInOrder ((assignEach elts env).map (·.2)) items.toList) Q E { s with heap := h' }) :
    wpAny (model prog w) A (assign (.Tuple elts x1 pos) env (.ref t)) Q E s := by
  rw [assign_Tuple]
  exact wpAny_bind (wpAny_standAt (unpack_tuple_hot hot ht hn hstar h))
end
section
open L2 L2H
/-- a target, p's object being the handled exception -/
structure PGp (X : Cx) (p : Addr × Obj) (target : Expr) (t : TG) : Prop where
  run : ∀ (pins : List (Addr × Obj)) (s : Shared) (σ : L2.St) (H : Hp) (v : V) (u : Value) (Q : L2.St → Hp → Prop), p ∈ X.pn ++ pins → Inv X pins σ H s → RelV v u → t v σ H Q →
    wpAny (model X.prog X.w) X.A (assign target X.env u) (fun _ s' => ∃ σ' H', Inv X pins σ' H' s' ∧ Q σ' H') X.xe s
variable {X : Cx} {p : Addr × Obj} {pos : Pos}
theorem pgp_of {e : Expr} {t : TG} (h : PG X e t) : PGp X p e t := ⟨fun pins s σ H v u Q _ => h.run pins s σ H v u Q⟩
theorem pgp_imp {e : Expr} {t t' : TG} (h : PGp X p e t) (i : ∀ v σ H Q, t' v σ H Q → t v σ H Q) : PGp X p e t' := ⟨fun pins s σ H v u Q hp I r q => h.run pins s σ H v u Q hp I r (i v σ H Q q)⟩
theorem pgp_tup {es : List Expr} {k : Nat} {t : TGs} {n : Nat} (hot : Hot1 X.A p) (h : PGs X es t)
    (hn : (assignEach es X.env).length = n := by rfl) (hst : (assignEach es X.env).findIdx? (·.1) = none := by rfl) : PGp X p (.Tuple es k pos) (gTup X.K n t) := by
  refine ⟨fun pins s σ H v u Q hp I r hw => ?_⟩
  obtain ⟨a, xs, e1, hq, hl, hw⟩ := hw
  subst e1
  cases r
  obtain ⟨its, rv, ht, hz⟩ := I.tuple hq
  obtain ⟨hh, vs1, e1, c1⟩ := hot
  refine assign_Tuple_tuple_hot (y1 := p.1) ⟨hh, p.2, vs1, (I.pin p hp).1, e1, c1⟩ ht (by simp [hn, ← hl, rv.length]) hst fun h' hx => ?_
  have I1 : Inv X pins σ H { s with heap := h' } := I.kept (t' := s.toks) fun b o e => hx b o (Nat.ne_of_lt (Heap.lt_size e)) e
  exact h.run pins _ σ H xs _ Q I1 (by simpa using rv) hw
end
end VL
set_option Elab.async false
set_option linter.all false
set_option maxRecDepth 100000
set_option maxHeartbeats 2000000
/-! VL42: a list comprehension over a list while an exception is handled. -/
namespace VL
open PySem PySem.Spec PyProof.Rows L2 RZ L2H HotX
section
variable {X : Cx}
def iLstH (K : PySem.W.Frag) (te : TE) : TI := fun σ H R => te σ H fun x H1 => ∃ a xs, x = .ref a ∧ SqL K H1 a xs ∧ R (Itl K a) H1
theorem lc_coreH {pins : List (Addr × Obj)} {s : Shared} {σ : L2.St} {H : Hp} {Q : VK} {elt tg iter : Expr} {ifs : List Expr} {scope : Scope} {own : List (Str × Nat)} {pos pos' : Pos} {ti : TE} {g : TG} {tt : TT} {te : TE} {p : Addr × Obj} {use : Option (Value → Sem Unit)} {Qf : Value → Shared → Prop} (hot : Hot1 X.A p) (hpn : p ∈ X.pn) (hN : X.N.Nodup) (I : Inv X pins σ H s) (hi : PE X iter ti) (ok : BlkOk X.N X.env.scope scope own)
    (hg : ∀ (s : Shared) (H : Hp) (C : Addr) (cl : List (Str × Addr)) (fp : List Addr), PGp (X.blk s H scope (compEnvC scope cl C X.env) fp) p tg g) (ht : ∀ (s : Shared) (H : Hp) (C : Addr) (cl : List (Str × Addr)) (fp : List Addr), PTs (X.blk s H scope (compEnvC scope cl C X.env) fp) ifs tt)
    (he : ∀ (s : Shared) (H : Hp) (C : Addr) (cl : List (Str × Addr)) (fp : List Addr), PE (X.blk s H scope (compEnvC scope cl C X.env) fp) elt te) (hs : ∀ x, foldedSetIterable iter X.env x = pure x)
    (h : tLc (iLstH X.K ti) g tt te (own.map (·.2)) σ H Q)
    (hRR : ∀ D C s' m H', Inv X pins σ H' s' → Q (.ref D) H' → s'.heap.Ns C m → FpOk X pins H' C → compPost (model X.prog X.w) X.A X.xe use Qf (.ref D) C (.ok .next) s') :
    wpAny (model X.prog X.w) X.A (comprehension (.ListComp elt [⟨tg, iter, ifs, 0⟩] scope pos) scope X.env pos' (newList []) false (eval iter X.env) use) Qf X.xe s := by
  have hfree : ∀ y ∈ scope.names, y.2 = .free → ∃ c, X.env.cells.lookup y.1 = some c := fun y hy e => (ok.free y hy e).elim (fun k => I.ok.has _ (.inl k)) fun k => I.ok.has _ (.inr k)
  refine wpAny_comprehension_free (use := use) rfl hs (closure_ok hfree) ok.kind (fun y hy e => by rw [ok.uniq y hy, e])
    (thn (hi.run pins s σ H _ I h) fun xv s1 ⟨x, H1, I1, r1, a, xs, ex, hq, q⟩ => ?_)
  subst ex
  cases r1
  obtain ⟨its, rv, pl, hz⟩ := I1.list hq
  refine wpAny_pyIter_list pl.isList ?_
  generalize hit : s1.heap.objs.size = it
  generalize hs2 : ({ s1 with heap := s1.heap.push { cls := .type "list_iterator", data := .fields #[.ref a, .int 0 0] } } : Shared) = s2
  have h2 : s2.heap = s1.heap.push { cls := .type "list_iterator", data := .fields #[.ref a, .int 0 0] } := by rw [← hs2]
  have I2 : Inv X pins σ H1 s2 := by rw [← hs2]; exact I1.kept (t' := s1.toks) fun b o e => Heap.get?_push_of_some _ e
  have st2 : s2.heap.IsListIter it a 0 := by rw [h2, ← hit]; exact ⟨_, Heap.get?_push_size _ rfl, rfl, rfl⟩
  have f2 : FpOk X pins H1 it := I1.fpOk (Nat.le_of_eq hit) (I1.hok.fresh (Nat.le_of_eq hit))
  have P1 := I1.pin p (List.mem_append_left _ hpn)
  have npi : p.1 ≠ it := by rw [← hit]; exact Nat.ne_of_lt (Heap.lt_size P1.1)
  refine wpAny_newObj_type (newEnv_comp ?_) (by show 0 ≤ sizeLine; decide)
  generalize hD : s2.heap.objs.size = D
  have hDn : H1 D = none := I2.hok.fresh (Nat.le_of_eq hD)
  obtain ⟨W, ⟨m0, w0⟩, turn⟩ := q D hDn
  generalize hs3 : ({ s2 with heap := s2.heap.push { cls := .type "list", data := .seq ([] : List Value).toArray } } : Shared) = s3
  have h3 : s3.heap = s2.heap.push { cls := .type "list", data := .seq ([] : List Value).toArray } := by rw [← hs3]
  have I3 : Inv X pins σ (upd H1 D (.lst [])) s3 := by
    rw [← hs3]
    exact I2.laid (t' := s2.toks) (fun b o e => Heap.get?_push_of_some _ e) (Nat.le_of_eq hD) ⟨Nat.zero_le _, [], 0, .nil, by rw [← hD]; exact Heap.get?_push_size _ rfl⟩
  have itlt : it < s2.heap.objs.size := by
    obtain ⟨o, e, _⟩ := st2
    exact Heap.lt_size e
  have itD : it ≠ D := by rw [← hD]; exact Nat.ne_of_lt itlt
  have f3 : ∀ b ∈ [it], FpOk X pins (upd H1 D (.lst [])) b ∧ b < s3.heap.objs.size := fun b hb => by
    obtain rfl : b = it := by simpa using hb
    exact ⟨⟨by rw [upd_ne itD]; exact f2.1, f2.2⟩, by rw [h3, Heap.size_push]; exact Nat.lt_succ_of_lt itlt⟩
  have st3 : s3.heap.IsListIter it a 0 := st2.at fun o e => by rw [h3]; exact Heap.get?_push_of_some _ e
  have I4 := block_start I3 ok hN f3
  have pg := hg s3 (upd H1 D (.lst [])) s3.heap.objs.size (cellsFrom (s3.heap.objs.size + 1) scope.names (cloFrom X.env.cells scope.names [])) [it]
  have pt := ht s3 (upd H1 D (.lst [])) s3.heap.objs.size (cellsFrom (s3.heap.objs.size + 1) scope.names (cloFrom X.env.cells scope.names [])) [it]
  have pe := he s3 (upd H1 D (.lst [])) s3.heap.objs.size (cellsFrom (s3.heap.objs.size + 1) scope.names (cloFrom X.env.cells scope.names [])) [it]
  have hpin3 := I3.pin p (List.mem_append_left _ hpn)
  show codeAny _ _ (.compStart (.ListComp elt [⟨tg, iter, ifs, 0⟩] scope pos) 0 (.ref it) (.ref D) (compEnvC scope (cellsFrom (s3.heap.objs.size + 1) scope.names (cloFrom X.env.cells scope.names [])) s3.heap.objs.size X.env)) (compPost (model X.prog X.w) X.A X.xe use _ (.ref D) s3.heap.objs.size) { s3 with heap := pushCells (s3.heap.push { cls := .type "dict", data := .dict #[] }) scope.names }
  generalize hce : compEnvC scope (cellsFrom (s3.heap.objs.size + 1) scope.names (cloFrom X.env.cells scope.names [])) s3.heap.objs.size X.env = ce at I4 pg pt pe ⊢
  have cL : ce.locals = s3.heap.objs.size := by subst hce; rfl
  have nfp : (upd H1 D (.lst [])) it = none := (f3 it (by simp)).1.1
  generalize hH3 : upd H1 D (.lst []) = H3 at I3 I4 pg pt pe w0 nfp f3 hpin3
  generalize hs4 : ({ s3 with heap := pushCells (s3.heap.push { cls := .type "dict", data := .dict #[] }) scope.names } : Shared) = s4 at I4 ⊢
  have kp4 : ∀ b o, s3.heap.get? b = some o → s4.heap.get? b = some o := fun b o e => by rw [← hs4]; exact pushCells_keeps _ _ _ _ (Heap.get?_push_of_some _ e)
  have st4 : s4.heap.IsListIter it a 0 := st3.at fun o e => kp4 _ _ e
  have I4p : Inv (X.blk s3 H3 scope ce [it]) [p] (wipe σ (own.map (·.2))) H3 s4 := I4.pins_of fun q hq => by
    obtain rfl : q = p := by simpa using hq
    obtain ⟨g1, g2, g3, g4, g5⟩ := hpin3
    refine ⟨kp4 _ _ g1, g2, ?_, fun hm => (List.mem_cons.mp (I3.stkSub q.1 hm)).elim g3 g4, g5⟩
    show q.1 ≠ ce.locals
    rw [cL]
    exact Nat.ne_of_lt (Heap.lt_size g1)
  have stat : ∀ {σ' : L2.St} {H' : Hp} {s' : Shared}, Inv (X.blk s3 H3 scope ce [it]) [p] σ' H' s' → H' it = none → FpOk (X.blk s3 H3 scope ce [it]) [p] H' it := fun {σ' H' s'} I' hn =>
    ⟨hn, (I'.ok.exf it (by simp)).1, I'.ok.exfs it (by simp), .inl (by simp), fun x c e => (I'.ok.exf it (by simp)).2 x c e, fun q hq => by
      have hq : q ∈ ([] : List (Addr × Obj)) ++ [p] := hq
      obtain rfl : q = p := by simpa using hq
      exact npi⟩
  have T := turn_list (P := X.prog) (w := X.w) (K := X.K) (tg := tg) a it
  have loop : codeAny (model X.prog X.w) X.A (.compLoop (.ListComp elt [⟨tg, iter, ifs, 0⟩] scope pos) 0 (.ref it) (.ref D) ce) (compPost (model X.prog X.w) X.A X.xe use Qf (.ref D) s3.heap.objs.size) s4 := by
    refine compLoop_any (fun n s' => ∃ i H', Inv (X.blk s3 H3 scope ce [it]) [p] (wipe σ (own.map (·.2))) H' s' ∧ s'.heap.IsListIter it a i ∧ H' it = none ∧ W i n H') ?_ m0 ⟨0, H3, I4p, st4, nfp, w0⟩
    rintro n s5 ⟨i, H5, I5, st5, n5, w5⟩
    obtain ⟨t0, t1, t2, t3, t4, t5⟩ := stat I5 n5
    rcases turn i n H5 w5 with ⟨⟨ys, hq5, hx⟩, qq⟩ | ⟨⟨ys, y, hq5, hx⟩, Nx, hNx, step⟩
    · obtain ⟨us, ru, pu, _⟩ := I5.list hq5
      have hl := ru.length
      have hp5 := I5.pin p (List.mem_append_right _ (by simp))
      obtain ⟨hh, vs1, e1, c1⟩ := hot
      refine next_end_hot ⟨hh, p.2, vs1, hp5.1, e1, c1⟩ npi st5 pu.isList (by simp; omega) fun h' eb => ?_
      have I6 : Inv (X.blk s3 H3 scope ce [it]) [p] (wipe σ (own.map (·.2))) H5 { s5 with heap := h' } := I5.turned (t' := s5.toks) (fun b o hb e => eb b o hb e) t0 t1 t3 t4 t5
      have I7 : Inv X pins σ H5 { s5 with heap := h' } := I3.call' (ch := [it]) I6.os I6.base I6.hok I6.bare fun b hb => ⟨(f3 b hb).1.2.2.2.1, (f3 b hb).1.2.1, (f3 b hb).1.2.2.2.2.1, (f3 b hb).1.2.2.2.2.2⟩
      have nC : H5 s3.heap.objs.size = none := by
        have z : H5 ce.locals = none := I6.free
        rw [cL] at z
        exact z
      obtain ⟨m, hn, _⟩ := I6.loc
      have hn : h'.Ns ce.locals m := hn
      rw [cL] at hn
      exact hRR D s3.heap.objs.size { s5 with heap := h' } m H5 I7 qq hn (I3.fpOk (H' := H5) (Nat.le_refl _) nC)
    · obtain ⟨us, ru, pu, _⟩ := I5.list hq5
      obtain ⟨u, hu, ryu⟩ := ru.get hx
      refine wpAny_pyNext_list_item st5 pu.isList (x := u) (by simpa using hu) fun h' st' sb => ?_
      have I6 : Inv (X.blk s3 H3 scope ce [it]) [p] (wipe σ (own.map (·.2))) H5 { s5 with heap := h' } := I5.turned (t' := s5.toks) (fun b o hb e => (sb.2 b hb).trans e) t0 t1 t3 t4 t5
      obtain ⟨oi, e1, e2, e3⟩ := id st'
      refine go_of (s := { s5 with heap := h' }) e1 e2 e3 (by decide) ?_
      have I6' := I6.pinned (fp := [it]) (fun b hb => by obtain rfl : b = it := by simpa using hb
                                                         exact stat I6 n5) (T.obj _ _ st')
      have y7 : (Itl X.K a).yld i H5 y H5 := ⟨rfl, fun zs hz => by rw [I6.list_inj hz hq5]; exact hx⟩
      refine thnF (pg.run _ _ _ H5 y u _ (List.mem_append_right _ (List.mem_append_left _ List.mem_cons_self)) I6' ryu (step y H5 y7)) fun _ s8 ⟨σ8, H8, I8, hw8, q8⟩ => ?_
      refine thnF (pt.run _ s8 σ8 H8 _ I8 q8) fun b s9 ⟨H9, I9, q9⟩ => ?_
      have fin : ∀ {s' : Shared} {H' : Hp}, Inv (X.blk s3 H3 scope ce [it]) ([p] ++ pinsAt [it] h') σ8 H' s' → Nx H' → ∃ m, m < n ∧ ∃ i H', Inv (X.blk s3 H3 scope ce [it]) [p] (wipe σ (own.map (·.2))) H' s' ∧ s'.heap.IsListIter it a i ∧ H' it = none ∧ W i m H' := fun {s' H'} I' nx => by
        obtain ⟨m', hm, w'⟩ := hNx H' nx
        have z := I'.pin (it, oi) (List.mem_append_right _ (List.mem_append_right _ (mem_pinsAt (by simp) e1)))
        have hl : (wipe σ (own.map (·.2))).length = σ8.length := by rw [← hw8, wipe_length]
        refine ⟨m', hm, i + 1, H', (I'.unpinned (pins := [p])).weak hl (fun j v e => ?_), ⟨oi, z.1, e2, e3⟩, z.2.1, w'⟩
        rw [← hw8] at e
        exact (wipe_some e).1
      cases b with
      | false =>
        simp only [Bool.false_eq_true, if_false] at q9 ⊢
        exact fin I9 q9
      | true =>
        simp only [if_true] at q9 ⊢
        refine thnF (pe.run _ s9 σ8 H9 _ I9 q9) fun z s10 ⟨yv, H10, I10, r10, acc, hD10, hz10, nx⟩ => ?_
        exact app_ok (X := X.blk s3 H3 scope ce [it]) I10 hD10 hz10 r10 fun s11 I11 => fin I11 nx
  exact codeAny_compStart_list loop (T.self X.A 0 _ _ _ st4 loop)
/-- as a value -/
theorem pe_lcH {elt tg iter : Expr} {ifs : List Expr} {scope : Scope} {own : List (Str × Nat)} {pos : Pos} {ti : TE} {g : TG} {tt : TT} {te : TE} {p : Addr × Obj} (hot : Hot1 X.A p) (hpn : p ∈ X.pn) (hN : X.N.Nodup) (hi : PE X iter ti) (ok : BlkOk X.N X.env.scope scope own)
    (hg : ∀ (s : Shared) (H : Hp) (C : Addr) (cl : List (Str × Addr)) (fp : List Addr), PGp (X.blk s H scope (compEnvC scope cl C X.env) fp) p tg g) (ht : ∀ (s : Shared) (H : Hp) (C : Addr) (cl : List (Str × Addr)) (fp : List Addr), PTs (X.blk s H scope (compEnvC scope cl C X.env) fp) ifs tt)
    (he : ∀ (s : Shared) (H : Hp) (C : Addr) (cl : List (Str × Addr)) (fp : List Addr), PE (X.blk s H scope (compEnvC scope cl C X.env) fp) elt te) (hs : ∀ x, foldedSetIterable iter X.env x = pure x := by intro _; rfl) :
    PE X (.ListComp elt [⟨tg, iter, ifs, 0⟩] scope pos) (tLc (iLstH X.K ti) g tt te (own.map (·.2))) := by
  refine ⟨fun pins s σ H Q I h => ?_⟩
  rw [eval_ListComp]
  refine lc_coreH hot hpn hN I hi ok hg ht he hs h fun D C s' m H' I' q hn f => ⟨m, hn, fun h'' sb => ?_⟩
  obtain ⟨f0, f1, f2, f3, f4, f5⟩ := f
  exact ⟨.ref D, H', I'.turned (t' := s'.toks) (fun b o hb e => (sb.2 b hb).trans e) f0 f1 f3 f4 f5, rfl, q⟩
/-- name = [..] on one line, the name a local -/
theorem ps_setLcH {i : Nat} {y : Str} {py : Pos} {elt tg iter : Expr} {ifs : List Expr} {scope : Scope} {own : List (Str × Nat)} {pos spos : Pos} {ti : TE} {g : TG} {tt : TT} {te : TE} {p : Addr × Obj} (hot : Hot1 X.A p) (hpn : p ∈ X.pn) (hN : X.N.Nodup) (hy : X.N[i]? = some y) (hyl : X.env.scope.names.lookup y = some .local)
    (hsw : swapsWith (.ListComp elt [⟨tg, iter, ifs, 0⟩] scope pos) (some (.Name y py)) spos.line X.env = pure true) (hi : PE X iter ti) (ok : BlkOk X.N X.env.scope scope own)
    (hg : ∀ (s : Shared) (H : Hp) (C : Addr) (cl : List (Str × Addr)) (fp : List Addr), PGp (X.blk s H scope (compEnvC scope cl C X.env) fp) p tg g) (ht : ∀ (s : Shared) (H : Hp) (C : Addr) (cl : List (Str × Addr)) (fp : List Addr), PTs (X.blk s H scope (compEnvC scope cl C X.env) fp) ifs tt)
    (he : ∀ (s : Shared) (H : Hp) (C : Addr) (cl : List (Str × Addr)) (fp : List Addr), PE (X.blk s H scope (compEnvC scope cl C X.env) fp) elt te) (hs : ∀ x, foldedSetIterable iter X.env x = pure x := by intro _; rfl) :
    PS X (.Assign [.Name y py] (.ListComp elt [⟨tg, iter, ifs, 0⟩] scope pos) spos) (tAsg (tLc (iLstH X.K ti) g tt te (own.map (·.2))) (gName i)) := by
  refine ⟨fun pins s σ H D I h => ?_⟩
  rw [exec_Assign_Name_used _ _ _ _ hsw]
  refine wpAny_bind (wpAny_standAt (wpAny_bind ?_))
  show wpAny _ X.A (do let _ ← comprehension (.ListComp elt [⟨tg, iter, ifs, 0⟩] scope pos) scope X.env (firstIterPos [⟨tg, iter, ifs, 0⟩] pos) (newList []) false (eval iter X.env) (some (assign (.Name y py) X.env))) _ _ s
  have h : tLc (iLstH X.K ti) g tt te (own.map (·.2)) σ H (fun x H1 => gName i x σ H1 D.nx) := h
  refine wpAny_bind (thn (lc_coreH (Qf := fun _ s' => SP X pins D .next s') hot hpn hN I hi ok hg ht he hs h fun L C s' m H' I' q hn f => ?_) fun _ s' hq => wpAny_pure (wpAny_pure hq))
  show wpAny _ _ (assign (.Name y py) X.env (.ref L)) _ _ _
  refine wpAny_assign_Name (store_ok2 (v := V.ref L) I' hN hy (.inl hyl) rfl (fun s2 I2 ⟨a, sb, ha⟩ => ?_) (.inr hyl))
  obtain ⟨f0, f1, f2, f3, f4, f5⟩ := f
  have haC : C ≠ a := by
    rcases ha with z | z
    · rw [z]; exact f1
    · exact fun e => f4 y a z e.symm
  refine ⟨m, hn.sameBut sb haC, fun h3 sb3 => ?_⟩
  exact ⟨_, H', I2.turned (t' := s2.toks) (fun b o hb e => (sb3.2 b hb).trans e) f0 f1 f3 f4 f5, q⟩
end
end VL
set_option Elab.async false
set_option linter.all false
set_option maxRecDepth 100000
set_option maxHeartbeats 2000000
/-! VL43: by value while an exception is handled: list comprehensions, isinstance of the exception, defs that are handed it. -/
namespace VL
open PySem PySem.Spec PyProof.Rows L2 RZ L2H HotX
variable {τ : Tau}
theorem roomH_hu {k : Nat} {A : Around} (r : RoomH k A) : A.units + 65 < cLine := by have := r.un; omega
theorem roomH_hu64 {k : Nat} {A : Around} (r : RoomH k A) : A.units + 64 < cLine := by have := r.un; omega
@[simp ↓] def wiSeqH (w : WE) : WI := fun env Q => w env fun d e1 => match d with
  | .list ds => Q ds e1
  | _ => False
abbrev CGp (X : Cx) (R : Root τ) (vs : List Nat) (p : Addr × Obj) (e : Expr) (w : WG) : Prop := PGp X p e (rdG X.K R vs w)
section
variable {X : Cx} {R : Root τ} {e elt tg iter : Expr} {es ifs : List Expr} {scope : Scope} {own : List (Str × Nat)} {pos spos : Pos} {w wi : WE} {g : WG} {tt : WT} {we : WE} {p : Addr × Obj}
theorem cgp_of {vs : List Nat} {w : WG} (h : CG X R vs e w) : CGp X R vs p e w := pgp_of h
theorem cgp_tup {vs : List Nat} {k : Nat} {t : WGs} {n : Nat} (hot : Hot1 X.A p) (h : CGs X R vs es t) (hn : (assignEach es X.env).length = n := by rfl) (hst : (assignEach es X.env).findIdx? (·.1) = none := by rfl) : CGp X R vs p (.Tuple es k pos) (wgTup n t) :=
  pgp_imp (pgp_tup hot h hn hst) fun v σ H Q ⟨F, env, Qw, d, r, p, w, kk⟩ => by
    cases p with
    | tup h1 l => exact ⟨_, _, rfl, seqT_mono r.sub h1.sq, by rw [l.length]; exact w.1, F, env, _, _, r, l, w.2, kk⟩
    | _ => cases w
theorem pgp_s {vs : List Nat} {w : WG} (h : ∀ R : Root τ, CGp X R vs p e w) : PGp X p e (rdGx τ X.K vs w) := ⟨fun pins s σ H v u Q hp I r ⟨R, q⟩ => (h R).run pins s σ H v u Q hp I r q⟩
theorem iLstH_of {K : PySem.W.Frag} : ∀ σ H Rk, rdI K R (wiSeqH w) σ H Rk → iLstH K (rdE K R w) σ H Rk := fun σ H Rk ⟨F, env, Qw, r, w, k⟩ =>
  ⟨F, env, _, r, w, fun F1 e1 H1 x d f1 r1 p1 w1 => by
    cases d with
    | list ds =>
      cases p1 with
      | lst h l => exact ⟨_, _, rfl, .inl (.inl (r1.sub _ _ h)), k F1 e1 H1 _ ds f1 r1 (yl_list h l) w1⟩
    | _ => cases w1⟩
theorem wLcH_rd {vs : List Nat} : ∀ σ H Q, rdF X.K R (wLc (wiSeqH wi) g tt we vs) σ H Q → tLc (iLstH X.K (rdE X.K R wi)) (rdGx τ X.K vs g) (rdTs τ X.K tt) (rdEs τ X.K we) vs σ H Q :=
  fun σ H Q h => iLstH_of σ H _ (wLc_rd σ H Q h)
theorem cf_lcH (hot : Hot1 X.A p) (hpn : p ∈ X.pn) (hN : X.N.Nodup) (hi : CE X R iter wi) (ok : BlkOk X.N X.env.scope scope own)
    (hg : ∀ (R : Root τ) (s : Shared) (H : Hp) (C : Addr) (cl : List (Str × Addr)) (fp : List Addr), CGp (X.blk s H scope (compEnvC scope cl C X.env) fp) R (own.map (·.2)) p tg g)
    (ht : ∀ (R : Root τ) (s : Shared) (H : Hp) (C : Addr) (cl : List (Str × Addr)) (fp : List Addr), CTs (X.blk s H scope (compEnvC scope cl C X.env) fp) R ifs tt)
    (he : ∀ (R : Root τ) (s : Shared) (H : Hp) (C : Addr) (cl : List (Str × Addr)) (fp : List Addr), CE (X.blk s H scope (compEnvC scope cl C X.env) fp) R elt we) (hs : ∀ x, foldedSetIterable iter X.env x = pure x := by intro _; rfl) :
    CF X R (.ListComp elt [⟨tg, iter, ifs, 0⟩] scope pos) (wLc (wiSeqH wi) g tt we (own.map (·.2))) :=
  pe_imp (pe_lcH hot hpn hN hi ok (fun s H C cl fp => pgp_s fun R => hg R s H C cl fp) (fun s H C cl fp => pts_s fun R => ht R s H C cl fp) (fun s H C cl fp => pe_s fun R => he R s H C cl fp) hs) wLcH_rd
theorem cs_setLcH {i : Nat} {y : Str} {py : Pos} (hot : Hot1 X.A p) (hpn : p ∈ X.pn) (hN : X.N.Nodup) (hy : X.N[i]? = some y) (hyl : X.env.scope.names.lookup y = some .local)
    (hsw : swapsWith (.ListComp elt [⟨tg, iter, ifs, 0⟩] scope pos) (some (.Name y py)) spos.line X.env = pure true) (hi : CE X R iter wi) (ok : BlkOk X.N X.env.scope scope own)
    (hg : ∀ (R : Root τ) (s : Shared) (H : Hp) (C : Addr) (cl : List (Str × Addr)) (fp : List Addr), CGp (X.blk s H scope (compEnvC scope cl C X.env) fp) R (own.map (·.2)) p tg g)
    (ht : ∀ (R : Root τ) (s : Shared) (H : Hp) (C : Addr) (cl : List (Str × Addr)) (fp : List Addr), CTs (X.blk s H scope (compEnvC scope cl C X.env) fp) R ifs tt)
    (he : ∀ (R : Root τ) (s : Shared) (H : Hp) (C : Addr) (cl : List (Str × Addr)) (fp : List Addr), CE (X.blk s H scope (compEnvC scope cl C X.env) fp) R elt we) (hs : ∀ x, foldedSetIterable iter X.env x = pure x := by intro _; rfl) :
    CS X R (.Assign [.Name y py] (.ListComp elt [⟨tg, iter, ifs, 0⟩] scope pos) spos) (wSet i (wLc (wiSeqH wi) g tt we (own.map (·.2)))) :=
  ps_imp (ps_setLcH hot hpn hN hy hyl hsw hi ok (fun s H C cl fp => pgp_s fun R => hg R s H C cl fp) (fun s H C cl fp => pts_s fun R => ht R s H C cl fp) (fun s H C cl fp => pe_s fun R => he R s H C cl fp) hs) (wSet_rd wLcH_rd)
/-! ### isinstance of the exception -/
/-- what is known of the classes: names of the raised ones, is one a subclass of another -/
structure IsF (K : PySem.W.Frag) (mg : Str → Option Value) (names : Str → Prop) (cls : List Str) (isub : Str → Str → Bool) : Prop where
  at_ : ∀ nm D cn, names nm → mg nm = some (.ref D) → cn ∈ cls → ∃ Cv, mg cn = some (.ref Cv) ∧ PySem.W.kitOne K (.ref D) (.ref Cv) = some (isub nm cn)
  exc : ∀ nm D, names nm → mg nm = some (.ref D) → ExcC K D
@[simp ↓] def wIsE (i : Nat) (a : Addr) (b : Bool) : WE := fun env Q => env.getD i none = some (.ex a) ∧ Q (.bool b) env
theorem ce_isE {names : Str → Prop} {cls : List Str} {isub : Str → Str → Bool} {nm cn x : Str} {a D : Addr} {oe : Obj} {i : Nat} {q q1 q2 : Pos} (I : IsF X.K X.mg names cls isub) (hn : names nm) (hD : X.mg nm = some (.ref D)) (hz : L2N.Zn (.ref D) none oe) (hf : ∃ vs, oe.data = .fields vs) (hp : (a, oe) ∈ X.pn)
    (hg : Gl X "isinstance") (hm : X.mg "isinstance" = none) (hv : PE X (.Name x q1) (tVar i)) (hg2 : Gl X cn) (hcn : cn ∈ cls) (hd : (cn == ("__debug__" : Str)) = false := by decide)
    (hv0 : bootBuiltins "isinstance" = some (.builtin "isinstance") := by decide +kernel)
    (he : starEach [.Name x q1, .Name cn q2] X.env = (false, eval (.Name x q1) X.env) :: starEach [.Name cn q2] X.env := by rfl) (hpl : (backTo pos (starEach [.Name cn q2] X.env)).any (·.1) = false := by rfl) :
    CE X R (.Call (.Name "isinstance" q) [.Name x q1, .Name cn q2] [] pos) (wIsE i a (isub nm cn)) := by
  obtain ⟨Cv, h1, h2⟩ := I.at_ nm D cn hn hD hcn
  refine pe_imp (pe_callB (call_isP (I.exc nm D hn hD) hz.zc hf hp) hg hm hv0 (pa_cons hv (pa_cons (pe_glob (v := .ref Cv) hg2 h1 rfl hd) pa_nil) he) (by decide) (by decide) he hpl) fun σ H Q ⟨F, env, Qw, r, ⟨w0, w⟩, k⟩ => ?_
  have w1 : env[i]? = some (some (.ex a)) := by
    rw [List.getD_eq_getElem?_getD] at w0
    cases e : env[i]? with
    | none => rw [e] at w0; cases w0
    | some o => rw [e] at w0; exact congrArg some w0
  obtain ⟨y, e1, e2⟩ := r.sl i _ w1
  subst e2
  exact ⟨_, e1, _, _, _, rfl, (fun u z => z), h2, k F env H _ _ (Same.refl F) r (.bl _) w⟩
end
/-! ### defs that are handed it -/
theorem FnE.imp {P : Program} {w : World} {K : PySem.W.Frag} {mg : Str → Option Value} {base : Heap} {k : Nat} {f : Addr} {fd : FuncData} {ps : List Str} {p : Addr × Obj} {sp sp' : Sp} (F : FnE P w K mg base k f fd ps p sp) (h : ∀ vs H Q E, sp' vs H Q E → sp vs H Q E) : FnE P w K mg base k f fd ps p sp' :=
  ⟨fun vs H Q E z => F.len vs H Q E (h _ _ _ _ z), fun A outer s H args us vs Q E hr hot hpin e0 hb r z => F.run A outer s H args us vs Q E hr hot hpin e0 hb r (h _ _ _ _ z)⟩
section
variable {P : Program} {w : World} {K : PySem.W.Frag} {mg : Str → Option Value} {base : Heap} {x : Str} {st : Stmt} {f c : Addr} {fd : FuncData}
theorem fnTE {N ps : List Str} {k : Nat} {bw : (Str → Prop) → WS} {p : Addr × Obj} (F : FunT K x st f fd c) (S : FnScope N ps (defScope st))
    (hbody : ∀ (R : Root τ) (A : Around) (outer : List Env) (s : Shared) (H : Hp) (E : XK) (Ew : Str → Prop), Hot1 A p → RoomH k (A.deeper (envOfC x (defScope st) s.heap.objs.size f (.ref c))) →
      CSs (cxH CX0 P w K mg base N x (defScope st) f (.ref c) A outer s H E p) R (defBody st) (bw Ew)) : FnE P w K mg base (k + 1) f fd ps p (spW τ K mg ps.length (fwOf N.length bw)) := by
  obtain ⟨oc, od, kV, doc, pm, an, ct, osl, rfl, lk, hcd⟩ := F.ex
  refine fnE_of lk hcd S (fun vs H Q E h => h.1) fun A outer s H vs Q E hot hr h => ?_
  obtain ⟨hl, Fz, d, args, Qw, Ew, hb, ha, hf, hq, he⟩ := h
  refine ⟨_, hbody (rt (τ := τ) H Fz d) A outer s H E Ew hot hr, Fz, _, _, rel_start hb ha, hf, fun F' env' σ' H' ff r q => ?_, fun _ _ _ _ _ _ z => z.elim, fun _ _ _ _ _ _ z => z.elim, fun F' H' y t ff r p q => hq F' H' y t ff r p q⟩
  exact hq F' H' .non (.fz .none) ff r.toBase .non q
/-- the def x keeps its promise, handed the exception of p, of the class nm -/
structure CalE (τ : Tau) (P : Program) (w : World) (K : PySem.W.Frag) (mg : Str → Option Value) (base : Heap) (k : Nat) (x : Str) (ps : List Str) (names : Str → Prop) (fw : Addr → Str → FW) : Prop where
  ex : ∀ (a : Addr) (oe : Obj) (C : Addr) (nm : Str), names nm → mg nm = some (.ref C) → L2N.Zn (.ref C) none oe → (∃ vs, oe.data = .fields vs) →
    ∃ f fd, FnE P w K mg base k f fd ps (a, oe) (spW τ K mg ps.length (fw a nm)) ∧ mg x = some (.ref f) ∧ PySem.W.keepIn K (.ref f) = true ∧ Binds K fd ps []
theorem spW_fw {n : Nat} {fw fw' : FW} (h : ∀ args Q Ew, fw' args Q Ew → fw args Q Ew) : ∀ vs H Q E, spW τ K mg n fw' vs H Q E → spW τ K mg n fw vs H Q E :=
  fun vs H Q E ⟨hl, Fz, d, args, Qw, Ew, hb, ha, hf, hq, he⟩ => ⟨hl, Fz, d, args, Qw, Ew, hb, ha, h _ _ _ hf, hq, he⟩
end
section
variable {X : Cx} {R : Root τ} {e : Expr} {es : List Expr} {pos p : Pos} {k : Nat} {ps : List Str} {x : Str} {wa : WAs}
theorem hot1_of {A : Around} {a : Addr} {oe : Obj} {C : Addr} (hz : L2N.Zn (.ref C) none oe) (hf : ∃ vs, oe.data = .fields vs) : Hot1 (A.mark (some (.ref a))) (a, oe) := by
  obtain ⟨vs, e⟩ := hf
  exact ⟨rfl, vs, e, hz.2.2 vs e⟩
/-- f(e, ..) in the suite -/
theorem cf_callE {n : Nat} {names : Str → Prop} {fw : Addr → Str → FW} {a : Addr} {oe : Obj} {D : Addr} {nm : Str} {pn : List (Addr × Obj)} (C : CalE τ X.prog X.w X.K X.mg X.base k x ps names fw) (hnm : names nm) (hD : X.mg nm = some (.ref D)) (hz : L2N.Zn (.ref D) none oe) (hfd : ∃ vs, oe.data = .fields vs)
    (hn : ps.length = n) (hr : RoomH k X.A) (hg : Gl X x) (ha : CAs (X.suite a ((a, oe) :: pn)) R (e :: es) wa) (hdb : (x == ("__debug__" : Str)) = false)
    (he : starEach (e :: es) X.env = (false, eval e X.env) :: starEach es X.env) (hpl : (backTo pos (starEach es X.env)).any (·.1) = false) :
    CF (X.suite a ((a, oe) :: pn)) R (.Call (.Name x p) (e :: es) [] pos) (wCall n (fw a nm) wa) := by
  subst hn
  obtain ⟨f, fd, F, hm, hk, hb⟩ := C.ex a oe D nm hnm hD hz hfd
  refine pe_imp (pe_callE (X := X.suite a ((a, oe) :: pn)) (p := (a, oe)) F ⟨hr.dp, hr.un⟩ (hot1_of hz hfd) List.mem_cons_self hg hm hk hb ha hdb he hpl) fun σ H Q ⟨Fz, env, Qw, r, w, kk⟩ => ?_
  refine ⟨Fz, env, _, r, w, fun F1 e1 H1 xs as is f1 r1 p1 ⟨hl, hd, w1⟩ => ?_⟩
  exact call_rd (by rw [p1.len]; exact hl) r1 p1 hd w1 fun F2 H2 y s f2 r2 p2 fr q => kk F2 e1 H2 y s (f1.trans f2) r2 p2 fr q
end
end VL
set_option Elab.async false
set_option linter.all false
set_option maxRecDepth 100000
set_option maxHeartbeats 2000000
/-! VL44: the program's five classes of exceptions. -/
namespace VL
open PySem PySem.Spec PyProof.Rows L2 RZ L2H HotX
variable {τ : Tau}
def five : List Str := ["OutOfRange", "Malformed", "NotThere", "Refused", "TooMuch"]
def sixC : List Str := "FireError" :: five
def fiveP (nm : Str) : Prop := nm ∈ five
def inP (l : List Str) (nm : Str) : Prop := nm ∈ l
def isub (nm cn : Str) : Bool := cn == ("FireError" : Str) || nm == cn
theorem fiveP_cases {nm : Str} {p : Str → Prop} (h : fiveP nm) (h1 : p "OutOfRange") (h2 : p "Malformed") (h3 : p "NotThere") (h4 : p "Refused") (h5 : p "TooMuch") : p nm := by
  unfold fiveP five at h
  simp only [List.mem_cons, List.not_mem_nil, or_false] at h
  rcases h with rfl | rfl | rfl | rfl | rfl <;> assumption
@[simp] theorem fiveP_OutOfRange : fiveP "OutOfRange" := by unfold fiveP five; simp
@[simp] theorem isub_OutOfRange_FireError : isub "OutOfRange" "FireError" = true := by decide +kernel
@[simp] theorem isub_OutOfRange_OutOfRange : isub "OutOfRange" "OutOfRange" = true := by decide +kernel
@[simp] theorem isub_OutOfRange_Malformed : isub "OutOfRange" "Malformed" = false := by decide +kernel
@[simp] theorem isub_OutOfRange_NotThere : isub "OutOfRange" "NotThere" = false := by decide +kernel
@[simp] theorem isub_OutOfRange_Refused : isub "OutOfRange" "Refused" = false := by decide +kernel
@[simp] theorem isub_OutOfRange_TooMuch : isub "OutOfRange" "TooMuch" = false := by decide +kernel
@[simp] theorem fiveP_Malformed : fiveP "Malformed" := by unfold fiveP five; simp
@[simp] theorem isub_Malformed_FireError : isub "Malformed" "FireError" = true := by decide +kernel
@[simp] theorem isub_Malformed_OutOfRange : isub "Malformed" "OutOfRange" = false := by decide +kernel
@[simp] theorem isub_Malformed_Malformed : isub "Malformed" "Malformed" = true := by decide +kernel
@[simp] theorem isub_Malformed_NotThere : isub "Malformed" "NotThere" = false := by decide +kernel
@[simp] theorem isub_Malformed_Refused : isub "Malformed" "Refused" = false := by decide +kernel
@[simp] theorem isub_Malformed_TooMuch : isub "Malformed" "TooMuch" = false := by decide +kernel
@[simp] theorem fiveP_NotThere : fiveP "NotThere" := by unfold fiveP five; simp
@[simp] theorem isub_NotThere_FireError : isub "NotThere" "FireError" = true := by decide +kernel
@[simp] theorem isub_NotThere_OutOfRange : isub "NotThere" "OutOfRange" = false := by decide +kernel
@[simp] theorem isub_NotThere_Malformed : isub "NotThere" "Malformed" = false := by decide +kernel
@[simp] theorem isub_NotThere_NotThere : isub "NotThere" "NotThere" = true := by decide +kernel
@[simp] theorem isub_NotThere_Refused : isub "NotThere" "Refused" = false := by decide +kernel
@[simp] theorem isub_NotThere_TooMuch : isub "NotThere" "TooMuch" = false := by decide +kernel
@[simp] theorem fiveP_Refused : fiveP "Refused" := by unfold fiveP five; simp
@[simp] theorem isub_Refused_FireError : isub "Refused" "FireError" = true := by decide +kernel
@[simp] theorem isub_Refused_OutOfRange : isub "Refused" "OutOfRange" = false := by decide +kernel
@[simp] theorem isub_Refused_Malformed : isub "Refused" "Malformed" = false := by decide +kernel
@[simp] theorem isub_Refused_NotThere : isub "Refused" "NotThere" = false := by decide +kernel
@[simp] theorem isub_Refused_Refused : isub "Refused" "Refused" = true := by decide +kernel
@[simp] theorem isub_Refused_TooMuch : isub "Refused" "TooMuch" = false := by decide +kernel
@[simp] theorem fiveP_TooMuch : fiveP "TooMuch" := by unfold fiveP five; simp
@[simp] theorem isub_TooMuch_FireError : isub "TooMuch" "FireError" = true := by decide +kernel
@[simp] theorem isub_TooMuch_OutOfRange : isub "TooMuch" "OutOfRange" = false := by decide +kernel
@[simp] theorem isub_TooMuch_Malformed : isub "TooMuch" "Malformed" = false := by decide +kernel
@[simp] theorem isub_TooMuch_NotThere : isub "TooMuch" "NotThere" = false := by decide +kernel
@[simp] theorem isub_TooMuch_Refused : isub "TooMuch" "Refused" = false := by decide +kernel
@[simp] theorem isub_TooMuch_TooMuch : isub "TooMuch" "TooMuch" = true := by decide +kernel
/-- the class that the program catches -/
structure ExcF (K : PySem.W.Frag) (mg : Str → Option Value) (names : Str → Prop) (x : Str) : Prop where
  ex : ∃ c, mg x = some c ∧ ∀ nm C, names nm → mg nm = some (.ref C) → PySem.W.exmOne K (.ref C) c = some true
section
variable {X : Cx} {R : Root τ} {x n : Str} {i : Nat} {body suite : List Stmt} {b₀ : Stmt} {np pos pos' : Pos} {wb : Ex → WS} {ws : Addr → Str → WS}
theorem cs_tryE {names : Str → Prop} (h : ExcF X.K X.mg names x) (hs : X.stack = X.env :: X.outer) (hf : X.env.frame = some X.env.locals) (hN : X.N.Nodup) (hi : X.N[i]? = some n) (hln : X.env.kindOf n = some .local) (hg : Gl X x) (hd : (x == ("__debug__" : Str)) = false)
    (hb : ∀ (R' : Root τ) (pn : List (Addr × Obj)) (xe : Value → Shared → Prop) (ex : Ex), TakesW (X.tr pn xe) R' ex → PassesOwn (model X.prog X.w) X.A X.env xe → CSs (X.tr pn xe) R' body (wb ex))
    (hsu : ∀ (R' : Root τ) (a : Addr) (oe : Obj) (C : Addr) (nm : Str) (pn : List (Addr × Obj)), names nm → X.mg nm = some (.ref C) → L2N.Zn (.ref C) none oe → (∃ vs, oe.data = .fields vs) →
      CSs (X.suite a ((a, oe) :: pn)) R' (b₀ :: suite) (ws a nm)) :
    CS X R (.Try body [.ExceptHandler (some (.Name x np)) (some n) (b₀ :: suite) pos'] [] [] pos) (wTry i wb names ws) := by
  obtain ⟨c, h1, h2⟩ := h.ex
  exact cs_try hs hf hN hi hln ⟨hg, hd, .inl h1⟩ h2 hb hsu
end
theorem isF_mk {K : PySem.W.Frag} {mg : Str → Option Value} {D0 D1 D2 D3 D4 D5 : Addr} (m0 : mg "FireError" = some (.ref D0)) (m1 : mg "OutOfRange" = some (.ref D1)) (m2 : mg "Malformed" = some (.ref D2)) (m3 : mg "NotThere" = some (.ref D3)) (m4 : mg "Refused" = some (.ref D4)) (m5 : mg "TooMuch" = some (.ref D5)) (k10 : PySem.W.kitOne K (.ref D1) (.ref D0) = some true) (k11 : PySem.W.kitOne K (.ref D1) (.ref D1) = some true) (k12 : PySem.W.kitOne K (.ref D1) (.ref D2) = some false) (k13 : PySem.W.kitOne K (.ref D1) (.ref D3) = some false) (k14 : PySem.W.kitOne K (.ref D1) (.ref D4) = some false) (k15 : PySem.W.kitOne K (.ref D1) (.ref D5) = some false) (k20 : PySem.W.kitOne K (.ref D2) (.ref D0) = some true) (k21 : PySem.W.kitOne K (.ref D2) (.ref D1) = some false) (k22 : PySem.W.kitOne K (.ref D2) (.ref D2) = some true) (k23 : PySem.W.kitOne K (.ref D2) (.ref D3) = some false) (k24 : PySem.W.kitOne K (.ref D2) (.ref D4) = some false) (k25 : PySem.W.kitOne K (.ref D2) (.ref D5) = some false) (k30 : PySem.W.kitOne K (.ref D3) (.ref D0) = some true) (k31 : PySem.W.kitOne K (.ref D3) (.ref D1) = some false) (k32 : PySem.W.kitOne K (.ref D3) (.ref D2) = some false) (k33 : PySem.W.kitOne K (.ref D3) (.ref D3) = some true) (k34 : PySem.W.kitOne K (.ref D3) (.ref D4) = some false) (k35 : PySem.W.kitOne K (.ref D3) (.ref D5) = some false) (k40 : PySem.W.kitOne K (.ref D4) (.ref D0) = some true) (k41 : PySem.W.kitOne K (.ref D4) (.ref D1) = some false) (k42 : PySem.W.kitOne K (.ref D4) (.ref D2) = some false) (k43 : PySem.W.kitOne K (.ref D4) (.ref D3) = some false) (k44 : PySem.W.kitOne K (.ref D4) (.ref D4) = some true) (k45 : PySem.W.kitOne K (.ref D4) (.ref D5) = some false) (k50 : PySem.W.kitOne K (.ref D5) (.ref D0) = some true) (k51 : PySem.W.kitOne K (.ref D5) (.ref D1) = some false) (k52 : PySem.W.kitOne K (.ref D5) (.ref D2) = some false) (k53 : PySem.W.kitOne K (.ref D5) (.ref D3) = some false) (k54 : PySem.W.kitOne K (.ref D5) (.ref D4) = some false) (k55 : PySem.W.kitOne K (.ref D5) (.ref D5) = some true) (x1 : ExcC K D1) (x2 : ExcC K D2) (x3 : ExcC K D3) (x4 : ExcC K D4) (x5 : ExcC K D5) : IsF K mg fiveP sixC isub := by
  refine ⟨fun nm D cn h => ?_, fun nm D h => ?_⟩
  · revert D
    refine fiveP_cases (p := fun nm => ∀ D, mg nm = some (.ref D) → cn ∈ sixC → ∃ Cv, mg cn = some (.ref Cv) ∧ PySem.W.kitOne K (.ref D) (.ref Cv) = some (isub nm cn)) h ?_ ?_ ?_ ?_ ?_
    · intro D e hc
      rw [m1] at e
      cases e
      unfold sixC five at hc
      simp only [List.mem_cons, List.not_mem_nil, or_false] at hc
      rcases hc with rfl | rfl | rfl | rfl | rfl | rfl
      · exact ⟨_, m0, by rw [isub_OutOfRange_FireError]; exact k10⟩
      · exact ⟨_, m1, by rw [isub_OutOfRange_OutOfRange]; exact k11⟩
      · exact ⟨_, m2, by rw [isub_OutOfRange_Malformed]; exact k12⟩
      · exact ⟨_, m3, by rw [isub_OutOfRange_NotThere]; exact k13⟩
      · exact ⟨_, m4, by rw [isub_OutOfRange_Refused]; exact k14⟩
      · exact ⟨_, m5, by rw [isub_OutOfRange_TooMuch]; exact k15⟩
    · intro D e hc
      rw [m2] at e
      cases e
      unfold sixC five at hc
      simp only [List.mem_cons, List.not_mem_nil, or_false] at hc
      rcases hc with rfl | rfl | rfl | rfl | rfl | rfl
      · exact ⟨_, m0, by rw [isub_Malformed_FireError]; exact k20⟩
      · exact ⟨_, m1, by rw [isub_Malformed_OutOfRange]; exact k21⟩
      · exact ⟨_, m2, by rw [isub_Malformed_Malformed]; exact k22⟩
      · exact ⟨_, m3, by rw [isub_Malformed_NotThere]; exact k23⟩
      · exact ⟨_, m4, by rw [isub_Malformed_Refused]; exact k24⟩
      · exact ⟨_, m5, by rw [isub_Malformed_TooMuch]; exact k25⟩
    · intro D e hc
      rw [m3] at e
      cases e
      unfold sixC five at hc
      simp only [List.mem_cons, List.not_mem_nil, or_false] at hc
      rcases hc with rfl | rfl | rfl | rfl | rfl | rfl
      · exact ⟨_, m0, by rw [isub_NotThere_FireError]; exact k30⟩
      · exact ⟨_, m1, by rw [isub_NotThere_OutOfRange]; exact k31⟩
      · exact ⟨_, m2, by rw [isub_NotThere_Malformed]; exact k32⟩
      · exact ⟨_, m3, by rw [isub_NotThere_NotThere]; exact k33⟩
      · exact ⟨_, m4, by rw [isub_NotThere_Refused]; exact k34⟩
      · exact ⟨_, m5, by rw [isub_NotThere_TooMuch]; exact k35⟩
    · intro D e hc
      rw [m4] at e
      cases e
      unfold sixC five at hc
      simp only [List.mem_cons, List.not_mem_nil, or_false] at hc
      rcases hc with rfl | rfl | rfl | rfl | rfl | rfl
      · exact ⟨_, m0, by rw [isub_Refused_FireError]; exact k40⟩
      · exact ⟨_, m1, by rw [isub_Refused_OutOfRange]; exact k41⟩
      · exact ⟨_, m2, by rw [isub_Refused_Malformed]; exact k42⟩
      · exact ⟨_, m3, by rw [isub_Refused_NotThere]; exact k43⟩
      · exact ⟨_, m4, by rw [isub_Refused_Refused]; exact k44⟩
      · exact ⟨_, m5, by rw [isub_Refused_TooMuch]; exact k45⟩
    · intro D e hc
      rw [m5] at e
      cases e
      unfold sixC five at hc
      simp only [List.mem_cons, List.not_mem_nil, or_false] at hc
      rcases hc with rfl | rfl | rfl | rfl | rfl | rfl
      · exact ⟨_, m0, by rw [isub_TooMuch_FireError]; exact k50⟩
      · exact ⟨_, m1, by rw [isub_TooMuch_OutOfRange]; exact k51⟩
      · exact ⟨_, m2, by rw [isub_TooMuch_Malformed]; exact k52⟩
      · exact ⟨_, m3, by rw [isub_TooMuch_NotThere]; exact k53⟩
      · exact ⟨_, m4, by rw [isub_TooMuch_Refused]; exact k54⟩
      · exact ⟨_, m5, by rw [isub_TooMuch_TooMuch]; exact k55⟩
  · revert D
    refine fiveP_cases (p := fun nm => ∀ D, mg nm = some (.ref D) → ExcC K D) h ?_ ?_ ?_ ?_ ?_
    · intro D e; rw [m1] at e; cases e; exact x1
    · intro D e; rw [m2] at e; cases e; exact x2
    · intro D e; rw [m3] at e; cases e; exact x3
    · intro D e; rw [m4] at e; cases e; exact x4
    · intro D e; rw [m5] at e; cases e; exact x5
theorem excF_mk {K : PySem.W.Frag} {mg : Str → Option Value} {D0 D1 D2 D3 D4 D5 : Addr} (m0 : mg "FireError" = some (.ref D0)) (m1 : mg "OutOfRange" = some (.ref D1)) (m2 : mg "Malformed" = some (.ref D2)) (m3 : mg "NotThere" = some (.ref D3)) (m4 : mg "Refused" = some (.ref D4)) (m5 : mg "TooMuch" = some (.ref D5)) (k1 : PySem.W.exmOne K (.ref D1) (.ref D0) = some true) (k2 : PySem.W.exmOne K (.ref D2) (.ref D0) = some true) (k3 : PySem.W.exmOne K (.ref D3) (.ref D0) = some true) (k4 : PySem.W.exmOne K (.ref D4) (.ref D0) = some true) (k5 : PySem.W.exmOne K (.ref D5) (.ref D0) = some true) : ExcF K mg fiveP "FireError" := by
  refine ⟨_, m0, fun nm D h => ?_⟩
  revert D
  refine fiveP_cases (p := fun nm => ∀ D, mg nm = some (.ref D) → PySem.W.exmOne K (.ref D) (.ref D0) = some true) h ?_ ?_ ?_ ?_ ?_
  · intro D e; rw [m1] at e; cases e; exact k1
  · intro D e; rw [m2] at e; cases e; exact k2
  · intro D e; rw [m3] at e; cases e; exact k3
  · intro D e; rw [m4] at e; cases e; exact k4
  · intro D e; rw [m5] at e; cases e; exact k5
/-- a class of the program, for isinstance and except -/
structure ClsF (K : PySem.W.Frag) (C : Addr) : Prop where
  i : PySem.W.isClsIn K C = true
  t : PySem.W.typeIn K (.ref C) = some (.type "type")
  s : PySem.W.subIn K (.ref C) (.type "BaseException") = some true
theorem cls_if {K : PySem.W.Frag} {t : Value} {C : Addr} (c : ClsF K C) : PySem.W.kitCls K t (.ref C) = PySem.W.subIn K t (.ref C) := by
  have h2 : (PySem.W.clsIn K C).isSome = true := c.i
  have e2 : ((PySem.W.clsIn K C).isSome && PySem.W.typeIn K (.ref C) == some (.type "type")) = true := by rw [h2, c.t] <;> rfl
  show (if ((PySem.W.clsIn K C).isSome && PySem.W.typeIn K (.ref C) == some (.type "type")) = true then PySem.W.subIn K t (.ref C) else none) = _
  rw [if_pos e2]
theorem kit_self {K : PySem.W.Frag} {C : Addr} : PySem.W.kitOne K (.ref C) (.ref C) = some true := by
  unfold PySem.W.kitOne
  rw [if_pos (by simp)]
theorem kit_sub {K : PySem.W.Frag} {D C : Addr} {b : Bool} (c : ClsF K C) (n : (D == C) = false) (h : PySem.W.subIn K (.ref D) (.ref C) = some b) : PySem.W.kitOne K (.ref D) (.ref C) = some b := by
  unfold PySem.W.kitOne
  have hn : ¬ ((Value.ref D == Value.ref C) = true) := fun z => by
    have e : D = C := Value.ref.inj (beq_iff_eq.mp z)
    rw [e] at n
    simp at n
  rw [if_neg hn, cls_if c, h]
theorem exm_sub {K : PySem.W.Frag} {D C : Addr} {b : Bool} (c : ClsF K C) (h : PySem.W.subIn K (.ref D) (.ref C) = some b) : PySem.W.exmOne K (.ref D) (.ref C) = some b := by
  unfold PySem.W.exmOne
  have e1 : (PySem.W.subIn K (.ref C) (.type "BaseException") == some true) = true := by rw [c.s] <;> rfl
  rw [if_pos e1, cls_if c, h]
end VL
set_option Elab.async false
set_option linter.all false
set_option maxRecDepth 100000
set_option maxHeartbeats 2000000
/-! VL45: what the laws tell of an exception (_law_told, _law_word). -/
namespace VL
open PySem PySem.Spec PyProof.Rows L2 RZ
def w_told5 (ea : Addr) (enm : Str) : (Str → Prop) → WS := fun _ => (wSeq (wSet 1 (wLst (wCons (wTup (wCons (wC (.str "OutOfRange")) (wCons (wIsE 0 ea (isub enm "OutOfRange")) wNil))) (wCons (wTup (wCons (wC (.str "Malformed")) (wCons (wIsE 0 ea (isub enm "Malformed")) wNil))) (wCons (wTup (wCons (wC (.str "NotThere")) (wCons (wIsE 0 ea (isub enm "NotThere")) wNil))) (wCons (wTup (wCons (wC (.str "Refused")) (wCons (wIsE 0 ea (isub enm "Refused")) wNil))) (wCons (wTup (wCons (wC (.str "TooMuch")) (wCons (wIsE 0 ea (isub enm "TooMuch")) wNil))) wNil)))))))
  (wSeq (wSet 2 (wLc (wiSeqH (wVar 1)) (wgTup 2 (wgCons (wgName 3) (wgCons (wgName 4) wgNil))) (wTru (wB 4)) (wVar 3) [3, 4]))
  (wSeq (wIfS (wOrT (wTst (wBin gNe (wO (wCallB gLen (wOcons (wB 2) wOnil))) (wO (wC (.int 1))))) (wNotT (wTru (wO (wIsE 0 ea (isub enm "FireError")))))) (wRet (wFz (wC (.str "several")))) wNext)
  (wRet (wFz (wBin gIx (wB 2) (wO (wC (.int 0)))))))))
def w_word1 (ea : Addr) (enm : Str) : (Str → Prop) → WS := fun _ => (wSeq (wSet 1 (wLst (wCons (wIsE 0 ea (isub enm "OutOfRange")) (wCons (wIsE 0 ea (isub enm "Malformed")) (wCons (wIsE 0 ea (isub enm "NotThere")) (wCons (wIsE 0 ea (isub enm "Refused")) (wCons (wIsE 0 ea (isub enm "TooMuch")) wNil)))))))
  (wSeq (wIfS (wTst (wBin gNe (wO (wCallB gLen (wOcons (wO (wVal (wLc (wiSeqH (wVar 1)) (wgName 2) (wTru (wB 2)) (wVar 2) [2]))) wOnil))) (wO (wC (.int 1))))) (wRet (wFz (wC (.str "many")))) wNext)
  (wRet (wFz (wBin gIx (wO (wVal (wLst (wCons (wC (.str "range")) (wCons (wC (.str "form")) (wCons (wC (.str "none")) (wCons (wC (.str "refused")) (wCons (wC (.str "much")) wNil)))))))) (wO (wIdx (wB 1) (wC (.bool true)))))))))
def w_word2 (ea : Addr) (enm : Str) : (Str → Prop) → WS := fun _ => (wSeq (wSet 1 (wLst (wCons (wIsE 0 ea (isub enm "OutOfRange")) (wCons (wIsE 0 ea (isub enm "Refused")) (wCons (wIsE 0 ea (isub enm "Malformed")) (wCons (wIsE 0 ea (isub enm "NotThere")) (wCons (wIsE 0 ea (isub enm "TooMuch")) wNil)))))))
  (wSeq (wIfS (wTst (wBin gNe (wO (wCallB gLen (wOcons (wO (wVal (wLc (wiSeqH (wVar 1)) (wgName 2) (wTru (wB 2)) (wVar 2) [2]))) wOnil))) (wO (wC (.int 1))))) (wRet (wFz (wC (.str "another")))) wNext)
  (wRet (wFz (wBin gIx (wO (wVal (wLst (wCons (wC (.str "range")) (wCons (wC (.str "refused")) (wCons (wC (.str "form")) (wCons (wC (.str "none")) (wCons (wC (.str "much")) wNil)))))))) (wO (wIdx (wB 1) (wC (.bool true)))))))))
@[simp] theorem atI_3 {α : Type} (x y z u : α) (xs : List α) : atI (x :: y :: z :: u :: xs) (3 : Int) = some u := by
  have := atI_nat (x :: y :: z :: u :: xs) 3
  simpa using this
/-- the word of a class -/
def wordOf (nm : Str) : Str := if nm = "OutOfRange" then "range" else if nm = "Malformed" then "form" else if nm = "NotThere" then "none" else if nm = "Refused" then "refused" else "much"
@[simp] theorem wordOf_1 : wordOf "OutOfRange" = "range" := by decide +kernel
@[simp] theorem wordOf_2 : wordOf "Malformed" = "form" := by decide +kernel
@[simp] theorem wordOf_3 : wordOf "NotThere" = "none" := by decide +kernel
@[simp] theorem wordOf_4 : wordOf "Refused" = "refused" := by decide +kernel
@[simp] theorem wordOf_5 : wordOf "TooMuch" = "much" := by decide +kernel
/-- the def that tells the class's name -/
@[simp ↓] def told5W (ea : Addr) (enm : Str) : FW := fun args Q _ => args = [.ex ea] ∧ fiveP enm ∧ Q (.fz (.str enm))
@[simp ↓] def word1W (ea : Addr) (enm : Str) : FW := fun args Q _ => args = [.ex ea] ∧ fiveP enm ∧ Q (.fz (.str (wordOf enm)))
@[simp ↓] def word2W (ea : Addr) (enm : Str) : FW := fun args Q _ => args = [.ex ea] ∧ fiveP enm ∧ Q (.fz (.str (wordOf enm)))
theorem told5_law {ea : Addr} {enm : Str} (args : List Slot) (Q : Slot → Prop) (Ew : Str → Prop) (h : told5W ea enm args Q Ew) : fwOf 5 (w_told5 ea enm) args Q Ew := by
  obtain ⟨rfl, hn, q⟩ := h
  refine fiveP_cases (p := fun nm => Q (.fz (.str nm)) → fwOf 5 (w_told5 ea nm) [.ex ea] Q Ew) hn ?_ ?_ ?_ ?_ ?_ q
  all_goals
    intro q
    simp [w_told5]
    refine lcW_pure (fun d => match d with | .tuple [.str s, .bool b] => if b then some (.str s) else none | _ => none) (by rw [sizeLine_is]; decide) (fun x hx Y Z hY hZ => ?_) ?_
    · simp only [List.mem_cons, List.not_mem_nil, or_false] at hx
      rcases hx with rfl | rfl | rfl | rfl | rfl <;> simp at hY hZ ⊢ <;> first | exact hY | exact hZ
    · simpa using q
theorem word1_law {ea : Addr} {enm : Str} (args : List Slot) (Q : Slot → Prop) (Ew : Str → Prop) (h : word1W ea enm args Q Ew) : fwOf 3 (w_word1 ea enm) args Q Ew := by
  obtain ⟨rfl, hn, q⟩ := h
  refine fiveP_cases (p := fun nm => Q (.fz (.str (wordOf nm))) → fwOf 3 (w_word1 ea nm) [.ex ea] Q Ew) hn ?_ ?_ ?_ ?_ ?_ q
  all_goals
    intro q
    simp [w_word1]
    refine lcW_pure (fun d => match d with | .bool true => some (.bool true) | _ => none) (by rw [sizeLine_is]; decide) (fun x hx Y Z hY hZ => ?_) ?_
    · simp only [List.mem_cons, List.not_mem_nil, or_false] at hx
      rcases hx with rfl | rfl | rfl | rfl | rfl <;> simp at hY hZ ⊢ <;> first | exact hY | exact hZ
    · simp at q ⊢
      exact ⟨_, rfl, _, rfl, q⟩
theorem word2_law {ea : Addr} {enm : Str} (args : List Slot) (Q : Slot → Prop) (Ew : Str → Prop) (h : word2W ea enm args Q Ew) : fwOf 3 (w_word2 ea enm) args Q Ew := by
  obtain ⟨rfl, hn, q⟩ := h
  refine fiveP_cases (p := fun nm => Q (.fz (.str (wordOf nm))) → fwOf 3 (w_word2 ea nm) [.ex ea] Q Ew) hn ?_ ?_ ?_ ?_ ?_ q
  all_goals
    intro q
    simp [w_word2]
    refine lcW_pure (fun d => match d with | .bool true => some (.bool true) | _ => none) (by rw [sizeLine_is]; decide) (fun x hx Y Z hY hZ => ?_) ?_
    · simp only [List.mem_cons, List.not_mem_nil, or_false] at hx
      rcases hx with rfl | rfl | rfl | rfl | rfl <;> simp at hY hZ ⊢ <;> first | exact hY | exact hZ
    · simp at q ⊢
      exact ⟨_, rfl, _, rfl, q⟩
end VL
set_option Elab.async false
set_option linter.all false
set_option maxRecDepth 100000
set_option maxHeartbeats 1000000
/-! VL46: a, b = x, y with new lists and dicts. -/
namespace VL
open PySem PySem.Spec PyProof.Rows L2
variable {τ : Tau}
section
variable {K : PySem.W.Frag} {R : Root τ} {F F' H H' : Hp} {env : PEnv} {σ : L2.St}
theorem slot_kee {D : Addr} {o : HO} {x : V} {s : Slot} (hn : R.keep D = none) (h : SlotOk K (R.kee (upd R.keep D o)) F H x s) : SlotOk K R F H x s ∧ (s.owns = true → x ≠ .ref D) := by
  have k0 : (R.kee (upd R.keep D o)).keep D = some o := upd_same
  have kn : ∀ a, (R.kee (upd R.keep D o)).keep a = none → R.keep a = none := fun a h => by
    by_cases e : a = D
    · rw [e]; exact hn
    · have h : upd R.keep D o a = none := h
      rw [upd_ne e] at h; exact h
  refine ⟨?_, fun os z => ?_⟩
  · cases s with
    | fz d => exact h
    | sc ns => exact h
    | ex a => exact h
    | ol ds => obtain ⟨a, xs, e, ow, h3⟩ := h; exact ⟨a, xs, e, ⟨ow.1, ow.2.1, kn a ow.2.2⟩, h3⟩
    | od ds => obtain ⟨a, xs, e, ow, h3⟩ := h; exact ⟨a, xs, e, ⟨ow.1, ow.2.1, kn a ow.2.2⟩, h3⟩
    | ot ds => obtain ⟨a, xs, e, ow, h3⟩ := h; exact ⟨a, xs, e, ⟨ow.1, ow.2.1, kn a ow.2.2⟩, h3⟩
    | dr => obtain ⟨a, e, h0, h3⟩ := h; exact ⟨a, e, ⟨h0.1, kn a h0.2⟩, h3⟩
  · obtain ⟨b, e, h1, _⟩ := h.addr os
    rw [z] at e; cases e
    rw [k0] at h1
    cases h1.2
/-- what is to be said of R', in which x is kept aside -/
def Held (K : PySem.W.Frag) (R R' : Root τ) (F : Hp) (x : V) (s : Slot) : Prop := ∀ F2 e2 σ2 H2, Same F F2 → Rel K R' F2 e2 σ2 H2 → Rel K R F2 e2 σ2 H2 ∧ SlotOk K R F2 H2 x s ∧ Fresh e2 σ2 x s ∧ ∀ y t, SlotOk K R' F2 H2 y t → SlotOk K R F2 H2 y t ∧ (t.owns = true → s.owns = true → y ≠ x)
theorem hold {x : V} {s : Slot} (r : Rel K R F env σ H) (p : SlotOk K R F H x s) (fr : Fresh env σ x s) (nd : s ≠ .dr) : ∃ R' : Root τ, Rel K R' F env σ H ∧ Held K R R' F x s := by
  have own : ∀ (a : Addr) (o : HO), x = .ref a → Own R F a → H a = some o → isTbl o = false → isTup o = false → s.owns = true → (∀ F2 H2, Same F F2 → Own R F2 a → H2 a = some o → SlotOk K R F2 H2 x s) → ∃ R' : Root τ, Rel K R' F env σ H ∧ Held K R R' F x s := by
    intro a o ex ow h1 ht htu os up
    refine ⟨_, r.aside h1 ow.1 ow.2.1 ht (fun i t b e1 e2 e3 z => fr os i t b e1 e2 e3 (by rw [z, ex])) htu, fun F2 e2 σ2 H2 ff r2 => ?_⟩
    obtain ⟨rb, hb1, hb2, hb3, hb4⟩ := r2.back ow.2.2
    refine ⟨rb, up F2 H2 ff ⟨hb2, hb3, ow.2.2⟩ hb1, fun _ j t b g1 g2 g3 z => ?_, fun y t py => ?_⟩
    · rw [ex] at z; cases z
      exact hb4 j t a g1 g2 g3 rfl
    · obtain ⟨q1, q2⟩ := slot_kee ow.2.2 py
      exact ⟨q1, fun ot _ => by rw [ex]; exact q2 ot⟩
  have triv : s.owns = false → ∃ R' : Root τ, Rel K R' F env σ H ∧ Held K R R' F x s := fun os =>
    ⟨R, r, fun F2 e2 σ2 H2 ff r2 => ⟨r2, p.fzmono os ff, (fun z => by rw [os] at z; cases z), fun y t py => ⟨py, fun _ z => by rw [os] at z; cases z⟩⟩⟩
  cases s with
  | fz d => exact triv rfl
  | sc ns => exact triv rfl
  | ex a => exact triv rfl
  | dr => exact absurd rfl nd
  | ol ds => obtain ⟨a, xs, e, ow, h1, h2⟩ := p; exact own a _ e ow h1 rfl rfl rfl fun F2 H2 ff o2 h => ⟨a, xs, e, o2, h, rpL_mono ff _ _ h2⟩
  | od ds => obtain ⟨a, xs, e, ow, h1, h2, h3⟩ := p; exact own a _ e ow h1 rfl rfl rfl fun F2 H2 ff o2 h => ⟨a, xs, e, o2, h, kvs_mono ff h2, h3⟩
  | ot ds => obtain ⟨a, xs, e, ow, h1, h2, h3⟩ := p; exact own a _ e ow h1 rfl rfl rfl fun F2 H2 ff o2 h => ⟨a, xs, e, o2, h, kvs_mono ff h2, h3⟩
theorem fresh_set {i : Nat} {x y : V} {s t : Slot} (fr : Fresh env σ y t) (ne : t.owns = true → s.owns = true → y ≠ x) : Fresh (env.set i (some s)) (σ.set i (some x)) y t := fun ot j u a h1 h2 h3 => by
  rcases list_ix_set h1 with ⟨rfl, e⟩ | ⟨hj, e⟩
  · cases e
    have : (σ.set j (some x))[j]? = some (some x) := by
      have hl : j < (σ.set j (some x)).length := (List.getElem?_eq_some_iff.mp h3).1
      rw [List.length_set] at hl
      rw [List.getElem?_set_self hl]
    rw [this] at h3
    cases h3
    exact ne ot h2
  · rw [List.getElem?_set_ne (Ne.symm hj)] at h3
    exact fr ot j u a e h2 h3
end
section
variable {X : Cx} {R : Root τ} {pos : Pos}
@[simp ↓] def wParF (i j : Nat) (wa wb : WF) : WS := fun D env => wa env fun s e1 => s ≠ .dr ∧ wb e1 fun t e2 => t ≠ .dr ∧ D.nx ((e2.set i (some s)).set j (some t))
theorem cs_parF {i j : Nat} {x y : Str} {a b : Expr} {wa wb : WF} {px py pt : Pos} {kt k2 pt2} (hc : X.calm = true) (hN : X.N.Nodup) (hi : X.N[i]? = some x) (hj : X.N[j]? = some y) (hij : i ≠ j)
    (hx : X.env.scope.names.lookup x = some .local) (hy : X.env.scope.names.lookup y = some .local) (ha : CF X R a wa) (hb : ∀ R : Root τ, CF X R b wb)
    (he : starEach [a, b] X.env = (false, eval a X.env) :: starEach [b] X.env := by rfl) (he2 : starEach [b] X.env = (false, eval b X.env) :: starEach [] X.env := by rfl)
    (hw : swappedStores [.Tuple [.Name x px, .Name y py] kt pt] (.Tuple [a, b] k2 pt2) X.env = pure (some [x, y]) := by rfl)
    (hs : swapsWithSole [.Tuple [.Name x px, .Name y py] kt pt] (.Tuple [a, b] k2 pt2) pos.line X.env = pure false := by rfl) :
    CS X R (.Assign [.Tuple [.Name x px, .Name y py] kt pt] (.Tuple [a, b] k2 pt2) pos) (wParF i j wa wb) := by
  have hb' : PE X b (fun σ H Q => ∃ R : Root τ, rdF X.K R wb σ H Q) := ⟨fun pins s σ H Q I ⟨R, q⟩ => (hb R).run pins s σ H Q I q⟩
  refine ps_imp (ps_par hc hN hi hj hij hx hy (pa_cons ha (pa_cons hb' pa_nil he2) he) hw hs) fun D σ H ⟨F, env, W, r, w, l⟩ => ?_
  refine ⟨F, env, _, r, w, fun F1 e1 H1 v s f1 r1 p1 fr1 ⟨nd1, w1⟩ => ?_⟩
  obtain ⟨R', r1', hd⟩ := hold r1 p1 fr1 nd1
  refine ⟨R', F1, e1, _, r1', w1, fun F2 e2 H2 u t f2 r2 p2 fr2 ⟨nd2, w2⟩ => ?_⟩
  obtain ⟨r3, q1, q2, q3⟩ := hd F2 e2 σ H2 f2 r2
  obtain ⟨q4, q5⟩ := q3 u t p2
  exact ⟨v, u, rfl, l.nx F2 _ _ H2 (f1.trans f2) ((r3.set q1 q2).set q4 (fresh_set fr2 q5)) w2⟩
@[simp ↓] def wParF3 (i j m : Nat) (wa wb wc : WF) : WS := fun D env => wa env fun s e1 => s ≠ .dr ∧ wb e1 fun t e2 => t ≠ .dr ∧ wc e2 fun u e3 => u ≠ .dr ∧ D.nx (((e3.set i (some s)).set j (some t)).set m (some u))
theorem cs_parF3 {i j m : Nat} {x y z : Str} {a b c : Expr} {wa wb wc : WF} {px py pz pt : Pos} {kt k2 pt2} (hc : X.calm = true) (hN : X.N.Nodup) (hi : X.N[i]? = some x) (hj : X.N[j]? = some y) (hl : X.N[m]? = some z) (hij : i ≠ j) (him : i ≠ m) (hjm : j ≠ m)
    (hx : X.env.scope.names.lookup x = some .local) (hy : X.env.scope.names.lookup y = some .local) (hz : X.env.scope.names.lookup z = some .local) (ha : CF X R a wa) (hb : ∀ R : Root τ, CF X R b wb) (hcc : ∀ R : Root τ, CF X R c wc)
    (he : starEach [a, b, c] X.env = (false, eval a X.env) :: starEach [b, c] X.env := by rfl) (he2 : starEach [b, c] X.env = (false, eval b X.env) :: starEach [c] X.env := by rfl) (he3 : starEach [c] X.env = (false, eval c X.env) :: starEach [] X.env := by rfl)
    (hw : swappedStores [.Tuple [.Name x px, .Name y py, .Name z pz] kt pt] (.Tuple [a, b, c] k2 pt2) X.env = pure (some [x, y, z]) := by rfl)
    (hs : swapsWithSole [.Tuple [.Name x px, .Name y py, .Name z pz] kt pt] (.Tuple [a, b, c] k2 pt2) pos.line X.env = pure false := by rfl) :
    CS X R (.Assign [.Tuple [.Name x px, .Name y py, .Name z pz] kt pt] (.Tuple [a, b, c] k2 pt2) pos) (wParF3 i j m wa wb wc) := by
  have hb' : PE X b (fun σ H Q => ∃ R : Root τ, rdF X.K R wb σ H Q) := ⟨fun pins s σ H Q I ⟨R, q⟩ => (hb R).run pins s σ H Q I q⟩
  have hc' : PE X c (fun σ H Q => ∃ R : Root τ, rdF X.K R wc σ H Q) := ⟨fun pins s σ H Q I ⟨R, q⟩ => (hcc R).run pins s σ H Q I q⟩
  refine ps_imp (ps_par3 hc hN hi hj hl hij him hjm hx hy hz (pa_cons ha (pa_cons hb' (pa_cons hc' pa_nil he3) he2) he) hw hs) fun D σ H ⟨F, env, W, r, w, l⟩ => ?_
  refine ⟨F, env, _, r, w, fun F1 e1 H1 v s f1 r1 p1 fr1 ⟨nd1, w1⟩ => ?_⟩
  obtain ⟨R', r1', hd⟩ := hold r1 p1 fr1 nd1
  refine ⟨R', F1, e1, _, r1', w1, fun F2 e2 H2 u t f2 r2 p2 fr2 ⟨nd2, w2⟩ => ?_⟩
  obtain ⟨R'', r2', hd2⟩ := hold r2 p2 fr2 nd2
  refine ⟨R'', F2, e2, _, r2', w2, fun F3 e3 H3 y t3 f3 r3 p3 fr3 ⟨nd3, w3⟩ => ?_⟩
  obtain ⟨s3, a1, a2, a3⟩ := hd2 F3 e3 σ H3 f3 r3
  obtain ⟨a4, a5⟩ := a3 y t3 p3
  obtain ⟨s4, b1, b2, b3⟩ := hd F3 e3 σ H3 (f2.trans f3) s3
  obtain ⟨b4, b5⟩ := b3 u t a1
  obtain ⟨b6, b7⟩ := b3 y t3 a4
  exact ⟨v, u, y, rfl, l.nx F3 _ _ H3 ((f1.trans f2).trans f3) (((s4.set b1 b2).set b4 (fresh_set a2 b5)).set b6 (fresh_set (fresh_set fr3 b7) a5)) w3⟩
end
end VL
set_option Elab.async false
set_option linter.all false
set_option maxRecDepth 100000
set_option maxHeartbeats 1000000
/-! VL47: math.gcd. -/
namespace VL
open PySem PySem.Spec PyProof.Rows L2
variable {τ : Tau}
section
variable {X : Cx} {R : Root τ} {K : PySem.W.Frag} {e : Expr} {es : List Expr} {ws : WOs} {x : Str} {p pos : Pos}
@[simp ↓] def gGcd : GA := fun ds k => match ds with
  | [.int a, .int b] => k (.int ((Nat.gcd a.natAbs b.natAbs : Nat) : Int))
  | _ => False
theorem cw_gcd : CallW K R rGcd gGcd := by
  intro F env σ H xs ds k Q r b w q
  match ds, w with
  | [.int i, .int j], w =>
    obtain ⟨x, y, rfl, bx, bY⟩ := br2 b
    obtain rfl := bx.int
    obtain rfl := bY.int
    exact ⟨i, j, rfl, q F H _ _ (Same.refl F) r (.int _) w⟩
/-- a module's name for a built-in function -/
theorem ce_callBfun {id : String} {r : List V → Hp → VK → Prop} {g : GA} (hc : CallR X (.builtin id) r) (hw : CallW X.K R r g) (hg : Gl X x) (hm : X.mg x = some (.builtin id)) (ha : COs X R (e :: es) ws) (hdb : (x == ("__debug__" : Str)) = false := by decide)
    (he : starEach (e :: es) X.env = (false, eval e X.env) :: starEach es X.env := by rfl) (hpl : (backTo pos (starEach es X.env)).any (·.1) = false := by rfl) : CE X R (.Call (.Name x p) (e :: es) [] pos) (wCallB g ws) :=
  pe_imp (pe_callBfun hc hg hm ha hdb he hpl) (wCallB_rd hw)
theorem ce_gcd (hg : Gl X x) (hm : X.mg x = some (.builtin "math.gcd")) (ha : COs X R (e :: es) ws) (hdb : (x == ("__debug__" : Str)) = false := by decide)
    (he : starEach (e :: es) X.env = (false, eval e X.env) :: starEach es X.env := by rfl) (hpl : (backTo pos (starEach es X.env)).any (·.1) = false := by rfl) : CE X R (.Call (.Name x p) (e :: es) [] pos) (wCallB gGcd ws) :=
  ce_callBfun cr_gcd cw_gcd hg hm ha hdb he hpl
end
end VL
set_option Elab.async false
set_option linter.all false
set_option maxRecDepth 100000
set_option maxHeartbeats 1000000
/-! VL48: [f, g][i](..): a def of a list is called. -/
namespace VL
open PySem PySem.Spec PyProof.Rows L2
variable {τ : Tau}
theorem rangeD_nat (k n : Nat) : rangeD (k : Int) n = (List.range' k n).map fun x : Nat => .int (x : Nat) := by
  rw [List.range'_eq_map_range, List.map_map, rangeD_map]
  exact List.map_congr_left fun i _ => by simp
theorem getLast_snoc {α : Type} (a : α) (l : List α) (x : α) : (a :: (l ++ [x])).getLast? = some x := by
  rw [← List.cons_append, List.getLast?_append]; rfl
theorem cdivL {a b : Int} (h0 : 0 < b) (h1 : b < 2 ^ 62) : CDivW a b := by
  refine ⟨h0, ?_⟩
  have := log2_small (n := b.natAbs) (by omega)
  omega
theorem fnOk_X {P : Program} {w : World} {K : PySem.W.Frag} {mg : Str → Option Value} {base : Heap} {k : Nat} {f : Addr} {fd : FuncData} {ps : List Str} {sp : Sp} {CX : CXT} (F : FnOk P w K mg base CX0 k f fd ps sp) : FnOk P w K mg base CX k f fd ps sp :=
  ⟨F.len, fun A outer s H args us vs Q E hr e0 hb r h => codeAny_mono (F.run A outer s H args us vs Q E hr e0 hb r h) fun r s' hq => by
    cases r with
    | ok fl => cases fl <;> exact hq
    | error e => exact False.elim hq⟩
theorem Cal.toX {P : Program} {w : World} {K : PySem.W.Frag} {mg : Str → Option Value} {base : Heap} {k : Nat} {x : Str} {ps : List Str} {fw : FW} (C : Cal τ P w K mg base k x ps fw) : CalX τ P w K mg base k x ps fw := by
  obtain ⟨f, fd, F, h⟩ := C.ex
  exact ⟨⟨f, fd, fnOk_X F, h⟩⟩
section
variable {X : Cx} {R : Root τ} {e g : Expr} {es gs : List Expr} {pos : Pos} {wa : WAs} {ex : Ex}
/-- what one of the names in the list stands for -/
structure LstF (X : Cx) (n : Nat) (x : Str) (fw : FW) : Prop where
  ex : ∃ f fd k ps, FnOk X.prog X.w X.K X.mg X.base (L2N.CX X.prog X.w) k f fd ps (spW τ X.K X.mg n fw) ∧ ps.length = n ∧ X.mg x = some (.ref f) ∧ PySem.W.keepIn X.K (.ref f) = true ∧ Binds X.K fd ps [] ∧ Room k X.A
theorem lstF {k n : Nat} {x : Str} {ps : List Str} {fw : FW} (C : CalX τ X.prog X.w X.K X.mg X.base k x ps fw) (hn : ps.length = n) (hr : Room k X.A) : LstF (τ := τ) X n x fw := by
  subst hn
  obtain ⟨f, fd, F, h1, h2, h3⟩ := C.ex
  exact ⟨⟨f, fd, k, ps, F, rfl, h1, h2, h3, hr⟩⟩
/-- the names of the list and what they are -/
inductive NamesF (τ : Tau) (X : Cx) (n : Nat) : List Expr → List FW → List V → Prop
  | nil : NamesF τ X n [] [] []
  | cons {x : Str} {q : Pos} {fw : FW} {f : Addr} {gs : List Expr} {fws : List FW} {vs : List V} : Gl X x → (x == ("__debug__" : Str)) = false → LstF (τ := τ) X n x fw → X.mg x = some (.ref f) → starEach (.Name x q :: gs) X.env = (false, eval (.Name x q) X.env) :: starEach gs X.env → NamesF τ X n gs fws vs → NamesF τ X n (.Name x q :: gs) (fw :: fws) (.ref f :: vs)
def tRefs (vs : List V) : TA := fun _ H Q => Q vs H
theorem pa_names {n : Nat} : ∀ {gs : List Expr} {fws : List FW} {vs : List V}, NamesF τ X n gs fws vs → PA X gs (tRefs vs)
  | _, _, _, .nil => pa_imp pa_nil fun σ H Q h => h
  | _, _, _, .cons hg hd _ hm hs t => pa_imp (pa_cons (pe_glob (v := V.ref _) hg hm rfl hd) (pa_names t) hs) fun σ H Q h => h
theorem names_at {n : Nat} {gs : List Expr} {fws : List FW} {vs : List V} (N : NamesF τ X n gs fws vs) : ∀ {i : Nat} {fw : FW}, fws[i]? = some fw → ∃ x f, vs[i]? = some (.ref f) ∧ X.mg x = some (.ref f) ∧ LstF (τ := τ) X n x fw := by
  induction N with
  | nil => intro i fw h; simp at h
  | cons _ _ hl hm _ _ ih =>
    intro i fw h
    cases i with
    | zero => cases h; exact ⟨_, _, rfl, hm, hl⟩
    | succ i => exact ih h
theorem names_len {n : Nat} : ∀ {gs : List Expr} {fws : List FW} {vs : List V}, NamesF τ X n gs fws vs → vs.length = fws.length
  | _, _, _, .nil => rfl
  | _, _, _, .cons _ _ _ _ _ t => congrArg (· + 1) (names_len t)
theorem names_get {n : Nat} {x : Str} {q : Pos} {fw : FW} (hg : Gl X x) (hd : (x == ("__debug__" : Str)) = false) (h : LstF (τ := τ) X n x fw) (hs : starEach (.Name x q :: gs) X.env = (false, eval (.Name x q) X.env) :: starEach gs X.env) {fws : List FW} (t : ∃ vs, NamesF τ X n gs fws vs) : ∃ vs, NamesF τ X n (.Name x q :: gs) (fw :: fws) vs := by
  obtain ⟨vs, t⟩ := t
  obtain ⟨f, fd, k, ps, _, _, hm, _⟩ := id h.ex
  exact ⟨_, .cons hg hd h hm hs t⟩
@[simp ↓] def wCallL (ex : Ex) (n : Nat) (fws : List FW) (j : Nat) (wa : WAs) : WF := fun env Q => ∃ (i : Nat) (fw : FW), env.getD j none = some (.fz (.int (i : Nat))) ∧ fws[i]? = some fw ∧ wa env fun as is e1 => as.length = n ∧ drsOk e1 is none ∧ fw as (fun s => okRet is s ∧ Q s e1) fun nm => ex nm e1
theorem cf_callL {n j : Nat} {y : Str} {q3 q4 q5 : Pos} {fws : List FW} (N : ∃ vs, NamesF τ X n gs fws vs) (hz : fws.length ≤ 100) (tk : TakesW X R ex) (hy : PE X (.Name y q5) (tVar j)) (ha : CAs X R (e :: es) wa)
    (he : starEach (e :: es) X.env = (false, eval e X.env) :: starEach es X.env) (hpl : (backTo pos (starEach es X.env)).any (·.1) = false) (hs : PlainIx (.Name y q5))
    (ht : eval (.Call (.Subscript (.List gs q3) (.Name y q5) q4) (e :: es) [] pos) X.env = (do callWith pos (← eval (.Subscript (.List gs q3) (.Name y q5) q4) X.env) [] (backTo pos (starEach (e :: es) X.env)) (backToKw pos (keywordEach [] X.env)))) :
    CF X R (.Call (.Subscript (.List gs q3) (.Name y q5) q4) (e :: es) [] pos) (wCallL ex n fws j wa) := by
  obtain ⟨vs, N⟩ := N
  obtain ⟨W, tk, hw⟩ := tk
  refine ⟨fun pins s σ H Q I h => ?_⟩
  obtain ⟨F, env, Qw, r, ⟨i, fw, w0, hfw, w⟩, k⟩ := h
  have w1 : env[j]? = some (some (.fz (.int (i : Nat)))) := by
    rw [List.getD_eq_getElem?_getD] at w0
    cases e : env[j]? with
    | none => rw [e] at w0; cases w0
    | some o => rw [e] at w0; exact congrArg some w0
  obtain ⟨y0, y1, y2⟩ := r.sl j _ w1
  cases y2
  obtain ⟨x, f, hv, hm, hl⟩ := names_at N hfw
  obtain ⟨f', fd, kk, ps, Fn, hps, hm', hk, hb, hr⟩ := hl.ex
  have ef : f' = f := by rw [hm] at hm'; injection hm' with z; injection z with z; exact z.symm
  subst ef
  have hfun := pe_ix ix_list (pe_lst (pos := q3) (pa_names N)) hy hs (pos := q4)
  refine Call_ (thn (hfun.run pins s σ H (fun v H1 => v = .ref f' ∧ ∃ p, H p = none ∧ H1 = upd H p (.lst vs)) I ?_) fun u s1 ⟨v, H1, I1, ru, ev, p, hp, eH⟩ => ?_) ht
  · refine ⟨by rw [names_len N]; exact Nat.le_trans hz (by decide), fun p hp => ⟨_, y1, p, vs, (i : Nat), .ref f', rfl, rfl, .inl (.inl upd_same), by rw [VL.atI_nat]; exact hv, rfl, p, hp, rfl⟩⟩
  · subst ev
    subst eH
    obtain rfl : u = Value.ref f' := ru
    have r1 : Rel X.K R F env σ (upd H p (.lst vs)) := r.up (r.toBase.allocO hp rfl) (Same.refl F)
    refine PySem.W.callWith_K (h₀ := X.base) I1.ok.mod.kin hk (thn (ha.run pos pins s1 σ _ (fun xs H2 => spW τ X.K X.mg n fw xs H2 Q (L2.WE W σ)) I1 ⟨F, env, _, r1, w, fun F1 e1 H2 xs as is f1 r2 p2 w2 => ?_⟩) fun us s2 ⟨vs2, H2, I2, r2, q⟩ => ⟨I2.kIn, ?_⟩) he hpl
    · obtain ⟨hl2, hd2, w3⟩ := w2
      exact call_rdX (by rw [p2.len]; exact hl2) r2 p2 hd2 w3 (fun F2 H3 z s3 f2 r3 p3 fr q => k F2 e1 H3 z s3 (f1.trans f2) r3 p3 fr q) fun nm C F2 H3 g r3 z => hw nm C F2 e1 σ H3 g r3 z
    · subst hps
      exact run_fnS Fn hr hb (L2N.passAt tk σ) I2 r2 q
end
end VL
set_option Elab.async false
set_option linter.all false
set_option maxRecDepth 100000
set_option maxHeartbeats 1000000
/-! VL49: a, b = x, y with new lists, where a tuple is made (names that a comprehension captures). -/
namespace VL
open PySem PySem.Spec PyProof.Rows L2
variable {τ : Tau}
section
variable {X : Cx} {R : Root τ} {pos : Pos}
theorem cs_parT {i j : Nat} {x y : Str} {a b : Expr} {wa wb : WF} {px py pt : Pos} {kt k2 pt2} (hc : X.calm = true) (hg1 : PG X (.Name x px) (gName i)) (hg2 : PG X (.Name y py) (gName j)) (ha : CF X R a wa) (hb : ∀ R : Root τ, CF X R b wb)
    (he : starEach [a, b] X.env = (false, eval a X.env) :: starEach [b] X.env := by rfl) (he2 : starEach [b] X.env = (false, eval b X.env) :: starEach [] X.env := by rfl)
    (hw : swappedStores [.Tuple [.Name x px, .Name y py] kt pt] (.Tuple [a, b] k2 pt2) X.env = pure none := by rfl)
    (hs : swapsWithSole [.Tuple [.Name x px, .Name y py] kt pt] (.Tuple [a, b] k2 pt2) pos.line X.env = pure false := by rfl)
    (h1 : (assignEach [.Tuple [.Name x px, .Name y py] kt pt] X.env).map (·.2) = [assign (.Tuple [.Name x px, .Name y py] kt pt) X.env] := by rfl)
    (h2 : (assignEach [.Name x px, .Name y py] X.env).map (·.2) = assign (.Name x px) X.env :: (assignEach [.Name y py] X.env).map (·.2) := by rfl)
    (h3 : (assignEach [.Name y py] X.env).map (·.2) = assign (.Name y py) X.env :: (assignEach [] X.env).map (·.2) := by rfl)
    (hn : (assignEach [.Name x px, .Name y py] X.env).length = 2 := by rfl) (hst : (assignEach [.Name x px, .Name y py] X.env).findIdx? (·.1) = none := by rfl) :
    CS X R (.Assign [.Tuple [.Name x px, .Name y py] kt pt] (.Tuple [a, b] k2 pt2) pos) (wParF i j wa wb) := by
  have hb' : PE X b (fun σ H Q => ∃ R : Root τ, rdF X.K R wb σ H Q) := ⟨fun pins s σ H Q I ⟨R, q⟩ => (hb R).run pins s σ H Q I q⟩
  refine ps_imp (ps_asg (pe_tup (pa_cons ha (pa_cons hb' pa_nil he2) he)) (pg_tup hc (pgs_cons hg1 (pgs_cons hg2 pgs_nil h3) h2) hn hst) hs hw h1) fun D σ H ⟨F, env, W, r, w, l⟩ => ?_
  refine ⟨F, env, _, r, w, fun F1 e1 H1 v s f1 r1 p1 fr1 ⟨nd1, w1⟩ => ?_⟩
  obtain ⟨R', r1', hd⟩ := hold r1 p1 fr1 nd1
  refine ⟨R', F1, e1, _, r1', w1, fun F2 e2 H2 u t f2 r2 p2 fr2 ⟨nd2, w2⟩ => ?_⟩
  obtain ⟨r3, q1, q2, q3⟩ := hd F2 e2 σ H2 f2 r2
  obtain ⟨q4, q5⟩ := q3 u t p2
  refine ⟨by show 2 ≤ sizeLine; decide, fun p hp => ?_⟩
  have bb := r3.toBase.allocO (o := .tup [v, u]) hp rfl
  have r4 := r3.up bb (Same.refl F2)
  exact ⟨p, [v, u], rfl, .inl (.inl upd_same), rfl, v, [u], rfl, u, [], rfl, rfl, l.nx F2 _ _ _ (f1.trans f2) ((r4.set (q1.up bb (Same.refl F2)) q2).set (q4.up bb (Same.refl F2)) (fresh_set fr2 q5)) w2⟩
end
end VL
set_option Elab.async false
set_option linter.all false
set_option maxRecDepth 100000
set_option maxHeartbeats 1000000
/-! VL50: zip of a list with a tuple. -/
namespace VL
open PySem PySem.Spec PyProof.Rows L2 RZ
variable {τ : Tau}
/-! ### a sequence of either kind: true for a list, false for a tuple -/
def SqK (b : Bool) (K : PySem.W.Frag) (H : Hp) (a : Addr) (xs : List V) : Prop := match b with
  | true => SqL K H a xs
  | false => SqT K H a xs
def HpS (b : Bool) (h : Heap) (l : Addr) (xs : Array Value) : Prop := match b with
  | true => h.IsList l xs
  | false => h.IsTuple l xs
def HpI (b : Bool) (h : Heap) (it l : Addr) (i : Nat) : Prop := match b with
  | true => h.IsListIter it l i
  | false => h.IsTupleIter it l i
def itN : Bool → String
  | true => "list_iterator"
  | false => "tuple_iterator"
section
variable {h h' : Heap} {a c l : Addr} {xs : Array Value} {i : Nat}
theorem HpS.at {b : Bool} (x : HpS b h a xs) (e : ∀ o, h.get? a = some o → h'.get? a = some o) : HpS b h' a xs := by
  cases b with
  | true => exact Heap.IsList.at x e
  | false => exact Heap.IsTuple.at x e
theorem HpI.at {b : Bool} (x : HpI b h a l i) (e : ∀ o, h.get? a = some o → h'.get? a = some o) : HpI b h' a l i := by
  cases b with
  | true => exact Heap.IsListIter.at x e
  | false => exact Heap.IsTupleIter.at x e
theorem HpS.ext {b : Bool} (x : HpS b h a xs) (s : Heap.ExtBut c h h') (n : a ≠ c) : HpS b h' a xs := x.at fun o e => s _ o n e
theorem HpI.ext {b : Bool} (x : HpI b h a l i) (s : Heap.ExtBut c h h') (n : a ≠ c) : HpI b h' a l i := x.at fun o e => s _ o n e
theorem HpS.lt {b : Bool} (x : HpS b h a xs) : a < h.objs.size := by
  cases b with
  | true => obtain ⟨o, e, _⟩ := (show h.IsList a xs from x); exact Heap.lt_size e
  | false => obtain ⟨o, e, _⟩ := (show h.IsTuple a xs from x); exact Heap.lt_size e
theorem HpI.fields {b : Bool} (x : HpI b h a l i) : ∃ o, h.get? a = some o ∧ ∃ fs, o.data = .fields fs := by
  cases b with
  | true => obtain ⟨o, e, _, d⟩ := (show h.IsListIter a l i from x); exact ⟨o, e, _, d⟩
  | false => obtain ⟨o, e, _, d⟩ := (show h.IsTupleIter a l i from x); exact ⟨o, e, _, d⟩
end
section
variable {prog : Program} {w : World} {A : Around} {E : Value → Shared → Prop} {s : Shared}
theorem nextK_item {b : Bool} {it l : Addr} {i : Nat} {xs : Array Value} {x : Value} {Q : Value → Shared → Prop} (hi : HpI b s.heap it l i) (hl : HpS b s.heap l xs) (hx : xs[i]? = some x)
    (hQ : ∀ h', HpI b h' it l (i + 1) → Heap.SameBut it s.heap h' → Q x { s with heap := h' }) : wpAny (model prog w) A (Builtin.SmallTypes.nextOf (.ref it)) Q E s := by
  cases b with
  | true => exact wpAny_nextOf_list_item hi hl hx hQ
  | false => exact nextOf_tuple_item hi hl hx hQ
theorem nextK_end {b : Bool} {it l : Addr} {i : Nat} {xs : Array Value} {Q : Value → Shared → Prop} (hh : A.handled = none) (hi : HpI b s.heap it l i) (hl : HpS b s.heap l xs) (hx : xs[i]? = none)
    (hE : ∀ h' e, Heap.ExtBut it s.heap h' → (∃ o, h'.get? e = some o ∧ o.cls = .type "StopIteration") → E (.ref e) { s with heap := h' }) : wpAny (model prog w) A (Builtin.SmallTypes.nextOf (.ref it)) Q E s := by
  cases b with
  | true => exact wpAny_nextOf_list_end hh hi hl hx hE
  | false => exact nextOf_tuple_end hh hi hl hx hE
theorem zipK_next_item {b1 b2 : Bool} {z TI TO i1 i2 l1 l2 : Addr} {k1 k2 : Nat} {xs ys : Array Value} {x y a b : Value} {Q : Value → Shared → Prop} (D : ZipApart z TI TO i1 i2 l1 l2)
    (hz : IsZip s.heap z TI TO .none) (hTI : IsPair s.heap TI (.ref i1) (.ref i2)) (hTO : IsPair s.heap TO a b)
    (h1 : HpI b1 s.heap i1 l1 k1) (h2 : HpI b2 s.heap i2 l2 k2) (hl1 : HpS b1 s.heap l1 xs) (hl2 : HpS b2 s.heap l2 ys) (hx : xs[k1]? = some x) (hy : ys[k2]? = some y)
    (hQ : ∀ h', IsZip h' z TI TO (rawInt s.heap.objs.size) → IsPair h' TO x y → HpI b1 h' i1 l1 (k1 + 1) → HpI b2 h' i2 l2 (k2 + 1) → IsPair h' s.heap.objs.size x y → h'.objs.size = s.heap.objs.size + 1 →
      (∀ c o, c ≠ z → c ≠ TO → c ≠ i1 → c ≠ i2 → s.heap.get? c = some o → h'.get? c = some o) → Q (.ref s.heap.objs.size) { s with heap := h' }) :
    wpAny (model prog w) A (Builtin.«zip.__next__» ⟨[.ref z], []⟩) (fun fin s' => ∃ v, fin = .done (.ret v) ∧ Q v s') E s := by
  show wpAny _ _ (field (.ref z) 2 >>= _) _ _ _
  refine wpAny_bind (wpAny_field hz rfl (x := .bool false) rfl ?_)
  show wpAny _ _ (field (.ref z) 3 >>= _) _ _ _
  refine wpAny_bind (wpAny_field hz rfl (x := .ref TI) rfl ?_)
  refine wpAny_bind (wpAny_seqItems hTI rfl ?_)
  show wpAny _ _ (Builtin.SmallTypes.ownedTupleIsFree (.ref z) >>= _) _ _ _
  refine wpAny_bind ?_
  unfold Builtin.SmallTypes.ownedTupleIsFree
  refine wpAny_bind (wpAny_field hz rfl (x := .none) rfl (wpAny_pure ?_))
  simp only [if_true]
  refine wpAny_bind (wpAny_rule (wpAny_bind (wpAny_field hz rfl (x := .ref TO) rfl ?_)))
  refine wpAny_bind (wpAny_setField_rec hz (by simp) fun g1 z1 s1 => wpAny_bind ?_)
  replace z1 : IsZip g1 z TI TO .ellipsis := z1
  simp only [List.zipIdx_cons, List.zipIdx_nil, List.forIn_cons, List.forIn_nil]
  refine wpAny_bind (wpAny_bind (wpAny_onRaise ?_))
  show wpAny _ _ (Builtin.SmallTypes.nextOf (.ref i1) >>= _) _ _ _
  refine wpAny_bind (nextK_item (s := { s with heap := g1 }) (h1.ext s1.extBut D.i1z) (hl1.ext s1.extBut D.l1z) hx fun g2 a2 s2 => wpAny_pure ?_)
  have o2 : IsPair g2 TO a b := s2.extBut _ _ D.TOi1 (s1.extBut _ _ D.TOz hTO)
  refine wpAny_bind (wpAny_seqItems o2 rfl (wpAny_bind (wpAny_updateSeq_pair o2 fun g3 o3 s3 => wpAny_bind (wpAny_letGo (wpAny_pure ?_)))))
  replace o3 : IsPair g3 TO x b := o3
  refine wpAny_bind (wpAny_bind (wpAny_onRaise ?_))
  show wpAny _ _ (Builtin.SmallTypes.nextOf (.ref i2) >>= _) _ _ _
  refine wpAny_bind (nextK_item (s := { s with heap := g3 }) (((h2.ext s1.extBut D.i2z).ext s2.extBut D.i12.symm).ext s3.extBut D.TOi2.symm) (((hl2.ext s1.extBut D.l2z).ext s2.extBut D.l2i1).ext s3.extBut D.l2TO) hy fun g4 a4 s4 => wpAny_pure ?_)
  have o4 : IsPair g4 TO x b := s4.extBut _ _ D.TOi2 o3
  refine wpAny_bind (wpAny_seqItems o4 rfl (wpAny_bind (wpAny_updateSeq_pair o4 fun g5 o5 s5 => wpAny_bind (wpAny_letGo (wpAny_pure (wpAny_pure ?_))))))
  replace o5 : IsPair g5 TO x y := o5
  refine wpAny_bind (wpAny_seqItems o5 rfl (wpAny_bind (wpAny_newTuple ?_)))
  have sz : g5.objs.size = s.heap.objs.size := by rw [s5.1, s4.1, s3.1, s2.1, s1.1]
  have z5 : IsZip g5 z TI TO .ellipsis := s5.extBut _ _ D.TOz.symm (s4.extBut _ _ D.i2z.symm (s3.extBut _ _ D.TOz.symm (s2.extBut _ _ D.i1z.symm z1)))
  have k5 : ∀ c o, c ≠ z → c ≠ TO → c ≠ i1 → c ≠ i2 → s.heap.get? c = some o → g5.get? c = some o := fun c o c1 c2 c3 c4 e =>
    s5.extBut _ _ c2 (s4.extBut _ _ c4 (s3.extBut _ _ c2 (s2.extBut _ _ c3 (s1.extBut _ _ c1 e))))
  have a5 : HpI b1 g5 i1 l1 (k1 + 1) := ((a2.ext s3.extBut D.TOi1.symm).ext s4.extBut D.i12).ext s5.extBut D.TOi1.symm
  have c5 : HpI b2 g5 i2 l2 (k2 + 1) := a4.ext s5.extBut D.TOi2.symm
  have zlt : z < g5.objs.size := Heap.lt_size z5
  show wpAny _ _ (Builtin.SmallTypes.ownedTupleHandOut (.ref z) (.ref g5.objs.size) >>= _) _ _ _
  refine wpAny_bind ?_
  unfold Builtin.SmallTypes.ownedTupleHandOut
  have z6 : IsZip (g5.push { cls := .type "tuple", data := .seq #[x, y] }) z TI TO .ellipsis := Heap.get?_push_of_some _ z5
  refine wpAny_bind (wpAny_setField_rec z6 (by simp) fun g7 z7 s7 => ?_)
  replace z7 : IsZip g7 z TI TO (rawInt g5.objs.size) := z7
  refine wpAny_setField_rec z7 (by simp) fun g8 z8 s8 => ?_
  replace z8 : IsZip g8 z TI TO (rawInt g5.objs.size) := z8
  have up : ∀ c o, c ≠ z → g5.get? c = some o → g8.get? c = some o := fun c o c1 e => s8.extBut _ _ c1 (s7.extBut _ _ c1 (Heap.get?_push_of_some _ e))
  have t8 : IsPair g8 g5.objs.size x y := s8.extBut _ _ (Nat.ne_of_gt zlt) (s7.extBut _ _ (Nat.ne_of_gt zlt) (Heap.get?_push_size _ rfl))
  have n8 : g8.objs.size = g5.objs.size + 1 := by rw [s8.1, s7.1, Heap.size_push]
  rw [sz] at z8 t8 n8
  refine wpAny_pure ⟨_, rfl, ?_⟩
  show Q (.ref g5.objs.size) _
  rw [sz]
  exact hQ g8 z8 (up _ _ D.TOz o5) (a5.at fun o e => up _ o D.i1z e) (c5.at fun o e => up _ o D.i2z e) t8 n8 fun c o c1 c2 c3 c4 e => up c o c1 (k5 c o c1 c2 c3 c4 e)
theorem zipK_next_end {b1 b2 : Bool} {z TI TO i1 i2 l1 l2 : Addr} {k1 k2 : Nat} {xs ys : Array Value} {a b : Value} {Q : Fin → Shared → Prop} (hh : A.handled = none) (D : ZipApart z TI TO i1 i2 l1 l2)
    (hz : IsZip s.heap z TI TO .none) (hTI : IsPair s.heap TI (.ref i1) (.ref i2)) (hTO : IsPair s.heap TO a b)
    (h1 : HpI b1 s.heap i1 l1 k1) (h2 : HpI b2 s.heap i2 l2 k2) (hl1 : HpS b1 s.heap l1 xs) (hl2 : HpS b2 s.heap l2 ys) (hend : xs[k1]? = none ∨ ys[k2]? = none)
    (hE : ∀ h' e, (∀ c o, c ≠ z → c ≠ TO → c ≠ i1 → c ≠ i2 → s.heap.get? c = some o → h'.get? c = some o) → (∃ o, h'.get? e = some o ∧ o.cls = .type "StopIteration") → E (.ref e) { s with heap := h' }) :
    wpAny (model prog w) A (Builtin.«zip.__next__» ⟨[.ref z], []⟩) Q E s := by
  show wpAny _ _ (field (.ref z) 2 >>= _) _ _ _
  refine wpAny_bind (wpAny_field hz rfl (x := .bool false) rfl ?_)
  show wpAny _ _ (field (.ref z) 3 >>= _) _ _ _
  refine wpAny_bind (wpAny_field hz rfl (x := .ref TI) rfl ?_)
  refine wpAny_bind (wpAny_seqItems hTI rfl ?_)
  show wpAny _ _ (Builtin.SmallTypes.ownedTupleIsFree (.ref z) >>= _) _ _ _
  refine wpAny_bind ?_
  unfold Builtin.SmallTypes.ownedTupleIsFree
  refine wpAny_bind (wpAny_field hz rfl (x := .none) rfl (wpAny_pure ?_))
  simp only [if_true]
  refine wpAny_bind (wpAny_rule (wpAny_bind (wpAny_field hz rfl (x := .ref TO) rfl ?_)))
  refine wpAny_bind (wpAny_setField_rec hz (by simp) fun g1 z1 s1 => wpAny_bind ?_)
  replace z1 : IsZip g1 z TI TO .ellipsis := z1
  simp only [List.zipIdx_cons, List.zipIdx_nil, List.forIn_cons, List.forIn_nil]
  refine wpAny_bind (wpAny_bind (wpAny_onRaise ?_))
  show wpAny _ _ (Builtin.SmallTypes.nextOf (.ref i1) >>= _) _ _ _
  cases hx : xs[k1]? with
  | none =>
    refine wpAny_bind (nextK_end (s := { s with heap := g1 }) hh (h1.ext s1.extBut D.i1z) (hl1.ext s1.extBut D.l1z) hx fun g2 e s2 he => ?_)
    obtain ⟨oe, hoe, hce⟩ := he
    have z2 : IsZip g2 z TI TO .ellipsis := s2 _ _ D.i1z.symm z1
    have hez : e ≠ z := fun x => by subst x; rw [z2] at hoe; cases hoe; simp at hce
    refine wpAny_setField_rec z2 (by simp) fun g3 _ s3 => hE g3 e (fun c o c1 _ c3 _ x => s3.extBut _ _ c1 (s2 _ _ c3 (s1.extBut _ _ c1 x))) ⟨oe, s3.extBut _ _ hez hoe, hce⟩
  | some x =>
    have hy : ys[k2]? = none := by rcases hend with h | h; rw [hx] at h; cases h; exact h
    refine wpAny_bind (nextK_item (s := { s with heap := g1 }) (h1.ext s1.extBut D.i1z) (hl1.ext s1.extBut D.l1z) hx fun g2 a2 s2 => wpAny_pure ?_)
    have o2 : IsPair g2 TO a b := s2.extBut _ _ D.TOi1 (s1.extBut _ _ D.TOz hTO)
    refine wpAny_bind (wpAny_seqItems o2 rfl (wpAny_bind (wpAny_updateSeq_pair o2 fun g3 o3 s3 => wpAny_bind (wpAny_letGo (wpAny_pure ?_)))))
    refine wpAny_bind (wpAny_bind (wpAny_onRaise ?_))
    show wpAny _ _ (Builtin.SmallTypes.nextOf (.ref i2) >>= _) _ _ _
    refine wpAny_bind (nextK_end (s := { s with heap := g3 }) hh (((h2.ext s1.extBut D.i2z).ext s2.extBut D.i12.symm).ext s3.extBut D.TOi2.symm)
      (((hl2.ext s1.extBut D.l2z).ext s2.extBut D.l2i1).ext s3.extBut D.l2TO) hy fun g4 e s4 he => ?_)
    obtain ⟨oe, hoe, hce⟩ := he
    have z4 : IsZip g4 z TI TO .ellipsis := s4 _ _ D.i2z.symm (s3.extBut _ _ D.TOz.symm (s2.extBut _ _ D.i1z.symm z1))
    have hez : e ≠ z := fun x => by subst x; rw [z4] at hoe; cases hoe; simp at hce
    refine wpAny_setField_rec z4 (by simp) fun g5 _ s5 => hE g5 e (fun c o c1 c2 c3 c4 x => s5.extBut _ _ c1 (s4 _ _ c4 (s3.extBut _ _ c2 (s2.extBut _ _ c3 (s1.extBut _ _ c1 x))))) ⟨oe, s5.extBut _ _ hez hoe, hce⟩
theorem pyNext_zipK_item {b1 b2 : Bool} {z TI TO i1 i2 l1 l2 : Addr} {k1 k2 : Nat} {xs ys : Array Value} {x y a b : Value} {Q : Option Value → Shared → Prop} (D : ZipApart z TI TO i1 i2 l1 l2)
    (hz : IsZip s.heap z TI TO .none) (hTI : IsPair s.heap TI (.ref i1) (.ref i2)) (hTO : IsPair s.heap TO a b)
    (h1 : HpI b1 s.heap i1 l1 k1) (h2 : HpI b2 s.heap i2 l2 k2) (hl1 : HpS b1 s.heap l1 xs) (hl2 : HpS b2 s.heap l2 ys) (hx : xs[k1]? = some x) (hy : ys[k2]? = some y)
    (hQ : ∀ h', IsZip h' z TI TO (rawInt s.heap.objs.size) → IsPair h' TO x y → HpI b1 h' i1 l1 (k1 + 1) → HpI b2 h' i2 l2 (k2 + 1) → IsPair h' s.heap.objs.size x y → h'.objs.size = s.heap.objs.size + 1 →
      (∀ c o, c ≠ z → c ≠ TO → c ≠ i1 → c ≠ i2 → s.heap.get? c = some o → h'.get? c = some o) → Q (some (.ref s.heap.objs.size)) { s with heap := h' }) :
    wpAny (model prog w) A (pyNext (.ref z)) Q E s := by
  have hT : s.TypeIs (.ref z) "zip" := ⟨_, hz, rfl⟩
  unfold pyNext
  exact wpAny_bind (wpAny_attempt (wpAny_callSpecial?_slot (name := Str.ofString "__next__") hT F.slot_zip_next
    (wpAny_call_entry F.slot_zip_next hT F.entry_zip_next
      (zipK_next_item D hz hTI hTO h1 h2 hl1 hl2 hx hy fun h' a1 a2 a3 a4 a5 a6 a7 => wpAny_pure (hQ h' a1 a2 a3 a4 a5 a6 a7)) (F.args_zip_next_1 _))))
theorem pyNext_zipK_end {b1 b2 : Bool} {z TI TO i1 i2 l1 l2 : Addr} {k1 k2 : Nat} {xs ys : Array Value} {a b : Value} {Q : Option Value → Shared → Prop} (hh : A.handled = none) (D : ZipApart z TI TO i1 i2 l1 l2)
    (hz : IsZip s.heap z TI TO .none) (hTI : IsPair s.heap TI (.ref i1) (.ref i2)) (hTO : IsPair s.heap TO a b)
    (h1 : HpI b1 s.heap i1 l1 k1) (h2 : HpI b2 s.heap i2 l2 k2) (hl1 : HpS b1 s.heap l1 xs) (hl2 : HpS b2 s.heap l2 ys) (hend : xs[k1]? = none ∨ ys[k2]? = none)
    (hQ : ∀ h', (∀ c o, c ≠ z → c ≠ TO → c ≠ i1 → c ≠ i2 → s.heap.get? c = some o → h'.get? c = some o) → Q none { s with heap := h' }) : wpAny (model prog w) A (pyNext (.ref z)) Q E s := by
  have hT : s.TypeIs (.ref z) "zip" := ⟨_, hz, rfl⟩
  unfold pyNext
  refine wpAny_bind (wpAny_attempt (wpAny_callSpecial?_slot (name := Str.ofString "__next__") hT F.slot_zip_next
    (wpAny_call_entry F.slot_zip_next hT F.entry_zip_next (zipK_next_end hh D hz hTI hTO h1 h2 hl1 hl2 hend fun h' e hk he => ?_) (F.args_zip_next_1 _))))
  obtain ⟨o, ho, hc⟩ := he
  exact wpAny_bind (wpAny_isInstance (T := "StopIteration") (b := true) ⟨o, ho, hc⟩ isSubtype_stop (wpAny_pure (hQ _ hk)))
theorem pyIterK {b : Bool} {l : Addr} {xs : Array Value} {Q : Value → Shared → Prop} (hl : HpS b s.heap l xs) (h : Q (.ref s.heap.objs.size) { s with heap := s.heap.push { cls := .type (itN b), data := .fields #[.ref l, .int 0 0] } }) :
    wpAny (model prog w) A (pyIter (.ref l)) Q E s := by
  cases b with
  | true => exact wpAny_pyIter_list hl h
  | false => exact wpAny_pyIter_tuple hl h
end
def zk1 (b : Bool) (h : Heap) (l : Addr) : Heap := h.push { cls := .type (itN b), data := .fields #[.ref l, .int 0 0] }
def zk5 (b1 b2 : Bool) (h : Heap) (l1 l2 : Addr) : Heap :=
  (((zk1 b2 (zk1 b1 h l1) l2).push { cls := .type "tuple", data := .seq #[.ref h.objs.size, .ref (zk1 b1 h l1).objs.size] }).push { cls := .type "tuple", data := .seq #[.none, .none] }).push
    { cls := .type "zip", data := .fields #[.none, .bool false, .bool false, .ref (zk1 b2 (zk1 b1 h l1) l2).objs.size, .ref ((zk1 b2 (zk1 b1 h l1) l2).push { cls := .type "tuple", data := .seq #[.ref h.objs.size, .ref (zk1 b1 h l1).objs.size] }).objs.size] }
theorem meets_zipK_new (b1 b2 : Bool) (l1 l2 : Addr) (xs ys : Array Value) :
    Meets (Builtin.«zip.__new__» ⟨[.type "zip", .ref l1, .ref l2], []⟩) (fun _ R s => HpS b1 s.heap l1 xs ∧ HpS b2 s.heap l2 ys ∧
      R (.ok (.ret (.ref (((zk1 b2 (zk1 b1 s.heap l1) l2).push { cls := .type "tuple", data := .seq #[.ref s.heap.objs.size, .ref (zk1 b1 s.heap l1).objs.size] }).push { cls := .type "tuple", data := .seq #[.none, .none] }).objs.size)))
        { s with heap := zk5 b1 b2 s.heap l1 l2 }) :=
  .of_wp fun prog w A R s h => by
    obtain ⟨hp, g, d, tk, os⟩ := s; obtain ⟨hl1, hl2, h⟩ := h
    have hsub := sub_zip
    have hL1 : HpS b1 (Shared.heap ⟨hp, g, d, tk, os⟩) l1 xs := hl1
    have hL2 : HpS b2 (Shared.heap ⟨hp.push { cls := .type (itN b1), data := .fields #[.ref l1, .int 0 0] }, g, d, tk, os⟩) l2 ys := hl2.at fun o e => Heap.get?_push_of_some _ e
    wp_walk using pyIterK hL1, pyIterK hL2
    exact ⟨_, rfl, h⟩
section
variable {prog : Program} {w : World} {A : Around} {E : Value → Shared → Prop} {s : Shared}
theorem HpI.mk {b : Bool} {h : Heap} {a l : Addr} (e : h.get? a = some { cls := .type (itN b), data := .fields #[.ref l, .int 0 0] }) : HpI b h a l 0 := by
  cases b with
  | true => exact ⟨_, e, rfl, rfl⟩
  | false => exact ⟨_, e, rfl, rfl⟩
theorem call_zipK {b1 b2 : Bool} {l1 l2 : Addr} {xs ys : Array Value} {Q : Value → Shared → Prop} (hl1 : HpS b1 s.heap l1 xs) (hl2 : HpS b2 s.heap l2 ys)
    (h : ∀ h', IsZip h' (s.heap.objs.size + 4) (s.heap.objs.size + 2) (s.heap.objs.size + 3) .none → IsPair h' (s.heap.objs.size + 2) (.ref s.heap.objs.size) (.ref (s.heap.objs.size + 1)) →
      IsPair h' (s.heap.objs.size + 3) .none .none → HpI b1 h' s.heap.objs.size l1 0 → HpI b2 h' (s.heap.objs.size + 1) l2 0 → h'.objs.size = s.heap.objs.size + 5 →
      (∀ c o, s.heap.get? c = some o → h'.get? c = some o) → Q (.ref (s.heap.objs.size + 4)) { s with heap := h' }) :
    wpAny (model prog w) A (call (.type "zip") [.ref l1, .ref l2]) Q E s := by
  refine callType_new F.called_zip (by decide) (F.typeCall_zip_2 _ _) (F.newCall_zip_2 _ _) (fun obj => F.args_object_init_3 obj _ _) F.entry_zip_new
    (meets_zipK_new b1 b2 l1 l2 xs ys) ⟨hl1, hl2, ?_⟩
  have p : ∀ (g : Heap) (o : Obj) (n m : Nat), g.objs.size = n + m → (g.push o).objs.size = n + (m + 1) := fun g o n m e => by rw [Heap.size_push, e]; rfl
  have z1 : (zk1 b1 s.heap l1).objs.size = s.heap.objs.size + 1 := p _ _ _ 0 rfl
  have z2 : (zk1 b2 (zk1 b1 s.heap l1) l2).objs.size = s.heap.objs.size + 2 := p _ _ _ _ z1
  have z3 := p _ { cls := .type "tuple", data := .seq #[.ref s.heap.objs.size, .ref (zk1 b1 s.heap l1).objs.size] } _ _ z2
  have z4 := p _ { cls := .type "tuple", data := .seq #[.none, .none] } _ _ z3
  have z5 := p _ { cls := .type "zip", data := .fields #[.none, .bool false, .bool false, .ref (zk1 b2 (zk1 b1 s.heap l1) l2).objs.size, .ref ((zk1 b2 (zk1 b1 s.heap l1) l2).push { cls := .type "tuple", data := .seq #[.ref s.heap.objs.size, .ref (zk1 b1 s.heap l1).objs.size] }).objs.size] } _ _ z4
  have q : ∀ (g : Heap) (o : Obj) (n : Nat), o.isFreed = false → g.objs.size = n → (g.push o).get? n = some o := fun g o n f e => by rw [← e]; exact Heap.get?_push_size _ f
  have g5 : (zk5 b1 b2 s.heap l1 l2).get? (s.heap.objs.size + 4) = some _ := q _ _ _ rfl z4
  have g4 : (zk5 b1 b2 s.heap l1 l2).get? (s.heap.objs.size + 3) = some _ := Heap.get?_push_of_some _ (q _ _ _ rfl z3)
  have g3 : (zk5 b1 b2 s.heap l1 l2).get? (s.heap.objs.size + 2) = some _ := Heap.get?_push_of_some _ (Heap.get?_push_of_some _ (q _ _ _ rfl z2))
  have g2 : (zk5 b1 b2 s.heap l1 l2).get? (s.heap.objs.size + 1) = some _ := Heap.get?_push_of_some _ (Heap.get?_push_of_some _ (Heap.get?_push_of_some _ (q _ _ _ rfl z1)))
  have g1 : (zk5 b1 b2 s.heap l1 l2).get? s.heap.objs.size = some _ := Heap.get?_push_of_some _ (Heap.get?_push_of_some _ (Heap.get?_push_of_some _ (Heap.get?_push_of_some _ (q _ _ _ rfl rfl))))
  rw [z2, z3] at g5
  rw [z1] at g3
  show _ ∧ _
  rw [z4]
  exact ⟨⟨_, g5, rfl⟩, h _ g5 g3 g4 (.mk g1) (.mk g2) z5 fun c o x =>
    Heap.get?_push_of_some _ (Heap.get?_push_of_some _ (Heap.get?_push_of_some _ (Heap.get?_push_of_some _ (Heap.get?_push_of_some _ x))))⟩
end
/-! ### the turn -/
section
variable {X : Cx} {pins : List (Addr × Obj)} {σ : L2.St} {H : Hp} {s : Shared} {a : Addr} {xs ys : List V}
theorem inv_sqK {b : Bool} (I : Inv X pins σ H s) (h : SqK b X.K H a xs) : ∃ its : List Value, Vals xs its ∧ HpS b s.heap a its.toArray := by
  cases b with
  | true => obtain ⟨its, r, p, _⟩ := I.list h; exact ⟨its, r, p.isList⟩
  | false => obtain ⟨its, r, p, _⟩ := I.tuple h; exact ⟨its, r, p⟩
theorem sqK_inj {b : Bool} (I : Inv X pins σ H s) (h : SqK b X.K H a xs) (h' : SqK b X.K H a ys) : xs = ys := by
  cases b with
  | true => exact I.list_inj h h'
  | false => exact I.tuple_inj h h'
end
theorem sqK_mono {b : Bool} {K : PySem.W.Frag} {F H : Hp} {a : Addr} {xs : List V} (f : Same F H) (h : SqK b K F a xs) : SqK b K H a xs := by
  cases b with
  | true => exact f.seq h
  | false => exact seqT_mono f h
/-- the sequences at a and c as they stand at each turn, the items in new pairs -/
def ItzK (b1 b2 : Bool) (K : PySem.W.Frag) (a c : Addr) : It :=
  ⟨fun i H => ∃ (xs ys : List V) (x y : V), SqK b1 K H a xs ∧ SqK b2 K H c ys ∧ xs[i]? = some x ∧ ys[i]? = some y,
    fun i H v H' => ∃ T x y, v = .ref T ∧ H T = none ∧ H' = upd H T (.tup [x, y]) ∧ (∀ xs, SqK b1 K H a xs → xs[i]? = some x) ∧ ∀ ys, SqK b2 K H c ys → ys[i]? = some y,
    fun i H => ∃ xs ys : List V, SqK b1 K H a xs ∧ SqK b2 K H c ys ∧ (xs.length ≤ i ∨ ys.length ≤ i)⟩
theorem turn_zipK {b1 b2 : Bool} {P : Program} {w : World} {K : PySem.W.Frag} {elts : List Expr} {kk : Nat} {tpos : Pos} {a b z TI TO i1 i2 : Addr} (D : ZipApart z TI TO i1 i2 a b) :
    Turn P w K (.Tuple elts kk tpos) (ItzK b1 b2 K a b) [z, TI, TO, i1, i2] z (fun i h => IsZip h z TI TO .none ∧ IsPair h TI (.ref i1) (.ref i2) ∧ (∃ x y, IsPair h TO x y) ∧ HpI b1 h i1 a i ∧ HpI b2 h i2 b i) where
  mem := by simp
  obj := fun i h st c hc => by
    obtain ⟨hz, hTI, ⟨x, y, hTO⟩, h1, h2⟩ := st
    obtain ⟨o1, e1, f1, d1⟩ := h1.fields
    obtain ⟨o2, e2, f2, d2⟩ := h2.fields
    have e' : c = z ∨ c = TI ∨ c = TO ∨ c = i1 ∨ c = i2 := by simpa using hc
    rcases e' with q | q | q | q | q
    · rw [q]; exact ⟨_, hz, fun v q => nomatch q⟩
    · rw [q]; exact ⟨_, hTI, fun v q => nomatch q⟩
    · rw [q]; exact ⟨_, hTO, fun v q => nomatch q⟩
    · rw [q]; exact ⟨o1, e1, fun v q => by rw [d1] at q; cases q⟩
    · rw [q]; exact ⟨o2, e2, fun v q => by rw [d2] at q; cases q⟩
  keep := fun i h h' st k => by
    obtain ⟨hz, hTI, ⟨x, y, hTO⟩, h1, h2⟩ := st
    exact ⟨k z (by simp) _ hz, k TI (by simp) _ hTI, ⟨x, y, k TO (by simp) _ hTO⟩, h1.at fun o q => k i1 (by simp) o q, h2.at fun o q => k i2 (by simp) o q⟩
  item := by
    intro X hP hw hK hc i pins s σ H E I hf st hg
    subst hP hw hK
    obtain ⟨hz, hTI, ⟨x0, y0, hTO⟩, h1, h2⟩ := st
    obtain ⟨xs, ys, x, y, hqx, hqy, hx, hy⟩ := hg
    obtain ⟨its, rv, p⟩ := inv_sqK I hqx
    obtain ⟨its2, rv2, p2⟩ := inv_sqK I hqy
    obtain ⟨u, hu, ru⟩ := rv.get hx
    obtain ⟨u2, hu2, ru2⟩ := rv2.get hy
    have hzl : z < s.heap.objs.size := Heap.lt_size hz
    refine pyNext_zipK_item D hz hTI hTO h1 h2 p p2 (x := u) (y := u2) (by simpa using hu) (by simpa using hu2) fun h' z' TO' h1' h2' hT hsz hk => ?_
    refine ⟨_, rfl, wpAny_letOwnedTupleGo_zip (s := { s with heap := h' }) z' fun h'' z'' sb => ?_⟩
    have hT2 : h''.get? s.heap.objs.size = some { cls := .type "tuple", data := .seq #[u, u2] } := (sb.2 _ (Nat.ne_of_gt hzl)).trans hT
    have new : ObjOk X.prog X.w (upd H s.heap.objs.size (.tup [x, y])) h'' s.heap.objs.size (.tup [x, y]) :=
      ⟨by show 2 ≤ sizeLine; decide, [u, u2], .cons ru (.cons ru2 .nil), ⟨_, hT2, rfl, _, rfl⟩⟩
    have I1 : Inv X pins σ (upd H s.heap.objs.size (.tup [x, y])) { s with heap := h'' } :=
      I.turnedNew (t' := s.toks) (ch := [z, TI, TO, i1, i2]) (fun c o hb q => (sb.2 c (fun q' => hb (by simp [q']))).trans (hk c o (fun q' => hb (by simp [q'])) (fun q' => hb (by simp [q'])) (fun q' => hb (by simp [q'])) (fun q' => hb (by simp [q'])) q)) hf (Nat.le_refl _) new
    refine ⟨.ref s.heap.objs.size, _, I1, rfl, ⟨_, x, y, rfl, I.hok.fresh (Nat.le_refl _), rfl, fun l hl => by rw [sqK_inj I hl hqx]; exact hx, fun l hl => by rw [sqK_inj I hl hqy]; exact hy⟩, ⟨z'', ?_, ⟨u, u2, ?_⟩, ?_, ?_⟩, fun c hcm => ?_⟩
    · exact (sb.2 _ D.TIz).trans (hk _ _ D.TIz D.TITO D.TIi1 D.TIi2 hTI)
    · exact (sb.2 _ D.TOz).trans TO'
    · exact h1'.at fun o q => (sb.2 _ D.i1z).trans q
    · exact h2'.at fun o q => (sb.2 _ D.i2z).trans q
    · have hlt : c < s.heap.objs.size := by
        have e' : c = z ∨ c = TI ∨ c = TO ∨ c = i1 ∨ c = i2 := by simpa using hcm
        rcases e' with q | q | q | q | q
        · rw [q]; exact hzl
        · rw [q]; exact Heap.lt_size hTI
        · rw [q]; exact Heap.lt_size hTO
        · rw [q]; obtain ⟨_, e1, _⟩ := h1.fields; exact Heap.lt_size e1
        · rw [q]; obtain ⟨_, e2, _⟩ := h2.fields; exact Heap.lt_size e2
      rw [upd_ne (Nat.ne_of_lt hlt)]
      exact (hf c hcm).1
  done := by
    intro X hP hw hK hc i pins s σ H E I hf st hg
    subst hP hw hK
    obtain ⟨hz, hTI, ⟨x0, y0, hTO⟩, h1, h2⟩ := st
    obtain ⟨xs, ys, hqx, hqy, hend⟩ := hg
    obtain ⟨its, rv, p⟩ := inv_sqK I hqx
    obtain ⟨its2, rv2, p2⟩ := inv_sqK I hqy
    have l1 := rv.length
    have l2 := rv2.length
    have he : its.toArray[i]? = none ∨ its2.toArray[i]? = none := by
      rcases hend with q | q
      · exact .inl (by simp; omega)
      · exact .inr (by simp; omega)
    exact pyNext_zipK_end (I.ok.hd hc) D hz hTI hTO h1 h2 p p2 he fun h' hk => ⟨rfl, I.turnedL (t' := s.toks) (ch := [z, TI, TO, i1, i2]) (fun c o hb q =>
      hk c o (fun q' => hb (by simp [q'])) (fun q' => hb (by simp [q'])) (fun q' => hb (by simp [q'])) (fun q' => hb (by simp [q'])) q) hf⟩
  self := fun A i s Q E st h => wpAny_pyIter_zip st.1 h
def iZipK (K : PySem.W.Frag) (ta : TA) : TI := fun σ H R => ta σ H fun vs H1 => ∃ b1 b2 a b xs ys, vs = [.ref a, .ref b] ∧ SqK b1 K H1 a xs ∧ SqK b2 K H1 b ys ∧ R (ItzK b1 b2 K a b) H1
theorem pi_zipK {X : Cx} {e e2 : Expr} {ta : TA} {p pos tpos : Pos} {elts : List Expr} {kk : Nat} (hg : Gl X "zip") (hm : X.mg "zip" = none) (ha : PA X [e, e2] ta)
    (hs : starEach [e, e2] X.env = (false, eval e X.env) :: starEach [e2] X.env := by rfl) (hpl : (backTo pos (starEach [e2] X.env)).any (·.1) = false := by rfl) :
    PI X (.Tuple elts kk tpos) (.Call (.Name "zip" p) [e, e2] [] pos) (iZipK X.K ta) := by
  refine ⟨fun pins s σ H R I h => ?_⟩
  refine Call_ (ld_blt I hg hm PyProof.Rows.boot_zip (PyProof.Rows.callWith_type1 (thn (ha.run pos pins s σ H _ I h) fun us s1 ⟨vs, H1, I1, r1, q1⟩ => ?_) hs hpl))
  obtain ⟨b1, b2, a, b, xs, ys, ex, hqx, hqy, q⟩ := q1
  subst ex
  cases r1 with
  | cons r rr =>
    cases rr with
    | cons r' rr =>
      cases rr
      cases r
      cases r'
      obtain ⟨its, rv, p1⟩ := inv_sqK I1 hqx
      obtain ⟨its2, rv2, p2⟩ := inv_sqK I1 hqy
      refine call_zipK p1 p2 fun h' hz hTI hTO h1 h2 hsz hk => wpAny_pyIter_zip hz ?_
      have I2 : Inv X pins σ H1 { s1 with heap := h' } := I1.kept (t' := s1.toks) hk
      refine ⟨s1.heap.objs.size + 4, [s1.heap.objs.size + 4, s1.heap.objs.size + 2, s1.heap.objs.size + 3, s1.heap.objs.size, s1.heap.objs.size + 1], _, _, H1, rfl, I2, turn_zipK (b1 := b1) (b2 := b2) (PySem.W.ktu_apart s1.heap.objs.size a b p1.lt p2.lt), ⟨hz, hTI, ⟨_, _, hTO⟩, h1, h2⟩, fun c hcm => ?_, q⟩
      have hle : s1.heap.objs.size ≤ c := by
        have e' : c = s1.heap.objs.size + 4 ∨ c = s1.heap.objs.size + 2 ∨ c = s1.heap.objs.size + 3 ∨ c = s1.heap.objs.size ∨ c = s1.heap.objs.size + 1 := by simpa using hcm
        rcases e' with z | z | z | z | z <;> rw [z] <;> first | exact Nat.le_refl _ | exact Nat.le_add_right _ _
      exact I1.fpOk hle (I1.hok.fresh hle)
theorem yl_zipK {b1 b2 : Bool} {K : PySem.W.Frag} {F : Hp} {a b : Addr} {xs ys : List V} {ds es : List PyData} (h : SqK b1 K F a xs) (h2 : SqK b2 K F b ys) (l : RpL K F xs ds) (l2 : RpL K F ys es) : Yl K F (ItzK b1 b2 K a b) (zipD ds es) where
  go := fun R F1 env σ H i d f r e => by
    obtain ⟨hl, hl2⟩ := zipD_lt e
    obtain ⟨x, hx⟩ : ∃ x, xs[i]? = some x := ⟨_, List.getElem?_eq_getElem (by rw [l.length]; exact hl)⟩
    obtain ⟨y, hy⟩ : ∃ x, ys[i]? = some x := ⟨_, List.getElem?_eq_getElem (by rw [l2.length]; exact hl2)⟩
    have hs := sqK_mono (f.trans r.sub) h
    have hs2 := sqK_mono (f.trans r.sub) h2
    exact ⟨⟨xs, ys, x, y, hs, hs2, hx, hy⟩, fun v H' ⟨T, z, z2, e1, e2, e3, e4, e5⟩ => zip_step r (rpL_mono f _ _ l) (rpL_mono f _ _ l2) e ⟨T, z, z2, e1, e2, e3, e4 xs hs, e5 ys hs2⟩⟩
  stop := fun R F1 env σ H f r => ⟨xs, ys, sqK_mono (f.trans r.sub) h, sqK_mono (f.trans r.sub) h2, by rw [zipD_len, l.length, l2.length]; omega⟩
def seqD : PyData → Option (List PyData)
  | .list xs => some xs
  | .tuple xs => some xs
  | _ => none
@[simp] theorem seqD_list (xs : List PyData) : seqD (.list xs) = some xs := rfl
@[simp] theorem seqD_tuple (xs : List PyData) : seqD (.tuple xs) = some xs := rfl
theorem rp_seq {K : PySem.W.Frag} {F : Hp} {v : V} {d : PyData} {ds : List PyData} (p : Rp K F v d) (e : seqD d = some ds) : ∃ b a xs, v = .ref a ∧ SqK b K F a xs ∧ RpL K F xs ds := by
  cases d with
  | list es =>
    cases e
    cases p with
    | lst h l => exact ⟨true, _, _, rfl, .inl (.inl h), l⟩
  | tuple es =>
    cases e
    cases p with
    | tup h l => exact ⟨false, _, _, rfl, h.sq, l⟩
  | _ => cases e
/-- zip of two lists or tuples, also of one of each -/
@[simp ↓] def wiZipK (wa : WA) : WI := fun env Q => wa env fun ds e1 => match ds with
  | [d, e] => ∃ xs ys, seqD d = some xs ∧ seqD e = some ys ∧ Q (zipD xs ys) e1
  | _ => False
theorem ci_zipK {X : Cx} {R : Root τ} {e e2 : Expr} {wa : WA} {p pos tpos : Pos} {elts : List Expr} {kk : Nat} (hg : Gl X "zip") (hm : X.mg "zip" = none) (he : CA X R [e, e2] wa) (hs : starEach [e, e2] X.env = (false, eval e X.env) :: starEach [e2] X.env := by rfl) (hpl : (backTo pos (starEach [e2] X.env)).any (·.1) = false := by rfl) :
    CI X R (.Tuple elts kk tpos) (.Call (.Name "zip" p) [e, e2] [] pos) (wiZipK wa) :=
  pi_imp (pi_zipK hg hm he hs hpl) fun σ H Rk ⟨F, env, Qw, r, w, k⟩ => ⟨F, env, _, r, w, fun F1 e1 H1 xs ds f1 r1 p1 w1 => by
    match ds, p1, w1 with
    | [d, e], .cons pd (.cons pe .nil), ⟨xs, ys, hd, he, w1⟩ =>
      obtain ⟨b1, a, us, rfl, q1, l1⟩ := rp_seq pd hd
      obtain ⟨b2, c, vs, rfl, q2, l2⟩ := rp_seq pe he
      exact ⟨b1, b2, _, _, _, _, rfl, sqK_mono r1.sub q1, sqK_mono r1.sub q2, k F1 e1 H1 _ _ f1 r1 (yl_zipK q1 q2 l1 l2) w1⟩⟩
end VL
set_option Elab.async false
set_option linter.all false
set_option maxRecDepth 100000
set_option maxHeartbeats 1000000
/-! VL51: enumerate(zip(a, b)). -/
namespace VL
open PySem PySem.Spec PyProof.Rows L2 RZ
variable {τ : Tau}
def ZipO (h : Heap) (z TI TO : Addr) (f0 : Value) (b : Bool) : Prop :=
  h.get? z = some { cls := .type "zip", dict := none, data := .fields #[f0, .bool b, .bool false, .ref TI, .ref TO], slots := #[] }
/-- the zip's object, whatever it holds of the last pair -/
def ZipG (h : Heap) (z TI TO : Addr) : Prop := ∃ f0 b, ZipO h z TI TO f0 b ∧ (f0 = .none ∨ ∃ T : Nat, f0 = rawInt T)
section
variable {prog : Program} {w : World} {A : Around} {E : Value → Shared → Prop} {s : Shared}
theorem wpAny_alive {a : Addr} {Q : Option Obj → Shared → Prop} (h : Q (s.heap.get? a) s) : wpAny (model prog w) A (loadIfAlive a) Q E s := fun Γ p hΓ => by
  unfold loadIfAlive
  rw [Sem.wp_loadIfAlive]
  exact wpAny_pure h Γ p hΓ
theorem zip_free {z TI TO : Addr} {Q : Bool → Shared → Prop} (hz : ZipG s.heap z TI TO) (h1 : ∀ f0 b, ZipO s.heap z TI TO f0 b → Q true s)
    (h2 : ∀ h', ZipG h' z TI TO → Heap.SameBut z s.heap h' → Q false { s with heap := h' }) : wpAny (model prog w) A (Builtin.SmallTypes.ownedTupleIsFree (.ref z)) Q E s := by
  obtain ⟨f0, b, ho, hf⟩ := hz
  unfold Builtin.SmallTypes.ownedTupleIsFree
  rcases hf with rfl | ⟨T, rfl⟩
  · exact wpAny_bind (wpAny_field ho rfl (x := .none) rfl (wpAny_pure (h1 _ _ ho)))
  · refine wpAny_bind (wpAny_field ho rfl (x := rawInt T) rfl ?_)
    show wpAny _ _ (loadIfAlive ((T : Int).toNat) >>= _) _ _ _
    rw [Int.toNat_natCast]
    refine wpAny_bind (wpAny_alive ?_)
    cases hT : s.heap.get? T with
    | none =>
      simp only [Option.isNone_none, if_true]
      exact wpAny_pure (h1 _ _ ho)
    | some o =>
      simp only [Option.isNone_some, Bool.false_eq_true, if_false]
      refine wpAny_bind (wpAny_field ho rfl (x := .bool b) rfl ?_)
      cases b with
      | true =>
        rw [if_neg (show ¬ ((Value.bool true != Value.bool true) = true) from Bool.false_ne_true)]
        exact wpAny_pure (h2 _ ⟨_, _, ho, .inr ⟨T, rfl⟩⟩ (Heap.SameBut.refl _ _))
      | false =>
        rw [if_pos (show (Value.bool false != Value.bool true) = true from rfl)]
        exact wpAny_bind (wpAny_setField_rec ho (by simp) fun h3 he3 hs3 => wpAny_pure (h2 _ ⟨_, true, he3, .inr ⟨T, rfl⟩⟩ hs3))
theorem zipG_next_item {b1 b2 : Bool} {z TI TO i1 i2 l1 l2 : Addr} {k1 k2 : Nat} {xs ys : Array Value} {x y a b : Value} {Q : Value → Shared → Prop} (D : ZipApart z TI TO i1 i2 l1 l2)
    (hz : ZipG s.heap z TI TO) (hTI : IsPair s.heap TI (.ref i1) (.ref i2)) (hTO : IsPair s.heap TO a b)
    (h1 : HpI b1 s.heap i1 l1 k1) (h2 : HpI b2 s.heap i2 l2 k2) (hl1 : HpS b1 s.heap l1 xs) (hl2 : HpS b2 s.heap l2 ys) (hx : xs[k1]? = some x) (hy : ys[k2]? = some y)
    (hQ : ∀ h' a' b', ZipG h' z TI TO → IsPair h' TO a' b' → HpI b1 h' i1 l1 (k1 + 1) → HpI b2 h' i2 l2 (k2 + 1) → IsPair h' s.heap.objs.size x y → h'.objs.size = s.heap.objs.size + 1 →
      (∀ c o, c ≠ z → c ≠ TO → c ≠ i1 → c ≠ i2 → s.heap.get? c = some o → h'.get? c = some o) → Q (.ref s.heap.objs.size) { s with heap := h' }) :
    wpAny (model prog w) A (Builtin.«zip.__next__» ⟨[.ref z], []⟩) (fun fin s' => ∃ v, fin = .done (.ret v) ∧ Q v s') E s := by
  obtain ⟨f0, bb, ho, hf⟩ := id hz
  show wpAny _ _ (field (.ref z) 2 >>= _) _ _ _
  refine wpAny_bind (wpAny_field ho rfl (x := .bool false) rfl ?_)
  show wpAny _ _ (field (.ref z) 3 >>= _) _ _ _
  refine wpAny_bind (wpAny_field ho rfl (x := .ref TI) rfl ?_)
  refine wpAny_bind (wpAny_seqItems hTI rfl ?_)
  show wpAny _ _ (Builtin.SmallTypes.ownedTupleIsFree (.ref z) >>= _) _ _ _
  refine wpAny_bind (zip_free hz (fun f0 bb hz => ?_) fun g1 z1 s1 => ?_)
  · simp only [if_true]
    refine wpAny_bind (wpAny_rule (wpAny_bind (wpAny_field hz rfl (x := .ref TO) rfl ?_)))
    refine wpAny_bind (wpAny_setField_rec hz (by simp) fun g1 z1 s1 => wpAny_bind ?_)
    replace z1 : ZipO g1 z TI TO .ellipsis bb := z1
    simp only [List.zipIdx_cons, List.zipIdx_nil, List.forIn_cons, List.forIn_nil]
    refine wpAny_bind (wpAny_bind (wpAny_onRaise ?_))
    show wpAny _ _ (Builtin.SmallTypes.nextOf (.ref i1) >>= _) _ _ _
    refine wpAny_bind (nextK_item (s := { s with heap := g1 }) (h1.ext s1.extBut D.i1z) (hl1.ext s1.extBut D.l1z) hx fun g2 a2 s2 => wpAny_pure ?_)
    have o2 : IsPair g2 TO a b := s2.extBut _ _ D.TOi1 (s1.extBut _ _ D.TOz hTO)
    refine wpAny_bind (wpAny_seqItems o2 rfl (wpAny_bind (wpAny_updateSeq_pair o2 fun g3 o3 s3 => wpAny_bind (wpAny_letGo (wpAny_pure ?_)))))
    replace o3 : IsPair g3 TO x b := o3
    refine wpAny_bind (wpAny_bind (wpAny_onRaise ?_))
    show wpAny _ _ (Builtin.SmallTypes.nextOf (.ref i2) >>= _) _ _ _
    refine wpAny_bind (nextK_item (s := { s with heap := g3 }) (((h2.ext s1.extBut D.i2z).ext s2.extBut D.i12.symm).ext s3.extBut D.TOi2.symm) (((hl2.ext s1.extBut D.l2z).ext s2.extBut D.l2i1).ext s3.extBut D.l2TO) hy fun g4 a4 s4 => wpAny_pure ?_)
    have o4 : IsPair g4 TO x b := s4.extBut _ _ D.TOi2 o3
    refine wpAny_bind (wpAny_seqItems o4 rfl (wpAny_bind (wpAny_updateSeq_pair o4 fun g5 o5 s5 => wpAny_bind (wpAny_letGo (wpAny_pure (wpAny_pure ?_))))))
    replace o5 : IsPair g5 TO x y := o5
    refine wpAny_bind (wpAny_seqItems o5 rfl (wpAny_bind (wpAny_newTuple ?_)))
    have sz : g5.objs.size = s.heap.objs.size := by rw [s5.1, s4.1, s3.1, s2.1, s1.1]
    have z5 : ZipO g5 z TI TO .ellipsis bb := s5.extBut _ _ D.TOz.symm (s4.extBut _ _ D.i2z.symm (s3.extBut _ _ D.TOz.symm (s2.extBut _ _ D.i1z.symm z1)))
    have k5 : ∀ c o, c ≠ z → c ≠ TO → c ≠ i1 → c ≠ i2 → s.heap.get? c = some o → g5.get? c = some o := fun c o c1 c2 c3 c4 e =>
      s5.extBut _ _ c2 (s4.extBut _ _ c4 (s3.extBut _ _ c2 (s2.extBut _ _ c3 (s1.extBut _ _ c1 e))))
    have a5 : HpI b1 g5 i1 l1 (k1 + 1) := ((a2.ext s3.extBut D.TOi1.symm).ext s4.extBut D.i12).ext s5.extBut D.TOi1.symm
    have c5 : HpI b2 g5 i2 l2 (k2 + 1) := a4.ext s5.extBut D.TOi2.symm
    have zlt : z < g5.objs.size := Heap.lt_size z5
    show wpAny _ _ (Builtin.SmallTypes.ownedTupleHandOut (.ref z) (.ref g5.objs.size) >>= _) _ _ _
    refine wpAny_bind ?_
    unfold Builtin.SmallTypes.ownedTupleHandOut
    have z6 : ZipO (g5.push { cls := .type "tuple", data := .seq #[x, y] }) z TI TO .ellipsis bb := Heap.get?_push_of_some _ z5
    refine wpAny_bind (wpAny_setField_rec z6 (by simp) fun g7 z7 s7 => ?_)
    replace z7 : ZipO g7 z TI TO (rawInt g5.objs.size) bb := z7
    refine wpAny_setField_rec z7 (by simp) fun g8 z8 s8 => ?_
    replace z8 : ZipO g8 z TI TO (rawInt g5.objs.size) false := z8
    have up : ∀ c o, c ≠ z → g5.get? c = some o → g8.get? c = some o := fun c o c1 e => s8.extBut _ _ c1 (s7.extBut _ _ c1 (Heap.get?_push_of_some _ e))
    have t8 : IsPair g8 g5.objs.size x y := s8.extBut _ _ (Nat.ne_of_gt zlt) (s7.extBut _ _ (Nat.ne_of_gt zlt) (Heap.get?_push_size _ rfl))
    have n8 : g8.objs.size = g5.objs.size + 1 := by rw [s8.1, s7.1, Heap.size_push]
    rw [sz] at z8 t8 n8
    refine wpAny_pure ⟨_, rfl, ?_⟩
    show Q (.ref g5.objs.size) _
    rw [sz]
    exact hQ g8 _ _ ⟨_, _, z8, .inr ⟨_, rfl⟩⟩ (up _ _ D.TOz o5) (a5.at fun o e => up _ o D.i1z e) (c5.at fun o e => up _ o D.i2z e) t8 n8 fun c o c1 c2 c3 c4 e => up c o c1 (k5 c o c1 c2 c3 c4 e)
  · simp only [Bool.false_eq_true, if_false]
    rw [← Array.forIn_toList]
    simp only [List.forIn_cons, List.forIn_nil]
    refine wpAny_bind (wpAny_bind (wpAny_bind (wpAny_holding ?_)))
    show wpAny _ _ (Builtin.SmallTypes.nextOf (.ref i1) >>= _) _ _ _
    refine wpAny_bind (nextK_item (s := { s with heap := g1 }) (h1.ext s1.extBut D.i1z) (hl1.ext s1.extBut D.l1z) hx fun g2 a2 s2 => wpAny_pure ?_)
    refine wpAny_pure (wpAny_bind (wpAny_bind (wpAny_holding ?_)))
    show wpAny _ _ (Builtin.SmallTypes.nextOf (.ref i2) >>= _) _ _ _
    refine wpAny_bind (nextK_item (s := { s with heap := g2 }) ((h2.ext s1.extBut D.i2z).ext s2.extBut D.i12.symm) ((hl2.ext s1.extBut D.l2z).ext s2.extBut D.l2i1) hy fun g3 a3 s3 => wpAny_pure ?_)
    refine wpAny_pure (wpAny_pure (wpAny_bind (wpAny_newTuple (hsz := by show 2 ≤ sizeLine; decide) ?_)))
    have sz : g3.objs.size = s.heap.objs.size := by rw [s3.1, s2.1, s1.1]
    have z3 : ZipG g3 z TI TO := by
      obtain ⟨f, b, hz, hf⟩ := z1
      exact ⟨f, b, s3.extBut _ _ D.i2z.symm (s2.extBut _ _ D.i1z.symm hz), hf⟩
    have k3 : ∀ c o, c ≠ z → c ≠ TO → c ≠ i1 → c ≠ i2 → s.heap.get? c = some o → g3.get? c = some o := fun c o c1 c2 c3 c4 e =>
      s3.extBut _ _ c4 (s2.extBut _ _ c3 (s1.extBut _ _ c1 e))
    have up : ∀ c o, g3.get? c = some o → (g3.push { cls := .type "tuple", data := .seq #[x, y] }).get? c = some o := fun c o e => Heap.get?_push_of_some _ e
    refine wpAny_pure ⟨_, rfl, ?_⟩
    show Q (.ref g3.objs.size) _
    have t3 : IsPair (g3.push { cls := .type "tuple", data := .seq #[x, y] }) g3.objs.size x y := Heap.get?_push_size _ rfl
    have n3 : (g3.push { cls := .type "tuple", data := .seq #[x, y] }).objs.size = s.heap.objs.size + 1 := by rw [Heap.size_push, sz]
    rw [sz] at t3 ⊢
    have o3 : IsPair g3 TO a b := s3.extBut _ _ D.TOi2 (s2.extBut _ _ D.TOi1 (s1.extBut _ _ D.TOz hTO))
    obtain ⟨f, b0, hz3, hf3⟩ := z3
    exact hQ _ _ _ ⟨f, b0, up _ _ hz3, hf3⟩ (up _ _ o3) ((a2.ext s3.extBut D.i12).at fun o e => up _ o e) (a3.at fun o e => up _ o e) t3 n3 fun c o c1 c2 c3 c4 e => up c o (k3 c o c1 c2 c3 c4 e)
theorem zipG_next_end {b1 b2 : Bool} {z TI TO i1 i2 l1 l2 : Addr} {k1 k2 : Nat} {xs ys : Array Value} {a b : Value} {Q : Fin → Shared → Prop} (hh : A.handled = none) (D : ZipApart z TI TO i1 i2 l1 l2)
    (hz : ZipG s.heap z TI TO) (hTI : IsPair s.heap TI (.ref i1) (.ref i2)) (hTO : IsPair s.heap TO a b)
    (h1 : HpI b1 s.heap i1 l1 k1) (h2 : HpI b2 s.heap i2 l2 k2) (hl1 : HpS b1 s.heap l1 xs) (hl2 : HpS b2 s.heap l2 ys) (hend : xs[k1]? = none ∨ ys[k2]? = none)
    (hE : ∀ h' e, (∀ c o, c ≠ z → c ≠ TO → c ≠ i1 → c ≠ i2 → s.heap.get? c = some o → h'.get? c = some o) → (∃ o, h'.get? e = some o ∧ o.cls = .type "StopIteration") → E (.ref e) { s with heap := h' }) :
    wpAny (model prog w) A (Builtin.«zip.__next__» ⟨[.ref z], []⟩) Q E s := by
  obtain ⟨f0, bb, ho, hf⟩ := id hz
  show wpAny _ _ (field (.ref z) 2 >>= _) _ _ _
  refine wpAny_bind (wpAny_field ho rfl (x := .bool false) rfl ?_)
  show wpAny _ _ (field (.ref z) 3 >>= _) _ _ _
  refine wpAny_bind (wpAny_field ho rfl (x := .ref TI) rfl ?_)
  refine wpAny_bind (wpAny_seqItems hTI rfl ?_)
  show wpAny _ _ (Builtin.SmallTypes.ownedTupleIsFree (.ref z) >>= _) _ _ _
  refine wpAny_bind (zip_free hz (fun f0 bb hz => ?_) fun g1 z1 s1 => ?_)
  · simp only [if_true]
    refine wpAny_bind (wpAny_rule (wpAny_bind (wpAny_field hz rfl (x := .ref TO) rfl ?_)))
    refine wpAny_bind (wpAny_setField_rec hz (by simp) fun g1 z1 s1 => wpAny_bind ?_)
    replace z1 : ZipO g1 z TI TO .ellipsis bb := z1
    simp only [List.zipIdx_cons, List.zipIdx_nil, List.forIn_cons, List.forIn_nil]
    refine wpAny_bind (wpAny_bind (wpAny_onRaise ?_))
    show wpAny _ _ (Builtin.SmallTypes.nextOf (.ref i1) >>= _) _ _ _
    cases hx : xs[k1]? with
    | none =>
      refine wpAny_bind (nextK_end (s := { s with heap := g1 }) hh (h1.ext s1.extBut D.i1z) (hl1.ext s1.extBut D.l1z) hx fun g2 e s2 he => ?_)
      obtain ⟨oe, hoe, hce⟩ := he
      have z2 : ZipO g2 z TI TO .ellipsis bb := s2 _ _ D.i1z.symm z1
      have hez : e ≠ z := fun x => by subst x; rw [z2] at hoe; cases hoe; simp at hce
      refine wpAny_setField_rec z2 (by simp) fun g3 _ s3 => hE g3 e (fun c o c1 _ c3 _ x => s3.extBut _ _ c1 (s2 _ _ c3 (s1.extBut _ _ c1 x))) ⟨oe, s3.extBut _ _ hez hoe, hce⟩
    | some x =>
      have hy : ys[k2]? = none := by rcases hend with h | h; rw [hx] at h; cases h; exact h
      refine wpAny_bind (nextK_item (s := { s with heap := g1 }) (h1.ext s1.extBut D.i1z) (hl1.ext s1.extBut D.l1z) hx fun g2 a2 s2 => wpAny_pure ?_)
      have o2 : IsPair g2 TO a b := s2.extBut _ _ D.TOi1 (s1.extBut _ _ D.TOz hTO)
      refine wpAny_bind (wpAny_seqItems o2 rfl (wpAny_bind (wpAny_updateSeq_pair o2 fun g3 o3 s3 => wpAny_bind (wpAny_letGo (wpAny_pure ?_)))))
      refine wpAny_bind (wpAny_bind (wpAny_onRaise ?_))
      show wpAny _ _ (Builtin.SmallTypes.nextOf (.ref i2) >>= _) _ _ _
      refine wpAny_bind (nextK_end (s := { s with heap := g3 }) hh (((h2.ext s1.extBut D.i2z).ext s2.extBut D.i12.symm).ext s3.extBut D.TOi2.symm)
        (((hl2.ext s1.extBut D.l2z).ext s2.extBut D.l2i1).ext s3.extBut D.l2TO) hy fun g4 e s4 he => ?_)
      obtain ⟨oe, hoe, hce⟩ := he
      have z4 : ZipO g4 z TI TO .ellipsis bb := s4 _ _ D.i2z.symm (s3.extBut _ _ D.TOz.symm (s2.extBut _ _ D.i1z.symm z1))
      have hez : e ≠ z := fun x => by subst x; rw [z4] at hoe; cases hoe; simp at hce
      refine wpAny_setField_rec z4 (by simp) fun g5 _ s5 => hE g5 e (fun c o c1 c2 c3 c4 x => s5.extBut _ _ c1 (s4 _ _ c4 (s3.extBut _ _ c2 (s2.extBut _ _ c3 (s1.extBut _ _ c1 x))))) ⟨oe, s5.extBut _ _ hez hoe, hce⟩
  · simp only [Bool.false_eq_true, if_false]
    rw [← Array.forIn_toList]
    simp only [List.forIn_cons, List.forIn_nil]
    refine wpAny_bind (wpAny_bind (wpAny_bind (wpAny_holding ?_)))
    show wpAny _ _ (Builtin.SmallTypes.nextOf (.ref i1) >>= _) _ _ _
    cases hx : xs[k1]? with
    | none =>
      refine wpAny_bind (nextK_end (s := { s with heap := g1 }) hh (h1.ext s1.extBut D.i1z) (hl1.ext s1.extBut D.l1z) hx fun g2 e s2 he => ?_)
      exact hE g2 e (fun c o c1 _ c3 _ x => s2 _ _ c3 (s1.extBut _ _ c1 x)) he
    | some x =>
      have hy : ys[k2]? = none := by rcases hend with h | h; rw [hx] at h; cases h; exact h
      refine wpAny_bind (nextK_item (s := { s with heap := g1 }) (h1.ext s1.extBut D.i1z) (hl1.ext s1.extBut D.l1z) hx fun g2 a2 s2 => wpAny_pure ?_)
      refine wpAny_pure (wpAny_bind (wpAny_bind (wpAny_holding ?_)))
      show wpAny _ _ (Builtin.SmallTypes.nextOf (.ref i2) >>= _) _ _ _
      refine wpAny_bind (nextK_end (s := { s with heap := g2 }) hh ((h2.ext s1.extBut D.i2z).ext s2.extBut D.i12.symm) ((hl2.ext s1.extBut D.l2z).ext s2.extBut D.l2i1) hy fun g3 e s3 he => ?_)
      exact hE g3 e (fun c o c1 _ c3 c4 x => s3 _ _ c4 (s2.extBut _ _ c3 (s1.extBut _ _ c1 x))) he
theorem nextZ_item {b1 b2 : Bool} {z TI TO i1 i2 l1 l2 : Addr} {k1 k2 : Nat} {xs ys : Array Value} {x y a b : Value} {Q : Value → Shared → Prop} (D : ZipApart z TI TO i1 i2 l1 l2)
    (hz : ZipG s.heap z TI TO) (hTI : IsPair s.heap TI (.ref i1) (.ref i2)) (hTO : IsPair s.heap TO a b)
    (h1 : HpI b1 s.heap i1 l1 k1) (h2 : HpI b2 s.heap i2 l2 k2) (hl1 : HpS b1 s.heap l1 xs) (hl2 : HpS b2 s.heap l2 ys) (hx : xs[k1]? = some x) (hy : ys[k2]? = some y)
    (hQ : ∀ h' a' b', ZipG h' z TI TO → IsPair h' TO a' b' → HpI b1 h' i1 l1 (k1 + 1) → HpI b2 h' i2 l2 (k2 + 1) → IsPair h' s.heap.objs.size x y → h'.objs.size = s.heap.objs.size + 1 →
      (∀ c o, c ≠ z → c ≠ TO → c ≠ i1 → c ≠ i2 → s.heap.get? c = some o → h'.get? c = some o) → Q (.ref s.heap.objs.size) { s with heap := h' }) :
    wpAny (model prog w) A (Builtin.SmallTypes.nextOf (.ref z)) Q E s := by
  obtain ⟨f0, bb, ho, _⟩ := id hz
  have hT : s.TypeIs (.ref z) "zip" := ⟨_, ho, rfl⟩
  unfold Builtin.SmallTypes.nextOf
  exact wpAny_bind (wpAny_callSpecial?_slot (name := Str.ofString "__next__") hT F.slot_zip_next (wpAny_call_entry F.slot_zip_next hT F.entry_zip_next
    (zipG_next_item D hz hTI hTO h1 h2 hl1 hl2 hx hy fun h' a' b' c1 c2 c3 c4 c5 c6 c7 => wpAny_pure (hQ h' a' b' c1 c2 c3 c4 c5 c6 c7)) (F.args_zip_next_1 _)))
theorem nextZ_end {b1 b2 : Bool} {z TI TO i1 i2 l1 l2 : Addr} {k1 k2 : Nat} {xs ys : Array Value} {a b : Value} {Q : Value → Shared → Prop} (hh : A.handled = none) (D : ZipApart z TI TO i1 i2 l1 l2)
    (hz : ZipG s.heap z TI TO) (hTI : IsPair s.heap TI (.ref i1) (.ref i2)) (hTO : IsPair s.heap TO a b)
    (h1 : HpI b1 s.heap i1 l1 k1) (h2 : HpI b2 s.heap i2 l2 k2) (hl1 : HpS b1 s.heap l1 xs) (hl2 : HpS b2 s.heap l2 ys) (hend : xs[k1]? = none ∨ ys[k2]? = none)
    (hE : ∀ h' e, (∀ c o, c ≠ z → c ≠ TO → c ≠ i1 → c ≠ i2 → s.heap.get? c = some o → h'.get? c = some o) → (∃ o, h'.get? e = some o ∧ o.cls = .type "StopIteration") → E (.ref e) { s with heap := h' }) :
    wpAny (model prog w) A (Builtin.SmallTypes.nextOf (.ref z)) Q E s := by
  obtain ⟨f0, bb, ho, _⟩ := id hz
  have hT : s.TypeIs (.ref z) "zip" := ⟨_, ho, rfl⟩
  unfold Builtin.SmallTypes.nextOf
  exact wpAny_bind (wpAny_callSpecial?_slot (name := Str.ofString "__next__") hT F.slot_zip_next (wpAny_call_entry F.slot_zip_next hT F.entry_zip_next
    (zipG_next_end hh D hz hTI hTO h1 h2 hl1 hl2 hend hE) (F.args_zip_next_1 _)))
/-- what stands in the heap between the turns -/
structure EZ (b1 b2 : Bool) (h : Heap) (e z TI TO i1 i2 l1 l2 : Addr) (i : Nat) : Prop where
  zg : ZipG h z TI TO
  ti : IsPair h TI (.ref i1) (.ref i2)
  to : ∃ x y, IsPair h TO x y
  h1 : HpI b1 h i1 l1 i
  h2 : HpI b2 h i2 l2 i
theorem EZ.at {b1 b2 : Bool} {h h' : Heap} {e z TI TO i1 i2 l1 l2 : Addr} {i : Nat} (x : EZ b1 b2 h e z TI TO i1 i2 l1 l2 i) (k : ∀ c ∈ [z, TI, TO, i1, i2], ∀ o, h.get? c = some o → h'.get? c = some o) : EZ b1 b2 h' e z TI TO i1 i2 l1 l2 i := by
  obtain ⟨⟨f0, bb, ho, hf⟩, hTI, ⟨x, y, hTO⟩, h1, h2⟩ := x
  exact ⟨⟨f0, bb, k z (by simp) _ ho, hf⟩, k TI (by simp) _ hTI, ⟨x, y, k TO (by simp) _ hTO⟩, h1.at fun o q => k i1 (by simp) o q, h2.at fun o q => k i2 (by simp) o q⟩
theorem enumZ_item {b1 b2 : Bool} {e z TI TO i1 i2 l1 l2 : Addr} {i : Nat} {xs ys : Array Value} {x y old : Value} {Q : Value → Shared → Prop} (D : ZipApart z TI TO i1 i2 l1 l2) (hn : e ∉ [z, TI, TO, i1, i2])
    (he : IsEnum s.heap e z (i : Nat) old) (st : EZ b1 b2 s.heap e z TI TO i1 i2 l1 l2 i) (hl1 : HpS b1 s.heap l1 xs) (hl2 : HpS b2 s.heap l2 ys) (hx : xs[i]? = some x) (hy : ys[i]? = some y)
    (hQ : ∀ h', IsEnumOut h' e z ((i : Int) + 1) (.ref s.heap.objs.size) (s.heap.objs.size + 1) → EZ b1 b2 h' e z TI TO i1 i2 l1 l2 (i + 1) → IsPair h' s.heap.objs.size x y →
      h'.get? (s.heap.objs.size + 1) = some { cls := .type "tuple", data := .seq #[.int i s.toks, .ref s.heap.objs.size] } → h'.objs.size = s.heap.objs.size + 2 →
      (∀ c o, c ∉ [e, z, TI, TO, i1, i2] → s.heap.get? c = some o → h'.get? c = some o) → Q (.ref (s.heap.objs.size + 1)) { s with heap := h', toks := s.toks + 1 }) :
    wpAny (model prog w) A (Builtin.«enumerate.__next__» ⟨[.ref e], []⟩) (fun fin s' => ∃ v, fin = .done (.ret v) ∧ Q v s') E s := by
  obtain ⟨hp, g, d, tk, os⟩ := s
  obtain ⟨n1, n2, n3, n4, n5⟩ : e ≠ z ∧ e ≠ TI ∧ e ≠ TO ∧ e ≠ i1 ∧ e ≠ i2 := by simpa using hn
  obtain ⟨hz, hTI, ⟨x0, y0, hTO⟩, h1, h2⟩ := st
  show wpAny _ _ (field (.ref e) 2 >>= _) _ _ _
  refine wpAny_bind (wpAny_field he rfl (x := .ref z) rfl ?_)
  refine wpAny_bind (nextZ_item D hz hTI hTO h1 h2 hl1 hl2 hx hy fun g1 a' b' c1 c2 c3 c4 c5 c6 c7 => ?_)
  have e1 : IsEnum g1 e z i old := c7 e _ n1 n3 n4 n5 he
  have st1 : EZ b1 b2 g1 e z TI TO i1 i2 l1 l2 (i + 1) := ⟨c1, c7 TI _ D.TIz D.TITO D.TIi1 D.TIi2 hTI, ⟨_, _, c2⟩, c3, c4⟩
  show wpAny _ _ (field (.ref e) 3 >>= _) _ _ ⟨g1, g, d, tk, os⟩
  refine wpAny_bind (wpAny_field e1 rfl (x := rawInt i) rfl ?_)
  show wpAny _ _ (field (.ref e) 4 >>= _) _ _ ⟨g1, g, d, tk, os⟩
  refine wpAny_bind (wpAny_field e1 rfl (x := .none) rfl ?_)
  show wpAny _ _ (mkInt i >>= _) _ _ ⟨g1, g, d, tk, os⟩
  refine wpAny_bind (wpAny_mkInt ?_)
  show wpAny _ _ (setField (.ref e) 3 (rawInt ((i : Int) + 1)) >>= _) _ _ ⟨g1, g, d, tk + 1, os⟩
  refine wpAny_bind (wpAny_setField_rec e1 (by simp) fun g2 e2 s2 => ?_)
  replace s2 : Heap.SameBut e g1 g2 := s2
  replace e2 : IsEnum g2 e z ((i : Int) + 1) old := e2
  show wpAny _ _ (setField (.ref e) 4 .none >>= _) _ _ ⟨g2, g, d, tk + 1, os⟩
  refine wpAny_bind (wpAny_setField_rec e2 (by simp) fun g3 e3 s3 => ?_)
  replace s3 : Heap.SameBut e g2 g3 := s3
  replace e3 : IsEnum g3 e z ((i : Int) + 1) old := e3
  show wpAny _ _ (newTuple [.int i tk, .ref hp.objs.size] >>= _) _ _ ⟨g3, g, d, tk + 1, os⟩
  refine wpAny_bind (wpAny_newTuple ?_)
  have e4 : IsEnum (g3.push { cls := .type "tuple", data := .seq #[.int i tk, .ref hp.objs.size] }) e z ((i : Int) + 1) old := Heap.get?_push_of_some _ e3
  generalize hg4 : g3.push { cls := .type "tuple", data := .seq #[.int i tk, .ref hp.objs.size] } = g4 at e4
  have sz : g3.objs.size = hp.objs.size + 1 := by rw [s3.1, s2.1]; exact c6
  have el : e < hp.objs.size := Heap.lt_size he
  have t4 : g4.get? (hp.objs.size + 1) = some { cls := .type "tuple", data := .seq #[.int i tk, .ref hp.objs.size] } := by rw [← hg4, ← sz]; exact Heap.get?_push_size _ rfl
  have z4 : g4.objs.size = hp.objs.size + 2 := by rw [← hg4, Heap.size_push, sz]
  have up4 : ∀ c o, c ≠ e → g1.get? c = some o → g4.get? c = some o := fun c o h q => by rw [← hg4]; exact Heap.get?_push_of_some _ (s3.extBut _ _ h (s2.extBut _ _ h q))
  show wpAny _ _ (Builtin.SmallTypes.ownedTupleIsFree (.ref e) >>= _) _ _ ⟨g4, g, d, tk + 1, os⟩
  rw [sz]
  refine wpAny_bind ?_
  unfold Builtin.SmallTypes.ownedTupleIsFree
  refine wpAny_bind (wpAny_field e4 rfl (x := .none) rfl (wpAny_pure ?_))
  simp only [if_true]
  refine wpAny_bind (wpAny_rule ?_)
  refine wpAny_bind (wpAny_field e4 rfl (x := old) rfl ?_)
  refine wpAny_bind (wpAny_setField_rec e4 (by simp) fun g5 e5 s5 => ?_)
  replace s5 : Heap.SameBut e g4 g5 := s5
  replace e5 : IsEnum g5 e z ((i : Int) + 1) (.ref hp.objs.size) := e5
  show wpAny _ _ (Builtin.SmallTypes.ownedTupleHandOut (.ref e) (.ref (hp.objs.size + 1)) >>= _) _ _ ⟨g5, g, d, tk + 1, os⟩
  refine wpAny_bind ?_
  unfold Builtin.SmallTypes.ownedTupleHandOut
  refine wpAny_bind (wpAny_setField_rec e5 (by simp) fun g6 e6 s6 => ?_)
  replace s6 : Heap.SameBut e g5 g6 := s6
  replace e6 : IsEnumOut g6 e z ((i : Int) + 1) (.ref hp.objs.size) (hp.objs.size + 1) := e6
  refine wpAny_setField_rec e6 (by simp) fun g7 e7 s7 => ?_
  replace s7 : Heap.SameBut e g6 g7 := s7
  replace e7 : IsEnumOut g7 e z ((i : Int) + 1) (.ref hp.objs.size) (hp.objs.size + 1) := e7
  have up7 : ∀ c o, c ≠ e → g4.get? c = some o → g7.get? c = some o := fun c o h q => s7.extBut _ _ h (s6.extBut _ _ h (s5.extBut _ _ h q))
  refine wpAny_bind (wpAny_letGo (wpAny_pure ⟨_, rfl, hQ g7 e7 ?_ ?_ ?_ ?_ ?_⟩))
  · exact st1.at fun c hc o q => up7 c o (fun z => hn (z ▸ hc)) (up4 c o (fun z => hn (z ▸ hc)) q)
  · exact up7 _ _ (Nat.ne_of_gt el) (up4 _ _ (Nat.ne_of_gt el) c5)
  · exact up7 _ _ (Nat.ne_of_gt (Nat.lt_succ_of_lt el)) t4
  · rw [s7.1, s6.1, s5.1, z4]
  · intro c o hc q
    simp only [List.mem_cons, List.not_mem_nil, or_false, not_or] at hc
    exact up7 _ _ hc.1 (up4 _ _ hc.1 (c7 c o hc.2.1 hc.2.2.2.1 hc.2.2.2.2.1 hc.2.2.2.2.2 q))
theorem pyNext_enumZ_item {b1 b2 : Bool} {e z TI TO i1 i2 l1 l2 : Addr} {i : Nat} {xs ys : Array Value} {x y old : Value} {Q : Option Value → Shared → Prop} (D : ZipApart z TI TO i1 i2 l1 l2) (hn : e ∉ [z, TI, TO, i1, i2])
    (he : IsEnum s.heap e z (i : Nat) old) (st : EZ b1 b2 s.heap e z TI TO i1 i2 l1 l2 i) (hl1 : HpS b1 s.heap l1 xs) (hl2 : HpS b2 s.heap l2 ys) (hx : xs[i]? = some x) (hy : ys[i]? = some y)
    (hQ : ∀ h', IsEnumOut h' e z ((i : Int) + 1) (.ref s.heap.objs.size) (s.heap.objs.size + 1) → EZ b1 b2 h' e z TI TO i1 i2 l1 l2 (i + 1) → IsPair h' s.heap.objs.size x y →
      h'.get? (s.heap.objs.size + 1) = some { cls := .type "tuple", data := .seq #[.int i s.toks, .ref s.heap.objs.size] } → h'.objs.size = s.heap.objs.size + 2 →
      (∀ c o, c ∉ [e, z, TI, TO, i1, i2] → s.heap.get? c = some o → h'.get? c = some o) → Q (some (.ref (s.heap.objs.size + 1))) { s with heap := h', toks := s.toks + 1 }) :
    wpAny (model prog w) A (pyNext (.ref e)) Q E s := by
  have hT : s.TypeIs (.ref e) "enumerate" := ⟨_, he, rfl⟩
  unfold pyNext
  exact wpAny_bind (wpAny_attempt (wpAny_callSpecial?_slot (name := Str.ofString "__next__") hT F.slot_enumerate_next
    (wpAny_call_entry F.slot_enumerate_next hT F.entry_enumerate_next
      (enumZ_item D hn he st hl1 hl2 hx hy fun h' a b c d f k => wpAny_pure (hQ h' a b c d f k)) (F.args_enumerate_next_1 _))))
theorem pyNext_enumZ_end {b1 b2 : Bool} {e z TI TO i1 i2 l1 l2 : Addr} {i : Nat} {xs ys : Array Value} {old : Value} {Q : Option Value → Shared → Prop} (hh : A.handled = none) (D : ZipApart z TI TO i1 i2 l1 l2)
    (he : IsEnum s.heap e z (i : Nat) old) (st : EZ b1 b2 s.heap e z TI TO i1 i2 l1 l2 i) (hl1 : HpS b1 s.heap l1 xs) (hl2 : HpS b2 s.heap l2 ys) (hend : xs[i]? = none ∨ ys[i]? = none)
    (hQ : ∀ h', (∀ c o, c ∉ [e, z, TI, TO, i1, i2] → s.heap.get? c = some o → h'.get? c = some o) → Q none { s with heap := h' }) : wpAny (model prog w) A (pyNext (.ref e)) Q E s := by
  have hT : s.TypeIs (.ref e) "enumerate" := ⟨_, he, rfl⟩
  obtain ⟨hz, hTI, ⟨x0, y0, hTO⟩, h1, h2⟩ := st
  unfold pyNext
  refine wpAny_bind (wpAny_attempt (wpAny_callSpecial?_slot (name := Str.ofString "__next__") hT F.slot_enumerate_next
    (wpAny_call_entry F.slot_enumerate_next hT F.entry_enumerate_next ?_ (F.args_enumerate_next_1 _))))
  show wpAny _ _ (field (.ref e) 2 >>= _) _ _ _
  refine wpAny_bind (wpAny_field he rfl (x := .ref z) rfl ?_)
  refine wpAny_bind (nextZ_end hh D hz hTI hTO h1 h2 hl1 hl2 hend fun h' x hk hx' => ?_)
  obtain ⟨o, ho, hc⟩ := hx'
  refine wpAny_bind (wpAny_isInstance (T := "StopIteration") (b := true) ⟨o, ho, hc⟩ isSubtype_stop ?_)
  refine wpAny_pure (hQ _ fun c o hc q => ?_)
  simp only [List.mem_cons, List.not_mem_nil, or_false, not_or] at hc
  exact hk c o hc.2.1 hc.2.2.2.1 hc.2.2.2.2.1 hc.2.2.2.2.2 q
theorem meets_enumerate_newZ (z TI TO : Addr) :
    Meets (Builtin.«enumerate.__new__» ⟨[.type "enumerate", .ref z], []⟩) (fun _ R s => IsZip s.heap z TI TO .none ∧
      R (.ok (.ret (.ref s.heap.objs.size))) { s with heap := s.heap.push { cls := .type "enumerate", data := .fields #[.none, .bool false, .ref z, rawInt 0, .none, .none] } }) :=
  .of_wp fun prog w A R s h => by
    obtain ⟨hp, g, d, tk, os⟩ := s; obtain ⟨hl, h⟩ := h
    have hsub := sub_enumerate
    have hL : IsZip (Shared.heap ⟨hp, g, d, tk, os⟩) z TI TO .none := hl
    wp_walk using AutoSeq1.wpAny_loadPart' hl
    refine wpAny_stack_any fun st => wpAny_pure ?_
    split
    · rename_i c _ _ _ _ _
      cases (c == Value.type "enumerate")
      · wp_walk using AutoSeq1.wpAny_loadPart' hl, wpAny_pyIter_zip hL
        exact ⟨_, rfl, h⟩
      · wp_walk using AutoSeq1.wpAny_loadPart' hl, wpAny_pyIter_zip hL
        exact ⟨_, rfl, h⟩
    · wp_walk using AutoSeq1.wpAny_loadPart' hl, wpAny_pyIter_zip hL
      exact ⟨_, rfl, h⟩
theorem call_enumZ {z TI TO : Addr} {Q : Value → Shared → Prop} (hz : IsZip s.heap z TI TO .none)
    (h : ∀ h', IsEnum h' s.heap.objs.size z 0 .none → (∀ b o, s.heap.get? b = some o → h'.get? b = some o) → Q (.ref s.heap.objs.size) { s with heap := h' }) :
    wpAny (model prog w) A (call (.type "enumerate") [.ref z]) Q E s := by
  refine callType_new F.called_enumerate (by decide) (F.typeCall_enumerate_1 _) (F.newCall_enumerate_1 _) (fun obj => F.args_object_init_2 obj _) F.entry_enumerate_new
    (meets_enumerate_newZ z TI TO) ⟨hz, ?_⟩
  have he : IsEnum (s.heap.push { cls := .type "enumerate", data := .fields #[.none, .bool false, .ref z, rawInt 0, .none, .none] }) s.heap.objs.size z 0 .none := Heap.get?_push_size _ rfl
  exact ⟨⟨_, he, rfl⟩, h _ he fun b o x => Heap.get?_push_of_some _ x⟩
end
/-! ### the turn -/
def IenZ (b1 b2 : Bool) (K : PySem.W.Frag) (a c : Addr) : It :=
  ⟨fun i H => ∃ (xs ys : List V) (x y : V), SqK b1 K H a xs ∧ SqK b2 K H c ys ∧ xs[i]? = some x ∧ ys[i]? = some y,
    fun i H v H' => ∃ T U x y, v = .ref U ∧ H T = none ∧ U ≠ T ∧ H U = none ∧ H' = upd (upd H T (.tup [x, y])) U (.tup [.int (i : Nat), .ref T]) ∧ (∀ xs, SqK b1 K H a xs → xs[i]? = some x) ∧ ∀ ys, SqK b2 K H c ys → ys[i]? = some y,
    fun i H => ∃ xs ys : List V, SqK b1 K H a xs ∧ SqK b2 K H c ys ∧ (xs.length ≤ i ∨ ys.length ≤ i)⟩
theorem turn_enumZ {b1 b2 : Bool} {P : Program} {w : World} {K : PySem.W.Frag} {elts : List Expr} {kk : Nat} {tpos : Pos} {a b e z TI TO i1 i2 : Addr} (D : ZipApart z TI TO i1 i2 a b) (hn : e ∉ [z, TI, TO, i1, i2]) :
    Turn P w K (.Tuple elts kk tpos) (IenZ b1 b2 K a b) [e, z, TI, TO, i1, i2] e (fun i h => (∃ old, IsEnum h e z ((i : Nat) : Int) old) ∧ EZ b1 b2 h e z TI TO i1 i2 a b i) where
  mem := by simp
  obj := fun i h st c hc => by
    obtain ⟨⟨old, he⟩, ⟨f0, bb, hz, _⟩, hTI, ⟨x, y, hTO⟩, h1, h2⟩ := st
    obtain ⟨o1, e1, f1, d1⟩ := h1.fields
    obtain ⟨o2, e2, f2, d2⟩ := h2.fields
    have e' : c = e ∨ c = z ∨ c = TI ∨ c = TO ∨ c = i1 ∨ c = i2 := by simpa using hc
    rcases e' with q | q | q | q | q | q
    · rw [q]; exact ⟨_, he, fun v q => nomatch q⟩
    · rw [q]; exact ⟨_, hz, fun v q => nomatch q⟩
    · rw [q]; exact ⟨_, hTI, fun v q => nomatch q⟩
    · rw [q]; exact ⟨_, hTO, fun v q => nomatch q⟩
    · rw [q]; exact ⟨o1, e1, fun v q => by rw [d1] at q; cases q⟩
    · rw [q]; exact ⟨o2, e2, fun v q => by rw [d2] at q; cases q⟩
  keep := fun i h h' st k => by
    obtain ⟨⟨old, he⟩, st⟩ := st
    exact ⟨⟨old, k e (by simp) _ he⟩, st.at fun c hc o q => k c (List.mem_cons_of_mem _ hc) o q⟩
  item := by
    intro X hP hw hK hc i pins s σ H E I hf st hg
    subst hP hw hK
    obtain ⟨⟨old, he⟩, st⟩ := st
    obtain ⟨xs, ys, x, y, hqx, hqy, hx, hy⟩ := hg
    obtain ⟨its, rv, p⟩ := inv_sqK I hqx
    obtain ⟨its2, rv2, p2⟩ := inv_sqK I hqy
    obtain ⟨u, hu, ru⟩ := rv.get hx
    obtain ⟨u2, hu2, ru2⟩ := rv2.get hy
    have hel : e < s.heap.objs.size := Heap.lt_size he
    refine pyNext_enumZ_item D hn he st p p2 (x := u) (y := u2) (by simpa using hu) (by simpa using hu2) fun h' eo st' hT hU hsz hk => ?_
    refine ⟨_, rfl, wpAny_letOwnedTupleGo_enum (s := { s with heap := h', toks := s.toks + 1 }) eo fun h'' he' sb => ?_⟩
    have hT2 : h''.get? s.heap.objs.size = some { cls := .type "tuple", data := .seq #[u, u2] } := (sb.2 _ (Nat.ne_of_gt hel)).trans hT
    have hU2 : h''.get? (s.heap.objs.size + 1) = some { cls := .type "tuple", data := .seq #[.int i s.toks, .ref s.heap.objs.size] } := (sb.2 _ (Nat.ne_of_gt (Nat.lt_succ_of_lt hel))).trans hU
    have hn0 : H s.heap.objs.size = none := I.hok.fresh (Nat.le_refl _)
    have hn1 : H (s.heap.objs.size + 1) = none := I.hok.fresh (Nat.le_succ _)
    have pT : (s.heap.push { cls := .type "tuple", data := .seq #[u, u2] }).get? s.heap.objs.size = some { cls := .type "tuple", data := .seq #[u, u2] } := Heap.get?_push_size _ rfl
    have pz : (s.heap.push { cls := .type "tuple", data := .seq #[u, u2] }).objs.size = s.heap.objs.size + 1 := Heap.size_push ..
    have new1 : ObjOk X.prog X.w (upd H s.heap.objs.size (.tup [x, y])) (s.heap.push { cls := .type "tuple", data := .seq #[u, u2] }) s.heap.objs.size (.tup [x, y]) :=
      ⟨by show 2 ≤ sizeLine; decide, [u, u2], .cons ru (.cons ru2 .nil), ⟨_, pT, rfl, _, rfl⟩⟩
    have fr : ∀ c o, c ∉ [e, z, TI, TO, i1, i2] → s.heap.get? c = some o → h''.get? c = some o := fun c o hb q => (sb.2 c (fun q' => hb (by simp [q']))).trans (hk c o hb q)
    have I1 : Inv X pins σ (upd H s.heap.objs.size (.tup [x, y])) { s with heap := s.heap.push { cls := .type "tuple", data := .seq #[u, u2] }, toks := s.toks } :=
      I.turnedNew (t' := s.toks) (ch := []) (fun c o _ q => Heap.get?_push_of_some _ q) (fun _ h => nomatch h) (Nat.le_refl _) new1
    have hlt : ∀ c ∈ [e, z, TI, TO, i1, i2], c < s.heap.objs.size := fun c hc => by
      obtain ⟨⟨f0, bb, hz, _⟩, hTI, ⟨_, _, hTO⟩, g1, g2⟩ := st
      have e' : c = e ∨ c = z ∨ c = TI ∨ c = TO ∨ c = i1 ∨ c = i2 := by simpa using hc
      rcases e' with q | q | q | q | q | q
      · rw [q]; exact hel
      · rw [q]; exact Heap.lt_size hz
      · rw [q]; exact Heap.lt_size hTI
      · rw [q]; exact Heap.lt_size hTO
      · rw [q]; obtain ⟨_, e1, _⟩ := g1.fields; exact Heap.lt_size e1
      · rw [q]; obtain ⟨_, e2, _⟩ := g2.fields; exact Heap.lt_size e2
    have new2 : ObjOk X.prog X.w (upd (upd H s.heap.objs.size (.tup [x, y])) (s.heap.objs.size + 1) (.tup [.int (i : Nat), .ref s.heap.objs.size])) h'' (s.heap.objs.size + 1) (.tup [.int (i : Nat), .ref s.heap.objs.size]) :=
      ⟨by show 2 ≤ sizeLine; decide, [.int i s.toks, .ref s.heap.objs.size], .cons ⟨_, rfl⟩ (.cons rfl .nil), ⟨_, hU2, rfl, _, rfl⟩⟩
    have I2 : Inv X pins σ (upd (upd H s.heap.objs.size (.tup [x, y])) (s.heap.objs.size + 1) (.tup [.int (i : Nat), .ref s.heap.objs.size])) { s with heap := h'', toks := s.toks + 1 } :=
      I1.turnedNew (t' := s.toks + 1) (ch := [e, z, TI, TO, i1, i2]) (fun c o hb q => by
        rcases Heap.get?_push_cases q with ⟨hc, ho⟩ | q
        · rw [hc, ho]; exact hT2
        · exact fr c o hb q) (fun c hc => ⟨(upd_ne (Nat.ne_of_lt (hlt c hc))).trans (hf c hc).1, (hf c hc).2⟩) (Nat.le_of_eq pz) new2
    refine ⟨.ref (s.heap.objs.size + 1), _, I2, rfl, ⟨_, _, x, y, rfl, hn0, Nat.succ_ne_self _, hn1, rfl, fun l hl => by rw [sqK_inj I hl hqx]; exact hx, fun l hl => by rw [sqK_inj I hl hqy]; exact hy⟩, ⟨⟨.ref s.heap.objs.size, ?_⟩, ?_⟩, fun c hc => ?_⟩
    · have e1 : ((i + 1 : Nat) : Int) = (i : Int) + 1 := by omega
      rw [e1]; exact he'
    · exact st'.at fun c hc o q => (sb.2 c (fun q' => hn (q' ▸ hc))).trans q
    · rw [upd_ne (Nat.ne_of_lt (Nat.lt_succ_of_lt (hlt c hc))), upd_ne (Nat.ne_of_lt (hlt c hc))]
      exact (hf c hc).1
  done := by
    intro X hP hw hK hc i pins s σ H E I hf st hg
    subst hP hw hK
    obtain ⟨⟨old, he⟩, st⟩ := st
    obtain ⟨xs, ys, hqx, hqy, hend⟩ := hg
    obtain ⟨its, rv, p⟩ := inv_sqK I hqx
    obtain ⟨its2, rv2, p2⟩ := inv_sqK I hqy
    have l1 := rv.length
    have l2 := rv2.length
    have hq : its.toArray[i]? = none ∨ its2.toArray[i]? = none := by
      rcases hend with q | q
      · exact .inl (by simp; omega)
      · exact .inr (by simp; omega)
    exact pyNext_enumZ_end (I.ok.hd hc) D he st p p2 hq fun h' hk => ⟨rfl, I.turnedL (t' := s.toks) (ch := [e, z, TI, TO, i1, i2]) (fun c o hb q => hk c o hb q) hf⟩
  self := fun A i s Q E st h => let ⟨⟨_, he⟩, _⟩ := st; wpAny_pyIter_enum he h
def iEnumZ (K : PySem.W.Frag) (ta : TA) : TI := fun σ H R => ta σ H fun vs H1 => ∃ b1 b2 a b xs ys, vs = [.ref a, .ref b] ∧ SqK b1 K H1 a xs ∧ SqK b2 K H1 b ys ∧ R (IenZ b1 b2 K a b) H1
theorem pi_enumZ {X : Cx} {e e2 : Expr} {ta : TA} {p p2 pos pos2 tpos : Pos} {elts : List Expr} {kk : Nat} (hg : Gl X "enumerate") (hm : X.mg "enumerate" = none) (hg2 : Gl X "zip") (hm2 : X.mg "zip" = none) (ha : PA X [e, e2] ta)
    (hs : starEach [e, e2] X.env = (false, eval e X.env) :: starEach [e2] X.env := by rfl) (hpl : (backTo pos2 (starEach [e2] X.env)).any (·.1) = false := by rfl)
    (hs0 : starEach [.Call (.Name "zip" p2) [e, e2] [] pos2] X.env = (false, eval (.Call (.Name "zip" p2) [e, e2] [] pos2) X.env) :: starEach [] X.env := by rfl) :
    PI X (.Tuple elts kk tpos) (.Call (.Name "enumerate" p) [.Call (.Name "zip" p2) [e, e2] [] pos2] [] pos) (iEnumZ X.K ta) := by
  refine ⟨fun pins s σ H R I h => ?_⟩
  refine Call_ (ld_blt I hg hm boot_enumerate (PyProof.Rows.callWith_type1 (PyProof.Rows.args_cons ?_ hs0) hs0 rfl))
  refine Call_ (ld_blt I hg2 hm2 PyProof.Rows.boot_zip (PyProof.Rows.callWith_type1 (thn (ha.run pos2 pins s σ H _ I h) fun us s1 ⟨vs, H1, I1, r1, q1⟩ => ?_) hs hpl))
  obtain ⟨b1, b2, a, b, xs, ys, ex, hqx, hqy, q⟩ := q1
  subst ex
  cases r1 with
  | cons r rr =>
    cases rr with
    | cons r' rr =>
      cases rr
      cases r
      cases r'
      obtain ⟨its, rv, p1⟩ := inv_sqK I1 hqx
      obtain ⟨its2, rv2, p2⟩ := inv_sqK I1 hqy
      refine call_zipK p1 p2 fun h' hz hTI hTO h1 h2 hsz hk => PyProof.Rows.args_nil ?_
      refine call_enumZ (s := { s1 with heap := h' }) hz fun h'' he hk2 => wpAny_pyIter_enum he ?_
      have I2 : Inv X pins σ H1 { s1 with heap := h'' } := I1.kept (t' := s1.toks) fun b o q => hk2 b o (hk b o q)
      have st : EZ b1 b2 h'' h'.objs.size (s1.heap.objs.size + 4) (s1.heap.objs.size + 2) (s1.heap.objs.size + 3) s1.heap.objs.size (s1.heap.objs.size + 1) a b 0 :=
        ⟨⟨_, false, hk2 _ _ hz, .inl rfl⟩, hk2 _ _ hTI, ⟨_, _, hk2 _ _ hTO⟩, h1.at fun o q => hk2 _ o q, h2.at fun o q => hk2 _ o q⟩
      have hle : ∀ c ∈ [h'.objs.size, s1.heap.objs.size + 4, s1.heap.objs.size + 2, s1.heap.objs.size + 3, s1.heap.objs.size, s1.heap.objs.size + 1], s1.heap.objs.size ≤ c := fun c hcm => by
        have e' : c = h'.objs.size ∨ c = s1.heap.objs.size + 4 ∨ c = s1.heap.objs.size + 2 ∨ c = s1.heap.objs.size + 3 ∨ c = s1.heap.objs.size ∨ c = s1.heap.objs.size + 1 := by simpa using hcm
        rcases e' with z | z | z | z | z | z <;> rw [z] <;> first | exact Nat.le_refl _ | exact Nat.le_add_right _ _ | (rw [hsz]; exact Nat.le_add_right _ _)
      refine ⟨h'.objs.size, [h'.objs.size, s1.heap.objs.size + 4, s1.heap.objs.size + 2, s1.heap.objs.size + 3, s1.heap.objs.size, s1.heap.objs.size + 1], _, _, H1, rfl, I2, turn_enumZ (b1 := b1) (b2 := b2) (PySem.W.ktu_apart s1.heap.objs.size a b p1.lt p2.lt) (by rw [hsz]; simp), ⟨⟨.none, he⟩, st⟩, fun c hcm => I1.fpOk (hle c hcm) (I1.hok.fresh (hle c hcm)), q⟩
theorem enumZ_step {K : PySem.W.Frag} {R : Root τ} {F1 H H' : Hp} {env : PEnv} {σ : L2.St} {i : Nat} {xs ys : List V} {ds es : List PyData} {d : PyData} (r : Rel K R F1 env σ H) (l : RpL K F1 xs ds) (l2 : RpL K F1 ys es) (e : (enumD (zipD ds es))[i]? = some d) {v : V}
    (hy : ∃ T U x y, v = .ref U ∧ H T = none ∧ U ≠ T ∧ H U = none ∧ H' = upd (upd H T (.tup [x, y])) U (.tup [.int (i : Nat), .ref T]) ∧ xs[i]? = some x ∧ ys[i]? = some y) : ∃ F2, Same F1 F2 ∧ Rel K R F2 env σ H' ∧ Rp K F2 v d := by
  obtain ⟨T, U, x, y, rfl, hT, hUT, hU, rfl, hx, hy⟩ := hy
  rw [enumD_at] at e
  unfold zipD at e
  rw [List.getElem?_map, zip_at] at e
  obtain ⟨d0, hd0, px⟩ := l.get hx
  obtain ⟨d1, hd1, py⟩ := l2.get hy
  rw [hd0, hd1] at e
  cases e
  obtain ⟨f2, r2, p2⟩ := new_tup r hT (.cons px (.cons py .nil))
  obtain ⟨f3, r3, p3⟩ := new_tup r2 (show upd H T (.tup [x, y]) U = none by rw [upd_ne hUT]; exact hU) (.cons (.int (i : Nat)) (.cons p2 .nil))
  exact ⟨_, f2.trans f3, r3, p3⟩
theorem yl_enumZ {b1 b2 : Bool} {K : PySem.W.Frag} {F : Hp} {a b : Addr} {xs ys : List V} {ds es : List PyData} (h : SqK b1 K F a xs) (h2 : SqK b2 K F b ys) (l : RpL K F xs ds) (l2 : RpL K F ys es) : Yl K F (IenZ b1 b2 K a b) (enumD (zipD ds es)) where
  go := fun R F1 env σ H i d f r e => by
    have hlt : i < (zipD ds es).length := by rw [← enumD_len]; exact (List.getElem?_eq_some_iff.mp e).1
    rw [zipD_len] at hlt
    obtain ⟨x, hx⟩ : ∃ x, xs[i]? = some x := ⟨_, List.getElem?_eq_getElem (by rw [l.length]; omega)⟩
    obtain ⟨y, hy⟩ : ∃ x, ys[i]? = some x := ⟨_, List.getElem?_eq_getElem (by rw [l2.length]; omega)⟩
    have hs := sqK_mono (f.trans r.sub) h
    have hs2 := sqK_mono (f.trans r.sub) h2
    exact ⟨⟨xs, ys, x, y, hs, hs2, hx, hy⟩, fun v H' ⟨T, U, z, z2, e1, e2, e3, e4, e5, e6, e7⟩ => enumZ_step r (rpL_mono f _ _ l) (rpL_mono f _ _ l2) e ⟨T, U, z, z2, e1, e2, e3, e4, e5, e6 xs hs, e7 ys hs2⟩⟩
  stop := fun R F1 env σ H f r => ⟨xs, ys, sqK_mono (f.trans r.sub) h, sqK_mono (f.trans r.sub) h2, by rw [enumD_len, zipD_len, l.length, l2.length]; omega⟩
@[simp ↓] def wiEnumZ (wa : WA) : WI := fun env Q => wa env fun ds e1 => match ds with
  | [d, e] => ∃ xs ys, seqD d = some xs ∧ seqD e = some ys ∧ Q (enumD (zipD xs ys)) e1
  | _ => False
theorem ci_enumZ {X : Cx} {R : Root τ} {e e2 : Expr} {wa : WA} {p p2 pos pos2 tpos : Pos} {elts : List Expr} {kk : Nat} (hg : Gl X "enumerate") (hm : X.mg "enumerate" = none) (hg2 : Gl X "zip") (hm2 : X.mg "zip" = none) (he : CA X R [e, e2] wa)
    (hs : starEach [e, e2] X.env = (false, eval e X.env) :: starEach [e2] X.env := by rfl) (hpl : (backTo pos2 (starEach [e2] X.env)).any (·.1) = false := by rfl)
    (hs0 : starEach [.Call (.Name "zip" p2) [e, e2] [] pos2] X.env = (false, eval (.Call (.Name "zip" p2) [e, e2] [] pos2) X.env) :: starEach [] X.env := by rfl) :
    CI X R (.Tuple elts kk tpos) (.Call (.Name "enumerate" p) [.Call (.Name "zip" p2) [e, e2] [] pos2] [] pos) (wiEnumZ wa) :=
  pi_imp (pi_enumZ hg hm hg2 hm2 he hs hpl hs0) fun σ H Rk ⟨F, env, Qw, r, w, k⟩ => ⟨F, env, _, r, w, fun F1 e1 H1 xs ds f1 r1 p1 w1 => by
    match ds, p1, w1 with
    | [d, e], .cons pd (.cons pe .nil), ⟨xs, ys, hd, he, w1⟩ =>
      obtain ⟨b1, a, us, rfl, q1, l1⟩ := rp_seq pd hd
      obtain ⟨b2, c, vs, rfl, q2, l2⟩ := rp_seq pe he
      exact ⟨b1, b2, _, _, _, _, rfl, sqK_mono r1.sub q1, sqK_mono r1.sub q2, k F1 e1 H1 _ _ f1 r1 (yl_enumZ q1 q2 l1 l2) w1⟩⟩
end VL
set_option Elab.async false
set_option linter.all false
set_option maxRecDepth 100000
set_option maxHeartbeats 1000000
/-! VL52: a comprehension over enumerate(zip(e, xs)), xs an owned list that is lent to the iterator and taken back. -/
namespace VL
open PySem PySem.Spec PyProof.Rows L2 RZ
variable {τ : Tau}
structure YlB (K : PySem.W.Frag) (F : Hp) (b : Addr) (ys : List V) (J : It) (items : List PyData) : Prop where
  go : ∀ {τ : Tau} (R : Root τ) (F1 : Hp) (env : PEnv) (σ : L2.St) (H : Hp) (i : Nat) (d : PyData), Same F F1 → Rel K R F1 env σ H → R.keep b = some (.lst ys) → items[i]? = some d → J.go i H ∧ ∀ x H', J.yld i H x H' → ∃ F2, Same F1 F2 ∧ Rel K R F2 env σ H' ∧ Rp K F2 x d
  stop : ∀ {τ : Tau} (R : Root τ) (F1 : Hp) (env : PEnv) (σ : L2.St) (H : Hp), Same F F1 → Rel K R F1 env σ H → R.keep b = some (.lst ys) → J.stop items.length H
def rdIB (K : PySem.W.Frag) (R : Root τ) (i : Nat) (w : WI) : TI := fun σ H Rk => ∃ F env Qw, Rel K R F env σ H ∧ w env Qw ∧ ∀ F' env' H' J items b ys es, Same F F' → Rel K R F' env' σ H' → env'[i]? = some (some (.ol es)) →
  σ[i]? = some (some (.ref b)) → Own R F' b → H' b = some (.lst ys) → RpL K F' ys es → YlB K F' b ys J items → Qw items env' → Rk J H'
abbrev CIB (X : Cx) (R : Root τ) (i : Nat) (tg iter : Expr) (w : WI) : Prop := PI X tg iter (rdIB X.K R i w)
@[simp ↓] def wiEnumZB (we : WE) (i : Nat) : WI := fun env Q => we env fun d e1 => ∃ xs es, seqD d = some xs ∧ e1[i]? = some (some (.ol es)) ∧ Q (enumD (zipD xs es)) e1
theorem yl_enumZB {b1 : Bool} {K : PySem.W.Frag} {F : Hp} {a b : Addr} {xs ys : List V} {ds es : List PyData} (h : SqK b1 K F a xs) (l : RpL K F xs ds) (l2 : RpL K F ys es) : YlB K F b ys (IenZ b1 true K a b) (enumD (zipD ds es)) where
  go := fun R F1 env σ H i d f r hk e => by
    have hlt : i < (zipD ds es).length := by rw [← enumD_len]; exact (List.getElem?_eq_some_iff.mp e).1
    rw [zipD_len] at hlt
    obtain ⟨x, hx⟩ : ∃ x, xs[i]? = some x := ⟨_, List.getElem?_eq_getElem (by rw [l.length]; omega)⟩
    obtain ⟨y, hy⟩ : ∃ x, ys[i]? = some x := ⟨_, List.getElem?_eq_getElem (by rw [l2.length]; omega)⟩
    have hs := sqK_mono (f.trans r.sub) h
    have hs2 : SqK true K H b ys := .inl (.inl (r.kp b _ hk).1)
    exact ⟨⟨xs, ys, x, y, hs, hs2, hx, hy⟩, fun v H' ⟨T, U, z, z2, e1, e2, e3, e4, e5, e6, e7⟩ => enumZ_step r (rpL_mono f _ _ l) (rpL_mono f _ _ l2) e ⟨T, U, z, z2, e1, e2, e3, e4, e5, e6 xs hs, e7 ys hs2⟩⟩
  stop := fun R F1 env σ H f r hk => ⟨xs, ys, sqK_mono (f.trans r.sub) h, .inl (.inl (r.kp b _ hk).1), by rw [enumD_len, zipD_len, l.length, l2.length]; omega⟩
theorem ci_enumZB {X : Cx} {R : Root τ} {e e2 : Expr} {we : WE} {i : Nat} {p p2 pos pos2 tpos : Pos} {elts : List Expr} {kk : Nat} (hg : Gl X "enumerate") (hm : X.mg "enumerate" = none) (hg2 : Gl X "zip") (hm2 : X.mg "zip" = none) (he : CE X R e we) (h2 : PE X e2 (tVar i))
    (hs : starEach [e, e2] X.env = (false, eval e X.env) :: starEach [e2] X.env := by rfl) (hs1 : starEach [e2] X.env = (false, eval e2 X.env) :: starEach [] X.env := by rfl) (hpl : (backTo pos2 (starEach [e2] X.env)).any (·.1) = false := by rfl)
    (hs0 : starEach [.Call (.Name "zip" p2) [e, e2] [] pos2] X.env = (false, eval (.Call (.Name "zip" p2) [e, e2] [] pos2) X.env) :: starEach [] X.env := by rfl) :
    CIB X R i (.Tuple elts kk tpos) (.Call (.Name "enumerate" p) [.Call (.Name "zip" p2) [e, e2] [] pos2] [] pos) (wiEnumZB we i) :=
  pi_imp (pi_enumZ hg hm hg2 hm2 (pa_cons he (pa_cons h2 pa_nil hs1) hs) hs hpl hs0) fun σ H Rk ⟨F, env, Qw, r, w, k⟩ => ⟨F, env, _, r, w, fun F1 e1 H1 x d f1 r1 p1 ⟨xs, es, hd, hi, w1⟩ => by
    obtain ⟨b1, a, us, rfl, q1, l1⟩ := rp_seq p1 hd
    obtain ⟨b, ys, hb, ow, hH, l2⟩ := ol_at r1 hi
    exact ⟨_, hb, b1, true, a, b, us, ys, rfl, sqK_mono r1.sub q1, .inl (.inl hH), k F1 e1 H1 _ _ b ys es f1 r1 hi hb ow hH l2 (yl_enumZB q1 l1 l2) w1⟩⟩
theorem Rel.hide {K : PySem.W.Frag} {R : Root τ} {F H : Hp} {env : PEnv} {σ : L2.St} (r : Rel K R F env σ H) (i : Nat) : Rel K R F (env.set i none) σ H := by
  refine { r.toBase with len := by rw [List.length_set]; exact r.len, sl := fun j s h => ?_, dis := fun j k s t a hjk h1 o1 h2 o2 h3 => ?_ }
  · rcases list_ix_set h with ⟨_, e⟩ | ⟨_, e⟩
    · cases e
    · exact r.sl j s e
  · rcases list_ix_set h1 with ⟨_, e⟩ | ⟨_, e⟩
    · cases e
    · rcases list_ix_set h2 with ⟨_, e'⟩ | ⟨_, e'⟩
      · cases e'
      · exact r.dis j k s t a hjk e o1 e' o2 h3
@[simp ↓] def wLcB (i : Nat) (wi : WI) (g : WG) (tt : WT) (we : WE) (vs : List Nat) : WF := fun env Q => wi env fun items e1 => i ∉ vs ∧ ∃ es, e1[i]? = some (some (.ol es)) ∧ noOwn (e1.set i none) vs ∧
  lcW g tt we vs items [] (wipeE (e1.set i none) vs) fun ds e2 => Q (.ol ds) ((restE e2 (e1.set i none) vs).set i (some (.ol es)))
section lc
variable {X : Cx} {R : Root τ} {elt tg iter : Expr} {ifs : List Expr} {scope : Scope} {own : List (Str × Nat)} {pos spos : Pos} {wi : WI} {g : WG} {tt : WT} {we : WE} {ib : Nat}
theorem wLcB_rd {vs : List Nat} : ∀ σ H Q, rdF X.K R (wLcB ib wi g tt we vs) σ H Q → tLc (rdIB X.K R ib wi) (rdGx τ X.K vs g) (rdTs τ X.K tt) (rdEs τ X.K we) vs σ H Q := by
  intro σ H Q ⟨F, env, Qw, r, w, k⟩
  refine ⟨F, env, _, r, w, fun F1 e1 H1 J items b ys es f1 r1 hib hb owb hHb lb y1 ⟨hiv, es', hib', no, I, i0, iok⟩ => fun D hD => ?_⟩
  rw [hib] at hib'
  cases hib'
  have hKb : R.keep b = none := owb.2.2
  have frb : ∀ (i : Nat) (t : Slot) (a : Addr), (e1.set ib none)[i]? = some (some t) → t.owns = true → σ[i]? = some (some (.ref a)) → a ≠ b := fun i t a h1 h2 h3 z => by
    rcases list_ix_set h1 with ⟨_, e⟩ | ⟨hne, e⟩
    · cases e
    · subst z
      exact r1.dis ib i _ t a (Ne.symm hne) hib rfl e h2 hb h3
  have r1b := (r1.hide ib).aside hHb owb.1 owb.2.1 rfl frb
  generalize hR : R.kee (upd R.keep b (.lst ys)) = R1 at r1b
  have hk1 : R1.keep b = some (.lst ys) := by rw [← hR]; exact upd_same
  have hDb : D ≠ b := fun z => by rw [z, hHb] at hD; cases hD
  obtain ⟨rD, sD, frD⟩ := new_ol r1b hD (xs := []) (ds := []) .nil
  obtain ⟨D', xs', eD, owD, hD1, lD⟩ := sD
  cases eD
  have ex : xs' = [] := by cases lD; rfl
  subst ex
  have fr0 : ∀ (i : Nat) (t : Slot) (a : Addr), (e1.set ib none)[i]? = some (some t) → t.owns = true → σ[i]? = some (some (.ref a)) → a ≠ D := fun i t a h1 h2 h3 z => frD rfl i t a h1 h2 h3 (by rw [z])
  have hKD : R1.keep D = none := owD.2.2
  have rk0 := rD.aside hD1 owD.1 owD.2.1 rfl fr0
  have hk2 : ∀ acc, (R1.kee (upd R1.keep D (.lst acc))).keep b = some (.lst ys) := fun acc => by
    show upd R1.keep D (.lst acc) b = _
    rw [upd_ne (Ne.symm hDb)]; exact hk1
  refine ⟨fun i m H => m = items.length - i ∧ i ≤ items.length ∧ ∃ F2 env2 acc accD, Same F1 F2 ∧ Rel X.K (R1.kee (upd R1.keep D (.lst acc))) F2 env2 (wipe σ vs) H ∧ RpL X.K F2 acc accD ∧ I (items.drop i) accD env2,
    ⟨items.length, rfl, Nat.zero_le _, F1, _, [], [], Same.refl _, rk0.wiped (vs := vs) (σ := σ) wipe_chg, .nil, i0⟩, ?_⟩
  rintro i m H ⟨rfl, hi, F2, env2, acc, accD, f2, r2, l2, w2⟩
  by_cases hlt : i < items.length
  · have e0 : items.drop i = items[i] :: items.drop (i + 1) := List.drop_eq_getElem_cons hlt
    rw [e0] at w2
    replace w2 := iok.step _ _ _ _ w2
    obtain ⟨g1, g2⟩ := y1.go _ F2 env2 (wipe σ vs) H i items[i] f2 r2 (hk2 acc) (List.getElem?_eq_getElem hlt)
    refine .inr ⟨g1, fun H' => ∃ F3 env3 acc accD, Same F1 F3 ∧ Rel X.K (R1.kee (upd R1.keep D (.lst acc))) F3 env3 (wipe σ vs) H' ∧ RpL X.K F3 acc accD ∧ I (items.drop (i + 1)) accD env3,
      fun H' z => ⟨items.length - (i + 1), by omega, rfl, hlt, z⟩, fun x H' hy => ?_⟩
    obtain ⟨F3, f3, r3, p3⟩ := g2 x H' hy
    refine ⟨_, F3, env2, _, items[i], r3, p3, w2, fun F4 e4 σ4 H4 f4 r4 c4 w4 => ⟨(wipe_ext c4).trans wipe_wipe, _, F4, e4, _, r4, w4, fun F5 e5 H5 b f5 r5 w5 => ?_⟩⟩
    have ff5 := ((f2.trans f3).trans f4).trans f5
    have g25 := (f3.trans f4).trans f5
    cases b with
    | true =>
      refine ⟨_, F5, e5, _, r5, w5, fun F6 e6 H6 y d f6 r6 p6 ⟨hz, w6⟩ => ?_⟩
      obtain ⟨rb, hb1, hb2, hb3, hb4⟩ := r6.back hKD
      refine ⟨acc, hb1, by rw [l2.length]; exact hz, F6, wipeE e6 vs, acc ++ [y], accD ++ [d], ff5.trans f6, ?_, (rpL_mono (g25.trans f6) _ _ l2).append (.cons p6 .nil), w6⟩
      have rw6 := (rb.writeK hb1 hb2 hKD hb3 rfl (o' := .lst (acc ++ [y])) rfl hb4).aside upd_same hb2 hb3 rfl hb4
      exact rw6.wiped c4
    | false =>
      refine ⟨F5, wipeE e5 vs, acc, accD, ff5, r5.wiped c4, rpL_mono g25 _ _ l2, w5⟩
  · have e0 : i = items.length := by omega
    subst e0
    rw [List.drop_length] at w2
    replace w2 := iok.fin _ _ w2
    obtain ⟨rb, hb1, hb2, hb3, hb4⟩ := r2.back hKD
    have rr := r1b.rest rb f2 no
    have h0D : R.H0 D = none := by rw [← hR] at hb3; exact hb3
    have hKD0 : R.keep D = none := by
      rw [← hR] at hKD
      have h : upd R.keep b (.lst ys) D = none := hKD
      rw [upd_ne hDb] at h; exact h
    have stop := y1.stop _ F2 env2 (wipe σ vs) H f2 r2 (hk2 acc)
    rw [← hR] at rr
    obtain ⟨ro, ho1, ho2, ho3, ho4⟩ := rr.back hKb
    have rs := ro.set (i := ib) (s := .ol es) (x := .ref b) ⟨b, ys, rfl, ⟨ho2, ho3, hKb⟩, ho1, rpL_mono f2 _ _ lb⟩ (fun _ j t a h1 h2 h3 z => ho4 j t a h1 h2 h3 (V.ref.inj z).symm)
    rw [show σ.set ib (some (.ref b)) = σ from List.ext_getElem? fun j => by
      by_cases hj : j = ib
      · subst hj
        have hl : j < σ.length := (List.getElem?_eq_some_iff.mp hb).1
        rw [List.getElem?_set_self hl, hb]
      · rw [List.getElem?_set_ne (Ne.symm hj)]] at rs
    refine .inl ⟨stop, k F2 _ H (.ref D) (.ol accD) (f1.trans f2) rs ⟨D, acc, rfl, ⟨hb2, h0D, hKD0⟩, hb1, l2⟩ (fun _ j t a h1 h2 h3 z => ?_) w2⟩
    cases z
    rcases list_ix_set h1 with ⟨hj, e⟩ | ⟨hj, e⟩
    · subst hj
      rw [hb] at h3
      cases h3
      exact hDb rfl
    · rcases restE_at e with ⟨q1, q2⟩ | ⟨q1, q2⟩
      · rw [no j q1 t q2] at h2; cases h2
      · exact hb4 j t D q2 h2 (by rw [wipe_at (x := V.non) q1]; exact h3) rfl
theorem cf_lcB (hc : X.calm = true) (hN : X.N.Nodup) (hi : CIB X R ib tg iter wi) (ok : BlkOk X.N X.env.scope scope own)
    (hg : ∀ (R : Root τ) (s : Shared) (H : Hp) (C : Addr) (cl : List (Str × Addr)) (fp : List Addr), CG (X.blk s H scope (compEnvC scope cl C X.env) fp) R (own.map (·.2)) tg g)
    (ht : ∀ (R : Root τ) (s : Shared) (H : Hp) (C : Addr) (cl : List (Str × Addr)) (fp : List Addr), CTs (X.blk s H scope (compEnvC scope cl C X.env) fp) R ifs tt)
    (he : ∀ (R : Root τ) (s : Shared) (H : Hp) (C : Addr) (cl : List (Str × Addr)) (fp : List Addr), CE (X.blk s H scope (compEnvC scope cl C X.env) fp) R elt we) (hs : ∀ x, foldedSetIterable iter X.env x = pure x := by intro _; rfl) :
    CF X R (.ListComp elt [⟨tg, iter, ifs, 0⟩] scope pos) (wLcB ib wi g tt we (own.map (·.2))) :=
  pe_imp (pe_lc hc hN hi ok (fun s H C cl fp => pg_s fun R => hg R s H C cl fp) (fun s H C cl fp => pts_s fun R => ht R s H C cl fp) (fun s H C cl fp => pe_s fun R => he R s H C cl fp) hs) wLcB_rd
theorem cs_setLcB {i : Nat} {y : Str} {py : Pos} (hc : X.calm = true) (hN : X.N.Nodup) (hy : X.N[i]? = some y) (hyl : X.env.scope.names.lookup y = some .local)
    (hsw : swapsWith (.ListComp elt [⟨tg, iter, ifs, 0⟩] scope pos) (some (.Name y py)) spos.line X.env = pure true) (hi : CIB X R ib tg iter wi) (ok : BlkOk X.N X.env.scope scope own)
    (hg : ∀ (R : Root τ) (s : Shared) (H : Hp) (C : Addr) (cl : List (Str × Addr)) (fp : List Addr), CG (X.blk s H scope (compEnvC scope cl C X.env) fp) R (own.map (·.2)) tg g)
    (ht : ∀ (R : Root τ) (s : Shared) (H : Hp) (C : Addr) (cl : List (Str × Addr)) (fp : List Addr), CTs (X.blk s H scope (compEnvC scope cl C X.env) fp) R ifs tt)
    (he : ∀ (R : Root τ) (s : Shared) (H : Hp) (C : Addr) (cl : List (Str × Addr)) (fp : List Addr), CE (X.blk s H scope (compEnvC scope cl C X.env) fp) R elt we) (hs : ∀ x, foldedSetIterable iter X.env x = pure x := by intro _; rfl) :
    CS X R (.Assign [.Name y py] (.ListComp elt [⟨tg, iter, ifs, 0⟩] scope pos) spos) (wSet i (wLcB ib wi g tt we (own.map (·.2)))) :=
  ps_imp (ps_setLc hc hN hy hyl hsw hi ok (fun s H C cl fp => pg_s fun R => hg R s H C cl fp) (fun s H C cl fp => pts_s fun R => ht R s H C cl fp) (fun s H C cl fp => pe_s fun R => he R s H C cl fp) hs) (wSet_rd wLcB_rd)
end lc
end VL
set_option Elab.async false
set_option linter.all false
set_option maxRecDepth 100000
set_option maxHeartbeats 1000000
/-! VL53: min of pairs. -/
namespace VL
open PySem PySem.Spec PyProof.Rows L2
def minP (a b : Int × Int) : Int × Int := if b.1 < a.1 ∨ (b.1 = a.1 ∧ b.2 < a.2) then b else a
theorem minD_pairs (x : Int × Int) : ∀ xs : List (Int × Int), W.minD (encII x) (xs.map encII) = encII (xs.foldl minP x) := by
  intro xs
  unfold W.minD
  induction xs generalizing x with
  | nil => rfl
  | cons y xs ih =>
    rw [List.map_cons, List.foldl_cons, List.foldl_cons, ← ih]
    congr 1
    unfold encII
    rw [W.dataLt_ii]
    unfold minP
    by_cases h : y.1 < x.1 ∨ (y.1 = x.1 ∧ y.2 < x.2)
    · rw [if_pos h, if_pos (decide_eq_true h)]
    · rw [if_neg h, if_neg (by simpa using h)]
theorem alike_pairs (xs : List (Int × Int)) : W.AlikeAll (xs.map encII) := ⟨fun x hx y hy => by
  obtain ⟨p, _, rfl⟩ := List.mem_map.mp hx
  obtain ⟨q, _, rfl⟩ := List.mem_map.mp hy
  simp [encII, W.alike, W.alikeAll], fun x hx => by
  obtain ⟨p, _, rfl⟩ := List.mem_map.mp hx
  simp [encII]⟩
theorem depth_pairs : ∀ xs : List (Int × Int), PyData.depthAll (xs.map encII) ≤ 62 := fun xs => depthAll_le fun x hx => by
  obtain ⟨p, _, rfl⟩ := List.mem_map.mp hx
  simp [encII, PyData.depth, PyData.depthAll]
@[simp] theorem okBest_pairs (x : Int × Int) (xs : List (Int × Int)) : okBest (encII x :: xs.map encII) := ⟨alike_pairs (x :: xs), depth_pairs (x :: xs)⟩
theorem minP_fold : ∀ (xs : List (Int × Int)) (x : Int × Int), xs.foldl minP x ∈ x :: xs ∧ ∀ y ∈ x :: xs, (xs.foldl minP x).1 < y.1 ∨ ((xs.foldl minP x).1 = y.1 ∧ (xs.foldl minP x).2 ≤ y.2)
  | [], x => by simp
  | z :: xs, x => by
    obtain ⟨h1, h2⟩ := minP_fold xs (minP x z)
    rw [List.foldl_cons]
    have hm : minP x z = x ∨ minP x z = z := by unfold minP; split <;> simp
    refine ⟨?_, fun y hy => ?_⟩
    · rcases List.mem_cons.mp h1 with h | h
      · rw [h]; rcases hm with h | h <;> rw [h] <;> simp
      · simp [h]
    · have hb := h2 (minP x z) (by simp)
      have key : ∀ y, y = x ∨ y = z → (minP x z).1 < y.1 ∨ ((minP x z).1 = y.1 ∧ (minP x z).2 ≤ y.2) := by
        intro y hy
        unfold minP
        rcases hy with rfl | rfl <;> split <;> omega
      rcases List.mem_cons.mp hy with h | h
      · have := key y (.inl h); omega
      · rcases List.mem_cons.mp h with h | h
        · have := key y (.inr h); omega
        · exact h2 y (by simp [h])
end VL
set_option Elab.async false
set_option linter.all false
set_option maxRecDepth 100000
set_option maxHeartbeats 1000000
/-! VL54: a, b, c, d = x, y, z, new. -/
namespace VL
open PySem PySem.Spec PyProof.Rows L2
variable {τ : Tau}
section
variable {X : Cx} {R : Root τ} {pos : Pos}
@[simp ↓] def wPar4 (i j m n : Nat) (wa wb wc : WE) (wd : WF) : WS := fun D env => wa env fun a e1 => wb e1 fun b e2 => wc e2 fun c e3 => wd e3 fun t e4 => D.nx ((((e4.set i (some (.fz a))).set j (some (.fz b))).set m (some (.fz c))).set n (some t))
theorem cs_par4 {i j m n : Nat} {x y z v : Str} {a b c d : Expr} {wa wb wc : WE} {wd : WF} {px py pz pv pt : Pos} {kt k2 pt2} (hc : X.calm = true) (hg1 : PG X (.Name x px) (gName i)) (hg2 : PG X (.Name y py) (gName j)) (hg3 : PG X (.Name z pz) (gName m)) (hg4 : PG X (.Name v pv) (gName n))
    (ha : CE X R a wa) (hb : CE X R b wb) (hcc : CE X R c wc) (hd : CF X R d wd)
    (he : starEach [a, b, c, d] X.env = (false, eval a X.env) :: starEach [b, c, d] X.env := by rfl) (he2 : starEach [b, c, d] X.env = (false, eval b X.env) :: starEach [c, d] X.env := by rfl) (he3 : starEach [c, d] X.env = (false, eval c X.env) :: starEach [d] X.env := by rfl) (he4 : starEach [d] X.env = (false, eval d X.env) :: starEach [] X.env := by rfl)
    (hw : swappedStores [.Tuple [.Name x px, .Name y py, .Name z pz, .Name v pv] kt pt] (.Tuple [a, b, c, d] k2 pt2) X.env = pure none := by rfl)
    (hs : swapsWithSole [.Tuple [.Name x px, .Name y py, .Name z pz, .Name v pv] kt pt] (.Tuple [a, b, c, d] k2 pt2) pos.line X.env = pure false := by rfl)
    (h1 : (assignEach [.Tuple [.Name x px, .Name y py, .Name z pz, .Name v pv] kt pt] X.env).map (·.2) = [assign (.Tuple [.Name x px, .Name y py, .Name z pz, .Name v pv] kt pt) X.env] := by rfl)
    (h2 : (assignEach [.Name x px, .Name y py, .Name z pz, .Name v pv] X.env).map (·.2) = assign (.Name x px) X.env :: (assignEach [.Name y py, .Name z pz, .Name v pv] X.env).map (·.2) := by rfl)
    (h3 : (assignEach [.Name y py, .Name z pz, .Name v pv] X.env).map (·.2) = assign (.Name y py) X.env :: (assignEach [.Name z pz, .Name v pv] X.env).map (·.2) := by rfl)
    (h4 : (assignEach [.Name z pz, .Name v pv] X.env).map (·.2) = assign (.Name z pz) X.env :: (assignEach [.Name v pv] X.env).map (·.2) := by rfl)
    (h5 : (assignEach [.Name v pv] X.env).map (·.2) = assign (.Name v pv) X.env :: (assignEach [] X.env).map (·.2) := by rfl)
    (hn : (assignEach [.Name x px, .Name y py, .Name z pz, .Name v pv] X.env).length = 4 := by rfl) (hst : (assignEach [.Name x px, .Name y py, .Name z pz, .Name v pv] X.env).findIdx? (·.1) = none := by rfl) :
    CS X R (.Assign [.Tuple [.Name x px, .Name y py, .Name z pz, .Name v pv] kt pt] (.Tuple [a, b, c, d] k2 pt2) pos) (wPar4 i j m n wa wb wc wd) := by
  refine ps_imp (ps_asg (pe_tup (pa_cons ha (pa_cons hb (pa_cons hcc (pa_cons hd pa_nil he4) he3) he2) he)) (pg_tup hc (pgs_cons hg1 (pgs_cons hg2 (pgs_cons hg3 (pgs_cons hg4 pgs_nil h5) h4) h3) h2) hn hst) hs hw h1) fun D σ H ⟨F, env, W, r, w, l⟩ => ?_
  refine ⟨F, env, _, r, w, fun F1 e1 H1 v1 d1 f1 r1 p1 w1 => ⟨F1, e1, _, r1, w1, fun F2 e2 H2 v2 d2 f2 r2 p2 w2 => ⟨F2, e2, _, r2, w2, fun F3 e3 H3 v3 d3 f3 r3 p3 w3 => ⟨F3, e3, _, r3, w3, fun F4 e4 H4 u t f4 r4 p4 fr4 w4 => ?_⟩⟩⟩⟩
  refine ⟨by show 4 ≤ sizeLine; decide, fun p hp => ?_⟩
  have bb := r4.toBase.allocO (o := .tup [v1, v2, v3, u]) hp rfl
  have r5 := r4.up bb (Same.refl F4)
  have q1 := rp_mono ((f2.trans f3).trans f4) _ _ p1
  have q2 := rp_mono (f3.trans f4) _ _ p2
  have q3 := rp_mono f4 _ _ p3
  have s1 := r5.set (i := i) (s := .fz d1) q1 fresh_fz
  have s2 := s1.set (i := j) (s := .fz d2) q2 fresh_fz
  have s3 := s2.set (i := m) (s := .fz d3) q3 fresh_fz
  have s4 := s3.set (i := n) (s := t) (p4.up bb (Same.refl F4)) (fresh_set (fresh_set (fresh_set fr4 (fun _ h => by cases h)) (fun _ h => by cases h)) (fun _ h => by cases h))
  exact ⟨p, [v1, v2, v3, u], rfl, .inl (.inl upd_same), rfl, v1, [v2, v3, u], rfl, v2, [v3, u], rfl, v3, [u], rfl, u, [], rfl, rfl, l.nx F4 _ _ _ (((f1.trans f2).trans f3).trans f4) s4 w4⟩
end
end VL
set_option Elab.async false
set_option linter.all false
set_option maxRecDepth 100000
set_option maxHeartbeats 1000000
/-! VL55: xs += e, both lists. -/
namespace VL
open PySem PySem.Spec PyProof.Rows L2
variable {τ : Tau}
section
variable {X : Cx} {R : Root τ} {e : Expr} {we : WE} {pos pos' : Pos} {i : Nat} {x : Str}
@[simp ↓] def wAugLM (i : Nat) (D : WD) (y : PyData) (e1 : PEnv) : Prop := match e1[i]?, y with
  | some (some (.ol ds)), .list es => ds.length + es.length ≤ sizeLine ∧ D.nx (e1.set i (some (.ol (ds ++ es))))
  | _, _ => False
@[simp ↓] def wAugL (i : Nat) (we : WE) : WS := fun D env => (∃ ds0, env[i]? = some (some (.ol ds0))) ∧ we env fun y e1 => wAugLM i D y e1
theorem cs_augL (hN : X.N.Nodup) (hi : X.N[i]? = some x) (hx : Loc X.env.scope x) (he : CE X R e we) (hf : X.fn x = true ∨ X.env.scope.names.lookup x = some .local := by first | exact .inl rfl | exact .inr rfl | assumption) :
    CS X R (.AugAssign (.Name x pos') .Add e pos) (wAugL i we) :=
  ps_imp (ps_aug hN hi hx he iop_ext hf) fun D σ H ⟨F, env, W, r0, ⟨⟨ds0, h0⟩, w⟩, l⟩ => by
    obtain ⟨a, xs0, h1, ow0, h2, l0⟩ := ol_at r0 h0
    refine ⟨_, h1, F, env, _, r0, w, fun F1 e1 H1 y d f1 r1 p1 w1 => ?_⟩
    unfold wAugLM at w1
    split at w1
    · rename_i ds es q
      obtain ⟨hz, w2⟩ := w1
      obtain ⟨a', xs, h3, ow, h4, l1⟩ := ol_at r1 q
      rw [h1] at h3; cases h3
      cases p1 with
      | lst hb lb =>
        refine ⟨a, _, xs, _, rfl, rfl, h4, r1.sub _ _ hb, by rw [l1.length, lb.length]; exact hz, ?_⟩
        have e0 : σ.set i (some (.ref a)) = σ := List.ext_getElem? fun j => by
          by_cases hj : j = i
          · subst hj
            have hl : j < σ.length := (List.getElem?_eq_some_iff.mp h1).1
            rw [List.getElem?_set_self hl, h1]
          · rw [List.getElem?_set_ne (Ne.symm hj)]
        show D.nx (σ.set i (some (.ref a))) _
        rw [e0]
        exact l.nx F1 _ σ _ f1 (ol_write r1 q h1 ow h4 (l1.append lb)) w2
    · cases w1
end
end VL
set_option Elab.async false
set_option linter.all false
set_option maxRecDepth 100000
set_option maxHeartbeats 1000000
/-! VL56: x in s, both strings; a new list by a test. -/
namespace VL
open PySem PySem.Spec PyProof.Rows L2
variable {τ : Tau}
section
variable {X : Cx} {R : Root τ} {K : PySem.W.Frag}
def rInS : R2 := fun x y H Q => ∃ i j, x = .str i ∧ y = .str j ∧ Q (.bl (Txt.contains j i)) H
theorem op_inS : OpR X (compareOp .In) rInS := by
  intro pins s σ H x y v u Q I rx ry h
  obtain ⟨i, j, rfl, rfl, q⟩ := h
  obtain ⟨t, rfl⟩ := rx
  obtain ⟨t2, rfl⟩ := ry
  exact PySem.SB.contains ⟨.bl _, H, I, rfl, q⟩
@[simp ↓] def gInS : G2 := fun a b k => match a, b with
  | .str i, .str j => k (.bool (Txt.contains j i))
  | _, _ => False
theorem ow_inS : OpW K R rInS gInS := by
  intro F env σ H x y a b k Q r pa pb w q
  cases a with
  | str i =>
    cases b with
    | str j => exact ⟨i, j, pa.str, pb.str, q F H _ _ (Same.refl F) r (.bl _) w⟩
    | _ => cases w
  | _ => cases b <;> cases w
/-- one of two new objects -/
@[simp ↓] def wIfF (wc : WT) (wa wb : WF) : WF := fun env Q => wc env fun c e1 => if c = true then wa e1 Q else wb e1 Q
theorem cf_ifF {c a b : Expr} {pos : Pos} {wc : WT} {we wf : WF} (hc : CT X R c wc) (ha : CF X R a we) (hb : CF X R b wf) : CF X R (.IfExp c a b pos) (wIfF wc we wf) :=
  pe_imp (pe_ifExp hc ha hb) fun σ H Q ⟨F, env, Qw, r, w, k⟩ => ⟨F, env, _, r, w, fun F1 e1 H1 c f1 r1 w1 => by
    cases c with
    | true => exact ⟨F1, e1, _, r1, w1, fun F2 e2 H2 x s f2 r2 p2 fr w2 => k F2 e2 H2 x s (f1.trans f2) r2 p2 fr w2⟩
    | false => exact ⟨F1, e1, _, r1, w1, fun F2 e2 H2 x s f2 r2 p2 fr w2 => k F2 e2 H2 x s (f1.trans f2) r2 p2 fr w2⟩⟩
end
end VL
set_option Elab.async false
set_option linter.all false
set_option maxRecDepth 100000
set_option maxHeartbeats 1000000
/-! VL57: xs.pop(i), str(i), len(set(t)) of a tuple of ints. -/
namespace VL
open PySem PySem.Spec PyProof.Rows L2
variable {τ : Tau}
section
variable {X : Cx} {R : Root τ} {K : PySem.W.Frag} {e : Expr} {we : WE} {p ap pos : Pos} {i : Nat} {x : Str}
theorem ix_seq {n : Nat} {j : Int} {k : Nat} (h : ixN n j = some k) : seqIndex? j n = some k := by
  unfold ixN at h
  unfold seqIndex?
  by_cases c : 0 ≤ j
  · rw [if_pos c] at h
    have c2 : ¬ j < 0 := by omega
    simp only [c2, if_false]
    by_cases d : j < n
    · rw [if_pos d] at h
      have : (0 ≤ j && j < n) = true := by simp [c, d]
      simp only [c, d, decide_true, Bool.and_self, if_true]
      exact h
    · rw [if_neg d] at h; cases h
  · rw [if_neg c] at h
    have c2 : j < 0 := by omega
    simp only [c2, if_true]
    by_cases d : -(n : Int) ≤ j
    · rw [if_pos d] at h
      have h1 : 0 ≤ j + n := by omega
      have h2 : j + n < n := by omega
      simp only [h1, h2, decide_true, Bool.and_self, if_true]
      exact h
    · rw [if_neg d] at h; cases h
theorem rpL_erase {F : Hp} : ∀ {xs : List V} {ds : List PyData} (k : Nat), RpL K F xs ds → RpL K F (xs.eraseIdx k) (ds.eraseIdx k)
  | _, _, _, .nil => .nil
  | _, _, 0, .cons _ t => t
  | _, _, k + 1, .cons a t => .cons a (rpL_erase k t)
/-- xs.pop(j) -/
@[simp ↓] def wPopM (i : Nat) (Q : PyData → PEnv → Prop) (y : PyData) (e1 : PEnv) : Prop := match e1[i]?, y with
  | some (some (.ol ds)), .int j => (-(2 ^ 63) ≤ j ∧ j < 2 ^ 63) ∧ ∃ n d, ixN ds.length j = some n ∧ ds[n]? = some d ∧ Q d (e1.set i (some (.ol (ds.eraseIdx n))))
  | _, _ => False
theorem wPopM_at {Q : PyData → PEnv → Prop} {y : PyData} {e1 : PEnv} (w : wPopM i Q y e1) : ∃ ds j n d, e1[i]? = some (some (.ol ds)) ∧ y = .int j ∧ (-(2 ^ 63) ≤ j ∧ j < 2 ^ 63) ∧ ixN ds.length j = some n ∧ ds[n]? = some d ∧ Q d (e1.set i (some (.ol (ds.eraseIdx n)))) := by
  unfold wPopM at w
  split at w
  · obtain ⟨h1, n, d, h2, h3, h4⟩ := w
    exact ⟨_, _, n, d, by assumption, rfl, h1, h2, h3, h4⟩
  · cases w
@[simp ↓] def wPopAt (i : Nat) (we : WE) : WE := fun env Q => (∃ ds0, env[i]? = some (some (.ol ds0))) ∧ we env fun y e1 => wPopM i Q y e1
theorem ce_popAt (h : PE X (.Name x p) (tVar i)) (he : CE X R e we)
    (hbase : attributeBase (.Name x p) "pop" X.env (eval (.Name x p) X.env) = eval (.Name x p) X.env := by rfl)
    (hfew : ((backTo pos (starEach [e] X.env)).all (fun x => !x.1) && (backToKw pos (keywordEach [] X.env)).all (fun x => x.1.isSome)
      && decide ([e].length + ([] : List Keyword).length + (if ([] : List Keyword).isEmpty then 0 else 1) < 30)) = true := by rfl)
    (hline : (ap.endLine == pos.line) = true := by rfl) (hs : starEach [e] X.env = (false, eval e X.env) :: starEach [] X.env := by rfl) (hplain : (backTo pos (starEach [] X.env)).any (·.1) = false := by rfl) :
    CE X R (.Call (.Attribute (.Name x p) "pop" ap) [e] [] pos) (wPopAt i we) :=
  pe_imp (pe_bm PySem.F.plainAttrs_list PySem.F.slot_list_pop PySem.F.type_list_pop mt_popAt h (ca_cons he ca_nil hs) hbase hfew hline hs hplain) fun σ H Q ⟨F, env, Qw, r, ⟨⟨ds0, h0⟩, w⟩, k⟩ => by
    obtain ⟨a, xs0, h1, ow0, h2, l0⟩ := ol_at r h0
    refine ⟨_, h1, .inl ⟨rfl, xs0, .inl (.inl h2)⟩, F, env, fun ds e2 => match ds with
      | [y] => wPopM i Qw y e2
      | _ => False, r, w, fun F1 e1 H1 ys ds f1 r1 p1 w1 => ?_⟩
    match ds, p1, w1 with
    | [d], .cons (v := y) q1 q2, w1 =>
      cases q2
      obtain ⟨ds, j, n, d1, q, rfl, hb, hn, hd, w2⟩ := wPopM_at (show wPopM i Qw d e1 from w1)
      obtain ⟨a', xs, h3, ow, h4, l⟩ := ol_at r1 q
      rw [h1] at h3; cases h3
      obtain ⟨v, hv, rv⟩ := l.get' hd
      cases q1
      refine ⟨a, xs, j, n, v, rfl, rfl, h4, hb.1, hb.2, ix_seq (by rw [l.length]; exact hn), hv, ?_⟩
      exact k F1 _ _ v d1 f1 (ol_write r1 q h1 ow h4 (rpL_erase n l)) rv w2
/-! ### str(i) -/
@[simp ↓] def gStr : GA := fun ds k => match ds with
  | [.int i] => i.natAbs.log2 < 1920 ∧ k (.str (toString i))
  | _ => False
theorem cw_str : CallW K R (fun xs H Q => ∃ i, xs = [V.int i] ∧ i.natAbs.log2 < 1920 ∧ Q (.str (toString i)) H) gStr := by
  intro F env σ H xs ds k Q r b w q
  match ds, w with
  | [.int i], w =>
    obtain ⟨y, rfl, by1⟩ := br1 b
    exact ⟨i, by rw [by1.int], w.1, q F H _ _ (Same.refl F) r (.str _) w.2⟩
/-! ### len(set(t)) -/
def tLenSetT (K : PySem.W.Frag) (ta : TE) : TE := fun σ H Q => ta σ H fun x H1 => ∃ (l : Addr) (ns : List Int), x = V.ref l ∧ SqT K H1 l (ns.map V.int) ∧ ns.length < 64 ∧ Q (.int (uniq ns).length) H1
theorem uniq_count {ns ks : List Int} (h1 : ks.Nodup) (h2 : ∀ k, k ∈ ns ↔ k ∈ ks) : ks.length = (uniq ns).length :=
  ((List.perm_ext_iff_of_nodup h1 (uniq_nodup ns)).mpr fun k => by rw [mem_uniq]; exact (h2 k).symm).length_eq
theorem pe_lenSetT {a : Expr} {ta : TE} {p p2 q pos : Pos} (hc : X.calm = true) (hg : Gl X "len") (hm : X.mg "len" = none) (hg2 : Gl X "set") (hm2 : X.mg "set" = none) (ha : PE X a ta)
    (na : starEach [a] X.env = (false, eval a X.env) :: starEach [] X.env := by rfl) : PE X (.Call (.Name "len" p) [.Call (.Name "set" p2) [a] [] q] [] pos) (tLenSetT X.K ta) := by
  refine ⟨fun pins s σ H Q I h => ?_⟩
  refine Call_ (ld_blt I hg hm PySem.boot_len ?_)
  refine PyProof.Rows.callWith_builtin1 (PyProof.Rows.args_cons ?_ rfl) rfl rfl
  refine Call_ (ld_blt I hg2 hm2 PyProof.Rows.boot_set ?_)
  refine PyProof.Rows.callWith_type1 (PyProof.Rows.args_cons (thn (ha.run pins s σ H _ I h) fun v s1 ⟨x, H1, I1, r1, q1⟩ => PyProof.Rows.args_nil ?_) na) na rfl
  obtain ⟨l, ns, rfl, hq, h1, q1⟩ := q1
  cases r1
  obtain ⟨its, r, pl, hz⟩ := I1.tuple hq
  refine call_set_tupI ns (I1.ok.hd hc) (show s1.heap.IsTuple l its.toArray from pl) (by simpa using r.ints) (by unfold scanBound; omega) fun h' tk c hS hc' hk => ?_
  refine PyProof.Rows.args_nil ?_
  obtain ⟨o, es, ep, t, ho, hex, hd, g, nd, hm, hsb, hf, hn, _⟩ := hS
  have I2 : Inv X pins σ H1 { s1 with heap := h', toks := tk } := I1.kept fun b o e => hk b o e
  have hcnt : es.size = (uniq ns).length := by
    have e1 := uniq_count (ns := ns) nd fun k => (by simpa using hm k)
    rw [List.length_map, Array.length_toList] at e1
    exact e1
  refine call_len_set ho hex hd hf (by omega) ⟨.int (uniq ns).length, H1, I2.tok _, ⟨_, by rw [hcnt]⟩, q1⟩
@[simp ↓] def wLenSet (we : WE) : WE := fun env Q => we env fun y e1 => match y with
  | .tuple ds => ∃ ns : List Int, ds = ns.map PyData.int ∧ ns.length < 64 ∧ Q (.int (uniq ns).length) e1
  | _ => False
theorem ce_lenSet {a : Expr} {wa : WE} {p p2 q pos : Pos} (hc : X.calm = true) (hg : Gl X "len") (hm : X.mg "len" = none) (hg2 : Gl X "set") (hm2 : X.mg "set" = none) (ha : CE X R a wa)
    (na : starEach [a] X.env = (false, eval a X.env) :: starEach [] X.env := by rfl) : CE X R (.Call (.Name "len" p) [.Call (.Name "set" p2) [a] [] q] [] pos) (wLenSet wa) :=
  pe_imp (pe_lenSetT hc hg hm hg2 hm2 ha na) fun σ H Q ⟨F, env, Qw, r, w, k⟩ => ⟨F, env, _, r, w, fun F1 e1 H1 x d f1 r1 p1 w1 => by
    cases d with
    | tuple ds =>
      obtain ⟨ns, rfl, hl, w2⟩ := w1
      cases p1 with
      | tup ht l =>
        have e := ints_of ns l
        subst e
        exact ⟨_, ns, rfl, .inl (.inl (r1.sub _ _ ht)), hl, k F1 _ _ _ _ f1 r1 (.int _) w2⟩
    | _ => cases w1⟩
end
end VL
set_option Elab.async false
set_option linter.all false
set_option maxRecDepth 100000
set_option maxHeartbeats 2000000
/-! VL58: sorted of a generator expression. -/
namespace PySem.W
open Lean PySem PySem.Calls PyProof.Rows PyProof.V PySem.Spec
section
variable {prog : Program} {w : World} {A : Around} {E : Value → Shared → Prop} {s : Shared}
theorem sorted_col {it : Addr} {B : List Value → Shared → Prop} {Q : Value → Shared → Prop}
    (hcol : ∀ (Q' : List Value → Shared → Prop) (E' : Value → Shared → Prop), (∀ acc s', B acc s' → Q' acc s') → wpAny (model prog w) A.in1 (collect (.ref it)) Q' E' s)
    (hh : ∀ vs s', B vs s' → ∃ ps : List (L2.V × PyData), EachIs (fun v (b : L2.V × PyData) => L2.RelV b.1 v) vs ps ∧ EachIs (fun v (b : L2.V × PyData) => ∃ as, Reads s'.heap v b.2 as) vs ps ∧ AllAlike (ps.map (·.2)) ∧ Sortable (ps.map (·.2)) ∧ ps.length ≤ sizeLine ∧
      (∀ b, b ∈ ps → A.units + 2 + b.2.depth < cLine) ∧ ∀ h' d out, (∀ b u, s'.heap.get? b = some u → h'.get? b = some u) → s'.heap.objs.size ≤ d → (∃ n, h'.get? d = some (seqObj "list" (List.toArray out) n)) → out.length = ps.length → EachIs (fun v (b : L2.V × PyData) => L2.RelV b.1 v) out (ps.mergeSort (dataLe false (·.2))) → Q (.ref d) { s' with heap := h' }) :
    wpAny (model prog w) A (call (.builtin "sorted") [.ref it]) Q E s := by
  refine call_function_entry_kw kind_sorted plain_sorted entry_sorted (args_sorted1 _) ?_
  unfold Builtin.«sorted»
  refine wpAny_bind (m := checkCount "sorted" 1 1 _) (wpAny_pure ?_)
  refine wpAny_bind (hcol _ _ fun vs s' hB => ?_)
  obtain ⟨ps, e, er, hal, hk, hL, hu, h⟩ := hh vs s' hB
  have hlen : vs.length = ps.length := e.length
  refine wpAny_bind (wpAny_newList ?_ (by omega))
  generalize hS : (s'.heap.push { cls := .type "list", data := .seq vs.toArray }) = h2
  have sz2 : h2.objs.size = s'.heap.objs.size + 1 := by rw [← hS, size_push']
  have k2 : ∀ b u, s'.heap.get? b = some u → h2.get? b = some u := fun b u q => by rw [← hS]; exact Heap.get?_push_of_some _ q
  have at2 : h2.get? s'.heap.objs.size = some (seqObj "list" vs.toArray 0) := by rw [← hS]; exact Heap.get?_push_size _ rfl
  have er' : EachIs (fun v (b : L2.V × PyData) => ∃ as, Reads (sortingHeap h2 s'.heap.objs.size vs) v b.2 as) vs ps := er.mono fun _ _ ⟨as, r⟩ => ⟨as, PyProof.Rows.Reads.keeps (fun b u q => sortingHeap_old (by
    have hlt := Heap.lt_size q
    exact fun z => by rw [z] at hlt; exact absurd hlt (Nat.lt_irrefl _)) (k2 b u q)) r⟩
  refine wpAny_bind (wpAny_holding (wpAny_call_entry slot_list_sort ⟨_, at2, rfl⟩ entry_list_sort (list_sort_vals (s := { s' with heap := h2 }) (κ := dataKind (sortingHeap h2 s'.heap.objs.size vs) (ps.map (·.2))) at2 (SortsAt.data (s := { s' with heap := sortingHeap h2 s'.heap.objs.size vs }) (each_map (R := fun v d => ∃ as, Reads (sortingHeap h2 s'.heap.objs.size vs) v d as) (fun (b : L2.V × PyData) => b.2) er') hal hk (bound_map (enc := fun (b : L2.V × PyData) => b.2) hu)) (by omega) ⟨.none, rfl, ?_⟩) (args_list_sort _)))
  refine wpAny_pure ⟨_, rfl, ?_⟩
  refine h _ _ _ (fun b u q => ?_) (Nat.le_refl _) (sortedHeap_at at2) (by rw [sortVals_length false rfl]; exact e.length) (sortVals_data false e er' hal)
  have hlt := Heap.lt_size q
  exact (sortedHeap_old (fun z => by rw [z] at hlt; exact absurd hlt (Nat.lt_irrefl _)) (by rw [sz2]; exact Nat.lt_succ_of_lt hlt)).trans (k2 b u q)
end
end PySem.W
namespace VL
open PySem PySem.Spec PyProof.Rows L2
variable {τ : Tau}
def QeS (K : PySem.W.Frag) (Q : VK) (ys : List V) (H : Hp) : Prop := ∃ ps : List (V × PyData), ys = ps.map (·.1) ∧ DpAll K H (ps.map (·.1)) (ps.map (·.2)) ∧ W.AllAlike (ps.map (·.2)) ∧ W.Sortable (ps.map (·.2)) ∧ PyData.depthAll (ps.map (·.2)) ≤ 60 ∧
  ∀ p, H p = none → Q (.ref p) (upd H p (.lst ((ps.mergeSort (W.dataLe false (·.2))).map (·.1))))
def tSrtG (K : PySem.W.Frag) (P : Addr) (wi : TI) (g : TG) (tt : TT) (te : TE) (vs : List Nat) : TE := fun σ H Q => wi σ H fun J H1 => GxR.TabG H1 P ∧ ∀ H2, TabUp P H1 H2 → ∃ W : WGn, (∃ m, W 0 m [] H2) ∧
  GTurn J (lstC 0).D g tt te vs (wipe σ vs) (QeS K Q) W
section
variable {X : Cx} {c P : Addr} {elt tg iter : Expr} {ifs : List Expr} {scope : Scope} {own : List (Str × Nat)} {wi : TI} {g : TG} {tt : TT} {te : TE} {k : Nat} {p pos gpos : Pos}
theorem pe_srtG (hu : X.A.units + 64 < cLine) (hc : X.calm = true) (hN : X.N.Nodup) (hr : Room (k + 1) X.A) (hgl : Gl X "sorted") (hm : X.mg "sorted" = none) (TB : GxR.TabB X.base X.mg c P) (hcode : X.env.code = .ref c) (ok : GenSc X.N X.env.scope scope own) (hi : PI X tg iter wi)
    (hg : ∀ (A : Around) (s : Shared) (H : Hp) (C : Addr) (cl : List (Str × Addr)) (code : Value) (fp : List Addr), Room k A → PG (genCx X A s H (genEnv scope cl C code builtinsNs X.env) fp) tg g)
    (ht : ∀ (A : Around) (s : Shared) (H : Hp) (C : Addr) (cl : List (Str × Addr)) (code : Value) (fp : List Addr), Room k A → PTs (genCx X A s H (genEnv scope cl C code builtinsNs X.env) fp) ifs tt)
    (he : ∀ (A : Around) (s : Shared) (H : Hp) (C : Addr) (cl : List (Str × Addr)) (code : Value) (fp : List Addr), Room k A → PE (genCx X A s H (genEnv scope cl C code builtinsNs X.env) fp) elt te)
    (hs : ∀ v, genFold iter X.env v = pure v := by intro _; rfl)
    (hst : starEach [.GeneratorExp elt [⟨tg, iter, ifs, 0⟩] scope gpos] X.env = (false, eval (.GeneratorExp elt [⟨tg, iter, ifs, 0⟩] scope gpos) X.env) :: starEach [] X.env := by rfl) :
    PE X (.Call (.Name "sorted" p) [.GeneratorExp elt [⟨tg, iter, ifs, 0⟩] scope gpos] [] pos) (tSrtG X.K P wi g tt te (own.map (·.2))) := by
  refine ⟨fun pins s σ H Q I h => ?_⟩
  refine wpAny_Call_Name_kw (ld_blt (u := .builtin "sorted") I hgl hm (by decide +kernel) ?_)
  refine PyProof.Rows.callWith_builtin1 ?_ hst (by rfl)
  rw [hst]
  show wpAny _ _ (spliced ((false, eval (.GeneratorExp elt [⟨tg, iter, ifs, 0⟩] scope gpos) X.env) :: backTo pos (starEach [] X.env))) _ _ s
  refine Calls.spliced_cons (gen_make hr TB hcode ok hi hs I h fun J H1 H2 s4 cenv it fp tn gn a go s5 hR hT r => ?_)
  obtain ⟨Wn, ⟨m, w⟩, turn⟩ := hR H2 hT
  refine Calls.spliced_nil ?_
  have hAw : Room k ((X.A.in1.in1.in1).over (genLoopC elt tg iter ifs scope gpos it cenv) []) := room_gen hr (m := 3) (by omega) rfl rfl rfl
  refine W.sorted_col (B := fun acc s' => ∃ ys H, Vals ys acc ∧ ys.length ≤ sizeLine ∧ Inv X pins σ H s' ∧ QeS X.K Q ys H)
    (fun Q' E' hB => gcollect (A := X.A.in1) r hc ok hN hr.hd (by have := hr.dp; show X.A.depth < _; omega) I.ok.frames hAw hg ht he w turn fun ys acc H s' hv hl I' q => hB acc s' ⟨ys, H, hv, hl, I', q⟩)
    fun vs s' ⟨ys, H, hv, hl, I', ps, ey, l, hal, hk, hd, q⟩ => ?_
  subst ey
  obtain ⟨as, hrd⟩ := Dp.readsAll I' _ _ _ l hv
  refine ⟨ps, eachV hv, W.readsAll_each (fun (b : V × PyData) => b.2) hrd, hal, hk, by simpa using hl, fun b hb => ?_, fun h' d out kp hd2 hn hlen he => ?_⟩
  · have := depthAll_mem (List.mem_map.mpr ⟨b, hb, rfl⟩ : b.2 ∈ ps.map (·.2))
    omega
  · obtain ⟨n2, hn⟩ := hn
    refine ⟨.ref d, upd H d (.lst ((ps.mergeSort (W.dataLe false (·.2))).map (·.1))), I'.laid (t' := s'.toks) kp hd2 ⟨?_, out, n2, eachB he, hn⟩, rfl, q d (I'.hok.fresh hd2)⟩
    rw [List.length_map, List.length_mergeSort]; simpa using hl
end
section
variable {X : Cx} {R : Root τ} {P c : Addr} {elt tg iter : Expr} {ifs : List Expr} {scope : Scope} {own : List (Str × Nat)} {wi : WI} {g : WG} {tt : WT} {we : WE} {k : Nat} {p pos gpos : Pos}
/-- sorted(e for ..) -/
@[simp ↓] def wSg (wi : WI) (g : WG) (tt : WT) (we : WE) (vs : List Nat) : WF := fun env Q => wi env fun items e1 => noOwn e1 vs ∧ lcW g tt we vs items [] (wipeE e1 vs) fun ds e2 => okSort ds ∧ Q (.ol (sortD ds)) (restE e2 e1 vs)
theorem wSg_rd {vs : List Nat} (hP : P ∈ τ) : ∀ σ H Q, rdF X.K R (wSg wi g tt we vs) σ H Q → tSrtG X.K P (rdI X.K R wi) (rdGx τ X.K vs g) (rdTs τ X.K tt) (rdEs τ X.K we) vs σ H Q := by
  intro σ H Q ⟨F, env, Qw, r, w, k⟩
  refine ⟨F, env, _, r, w, fun F1 e1 H1 J items f1 r1 y1 ⟨no, I, i0, iok⟩ => ⟨r1.toBase.tabG hP, fun H2 hT => ?_⟩⟩
  have r2 := r1.tabUp hT
  refine ⟨fun i m ys H => m = items.length - i ∧ i ≤ items.length ∧ ∃ F2 env2 accD, Same F1 F2 ∧ Rel X.K R F2 env2 (wipe σ vs) H ∧ RpL X.K F2 ys accD ∧ I (items.drop i) accD env2,
    ⟨items.length, rfl, Nat.zero_le _, F1, _, [], Same.refl _, r2.wiped (vs := vs) (σ := σ) wipe_chg, .nil, i0⟩, ?_⟩
  rintro i m ys H ⟨rfl, hi, F2, env2, accD, f2, r3, l2, w2⟩
  by_cases hlt : i < items.length
  · have e0 : items.drop i = items[i] :: items.drop (i + 1) := List.drop_eq_getElem_cons hlt
    rw [e0] at w2
    replace w2 := iok.step _ _ _ _ w2
    obtain ⟨g1, g2⟩ := y1.go _ F2 env2 (wipe σ vs) H i items[i] f2 r3 (List.getElem?_eq_getElem hlt)
    refine .inr ⟨g1, fun ys' H' => ∃ F3 env3 accD, Same F1 F3 ∧ Rel X.K R F3 env3 (wipe σ vs) H' ∧ RpL X.K F3 ys' accD ∧ I (items.drop (i + 1)) accD env3,
      fun _ H' z => ⟨items.length - (i + 1), by omega, rfl, hlt, z⟩, fun x H' hy => ?_⟩
    obtain ⟨F3, f3, r4, p3⟩ := g2 x H' hy
    refine ⟨_, F3, env2, _, items[i], r4, p3, w2, fun F4 e4 σ4 H4 f4 r5 c4 w4 => ⟨(wipe_ext c4).trans wipe_wipe, _, F4, e4, _, r5, w4, fun F5 e5 H5 b f5 r6 w5 => ?_⟩⟩
    have ff5 := ((f2.trans f3).trans f4).trans f5
    have g25 := (f3.trans f4).trans f5
    cases b with
    | true =>
      refine ⟨_, F5, e5, _, r6, w5, fun F6 e6 H6 y d f6 r7 p6 ⟨hz, w6⟩ => ?_⟩
      exact ⟨by rw [l2.length]; exact hz, F6, wipeE e6 vs, accD ++ [d], ff5.trans f6, r7.wiped c4, (rpL_mono (g25.trans f6) _ _ l2).append (.cons p6 .nil), w6⟩
    | false =>
      exact ⟨F5, wipeE e5 vs, accD, ff5, r6.wiped c4, rpL_mono g25 _ _ l2, w5⟩
  · have e0 : i = items.length := by omega
    subst e0
    rw [List.drop_length] at w2
    have rr := r2.rest r3 f2 no
    obtain ⟨ok, w3⟩ := iok.fin _ _ w2
    have e1 := zip_fst' l2.length
    have e2 := zip_snd' l2.length
    refine .inl ⟨y1.stop _ F2 env2 (wipe σ vs) H f2 r3, ys.zip accD, e1.symm, by rw [e1, e2]; exact l2.dp rr.sub, by rw [e2]; exact ok.1, by rw [e2]; exact ok.2.1, by rw [e2]; exact ok.2.2, fun p hp => ?_⟩
    have ls : RpL X.K F2 (((ys.zip accD).mergeSort (W.dataLe false (·.2))).map (·.1)) (((ys.zip accD).mergeSort (W.dataLe false (·.2))).map (·.2)) := rpL_zip fun p hp => zip_rpL l2 p (List.mem_mergeSort.mp hp)
    have e3 : ((ys.zip accD).mergeSort (W.dataLe false (·.2))).map (·.2) = sortD accD := by
      have := List.map_mergeSort (f := fun (x : V × PyData) => x.2) (r := W.dataLe false (fun (x : V × PyData) => x.2)) (s := W.dataLe false id) (l := ys.zip accD) (fun a _ b _ => rfl)
      rw [e2] at this
      exact this
    rw [e3] at ls
    obtain ⟨r4, p4, fr⟩ := new_ol rr hp ls
    exact k F2 _ _ _ _ (f1.trans f2) r4 p4 fr w3
theorem cf_srtG (hu : X.A.units + 64 < cLine) (hc : X.calm = true) (hN : X.N.Nodup) (hr : Room (k + 1) X.A) (hgl : Gl X "sorted") (hm : X.mg "sorted" = none) (TB : GxR.TabB X.base X.mg c P) (hcode : X.env.code = .ref c) (hP : P ∈ τ) (ok : GenSc X.N X.env.scope scope own) (hi : CI X R tg iter wi)
    (hg : GenG τ X k scope (own.map (·.2)) tg g) (ht : GenT τ X k scope ifs tt) (he : GenE τ X k scope elt we) (hs : ∀ v, genFold iter X.env v = pure v := by intro _; rfl)
    (hst : starEach [.GeneratorExp elt [⟨tg, iter, ifs, 0⟩] scope gpos] X.env = (false, eval (.GeneratorExp elt [⟨tg, iter, ifs, 0⟩] scope gpos) X.env) :: starEach [] X.env := by rfl) :
    CF X R (.Call (.Name "sorted" p) [.GeneratorExp elt [⟨tg, iter, ifs, 0⟩] scope gpos] [] pos) (wSg wi g tt we (own.map (·.2))) :=
  pe_imp (pe_srtG hu hc hN hr hgl hm TB hcode ok hi (fun A s H C cl code fp h => pg_s fun R => hg R A s H C cl code fp h) (fun A s H C cl code fp h => pts_s fun R => ht R A s H C cl code fp h) (fun A s H C cl code fp h => pe_s fun R => he R A s H C cl code fp h) hs hst) (wSg_rd hP)
end
end VL
set_option Elab.async false
set_option linter.all false
set_option maxRecDepth 100000
set_option maxHeartbeats 1000000
/-! VL59: a, b, c, d = new, x, y, z. -/
namespace VL
open PySem PySem.Spec PyProof.Rows L2
variable {τ : Tau}
section
variable {X : Cx} {R : Root τ} {pos : Pos}
@[simp ↓] def wPar4A (i j m n : Nat) (wa : WF) (wb wc wd : WE) : WS := fun D env => wa env fun s e1 => s ≠ .dr ∧ wb e1 fun b e2 => wc e2 fun c e3 => wd e3 fun d e4 => D.nx ((((e4.set i (some s)).set j (some (.fz b))).set m (some (.fz c))).set n (some (.fz d)))
theorem cs_par4A {i j m n : Nat} {x y z v : Str} {a b c d : Expr} {wa : WF} {wb wc wd : WE} {px py pz pv pt : Pos} {kt k2 pt2} (hc : X.calm = true) (hg1 : PG X (.Name x px) (gName i)) (hg2 : PG X (.Name y py) (gName j)) (hg3 : PG X (.Name z pz) (gName m)) (hg4 : PG X (.Name v pv) (gName n))
    (ha : CF X R a wa) (hb : ∀ R : Root τ, CE X R b wb) (hcc : ∀ R : Root τ, CE X R c wc) (hd : ∀ R : Root τ, CE X R d wd)
    (he : starEach [a, b, c, d] X.env = (false, eval a X.env) :: starEach [b, c, d] X.env := by rfl) (he2 : starEach [b, c, d] X.env = (false, eval b X.env) :: starEach [c, d] X.env := by rfl) (he3 : starEach [c, d] X.env = (false, eval c X.env) :: starEach [d] X.env := by rfl) (he4 : starEach [d] X.env = (false, eval d X.env) :: starEach [] X.env := by rfl)
    (hw : swappedStores [.Tuple [.Name x px, .Name y py, .Name z pz, .Name v pv] kt pt] (.Tuple [a, b, c, d] k2 pt2) X.env = pure none := by rfl)
    (hs : swapsWithSole [.Tuple [.Name x px, .Name y py, .Name z pz, .Name v pv] kt pt] (.Tuple [a, b, c, d] k2 pt2) pos.line X.env = pure false := by rfl)
    (h1 : (assignEach [.Tuple [.Name x px, .Name y py, .Name z pz, .Name v pv] kt pt] X.env).map (·.2) = [assign (.Tuple [.Name x px, .Name y py, .Name z pz, .Name v pv] kt pt) X.env] := by rfl)
    (h2 : (assignEach [.Name x px, .Name y py, .Name z pz, .Name v pv] X.env).map (·.2) = assign (.Name x px) X.env :: (assignEach [.Name y py, .Name z pz, .Name v pv] X.env).map (·.2) := by rfl)
    (h3 : (assignEach [.Name y py, .Name z pz, .Name v pv] X.env).map (·.2) = assign (.Name y py) X.env :: (assignEach [.Name z pz, .Name v pv] X.env).map (·.2) := by rfl)
    (h4 : (assignEach [.Name z pz, .Name v pv] X.env).map (·.2) = assign (.Name z pz) X.env :: (assignEach [.Name v pv] X.env).map (·.2) := by rfl)
    (h5 : (assignEach [.Name v pv] X.env).map (·.2) = assign (.Name v pv) X.env :: (assignEach [] X.env).map (·.2) := by rfl)
    (hn : (assignEach [.Name x px, .Name y py, .Name z pz, .Name v pv] X.env).length = 4 := by rfl) (hst : (assignEach [.Name x px, .Name y py, .Name z pz, .Name v pv] X.env).findIdx? (·.1) = none := by rfl) :
    CS X R (.Assign [.Tuple [.Name x px, .Name y py, .Name z pz, .Name v pv] kt pt] (.Tuple [a, b, c, d] k2 pt2) pos) (wPar4A i j m n wa wb wc wd) := by
  have hb' : PE X b (fun σ H Q => ∃ R : Root τ, rdE X.K R wb σ H Q) := ⟨fun pins s σ H Q I ⟨R, q⟩ => (hb R).run pins s σ H Q I q⟩
  have hc' : PE X c (fun σ H Q => ∃ R : Root τ, rdE X.K R wc σ H Q) := ⟨fun pins s σ H Q I ⟨R, q⟩ => (hcc R).run pins s σ H Q I q⟩
  have hd' : PE X d (fun σ H Q => ∃ R : Root τ, rdE X.K R wd σ H Q) := ⟨fun pins s σ H Q I ⟨R, q⟩ => (hd R).run pins s σ H Q I q⟩
  refine ps_imp (ps_asg (pe_tup (pa_cons ha (pa_cons hb' (pa_cons hc' (pa_cons hd' pa_nil he4) he3) he2) he)) (pg_tup hc (pgs_cons hg1 (pgs_cons hg2 (pgs_cons hg3 (pgs_cons hg4 pgs_nil h5) h4) h3) h2) hn hst) hs hw h1) fun D σ H ⟨F, env, W, r, w, l⟩ => ?_
  refine ⟨F, env, _, r, w, fun F1 e1 H1 v1 t f1 r1 p1 fr1 ⟨nd1, w1⟩ => ?_⟩
  obtain ⟨R', r1', hh⟩ := hold r1 p1 fr1 nd1
  refine ⟨R', F1, e1, _, r1', w1, fun F2 e2 H2 v2 d2 f2 r2 p2 w2 => ⟨R', F2, e2, _, r2, w2, fun F3 e3 H3 v3 d3 f3 r3 p3 w3 => ⟨R', F3, e3, _, r3, w3, fun F4 e4 H4 v4 d4 f4 r4 p4 w4 => ?_⟩⟩⟩
  obtain ⟨s4, a1, a2, _⟩ := hh F4 e4 σ H4 ((f2.trans f3).trans f4) r4
  refine ⟨by show 4 ≤ sizeLine; decide, fun p hp => ?_⟩
  have bb := s4.toBase.allocO (o := .tup [v1, v2, v3, v4]) hp rfl
  have r5 := s4.up bb (Same.refl F4)
  have q2 := rp_mono (f3.trans f4) _ _ p2
  have q3 := rp_mono f4 _ _ p3
  have t1 := r5.set (i := i) (s := t) (a1.up bb (Same.refl F4)) a2
  have t2 := t1.set (i := j) (s := .fz d2) q2 fresh_fz
  have t3 := t2.set (i := m) (s := .fz d3) q3 fresh_fz
  have t4 := t3.set (i := n) (s := .fz d4) p4 fresh_fz
  exact ⟨p, [v1, v2, v3, v4], rfl, .inl (.inl upd_same), rfl, v1, [v2, v3, v4], rfl, v2, [v3, v4], rfl, v3, [v4], rfl, v4, [], rfl, rfl, l.nx F4 _ _ _ (((f1.trans f2).trans f3).trans f4) t4 w4⟩
end
end VL
set_option Elab.async false
set_option linter.all false
set_option maxRecDepth 100000
set_option maxHeartbeats 1000000
/-! VL60: {k: v for ..}, keys ints or texts. -/
namespace VL
open PySem PySem.Spec PyProof.Rows L2
variable {τ : Tau}
structure DcI (g : WG) (tt : WT) (wk wv : WE) (vs : List Nat) (Q : List (Key × PyData) → PEnv → Prop) (I : List PyData → List (Key × PyData) → PEnv → Prop) : Prop where
  fin : ∀ acc e, I [] acc e → Q acc e
  step : ∀ x xs acc e, I (x :: xs) acc e → g x e fun e1 => tt e1 fun b e2 => if b = true then wk e2 fun y e3 => wv e3 fun z e4 => ∃ k, keyOf y = some k ∧ acc.length < sizeLine ∧ I xs (putD acc k z) (wipeE e4 vs) else I xs acc (wipeE e2 vs)
def dcW (g : WG) (tt : WT) (wk wv : WE) (vs : List Nat) (items : List PyData) (acc : List (Key × PyData)) (env : PEnv) (Q : List (Key × PyData) → PEnv → Prop) : Prop := ∃ I, I items acc env ∧ DcI g tt wk wv vs Q I
@[simp ↓] def wDc (wi : WI) (g : WG) (tt : WT) (wk wv : WE) (vs : List Nat) : WF := fun env Q => wi env fun items e1 => noOwn e1 vs ∧ dcW g tt wk wv vs items [] (wipeE e1 vs) fun kvs e2 => Q (.od kvs) (restE e2 e1 vs)
theorem put_nodup {kvs : List (Key × PyData)} {k : Key} {d : PyData} (h : (kvs.map (·.1)).Nodup) : ((putD kvs k d).map (·.1)).Nodup := merge_keys [(k, d)] kvs h
section lc
variable {X : Cx} {R : Root τ} {kx vx tg iter : Expr} {ifs : List Expr} {scope : Scope} {own : List (Str × Nat)} {pos spos : Pos} {wi : WI} {g : WG} {tt : WT} {wk wv : WE}
theorem wDc_rd {vs : List Nat} : ∀ σ H Q, rdF X.K R (wDc wi g tt wk wv vs) σ H Q → tDc (rdI X.K R wi) (rdGx τ X.K vs g) (rdTs τ X.K tt) (rdEs τ X.K wk) (rdEs τ X.K wv) vs σ H Q := by
  intro σ H Q ⟨F, env, Qw, r, w, k⟩
  refine ⟨F, env, _, r, w, fun F1 e1 H1 J items f1 r1 y1 ⟨no, I, i0, iok⟩ => fun D hD => ?_⟩
  obtain ⟨rD, sD, frD⟩ := new_od r1 hD (ys := []) (kvs := []) .nil (by simp)
  obtain ⟨D', ys', eD, owD, hD1, lD, ndD⟩ := sD
  cases eD
  have ex : ys' = [] := by cases lD; rfl
  subst ex
  have fr0 : ∀ (i : Nat) (t : Slot) (a : Addr), e1[i]? = some (some t) → t.owns = true → σ[i]? = some (some (.ref a)) → a ≠ D := fun i t a h1 h2 h3 z => frD rfl i t a h1 h2 h3 (by rw [z])
  have hKD : R.keep D = none := owD.2.2
  have rk0 := rD.aside hD1 owD.1 owD.2.1 rfl fr0
  refine ⟨fun i m H => m = items.length - i ∧ i ≤ items.length ∧ ∃ F2 env2 acc accD, Same F1 F2 ∧ Rel X.K (R.kee (upd R.keep D (.dK acc))) F2 env2 (wipe σ vs) H ∧ (KVs X.K F2 acc accD ∧ (accD.map (·.1)).Nodup) ∧ I (items.drop i) accD env2,
    ⟨items.length, rfl, Nat.zero_le _, F1, _, [], [], Same.refl _, rk0.wiped (vs := vs) (σ := σ) wipe_chg, ⟨.nil, by simp⟩, i0⟩, ?_⟩
  rintro i m H ⟨rfl, hi, F2, env2, acc, accD, f2, r2, ⟨l2, nd2⟩, w2⟩
  by_cases hlt : i < items.length
  · have e0 : items.drop i = items[i] :: items.drop (i + 1) := List.drop_eq_getElem_cons hlt
    rw [e0] at w2
    replace w2 := iok.step _ _ _ _ w2
    obtain ⟨g1, g2⟩ := y1.go _ F2 env2 (wipe σ vs) H i items[i] f2 r2 (List.getElem?_eq_getElem hlt)
    refine .inr ⟨g1, fun H' => ∃ F3 env3 acc accD, Same F1 F3 ∧ Rel X.K (R.kee (upd R.keep D (.dK acc))) F3 env3 (wipe σ vs) H' ∧ (KVs X.K F3 acc accD ∧ (accD.map (·.1)).Nodup) ∧ I (items.drop (i + 1)) accD env3,
      fun H' z => ⟨items.length - (i + 1), by omega, rfl, hlt, z⟩, fun x H' hy => ?_⟩
    obtain ⟨F3, f3, r3, p3⟩ := g2 x H' hy
    refine ⟨_, F3, env2, _, items[i], r3, p3, w2, fun F4 e4 σ4 H4 f4 r4 c4 w4 => ⟨(wipe_ext c4).trans wipe_wipe, _, F4, e4, _, r4, w4, fun F5 e5 H5 b f5 r5 w5 => ?_⟩⟩
    have ff5 := ((f2.trans f3).trans f4).trans f5
    have g25 := (f3.trans f4).trans f5
    cases b with
    | true =>
      refine ⟨_, F5, e5, _, r5, w5, fun F6 e6 H6 y d f6 r6 p6 w6 => ⟨_, F6, e6, _, r6, w6, fun F7 e7 H7 z d7 f7 r7 p7 ⟨kk, hkk, hz, w7⟩ => ?_⟩⟩
      obtain ⟨rb, hb1, hb2, hb3, hb4⟩ := r7.back hKD
      have hy := keyOf_rp p6 hkk
      have ll := kvs_mono ((g25.trans f6).trans f7) l2
      refine ⟨acc, kk, hy, hb1, by rw [kvs_len l2]; exact hz, F7, wipeE e7 vs, putK acc kk z, putD accD kk d7, (ff5.trans f6).trans f7, ?_, ⟨kvs_put kk p7 ll, put_nodup nd2⟩, w7⟩
      have rw6 := (rb.writeK hb1 hb2 hKD hb3 rfl (o' := .dK (putK acc kk z)) rfl hb4).aside upd_same hb2 hb3 rfl hb4
      exact rw6.wiped c4
    | false =>
      refine ⟨F5, wipeE e5 vs, acc, accD, ff5, r5.wiped c4, ⟨kvs_mono g25 l2, nd2⟩, w5⟩
  · have e0 : i = items.length := by omega
    subst e0
    rw [List.drop_length] at w2
    replace w2 := iok.fin _ _ w2
    obtain ⟨rb, hb1, hb2, hb3, hb4⟩ := r2.back hKD
    have rr := r1.rest rb f2 no
    refine .inl ⟨y1.stop _ F2 env2 (wipe σ vs) H f2 r2, k F2 _ H (.ref D) (.od accD) (f1.trans f2) rr ⟨D, acc, rfl, ⟨hb2, hb3, hKD⟩, hb1, l2, nd2⟩ (fun _ j t a h1 h2 h3 z => ?_) w2⟩
    cases z
    rcases restE_at h1 with ⟨q1, q2⟩ | ⟨q1, q2⟩
    · rw [no j q1 t q2] at h2; cases h2
    · exact hb4 j t D q2 h2 (by rw [wipe_at (x := V.non) q1]; exact h3) rfl
theorem cf_dc (hc : X.calm = true) (hN : X.N.Nodup) (hi : CI X R tg iter wi) (ok : BlkOk X.N X.env.scope scope own)
    (hg : ∀ (R : Root τ) (s : Shared) (H : Hp) (C : Addr) (cl : List (Str × Addr)) (fp : List Addr), CG (X.blk s H scope (compEnvC scope cl C X.env) fp) R (own.map (·.2)) tg g)
    (ht : ∀ (R : Root τ) (s : Shared) (H : Hp) (C : Addr) (cl : List (Str × Addr)) (fp : List Addr), CTs (X.blk s H scope (compEnvC scope cl C X.env) fp) R ifs tt)
    (hk : ∀ (R : Root τ) (s : Shared) (H : Hp) (C : Addr) (cl : List (Str × Addr)) (fp : List Addr), CE (X.blk s H scope (compEnvC scope cl C X.env) fp) R kx wk)
    (he : ∀ (R : Root τ) (s : Shared) (H : Hp) (C : Addr) (cl : List (Str × Addr)) (fp : List Addr), CE (X.blk s H scope (compEnvC scope cl C X.env) fp) R vx wv) (hs : ∀ x, foldedSetIterable iter X.env x = pure x := by intro _; rfl) :
    CF X R (.DictComp kx vx [⟨tg, iter, ifs, 0⟩] scope pos) (wDc wi g tt wk wv (own.map (·.2))) :=
  pe_imp (pe_dc hc hN hi ok (fun s H C cl fp => pg_s fun R => hg R s H C cl fp) (fun s H C cl fp => pts_s fun R => ht R s H C cl fp) (fun s H C cl fp => pe_s fun R => hk R s H C cl fp) (fun s H C cl fp => pe_s fun R => he R s H C cl fp) hs) wDc_rd
end lc
/-- by an invariant over typed items: what is put in is kvs i -/
theorem dcW_ty {α : Type} {enc : α → PyData} {g : WG} {wk wv : WE} {vs : List Nat} {xs : List α} {env : PEnv} {Q : List (Key × PyData) → PEnv → Prop} (ky : α → Key) (v : α → PyData) (hl : xs.length ≤ sizeLine)
    (hs : ∀ a ∈ xs, ∀ (Y : PyData → PyData → PEnv → Prop), (∀ y, keyOf y = some (ky a) → Y y (v a) env) → g (enc a) env fun e1 => wk e1 fun y e3 => wv e3 fun z e4 => Y y z (wipeE e4 vs))
    (hd : Q (mergeD [] (xs.map fun a => (ky a, v a))) env) : dcW g wYes wk wv vs (xs.map enc) [] env Q := by
  refine ⟨fun items acc e => e = env ∧ ∃ ys zs : List α, xs = ys ++ zs ∧ items = zs.map enc ∧ acc = mergeD [] (ys.map fun a => (ky a, v a)), ⟨rfl, [], xs, rfl, rfl, rfl⟩, ⟨fun acc e ⟨he, ys, zs, h1, h2, h3⟩ => ?_, fun x items acc e ⟨he, ys, zs, h1, h2, h3⟩ => ?_⟩⟩
  · subst he; subst h3
    have : zs = [] := by cases zs <;> simp at h2 ⊢
    subst this
    rw [List.append_nil] at h1
    subst h1
    exact hd
  · subst he; subst h3
    cases zs with
    | nil => simp at h2
    | cons a zs =>
      rw [List.map_cons] at h2
      injection h2 with h2 h4
      subst h2; subst h4
      have hlen : (mergeD [] (ys.map fun a => (ky a, v a))).length < sizeLine := by
        have h5 : ∀ (l : List (Key × PyData)) (kvs : List (Key × PyData)), (mergeD kvs l).length ≤ kvs.length + l.length := by
          intro l
          induction l with
          | nil => intro kvs; simp [mergeD]
          | cons p l ih =>
            intro kvs
            have h6 := ih (putD kvs p.1 p.2)
            have h7 : (putD kvs p.1 p.2).length ≤ kvs.length + 1 := by
              unfold putD
              split <;> simp
            show (mergeD (putD kvs p.1 p.2) l).length ≤ _
            rw [List.length_cons]
            omega
        have := h5 (ys.map fun a => (ky a, v a)) []
        rw [h1, List.length_append, List.length_cons] at hl
        simp at this
        omega
      refine hs a (by rw [h1]; simp) (fun y z e5 => ∃ k, keyOf y = some k ∧ (mergeD [] (ys.map fun a => (ky a, v a))).length < sizeLine ∧ e5 = e ∧ ∃ ys' zs' : List α, xs = ys' ++ zs' ∧ zs.map enc = zs'.map enc ∧ putD (mergeD [] (ys.map fun a => (ky a, v a))) k z = mergeD [] (ys'.map fun a => (ky a, v a))) fun y hy => ⟨ky a, hy, hlen, rfl, ys ++ [a], zs, by rw [h1]; simp, rfl, ?_⟩
      rw [List.map_append]
      unfold mergeD
      rw [List.foldl_append]
      rfl
end VL
set_option Elab.async false
set_option linter.all false
set_option maxRecDepth 100000
set_option maxHeartbeats 1000000
/-! VL61: sorted(d) of an owned dict, list(dict(..)). -/
namespace VL
open PySem PySem.Spec PyProof.Rows L2
variable {τ : Tau}
abbrev ksD (kvs : List (Key × PyData)) : List PyData := kvs.map fun kv => keyD kv.1
theorem rp_key {K : PySem.W.Frag} {F : Hp} (k : Key) : Rp K F (kV k) (keyD k) := by
  cases k with
  | inl i => exact .int i
  | inr x => exact .str x
theorem rpL_keys {K : PySem.W.Frag} {F : Hp} {α : Type} (f : α → Key) : ∀ l : List α, RpL K F (l.map fun a => kV (f a)) (l.map fun a => keyD (f a))
  | [] => .nil
  | a :: l => .cons (rp_key (f a)) (rpL_keys f l)
theorem kvs_keys {K : PySem.W.Frag} {F : Hp} : ∀ {ys : List (Key × V)} {kvs : List (Key × PyData)}, KVs K F ys kvs → ys.map (·.1) = kvs.map (·.1)
  | _, _, .nil => rfl
  | _, _, .cons p q => by
    rw [List.map_cons, List.map_cons, p.1, kvs_keys q]
def rSrtD : List V → Hp → VK → Prop := fun vs H Q => ∃ (a : Addr) (kvs : List (Key × V)), vs = [V.ref a] ∧ H a = some (.dK kvs) ∧ okSort (kvs.map fun kv => keyD kv.1) ∧
  ∀ p, H p = none → Q (.ref p) (upd H p (.lst (((kvs.map fun kv => (kV kv.1, keyD kv.1)).mergeSort (W.dataLe false (·.2))).map (·.1))))
section
variable {X : Cx}
theorem cr_srtD (hu : X.A.units + 64 < cLine) (hc : X.calm = true) : CallR X (.builtin "sorted") rSrtD := by
  intro pins s σ H vs us Q I r h
  obtain ⟨a, kvs, rfl, hk, ok, q⟩ := h
  rw [Vals.ref1 r]
  obtain ⟨z, lo, es, rk, hd⟩ := (show ObjOk X.prog X.w H s.heap a (.dK kvs) from I.hok a _ hk)
  obtain ⟨ep, hat⟩ := hd.dictAt
  have hl : kvs.length = es.length := Paired.length rk
  refine W.sorted_col (B := fun acc s' => Vals (kvs.map fun kv => kV kv.1) acc ∧ Inv X pins σ H s') (fun Q' E' hB => W.kdu_collect (W.kdl_dict (knd := mixKind X.prog X.w) (kvs := es) (ep := ep) lo) (I.ok.hd hc) hat (by rw [← hl]; exact z) fun h' tk acc hkeep hacc => hB acc.toList _ ⟨?_, I.kept hkeep⟩) fun acc s' ⟨hv, I'⟩ => ?_
  · have el : acc.toList.length = acc.size := by simp
    refine vals_of_at (by rw [List.length_map, el, hacc.1, hl]) fun j x w h1 h2 => ?_
    obtain ⟨k, y, hky, hi⟩ := hacc.2 j w (by rw [← Array.getElem?_toList]; exact h2)
    have e1 : (kvs.map (·.1))[j]? = some k := by
      rw [KV.keys rk, List.getElem?_map, hky] <;> rfl
    have e2 : (kvs.map fun kv => kV kv.1)[j]? = some (kV k) := by
      have e3 : (kvs.map fun kv => kV kv.1) = (kvs.map (·.1)).map kV := by rw [List.map_map] <;> rfl
      rw [e3, List.getElem?_map, e1] <;> rfl
    rw [e2] at h1
    cases h1
    exact keyIs_rel hi
  · have hl1 : ((kvs.map fun kv => (kV kv.1, keyD kv.1)).map (·.1)) = kvs.map fun kv => kV kv.1 := by rw [List.map_map]; rfl
    have hl2 : ((kvs.map fun kv => (kV kv.1, keyD kv.1)).map (·.2)) = kvs.map fun kv => keyD kv.1 := by rw [List.map_map]; rfl
    have l : DpAll X.K H ((kvs.map fun kv => (kV kv.1, keyD kv.1)).map (·.1)) ((kvs.map fun kv => (kV kv.1, keyD kv.1)).map (·.2)) := by
      rw [hl1, hl2]
      exact (rpL_keys (K := X.K) (F := H) (fun kv : Key × V => kv.1) kvs).dp (fun _ _ h => h)
    rw [← hl1] at hv
    obtain ⟨as, hrd⟩ := Dp.readsAll I' _ _ _ l hv
    refine ⟨kvs.map fun kv => (kV kv.1, keyD kv.1), eachV hv, W.readsAll_each (fun (b : V × PyData) => b.2) hrd, by rw [hl2]; exact ok.1, by rw [hl2]; exact ok.2.1, by rw [List.length_map]; exact z, fun b hb => ?_, fun h' d out kp hd2 hn hlen he => ?_⟩
    · have := depthAll_mem (List.mem_map.mpr ⟨b, hb, rfl⟩ : b.2 ∈ (kvs.map fun kv => (kV kv.1, keyD kv.1)).map (·.2))
      have h3 := ok.2.2
      rw [hl2] at this
      omega
    · obtain ⟨n2, hn⟩ := hn
      refine ⟨.ref d, upd H d (.lst (((kvs.map fun kv => (kV kv.1, keyD kv.1)).mergeSort (W.dataLe false (·.2))).map (·.1))), I'.laid (t' := s'.toks) kp hd2 ⟨?_, out, n2, eachB he, hn⟩, rfl, q d (I'.hok.fresh hd2)⟩
      rw [List.length_map, List.length_mergeSort, List.length_map]; exact z
end
section
variable {X : Cx} {R : Root τ} {x : Str} {i : Nat} {p p2 pos : Pos} {e : Expr} {wf : WF}
/-- sorted(d), d a dict held by a name -/
@[simp ↓] def wSrtD (i : Nat) : WF := fun env Q => match env[i]? with
  | some (some (.od kvs)) => okSort (ksD kvs) ∧ Q (.ol (sortD (ksD kvs))) env
  | _ => False
theorem cf_srtD (hu : X.A.units + 64 < cLine) (hc : X.calm = true) (hg : Gl X "sorted") (hm : X.mg "sorted" = none) (he : PE X (.Name x p2) (tVar i)) (hst : starEach [Expr.Name x p2] X.env = (false, eval (.Name x p2) X.env) :: starEach [] X.env := by rfl) (hpl : (backTo pos (starEach [] X.env)).any (·.1) = false := by rfl) :
    CF X R (.Call (.Name "sorted" p) [.Name x p2] [] pos) (wSrtD i) :=
  pe_imp (pe_callB (cr_srtD hu hc) hg hm boot_sorted (pa_cons he pa_nil hst) (by decide) (by decide) hst hpl) fun σ H Q ⟨F, env, Qw, r, w, k⟩ => by
    unfold wSrtD at w
    split at w
    · rename_i kvs q
      obtain ⟨ok, w⟩ := w
      obtain ⟨v, hv, a, ys, rfl, ow, hH, l, nd⟩ := r.sl i _ q
      have ek := kvs_keys l
      have e1 : (ys.map fun kv => keyD kv.1) = ksD kvs := by
        have := congrArg (List.map keyD) ek
        rw [List.map_map, List.map_map] at this
        exact this
      refine ⟨_, hv, a, ys, rfl, hH, by rw [e1]; exact ok, fun p hp => ?_⟩
      have hl2 : ((ys.map fun kv => (kV kv.1, keyD kv.1)).map (·.2)) = ksD kvs := by rw [List.map_map]; exact e1
      have ls : RpL X.K F (((ys.map fun kv => (kV kv.1, keyD kv.1)).mergeSort (W.dataLe false (·.2))).map (·.1)) (((ys.map fun kv => (kV kv.1, keyD kv.1)).mergeSort (W.dataLe false (·.2))).map (·.2)) := rpL_zip fun p hp => by
        obtain ⟨kv, _, rfl⟩ := List.mem_map.mp (List.mem_mergeSort.mp hp)
        exact rp_key kv.1
      have e3 : ((ys.map fun kv => (kV kv.1, keyD kv.1)).mergeSort (W.dataLe false (·.2))).map (·.2) = sortD (ksD kvs) := by
        have := List.map_mergeSort (f := fun (x : V × PyData) => x.2) (r := W.dataLe false (fun (x : V × PyData) => x.2)) (s := W.dataLe false id) (l := ys.map fun kv => (kV kv.1, keyD kv.1)) (fun a _ b _ => rfl)
        rw [hl2] at this
        exact this
      rw [e3] at ls
      obtain ⟨r4, p4, fr⟩ := new_ol r hp ls
      exact k F _ _ _ _ (Same.refl F) r4 p4 fr w
    · cases w
/-- list of a new dict -/
@[simp ↓] def wLstD (wf : WF) : WF := fun env Q => wf env fun s e1 => match s with
  | .od kvs => Q (.ol (ksD kvs)) e1
  | _ => False
theorem cf_lstD (hc : X.calm = true) (hg : Gl X "list") (hm : X.mg "list" = none) (he : CF X R e wf) (hst : starEach [e] X.env = (false, eval e X.env) :: starEach [] X.env := by rfl) (hpl : (backTo pos (starEach [] X.env)).any (·.1) = false := by rfl) :
    CF X R (.Call (.Name "list" p) [e] [] pos) (wLstD wf) :=
  pe_imp (pe_callTy (call_list_dK hc) hg hm boot_list (pa_cons he pa_nil hst) (by decide) (by decide) hst hpl) fun σ H Q ⟨F, env, Qw, r, w, k⟩ =>
    ⟨F, env, _, r, w, fun F1 e1 H1 x s f1 r1 p1 fr w1 => by
      cases s with
      | od kvs =>
        obtain ⟨a, ys, rfl, ow, h1, l, nd⟩ := p1
        refine ⟨a, ys, rfl, h1, fun q hq => ?_⟩
        have ek := kvs_keys l
        have e2 : (ys.map fun kv => keyD kv.1) = ksD kvs := by
          have := congrArg (List.map keyD) ek
          rw [List.map_map, List.map_map] at this
          exact this
        have ls := rpL_keys (K := X.K) (F := F1) (fun kv : Key × V => kv.1) ys
        rw [e2] at ls
        obtain ⟨r4, p4, fr4⟩ := new_ol r1 hq ls
        exact k F1 _ _ _ _ f1 r4 p4 fr4 w1
      | _ => cases w1⟩
end
end VL
set_option Elab.async false
set_option linter.all false
set_option maxRecDepth 100000
set_option maxHeartbeats 2000000
/-! VL62: {k: v, ..}; {..}[e]; any(xs) of ints. -/
namespace VL
open PySem PySem.Spec PyProof.Rows L2
variable {τ : Tau}
@[simp ↓] def wPairs : List (WE × WE) → PEnv → (List (PyData × PyData) → PEnv → Prop) → Prop
  | [], env, Q => Q [] env
  | (wk, wv) :: r, env, Q => wk env fun x e1 => wv e1 fun y e2 => wPairs r e2 fun ps e3 => Q ((x, y) :: ps) e3
@[simp] def pairK : List (PyData × PyData) → Option (List (Key × PyData))
  | [] => some []
  | (x, y) :: r => match keyOf x, pairK r with
    | some k, some l => some ((k, y) :: l)
    | _, _ => none
/-- a display of a dict -/
@[simp ↓] def wDisp (l : List (WE × WE)) : WF := fun env Q => wPairs l env fun ps e1 => ∃ kvs, pairK ps = some kvs ∧ kvs.length ≤ 15 ∧ Q (.od (mergeD [] kvs)) e1
abbrev rdPs (τ : Tau) (K : PySem.W.Frag) (l : List (WE × WE)) : List (TE × TE) := l.map fun p => (rdEs τ K p.1, rdEs τ K p.2)
abbrev RpP (K : PySem.W.Frag) (F : Hp) : List (V × V) → List (PyData × PyData) → Prop := Paired fun p q => Rp K F p.1 q.1 ∧ Rp K F p.2 q.2
theorem wPairs_rd {K : PySem.W.Frag} {R : Root τ} : ∀ {l : List (WE × WE)} {F H : Hp} {env : PEnv} {σ : L2.St} {Qw : List (PyData × PyData) → PEnv → Prop} {Q : List (V × V) → Hp → Prop}, Rel K R F env σ H → wPairs l env Qw →
    (∀ F' env' H' xs ds, Same F F' → Rel K R F' env' σ H' → RpP K F' xs ds → Qw ds env' → Q xs H') → tPairs (rdPs τ K l) σ H Q
  | [], F, H, env, σ, Qw, Q, r, w, k => k _ _ _ _ _ (Same.refl F) r .nil w
  | (wk, wv) :: l, F, H, env, σ, Qw, Q, r, w, k => by
    refine ⟨R, F, env, _, r, w, fun F1 e1 H1 x d f1 r1 p1 w1 => ⟨R, F1, e1, _, r1, w1, fun F2 e2 H2 y d2 f2 r2 p2 w2 => ?_⟩⟩
    refine wPairs_rd r2 w2 fun F3 e3 H3 xs ds f3 r3 p3 w3 => k F3 e3 H3 _ _ ((f1.trans f2).trans f3) r3 (.cons ⟨rp_mono (f2.trans f3) _ _ p1, rp_mono f3 _ _ p2⟩ p3) w3
theorem pairs_kv {K : PySem.W.Frag} {F : Hp} : ∀ {ps : List (V × V)} {ds : List (PyData × PyData)} {kvs : List (Key × PyData)}, RpP K F ps ds → pairK ds = some kvs → ∃ ys : List (Key × V), ps = ys.map (fun kv => (kV kv.1, kv.2)) ∧ KVs K F ys kvs
  | [], _, kvs, h, e => by cases h; cases e; exact ⟨[], rfl, .nil⟩
  | (x, y) :: ps, _, kvs, h, e => by
    cases h with
    | @cons _ b _ ds p t =>
      obtain ⟨bx, b2⟩ := b
      unfold pairK at e
      cases hk : keyOf bx with
      | none => rw [hk] at e; cases e
      | some k =>
        cases hr : pairK ds with
        | none => rw [hk, hr] at e; cases e
        | some l =>
          rw [hk, hr] at e
          cases e
          obtain ⟨ys, e1, e2⟩ := pairs_kv t hr
          subst e1
          exact ⟨(k, y) :: ys, by rw [List.map_cons, ← keyOf_rp p.1 hk], .cons ⟨rfl, p.2⟩ e2⟩
inductive CPs (X : Cx) : List (Option Expr) → List Expr → List (WE × WE) → Prop
  | nil : CPs X [] [] []
  | cons {k v : Expr} {ks : List (Option Expr)} {vs : List Expr} {wk wv : WE} {l : List (WE × WE)} : (∀ R : Root τ, CE X R k wk) → (∀ R : Root τ, CE X R v wv) → CPs X ks vs l → CPs X (some k :: ks) (v :: vs) ((wk, wv) :: l)
theorem CPs.pps {X : Cx} {pos : Pos} {ks : List (Option Expr)} {vs : List Expr} {l : List (WE × WE)} (h : CPs (τ := τ) X ks vs l) : PPs X pos ks vs (rdPs τ X.K l) := by
  induction h with
  | nil => exact pps_nil
  | cons hk hv _ ih => exact pps_cons (pe_s hk) (pe_s hv) ih
section
variable {X : Cx} {R : Root τ} {pos : Pos} {keys : List (Option Expr)} {values : List Expr} {l : List (WE × WE)}
theorem cf_disp (h : CPs (τ := τ) X keys values l) (hall : keys.all (·.isSome) = true := by rfl) (hl : keys.length = values.length := by rfl) (h0 : keys ≠ [] := by simp) (h15 : keys.length ≤ 15 := by decide) : CF X R (.Dict keys values pos) (wDisp l) :=
  pe_imp (pe_disp h.pps hall hl h0 h15) fun σ H Q ⟨F, env, Qw, r, w, k⟩ => fun D hD => by
    obtain ⟨rD, sD, frD⟩ := new_od r hD (ys := []) (kvs := []) .nil (by simp)
    obtain ⟨D', ys', eD, owD, hD1, lD, ndD⟩ := sD
    cases eD
    have ex : ys' = [] := by cases lD; rfl
    subst ex
    have fr0 : ∀ (i : Nat) (t : Slot) (a : Addr), env[i]? = some (some t) → t.owns = true → σ[i]? = some (some (.ref a)) → a ≠ D := fun i t a h1 h2 h3 z => frD rfl i t a h1 h2 h3 (by rw [z])
    have hKD : R.keep D = none := owD.2.2
    have rk0 := rD.aside hD1 owD.1 owD.2.1 rfl fr0
    refine wPairs_rd rk0 w fun F1 e1 H1 xs ds f1 r1 p1 ⟨kvs, hk, h15', w1⟩ => ?_
    obtain ⟨rb, hb1, hb2, hb3, hb4⟩ := r1.back hKD
    obtain ⟨ys, e2, l2⟩ := pairs_kv p1 hk
    have hlen : ys.length ≤ 15 := by rw [kvs_len l2]; exact h15'
    have l3 := kvs_merge l2 (.nil (F := fun (p : Key × V) (q : Key × PyData) => p.1 = q.1 ∧ Rp X.K F1 p.2 q.2))
    refine ⟨hb1, ys, e2, hlen, ?_⟩
    have rw6 := rb.writeK hb1 hb2 hKD hb3 rfl (o' := .dK (mergeK [] ys)) rfl hb4
    exact k F1 e1 _ _ (.od (mergeD [] kvs)) f1 rw6 ⟨D, _, rfl, ⟨hb2, hb3, hKD⟩, upd_same, l3, merge_keys _ _ (by simp)⟩ (fun _ j t a h1 h2 h3 z => hb4 j t a h1 h2 h3 (by cases z; rfl)) w1
end
section
variable {X : Cx} {R : Root τ} {pos : Pos} {d e : Expr} {wf : WF} {we : WE}
/-- {..}[e] -/
@[simp ↓] def wDGetF (wf : WF) (we : WE) : WE := fun env Q => wf env fun s e1 => match s with
  | .od kvs => we e1 fun y e2 => ∃ k v, keyOf y = some k ∧ valD kvs k = some v ∧ Q v e2
  | _ => False
theorem ce_dgetF (hu : X.A.units + 1 < cLine) (h : CF X R d wf) (he : ∀ R : Root τ, CE X R e we) (hs : NoSl e) : CE X R (.Subscript d e pos) (wDGetF wf we) :=
  pe_imp (pe_dget hu h (pe_s he) hs) fun σ H Q ⟨F, env, Qw, r, w, k⟩ =>
    ⟨F, env, _, r, w, fun F1 e1 H1 x s f1 r1 p1 fr w1 => by
      cases s with
      | od kvs =>
        obtain ⟨D, ys, rfl, ow, hD1, l1, nd⟩ := p1
        have fr0 : ∀ (i : Nat) (t : Slot) (a : Addr), e1[i]? = some (some t) → t.owns = true → σ[i]? = some (some (.ref a)) → a ≠ D := fun i t a h1 h2 h3 z => fr rfl i t a h1 h2 h3 (by rw [z])
        refine ⟨_, F1, e1, _, r1.aside hD1 ow.1 ow.2.1 rfl fr0, w1, fun F2 e2 H2 y dy f2 r2 p2 ⟨kk, v, hk, hv, w2⟩ => ?_⟩
        obtain ⟨rb, hb1, hb2, hb3, hb4⟩ := r2.back ow.2.2
        have hy := keyOf_rp p2 hk
        subst hy
        rcases kvs_val kk l1 with ⟨_, z⟩ | ⟨u, v', z1, z2, pv⟩
        · rw [hv] at z; cases z
        · rw [hv] at z2; cases z2
          exact ⟨D, u, rfl, by rw [← z1]; exact .k hb1, k _ _ _ _ _ (f1.trans f2) rb (rp_mono f2 _ _ pv) w2⟩
      | _ => cases w1⟩
end
/-! ### any of ints -/
theorem truth_ints {prog : Program} {w : World} {A : Around} {ns : List Int} {its : List Value} (e : IntsAre its ns) :
    TruthOf prog w A (fun i v => its.toArray[i]? = some v) (fun i => ns.getD i 0 != 0) := fun i v s Q E hv hq => by
  have hv' : its[i]? = some v := by simpa using hv
  have r := vals_of_ints e
  have hi : i < its.length := (List.getElem?_eq_some_iff.mp hv').1
  have hn : i < ns.length := by rw [← e.length]; exact hi
  have h1 : (ns.map V.int)[i]? = some (V.int (ns.getD i 0)) := by
    rw [List.getElem?_map, List.getElem?_eq_getElem hn, List.getD_eq_getElem?_getD, List.getElem?_eq_getElem hn]
    rfl
  obtain ⟨t, rfl⟩ : ∃ t, v = Value.int (ns.getD i 0) t := by
    obtain ⟨u, h2, h3⟩ := Vals.get r h1
    rw [h2] at hv'
    cases hv'
    exact h3
  exact PyProof.Rows.truthy_int hq
theorem any_rangeI : ∀ ns : List Int, (List.range ns.length).any (fun i => ns.getD i 0 != 0) = ns.any (fun n => n != 0)
  | [] => rfl
  | b :: bs => by
    rw [List.length_cons, List.range_succ_eq_map, List.any_cons, List.any_map, List.any_cons, ← any_rangeI bs]
    rfl
section
variable {X : Cx}
def rAnyI (K : PySem.W.Frag) : List V → Hp → VK → Prop := fun vs H Q => ∃ (a : Addr) (ns : List Int), vs = [V.ref a] ∧ SqL K H a (ns.map V.int) ∧ Q (.bl (ns.any (fun n => n != 0))) H
theorem call_anyI (hc : X.calm = true) : CallR X (.builtin "any") (rAnyI X.K) := by
  intro pins s σ H vs us Q I r h
  obtain ⟨a, ns, rfl, hs, q⟩ := h
  obtain ⟨its, rv, hl, _⟩ := I.list hs
  rw [Vals.ref1 r]
  have hb := rv.ints
  refine call_any_walk (iter_any hl.isList fun s₂ e2 st hne => ?_)
  subst e2
  refine ⟨_, _, _, _, _, _, _, rfl, Walks.list (A := X.A.in1) (I.ok.hd hc) _ a hne its.toArray, st, truth_ints hb, fun h' tk hk => ?_⟩
  refine ⟨.bl _, H, I.kept fun b o eo => hk b o (fun hmem => ?_) (Heap.get?_push_of_some _ eo), ?_, q⟩
  · rcases List.mem_cons.mp hmem with e1 | hmem
    · exact absurd (e1 ▸ Heap.lt_size eo) (Nat.lt_irrefl _)
    · cases hmem
  · show Value.bool _ = Value.bool _
    rw [← any_rangeI, List.size_toArray, hb.length]
end
section
variable {K : PySem.W.Frag} {R : Root τ}
@[simp ↓] def gAnyI : GA := fun ds k => match ds with
  | [.list es] => ∃ ns : List Int, es = ns.map PyData.int ∧ k (.bool (ns.any (fun n => n != 0)))
  | _ => False
theorem cw_anyI : CallW K R (rAnyI K) gAnyI := by
  intro F env σ H xs ds k Q r b w q
  match ds, w with
  | [.list es], ⟨ns, hn, w⟩ =>
    subst hn
    obtain ⟨x, rfl, bx⟩ := br1 b
    obtain ⟨a, ys, rfl, h, l⟩ := bx.lst r.sub
    have : ys = ns.map V.int := ints_of ns l
    subst this
    exact ⟨a, ns, rfl, .inl (.inl h), q F H _ _ (Same.refl F) r (.bl _) w⟩
end
end VL
set_option Elab.async false
set_option linter.all false
set_option maxRecDepth 100000
set_option maxHeartbeats 1000000
/-! VL63: a, b, c = x, y, z with new lists, names captured. -/
namespace VL
open PySem PySem.Spec PyProof.Rows L2
variable {τ : Tau}
section
variable {X : Cx} {R : Root τ} {pos : Pos}
theorem cs_parT3 {i j m : Nat} {x y z : Str} {a b c : Expr} {wa wb wc : WF} {px py pz pt : Pos} {kt k2 pt2} (hc : X.calm = true) (hg1 : PG X (.Name x px) (gName i)) (hg2 : PG X (.Name y py) (gName j)) (hg3 : PG X (.Name z pz) (gName m)) (ha : CF X R a wa) (hb : ∀ R : Root τ, CF X R b wb) (hcc : ∀ R : Root τ, CF X R c wc)
    (he : starEach [a, b, c] X.env = (false, eval a X.env) :: starEach [b, c] X.env := by rfl) (he2 : starEach [b, c] X.env = (false, eval b X.env) :: starEach [c] X.env := by rfl) (he3 : starEach [c] X.env = (false, eval c X.env) :: starEach [] X.env := by rfl)
    (hw : swappedStores [.Tuple [.Name x px, .Name y py, .Name z pz] kt pt] (.Tuple [a, b, c] k2 pt2) X.env = pure none := by rfl)
    (hs : swapsWithSole [.Tuple [.Name x px, .Name y py, .Name z pz] kt pt] (.Tuple [a, b, c] k2 pt2) pos.line X.env = pure false := by rfl)
    (h1 : (assignEach [.Tuple [.Name x px, .Name y py, .Name z pz] kt pt] X.env).map (·.2) = [assign (.Tuple [.Name x px, .Name y py, .Name z pz] kt pt) X.env] := by rfl)
    (h2 : (assignEach [.Name x px, .Name y py, .Name z pz] X.env).map (·.2) = assign (.Name x px) X.env :: (assignEach [.Name y py, .Name z pz] X.env).map (·.2) := by rfl)
    (h3 : (assignEach [.Name y py, .Name z pz] X.env).map (·.2) = assign (.Name y py) X.env :: (assignEach [.Name z pz] X.env).map (·.2) := by rfl)
    (h4 : (assignEach [.Name z pz] X.env).map (·.2) = assign (.Name z pz) X.env :: (assignEach [] X.env).map (·.2) := by rfl)
    (hn : (assignEach [.Name x px, .Name y py, .Name z pz] X.env).length = 3 := by rfl) (hst : (assignEach [.Name x px, .Name y py, .Name z pz] X.env).findIdx? (·.1) = none := by rfl) :
    CS X R (.Assign [.Tuple [.Name x px, .Name y py, .Name z pz] kt pt] (.Tuple [a, b, c] k2 pt2) pos) (wParF3 i j m wa wb wc) := by
  have hb' : PE X b (fun σ H Q => ∃ R : Root τ, rdF X.K R wb σ H Q) := ⟨fun pins s σ H Q I ⟨R, q⟩ => (hb R).run pins s σ H Q I q⟩
  have hc' : PE X c (fun σ H Q => ∃ R : Root τ, rdF X.K R wc σ H Q) := ⟨fun pins s σ H Q I ⟨R, q⟩ => (hcc R).run pins s σ H Q I q⟩
  refine ps_imp (ps_asg (pe_tup (pa_cons ha (pa_cons hb' (pa_cons hc' pa_nil he3) he2) he)) (pg_tup hc (pgs_cons hg1 (pgs_cons hg2 (pgs_cons hg3 pgs_nil h4) h3) h2) hn hst) hs hw h1) fun D σ H ⟨F, env, W, r, w, l⟩ => ?_
  refine ⟨F, env, _, r, w, fun F1 e1 H1 v s f1 r1 p1 fr1 ⟨nd1, w1⟩ => ?_⟩
  obtain ⟨R', r1', hd⟩ := hold r1 p1 fr1 nd1
  refine ⟨R', F1, e1, _, r1', w1, fun F2 e2 H2 u t f2 r2 p2 fr2 ⟨nd2, w2⟩ => ?_⟩
  obtain ⟨R'', r2', hd2⟩ := hold r2 p2 fr2 nd2
  refine ⟨R'', F2, e2, _, r2', w2, fun F3 e3 H3 y t3 f3 r3 p3 fr3 ⟨nd3, w3⟩ => ?_⟩
  obtain ⟨s3, a1, a2, a3⟩ := hd2 F3 e3 σ H3 f3 r3
  obtain ⟨a4, a5⟩ := a3 y t3 p3
  obtain ⟨s4, b1, b2, b3⟩ := hd F3 e3 σ H3 (f2.trans f3) s3
  obtain ⟨b4, b5⟩ := b3 u t a1
  obtain ⟨b6, b7⟩ := b3 y t3 a4
  refine ⟨by show 3 ≤ sizeLine; decide, fun p hp => ?_⟩
  have bb := s4.toBase.allocO (o := .tup [v, u, y]) hp rfl
  have r5 := s4.up bb (Same.refl F3)
  exact ⟨p, [v, u, y], rfl, .inl (.inl upd_same), rfl, v, [u, y], rfl, u, [y], rfl, y, [], rfl, rfl, l.nx F3 _ _ _ ((f1.trans f2).trans f3) (((r5.set (b1.up bb (Same.refl F3)) b2).set (b4.up bb (Same.refl F3)) (fresh_set a2 b5)).set (b6.up bb (Same.refl F3)) (fresh_set (fresh_set fr3 b7) a5)) w3⟩
end
end VL
set_option Elab.async false
set_option linter.all false
set_option maxRecDepth 100000
set_option maxHeartbeats 1000000
/-! VL64: calls that are lent owned lists; what they give holds no list. -/
namespace VL
open PySem PySem.Spec PyProof.Rows L2
variable {τ : Tau}
abbrev WLs := PEnv → (List PyData → PEnv → Prop) → Prop
inductive LdOk (K : PySem.W.Frag) (R : Root τ) (F H : Hp) : List V → List PyData → List Addr → Prop
  | nil : LdOk K R F H [] [] []
  | fz {x : V} {d : PyData} {xs : List V} {ds : List PyData} {bs : List Addr} : Rp K F x d → LdOk K R F H xs ds bs → LdOk K R F H (x :: xs) (d :: ds) bs
  | ld {b : Addr} {ys xs : List V} {es ds : List PyData} {bs : List Addr} : Own R F b → H b = some (.lst ys) → RpL K F ys es → LdOk K R F H xs ds bs → LdOk K R F H (.ref b :: xs) (.list es :: ds) (b :: bs)
def rdLs (K : PySem.W.Frag) (R : Root τ) (w : WLs) : TA := fun σ H Q => ∃ F env Qw, Rel K R F env σ H ∧ w env Qw ∧ ∀ F' env' H' xs ds bs, Same F F' → Rel K R F' env' σ H' → LdOk K R F' H' xs ds bs → Qw ds env' → Q xs H'
abbrev CLs (X : Cx) (R : Root τ) (es : List Expr) (w : WLs) : Prop := PA X es (rdLs X.K R w)
@[simp ↓] def wLsNil : WLs := fun env Q => Q [] env
@[simp ↓] def wLsFz (we : WE) (wr : WLs) : WLs := fun env Q => we env fun d e1 => wr e1 fun ds e2 => Q (d :: ds) e2
@[simp ↓] def wLsLd (i : Nat) (wr : WLs) : WLs := fun env Q => (∃ s, env[i]? = some (some s)) ∧ wr env fun ds e2 => match e2[i]? with
  | some (some (.ol es)) => Q (.list es :: ds) e2
  | _ => False
@[simp] def flatD : PyData → Bool
  | .none => true
  | .bool _ => true
  | .int _ => true
  | .str _ => true
  | _ => false
/-- f(e, ..), lists lent -/
@[simp ↓] def wCallLd (n : Nat) (fw : FW) (wa : WLs) : WE := fun env Q => wa env fun ds e1 => ds.length = n ∧ fw (ds.map Slot.fz) (fun s => match s with
  | .fz d => flatD d = true ∧ Q d e1
  | _ => False) fun _ => False
theorem flat_rp {K : PySem.W.Frag} {F F' : Hp} {x : V} {d : PyData} (h : flatD d = true) (p : Rp K F x d) : Rp K F' x d := by
  cases p with
  | non => exact .non
  | bl b => exact .bl b
  | int i => exact .int i
  | str x => exact .str x
  | lst _ _ => cases h
  | tup _ _ => cases h
section
variable {X : Cx} {R : Root τ} {e : Expr} {es : List Expr} {pos p : Pos}
theorem cls_nil : CLs X R [] wLsNil := pa_imp pa_nil fun σ H Q ⟨F, env, Qw, r, w, k⟩ => k F env H [] [] [] (Same.refl F) r .nil w
theorem cls_fz {we : WE} {wr : WLs} (ha : CE X R e we) (hr : CLs X R es wr) (hs : starEach (e :: es) X.env = (false, eval e X.env) :: starEach es X.env := by rfl) : CLs X R (e :: es) (wLsFz we wr) :=
  pa_imp (pa_cons ha hr hs) fun σ H Q ⟨F, env, Qw, r, w, k⟩ => ⟨F, env, _, r, w, fun F1 e1 H1 x d f1 r1 p1 w1 => ⟨F1, e1, _, r1, w1, fun F2 e2 H2 xs ds bs f2 r2 p2 w2 =>
    k F2 e2 H2 _ _ _ (f1.trans f2) r2 (.fz (rp_mono f2 _ _ p1) p2) w2⟩⟩
theorem cls_ld {i : Nat} {x : Str} {wr : WLs} (ha : PE X (.Name x p) (tVar i)) (hr : CLs X R es wr) (hs : starEach (.Name x p :: es) X.env = (false, eval (.Name x p) X.env) :: starEach es X.env := by rfl) : CLs X R (.Name x p :: es) (wLsLd i wr) :=
  pa_imp (pa_cons ha hr hs) fun σ H Q ⟨F, env, Qw, r, ⟨⟨s, hs⟩, w⟩, k⟩ => by
    obtain ⟨v, h1, h2⟩ := r.sl i s hs
    refine ⟨v, h1, F, env, _, r, w, fun F2 e2 H2 xs ds bs f2 r2 p2 w2 => ?_⟩
    cases q : e2[i]? with
    | none => rw [q] at w2; cases w2
    | some o =>
      cases o with
      | none => rw [q] at w2; cases w2
      | some t =>
        rw [q] at w2
        cases t with
        | ol es0 =>
          obtain ⟨b, ys, hb, ow, hH, l⟩ := ol_at r2 q
          rw [h1] at hb
          cases hb
          exact k F2 e2 H2 _ _ _ f2 r2 (.ld ow hH l p2) w2
        | _ => cases w2
theorem LdOk.len {K : PySem.W.Frag} {F H : Hp} : ∀ {xs : List V} {ds : List PyData} {bs : List Addr}, LdOk K R F H xs ds bs → xs.length = ds.length
  | _, _, _, .nil => rfl
  | _, _, _, .fz _ t => congrArg (· + 1) t.len
  | _, _, _, .ld _ _ _ t => congrArg (· + 1) t.len
theorem LdOk.own {K : PySem.W.Frag} {F H : Hp} : ∀ {xs : List V} {ds : List PyData} {bs : List Addr}, LdOk K R F H xs ds bs → ∀ b ∈ bs, F b = none ∧ ∃ ys, H b = some (.lst ys)
  | _, _, _, .nil, b, hb => by cases hb
  | _, _, _, .fz _ t, b, hb => t.own b hb
  | _, _, _, .ld ow h _ t, b, hb => by
    rcases List.mem_cons.mp hb with rfl | hb
    · exact ⟨ow.1, _, h⟩
    · exact t.own b hb
theorem LdOk.at_ {K : PySem.W.Frag} {F H F' : Hp} (f : Same F F') : ∀ {xs : List V} {ds : List PyData} {bs : List Addr}, LdOk K R F H xs ds bs → (∀ b ∈ bs, F' b = H b) → ∀ (i : Nat) (s : Slot), (ds.map Slot.fz)[i]? = some s → ∃ x : V, xs[i]? = some x ∧ ArgOk K F' none x s
  | _, _, _, .nil, _, i, s, e => by simp at e
  | _, _, _, .fz h t, hb, i, s, e => by
    cases i with
    | zero => cases e; exact ⟨_, rfl, rp_mono f _ _ h⟩
    | succ i => exact t.at_ f hb i s e
  | _, _, _, .ld ow h l t, hb, i, s, e => by
    cases i with
    | zero => cases e; exact ⟨_, rfl, .lst (by rw [hb _ (by simp)]; exact h) (rpL_mono f _ _ l)⟩
    | succ i => exact t.at_ f (fun b hm => hb b (by simp [hm])) i s e
theorem lend_rd {K : PySem.W.Frag} {mg : Str → Option Value} {F H : Hp} {env : PEnv} {σ : L2.St} {xs : List V} {ds : List PyData} {bs : List Addr} {n : Nat} {fw : FW} {Qw : PyData → Prop} {Q : VK} {E : XK} (hn : xs.length = n) (r : Rel K R F env σ H) (ha : LdOk K R F H xs ds bs)
    (hf : fw (ds.map Slot.fz) (fun s => match s with | .fz d => flatD d = true ∧ Qw d | _ => False) fun _ => False) (k : ∀ H' x d, Rel K R F env σ H' → Rp K F x d → Qw d → Q x H') : spW τ K mg n fw xs H Q E := by
  classical
  obtain ⟨Fx, hFx⟩ : ∃ Fx : Hp, ∀ b, Fx b = if b ∈ bs then H b else F b := ⟨_, fun _ => rfl⟩
  have own := ha.own
  have ff : Same F Fx := fun b o e => by
    rw [hFx, if_neg (fun hb => by rw [(own b hb).1] at e; cases e)]
    exact e
  have sub : Same Fx H := fun b o e => by
    rw [hFx] at e
    split at e
    · exact e
    · exact r.sub b o e
  have bb := base_call r.toBase none (fun a h => by cases h)
  have b1 : Base (rt (τ := τ) H Fx none) Fx H := { bb with
    sub := sub
    frame := fun _ _ h _ _ => h
    tabs := bb.tabs
    ext := Same.refl Fx
    new := fun _ _ h => .inl h
    kind := fun b o e => by
      rw [hFx] at e
      split at e
      · rename_i hb
        obtain ⟨_, ys, h2⟩ := own b hb
        rw [h2] at e; cases e; rfl
      · exact r.kind b o e
    drw := fun a h => by cases h
    kt := fun _ _ h => by cases h
    kp := fun _ _ h => by cases h }
  refine ⟨hn, Fx, none, ds.map Slot.fz, _, _, b1, ⟨by rw [List.length_map]; exact ha.len, ha.at_ ff (fun b hb => by rw [hFx, if_pos hb]), fun i j e => ?_⟩, hf, fun F' H' x s f2 b p q => ?_, fun nm C F' H' _ _ _ z => z.elim⟩
  · rw [List.getElem?_map] at e
    cases h : ds[i]? with
    | none => rw [h] at e; cases e
    | some d => rw [h] at e; cases e
  · cases s with
    | fz d =>
      obtain ⟨q1, q2⟩ := q
      have b2 : Base (rt (τ := τ) H F none) F H' := { b with
        sub := fun c o e => b.sub c o (f2 c o (ff c o e))
        frame := b.frame
        tabs := b.tabs
        ext := Same.refl F
        new := fun _ _ h => .inl h
        kind := r.kind
        drw := fun a h => by cases h
        kt := fun _ _ h => by cases h
        kp := fun _ _ h => by cases h }
      exact k H' x d (r.up b2 (Same.refl F)) (flat_rp q1 p) q2
    | _ => exact q.elim
variable {k : Nat} {ps : List Str} {fw : FW} {x : Str} {wa : WLs}
theorem ce_callLd {n : Nat} (C : Cal τ X.prog X.w X.K X.mg X.base k x ps fw) (hn : ps.length = n) (hr : Room k X.A) (hg : Gl X x) (ha : CLs X R (e :: es) wa) (hdb : (x == ("__debug__" : Str)) = false)
    (he : starEach (e :: es) X.env = (false, eval e X.env) :: starEach es X.env) (hpl : (backTo pos (starEach es X.env)).any (·.1) = false) :
    CE X R (.Call (.Name x p) (e :: es) [] pos) (wCallLd n fw wa) := by
  subst hn
  obtain ⟨f, fd, F, hm, hk, hb⟩ := C.ex
  exact pe_imp (pe_call F hr hg hm hk hb .nil pass0 ha hdb he hpl) fun σ H Q ⟨Fz, env, Qw, r, w, kk⟩ =>
    ⟨Fz, env, _, r, w, fun F1 e1 H1 xs ds bs f1 r1 p1 ⟨hl, w1⟩ => by
      show spW τ X.K X.mg ps.length fw (xs ++ []) H1 Q E0
      rw [List.append_nil]
      exact lend_rd (by rw [p1.len]; exact hl) r1 p1 w1 fun H2 y d r2 p2 q => kk F1 e1 H2 y d f1 r2 p2 q⟩
end
end VL
set_option Elab.async false
set_option linter.all false
set_option maxRecDepth 100000
set_option maxHeartbeats 1000000
/-! VL65: a comprehension over an owned list, lent to the iterator. -/
namespace VL
open PySem PySem.Spec PyProof.Rows L2 RZ
variable {τ : Tau}
@[simp ↓] def wiSeqB (i : Nat) : WI := fun env Q => ∃ es, env[i]? = some (some (.ol es)) ∧ Q es env
theorem yl_seqB {K : PySem.W.Frag} {F : Hp} {b : Addr} {ys : List V} {es : List PyData} (l : RpL K F ys es) : YlB K F b ys (Itl K b) es where
  go := fun R F1 env σ H i d f r hk e => by
    have hs : SqL K H b ys := .inl (.inl (r.kp b _ hk).1)
    obtain ⟨x, hx, px⟩ := l.get' e
    refine ⟨⟨ys, x, hs, hx⟩, fun y H' hy => ?_⟩
    obtain ⟨e1, hy⟩ := hy
    subst e1
    have := hy ys hs
    rw [hx] at this; cases this
    exact ⟨F1, Same.refl _, r, rp_mono f _ _ px⟩
  stop := fun R F1 env σ H f r hk => ⟨ys, .inl (.inl (r.kp b _ hk).1), by rw [l.length]; exact Nat.le_refl _⟩
theorem ci_seqB {X : Cx} {R : Root τ} {tg : Expr} {x : Str} {i : Nat} {p : Pos} (h : PE X (.Name x p) (tVar i)) : CIB X R i tg (.Name x p) (wiSeqB i) :=
  pi_imp (pi_seq h) fun σ H Rk ⟨F, env, Qw, r, ⟨es, hi, w⟩, k⟩ => by
    obtain ⟨b, ys, hb, ow, hH, l⟩ := ol_at r hi
    exact ⟨_, hb, _, rfl, .inl ⟨_, .inl (.inl hH), k F env H _ _ b ys es (Same.refl F) r hi hb ow hH l (yl_seqB l) w⟩⟩
end VL
set_option Elab.async false
set_option linter.all false
set_option maxRecDepth 100000
set_option maxHeartbeats 1000000
/-! VL66: {k: v} with a tuple as key. -/
namespace VL
open PySem PySem.Spec PyProof.Rows L2
variable {τ : Tau}
def tDispT (tk tv : TE) : TE := fun σ H Q => ∀ p, H p = none → tk σ (upd H p (.dT [])) fun x H1 => tv σ H1 fun y H2 => H2 p = some (.dT []) ∧ ∃ (ks : List Key) (b : Addr), x = .ref b ∧ H2 b = some (.tup (ks.map kV)) ∧ Q (.ref p) (upd H2 p (.dT [(ks, y)]))
theorem pe_dispT {X : Cx} {pos : Pos} {k v : Expr} {tk tv : TE} (hu : X.A.units + 1 < cLine) (hk : PE X k tk) (hv : PE X v tv) : PE X (.Dict [some k] [v] pos) (tDispT tk tv) := by
  refine ⟨fun pins s σ H Q I q => ?_⟩
  have hn := I.hok.fresh (Nat.le_refl s.heap.objs.size)
  have I1 := I.laid (a := s.heap.objs.size) (o := .dT []) (h' := s.heap.push { cls := .type "dict", data := .dict #[] }) (t' := s.toks) (fun _ _ q => Heap.get?_push_of_some _ q) (Nat.le_refl _) (dt_empty s.heap I.big)
  have qq := q _ hn
  refine wpAny_Dict_any rfl rfl (by simp) (show 1 ≤ 15 by decide) (thn ((pps_cons hk hv pps_nil).run pins _ σ _ (fun ps H2 => H2 s.heap.objs.size = some (.dT []) ∧ ∃ (ks : List Key) (b : Addr) (y : V), ps = [(.ref b, y)] ∧ H2 b = some (.tup (ks.map kV)) ∧ Q (.ref s.heap.objs.size) (upd H2 s.heap.objs.size (.dT [(ks, y)]))) I1 ?_) fun ws s2 ⟨ps, H2, I2, rel, e, ks, b, y, ep, eb, q2⟩ => ?_)
  · show tk σ _ fun x H1 => tv σ H1 fun y H2 => _
    have e : (fun x H1 => tv σ H1 fun y H2 => H2 s.heap.objs.size = some (.dT []) ∧ ∃ (ks : List Key) (b : Addr), x = .ref b ∧ H2 b = some (.tup (ks.map kV)) ∧ Q (.ref s.heap.objs.size) (upd H2 s.heap.objs.size (.dT [(ks, y)]))) = fun x H1 => tv σ H1 fun y H2 => H2 s.heap.objs.size = some (.dT []) ∧ ∃ (ks : List Key) (b : Addr) (y' : V), [(x, y)] = [(V.ref b, y')] ∧ H2 b = some (.tup (ks.map kV)) ∧ Q (.ref s.heap.objs.size) (upd H2 s.heap.objs.size (.dT [(ks, y')])) := by
      funext x H1
      congr 1
      funext y H2
      refine propext ⟨fun ⟨h, ks, b, e1, e2, e3⟩ => ⟨h, ks, b, y, by rw [e1], e2, e3⟩, fun ⟨h, ks, b, y', e1, e2, e3⟩ => ?_⟩
      simp only [List.cons.injEq, Prod.mk.injEq, and_true] at e1
      obtain ⟨e4, e5⟩ := e1
      subst e5
      exact ⟨h, ks, b, e4, e2, e3⟩
    have q3 := qq
    rw [e] at q3
    exact q3
  · subst ep
    cases rel with
    | @cons _ w2 _ ws h t =>
      cases t
      obtain ⟨u, w⟩ := w2
      obtain ⟨h1, h2⟩ := h
      cases (show u = Value.ref b from h1)
      obtain ⟨z, hd, xs, r0, dd⟩ := dt_of I2.hok e
      cases r0
      unfold storeAll
      rw [List.forIn_cons]
      refine wpAny_bind (wpAny_bind (wpAny_dictSet_heap (hsz := by simp) (knd := tupleKind (mixKind X.prog X.w)) (Nat.lt_of_succ_lt hu) (key_of I2.hok eb) dd fun h' dd' hs => wpAny_pure ?_))
      refine wpAny_pure ⟨.ref s.heap.objs.size, _, ?_, rfl, q2⟩
      obtain ⟨qo, es, epp, hq, g2, g3, g4, _, g5⟩ := dd'
      refine d_write I2 (by rw [e]; exact True.intro) hs ⟨qo, hq⟩ ⟨by rw [sizeLine_eq]; simp, hd, _, ((KT.put (kvs := []) (xs := []) .nil ks eb h2)).keeps fun c ys ec => ?_, qo, es, epp, hq, g2, g3, g4, g5⟩
      rw [upd_ne (ne_of ec e (fun z => nomatch z))]
      exact ec
@[simp ↓] def wDispT (wk wv : WE) : WF := fun env Q => wk env fun x e1 => wv e1 fun y e2 => ∃ ds ks, x = .tuple ds ∧ keysOf ds = some ks ∧ Q (.ot [(ks, y)]) e2
theorem cf_dispT {X : Cx} {R : Root τ} {pos : Pos} {k v : Expr} {wk wv : WE} (hu : X.A.units + 1 < cLine) (hk : ∀ R : Root τ, CE X R k wk) (hv : ∀ R : Root τ, CE X R v wv) : CF X R (.Dict [some k] [v] pos) (wDispT wk wv) :=
  pe_imp (pe_dispT hu (pe_s hk) (pe_s hv)) fun σ H Q ⟨F, env, Qw, r, w, k⟩ => fun D hD => by
    have rD := r.up (r.toBase.allocO (o := .dT []) hD rfl) (Same.refl F)
    have ow := own_new r hD
    have fr0 : ∀ (i : Nat) (t : Slot) (a : Addr), env[i]? = some (some t) → t.owns = true → σ[i]? = some (some (.ref a)) → a ≠ D := fun i t a h1 h2 h3 z => r.fresh hD (.ot []) rfl i t a h1 h2 h3 (by rw [z])
    have rk0 := rD.aside upd_same ow.1 ow.2.1 rfl fr0
    refine ⟨_, F, env, _, rk0, w, fun F1 e1 H1 x d f1 r1 p1 w1 => ⟨_, F1, e1, _, r1, w1, fun F2 e2 H2 y d2 f2 r2 p2 ⟨ds, ks, ex, hks, w2⟩ => ?_⟩⟩
    subst ex
    obtain ⟨rb, hb1, hb2, hb3, hb4⟩ := r2.back ow.2.2
    cases p1 with
    | tup ht lt =>
      have ek := keysOf_rp lt hks
      subst ek
      refine ⟨hb1, ks, _, rfl, rb.sub _ _ (f2 _ _ ht), ?_⟩
      have rw6 := rb.writeK hb1 hb2 ow.2.2 hb3 rfl (o' := .dT [(ks, y)]) rfl hb4
      exact k F2 e2 _ _ (.ot [(ks, d2)]) (f1.trans f2) rw6 ⟨D, _, rfl, ⟨hb2, hb3, ow.2.2⟩, upd_same, .cons ⟨rfl, p2⟩ .nil, by simp⟩ (fun _ j t a h1 h2 h3 z => hb4 j t a h1 h2 h3 (by cases z; rfl)) w2
end VL
set_option Elab.async false
set_option linter.all false
set_option maxRecDepth 100000
set_option maxHeartbeats 1000000
/-! VL67: walking a dict with tuple keys; list of it. -/
namespace VL
open PySem PySem.Spec PyProof.Rows L2 RZ
variable {τ : Tau}
section
variable {K : PySem.W.Frag} {R : Root τ} {F H : Hp} {env : PEnv} {σ : L2.St} {b : Addr} {xs : List V}
theorem Base.tupF (r : Base R F H) (hn : F b = none) (h : H b = some (.tup xs)) : Base R (upd F b (.tup xs)) H where
  ext := r.ext.trans (same_frz hn)
  has := r.has
  sub := fun c u e => by
    by_cases hc : c = b
    · subst hc; rw [upd_same] at e; cases e; exact h
    · rw [upd_ne hc] at e; exact r.sub c u e
  frame := r.frame
  tabs := r.tabs
  tok := r.tok
  new := fun c u e => by
    by_cases hc : c = b
    · subst hc; rw [upd_same] at e; cases e; exact .inr (.inr rfl)
    · rw [upd_ne hc] at e; exact r.new c u e
  kt := r.kt
  kind := fun c u e => by
    by_cases hc : c = b
    · subst hc; rw [upd_same] at e; cases e; rfl
    · rw [upd_ne hc] at e; exact r.kind c u e
  drw := fun c e => by
    obtain ⟨h1, h2, ob, h3, h4⟩ := r.drw c e
    have hc : c ≠ b := fun z => by
      subst z
      rw [h] at h3; cases h3
      have := h4.nt
      cases this
    exact ⟨by rw [upd_ne hc]; exact h1, h2, ob, h3, h4.mono (same_frz hn)⟩
  kp := fun c o2 e => by
    obtain ⟨h1, h2, h3⟩ := r.kp c o2 e
    have hc : c ≠ b := fun z => by
      subst z
      rw [h] at h1; cases h1
      have := r.kt c _ e
      cases this
    exact ⟨h1, by rw [upd_ne hc]; exact h2, h3⟩
theorem SlotOk.tupF {x : V} {s : Slot} (hn : F b = none) (h : H b = some (.tup xs)) (k : SlotOk K R F H x s) : SlotOk K R (upd F b (.tup xs)) H x s :=
  k.frz hn fun o z => by
    subst z
    cases s with
    | fz d => cases o
    | sc ns => cases o
    | ex a => cases o
    | ol ds => obtain ⟨a, ys, e, _, h1, _⟩ := k; cases e; rw [h] at h1; cases h1
    | od ds => obtain ⟨a, ys, e, _, h1, _⟩ := k; cases e; rw [h] at h1; cases h1
    | ot ds => obtain ⟨a, ys, e, _, h1, _⟩ := k; cases e; rw [h] at h1; cases h1
    | dr =>
      obtain ⟨a, e, _, _, ob, h1, h2⟩ := k
      cases e
      rw [h] at h1; cases h1
      have := h2.nt
      cases this
theorem Rel.tupF (r : Rel K R F env σ H) (h : H b = some (.tup xs)) : ∃ F', Same F F' ∧ F' b = some (.tup xs) ∧ Rel K R F' env σ H := by
  cases q : F b with
  | some u =>
    have e := r.sub b u q
    rw [h] at e; cases e
    exact ⟨F, Same.refl F, q, r⟩
  | none => exact ⟨upd F b (.tup xs), same_frz q, upd_same, { r.toBase.tupF q h with
      len := r.len
      sl := fun j s e => by
        obtain ⟨y, h4, h5⟩ := r.sl j s e
        exact ⟨y, h4, h5.tupF q h⟩
      dis := r.dis }⟩
theorem rpL_kV {F : Hp} : ∀ ks : List Key, RpL K F (ks.map kV) (ks.map keyD)
  | [] => .nil
  | k :: ks => .cons (rp_kV k) (rpL_kV ks)
abbrev keyT (ks : List Key) : PyData := .tuple (ks.map keyD)
theorem Rel.tupK {ks : List Key} (r : Rel K R F env σ H) (h : H b = some (.tup (ks.map kV))) : ∃ F', Same F F' ∧ Rel K R F' env σ H ∧ Rp K F' (.ref b) (keyT ks) := by
  obtain ⟨F', f, e, r'⟩ := r.tupF h
  exact ⟨F', f, r', .tup e (rpL_kV ks)⟩
theorem yl_keysT {d : Addr} {o : Obj} {ys : List (List Key × V)} {kvs : List (List Key × PyData)} (h : F d = some (.frz o (.dT ys))) (l : KVs K F ys kvs) : Yl K F (Itkt d o ys) (kvs.map fun kv => keyT kv.1) where
  go := fun R F1 env σ H i dd f r e => by
    rw [List.getElem?_map] at e
    cases q : kvs[i]? with
    | none => rw [q] at e; cases e
    | some kv =>
      rw [q] at e; cases e
      have hi : i < ys.length := by rw [kvs_len l]; exact (List.getElem?_eq_some_iff.mp q).1
      have hk := kvs_at i l
      rw [q, List.getElem?_eq_getElem hi] at hk
      have hk : ys[i].1 = kv.1 := by simpa using hk
      refine ⟨⟨r.sub _ _ (f _ _ h), hi⟩, fun x H' ⟨e1, k, v, p, e2, e3, e4⟩ => ?_⟩
      subst e1; subst e3
      rw [List.getElem?_eq_getElem hi] at e2
      have e2 := Option.some.inj e2
      rw [e2] at hk
      have hk : k = kv.1 := hk
      subst hk
      obtain ⟨F2, f2, r2, p2⟩ := r.tupK e4
      exact ⟨F2, f2, r2, p2⟩
  stop := fun R F1 env σ H f r => ⟨r.sub _ _ (f _ _ h), by rw [List.length_map, kvs_len l]; exact Nat.le_refl _⟩
end
def iKeysLT (td : TE) : TI := fun σ H R => td σ H fun x H1 => ∃ d kvs, x = .ref d ∧ H1 d = some (.dT kvs) ∧ ∀ o, R (Itkt d o kvs) (upd H1 d (.frz o (.dT kvs)))
theorem pi_keysLT {X : Cx} {tg e : Expr} {td : TE} (he : PE X e td) : PI X tg e (iKeysLT td) := by
  refine ⟨fun pins s σ H R I h => ?_⟩
  refine thn (he.run pins s σ H _ I h) fun u s1 ⟨x, H1, I1, rx, d, kvs, ex, hd, q⟩ => ?_
  subst ex
  obtain rfl : u = Value.ref d := rx
  obtain ⟨o, I2⟩ := I1.lock hd trivial
  have hd2 : upd H1 d (.frz o (.dT kvs)) d = some (.frz o (.dT kvs)) := upd_same
  obtain ⟨hs, hgd, hx, es, ep, hdt, hsz, ent⟩ := I2.frzT hd2
  refine iter_keys hs hgd hx hdt (pi_one (tk := s1.toks) I2 _ (turn_keysT _ hdt) ⟨_, Heap.get?_push_size _ rfl, rfl, ?_⟩ (q o))
  rw [hsz] <;> rfl
@[simp ↓] def wiDictT (wf : WF) : WI := fun env Q => wf env fun s e1 => match s with
  | .ot kvs => Q (kvs.map fun kv => keyT kv.1) e1
  | _ => False
theorem ci_dictT {X : Cx} {R : Root τ} {tg e : Expr} {wf : WF} (he : CF X R e wf) : CI X R tg e (wiDictT wf) :=
  pi_imp (pi_keysLT he) fun σ H Rk ⟨F, env, Qw, r, w, k⟩ => ⟨F, env, _, r, w, fun F1 e1 H1 x s f1 r1 p1 fr w1 => by
    cases s with
    | ot kvs =>
      obtain ⟨a, ys, rfl, ow, h1, l, nd⟩ := p1
      refine ⟨a, ys, rfl, h1, fun o => ?_⟩
      have ff : Same F1 (upd F1 a (.frz o (.dT ys))) := same_frz ow.1
      have r2 := r1.lock (u := .frz o (.dT ys)) ow h1 rfl rfl fun i t b h2 h3 h4 z => fr rfl i t b h2 h3 h4 (by rw [z])
      exact k _ e1 _ _ _ (f1.trans ff) r2 (yl_keysT upd_same (kvs_mono ff l)) w1
    | _ => cases w1⟩
/-! list(d) -/
theorem keys_up {K : PySem.W.Frag} {R : Root τ} {H : Hp} {env : PEnv} {σ : L2.St} : ∀ {ys : List (List Key × V)} {bs : List Addr} {F : Hp}, Rel K R F env σ H → IsKeys H ys bs → ∃ F', Same F F' ∧ Rel K R F' env σ H ∧ RpL K F' (bs.map V.ref) (ys.map fun kv => keyT kv.1)
  | [], _, F, r, .nil => ⟨F, Same.refl F, r, .nil⟩
  | y :: ys, _, F, r, .cons h t => by
    obtain ⟨F1, f1, r1, p1⟩ := r.tupK h
    obtain ⟨F2, f2, r2, p2⟩ := keys_up r1 t
    exact ⟨F2, f1.trans f2, r2, .cons (rp_mono f2 _ _ p1) p2⟩
theorem kvs_keysT {K : PySem.W.Frag} {F : Hp} {ys : List (List Key × V)} {kvs : List (List Key × PyData)} (l : KVs K F ys kvs) : (ys.map fun kv => keyT kv.1) = kvs.map fun kv => keyT kv.1 := by
  induction l with
  | nil => rfl
  | cons h t ih => rw [List.map_cons, List.map_cons, ih, h.1]
@[simp ↓] def wLstDT (wf : WF) : WF := fun env Q => wf env fun s e1 => match s with
  | .ot kvs => Q (.ol (kvs.map fun kv => keyT kv.1)) e1
  | _ => False
section
variable {X : Cx} {R : Root τ} {p pos : Pos} {e : Expr} {wf : WF}
theorem cf_lstDT (hc : X.calm = true) (hg : Gl X "list") (hm : X.mg "list" = none) (he : CF X R e wf) (hst : starEach [e] X.env = (false, eval e X.env) :: starEach [] X.env := by rfl) (hpl : (backTo pos (starEach [] X.env)).any (·.1) = false := by rfl) :
    CF X R (.Call (.Name "list" p) [e] [] pos) (wLstDT wf) :=
  pe_imp (pe_callTy (call_list_dT hc) hg hm boot_list (pa_cons he pa_nil hst) (by decide) (by decide) hst hpl) fun σ H Q ⟨F, env, Qw, r, w, k⟩ =>
    ⟨F, env, _, r, w, fun F1 e1 H1 x s f1 r1 p1 fr w1 => by
      cases s with
      | ot kvs =>
        obtain ⟨a, ys, rfl, ow, h1, l, nd⟩ := p1
        refine ⟨a, ys, rfl, .inl h1, fun q bs hq hk => ?_⟩
        obtain ⟨F2, f2, r2, p2⟩ := keys_up r1 hk
        rw [kvs_keysT l] at p2
        obtain ⟨r4, p4, fr4⟩ := new_ol r2 hq p2
        exact k F2 _ _ _ _ (f1.trans f2) r4 p4 fr4 w1
      | _ => cases w1⟩
end
end VL
set_option Elab.async false
set_option linter.all false
set_option maxRecDepth 100000
set_option maxHeartbeats 1000000
/-! VL68: a dict whose keys are rows of ints, all with one value: a set of rows. -/
namespace VL
open PySem PySem.Spec PyProof.Rows L2
abbrev kI (t : List Int) : List Key := t.map Sum.inl
def kvR (v : PyData) (K : List (List Int)) : List (List Key × PyData) := K.map fun t => (kI t, v)
theorem kI_inj {s t : List Int} (h : kI s = kI t) : s = t := by
  induction s generalizing t with
  | nil => cases t with
    | nil => rfl
    | cons => simp at h
  | cons a s ih => cases t with
    | nil => simp at h
    | cons b t =>
      simp only [List.map_cons, List.cons.injEq] at h
      obtain ⟨h1, h2⟩ := h
      injection h1 with h1
      rw [h1, ih h2]
@[simp] theorem keysOf_ints (t : List Int) : keysOf (t.map PyData.int) = some (kI t) := by
  induction t with
  | nil => rfl
  | cons a t ih =>
    show (match keyOf (.int a), keysOf (t.map PyData.int) with
      | some k, some ks => some (k :: ks)
      | _, _ => none) = _
    rw [ih]; rfl
@[simp] theorem keyT_ints (t : List Int) : keyT (kI t) = .tuple (t.map .int) := by
  unfold keyT
  rw [List.map_map]; rfl
theorem kvR_keys (v : PyData) (K : List (List Int)) : ((kvR v K).map fun kv => keyT kv.1) = K.map fun t => .tuple (t.map .int) := by
  unfold kvR
  rw [List.map_map]
  exact List.map_congr_left fun t _ => keyT_ints t
theorem putR (v : PyData) (K : List (List Int)) (t : List Int) : putD (kvR v K) (kI t) v = kvR v (if t ∈ K then K else K ++ [t]) := by
  unfold putD
  have e : ((kvR v K).any fun kv => decide (kv.1 = kI t)) = decide (t ∈ K) := by
    rw [Bool.eq_iff_iff, List.any_eq_true, decide_eq_true_eq]
    constructor
    · rintro ⟨q, hq, e⟩
      obtain ⟨s, hs, rfl⟩ := List.mem_map.mp hq
      have e : kI s = kI t := by simpa using e
      rw [← kI_inj e]; exact hs
    · intro h
      exact ⟨(kI t, v), List.mem_map.mpr ⟨t, h, rfl⟩, by simp⟩
  rw [e]
  by_cases h : t ∈ K
  · rw [if_pos h, if_pos (by simpa using h)]
    unfold kvR
    rw [List.map_map]
    refine List.map_congr_left fun s _ => ?_
    show (if kI s = kI t then (kI s, v) else (kI s, v)) = _
    split <;> rfl
  · rw [if_neg h, if_neg (by simpa using h)]
    unfold kvR
    rw [List.map_append]; rfl
theorem uniq_snoc {α : Type} [DecidableEq α] (xs : List α) (x : α) : uniq (xs ++ [x]) = if x ∈ uniq xs then uniq xs else uniq xs ++ [x] := by
  unfold uniq
  rw [List.foldl_append]; rfl
theorem putR_uniq (v : PyData) (xs : List (List Int)) (t : List Int) : putD (kvR v (uniq xs)) (kI t) v = kvR v (uniq (xs ++ [t])) := by
  rw [putR, uniq_snoc]
  by_cases h : t ∈ uniq xs
  · rw [if_pos h, if_pos h]
  · rw [if_neg h, if_neg h]
theorem kvR_len (v : PyData) (K : List (List Int)) : (kvR v K).length = K.length := by simp [kvR]
end VL
set_option Elab.async false
set_option linter.all false
set_option maxRecDepth 100000
set_option maxHeartbeats 2000000
namespace Lw
open PySem PySem.Spec PyProof.Rows L2 VL
def encT (r : List Int) : PyData := .tuple (iL r)
def isWk : PyData → Bool
  | .tuple ds => decide (1 ≤ ds.length) && (decide (ds.length ≤ 40) && ds.all fun x => isNum x (-50) 50)
  | _ => false
@[simp ↓] def weekW : FW := fun args Q _ => match args with
  | [.fz v] => Q (.fz (.bool (isWk v)))
  | _ => False
structure OkW (w : List Int) : Prop where
  l1 : 1 ≤ w.length
  l6 : w.length ≤ 40
  pos : ∀ x ∈ w, -50 ≤ x ∧ x ≤ 50
/-- levels from l on -/
def lvF : Int → List Int → List Int
  | _, [] => []
  | l, x :: r => max 0 (l + x) :: lvF (max 0 (l + x)) r
@[simp ↓] def lvfW : FW := fun args Q _ => match args with
  | [.fz (.tuple ds), .fz (.int l)] => ∃ w, ds = iL w ∧ OkW w ∧ (0 ≤ l ∧ l ≤ 2000) ∧ Q (.fz (.tuple (iL (lvF l w))))
  | _ => False
@[simp ↓] def levW : FW := fun args Q _ => match args with
  | [.fz (.tuple ds)] => ∃ w, ds = iL w ∧ OkW w ∧ Q (.fz (.tuple (iL (lvF 0 w))))
  | _ => False
def lastL (w : List Int) : Int := (lvF 0 w).getD (w.length - 1) 0
@[simp ↓] def steadyW : FW := fun args Q Ew => match args with
  | [.fz (.tuple ds)] => ∃ w, ds = iL w ∧ OkW w ∧ if w.sum ≤ 0 then Q (.fz (.tuple (iL (lvF (lastL w) w)))) else Ew "Refused"
  | _ => False
def areC : PyData → Bool
  | .tuple ds => decide (ds.length ≤ 8) && ds.all fun x => isNum x 1 60
  | _ => false
@[simp ↓] def areW : FW := fun args Q _ => match args with
  | [.fz v] => Q (.fz (.bool (areC v)))
  | _ => False
structure OkC (c : List Int) : Prop where
  l6 : c.length ≤ 6
  pos : ∀ x ∈ c, 1 ≤ x ∧ x ≤ 60
/-- calls given: pairs of a call and its crew -/
abbrev Gv := List (Int × Nat)
def jobs (x : Nat) (P : Gv) : List Int := (P.filter fun q => q.2 == x).map (·.1)
def tmP (k : Nat) (P : Gv) : List Int := (List.range k).map fun x => (jobs x P).sum
@[simp ↓] def timesW : FW := fun args Q _ => match args with
  | [.fz (.tuple ds), .fz (.int m), .fz (.tuple gs)] => ∃ c g, ∃ k : Nat, ds = iL c ∧ OkC c ∧ m = k ∧ (1 ≤ k ∧ k ≤ 3) ∧ gs = iL (g.map fun (i : Nat) => (i : Int)) ∧ g.length = c.length ∧ (∀ i ∈ g, i < k) ∧ Q (.fz (.tuple (iL (tmP k (c.zip g)))))
  | _ => False
def minL : List Int → Int
  | [] => 0
  | x :: r => r.foldl min x
def maxL : List Int → Int
  | [] => 0
  | x :: r => r.foldl max x
def worstL (w : List Int) : Int := maxL (lvF 0 w)
@[simp ↓] def worstW : FW := fun args Q _ => match args with
  | [.fz (.tuple ds)] => ∃ w, ds = iL w ∧ OkW w ∧ Q (.fz (.int (worstL w)))
  | _ => False
/-- the first of the least -/
def argM (t : List Int) : Nat := t.idxOf (minL t)
/-- calls by turns -/
def grP (k : Nat) (c : List Int) : Gv := c.foldl (fun P x => P ++ [(x, argM (tmP k P))]) []
@[simp ↓] def turnsW : FW := fun args Q _ => match args with
  | [.fz (.tuple ds), .fz (.int m)] => ∃ c, ∃ k : Nat, ds = iL c ∧ OkC c ∧ m = k ∧ (1 ≤ k ∧ k ≤ 3) ∧ Q (.fz (.tuple (iL ((grP k c).map fun q => (q.2 : Int)))))
  | _ => False
/-- all ways -/
def allP (k : Nat) (c : List Int) : List Gv := c.foldl (fun acc x => acc.flatMap fun P => (List.range k).map fun i => P ++ [(x, i)]) [[]]
def longL (k : Nat) (c : List Int) : Int := minL ((allP k c).map fun P => maxL (tmP k P))
@[simp ↓] def longW : FW := fun args Q _ => match args with
  | [.fz (.tuple ds), .fz (.int m)] => ∃ c, ∃ k : Nat, ds = iL c ∧ OkC c ∧ m = k ∧ (1 ≤ k ∧ k ≤ 3) ∧ Q (.fz (.int (longL k c)))
  | _ => False
@[simp ↓] def bestW : FW := fun args Q _ => match args with
  | [.fz (.tuple ds), .fz (.int m)] => ∃ c, ∃ k : Nat, ds = iL c ∧ OkC c ∧ m = k ∧ (1 ≤ k ∧ k ≤ 3) ∧ Q (.fz (.int (longL k c)))
  | _ => False
@[simp ↓] def saysW : FW := fun args Q _ => match args with
  | [.fz (.bool a), .fz (.bool b)] => Q (.fz (.bool (a == b)))
  | _ => False
def toldD (w : List Int) : PyData := if w.sum ≤ 0 then .tuple (iL (lvF (lastL w) w)) else .str "refused"
@[simp ↓] def toldW : FW := fun args Q _ => match args with
  | [.fz (.tuple ds)] => ∃ w, ds = iL w ∧ OkW w ∧ Q (.fz (toldD w))
  | _ => False
@[simp ↓] def tiredW : FW := fun args Q _ => match args with
  | [.fz (.tuple ds)] => ∃ w, ds = iL w ∧ w.length ≤ 40 ∧ (∀ x ∈ w, -50 ≤ x ∧ x ≤ 50) ∧ Q (.ol (iL (lvF 0 w)))
  | _ => False
@[simp ↓] def weeksW : FW := fun args Q _ => match args with
  | [.dr] => Q (.fz (.bool true))
  | _ => False
end Lw
set_option Elab.async false
set_option linter.all false
set_option autoImplicit false
set_option maxRecDepth 100000
set_option maxHeartbeats 1000000
namespace Lw
open PySem PySem.Spec PyProof.Rows L2 VL
/-! ### greatest and least -/
theorem fmax_le {R : Int} : ∀ {bs : List Int} {a : Int}, bs.foldl max a ≤ R ↔ a ≤ R ∧ ∀ x ∈ bs, x ≤ R
  | [], a => by simp
  | b :: bs, a => by
    rw [List.foldl_cons, fmax_le]
    simp only [List.mem_cons, forall_eq_or_imp, Int.max_le, and_assoc]
theorem fmin_le {R : Int} : ∀ {bs : List Int} {a : Int}, R ≤ bs.foldl min a ↔ R ≤ a ∧ ∀ x ∈ bs, R ≤ x
  | [], a => by simp
  | b :: bs, a => by
    rw [List.foldl_cons, fmin_le]
    simp only [List.mem_cons, forall_eq_or_imp, Int.le_min, and_assoc]
theorem fmax_mem : ∀ {bs : List Int} {a : Int}, bs.foldl max a ∈ a :: bs
  | [], a => by simp
  | b :: bs, a => by
    rw [List.foldl_cons]
    have := fmax_mem (bs := bs) (a := max a b)
    rw [List.mem_cons] at this
    rcases this with h | h
    · rw [h]
      rcases Int.le_total a b with c | c
      · rw [Int.max_eq_right c]; simp
      · rw [Int.max_eq_left c]; simp
    · simp [h]
theorem fmin_mem : ∀ {bs : List Int} {a : Int}, bs.foldl min a ∈ a :: bs
  | [], a => by simp
  | b :: bs, a => by
    rw [List.foldl_cons]
    have := fmin_mem (bs := bs) (a := min a b)
    rw [List.mem_cons] at this
    rcases this with h | h
    · rw [h]
      rcases Int.le_total a b with c | c
      · rw [Int.min_eq_left c]; simp
      · rw [Int.min_eq_right c]; simp
    · simp [h]
theorem maxL_le {l : List Int} {R : Int} (h : l ≠ []) : maxL l ≤ R ↔ ∀ x ∈ l, x ≤ R := by
  cases l with
  | nil => exact absurd rfl h
  | cons a l => rw [maxL, fmax_le]; simp
theorem le_minL {l : List Int} {R : Int} (h : l ≠ []) : R ≤ minL l ↔ ∀ x ∈ l, R ≤ x := by
  cases l with
  | nil => exact absurd rfl h
  | cons a l => rw [minL, fmin_le]; simp
theorem maxL_mem {l : List Int} (h : l ≠ []) : maxL l ∈ l := by
  cases l with
  | nil => exact absurd rfl h
  | cons a l => exact fmax_mem
theorem minL_mem {l : List Int} (h : l ≠ []) : minL l ∈ l := by
  cases l with
  | nil => exact absurd rfl h
  | cons a l => exact fmin_mem
theorem le_maxL {l : List Int} {x : Int} (h : x ∈ l) : x ≤ maxL l := (maxL_le (List.ne_nil_of_mem h)).mp (Int.le_refl _) x h
theorem minL_le {l : List Int} {x : Int} (h : x ∈ l) : minL l ≤ x := (le_minL (List.ne_nil_of_mem h)).mp (Int.le_refl _) x h
theorem maxL_congr {l m : List Int} (h : ∀ x, x ∈ l ↔ x ∈ m) : maxL l = maxL m := by
  by_cases hl : l = []
  · subst hl
    have : m = [] := by
      cases m with
      | nil => rfl
      | cons a m => exact absurd ((h a).mpr (by simp)) (by simp)
    rw [this]
  · have a := maxL_mem hl
    have b := le_maxL ((h _).mp a)
    have c := maxL_mem (List.ne_nil_of_mem ((h _).mp a))
    have d := le_maxL ((h _).mpr c)
    omega
theorem minL_congr {l m : List Int} (h : ∀ x, x ∈ l ↔ x ∈ m) : minL l = minL m := by
  by_cases hl : l = []
  · subst hl
    have : m = [] := by
      cases m with
      | nil => rfl
      | cons a m => exact absurd ((h a).mpr (by simp)) (by simp)
    rw [this]
  · have a := minL_mem hl
    have b := minL_le ((h _).mp a)
    have c := minL_mem (List.ne_nil_of_mem ((h _).mp a))
    have d := minL_le ((h _).mpr c)
    omega
/-! ### weeks -/
def endL (l : Int) (w : List Int) : Int := w.foldl (fun a x => max 0 (a + x)) l
theorem lv_len : ∀ (w : List Int) (l : Int), (lvF l w).length = w.length
  | [], _ => rfl
  | x :: w, l => by simp [lvF, lv_len w]
theorem lv_app : ∀ (a b : List Int) (l : Int), lvF l (a ++ b) = lvF l a ++ lvF (endL l a) b
  | [], b, l => rfl
  | x :: a, b, l => by
    show _ :: lvF _ (a ++ b) = _ :: (lvF _ a ++ _)
    rw [lv_app a b]
    rfl
theorem lv_at : ∀ (w : List Int) (l : Int) (k : Nat), k < w.length → (lvF l w).getD k 0 = endL l (w.take (k + 1))
  | [], l, k, h => by simp at h
  | x :: w, l, 0, h => by simp [lvF, endL]
  | x :: w, l, k + 1, h => by
    have := lv_at w (max 0 (l + x)) k (by simpa using h)
    simpa [lvF, endL] using this
theorem lv_nn : ∀ (w : List Int) (l : Int), ∀ y ∈ lvF l w, 0 ≤ y
  | [], l, y, h => by simp [lvF] at h
  | x :: w, l, y, h => by
    rcases List.mem_cons.mp h with rfl | h
    · omega
    · exact lv_nn w _ y h
theorem end_nn : ∀ (w : List Int) (l : Int), 0 ≤ l → 0 ≤ endL l w
  | [], l, h => h
  | x :: w, l, h => end_nn w (max 0 (l + x)) (by omega)
theorem end_app (a b : List Int) (l : Int) : endL l (a ++ b) = endL (endL l a) b := by simp [endL]
theorem end_eq : ∀ (w : List Int) (l : Int), 0 ≤ l → endL l w = max (l + w.sum) (endL 0 w)
  | [], l, h => by simp [endL]; omega
  | x :: w, l, h => by
    have h1 := end_eq w (max 0 (l + x)) (by omega)
    have h2 := end_eq w (max 0 (0 + x)) (by omega)
    have e1 : endL l (x :: w) = endL (max 0 (l + x)) w := rfl
    have e2 : endL 0 (x :: w) = endL (max 0 (0 + x)) w := rfl
    rw [e1, e2, h1, h2, List.sum_cons]
    omega
theorem end_suf {w a b : List Int} (h : w = a ++ b) : b.sum ≤ endL 0 w := by
  subst h
  rw [end_app, end_eq b _ (end_nn a 0 (by omega))]
  have := end_nn a 0 (by omega)
  omega
theorem lv_shift : ∀ (w : List Int) (l s : Int), 0 ≤ s → (∀ a b, w = a ++ b → a ≠ [] → 0 ≤ l + a.sum) → lvF (l + s) w = (lvF l w).map (· + s)
  | [], l, s, _, _ => rfl
  | x :: w, l, s, hs, h => by
    have h1 := h [x] w rfl (by simp)
    simp at h1
    have e : max 0 (l + s + x) = max 0 (l + x) + s := by omega
    have ih := lv_shift w (max 0 (l + x)) s hs (fun a b e ne => by
      have := h (x :: a) b (by rw [e]; rfl) (by simp)
      rw [List.sum_cons] at this
      omega)
    show _ :: _ = _ :: _
    rw [e, ih]
theorem end_mem : ∀ (w : List Int) (l : Int), 0 ≤ l → endL l w = 0 ∨ endL l w = l + w.sum ∨ ∃ a b, w = a ++ b ∧ b ≠ [] ∧ endL l w = b.sum
  | [], l, h => .inr (.inl (by simp [endL]))
  | x :: w, l, h => by
    have e1 : endL l (x :: w) = endL (max 0 (l + x)) w := rfl
    rw [e1, List.sum_cons]
    rcases end_mem w (max 0 (l + x)) (by omega) with h1 | h1 | ⟨a, b, h1, h2, h3⟩
    · exact .inl h1
    · by_cases c : 0 ≤ l + x
      · exact .inr (.inl (by omega))
      · cases w with
        | nil => exact .inl (by rw [h1]; simp; omega)
        | cons y w => exact .inr (.inr ⟨[x], y :: w, rfl, by simp, by rw [h1]; omega⟩)
    · exact .inr (.inr ⟨x :: a, b, by rw [h1]; rfl, h2, h3⟩)
theorem end_mem0 (w : List Int) : endL 0 w = 0 ∨ ∃ a b, w = a ++ b ∧ b ≠ [] ∧ endL 0 w = b.sum := by
  rcases end_mem w 0 (by omega) with h | h | h
  · exact .inl h
  · cases w with
    | nil => exact .inl rfl
    | cons x w => exact .inr ⟨[], x :: w, rfl, by simp, by rw [h]; omega⟩
  · exact .inr h
/-- the greatest sum of last ones -/
theorem tired_at {h : List Int} {at' : Nat} (ha : at' < h.length) : maxL (0 :: (List.range (at' + 1)).map fun b => ((h.take (at' + 1)).drop b).sum) = (lvF 0 h).getD at' 0 := by
  rw [lv_at h 0 at' ha]
  have hl : (h.take (at' + 1)).length = at' + 1 := by rw [List.length_take]; omega
  generalize h.take (at' + 1) = u at hl
  have a : maxL (0 :: (List.range (at' + 1)).map fun b => (u.drop b).sum) ≤ endL 0 u := by
    rw [maxL_le (by simp)]
    intro x hx
    rcases List.mem_cons.mp hx with rfl | hx
    · exact end_nn u 0 (by omega)
    · obtain ⟨b, _, rfl⟩ := List.mem_map.mp hx
      exact end_suf (List.take_append_drop b u).symm
  have b : endL 0 u ≤ maxL (0 :: (List.range (at' + 1)).map fun b => (u.drop b).sum) := by
    rcases end_mem0 u with e | ⟨p, q, e1, e2, e3⟩
    · rw [e]; exact le_maxL (by simp)
    · rw [e3]
      refine le_maxL (List.mem_cons_of_mem _ (List.mem_map.mpr ⟨p.length, List.mem_range.mpr ?_, ?_⟩))
      · have := congrArg List.length e1
        rw [List.length_append, hl] at this
        have : 0 < q.length := List.length_pos_iff.mpr e2
        omega
      · rw [e1]; simp
  omega
def sumsL (w : List Int) : List Int := 0 :: (List.range w.length).flatMap fun b => (List.range (w.length - b)).map fun i => ((w.take (b + 1 + i)).drop b).sum
theorem worst_eq {w : List Int} (h : w ≠ []) : maxL (sumsL w) = worstL w := by
  have hn : lvF 0 w ≠ [] := fun z => by
    have := congrArg List.length z
    rw [lv_len] at this
    exact h (List.length_eq_zero_iff.mp (by simpa using this))
  have a : maxL (sumsL w) ≤ worstL w := by
    rw [maxL_le (by simp [sumsL])]
    intro x hx
    rcases List.mem_cons.mp hx with rfl | hx
    · exact lv_nn w 0 _ (maxL_mem hn)
    · obtain ⟨b, hb, hx⟩ := List.mem_flatMap.mp hx
      obtain ⟨i, hi, rfl⟩ := List.mem_map.mp hx
      rw [List.mem_range] at hb hi
      have h1 : ((w.take (b + 1 + i)).drop b).sum ≤ endL 0 (w.take (b + 1 + i)) := end_suf (List.take_append_drop b _).symm
      have h2 := lv_at w 0 (b + i) (by omega)
      rw [show b + i + 1 = b + 1 + i by omega] at h2
      rw [← h2] at h1
      refine Int.le_trans h1 (le_maxL ?_)
      have hl : b + i < (lvF 0 w).length := by rw [lv_len]; omega
      rw [List.getD_eq_getElem?_getD, List.getElem?_eq_getElem hl]
      exact List.getElem_mem hl
  have b : worstL w ≤ maxL (sumsL w) := by
    rw [worstL, maxL_le hn]
    intro x hx
    obtain ⟨k, hk, rfl⟩ := List.mem_iff_getElem.mp hx
    have hk' := hk
    rw [lv_len] at hk'
    have h2 := lv_at w 0 k hk'
    rw [List.getD_eq_getElem?_getD, List.getElem?_eq_getElem hk] at h2
    have h2 : (lvF 0 w)[k] = endL 0 (w.take (k + 1)) := h2
    rw [h2]
    rcases end_mem0 (w.take (k + 1)) with e | ⟨p, q, e1, e2, e3⟩
    · rw [e]; exact le_maxL (by simp [sumsL])
    · rw [e3]
      have hl := congrArg List.length e1
      rw [List.length_append, List.length_take, show min (k + 1) w.length = k + 1 by omega] at hl
      have hq : 0 < q.length := List.length_pos_iff.mpr e2
      refine le_maxL (List.mem_cons_of_mem _ (List.mem_flatMap.mpr ⟨p.length, List.mem_range.mpr (by omega), List.mem_map.mpr ⟨k - p.length, List.mem_range.mpr (by omega), ?_⟩⟩))
      rw [show p.length + 1 + (k - p.length) = k + 1 by omega, e1]
      simp
  omega
/-- four weeks -/
theorem four_lo {w : List Int} (hs : w.sum ≤ 0) : endL (endL 0 w) w = endL 0 w := by
  rw [end_eq w _ (end_nn w 0 (by omega))]
  omega
theorem four_hi {w : List Int} (hs : 0 < w.sum) : endL (endL 0 w) w = endL 0 w + w.sum := by
  rw [end_eq w _ (end_nn w 0 (by omega))]
  omega
theorem lv_hi {w : List Int} (hs : 0 < w.sum) (s : Int) (h0 : 0 ≤ s) : lvF (endL 0 w + s) w = (lvF (endL 0 w) w).map (· + s) :=
  lv_shift w _ s h0 fun a b e ne => by
    have h1 := end_suf e
    have h2 : w.sum = a.sum + b.sum := by rw [e, List.sum_append]
    omega
theorem last_end {w : List Int} (h : w ≠ []) : lastL w = endL 0 w := by
  have hl : 0 < w.length := List.length_pos_iff.mpr h
  rw [lastL, lv_at w 0 _ (by omega), show w.length - 1 + 1 = w.length by omega, List.take_length]
theorem due_lo {w : List Int} (hs : w.sum ≤ 0) : lvF 0 (w ++ (w ++ (w ++ w))) = lvF 0 w ++ (lvF (endL 0 w) w ++ (lvF (endL 0 w) w ++ lvF (endL 0 w) w)) := by
  rw [lv_app, lv_app, lv_app, four_lo hs, four_lo hs]
theorem due_hi {w : List Int} (hs : 0 < w.sum) : lvF 0 (w ++ (w ++ (w ++ w))) = lvF 0 w ++ (lvF (endL 0 w) w ++ ((lvF (endL 0 w) w).map (· + w.sum) ++ (lvF (endL 0 w) w).map (· + (w.sum + w.sum)))) := by
  rw [lv_app, lv_app, lv_app, four_hi hs, lv_hi hs _ (by omega)]
  have e : endL (endL 0 w + w.sum) w = endL 0 w + (w.sum + w.sum) := by
    rw [end_eq w _ (by have := end_nn w 0 (by omega); omega)]
    have := end_eq w 0 (by omega)
    omega
  rw [e, lv_hi hs _ (by omega)]
/-! ### calls -/
theorem jobs_app (x : Nat) (P R : Gv) : jobs x (P ++ R) = jobs x P ++ jobs x R := by simp [jobs]
theorem jobs_cons (x : Nat) (q : Int × Nat) (P : Gv) : jobs x (q :: P) = if q.2 = x then q.1 :: jobs x P else jobs x P := by
  unfold jobs
  rw [List.filter_cons]
  by_cases c : q.2 = x
  · simp [c]
  · simp [c]
theorem tm_len (k : Nat) (P : Gv) : (tmP k P).length = k := by simp [tmP]
theorem tm_ne {k : Nat} (hk : 1 ≤ k) (P : Gv) : tmP k P ≠ [] := fun z => by
  have := congrArg List.length z
  rw [tm_len] at this
  simp at this
  omega
theorem tm_at {k x : Nat} {P : Gv} (h : x < k) : (tmP k P).getD x 0 = (jobs x P).sum := by simp [tmP, h]
theorem tm_mem {k : Nat} {P : Gv} {v : Int} : v ∈ tmP k P ↔ ∃ x, x < k ∧ (jobs x P).sum = v := by simp [tmP]
theorem tm_snoc {k i : Nat} {P : Gv} {c : Int} (hi : i < k) : tmP k (P ++ [(c, i)]) = (tmP k P).set i ((tmP k P).getD i 0 + c) := by
  apply List.ext_getElem
  · simp [tm_len]
  · intro j h1 h2
    have hj : j < k := by simpa [tm_len] using h1
    rw [List.getElem_set]
    have e : (tmP k (P ++ [(c, i)]))[j] = (jobs j (P ++ [(c, i)])).sum := by simp [tmP]
    rw [e, jobs_app, List.sum_append, jobs_cons]
    by_cases hij : i = j
    · subst hij
      rw [if_pos rfl, if_pos rfl, tm_at hi]
      simp [jobs]
    · simp [hij, tmP, jobs]
theorem sum_one (i : Nat) (v : Int) (g : Nat → Int) : ∀ k : Nat, ((List.range k).map fun x => (if i = x then v else 0) + g x).sum = (if i < k then v else 0) + ((List.range k).map g).sum
  | 0 => by simp
  | k + 1 => by
    rw [List.range_succ, List.map_append, List.map_append, List.sum_append, List.sum_append, sum_one i v g k]
    simp only [List.map_cons, List.map_nil, List.sum_cons, List.sum_nil]
    by_cases h1 : i = k
    · rw [if_pos h1, if_neg (by omega), if_pos (by omega)]; omega
    · rw [if_neg h1]
      by_cases h2 : i < k
      · rw [if_pos h2, if_pos (by omega)]; omega
      · rw [if_neg h2, if_neg (by omega)]; omega
theorem wsum {k : Nat} (f : Int → Int) : ∀ {P : Gv}, (∀ q ∈ P, q.2 < k) → ((List.range k).map fun x => ((jobs x P).map f).sum).sum = (P.map fun q => f q.1).sum
  | [], _ => by
    have : ∀ n : Nat, ((List.range n).map fun x => (((jobs x []).map f).sum : Int)).sum = 0 := fun n => by
      induction n with
      | zero => rfl
      | succ n ih => rw [List.range_succ, List.map_append, List.sum_append, ih]; simp [jobs]
    rw [this]; rfl
  | q :: P, h => by
    have ih := wsum f (P := P) fun p hp => h p (by simp [hp])
    have e : (fun x => ((jobs x (q :: P)).map f).sum) = fun x => (if q.2 = x then f q.1 else 0) + ((jobs x P).map f).sum := by
      funext x
      rw [jobs_cons]
      split <;> simp
    rw [e, sum_one, if_pos (h q (by simp)), ih]
    simp
theorem sum_le_max {l : List Int} {B : Int} (h : ∀ x ∈ l, x ≤ B) : l.sum ≤ l.length * B := by
  induction l with
  | nil => simp
  | cons a l ih =>
    have h1 := h a (by simp)
    have h2 := ih fun x hx => h x (by simp [hx])
    rw [List.sum_cons, List.length_cons, Int.natCast_add, Int.add_mul]
    simp
    omega
theorem min_le_sum {l : List Int} {B : Int} (h : ∀ x ∈ l, B ≤ x) : l.length * B ≤ l.sum := by
  induction l with
  | nil => simp
  | cons a l ih =>
    have h1 := h a (by simp)
    have h2 := ih fun x hx => h x (by simp [hx])
    rw [List.sum_cons, List.length_cons, Int.natCast_add, Int.add_mul]
    simp
    omega
theorem sum_sub_le : ∀ {l : List Int}, (∀ x ∈ l, 0 ≤ x) → ∀ {x : Int}, x ∈ l → x ≤ l.sum
  | [], _, x, h => by simp at h
  | a :: l, h0, x, h => by
    have h1 := h0 a (by simp)
    have h2 : 0 ≤ l.sum := by
      have := min_le_sum (l := l) (B := 0) fun y hy => h0 y (by simp [hy])
      simpa using this
    rw [List.sum_cons]
    rcases List.mem_cons.mp h with rfl | h
    · omega
    · have := sum_sub_le (l := l) (fun y hy => h0 y (by simp [hy])) h
      omega
/-- a way to give the calls c -/
structure Way (k : Nat) (c : List Int) (P : Gv) : Prop where
  fst : P.map (·.1) = c
  lt : ∀ q ∈ P, q.2 < k
theorem mem_jobs {x : Nat} {P : Gv} {v : Int} : v ∈ jobs x P ↔ (v, x) ∈ P := by
  unfold jobs
  rw [List.mem_map]
  constructor
  · rintro ⟨q, hq, rfl⟩
    rw [List.mem_filter] at hq
    have : q.2 = x := by simpa using hq.2
    rw [← this]
    exact hq.1
  · intro h
    exact ⟨(v, x), List.mem_filter.mpr ⟨h, by simp⟩, rfl⟩
theorem tm_sum {k : Nat} {c : List Int} {P : Gv} (W : Way k c P) : (tmP k P).sum = c.sum := by
  have := wsum (k := k) (fun x => x) W.lt
  rw [← W.fst]
  simp only [List.map_id'] at this
  exact this
theorem way_snoc {k i : Nat} {c : List Int} {P : Gv} {x : Int} (W : Way k c P) (hi : i < k) : Way k (c ++ [x]) (P ++ [(x, i)]) :=
  ⟨by simp [W.fst], fun q hq => by
    rcases List.mem_append.mp hq with hq | hq
    · exact W.lt q hq
    · simp at hq; subst hq; exact hi⟩
theorem allP_snoc (k : Nat) (c : List Int) (x : Int) : allP k (c ++ [x]) = (allP k c).flatMap fun P => (List.range k).map fun i => P ++ [(x, i)] := by simp [allP]
theorem grP_snoc (k : Nat) (c : List Int) (x : Int) : grP k (c ++ [x]) = grP k c ++ [(x, argM (tmP k (grP k c)))] := by simp [grP]
theorem snoc_ind {p : List Int → Prop} (h0 : p []) (hs : ∀ l x, p l → p (l ++ [x])) (l : List Int) : p l := by
  have : ∀ m : List Int, p m.reverse := fun m => by
    induction m with
    | nil => exact h0
    | cons a m ih => rw [List.reverse_cons]; exact hs _ _ ih
  have := this l.reverse
  rwa [List.reverse_reverse] at this
theorem mem_allP {k : Nat} (c : List Int) : ∀ P, P ∈ allP k c ↔ Way k c P := by
  refine snoc_ind (p := fun c => ∀ P, P ∈ allP k c ↔ Way k c P) ?_ ?_ c
  · intro P
    simp only [allP, List.foldl_nil, List.mem_singleton]
    constructor
    · rintro rfl
      exact ⟨rfl, by simp⟩
    · intro W
      exact List.map_eq_nil_iff.mp W.fst
  · intro c x ih P
    rw [allP_snoc, List.mem_flatMap]
    constructor
    · rintro ⟨R, hR, hP⟩
      obtain ⟨i, hi, rfl⟩ := List.mem_map.mp hP
      exact way_snoc ((ih R).mp hR) (List.mem_range.mp hi)
    · intro W
      have hf := W.fst
      rcases List.eq_nil_or_concat P with rfl | ⟨R, q, rfl⟩
      · simp at hf
      · rw [List.concat_eq_append, List.map_append] at hf
        have h1 := List.append_inj' hf (by simp)
        simp at h1
        refine ⟨R, (ih R).mpr ⟨h1.1, fun q hq => W.lt q (by simp [hq])⟩, List.mem_map.mpr ⟨q.2, List.mem_range.mpr (W.lt q (by simp)), ?_⟩⟩
        rw [← h1.2]
        simp
theorem arg_lt {t : List Int} (h : t ≠ []) : argM t < t.length := List.idxOf_lt_length_of_mem (minL_mem h)
theorem arg_at {t : List Int} (h : t ≠ []) : t.getD (argM t) 0 = minL t := by
  have := arg_lt h
  rw [List.getD_eq_getElem?_getD, List.getElem?_eq_getElem this]
  exact List.getElem_idxOf this
theorem gr_way {k : Nat} (hk : 1 ≤ k) (c : List Int) : Way k c (grP k c) := by
  refine snoc_ind (p := fun c => Way k c (grP k c)) ⟨rfl, by simp [grP]⟩ (fun c x ih => ?_) c
  rw [grP_snoc]
  refine way_snoc ih ?_
  have := arg_lt (tm_ne hk (grP k c))
  rwa [tm_len] at this
theorem gr_tm {k : Nat} (hk : 1 ≤ k) (c : List Int) (x : Int) : tmP k (grP k (c ++ [x])) = (tmP k (grP k c)).set (argM (tmP k (grP k c))) (minL (tmP k (grP k c)) + x) := by
  rw [grP_snoc, tm_snoc, arg_at (tm_ne hk _)]
  have := arg_lt (tm_ne hk (grP k c))
  rwa [tm_len] at this
theorem mem_set_iff {t : List Int} {i : Nat} {v y : Int} (h : y ∈ t.set i v) : y ∈ t ∨ y = v := List.mem_or_eq_of_mem_set h
theorem set_max {t : List Int} (h : t ≠ []) {x : Int} (hx : 0 ≤ x) : maxL (t.set (argM t) (minL t + x)) = max (maxL t) (minL t + x) := by
  have hne : t.set (argM t) (minL t + x) ≠ [] := by simpa using h
  have hl := arg_lt h
  have hv : minL t + x ∈ t.set (argM t) (minL t + x) := List.mem_set hl _
  have a : maxL (t.set (argM t) (minL t + x)) ≤ max (maxL t) (minL t + x) := by
    rw [maxL_le hne]
    intro y hy
    rcases mem_set_iff hy with hy | rfl
    · have := le_maxL hy; omega
    · omega
  have b : maxL t ≤ maxL (t.set (argM t) (minL t + x)) := by
    rw [maxL_le h]
    intro y hy
    obtain ⟨j, hj, rfl⟩ := List.mem_iff_getElem.mp hy
    by_cases c : argM t = j
    · have e := arg_at h
      subst c
      rw [List.getD_eq_getElem?_getD, List.getElem?_eq_getElem hj] at e
      have e : t[argM t] = minL t := e
      have := le_maxL hv
      omega
    · refine le_maxL (List.mem_iff_getElem.mpr ⟨j, by simpa using hj, ?_⟩)
      rw [List.getElem_set_ne c]
  have := le_maxL hv
  omega
theorem set_min {t : List Int} (h : t ≠ []) {x : Int} (hx : 0 ≤ x) : minL t ≤ minL (t.set (argM t) (minL t + x)) := by
  have hne : t.set (argM t) (minL t + x) ≠ [] := by simpa using h
  rw [le_minL hne]
  intro y hy
  rcases mem_set_iff hy with hy | rfl
  · exact minL_le hy
  · omega
theorem tm0_mem {k : Nat} {v : Int} (h : v ∈ tmP k []) : v = 0 := by
  obtain ⟨x, _, e⟩ := tm_mem.mp h
  rw [← e]; rfl
theorem gr_even {k : Nat} (hk : 1 ≤ k) {c : List Int} (hc : ∀ x ∈ c, 0 ≤ x) : maxL (tmP k (grP k c)) - minL (tmP k (grP k c)) ≤ maxL (0 :: c) := by
  revert hc
  refine snoc_ind (p := fun c => (∀ x ∈ c, 0 ≤ x) → maxL (tmP k (grP k c)) - minL (tmP k (grP k c)) ≤ maxL (0 :: c)) ?_ ?_ c
  · intro _
    have hn := tm_ne hk (grP k [])
    have h1 := tm0_mem (maxL_mem hn)
    have h2 := tm0_mem (minL_mem hn)
    have e0 : grP k [] = [] := rfl
    rw [e0, h1, h2]
    decide
  · intro c x ih hc
    have hn := tm_ne hk (grP k c)
    have hx := hc x (by simp)
    have ih := ih fun y hy => hc y (by simp [hy])
    rw [gr_tm hk, set_max hn hx]
    have h1 := set_min hn hx
    have h2 : x ≤ maxL (0 :: (c ++ [x])) := le_maxL (by simp)
    have h3 : maxL (0 :: c) ≤ maxL (0 :: (c ++ [x])) := by
      rw [maxL_le (by simp)]
      intro y hy
      refine le_maxL ?_
      simp at hy ⊢
      rcases hy with h | h
      · exact .inl h
      · exact .inr (.inl h)
    omega
theorem gr_max {k : Nat} (hk : 1 ≤ k) {c : List Int} (hc : ∀ x ∈ c, 0 ≤ x) : (maxL (tmP k (grP k c)) = 0 ∧ True) ∨ ∃ a x b, c = a ++ x :: b ∧ maxL (tmP k (grP k c)) = minL (tmP k (grP k a)) + x := by
  revert hc
  refine snoc_ind (p := fun c => (∀ x ∈ c, 0 ≤ x) → (maxL (tmP k (grP k c)) = 0 ∧ True) ∨ ∃ a x b, c = a ++ x :: b ∧ maxL (tmP k (grP k c)) = minL (tmP k (grP k a)) + x) ?_ ?_ c
  · intro _
    exact .inl ⟨tm0_mem (maxL_mem (tm_ne hk (grP k []))), trivial⟩
  · intro c x ih hc
    have hn := tm_ne hk (grP k c)
    have hx := hc x (by simp)
    have ih := ih fun y hy => hc y (by simp [hy])
    rw [gr_tm hk, set_max hn hx]
    by_cases h : maxL (tmP k (grP k c)) ≤ minL (tmP k (grP k c)) + x
    · exact .inr ⟨c, x, [], rfl, by omega⟩
    · rw [Int.max_eq_left (by omega)]
      rcases ih with ih | ⟨a, y, b, e, ih⟩
      · exact .inl ih
      · exact .inr ⟨a, y, b ++ [x], by rw [e]; simp, ih⟩
/-- a way's greatest time bounds the sum and each call -/
theorem way_bound {k : Nat} {c : List Int} {P : Gv} (W : Way k c P) (hc : ∀ x ∈ c, 0 ≤ x) : c.sum ≤ k * maxL (tmP k P) ∧ ∀ x ∈ c, x ≤ maxL (tmP k P) := by
  constructor
  · have := sum_le_max (l := tmP k P) (B := maxL (tmP k P)) fun x hx => le_maxL hx
    rwa [tm_sum W, tm_len] at this
  · intro x hx
    rw [← W.fst] at hx
    obtain ⟨q, hq, rfl⟩ := List.mem_map.mp hx
    have h1 : q.1 ≤ (jobs q.2 P).sum := sum_sub_le (fun y hy => hc y (by
      rw [← W.fst]
      exact List.mem_map.mpr ⟨_, mem_jobs.mp hy, rfl⟩)) (mem_jobs.mpr hq)
    exact Int.le_trans h1 (le_maxL (tm_mem.mpr ⟨q.2, W.lt q hq, rfl⟩))
theorem gr_sum {k : Nat} (hk : 1 ≤ k) (a : List Int) : k * minL (tmP k (grP k a)) ≤ a.sum := by
  have := min_le_sum (l := tmP k (grP k a)) (B := minL (tmP k (grP k a))) fun x hx => minL_le hx
  rwa [tm_sum (gr_way hk a), tm_len] at this
theorem nn_sum {l : List Int} (h : ∀ x ∈ l, 0 ≤ x) : 0 ≤ l.sum := by
  have := min_le_sum (l := l) (B := 0) h
  simpa using this
theorem graham {k : Nat} (hk : 1 ≤ k ∧ k ≤ 3) {c : List Int} {P : Gv} (W : Way k c P) (hc : ∀ x ∈ c, 0 ≤ x) : maxL (tmP k (grP k c)) * k ≤ maxL (tmP k P) * (2 * k - 1) := by
  obtain ⟨h1, h2⟩ := way_bound W hc
  have hB : 0 ≤ maxL (tmP k P) := by
    have := nn_sum hc
    have h3 : (k : Int) = 1 ∨ (k : Int) = 2 ∨ (k : Int) = 3 := by omega
    rcases h3 with h3 | h3 | h3 <;> rw [h3] at h1 <;> omega
  rcases gr_max hk.1 hc with ⟨h, _⟩ | ⟨a, x, b, e, h⟩
  · rw [h]
    have h3 : (k : Int) = 1 ∨ (k : Int) = 2 ∨ (k : Int) = 3 := by omega
    rcases h3 with h3 | h3 | h3 <;> rw [h3] <;> omega
  · have h4 := gr_sum hk.1 a
    have h5 := h2 x (by rw [e]; simp)
    have h6 : c.sum = a.sum + (x + b.sum) := by rw [e]; simp
    have h7 := nn_sum (l := b) fun y hy => hc y (by rw [e]; simp [hy])
    rw [h]
    generalize maxL (tmP k P) = B at *
    generalize minL (tmP k (grP k a)) = m at *
    have h3 : (k : Int) = 1 ∨ (k : Int) = 2 ∨ (k : Int) = 3 := by omega
    rcases h3 with h3 | h3 | h3 <;> rw [h3] at h1 h4 ⊢ <;> omega
/-! the bound for descending calls -/
def wtB (B p z : Int) : Int := if B - p < z then 2 else 1
theorem wt_hi {B p : Int} (hp : B < 3 * p) (h0 : 0 < p) : ∀ {J : List Int}, (∀ z ∈ J, p ≤ z) → J.sum ≤ B → (J.map (wtB B p)).sum ≤ 2
  | [], _, _ => by simp
  | [a], _, _ => by simp [wtB]; split <;> omega
  | [a, b], h, hs => by
    have h1 := h a (by simp)
    have h2 := h b (by simp)
    simp at hs
    simp [wtB]
    rw [if_neg (by omega), if_neg (by omega)]
    omega
  | a :: b :: c :: J, h, hs => by
    have h1 := h a (by simp)
    have h2 := h b (by simp)
    have h3 := h c (by simp)
    have h4 := nn_sum (l := J) fun z hz => by
      have := h z (by simp [hz])
      omega
    simp at hs
    omega
theorem wt_ge {B p : Int} : ∀ J : List Int, (J.length : Int) ≤ (J.map (wtB B p)).sum
  | [] => by simp
  | a :: J => by
    have := wt_ge (B := B) (p := p) J
    simp [wtB] at this ⊢
    split <;> omega
theorem wt_lo {B p : Int} (h0 : p ≤ B) : ∀ {J : List Int}, B - p < J.sum → 2 ≤ (J.map (wtB B p)).sum
  | [], h => by simp at h; omega
  | [a], h => by
    simp at h
    simp [wtB]
    rw [if_pos (by omega)]
    omega
  | a :: b :: J, h => by
    have := wt_ge (B := B) (p := p) (a :: b :: J)
    simp at this ⊢
    omega
theorem lpt {k : Nat} (hk : 1 ≤ k ∧ k ≤ 3) {c : List Int} {P : Gv} (W : Way k c P) (hc : ∀ x ∈ c, 1 ≤ x) (hd : c.Pairwise (· ≥ ·)) : 3 * maxL (tmP k (grP k c)) * k ≤ maxL (tmP k P) * (4 * k - 1) := by
  have hc0 : ∀ x ∈ c, 0 ≤ x := fun x hx => by have := hc x hx; omega
  obtain ⟨h1, h2⟩ := way_bound W hc0
  have h3 : (k : Int) = 1 ∨ (k : Int) = 2 ∨ (k : Int) = 3 := by omega
  have hB : 0 ≤ maxL (tmP k P) := by
    have := nn_sum hc0
    rcases h3 with h3 | h3 | h3 <;> rw [h3] at h1 <;> omega
  rcases gr_max hk.1 hc0 with ⟨h, _⟩ | ⟨a, x, b, e, h⟩
  · rw [h]
    rcases h3 with h3 | h3 | h3 <;> rw [h3] <;> omega
  · have h4 := gr_sum hk.1 a
    have h5 := h2 x (by rw [e]; simp)
    have hx1 := hc x (by rw [e]; simp)
    have h6 : c.sum = a.sum + (x + b.sum) := by rw [e]; simp
    have h7 := nn_sum (l := b) fun y hy => hc0 y (by rw [e]; simp [hy])
    by_cases h8 : 3 * x ≤ maxL (tmP k P)
    · rw [h]
      generalize maxL (tmP k P) = B at *
      generalize minL (tmP k (grP k a)) = m at *
      rcases h3 with h3 | h3 | h3 <;> rw [h3] at h1 h4 ⊢ <;> omega
    · have hle : maxL (tmP k (grP k c)) ≤ maxL (tmP k P) := by
        apply Classical.byContradiction
        intro hcon
        have hm : maxL (tmP k P) - x < minL (tmP k (grP k a)) := by omega
        -- the greedy ones ahead of x
        have g1 := wsum (k := k) (wtB (maxL (tmP k P)) x) (gr_way hk.1 a).lt
        have g2 : ((grP k a).map fun q => wtB (maxL (tmP k P)) x q.1) = a.map (wtB (maxL (tmP k P)) x) := by
          conv => rhs; rw [← (gr_way hk.1 a).fst]
          rw [List.map_map]; rfl
        rw [g2] at g1
        have g3 := min_le_sum (l := (List.range k).map fun y => ((jobs y (grP k a)).map (wtB (maxL (tmP k P)) x)).sum) (B := 2) fun v hv => by
          obtain ⟨y, hy, rfl⟩ := List.mem_map.mp hv
          refine wt_lo h5 ?_
          have := minL_le (tm_mem.mpr ⟨y, List.mem_range.mp hy, rfl⟩ : (jobs y (grP k a)).sum ∈ tmP k (grP k a))
          omega
        rw [g1, List.length_map, List.length_range] at g3
        -- the way's
        have hfst := W.fst
        have hT : (P.take (a.length + 1)).map (·.1) = a ++ [x] := by
          rw [List.map_take, hfst, e]
          rw [show a ++ x :: b = (a ++ [x]) ++ b by simp]
          rw [List.take_append_of_le_length (by simp), List.take_of_length_le (by simp)]
        have hlt : ∀ q ∈ P.take (a.length + 1), q.2 < k := fun q hq => W.lt q (List.mem_of_mem_take hq)
        have o1 := wsum (k := k) (wtB (maxL (tmP k P)) x) hlt
        have o2 : ((P.take (a.length + 1)).map fun q => wtB (maxL (tmP k P)) x q.1) = (a ++ [x]).map (wtB (maxL (tmP k P)) x) := by
          rw [← hT, List.map_map]; rfl
        rw [o2] at o1
        have hge : ∀ z ∈ a ++ [x], x ≤ z := fun z hz => by
          rcases List.mem_append.mp hz with hz | hz
          · rw [e] at hd
            have := (List.pairwise_append.mp hd).2.2 z hz x (by simp)
            omega
          · simp at hz; omega
        have o3 := sum_le_max (l := (List.range k).map fun y => ((jobs y (P.take (a.length + 1))).map (wtB (maxL (tmP k P)) x)).sum) (B := 2) fun v hv => by
          obtain ⟨y, hy, rfl⟩ := List.mem_map.mp hv
          refine wt_hi (by omega) (by omega) (fun z hz => hge z ?_) ?_
          · rw [← hT]
            exact List.mem_map.mpr ⟨_, mem_jobs.mp hz, rfl⟩
          · have s1 : (jobs y P).sum = (jobs y (P.take (a.length + 1))).sum + (jobs y (P.drop (a.length + 1))).sum := by
              rw [← List.sum_append, ← jobs_app, List.take_append_drop]
            have s2 : 0 ≤ (jobs y (P.drop (a.length + 1))).sum := nn_sum fun z hz => hc0 z (by
              rw [← hfst]
              exact List.mem_map.mpr ⟨_, List.mem_of_mem_drop (mem_jobs.mp hz), rfl⟩)
            have s3 := le_maxL (tm_mem.mpr ⟨y, List.mem_range.mp hy, rfl⟩ : (jobs y P).sum ∈ tmP k P)
            omega
        rw [o1, List.length_map, List.length_range, List.map_append, List.sum_append] at o3
        have w1 : 1 ≤ ((([x] : List Int)).map (wtB (maxL (tmP k P)) x)).sum := by
          have := wt_ge (B := maxL (tmP k P)) (p := x) [x]
          simpa using this
        omega
      generalize maxL (tmP k P) = B at *
      generalize maxL (tmP k (grP k c)) = G at *
      rcases h3 with h3 | h3 | h3 <;> rw [h3] <;> omega
/-! ways of calls in another order -/
theorem perm_way {k : Nat} {c c' : List Int} (p : c'.Perm c) : ∀ {P : Gv}, P.map (·.1) = c → ∃ P' : Gv, P'.Perm P ∧ P'.map (·.1) = c' := by
  induction p with
  | nil => intro P h; exact ⟨P, .refl _, h⟩
  | @cons x l l' p ih =>
    intro P h
    cases P with
    | nil => simp at h
    | cons q P =>
      simp at h
      obtain ⟨P', h1, h2⟩ := ih h.2
      exact ⟨q :: P', h1.cons q, by simp [h.1, h2]⟩
  | swap x y l =>
    intro P h
    cases P with
    | nil => simp at h
    | cons q P =>
      cases P with
      | nil => simp at h
      | cons r P =>
        simp at h
        exact ⟨r :: q :: P, .swap _ _ _, by simp [h.1, h.2.1, h.2.2]⟩
  | trans p1 p2 ih1 ih2 =>
    intro P h
    obtain ⟨P1, h1, h2⟩ := ih2 h
    obtain ⟨P2, h3, h4⟩ := ih1 h2
    exact ⟨P2, h3.trans h1, h4⟩
theorem sum_perm {l m : List Int} (p : l.Perm m) : l.sum = m.sum := by
  induction p with
  | nil => rfl
  | cons x _ ih => simp [ih]
  | swap x y l => simp; omega
  | trans _ _ h1 h2 => exact h1.trans h2
theorem tm_perm {k : Nat} {P R : Gv} (p : P.Perm R) : tmP k P = tmP k R := by
  unfold tmP
  refine List.map_congr_left fun x _ => ?_
  exact sum_perm ((p.filter _).map _)
theorem way_perm {k : Nat} {c c' : List Int} (p : c'.Perm c) {P : Gv} (W : Way k c P) : ∃ P', Way k c' P' ∧ tmP k P' = tmP k P := by
  obtain ⟨P', h1, h2⟩ := perm_way (k := k) p W.fst
  exact ⟨P', ⟨h2, fun q hq => W.lt q (h1.mem_iff.mp hq)⟩, tm_perm h1⟩
theorem all_ne {k : Nat} (hk : 1 ≤ k) (c : List Int) : allP k c ≠ [] := List.ne_nil_of_mem ((mem_allP c _).mpr (gr_way hk c))
theorem long_way {k : Nat} (hk : 1 ≤ k) (c : List Int) : ∃ P, Way k c P ∧ longL k c = maxL (tmP k P) := by
  have h := minL_mem (l := (allP k c).map fun P => maxL (tmP k P)) (by simpa using all_ne hk c)
  obtain ⟨P, hP, e⟩ := List.mem_map.mp h
  exact ⟨P, (mem_allP c P).mp hP, e.symm⟩
end Lw
set_option Elab.async false
set_option linter.all false
set_option maxRecDepth 100000
set_option maxHeartbeats 1000000
namespace Lw
open PySem PySem.Spec PyProof.Rows L2 VL
def top (i : Nat) : Stmt := PySem.Challenge.pw_bucketsheld_k33_whole_tiredness_and_call.main.body.getD i (.Pass ⟨0, 0, 0, 0⟩)
abbrev s_is_number : Stmt := top 8
abbrev s_is_week : Stmt := top 12
abbrev s_levels_from : Stmt := top 13
abbrev s_levels : Stmt := top 14
abbrev s_steady_levels : Stmt := top 15
abbrev s_worst_level : Stmt := top 16
abbrev s_are_calls : Stmt := top 20
abbrev s_times_of : Stmt := top 21
abbrev s_by_turns : Stmt := top 22
abbrev s_best_longest : Stmt := top 23
abbrev s__law_draws : Stmt := top 25
abbrev s__law_take : Stmt := top 26
abbrev s__law_says : Stmt := top 27
abbrev s__law_alike : Stmt := top 28
abbrev s__law_word : Stmt := top 29
abbrev s__law_told : Stmt := top 30
abbrev s__law_tired : Stmt := top 31
abbrev s__law_weeks : Stmt := top 32
abbrev s__law_longest : Stmt := top 33
abbrev s_law : Stmt := top 34
structure Blt (K : PySem.W.Frag) (mg : Str → Option Value) : Prop where
  b_abs : mg "abs" = none
  b_all : mg "all" = none
  b_bool : mg "bool" = none
  b_int : mg "int" = none
  b_isinstance : mg "isinstance" = none
  b_len : mg "len" = none
  b_list : mg "list" = none
  b_max : mg "max" = none
  b_min : mg "min" = none
  b_range : mg "range" = none
  b_reversed : mg "reversed" = none
  b_sorted : mg "sorted" = none
  b_str : mg "str" = none
  b_sum : mg "sum" = none
  b_tuple : mg "tuple" = none
  b_zip : mg "zip" = none
  e_Refused : ErrC K mg "Refused"
  is_f : IsF K mg fiveP sixC isub
  x_FireError : ExcF K mg fiveP "FireError"
  c_MOST_CALLS : ∃ u, mg "MOST_CALLS" = some u ∧ RelV (.int 8) u
  c_MOST_CHANGE : ∃ u, mg "MOST_CHANGE" = some u ∧ RelV (.int 50) u
  c_MOST_HOURS : ∃ u, mg "MOST_HOURS" = some u ∧ RelV (.int 40) u
  c_MOST_MINUTES : ∃ u, mg "MOST_MINUTES" = some u ∧ RelV (.int 60) u
section
variable {τ : Tau} {P : Program} {w : World} {K : PySem.W.Frag} {mg : Str → Option Value} {base : Heap}
theorem sc_is_number : FnScope ["value", "least", "most"] ["value", "least", "most"] (defScope s_is_number) := ⟨rfl, rfl, rfl, by decide +kernel, rfl, by decide +kernel, by decide +kernel⟩
theorem ok_is_number {f c : Addr} {fd : FuncData} (F : FunT K "is_number" s_is_number f fd c) (M : Blt K mg) : FnOk P w K mg base CX0 1 f fd ["value", "least", "most"] (spW τ K mg 3 (fwOf 3 w_isnum)) :=
  fnT (bw := w_isnum) F sc_is_number fun R A outer s H E Ew hr => (css_one (cs_ret (cf_ce (ce_and (ce_isi isi_int (by rfl) M.b_isinstance (by rfl) M.b_int boot_int (co_bor (pv 0))) (ce_and (ce_not (co (ce_isi isi_bool (by rfl) M.b_isinstance (by rfl) M.b_bool boot_bool (co_bor (pv 0))))) (ce_one (ce_chain op_le ow_le op_le ow_le (co_bor (pv 1)) (co_bor (pv 0)) (co_bor (pv 2)))))))))
theorem sc_is_week : FnScope ["value", "one"] ["value"] (defScope s_is_week) := ⟨rfl, rfl, rfl, by decide +kernel, rfl, by decide +kernel, by decide +kernel⟩
def w_is_week : (Str → Prop) → WS := fun _ => (wSeq (wIfS (wOrT (wNotT (wTru (wO (wIsi "tuple" (wB 0))))) (wNotT (wTst (wChain gLe gLe (wO (wC (.int 1))) (wO (wCallB gLen (wOcons (wB 0) wOnil))) (wO (wC (.int 40))))))) (wRet (wFz (wC (.bool false)))) wNext)
  (wRet (wFz (wQu true (wiSeq (wVar 0)) (wgName 1) wYes (wVal (wCall 3 isnumW (wAsFz (wVar 1) (wAsFz (wNeg (wO (wC (.int 50)))) (wAsFz (wC (.int 50)) wAsNil))))) [1]))))
def fw_is_week : FW := fwOf 2 w_is_week
theorem ok_is_week {f c : Addr} {fd : FuncData} (F : FunT K "is_week" s_is_week f fd c) {Pt : Addr} (TB : GxR.TabB base mg c Pt) (hP : Pt ∈ τ) (C_is_number : Cal τ P w K mg base 1 "is_number" ["value", "least", "most"] isnumW) (M : Blt K mg) : FnOk P w K mg base CX0 3 f fd ["value"] (spW τ K mg 1 fw_is_week) :=
  fnT (bw := w_is_week) F sc_is_week fun R A outer s H E Ew hr => (css_cons (cs_if (PW.pt (cw_or (ct_not (ct_tru (co (ce_isi isi_tuple (by rfl) M.b_isinstance (by rfl) M.b_tuple boot_tuple (co_bor (pv 0)))))) (cw_one_or (ct_not (ct_chain op_le ow_le op_le ow_le (co ce_int) (co (ce_callB call_len cw_len (by rfl) M.b_len boot_len (cos_cons (co_bor (pv 0)) cos_nil))) (co (ce_glob (C8.pe_gc (by rfl) M.c_MOST_HOURS) (.int 40)))))))) (css_one (cs_ret (cf_ce ce_bl))) css_nil)
  (css_one (cs_ret (cf_ce (by exact (ce_all (k := 1) (own := [("one", 1)]) rfl sc_is_week.nd (hr.mono (by decide)) (by rfl) M.b_all TB rfl hP (genSc_by (N := ["value", "one"]) (sc := (defScope s_is_week)) (by first | decide +kernel | rfl)) (ci_seq (ce_var (pv 0))) (fun R A s H C cl code fp hr2 => by exact (cg_name (pg_name (i := 1) sc_is_week.nd rfl (.inl rfl)) (by decide))) (fun R A s H C cl code fp hr2 => by exact cts_nil) (fun R A s H C cl code fp hr2 => by exact (ce_cf (by exact (cf_callC C_is_number rfl (hr2.mono (by decide)) (by rfl) (cas_fz (ce_var (pv 1)) (cas_fz (ce_neg (co (ce_glob (C8.pe_gc (by rfl) M.c_MOST_CHANGE) (.int 50)))) (cas_fz (ce_glob (C8.pe_gc (by rfl) M.c_MOST_CHANGE) (.int 50)) cas_nil))) (by decide) (by rfl) (by rfl))))) (fun _ => rfl) rfl))))))
theorem sc_levels_from : FnScope ["week", "level", "found", "change"] ["week", "level"] (defScope s_levels_from) := ⟨rfl, rfl, rfl, by decide +kernel, rfl, by decide +kernel, by decide +kernel⟩
def w_levels_from : (Str → Prop) → WS := fun _ => (wSeq (wSet 2 (wLst wNil))
  (wSeq (wFor (wiSeq (wVar 0)) (wgName 3) (wSeq (wSet 1 (wFz (wCallB gMax (wOcons (wO (wC (.int 0))) (wOcons (wO (wBin gAdd (wB 1) (wB 3))) wOnil)))))
  (wExpr (wAppE 2 (wVar 1)))))
  (wRet (wFz (wCallB gTuple (wOcons (wB 2) wOnil))))))
def fw_levels_from : FW := fwOf 4 w_levels_from
theorem ok_levels_from {f c : Addr} {fd : FuncData} (F : FunT K "levels_from" s_levels_from f fd c) (M : Blt K mg) : FnOk P w K mg base CX0 1 f fd ["week", "level"] (spW τ K mg 2 fw_levels_from) :=
  fnT (bw := w_levels_from) F sc_levels_from fun R A outer s H E Ew hr => (css_cons (cs_set sc_levels_from.nd rfl (.inl rfl) (cf_lst ca_nil))
  (css_cons (cs_for (vs := [3]) PassesOwn.never rfl (ci_seq (ce_var (pv 0))) (cg_name (pg_name (i := 3) sc_levels_from.nd rfl (.inl rfl)) (by decide)) (css_cons (cs_set sc_levels_from.nd rfl (.inl rfl) (cf_ce (ce_callB (call_max rfl (room_hu64 hr)) cw_max (by rfl) M.b_max boot_max (cos_cons (co ce_int) (cos_cons (co (ce_add (co_bor (pv 1)) (co_bor (pv 3)))) cos_nil)))))
  (css_one (cs_expr (ce_append (pv 2) (ce_var (pv 1)))))))
  (css_one (cs_ret (cf_ce (ce_callTy call_tuple_of cw_tuple (by rfl) M.b_tuple boot_tuple (cos_cons (co_bor (pv 2)) cos_nil)))))))
theorem sc_levels : FnScope ["week"] ["week"] (defScope s_levels) := ⟨rfl, rfl, rfl, by decide +kernel, rfl, by decide +kernel, by decide +kernel⟩
def w_levels : (Str → Prop) → WS := fun _ => (wRet (wCall 2 lvfW (wAsFz (wVar 0) (wAsFz (wC (.int 0)) wAsNil))))
def fw_levels : FW := fwOf 1 w_levels
theorem ok_levels {f c : Addr} {fd : FuncData} (F : FunT K "levels" s_levels f fd c) (C_levels_from : Cal τ P w K mg base 1 "levels_from" ["week", "level"] lvfW) (M : Blt K mg) : FnOk P w K mg base CX0 2 f fd ["week"] (spW τ K mg 1 fw_levels) :=
  fnT (bw := w_levels) F sc_levels fun R A outer s H E Ew hr => (css_one (cs_ret (by exact (cf_callC C_levels_from rfl (hr.mono (by decide)) (by rfl) (cas_fz (ce_var (pv 0)) (cas_fz ce_int cas_nil)) (by decide) (by rfl) (by rfl)))))
theorem sc_steady_levels : FnScope ["week"] ["week"] (defScope s_steady_levels) := ⟨rfl, rfl, rfl, by decide +kernel, rfl, by decide +kernel, by decide +kernel⟩
def w_steady_levels : (Str → Prop) → WS := fun Ew => (wSeq (wIfS (wTst (wBin gGt (wO (wCallB gSum (wOcons (wB 0) wOnil))) (wO (wC (.int 0))))) (wRaise (fun nm _ => Ew nm) "Refused") wNext)
  (wRet (wCall 2 lvfW (wAsFz (wVar 0) (wAsFz (wBin gIx (wO (wVal (wCall 1 levW (wAsFz (wVar 0) wAsNil)))) (wO (wNeg (wO (wC (.int 1)))))) wAsNil)))))
def fw_steady_levels : FW := fwOf 1 w_steady_levels
theorem ok_steady_levels {f c : Addr} {fd : FuncData} (F : FunT K "steady_levels" s_steady_levels f fd c) (C_levels : Cal τ P w K mg base 2 "levels" ["week"] levW) (C_levels_from : Cal τ P w K mg base 1 "levels_from" ["week", "level"] lvfW) (M : Blt K mg) : FnOk P w K mg base (L2N.CX P w) 3 f fd ["week"] (spW τ K mg 1 fw_steady_levels) :=
  fnTX (bw := w_steady_levels) F sc_steady_levels fun R A outer s H E Ew hr tk => (css_cons (cs_if (ct_cmp op_gt ow_gt (co (ce_callB (cr_sumV rfl) cw_sum (by rfl) M.b_sum boot_sum (cos_cons (co_bor (pv 0)) cos_nil))) (co ce_int)) (css_one (cs_raise rfl tk (by rfl) M.e_Refused)) css_nil)
  (css_one (cs_ret (by exact (cf_callC C_levels_from rfl (hr.mono (by decide)) (by rfl) (cas_fz (ce_var (pv 0)) (cas_fz (ce_ix (co (ce_cf (by exact (cf_callC C_levels rfl (hr.mono (by decide)) (by rfl) (cas_fz (ce_var (pv 0)) cas_nil) (by decide) (by rfl) (by rfl))))) (co (ce_neg (co ce_int))) (fun _ _ => rfl)) cas_nil)) (by decide) (by rfl) (by rfl))))))
theorem sc_worst_level : FnScope ["week"] ["week"] (defScope s_worst_level) := ⟨rfl, rfl, rfl, by decide +kernel, rfl, by decide +kernel, by decide +kernel⟩
def w_worst_level : (Str → Prop) → WS := fun _ => (wRet (wFz (wCallB gMax (wOcons (wO (wVal (wCall 1 levW (wAsFz (wVar 0) wAsNil)))) wOnil))))
def fw_worst_level : FW := fwOf 1 w_worst_level
theorem ok_worst_level {f c : Addr} {fd : FuncData} (F : FunT K "worst_level" s_worst_level f fd c) (C_levels : Cal τ P w K mg base 2 "levels" ["week"] levW) (M : Blt K mg) : FnOk P w K mg base CX0 3 f fd ["week"] (spW τ K mg 1 fw_worst_level) :=
  fnT (bw := w_worst_level) F sc_worst_level fun R A outer s H E Ew hr => (css_one (cs_ret (cf_ce (ce_callB (call_max rfl (room_hu64 hr)) cw_max (by rfl) M.b_max boot_max (cos_cons (co (ce_cf (by exact (cf_callC C_levels rfl (hr.mono (by decide)) (by rfl) (cas_fz (ce_var (pv 0)) cas_nil) (by decide) (by rfl) (by rfl))))) cos_nil)))))
theorem sc_are_calls : FnScope ["value", "one"] ["value"] (defScope s_are_calls) := ⟨rfl, rfl, rfl, by decide +kernel, rfl, by decide +kernel, by decide +kernel⟩
def w_are_calls : (Str → Prop) → WS := fun _ => (wSeq (wIfS (wOrT (wNotT (wTru (wO (wIsi "tuple" (wB 0))))) (wTst (wBin gGt (wO (wCallB gLen (wOcons (wB 0) wOnil))) (wO (wC (.int 8)))))) (wRet (wFz (wC (.bool false)))) wNext)
  (wRet (wFz (wQu true (wiSeq (wVar 0)) (wgName 1) wYes (wVal (wCall 3 isnumW (wAsFz (wVar 1) (wAsFz (wC (.int 1)) (wAsFz (wC (.int 60)) wAsNil))))) [1]))))
def fw_are_calls : FW := fwOf 2 w_are_calls
theorem ok_are_calls {f c : Addr} {fd : FuncData} (F : FunT K "are_calls" s_are_calls f fd c) {Pt : Addr} (TB : GxR.TabB base mg c Pt) (hP : Pt ∈ τ) (C_is_number : Cal τ P w K mg base 1 "is_number" ["value", "least", "most"] isnumW) (M : Blt K mg) : FnOk P w K mg base CX0 3 f fd ["value"] (spW τ K mg 1 fw_are_calls) :=
  fnT (bw := w_are_calls) F sc_are_calls fun R A outer s H E Ew hr => (css_cons (cs_if (PW.pt (cw_or (ct_not (ct_tru (co (ce_isi isi_tuple (by rfl) M.b_isinstance (by rfl) M.b_tuple boot_tuple (co_bor (pv 0)))))) (cw_one_or (ct_cmp op_gt ow_gt (co (ce_callB call_len cw_len (by rfl) M.b_len boot_len (cos_cons (co_bor (pv 0)) cos_nil))) (co (ce_glob (C8.pe_gc (by rfl) M.c_MOST_CALLS) (.int 8))))))) (css_one (cs_ret (cf_ce ce_bl))) css_nil)
  (css_one (cs_ret (cf_ce (by exact (ce_all (k := 1) (own := [("one", 1)]) rfl sc_are_calls.nd (hr.mono (by decide)) (by rfl) M.b_all TB rfl hP (genSc_by (N := ["value", "one"]) (sc := (defScope s_are_calls)) (by first | decide +kernel | rfl)) (ci_seq (ce_var (pv 0))) (fun R A s H C cl code fp hr2 => by exact (cg_name (pg_name (i := 1) sc_are_calls.nd rfl (.inl rfl)) (by decide))) (fun R A s H C cl code fp hr2 => by exact cts_nil) (fun R A s H C cl code fp hr2 => by exact (ce_cf (by exact (cf_callC C_is_number rfl (hr2.mono (by decide)) (by rfl) (cas_fz (ce_var (pv 1)) (cas_fz ce_int (cas_fz (ce_glob (C8.pe_gc (by rfl) M.c_MOST_MINUTES) (.int 60)) cas_nil))) (by decide) (by rfl) (by rfl))))) (fun _ => rfl) rfl))))))
theorem sc_times_of : FnScope ["calls", "crews", "given", "found", "call", "crew"] ["calls", "crews", "given"] (defScope s_times_of) := ⟨rfl, rfl, rfl, by decide +kernel, rfl, by decide +kernel, by decide +kernel⟩
def w_times_of : (Str → Prop) → WS := fun _ => (wSeq (wSet 3 (wBinF gMulF (wO (wVal (wLst (wCons (wC (.int 0)) wNil)))) (wB 1)))
  (wSeq (wFor (wiZipK (wCons (wVar 0) (wCons (wVar 2) wNil))) (wgTup 2 (wgCons (wgName 4) (wgCons (wgName 5) wgNil))) (wAugS 3 gAddI (wVar 5) (wVar 4)))
  (wRet (wFz (wCallB gTuple (wOcons (wB 3) wOnil))))))
def fw_times_of : FW := fwOf 6 w_times_of
theorem ok_times_of {f c : Addr} {fd : FuncData} (F : FunT K "times_of" s_times_of f fd c) (M : Blt K mg) : FnOk P w K mg base CX0 1 f fd ["calls", "crews", "given"] (spW τ K mg 3 fw_times_of) :=
  fnT (bw := w_times_of) F sc_times_of fun R A outer s H E Ew hr => (css_cons (cs_set sc_times_of.nd rfl (.inl rfl) (cf_mulL (co (ce_cf (cf_lst (ca_cons ce_int ca_nil)))) (co_bor (pv 1))))
  (css_cons (cs_for (vs := [4, 5]) PassesOwn.never rfl (ci_zipK (by rfl) M.b_zip (ca_cons (ce_var (pv 0)) (ca_cons (ce_var (pv 2)) ca_nil))) (cg_tup rfl (cgs_cons (cg_name (pg_name (i := 4) sc_times_of.nd rfl (.inl rfl)) (by decide)) (cgs_cons (cg_name (pg_name (i := 5) sc_times_of.nd rfl (.inl rfl)) (by decide)) cgs_nil))) (css_one (cs_augS iop_add ow_addI (pv 3) (ce_var (pv 5)) (ce_var (pv 4)))))
  (css_one (cs_ret (cf_ce (ce_callTy call_tuple_of cw_tuple (by rfl) M.b_tuple boot_tuple (cos_cons (co_bor (pv 3)) cos_nil)))))))
theorem sc_by_turns : FnScope ["calls", "crews", "times", "found", "call", "crew"] ["calls", "crews"] (defScope s_by_turns) := ⟨rfl, rfl, rfl, by decide +kernel, rfl, by decide +kernel, by decide +kernel⟩
def w_by_turns : (Str → Prop) → WS := fun _ => (wSeq (wParF 2 3 (wBinF gMulF (wO (wVal (wLst (wCons (wC (.int 0)) wNil)))) (wB 1)) (wLst wNil))
  (wSeq (wFor (wiSeq (wVar 0)) (wgName 4) (wSeq (wSet 5 (wFz (wIdx (wB 2) (wCallB gMin (wOcons (wB 2) wOnil)))))
  (wSeq (wAugS 2 gAddI (wVar 5) (wVar 4))
  (wExpr (wAppE 3 (wVar 5))))))
  (wRet (wFz (wCallB gTuple (wOcons (wB 3) wOnil))))))
def fw_by_turns : FW := fwOf 6 w_by_turns
theorem ok_by_turns {f c : Addr} {fd : FuncData} (F : FunT K "by_turns" s_by_turns f fd c) (M : Blt K mg) : FnOk P w K mg base CX0 1 f fd ["calls", "crews"] (spW τ K mg 2 fw_by_turns) :=
  fnT (bw := w_by_turns) F sc_by_turns fun R A outer s H E Ew hr => (css_cons (cs_parF rfl sc_by_turns.nd rfl rfl (by decide) rfl rfl (cf_mulL (co (ce_cf (cf_lst (ca_cons ce_int ca_nil)))) (co_bor (pv 1))) (fun R => by exact (cf_lst ca_nil)))
  (css_cons (cs_for (vs := [4]) PassesOwn.never rfl (ci_seq (ce_var (pv 0))) (cg_name (pg_name (i := 4) sc_by_turns.nd rfl (.inl rfl)) (by decide)) (css_cons (cs_set sc_by_turns.nd rfl (.inl rfl) (cf_ce (ce_index (room_hu hr) (co_bor (pv 2)) (ce_callB (call_min rfl (room_hu64 hr)) cw_min (by rfl) M.b_min boot_min (cos_cons (co_bor (pv 2)) cos_nil)))))
  (css_cons (cs_augS iop_add ow_addI (pv 2) (ce_var (pv 5)) (ce_var (pv 4)))
  (css_one (cs_expr (ce_append (pv 3) (ce_var (pv 5))))))))
  (css_one (cs_ret (cf_ce (ce_callTy call_tuple_of cw_tuple (by rfl) M.b_tuple boot_tuple (cos_cons (co_bor (pv 3)) cos_nil)))))))
theorem sc_best_longest : FnScope ["calls", "crews", "states", "call", "later", "times", "crew", "now"] ["calls", "crews"] (defScope s_best_longest) := ⟨rfl, rfl, rfl, by decide +kernel, rfl, by decide +kernel, by decide +kernel⟩
def w_best_longest : (Str → Prop) → WS := fun _ => (wSeq (wSet 2 (wDispT (wBin gMul (wO (wTup (wCons (wC (.int 0)) wNil))) (wB 1)) (wC (.bool true))))
  (wSeq (wFor (wiSeq (wVar 0)) (wgName 3) (wSeq (wSet 4 wNewT)
  (wSeq (wFor (wiDictT (wMove 2)) (wgName 5) (wFor (wiRange1 (wB 1)) (wgName 6) (wSeq (wSet 7 (wFrz (wLst (wStar (wVal (wSl (wB 5) wNo (wSome (wVar 6)))) (wCons (wBin gAdd (wO (wBin gIx (wB 5) (wB 6))) (wB 3)) (wStar (wVal (wSl (wB 5) (wSome (wBin gAdd (wB 6) (wO (wC (.int 1))))) wNo)) wNil))))))
  (wDPut 4 (wCallB gTuple (wOcons (wO (wVal (wCallF gSorted (wOcons (wB 7) wOnil)))) wOnil)) (wC (.bool true))))))
  (wSet 2 (wMove 4)))))
  (wRet (wFz (wCallB gMin (wOcons (wO (wVal (wLc (wiDictT (wMove 2)) (wgName 5) wYes (wCallB gMax (wOcons (wB 5) wOnil)) [5]))) wOnil))))))
def fw_best_longest : FW := fwOf 8 w_best_longest
theorem ok_best_longest {f c : Addr} {fd : FuncData} (F : FunT K "best_longest" s_best_longest f fd c) (M : Blt K mg) : FnOk P w K mg base CX0 1 f fd ["calls", "crews"] (spW τ K mg 2 fw_best_longest) :=
  fnT (bw := w_best_longest) F sc_best_longest fun R A outer s H E Ew hr => (css_cons (cs_set sc_best_longest.nd rfl (.inl rfl) (cf_dispT (hu_of hr) (fun R => by exact (ce_mul (co (ce_tup (ca_cons ce_int ca_nil))) (co_bor (pv 1)))) (fun R => by exact ce_bl)))
  (css_cons (cs_for (vs := [3]) PassesOwn.never rfl (ci_seq (ce_var (pv 0))) (cg_name (pg_name (i := 3) sc_best_longest.nd rfl (.inl rfl)) (by decide)) (css_cons (cs_set sc_best_longest.nd rfl (.inl rfl) cf_dnewT)
  (css_cons (cs_for (vs := [5]) PassesOwn.never rfl (ci_dictT (cf_move (pv 2))) (cg_name (pg_name (i := 5) sc_best_longest.nd rfl (.inl rfl)) (by decide)) (css_one (cs_for (vs := [6]) PassesOwn.never rfl (ci_range1 (by rfl) M.b_range (co_bor (pv 1))) (cg_name (pg_name (i := 6) sc_best_longest.nd rfl (.inl rfl)) (by decide)) (css_cons (cs_frz (cs_set sc_best_longest.nd rfl (.inl rfl) (cf_lst (ca_star (ce_cf (cf_sl (co_bor (pv 5)) cp_none (cp_some (ce_var (pv 6))))) (ca_cons (ce_add (co (ce_ix (co_bor (pv 5)) (co_bor (pv 6)) (fun _ _ => rfl))) (co_bor (pv 3))) (ca_star (ce_cf (cf_sl (co_bor (pv 5)) (cp_some (ce_add (co_bor (pv 6)) (co ce_int))) cp_none)) ca_nil))))))
  (css_one (cs_dput (hu_of hr) (pv 4) (ce_callTy call_tuple_of cw_tuple (by rfl) M.b_tuple boot_tuple (cos_cons (co (ce_cf (cf_callB (cr_sortV (room_hu64 hr)) cv_sorted (by rfl) M.b_sorted boot_sorted (cos_cons (co_bor (pv 7)) cos_nil)))) cos_nil)) ce_bl))))))
  (css_one (cs_set sc_best_longest.nd rfl (.inl rfl) (cf_move (pv 4)))))))
  (css_one (cs_ret (cf_ce (ce_callB (call_min rfl (room_hu64 hr)) cw_min (by rfl) M.b_min boot_min (cos_cons (co (ce_cf (by exact (cf_lc (own := [("times", 5)]) rfl sc_best_longest.nd (ci_dictT (cf_move (pv 2))) (blkOk_by (N := ["calls", "crews", "states", "call", "later", "times", "crew", "now"]) (sc := (defScope s_best_longest)) (own := [("times", 5)]) (by first | decide +kernel | rfl)) (fun R s H C cl fp => by exact (cg_name (pg_name (i := 5) sc_best_longest.nd rfl (.inl rfl)) (by decide))) (fun R s H C cl fp => by exact cts_nil) (fun R s H C cl fp => by exact (ce_callB (call_max rfl (room_hu64 hr)) cw_max (by rfl) M.b_max boot_max (cos_cons (co_bor (pv 5)) cos_nil))) (fun _ => rfl))))) cos_nil)))))))
theorem sc__law_draws : FnScope ["script", "draws", "cell", "number", "k", "first", "seed"] ["script"] (defScope s__law_draws) := ⟨rfl, rfl, rfl, by decide +kernel, rfl, by decide +kernel, by decide +kernel⟩
theorem ok__law_draws {f c : Addr} {fd : FuncData} (F : FunT K "_law_draws" s__law_draws f fd c) (M : Blt K mg) : FnOk P w K mg base CX0 1 f fd ["script"] (spW τ K mg 1 (fwOf 7 w_draws)) :=
  fnT (bw := w_draws) F sc__law_draws fun R A outer s H E Ew hr => (css_cons (cs_set sc__law_draws.nd rfl (.inl rfl) (cf_lst ca_nil))
  (css_cons (cs_for (vs := [2]) PassesOwn.never rfl (ci_sc (pv 0)) (cg_name (pg_name (i := 2) sc__law_draws.nd rfl (.inl rfl)) (by decide)) (css_cons (cs_set sc__law_draws.nd rfl (.inl rfl) (cf_ce (ce_callB call_abs cw_abs (by rfl) M.b_abs boot_abs (cos_cons (co_bor (pv 2)) cos_nil))))
  (css_cons (cs_if (ct_cmp op_lt ow_lt (co_bor (pv 3)) (co (ce_pow (co ce_int) (co ce_int)))) (css_cons (cs_set sc__law_draws.nd rfl (.inl rfl) (cf_ce (ce_mod (co (ce_callTy call_int1 cw_int (by rfl) M.b_int boot_int (cos_cons (co (ce_add (co (ce_mul (co_bor (pv 3)) (co ce_int))) (co ce_int))) cos_nil))) (co ce_int))))
  (css_cons (cs_expr (ce_append (pv 1) (ce_mod (co (ce_callTy call_int1 cw_int (by rfl) M.b_int boot_int (cos_cons (co (ce_add (co (ce_mul (co_bor (pv 5)) (co ce_int))) (co_bor (pv 3)))) cos_nil))) (co ce_int))))
  (css_cons (cs_expr (ce_append (pv 1) (ce_mod (co (ce_callTy call_int1 cw_int (by rfl) M.b_int boot_int (cos_cons (co (ce_add (co_bor (pv 5)) (co (ce_fdiv (co_bor (pv 3)) (co ce_int))))) cos_nil))) (co ce_int))))
  (css_one (cs_set sc__law_draws.nd rfl (.inl rfl) (cf_ce ce_int)))))) css_nil)
  (css_one (cs_for (vs := [4]) PassesOwn.never rfl (ci_range1 (by rfl) M.b_range (co ce_int)) (cg_name (pg_name (i := 4) sc__law_draws.nd rfl (.inl rfl)) (by decide)) (css_one (cs_if (ct_cmp op_gt ow_gt (co_bor (pv 3)) (co ce_int)) (css_cons (cs_expr (ce_append (pv 1) (ce_mod (co (ce_callTy call_int1 cw_int (by rfl) M.b_int boot_int (cos_cons (co_bor (pv 3)) cos_nil))) (co ce_int))))
  (css_one (cs_set sc__law_draws.nd rfl (.inl rfl) (cf_ce (ce_fdiv (co_bor (pv 3)) (co ce_int)))))) css_nil)))))))
  (css_cons (cs_set sc__law_draws.nd rfl (.inl rfl) (cf_ce ce_int))
  (css_cons (cs_if (ct_cmp op_gt ow_gt (co (ce_lenSc (by rfl) M.b_len (pv 0))) (co ce_int)) (css_one (cs_set sc__law_draws.nd rfl (.inl rfl) (cf_ce (ce_add (co ce_int) (co (ce_callB call_abs cw_abs (by rfl) M.b_abs boot_abs (cos_cons (co (ce_ixSc (pv 0) ce_int (fun _ _ => rfl))) cos_nil))))))) css_nil)
  (css_cons (cs_for (vs := [4]) PassesOwn.never rfl (ci_range1 (by rfl) M.b_range (co ce_int)) (cg_name (pg_name (i := 4) sc__law_draws.nd rfl (.inl rfl)) (by decide)) (css_cons (cs_set sc__law_draws.nd rfl (.inl rfl) (cf_ce (ce_mod (co (ce_callTy call_int1 cw_int (by rfl) M.b_int boot_int (cos_cons (co (ce_add (co (ce_mul (co_bor (pv 6)) (co ce_int))) (co ce_int))) cos_nil))) (co ce_int))))
  (css_one (cs_expr (ce_append (pv 1) (ce_fdiv (co_bor (pv 6)) (co ce_int)))))))
  (css_one (cs_ret (cf_listRev rfl (by rfl) M.b_list (by rfl) M.b_reversed (co_bor (pv 1))))))))))
theorem sc__law_says : FnScope ["told", "due"] ["told", "due"] (defScope s__law_says) := ⟨rfl, rfl, rfl, by decide +kernel, rfl, by decide +kernel, by decide +kernel⟩
def w__law_says : (Str → Prop) → WS := fun _ => (wRet (wFz (wAndV (wIsi "bool" (wB 0)) (wBin gEq (wB 0) (wB 1)))))
def fw__law_says : FW := fwOf 2 w__law_says
theorem ok__law_says {f c : Addr} {fd : FuncData} (F : FunT K "_law_says" s__law_says f fd c) (M : Blt K mg) : FnOk P w K mg base CX0 1 f fd ["told", "due"] (spW τ K mg 2 fw__law_says) :=
  fnT (bw := w__law_says) F sc__law_says fun R A outer s H E Ew hr => (css_one (cs_ret (cf_ce (ce_and (ce_isi isi_bool (by rfl) M.b_isinstance (by rfl) M.b_bool boot_bool (co_bor (pv 0))) (ce_one (ce_cmp (op_eqD (room_hu64 hr)) ow_eq (co_bor (pv 0)) (co_bor (pv 1))))))))
theorem sc__law_alike : FnScope ["found", "due", "k"] ["found", "due"] (defScope s__law_alike) := ⟨rfl, rfl, rfl, by decide +kernel, rfl, by decide +kernel, by decide +kernel⟩
theorem ok__law_alike {f c : Addr} {fd : FuncData} (F : FunT K "_law_alike" s__law_alike f fd c) {k : Nat} {fwr : FW} (C__law_alike : Cal τ P w K mg base k "_law_alike" ["found", "due"] fwr) (M : Blt K mg) : FnOk P w K mg base CX0 (k + 1) f fd ["found", "due"] (spW τ K mg 2 (fwOf 3 (w_alike fwr))) :=
  fnT (bw := w_alike fwr) F sc__law_alike fun R A outer s H E Ew hr => (css_cons (cs_if (PW.pt (cw_or (ct_tru (co (ce_isi isi_list (by rfl) M.b_isinstance (by rfl) M.b_list boot_list (co_bor (pv 1))))) (cw_one_or (ct_tru (co (ce_isi isi_tuple (by rfl) M.b_isinstance (by rfl) M.b_tuple boot_tuple (co_bor (pv 1)))))))) (css_cons (cs_if (PW.pt (cw_or (ct_cmp (op_neD (room_hu64 hr)) ow_ne (co (ce_isi isi_list (by rfl) M.b_isinstance (by rfl) M.b_list boot_list (co_bor (pv 0)))) (co (ce_isi isi_list (by rfl) M.b_isinstance (by rfl) M.b_list boot_list (co_bor (pv 1))))) (cw_one_or (ct_cmp (op_neD (room_hu64 hr)) ow_ne (co (ce_isi isi_tuple (by rfl) M.b_isinstance (by rfl) M.b_tuple boot_tuple (co_bor (pv 0)))) (co (ce_isi isi_tuple (by rfl) M.b_isinstance (by rfl) M.b_tuple boot_tuple (co_bor (pv 1)))))))) (css_one (cs_ret (cf_ce ce_bl))) css_nil)
  (css_one (cs_ret (cf_ce (ce_and (ce_cmp (op_eqD (room_hu64 hr)) ow_eq (co (ce_callB call_len cw_len (by rfl) M.b_len boot_len (cos_cons (co_bor (pv 0)) cos_nil))) (co (ce_callB call_len cw_len (by rfl) M.b_len boot_len (cos_cons (co_bor (pv 1)) cos_nil)))) (ce_one (ce_cmp (op_eqD (room_hu64 hr)) ow_eq (co (ce_cf (by exact (cf_lc (own := [("k", 2)]) rfl sc__law_alike.nd (ci_range1 (by rfl) M.b_range (co (ce_callB call_len cw_len (by rfl) M.b_len boot_len (cos_cons (co_bor (pv 1)) cos_nil)))) (blkOk_by (N := ["found", "due", "k"]) (sc := (defScope s__law_alike)) (own := [("k", 2)]) (by first | decide +kernel | rfl)) (fun R s H C cl fp => by exact (cg_name (pg_name (i := 2) sc__law_alike.nd rfl (.inl rfl)) (by decide))) (fun R s H C cl fp => by exact (cts_one (ct_not (ct_tru (co (ce_cf (by exact (cf_callC C__law_alike rfl (hr.mono (Nat.le_refl _)) (by rfl) (cas_fz (ce_ix (co_bor (pv 0)) (co_bor (pv 2)) (fun _ _ => rfl)) (cas_fz (ce_ix (co_bor (pv 1)) (co_bor (pv 2)) (fun _ _ => rfl)) cas_nil)) (by decide) (by rfl) (by rfl))))))))) (fun R s H C cl fp => by exact (ce_var (pv 2))) (fun _ => rfl))))) (co (ce_cf (cf_lst ca_nil)))))))))) css_nil)
  (css_cons (cs_if (ct_cmp or_is ow_is (co_bor (pv 1)) (co ce_non)) (css_one (cs_ret (cf_ce (ce_cmp or_is ow_is (co_bor (pv 0)) (co ce_non))))) css_nil)
  (css_cons (cs_if (PW.pt (cw_or (ct_tru (co (ce_isi isi_bool (by rfl) M.b_isinstance (by rfl) M.b_bool boot_bool (co_bor (pv 1))))) (cw_one_or (ct_tru (co (ce_isi isi_bool (by rfl) M.b_isinstance (by rfl) M.b_bool boot_bool (co_bor (pv 0)))))))) (css_one (cs_ret (cf_ce (ce_and (ce_isi isi_bool (by rfl) M.b_isinstance (by rfl) M.b_bool boot_bool (co_bor (pv 0))) (ce_and (ce_isi isi_bool (by rfl) M.b_isinstance (by rfl) M.b_bool boot_bool (co_bor (pv 1))) (ce_one (ce_cmp (op_eqD (room_hu64 hr)) ow_eq (co_bor (pv 0)) (co_bor (pv 1))))))))) css_nil)
  (css_cons (cs_if (ct_tru (co (ce_isi isi_int (by rfl) M.b_isinstance (by rfl) M.b_int boot_int (co_bor (pv 1))))) (css_one (cs_ret (cf_ce (ce_and (ce_isi isi_int (by rfl) M.b_isinstance (by rfl) M.b_int boot_int (co_bor (pv 0))) (ce_one (ce_cmp (op_eqD (room_hu64 hr)) ow_eq (co_bor (pv 0)) (co_bor (pv 1)))))))) css_nil)
  (css_one (cs_ret (cf_ce (ce_and (ce_isi isi_str (by rfl) M.b_isinstance (by rfl) M.b_str boot_str (co_bor (pv 0))) (ce_one (ce_cmp (op_eqD (room_hu64 hr)) ow_eq (co_bor (pv 0)) (co_bor (pv 1))))))))))))
theorem sc__law_word : FnScope ["error", "kinds", "one"] ["error"] (defScope s__law_word) := ⟨rfl, rfl, rfl, by decide +kernel, rfl, by decide +kernel, by decide +kernel⟩
theorem ok__law_word {f c : Addr} {fd : FuncData} (F : FunT K "_law_word" s__law_word f fd c) (M : Blt K mg) {ea : Addr} {oe : Obj} {D : Addr} {enm : Str} (hnm : fiveP enm) (hD : mg enm = some (.ref D)) (hz : L2N.Zn (.ref D) none oe) (hfd : ∃ vs, oe.data = .fields vs) : FnE P w K mg base 1 f fd ["error"] (ea, oe) (spW τ K mg 1 (fwOf 3 (w_word2 ea enm))) :=
  fnTE (bw := (w_word2 ea enm)) F sc__law_word fun R A outer s H E Ew hot hr => (css_cons (cs_set sc__law_word.nd rfl (.inl rfl) (cf_lst (ca_cons (ce_isE M.is_f hnm hD hz hfd List.mem_cons_self (by rfl) M.b_isinstance (pv 0) (by rfl) (by decide)) (ca_cons (ce_isE M.is_f hnm hD hz hfd List.mem_cons_self (by rfl) M.b_isinstance (pv 0) (by rfl) (by decide)) (ca_cons (ce_isE M.is_f hnm hD hz hfd List.mem_cons_self (by rfl) M.b_isinstance (pv 0) (by rfl) (by decide)) (ca_cons (ce_isE M.is_f hnm hD hz hfd List.mem_cons_self (by rfl) M.b_isinstance (pv 0) (by rfl) (by decide)) (ca_cons (ce_isE M.is_f hnm hD hz hfd List.mem_cons_self (by rfl) M.b_isinstance (pv 0) (by rfl) (by decide)) ca_nil)))))))
  (css_cons (cs_if (ct_cmp (op_neD (roomH_hu64 hr)) ow_ne (co (ce_callB call_len cw_len (by rfl) M.b_len boot_len (cos_cons (co (ce_cf (by exact (cf_lcH (own := [("one", 2)]) hot List.mem_cons_self sc__law_word.nd (ce_var (pv 1)) (blkOk_by (N := ["error", "kinds", "one"]) (sc := (defScope s__law_word)) (own := [("one", 2)]) (by first | decide +kernel | rfl)) (fun R s H C cl fp => by exact (cgp_of (cg_name (pg_name (i := 2) sc__law_word.nd rfl (.inl rfl)) (by decide)))) (fun R s H C cl fp => by exact (cts_one (ct_tru (co_bor (pv 2))))) (fun R s H C cl fp => by exact (ce_var (pv 2))) (fun _ => rfl))))) cos_nil))) (co ce_int)) (css_one (cs_ret (cf_ce ce_str))) css_nil)
  (css_one (cs_ret (cf_ce (ce_ix (co (ce_cf (cf_lst (ca_cons ce_str (ca_cons ce_str (ca_cons ce_str (ca_cons ce_str (ca_cons ce_str ca_nil)))))))) (co (ce_index (roomH_hu hr) (co_bor (pv 1)) ce_bl)) (fun _ _ => rfl)))))))
theorem sc__law_told : FnScope ["week", "e"] ["week"] (defScope s__law_told) := ⟨rfl, rfl, rfl, by decide +kernel, rfl, by decide +kernel, by decide +kernel⟩
def w__law_told : (Str → Prop) → WS := fun _ => (wTry 1 (fun ex => (wRet (wCallX ex 1 steadyW (wAsFz (wVar 0) wAsNil)))) fiveP fun ea enm => (wRet (wCall 1 (word2W ea enm) (wAsEx 1 wAsNil))))
def fw__law_told : FW := fwOf 2 w__law_told
theorem ok__law_told {f c : Addr} {fd : FuncData} (F : FunT K "_law_told" s__law_told f fd c) (C__law_word : CalE τ P w K mg base 1 "_law_word" ["error"] fiveP word2W) (C_steady_levels : CalX τ P w K mg base 3 "steady_levels" ["week"] steadyW) (M : Blt K mg) : FnOk P w K mg base CX0 4 f fd ["week"] (spW τ K mg 1 fw__law_told) :=
  fnT (bw := w__law_told) F sc__law_told fun R A outer s H E Ew hr => (css_one (cs_tryE M.x_FireError rfl rfl sc__law_told.nd rfl rfl (by rfl) (by decide) (fun R pn xe ex tk hp => (css_one (cs_ret (by exact (cf_callX C_steady_levels tk rfl (hr.mono (by decide)) (by rfl) (cas_fz (ce_var (pv 0)) cas_nil) (by decide) (by rfl) (by rfl)))))) (fun R ea oe D enm pn hnm hD hz hfd => (css_one (cs_ret (by exact (cf_callE C__law_word hnm hD hz hfd rfl (L2H.roomH_of (hr.mono (by decide))) (by rfl) (cas_ex (pv 1) cas_nil) (by decide) (by rfl) (by rfl))))))))
theorem sc__law_tired : FnScope ["hours", "at", "begin"] ["hours"] (defScope s__law_tired) := ⟨rfl, rfl, rfl, by decide +kernel, rfl, by decide +kernel, by decide +kernel⟩
def w__law_tired : (Str → Prop) → WS := fun _ => (wRet (wLc (wiRange1 (wO (wCallB gLen (wOcons (wB 0) wOnil)))) (wgName 1) wYes (wCallB gMax (wOcons (wO (wBin gAdd (wO (wVal (wLst (wCons (wC (.int 0)) wNil)))) (wO (wVal (wLc (wiRange1 (wO (wBin gAdd (wB 1) (wO (wC (.int 1)))))) (wgName 2) wYes (wCallB gSum (wOcons (wO (wVal (wSl (wB 0) (wSome (wVar 2)) (wSome (wBin gAdd (wB 1) (wO (wC (.int 1)))))))) wOnil)) [2]))))) wOnil)) [1]))
def fw__law_tired : FW := fwOf 3 w__law_tired
theorem ok__law_tired {f c : Addr} {fd : FuncData} (F : FunT K "_law_tired" s__law_tired f fd c) (M : Blt K mg) : FnOk P w K mg base CX0 1 f fd ["hours"] (spW τ K mg 1 fw__law_tired) :=
  fnT (bw := w__law_tired) F sc__law_tired fun R A outer s H E Ew hr => (css_one (cs_ret (by exact (cf_lc (own := [("at", 1)]) rfl sc__law_tired.nd (ci_range1 (by rfl) M.b_range (co (ce_callB call_len cw_len (by rfl) M.b_len boot_len (cos_cons (co_bor (pv 0)) cos_nil)))) (blkOk_by (N := ["hours", "at", "begin"]) (sc := (defScope s__law_tired)) (own := [("at", 1)]) (by first | decide +kernel | rfl)) (fun R s H C cl fp => by exact (cg_name (pg_name (i := 1) sc__law_tired.nd rfl (.inr rfl)) (by decide))) (fun R s H C cl fp => by exact cts_nil) (fun R s H C cl fp => by exact (ce_callB (call_max rfl (room_hu64 hr)) cw_max (by rfl) M.b_max boot_max (cos_cons (co (ce_add (co (ce_cf (cf_lst (ca_cons ce_int ca_nil)))) (co (ce_cf (by exact (cf_lc (own := [("begin", 2)]) rfl sc__law_tired.nd (ci_range1 (by rfl) M.b_range (co (ce_add (co_bor (pv 1)) (co ce_int)))) (blkOk_by (N := ["hours", "at", "begin"]) (sc := _) (own := [("begin", 2)]) (by first | decide +kernel | rfl)) (fun R s H C cl fp => by exact (cg_name (pg_name (i := 2) sc__law_tired.nd rfl (.inl rfl)) (by decide))) (fun R s H C cl fp => by exact cts_nil) (fun R s H C cl fp => by exact (ce_callB (cr_sumV rfl) cw_sum (by rfl) M.b_sum boot_sum (cos_cons (co (ce_cf (cf_sl (co_bor (pv 0)) (cp_some (ce_var (pv 2))) (cp_some (ce_add (co_bor (pv 1)) (co ce_int)))))) cos_nil))) (fun _ => rfl))))))) cos_nil))) (fun _ => rfl)))))
theorem sc__law_weeks : FnScope ["draws", "wide", "week", "k", "n", "due", "sums", "begin", "end", "odd", "value"] ["draws"] (defScope s__law_weeks) := ⟨rfl, rfl, rfl, by decide +kernel, rfl, by decide +kernel, by decide +kernel⟩
def _law_weeks_s0 : WS := (wRet (wFz (wBin gEq (wO (wVal (wLc (wiSeq (wVar 9)) (wgName 10) (wTst (wBin gIsNot (wO (wVal (wCall 1 weekW (wAsFz (wVar 10) wAsNil)))) (wO (wC (.bool false))))) (wVar 10) [10]))) (wO (wVal (wLst wNil))))))
def _law_weeks_s1 : WS := (wSet 9 (wFrz (wLst (wCons (wC .none) (wCons (wVal (wCallF gList (wOcons (wB 2) wOnil))) (wCons (wTup wNil) (wCons (wBin gMul (wO (wTup (wCons (wC (.int 0)) wNil))) (wO (wC (.int 41)))) (wCons (wTup (wCons (wC (.int 51)) wNil)) (wCons (wTup (wCons (wNeg (wO (wC (.int 51)))) wNil)) (wCons (wTup (wCons (wC (.bool true)) wNil)) (wCons (wTup (wCons (wC .none) wNil)) wNil)))))))))))
def _law_weeks_s2 : WS := (wIfS (wNotT (wTru (wO (wVal (wCall 2 (sameW 4) (wAsFz (wVal (wCall 1 worstW (wAsFz (wVar 2) wAsNil))) (wAsFz (wCallB gMax (wOcons (wB 6) wOnil)) wAsNil))))))) (wRet (wFz (wC (.bool false)))) wNext)
def _law_weeks_s3 : WS := (wSet 6 (wFz (wBin gAdd (wB 6) (wO (wVal (wLc (wiRange2 (wO (wBin gAdd (wB 7) (wO (wC (.int 1))))) (wO (wBin gAdd (wB 4) (wO (wC (.int 1)))))) (wgName 8) wYes (wCallB gSum (wOcons (wO (wVal (wSl (wB 2) (wSome (wVar 7)) (wSome (wVar 8))))) wOnil)) [8]))))))
def _law_weeks_s4 : WS := (wIfS (wOrT (wNotT (wTru (wO (wVal (wCall 2 (sameW 4) (wAsFz (wVal (wCall 1 toldW (wAsFz (wVar 2) wAsNil))) (wAsFz (wCallB gTuple (wOcons (wO (wVal (wSl (wB 5) (wSome (wVar 4)) (wSome (wBin gMul (wO (wC (.int 2))) (wB 4)))))) wOnil)) wAsNil))))))) (wOrT (wTst (wBin gNe (wO (wVal (wSl (wB 5) (wSome (wVar 4)) (wSome (wBin gMul (wO (wC (.int 2))) (wB 4)))))) (wO (wVal (wSl (wB 5) (wSome (wBin gMul (wO (wC (.int 2))) (wB 4))) (wSome (wBin gMul (wO (wC (.int 3))) (wB 4)))))))) (wTst (wBin gNe (wO (wVal (wSl (wB 5) (wSome (wVar 4)) (wSome (wBin gMul (wO (wC (.int 2))) (wB 4)))))) (wO (wVal (wSl (wB 5) (wSome (wBin gMul (wO (wC (.int 3))) (wB 4))) wNo))))))) (wRet (wFz (wC (.bool false)))) wNext)
def _law_weeks_s5 : WS := (wIfS (wOrT (wTst (wBin gNe (wO (wVal (wCall 1 toldW (wAsFz (wVar 2) wAsNil)))) (wO (wC (.str "refused"))))) (wTst (wBin gNe (wO (wVal (wLc (wiRange2 (wB 4) (wO (wBin gMul (wO (wC (.int 3))) (wB 4)))) (wgName 3) (wTst (wBin gNe (wO (wBin gSub (wO (wBin gIx (wB 5) (wO (wBin gAdd (wB 3) (wB 4))))) (wO (wBin gIx (wB 5) (wB 3))))) (wO (wCallB gSum (wOcons (wB 2) wOnil))))) (wVar 3) [3]))) (wO (wVal (wLst wNil)))))) (wRet (wFz (wC (.bool false)))) wNext)
def _law_weeks_s6 : WS := (wIfS (wTst (wBin gLe (wO (wCallB gSum (wOcons (wB 2) wOnil))) (wO (wC (.int 0))))) _law_weeks_s4 _law_weeks_s5)
def _law_weeks_s7 : WS := (wIfS (wNotT (wTru (wO (wVal (wCall 2 (sameW 4) (wAsFz (wVal (wCall 1 levW (wAsFz (wVar 2) wAsNil))) (wAsFz (wCallB gTuple (wOcons (wO (wVal (wSl (wB 5) wNo (wSome (wVar 4))))) wOnil)) wAsNil))))))) (wRet (wFz (wC (.bool false)))) wNext)
def _law_weeks_s8 : WS := (wSet 5 (wFrz (wCall 1 tiredW (wAsFz (wBin gMul (wB 2) (wO (wC (.int 4)))) wAsNil))))
def _law_weeks_s9 : WS := (wIfS (wNotT (wTru (wO (wVal (wCall 2 saysW (wAsFz (wVal (wCall 1 weekW (wAsFz (wVar 2) wAsNil))) (wAsFz (wC (.bool true)) wAsNil))))))) (wRet (wFz (wC (.bool false)))) wNext)
def _law_weeks_s10 : WS := (wSet 2 (wFz (wCallB gTuple (wOcons (wO (wVal (wLc (wiRange1 (wO (wBin gAdd (wO (wC (.int 1))) (wO (wVal (wCall 2 takeW (wAsDr 0 (wAsFz (wC (.int 9)) wAsNil)))))))) (wgName 3) wYes (wBin gSub (wO (wVal (wCall 2 takeW (wAsDr 0 (wAsFz (wBin gAdd (wO (wBin gMul (wO (wC (.int 2))) (wB 1))) (wO (wC (.int 1)))) wAsNil))))) (wB 1)) [3]))) wOnil))))
def _law_weeks_s11 : WS := (wSet 1 (wFz (wBin gIx (wO (wVal (wLst (wCons (wC (.int 2)) (wCons (wC (.int 9)) (wCons (wC (.int 50)) wNil)))))) (wO (wVal (wCall 2 takeW (wAsDr 0 (wAsFz (wC (.int 3)) wAsNil))))))))
def w__law_weeks : (Str → Prop) → WS := fun _ => (wSeq _law_weeks_s11
  (wSeq _law_weeks_s10
  (wSeq (wSet 4 (wFz (wCallB gLen (wOcons (wB 2) wOnil))))
  (wSeq _law_weeks_s9
  (wSeq _law_weeks_s8
  (wSeq _law_weeks_s7
  (wSeq _law_weeks_s6
  (wSeq (wSet 6 (wFrz (wLst (wCons (wC (.int 0)) wNil))))
  (wSeq (wFor (wiRange1 (wB 4)) (wgName 7) _law_weeks_s3)
  (wSeq _law_weeks_s2
  (wSeq _law_weeks_s1
  _law_weeks_s0)))))))))))
def fw__law_weeks : FW := fwOf 11 w__law_weeks
theorem ok__law_weeks {f c : Addr} {fd : FuncData} (F : FunT K "_law_weeks" s__law_weeks f fd c) (C__law_alike : Cal τ P w K mg base 5 "_law_alike" ["found", "due"] (sameW 4)) (C__law_says : Cal τ P w K mg base 1 "_law_says" ["told", "due"] saysW) (C__law_take : Cal τ P w K mg base 1 "_law_take" ["draws", "bound"] takeW) (C__law_tired : Cal τ P w K mg base 1 "_law_tired" ["hours"] tiredW) (C__law_told : Cal τ P w K mg base 4 "_law_told" ["week"] toldW) (C_is_week : Cal τ P w K mg base 3 "is_week" ["value"] weekW) (C_levels : Cal τ P w K mg base 2 "levels" ["week"] levW) (C_worst_level : Cal τ P w K mg base 3 "worst_level" ["week"] worstW) (M : Blt K mg) : FnOk P w K mg base CX0 6 f fd ["draws"] (spW τ K mg 1 fw__law_weeks) :=
  fnT (bw := w__law_weeks) F sc__law_weeks fun R A outer s H E Ew hr => (css_cons (cs_set sc__law_weeks.nd rfl (.inr rfl) (cf_ce (ce_ix (co (ce_cf (cf_lst (ca_cons ce_int (ca_cons ce_int (ca_cons ce_int ca_nil)))))) (co (ce_cf (by exact (cf_callC C__law_take rfl (hr.mono (by decide)) (by rfl) (cas_dr (pv 0) (cas_fz ce_int cas_nil)) (by decide) (by rfl) (by rfl))))) (fun _ _ => rfl))))
  (css_cons (cs_set sc__law_weeks.nd rfl (.inr rfl) (cf_ce (ce_callTy call_tuple_of cw_tuple (by rfl) M.b_tuple boot_tuple (cos_cons (co (ce_cf (by exact (cf_lc (own := [("k", 3)]) rfl sc__law_weeks.nd (ci_range1 (by rfl) M.b_range (co (ce_add (co ce_int) (co (ce_cf (by exact (cf_callC C__law_take rfl (hr.mono (by decide)) (by rfl) (cas_dr (pv 0) (cas_fz ce_int cas_nil)) (by decide) (by rfl) (by rfl)))))))) (blkOk_by (N := ["draws", "wide", "week", "k", "n", "due", "sums", "begin", "end", "odd", "value"]) (sc := (defScope s__law_weeks)) (own := [("k", 3)]) (by first | decide +kernel | rfl)) (fun R s H C cl fp => by exact (cg_name (pg_name (i := 3) sc__law_weeks.nd rfl (.inl rfl)) (by decide))) (fun R s H C cl fp => by exact cts_nil) (fun R s H C cl fp => by exact (ce_sub (co (ce_cf (by exact (cf_callC C__law_take rfl (hr.mono (by decide)) (by rfl) (cas_dr (pv 0) (cas_fz (ce_add (co (ce_mul (co ce_int) (co_bor (pv 1)))) (co ce_int)) cas_nil)) (by decide) (by rfl) (by rfl))))) (co_bor (pv 1)))) (fun _ => rfl))))) cos_nil))))
  (css_cons (cs_set sc__law_weeks.nd rfl (.inr rfl) (cf_ce (ce_callB call_len cw_len (by rfl) M.b_len boot_len (cos_cons (co_bor (pv 2)) cos_nil))))
  (css_cons (cs_if (ct_not (ct_tru (co (ce_cf (by exact (cf_callC C__law_says rfl (hr.mono (by decide)) (by rfl) (cas_fz (ce_cf (by exact (cf_callC C_is_week rfl (hr.mono (by decide)) (by rfl) (cas_fz (ce_var (pv 2)) cas_nil) (by decide) (by rfl) (by rfl)))) (cas_fz ce_bl cas_nil)) (by decide) (by rfl) (by rfl))))))) (css_one (cs_ret (cf_ce ce_bl))) css_nil)
  (css_cons (cs_frz (cs_set sc__law_weeks.nd rfl (.inr rfl) (by exact (cf_callC C__law_tired rfl (hr.mono (by decide)) (by rfl) (cas_fz (ce_mul (co_bor (pv 2)) (co ce_int)) cas_nil) (by decide) (by rfl) (by rfl)))))
  (css_cons (cs_if (ct_not (ct_tru (co (ce_cf (by exact (cf_callC C__law_alike rfl (hr.mono (by decide)) (by rfl) (cas_fz (ce_cf (by exact (cf_callC C_levels rfl (hr.mono (by decide)) (by rfl) (cas_fz (ce_var (pv 2)) cas_nil) (by decide) (by rfl) (by rfl)))) (cas_fz (ce_callTy call_tuple_of cw_tuple (by rfl) M.b_tuple boot_tuple (cos_cons (co (ce_cf (cf_sl (co_bor (pv 5)) cp_none (cp_some (ce_var (pv 4)))))) cos_nil)) cas_nil)) (by decide) (by rfl) (by rfl))))))) (css_one (cs_ret (cf_ce ce_bl))) css_nil)
  (css_cons (cs_if (ct_cmp op_le ow_le (co (ce_callB (cr_sumV rfl) cw_sum (by rfl) M.b_sum boot_sum (cos_cons (co_bor (pv 2)) cos_nil))) (co ce_int)) (css_one (cs_if (PW.pt (cw_or (ct_not (ct_tru (co (ce_cf (by exact (cf_callC C__law_alike rfl (hr.mono (by decide)) (by rfl) (cas_fz (ce_cf (by exact (cf_callC C__law_told rfl (hr.mono (by decide)) (by rfl) (cas_fz (ce_var (pv 2)) cas_nil) (by decide) (by rfl) (by rfl)))) (cas_fz (ce_callTy call_tuple_of cw_tuple (by rfl) M.b_tuple boot_tuple (cos_cons (co (ce_cf (cf_sl (co_bor (pv 5)) (cp_some (ce_var (pv 4))) (cp_some (ce_mul (co ce_int) (co_bor (pv 4))))))) cos_nil)) cas_nil)) (by decide) (by rfl) (by rfl))))))) (cw_or (ct_cmp (op_neD (room_hu64 hr)) ow_ne (co (ce_cf (cf_sl (co_bor (pv 5)) (cp_some (ce_var (pv 4))) (cp_some (ce_mul (co ce_int) (co_bor (pv 4))))))) (co (ce_cf (cf_sl (co_bor (pv 5)) (cp_some (ce_mul (co ce_int) (co_bor (pv 4)))) (cp_some (ce_mul (co ce_int) (co_bor (pv 4)))))))) (cw_one_or (ct_cmp (op_neD (room_hu64 hr)) ow_ne (co (ce_cf (cf_sl (co_bor (pv 5)) (cp_some (ce_var (pv 4))) (cp_some (ce_mul (co ce_int) (co_bor (pv 4))))))) (co (ce_cf (cf_sl (co_bor (pv 5)) (cp_some (ce_mul (co ce_int) (co_bor (pv 4)))) cp_none)))))))) (css_one (cs_ret (cf_ce ce_bl))) css_nil)) (css_one (cs_if (PW.pt (cw_or (ct_cmp (op_neD (room_hu64 hr)) ow_ne (co (ce_cf (by exact (cf_callC C__law_told rfl (hr.mono (by decide)) (by rfl) (cas_fz (ce_var (pv 2)) cas_nil) (by decide) (by rfl) (by rfl))))) (co ce_str)) (cw_one_or (ct_cmp (op_neD (room_hu64 hr)) ow_ne (co (ce_cf (by exact (cf_lc (own := [("k", 3)]) rfl sc__law_weeks.nd (ci_range2 (by rfl) M.b_range (co_bor (pv 4)) (co (ce_mul (co ce_int) (co_bor (pv 4))))) (blkOk_by (N := ["draws", "wide", "week", "k", "n", "due", "sums", "begin", "end", "odd", "value"]) (sc := (defScope s__law_weeks)) (own := [("k", 3)]) (by first | decide +kernel | rfl)) (fun R s H C cl fp => by exact (cg_name (pg_name (i := 3) sc__law_weeks.nd rfl (.inl rfl)) (by decide))) (fun R s H C cl fp => by exact (cts_one (ct_cmp (op_neD (room_hu64 hr)) ow_ne (co (ce_sub (co (ce_ix (co_bor (pv 5)) (co (ce_add (co_bor (pv 3)) (co_bor (pv 4)))) (fun _ _ => rfl))) (co (ce_ix (co_bor (pv 5)) (co_bor (pv 3)) (fun _ _ => rfl))))) (co (ce_callB (cr_sumV rfl) cw_sum (by rfl) M.b_sum boot_sum (cos_cons (co_bor (pv 2)) cos_nil)))))) (fun R s H C cl fp => by exact (ce_var (pv 3))) (fun _ => rfl))))) (co (ce_cf (cf_lst ca_nil))))))) (css_one (cs_ret (cf_ce ce_bl))) css_nil)))
  (css_cons (cs_frz (cs_set sc__law_weeks.nd rfl (.inl rfl) (cf_lst (ca_cons ce_int ca_nil))))
  (css_cons (cs_for (vs := [7]) PassesOwn.never rfl (ci_range1 (by rfl) M.b_range (co_bor (pv 4))) (cg_name (pg_name (i := 7) sc__law_weeks.nd rfl (.inr rfl)) (by decide)) (css_one (cs_set sc__law_weeks.nd rfl (.inl rfl) (cf_ce (ce_add (co_bor (pv 6)) (co (ce_cf (by exact (cf_lc (own := [("end", 8)]) rfl sc__law_weeks.nd (ci_range2 (by rfl) M.b_range (co (ce_add (co_bor (pv 7)) (co ce_int))) (co (ce_add (co_bor (pv 4)) (co ce_int)))) (blkOk_by (N := ["draws", "wide", "week", "k", "n", "due", "sums", "begin", "end", "odd", "value"]) (sc := (defScope s__law_weeks)) (own := [("end", 8)]) (by first | decide +kernel | rfl)) (fun R s H C cl fp => by exact (cg_name (pg_name (i := 8) sc__law_weeks.nd rfl (.inl rfl)) (by decide))) (fun R s H C cl fp => by exact cts_nil) (fun R s H C cl fp => by exact (ce_callB (cr_sumV rfl) cw_sum (by rfl) M.b_sum boot_sum (cos_cons (co (ce_cf (cf_sl (co_bor (pv 2)) (cp_some (ce_var (pv 7))) (cp_some (ce_var (pv 8)))))) cos_nil))) (fun _ => rfl))))))))))
  (css_cons (cs_if (ct_not (ct_tru (co (ce_cf (by exact (cf_callC C__law_alike rfl (hr.mono (by decide)) (by rfl) (cas_fz (ce_cf (by exact (cf_callC C_worst_level rfl (hr.mono (by decide)) (by rfl) (cas_fz (ce_var (pv 2)) cas_nil) (by decide) (by rfl) (by rfl)))) (cas_fz (ce_callB (call_max rfl (room_hu64 hr)) cw_max (by rfl) M.b_max boot_max (cos_cons (co_bor (pv 6)) cos_nil)) cas_nil)) (by decide) (by rfl) (by rfl))))))) (css_one (cs_ret (cf_ce ce_bl))) css_nil)
  (css_cons (cs_frz (cs_set sc__law_weeks.nd rfl (.inl rfl) (cf_lst (ca_cons ce_non (ca_cons (ce_cf (cf_callTy call_list_of cv_list (by rfl) M.b_list boot_list (cos_cons (co_bor (pv 2)) cos_nil))) (ca_cons (ce_tup ca_nil) (ca_cons (ce_mul (co (ce_tup (ca_cons ce_int ca_nil))) (co ce_int)) (ca_cons (ce_tup (ca_cons ce_int ca_nil)) (ca_cons (ce_tup (ca_cons (ce_neg (co ce_int)) ca_nil)) (ca_cons (ce_tup (ca_cons ce_bl ca_nil)) (ca_cons (ce_tup (ca_cons ce_non ca_nil)) ca_nil)))))))))))
  (css_one (cs_ret (cf_ce (ce_cmp (op_eqD (room_hu64 hr)) ow_eq (co (ce_cf (by exact (cf_lc (own := [("value", 10)]) rfl sc__law_weeks.nd (ci_seq (ce_var (pv 9))) (blkOk_by (N := ["draws", "wide", "week", "k", "n", "due", "sums", "begin", "end", "odd", "value"]) (sc := (defScope s__law_weeks)) (own := [("value", 10)]) (by first | decide +kernel | rfl)) (fun R s H C cl fp => by exact (cg_name (pg_name (i := 10) sc__law_weeks.nd rfl (.inl rfl)) (by decide))) (fun R s H C cl fp => by exact (cts_one (ct_cmp or_isnot ow_isnot (co (ce_cf (by exact (cf_callC C_is_week rfl (hr.mono (by decide)) (by rfl) (cas_fz (ce_var (pv 10)) cas_nil) (by decide) (by rfl) (by rfl))))) (co ce_bl)))) (fun R s H C cl fp => by exact (ce_var (pv 10))) (fun _ => rfl))))) (co (ce_cf (cf_lst ca_nil))))))))))))))))))
theorem sc__law_longest : FnScope ["calls", "crews", "rows", "call", "later", "row", "k"] ["calls", "crews"] (defScope s__law_longest) := ⟨rfl, rfl, rfl, by decide +kernel, rfl, by decide +kernel, by decide +kernel⟩
def w__law_longest : (Str → Prop) → WS := fun _ => (wSeq (wSet 2 (wFrz (wLst (wCons (wBin gMul (wO (wTup (wCons (wC (.int 0)) wNil))) (wB 1)) wNil))))
  (wSeq (wFor (wiSeq (wVar 0)) (wgName 3) (wSeq (wSet 4 wNewT)
  (wSeq (wFor (wiSeq (wVar 2)) (wgName 5) (wFor (wiRange1 (wB 1)) (wgName 6) (wDPut 4 (wBin gAdd (wO (wBin gAdd (wO (wVal (wSl (wB 5) wNo (wSome (wVar 6))))) (wO (wTup (wCons (wBin gAdd (wO (wBin gIx (wB 5) (wB 6))) (wB 3)) wNil))))) (wO (wVal (wSl (wB 5) (wSome (wBin gAdd (wB 6) (wO (wC (.int 1))))) wNo)))) (wC (.int 1)))))
  (wSet 2 (wFrz (wLstDT (wMove 4)))))))
  (wRet (wFz (wCallB gMin (wOcons (wO (wVal (wLc (wiSeq (wVar 2)) (wgName 5) wYes (wCallB gMax (wOcons (wB 5) wOnil)) [5]))) wOnil))))))
def fw__law_longest : FW := fwOf 7 w__law_longest
theorem ok__law_longest {f c : Addr} {fd : FuncData} (F : FunT K "_law_longest" s__law_longest f fd c) (M : Blt K mg) : FnOk P w K mg base CX0 1 f fd ["calls", "crews"] (spW τ K mg 2 fw__law_longest) :=
  fnT (bw := w__law_longest) F sc__law_longest fun R A outer s H E Ew hr => (css_cons (cs_frz (cs_set sc__law_longest.nd rfl (.inl rfl) (cf_lst (ca_cons (ce_mul (co (ce_tup (ca_cons ce_int ca_nil))) (co_bor (pv 1))) ca_nil))))
  (css_cons (cs_for (vs := [3]) PassesOwn.never rfl (ci_seq (ce_var (pv 0))) (cg_name (pg_name (i := 3) sc__law_longest.nd rfl (.inl rfl)) (by decide)) (css_cons (cs_set sc__law_longest.nd rfl (.inl rfl) cf_dnewT)
  (css_cons (cs_for (vs := [5]) PassesOwn.never rfl (ci_seq (ce_var (pv 2))) (cg_name (pg_name (i := 5) sc__law_longest.nd rfl (.inl rfl)) (by decide)) (css_one (cs_for (vs := [6]) PassesOwn.never rfl (ci_range1 (by rfl) M.b_range (co_bor (pv 1))) (cg_name (pg_name (i := 6) sc__law_longest.nd rfl (.inl rfl)) (by decide)) (css_one (cs_dput (hu_of hr) (pv 4) (ce_add (co (ce_add (co (ce_cf (cf_sl (co_bor (pv 5)) cp_none (cp_some (ce_var (pv 6)))))) (co (ce_tup (ca_cons (ce_add (co (ce_ix (co_bor (pv 5)) (co_bor (pv 6)) (fun _ _ => rfl))) (co_bor (pv 3))) ca_nil))))) (co (ce_cf (cf_sl (co_bor (pv 5)) (cp_some (ce_add (co_bor (pv 6)) (co ce_int))) cp_none)))) ce_int)))))
  (css_one (cs_frz (cs_set sc__law_longest.nd rfl (.inl rfl) (cf_lstDT rfl (by rfl) M.b_list (cf_move (pv 4)))))))))
  (css_one (cs_ret (cf_ce (ce_callB (call_min rfl (room_hu64 hr)) cw_min (by rfl) M.b_min boot_min (cos_cons (co (ce_cf (by exact (cf_lc (own := [("row", 5)]) rfl sc__law_longest.nd (ci_seq (ce_var (pv 2))) (blkOk_by (N := ["calls", "crews", "rows", "call", "later", "row", "k"]) (sc := (defScope s__law_longest)) (own := [("row", 5)]) (by first | decide +kernel | rfl)) (fun R s H C cl fp => by exact (cg_name (pg_name (i := 5) sc__law_longest.nd rfl (.inl rfl)) (by decide))) (fun R s H C cl fp => by exact cts_nil) (fun R s H C cl fp => by exact (ce_callB (call_max rfl (room_hu64 hr)) cw_max (by rfl) M.b_max boot_max (cos_cons (co_bor (pv 5)) cos_nil))) (fun _ => rfl))))) cos_nil)))))))
theorem sc_law : FnScope ["script", "draws", "crews", "calls", "k", "best", "row", "factor", "most", "times", "given", "crew", "drawn", "call", "odd", "value"] ["script"] (defScope s_law) := ⟨rfl, rfl, rfl, by decide +kernel, rfl, by decide +kernel, by decide +kernel⟩
def law_s0 : WS := (wRet (wFz (wAndV (wBin gEq (wO (wVal (wLc (wiSeq (wVar 14)) (wgName 15) (wTst (wBin gIsNot (wO (wVal (wCall 1 areW (wAsFz (wVar 15) wAsNil)))) (wO (wC (.bool false))))) (wVar 15) [15]))) (wO (wVal (wLst wNil)))) (wBin gIs (wO (wVal (wCall 1 areW (wAsFz (wTup wNil) wAsNil)))) (wO (wC (.bool true)))))))
def law_s1 : WS := (wSet 14 (wFrz (wLst (wCons (wC .none) (wCons (wVal (wCallF gList (wOcons (wB 3) wOnil))) (wCons (wBin gMul (wO (wTup (wCons (wC (.int 1)) wNil))) (wO (wC (.int 9)))) (wCons (wTup (wCons (wC (.int 0)) wNil)) (wCons (wTup (wCons (wC (.int 61)) wNil)) (wCons (wTup (wCons (wC (.bool true)) wNil)) (wCons (wTup (wCons (wC .none) wNil)) wNil))))))))))
def law_s2 : WS := (wIfS (wNotT (wTru (wO (wVal (wCall 2 (sameW 4) (wAsFz (wVal (wCall 3 timesW (wAsFz (wVar 3) (wAsFz (wVar 2) (wAsFz (wVar 12) wAsNil))))) (wAsFz (wCallB gTuple (wOcons (wO (wVal (wLc (wiRange1 (wB 2)) (wgName 11) wYes (wCallB gSum (wOcons (wO (wVal (wLc (wiRange1 (wO (wCallB gLen (wOcons (wB 3) wOnil)))) (wgName 4) (wTst (wBin gEq (wO (wBin gIx (wB 12) (wB 4))) (wB 11))) (wBin gIx (wB 3) (wB 4)) [4]))) wOnil)) [11]))) wOnil)) wAsNil))))))) (wRet (wFz (wC (.bool false)))) wNext)
def law_s3 : WS := (wSet 12 (wFz (wCallB gTuple (wOcons (wO (wVal (wLc (wiSeq (wVar 3)) (wgName 13) wYes (wVal (wCall 2 takeW (wAsDr 1 (wAsFz (wVar 2) wAsNil)))) [13]))) wOnil))))
def law_s4 : WS := (wIfS (wOrT (wNotT (wTru (wO (wVal (wCall 2 (sameW 4) (wAsFz (wVal (wLst (wCons (wVal (wCall 2 turnsW (wAsFz (wVar 6) (wAsFz (wVar 2) wAsNil)))) (wCons (wVal (wCall 3 timesW (wAsFz (wVar 6) (wAsFz (wVar 2) (wAsFz (wCallB gTuple (wOcons (wB 10) wOnil)) wAsNil))))) wNil)))) (wAsFz (wVal (wLst (wCons (wCallB gTuple (wOcons (wB 10) wOnil)) (wCons (wCallB gTuple (wOcons (wB 9) wOnil)) wNil)))) wAsNil))))))) (wTst (wBin gGt (wO (wBin gMul (wO (wBin gMul (wB 7) (wO (wCallB gMax (wOcons (wB 9) wOnil))))) (wB 2))) (wO (wBin gMul (wB 5) (wB 8)))))) (wRet (wFz (wC (.bool false)))) wNext)
def law_s5 : WS := (wIfS (wTst (wBin gGt (wO (wBin gSub (wO (wCallB gMax (wOcons (wB 9) wOnil))) (wO (wCallB gMin (wOcons (wB 9) wOnil))))) (wO (wCallB gMax (wOcons (wO (wVal (wSl (wB 6) wNo (wSome (wBin gAdd (wB 4) (wO (wC (.int 1)))))))) wOnil))))) (wRet (wFz (wC (.bool false)))) wNext)
def law_s6 : WS := (wAsg (wBin gAdd (wO (wBin gIx (wB 9) (wB 11))) (wO (wBin gIx (wB 6) (wB 4)))) (wgSub 9 (wVar 11)))
def law_s7 : WS := (wSet 11 (wFz (wIdx (wB 9) (wCallB gMin (wOcons (wB 9) wOnil)))))
def law_s8 : WS := (wFor (wiRange1 (wO (wCallB gLen (wOcons (wB 6) wOnil)))) (wgName 4) (wSeq law_s7
  (wSeq law_s6
  (wSeq (wExpr (wAppE 10 (wVar 11)))
  law_s5))))
def law_s9 : WS := (wParF 9 10 (wBinF gMulF (wO (wVal (wLst (wCons (wC (.int 0)) wNil)))) (wB 2)) (wLst wNil))
def law_s10 : WS := (wFor (wiSeq (wVal (wLst (wCons (wTup (wCons (wVar 3) (wCons (wC (.int 1)) (wCons (wBin gSub (wO (wBin gMul (wO (wC (.int 2))) (wB 2))) (wO (wC (.int 1)))) wNil)))) (wCons (wTup (wCons (wCallB gTuple (wOcons (wO (wVal (wRevA (wO (wVal (wCallF gSorted (wOcons (wB 3) wOnil))))))) wOnil)) (wCons (wC (.int 3)) (wCons (wBin gSub (wO (wBin gMul (wO (wC (.int 4))) (wB 2))) (wO (wC (.int 1)))) wNil)))) wNil))))) (wgTup 3 (wgCons (wgName 6) (wgCons (wgName 7) (wgCons (wgName 8) wgNil)))) (wSeq law_s9
  (wSeq law_s8
  law_s4)))
def law_s11 : WS := (wIfS (wNotT (wTru (wO (wVal (wCall 2 (sameW 4) (wAsFz (wVal (wCall 2 bestW (wAsFz (wVar 3) (wAsFz (wVar 2) wAsNil)))) (wAsFz (wVar 5) wAsNil))))))) (wRet (wFz (wC (.bool false)))) wNext)
def law_s12 : WS := (wSet 5 (wFrz (wCall 2 longW (wAsFz (wVar 3) (wAsFz (wVar 2) wAsNil)))))
def law_s13 : WS := (wIfS (wNotT (wTru (wO (wVal (wCall 2 saysW (wAsFz (wVal (wCall 1 areW (wAsFz (wVar 3) wAsNil))) (wAsFz (wC (.bool true)) wAsNil))))))) (wRet (wFz (wC (.bool false)))) wNext)
def law_s14 : WS := (wSet 3 (wFz (wCallB gTuple (wOcons (wO (wVal (wLc (wiRange1 (wO (wVal (wCall 2 takeW (wAsDr 1 (wAsFz (wC (.int 7)) wAsNil)))))) (wgName 4) wYes (wBin gAdd (wO (wC (.int 1))) (wO (wVal (wCall 2 takeW (wAsDr 1 (wAsFz (wBin gIx (wO (wVal (wLst (wCons (wC (.int 6)) (wCons (wC (.int 60)) wNil))))) (wO (wVal (wCall 2 takeW (wAsDr 1 (wAsFz (wC (.int 2)) wAsNil)))))) wAsNil)))))) [4]))) wOnil))))
def law_s15 : WS := (wSet 2 (wFz (wBin gAdd (wO (wC (.int 1))) (wO (wVal (wCall 2 takeW (wAsDr 1 (wAsFz (wC (.int 3)) wAsNil))))))))
def law_s16 : WS := (wIfS (wNotT (wTru (wO (wVal (wCall 1 weeksW (wAsDr 1 wAsNil)))))) (wRet (wFz (wC (.bool false)))) wNext)
def w_law : (Str → Prop) → WS := fun _ => (wSeq (wSet 1 (wFrz (wCall 1 drawsW (wAsSc 0 wAsNil))))
  (wSeq law_s16
  (wSeq law_s15
  (wSeq law_s14
  (wSeq law_s13
  (wSeq law_s12
  (wSeq law_s11
  (wSeq law_s10
  (wSeq law_s3
  (wSeq law_s2
  (wSeq law_s1
  law_s0)))))))))))
def fw_law : FW := fwOf 16 w_law
theorem ok_law {f c : Addr} {fd : FuncData} (F : FunT K "law" s_law f fd c) (C__law_alike : Cal τ P w K mg base 5 "_law_alike" ["found", "due"] (sameW 4)) (C__law_draws : Cal τ P w K mg base 1 "_law_draws" ["script"] drawsW) (C__law_longest : Cal τ P w K mg base 1 "_law_longest" ["calls", "crews"] longW) (C__law_says : Cal τ P w K mg base 1 "_law_says" ["told", "due"] saysW) (C__law_take : Cal τ P w K mg base 1 "_law_take" ["draws", "bound"] takeW) (C__law_weeks : Cal τ P w K mg base 6 "_law_weeks" ["draws"] weeksW) (C_are_calls : Cal τ P w K mg base 3 "are_calls" ["value"] areW) (C_best_longest : Cal τ P w K mg base 1 "best_longest" ["calls", "crews"] bestW) (C_by_turns : Cal τ P w K mg base 1 "by_turns" ["calls", "crews"] turnsW) (C_times_of : Cal τ P w K mg base 1 "times_of" ["calls", "crews", "given"] timesW) (M : Blt K mg) : FnOk P w K mg base CX0 7 f fd ["script"] (spW τ K mg 1 fw_law) :=
  fnT (bw := w_law) F sc_law fun R A outer s H E Ew hr => (css_cons (cs_frz (cs_set sc_law.nd rfl (.inr rfl) (by exact (cf_callC C__law_draws rfl (hr.mono (by decide)) (by rfl) (cas_sc (pv 0) cas_nil) (by decide) (by rfl) (by rfl)))))
  (css_cons (cs_if (ct_not (ct_tru (co (ce_cf (by exact (cf_callC C__law_weeks rfl (hr.mono (by decide)) (by rfl) (cas_dr (pv 1) cas_nil) (by decide) (by rfl) (by rfl))))))) (css_one (cs_ret (cf_ce ce_bl))) css_nil)
  (css_cons (cs_set sc_law.nd rfl (.inr rfl) (cf_ce (ce_add (co ce_int) (co (ce_cf (by exact (cf_callC C__law_take rfl (hr.mono (by decide)) (by rfl) (cas_dr (pv 1) (cas_fz ce_int cas_nil)) (by decide) (by rfl) (by rfl))))))))
  (css_cons (cs_set sc_law.nd rfl (.inr rfl) (cf_ce (ce_callTy call_tuple_of cw_tuple (by rfl) M.b_tuple boot_tuple (cos_cons (co (ce_cf (by exact (cf_lc (own := [("k", 4)]) rfl sc_law.nd (ci_range1 (by rfl) M.b_range (co (ce_cf (by exact (cf_callC C__law_take rfl (hr.mono (by decide)) (by rfl) (cas_dr (pv 1) (cas_fz ce_int cas_nil)) (by decide) (by rfl) (by rfl)))))) (blkOk_by (N := ["script", "draws", "crews", "calls", "k", "best", "row", "factor", "most", "times", "given", "crew", "drawn", "call", "odd", "value"]) (sc := (defScope s_law)) (own := [("k", 4)]) (by first | decide +kernel | rfl)) (fun R s H C cl fp => by exact (cg_name (pg_name (i := 4) sc_law.nd rfl (.inl rfl)) (by decide))) (fun R s H C cl fp => by exact cts_nil) (fun R s H C cl fp => by exact (ce_add (co ce_int) (co (ce_cf (by exact (cf_callC C__law_take rfl (hr.mono (by decide)) (by rfl) (cas_dr (pv 1) (cas_fz (ce_ix (co (ce_cf (cf_lst (ca_cons ce_int (ca_cons ce_int ca_nil))))) (co (ce_cf (by exact (cf_callC C__law_take rfl (hr.mono (by decide)) (by rfl) (cas_dr (pv 1) (cas_fz ce_int cas_nil)) (by decide) (by rfl) (by rfl))))) (fun _ _ => rfl)) cas_nil)) (by decide) (by rfl) (by rfl))))))) (fun _ => rfl))))) cos_nil))))
  (css_cons (cs_if (ct_not (ct_tru (co (ce_cf (by exact (cf_callC C__law_says rfl (hr.mono (by decide)) (by rfl) (cas_fz (ce_cf (by exact (cf_callC C_are_calls rfl (hr.mono (by decide)) (by rfl) (cas_fz (ce_var (pv 3)) cas_nil) (by decide) (by rfl) (by rfl)))) (cas_fz ce_bl cas_nil)) (by decide) (by rfl) (by rfl))))))) (css_one (cs_ret (cf_ce ce_bl))) css_nil)
  (css_cons (cs_frz (cs_set sc_law.nd rfl (.inl rfl) (by exact (cf_callC C__law_longest rfl (hr.mono (by decide)) (by rfl) (cas_fz (ce_var (pv 3)) (cas_fz (ce_var (pv 2)) cas_nil)) (by decide) (by rfl) (by rfl)))))
  (css_cons (cs_if (ct_not (ct_tru (co (ce_cf (by exact (cf_callC C__law_alike rfl (hr.mono (by decide)) (by rfl) (cas_fz (ce_cf (by exact (cf_callC C_best_longest rfl (hr.mono (by decide)) (by rfl) (cas_fz (ce_var (pv 3)) (cas_fz (ce_var (pv 2)) cas_nil)) (by decide) (by rfl) (by rfl)))) (cas_fz (ce_var (pv 5)) cas_nil)) (by decide) (by rfl) (by rfl))))))) (css_one (cs_ret (cf_ce ce_bl))) css_nil)
  (css_cons (cs_for (vs := [6, 7, 8]) PassesOwn.never rfl (ci_seq (ce_cf (cf_lst (ca_cons (ce_tup (ca_cons (ce_var (pv 3)) (ca_cons ce_int (ca_cons (ce_sub (co (ce_mul (co ce_int) (co_bor (pv 2)))) (co ce_int)) ca_nil)))) (ca_cons (ce_tup (ca_cons (ce_callTy call_tuple_of cw_tuple (by rfl) M.b_tuple boot_tuple (cos_cons (co (ce_cf (cf_revA (co (ce_cf (cf_callB (cr_sortV (room_hu64 hr)) cv_sorted (by rfl) M.b_sorted boot_sorted (cos_cons (co_bor (pv 3)) cos_nil))))))) cos_nil)) (ca_cons ce_int (ca_cons (ce_sub (co (ce_mul (co ce_int) (co_bor (pv 2)))) (co ce_int)) ca_nil)))) ca_nil))))) (cg_tup rfl (cgs_cons (cg_name (pg_name (i := 6) sc_law.nd rfl (.inl rfl)) (by decide)) (cgs_cons (cg_name (pg_name (i := 7) sc_law.nd rfl (.inl rfl)) (by decide)) (cgs_cons (cg_name (pg_name (i := 8) sc_law.nd rfl (.inl rfl)) (by decide)) cgs_nil)))) (css_cons (cs_parF rfl sc_law.nd rfl rfl (by decide) rfl rfl (cf_mulL (co (ce_cf (cf_lst (ca_cons ce_int ca_nil)))) (co_bor (pv 2))) (fun R => by exact (cf_lst ca_nil)))
  (css_cons (cs_for (vs := [4]) PassesOwn.never rfl (ci_range1 (by rfl) M.b_range (co (ce_callB call_len cw_len (by rfl) M.b_len boot_len (cos_cons (co_bor (pv 6)) cos_nil)))) (cg_name (pg_name (i := 4) sc_law.nd rfl (.inl rfl)) (by decide)) (css_cons (cs_set sc_law.nd rfl (.inl rfl) (cf_ce (ce_index (room_hu hr) (co_bor (pv 9)) (ce_callB (call_min rfl (room_hu64 hr)) cw_min (by rfl) M.b_min boot_min (cos_cons (co_bor (pv 9)) cos_nil)))))
  (css_cons (cs_asg (vs := []) (ce_add (co (ce_ix (co_bor (pv 9)) (co_bor (pv 11)) (fun _ _ => rfl))) (co (ce_ix (co_bor (pv 6)) (co_bor (pv 4)) (fun _ _ => rfl)))) (cg_sub (pv 9) (ce_var (pv 11))))
  (css_cons (cs_expr (ce_append (pv 10) (ce_var (pv 11))))
  (css_one (cs_if (ct_cmp op_gt ow_gt (co (ce_sub (co (ce_callB (call_max rfl (room_hu64 hr)) cw_max (by rfl) M.b_max boot_max (cos_cons (co_bor (pv 9)) cos_nil))) (co (ce_callB (call_min rfl (room_hu64 hr)) cw_min (by rfl) M.b_min boot_min (cos_cons (co_bor (pv 9)) cos_nil))))) (co (ce_callB (call_max rfl (room_hu64 hr)) cw_max (by rfl) M.b_max boot_max (cos_cons (co (ce_cf (cf_sl (co_bor (pv 6)) cp_none (cp_some (ce_add (co_bor (pv 4)) (co ce_int)))))) cos_nil)))) (css_one (cs_ret (cf_ce ce_bl))) css_nil))))))
  (css_one (cs_if (PW.pt (cw_or (ct_not (ct_tru (co (ce_cf (by exact (cf_callC C__law_alike rfl (hr.mono (by decide)) (by rfl) (cas_fz (ce_cf (cf_lst (ca_cons (ce_cf (by exact (cf_callC C_by_turns rfl (hr.mono (by decide)) (by rfl) (cas_fz (ce_var (pv 6)) (cas_fz (ce_var (pv 2)) cas_nil)) (by decide) (by rfl) (by rfl)))) (ca_cons (ce_cf (by exact (cf_callC C_times_of rfl (hr.mono (by decide)) (by rfl) (cas_fz (ce_var (pv 6)) (cas_fz (ce_var (pv 2)) (cas_fz (ce_callTy call_tuple_of cw_tuple (by rfl) M.b_tuple boot_tuple (cos_cons (co_bor (pv 10)) cos_nil)) cas_nil))) (by decide) (by rfl) (by rfl)))) ca_nil)))) (cas_fz (ce_cf (cf_lst (ca_cons (ce_callTy call_tuple_of cw_tuple (by rfl) M.b_tuple boot_tuple (cos_cons (co_bor (pv 10)) cos_nil)) (ca_cons (ce_callTy call_tuple_of cw_tuple (by rfl) M.b_tuple boot_tuple (cos_cons (co_bor (pv 9)) cos_nil)) ca_nil)))) cas_nil)) (by decide) (by rfl) (by rfl))))))) (cw_one_or (ct_cmp op_gt ow_gt (co (ce_mul (co (ce_mul (co_bor (pv 7)) (co (ce_callB (call_max rfl (room_hu64 hr)) cw_max (by rfl) M.b_max boot_max (cos_cons (co_bor (pv 9)) cos_nil))))) (co_bor (pv 2)))) (co (ce_mul (co_bor (pv 5)) (co_bor (pv 8)))))))) (css_one (cs_ret (cf_ce ce_bl))) css_nil)))))
  (css_cons (cs_set sc_law.nd rfl (.inr rfl) (cf_ce (ce_callTy call_tuple_of cw_tuple (by rfl) M.b_tuple boot_tuple (cos_cons (co (ce_cf (by exact (cf_lc (own := [("call", 13)]) rfl sc_law.nd (ci_seq (ce_var (pv 3))) (blkOk_by (N := ["script", "draws", "crews", "calls", "k", "best", "row", "factor", "most", "times", "given", "crew", "drawn", "call", "odd", "value"]) (sc := (defScope s_law)) (own := [("call", 13)]) (by first | decide +kernel | rfl)) (fun R s H C cl fp => by exact (cg_name (pg_name (i := 13) sc_law.nd rfl (.inl rfl)) (by decide))) (fun R s H C cl fp => by exact cts_nil) (fun R s H C cl fp => by exact (ce_cf (by exact (cf_callC C__law_take rfl (hr.mono (by decide)) (by rfl) (cas_dr (pv 1) (cas_fz (ce_var (pv 2)) cas_nil)) (by decide) (by rfl) (by rfl))))) (fun _ => rfl))))) cos_nil))))
  (css_cons (cs_if (ct_not (ct_tru (co (ce_cf (by exact (cf_callC C__law_alike rfl (hr.mono (by decide)) (by rfl) (cas_fz (ce_cf (by exact (cf_callC C_times_of rfl (hr.mono (by decide)) (by rfl) (cas_fz (ce_var (pv 3)) (cas_fz (ce_var (pv 2)) (cas_fz (ce_var (pv 12)) cas_nil))) (by decide) (by rfl) (by rfl)))) (cas_fz (ce_callTy call_tuple_of cw_tuple (by rfl) M.b_tuple boot_tuple (cos_cons (co (ce_cf (by exact (cf_lc (own := [("crew", 11)]) rfl sc_law.nd (ci_range1 (by rfl) M.b_range (co_bor (pv 2))) (blkOk_by (N := ["script", "draws", "crews", "calls", "k", "best", "row", "factor", "most", "times", "given", "crew", "drawn", "call", "odd", "value"]) (sc := (defScope s_law)) (own := [("crew", 11)]) (by first | decide +kernel | rfl)) (fun R s H C cl fp => by exact (cg_name (pg_name (i := 11) sc_law.nd rfl (.inr rfl)) (by decide))) (fun R s H C cl fp => by exact cts_nil) (fun R s H C cl fp => by exact (ce_callB (cr_sumV rfl) cw_sum (by rfl) M.b_sum boot_sum (cos_cons (co (ce_cf (by exact (cf_lc (own := [("k", 4)]) rfl sc_law.nd (ci_range1 (by rfl) M.b_range (co (ce_callB call_len cw_len (by rfl) M.b_len boot_len (cos_cons (co_bor (pv 3)) cos_nil)))) (blkOk_by (N := ["script", "draws", "crews", "calls", "k", "best", "row", "factor", "most", "times", "given", "crew", "drawn", "call", "odd", "value"]) (sc := _) (own := [("k", 4)]) (by first | decide +kernel | rfl)) (fun R s H C cl fp => by exact (cg_name (pg_name (i := 4) sc_law.nd rfl (.inl rfl)) (by decide))) (fun R s H C cl fp => by exact (cts_one (ct_cmp (op_eqD (room_hu64 hr)) ow_eq (co (ce_ix (co_bor (pv 12)) (co_bor (pv 4)) (fun _ _ => rfl))) (co_bor (pv 11))))) (fun R s H C cl fp => by exact (ce_ix (co_bor (pv 3)) (co_bor (pv 4)) (fun _ _ => rfl))) (fun _ => rfl))))) cos_nil))) (fun _ => rfl))))) cos_nil)) cas_nil)) (by decide) (by rfl) (by rfl))))))) (css_one (cs_ret (cf_ce ce_bl))) css_nil)
  (css_cons (cs_frz (cs_set sc_law.nd rfl (.inl rfl) (cf_lst (ca_cons ce_non (ca_cons (ce_cf (cf_callTy call_list_of cv_list (by rfl) M.b_list boot_list (cos_cons (co_bor (pv 3)) cos_nil))) (ca_cons (ce_mul (co (ce_tup (ca_cons ce_int ca_nil))) (co ce_int)) (ca_cons (ce_tup (ca_cons ce_int ca_nil)) (ca_cons (ce_tup (ca_cons ce_int ca_nil)) (ca_cons (ce_tup (ca_cons ce_bl ca_nil)) (ca_cons (ce_tup (ca_cons ce_non ca_nil)) ca_nil))))))))))
  (css_one (cs_ret (cf_ce (ce_and (ce_cmp (op_eqD (room_hu64 hr)) ow_eq (co (ce_cf (by exact (cf_lc (own := [("value", 15)]) rfl sc_law.nd (ci_seq (ce_var (pv 14))) (blkOk_by (N := ["script", "draws", "crews", "calls", "k", "best", "row", "factor", "most", "times", "given", "crew", "drawn", "call", "odd", "value"]) (sc := (defScope s_law)) (own := [("value", 15)]) (by first | decide +kernel | rfl)) (fun R s H C cl fp => by exact (cg_name (pg_name (i := 15) sc_law.nd rfl (.inl rfl)) (by decide))) (fun R s H C cl fp => by exact (cts_one (ct_cmp or_isnot ow_isnot (co (ce_cf (by exact (cf_callC C_are_calls rfl (hr.mono (by decide)) (by rfl) (cas_fz (ce_var (pv 15)) cas_nil) (by decide) (by rfl) (by rfl))))) (co ce_bl)))) (fun R s H C cl fp => by exact (ce_var (pv 15))) (fun _ => rfl))))) (co (ce_cf (cf_lst ca_nil)))) (ce_one (ce_cmp or_is ow_is (co (ce_cf (by exact (cf_callC C_are_calls rfl (hr.mono (by decide)) (by rfl) (cas_fz (ce_tup ca_nil) cas_nil) (by decide) (by rfl) (by rfl))))) (co ce_bl))))))))))))))))))
end
end Lw
set_option Elab.async false
set_option linter.all false
set_option autoImplicit false
set_option maxRecDepth 100000
set_option maxHeartbeats 1000000
namespace Lw
open PySem PySem.Spec PyProof.Rows L2 VL
abbrev LAW (W F : FW) : Prop := ∀ args Q Ew, W args Q Ew → F args Q Ew
abbrev sT (d : PySem.PyData) : Option VL.Slot := some (.fz d)
abbrev nL (o : List Nat) : List PySem.PyData := o.map (PySem.PyData.int ∘ fun k : Nat => (k : Int))
theorem int_map {α : Type} (l : List α) (g : α → Int) : (l.map fun p => PySem.PyData.int (g p)) = iL (l.map g) := by
  show _ = List.map PySem.PyData.int (List.map g l)
  rw [List.map_map]; rfl
theorem law_says : LAW saysW fw__law_says := by
  intro args Q Ew h
  unfold saysW at h
  split at h
  · rename_i a b
    cases a <;> cases b <;> simpa [fw__law_says, w__law_says] using h
  · exact h.elim
theorem law_week : LAW weekW fw_is_week := by
  intro args Q Ew h
  unfold weekW at h
  split at h
  · rename_i v
    cases v with
    | tuple ds =>
      simp [fw_is_week, w_is_week]
      by_cases h1 : 1 ≤ ds.length
      · by_cases h10 : ds.length ≤ 40
        · simp [show (1 : Int) ≤ (ds.length : Int) by omega, show ¬ 40 < (ds.length : Int) by omega]
          refine quW_pure (fun x => isNum x (-50) 50) (fun x hx Y Z hY hZ => by simpa using hY) ?_
          have hb : isWk (.tuple ds) = ds.all fun x => isNum x (-50) 50 := by simp [isWk, h1, h10]
          rw [hb] at h
          cases hc : ds.all fun x => isNum x (-50) 50 <;> simpa [hc] using h
        · simp [show (1 : Int) ≤ (ds.length : Int) by omega, show 40 < (ds.length : Int) by omega]
          simpa [isWk, h10] using h
      · simp [show ¬ (1 : Int) ≤ (ds.length : Int) by omega]
        simpa [isWk, h1] using h
    | dict _ => simpa [fw_is_week, w_is_week, isWk, show ∀ kv, isiD "tuple" (.dict kv) = false from fun _ => rfl] using h
    | _ => simpa [fw_is_week, w_is_week, isWk] using h
  · exact h.elim
theorem law_are : LAW areW fw_are_calls := by
  intro args Q Ew h
  unfold areW at h
  split at h
  · rename_i v
    cases v with
    | tuple ds =>
      simp [fw_are_calls, w_are_calls]
      by_cases h10 : ds.length ≤ 8
      · simp [show ¬ 8 < (ds.length : Int) by omega]
        refine quW_pure (fun x => isNum x 1 60) (fun x hx Y Z hY hZ => by simpa using hY) ?_
        have hb : areC (.tuple ds) = ds.all fun x => isNum x 1 60 := by simp [areC, h10]
        rw [hb] at h
        cases hc : ds.all fun x => isNum x 1 60 <;> simpa [hc] using h
      · simp [show 8 < (ds.length : Int) by omega]
        simpa [areC, h10] using h
    | dict _ => simpa [fw_are_calls, w_are_calls, areC, show ∀ kv, isiD "tuple" (.dict kv) = false from fun _ => rfl] using h
    | _ => simpa [fw_are_calls, w_are_calls, areC] using h
  · exact h.elim
theorem take_at {c : List Int} {j : Nat} {x : Int} (h : c[j]? = some x) : c.take (j + 1) = c.take j ++ [x] := by
  obtain ⟨hl, e⟩ := List.getElem?_eq_some_iff.mp h
  rw [← e]
  exact (List.take_append_getElem hl).symm
theorem end_hi {w : List Int} {l B : Int} (h0 : 0 ≤ l) (hl : l ≤ B) (h : ∀ x ∈ w, x ≤ 50) : endL l w ≤ B + 50 * w.length := by
  induction w generalizing l B with
  | nil => simp [endL]; omega
  | cons x w ih =>
    have h1 := h x (by simp)
    have := ih (l := max 0 (l + x)) (B := B + 50) (by omega) (by omega) fun y hy => h y (by simp [hy])
    have e : endL l (x :: w) = endL (max 0 (l + x)) w := rfl
    rw [e, List.length_cons]
    omega
theorem law_lvf : LAW lvfW fw_levels_from := by
  intro args Q Ew h
  unfold lvfW at h
  split at h
  · rename_i ds l
    obtain ⟨w, rfl, ok, hl, q⟩ := h
    have l6 := ok.l6
    simp [fw_levels_from, w_levels_from]
    refine forW_ty (xs := w) (enc := PySem.PyData.int) (fun _ j e => ∃ v3, e = [sT (.tuple (iL w)), fi (endL l (w.take j)), some (.ol (iL (lvF l (w.take j)))), v3]) ⟨none, rfl⟩ (fun j x e hj ⟨v3, he⟩ => ?_) (fun e ⟨v3, he⟩ => ?_)
    · subst he
      have hx := ok.pos x (List.mem_of_getElem? hj)
      have h1 := take_at hj
      have h2 := end_nn (w.take j) l hl.1
      have h3 := end_hi (w := w.take j) hl.1 hl.2 fun y hy => (ok.pos y (List.mem_of_mem_take hy)).2
      rw [List.length_take] at h3
      have e1 : endL l (w.take (j + 1)) = max 0 (endL l (w.take j) + x) := by rw [h1, end_app]; rfl
      have e2 : lvF l (w.take (j + 1)) = lvF l (w.take j) ++ [max 0 (endL l (w.take j) + x)] := by rw [h1, lv_app]; rfl
      rw [e1, e2]
      generalize endL l (w.take j) = z at h2 h3
      have hjl : j < w.length := (List.getElem?_eq_some_iff.mp hj).1
      simp
      rw [lv_len, List.length_take]
      omega
    · subst he
      simp
      exact q
  · exact h.elim
theorem law_lev : LAW levW fw_levels := by
  intro args Q Ew h
  unfold levW at h
  split at h
  · rename_i ds
    obtain ⟨w, rfl, ok, q⟩ := h
    simp [fw_levels, w_levels]
    exact ⟨ok, q⟩
  · exact h.elim
theorem last_get {w : List Int} (ok : OkW w) : (lvF 0 w).getLast? = some (lastL w) := by
  have := ok.l1
  rw [List.getLast?_eq_getElem?, lv_len, lastL, List.getD_eq_getElem?_getD, List.getElem?_eq_getElem (by rw [lv_len]; omega)]
  rfl
theorem law_steady : LAW steadyW fw_steady_levels := by
  intro args Q Ew h
  unfold steadyW at h
  split at h
  · rename_i ds
    obtain ⟨w, rfl, ok, q⟩ := h
    have l1 := ok.l1
    have l6 := ok.l6
    have hne : w ≠ [] := fun z => by rw [z] at l1; simp at l1
    have hn := end_nn w 0 (by omega)
    have hh := end_hi (w := w) (l := 0) (B := 0) (by omega) (by omega) fun y hy => (ok.pos y hy).2
    have hlast := last_end hne
    have hg := last_get ok
    simp [fw_steady_levels, w_steady_levels]
    by_cases c : w.sum ≤ 0
    · rw [if_pos c] at q
      rw [if_neg (by omega)]
      refine ⟨ok, _, ⟨lastL w, hg, rfl⟩, _, rfl, ok, by omega, q⟩
    · rw [if_neg c] at q
      rw [if_pos (by omega)]
      exact q
  · exact h.elim
theorem law_worst : LAW worstW fw_worst_level := by
  intro args Q Ew h
  unfold worstW at h
  split at h
  · rename_i ds
    obtain ⟨w, rfl, ok, q⟩ := h
    have l1 := ok.l1
    simp [fw_worst_level, w_worst_level]
    refine ⟨ok, ?_⟩
    unfold worstL at q
    cases hw : lvF 0 w with
    | nil =>
      have := congrArg List.length hw
      rw [lv_len] at this
      simp at this
      rw [this] at l1
      simp at l1
    | cons x r =>
      rw [hw] at q
      simp
      rw [W.maxD_ints]
      exact q
  · exact h.elim
theorem law_told : LAW toldW fw__law_told := by
  intro args Q Ew h
  unfold toldW at h
  split at h
  · rename_i ds
    obtain ⟨w, rfl, ok, q⟩ := h
    unfold toldD at q
    simp [fw__law_told, w__law_told]
    refine ⟨ok, ?_⟩
    by_cases c : w.sum ≤ 0
    · rw [if_pos c] at q ⊢; simpa using q
    · rw [if_neg c] at q ⊢; simpa using q
  · exact h.elim
theorem rep_iL (n : Nat) : List.replicate n (PySem.PyData.int 0) = iL (List.replicate n 0) := by
  simp
theorem tm_nil (k : Nat) : tmP k [] = List.replicate k 0 := by
  refine List.eq_replicate_iff.mpr ⟨tm_len k [], fun v hv => tm0_mem hv⟩
theorem tm_get {k i : Nat} {P : Gv} (h : i < k) : (tmP k P)[i]? = some ((tmP k P).getD i 0) := by
  rw [List.getD_eq_getElem?_getD, List.getElem?_eq_getElem (by rw [tm_len]; exact h)]
  rfl
theorem law_times : LAW timesW fw_times_of := by
  intro args Q Ew h
  unfold timesW at h
  split at h
  · rename_i ds m gs
    obtain ⟨c, g, k, rfl, ok, rfl, hk, rfl, hl, hg, q⟩ := h
    have l6 := ok.l6
    simp [fw_times_of, w_times_of]
    refine ⟨by omega, ?_⟩
    have e0 : List.replicate k (PySem.PyData.int 0) = iL (tmP k []) := by rw [tm_nil, rep_iL]
    rw [e0]
    have e1 : zipD (iL c) (List.map (PySem.PyData.int ∘ fun i : Nat => (i : Int)) g) = (c.zip g).map fun q : Int × Nat => .tuple [.int q.1, .int (q.2 : Nat)] := by
      unfold zipD
      rw [List.zip_map, List.map_map]
      rfl
    rw [e1]
    refine forW_ty (fun _ j e => ∃ v4 v5, e = [sT (.tuple (iL c)), fi (k : Nat), sT (.tuple (nL g)), some (.ol (iL (tmP k ((c.zip g).take j)))), v4, v5]) ⟨none, none, rfl⟩ (fun j x e hj ⟨v4, v5, he⟩ => ?_) (fun e ⟨v4, v5, he⟩ => ?_)
    · subst he
      obtain ⟨x, i⟩ := x
      have hm := List.mem_of_getElem? hj
      have hi : i < k := hg i (List.of_mem_zip hm).2
      have ht : (c.zip g).take (j + 1) = (c.zip g).take j ++ [(x, i)] := by
        obtain ⟨hl, e⟩ := List.getElem?_eq_some_iff.mp hj
        rw [← e]
        exact (List.take_append_getElem hl).symm
      rw [ht, tm_snoc hi]
      have hg2 := tm_get (P := (c.zip g).take j) hi
      have hlen := tm_len k ((c.zip g).take j)
      generalize tmP k ((c.zip g).take j) = t at hg2 hlen
      generalize t.getD i 0 = ti at hg2
      simp [hg2]
      exact ⟨i, ixN_at rfl (by omega), rfl⟩
    · subst he
      simp
      rw [List.take_of_length_le (by simp)]
      exact q
  · exact h.elim
theorem idx_arg {t : List Int} (h : t ≠ []) : idxD (iL t) (.int (minL t)) = some (argM t) := by
  have hl := arg_lt h
  unfold idxD
  rw [List.findIdx?_map]
  have e : ((fun z => PySem.PyData.eqv z (.int (minL t))) ∘ PySem.PyData.int) = fun z => z == minL t := by
    funext z
    simp
  rw [e]
  rw [List.findIdx?_eq_some_iff_findIdx_eq]
  exact ⟨hl, rfl⟩
theorem law_turns : LAW turnsW fw_by_turns := by
  intro args Q Ew h
  unfold turnsW at h
  split at h
  · rename_i ds m
    obtain ⟨c, k, rfl, ok, rfl, hk, q⟩ := h
    have l6 := ok.l6
    simp [fw_by_turns, w_by_turns]
    refine ⟨by omega, ?_⟩
    have e0 : List.replicate k (PySem.PyData.int 0) = iL (tmP k []) := by rw [tm_nil, rep_iL]
    rw [e0]
    refine forW_ty (xs := c) (enc := PySem.PyData.int) (fun _ j e => ∃ v4 v5, e = [sT (.tuple (iL c)), fi (k : Nat), some (.ol (iL (tmP k (grP k (c.take j))))), some (.ol (nL ((grP k (c.take j)).map (·.2)))), v4, v5]) ⟨none, none, rfl⟩ (fun j x e hj ⟨v4, v5, he⟩ => ?_) (fun e ⟨v4, v5, he⟩ => ?_)
    · subst he
      have ht := take_at hj
      have hne := tm_ne hk.1 (grP k (c.take j))
      have hga : (tmP k (grP k (c.take j)))[argM (tmP k (grP k (c.take j)))]? = some (minL (tmP k (grP k (c.take j)))) := by
        have := arg_at hne
        rw [List.getD_eq_getElem?_getD, List.getElem?_eq_getElem (arg_lt hne)] at this
        rw [List.getElem?_eq_getElem (arg_lt hne)]
        exact congrArg some this
      have hix := idx_arg hne
      have hal := arg_lt hne
      have hlen := tm_len k (grP k (c.take j))
      have hgl : (grP k (c.take j)).length ≤ 6 := by
        have := congrArg List.length (gr_way hk.1 (c.take j)).fst
        rw [List.length_map, List.length_take] at this
        omega
      rw [ht, gr_tm hk.1, grP_snoc]
      generalize grP k (c.take j) = P at *
      generalize tmP k P = t at *
      cases t with
      | nil => exact absurd rfl hne
      | cons a t =>
        have em : minL (a :: t) = t.foldl min a := rfl
        simp
        rw [W.minD_ints, ← em]
        have hs : SeqAt.shaped (.int (minL (a :: t))) = true := by rw [shaped_lay]; exact lay_i 64 _
        refine ⟨hs, argM (a :: t), hix, .int (minL (a :: t)), ?_, ⟨_, rfl⟩, argM (a :: t), ixN_at rfl hal, by omega, rfl, rfl⟩
        have := congrArg (Option.map PySem.PyData.int) hga
        rw [← List.getElem?_map] at this
        exact this
    · subst he
      simp
      have e : List.map (PySem.PyData.int ∘ fun q : Int × Nat => (q.2 : Int)) (grP k c) = nL ((grP k c).map (·.2)) := by
        unfold nL
        rw [List.map_map]
        rfl
      simp at q
      rw [e] at q
      simpa using q
  · exact h.elim
end Lw
set_option Elab.async false
set_option linter.all false
set_option autoImplicit false
set_option maxRecDepth 100000
set_option maxHeartbeats 1000000
namespace Lw
open PySem PySem.Spec PyProof.Rows L2 VL
/-! ### the rows of all ways, by steps -/
abbrev Stp := List Int → Int → Nat → List Int
def stA : Stp := fun t x i => t.set i (t.getD i 0 + x)
def stS : Stp := fun t x i => sortI (t.set i (t.getD i 0 + x))
def nextR (k : Nat) (f : Stp) (L : List (List Int)) (x : Int) : List (List Int) := uniq (L.flatMap fun t => (List.range k).map fun i => f t x i)
def rowsR (k : Nat) (f : Stp) (c : List Int) : List (List Int) := c.foldl (nextR k f) [List.replicate k 0]
theorem rowsR_snoc (k : Nat) (f : Stp) (c : List Int) (x : Int) : rowsR k f (c ++ [x]) = nextR k f (rowsR k f c) x := by simp [rowsR]
theorem next_len (k : Nat) (f : Stp) (L : List (List Int)) (x : Int) : (nextR k f L x).length ≤ L.length * k := by
  refine Nat.le_trans (uniq_len _) ?_
  induction L with
  | nil => simp
  | cons t L ih =>
    rw [List.flatMap_cons, List.length_append, List.length_cons, Nat.add_mul, List.length_map, List.length_range]
    omega
theorem rows_len {k : Nat} (hk : k ≤ 3) (f : Stp) (c : List Int) : (rowsR k f c).length ≤ 3 ^ c.length := by
  refine snoc_ind (p := fun c => (rowsR k f c).length ≤ 3 ^ c.length) (by simp [rowsR]) (fun c x ih => ?_) c
  rw [rowsR_snoc, List.length_append, List.length_singleton, Nat.pow_succ]
  exact Nat.le_trans (next_len _ _ _ _) (Nat.mul_le_mul ih hk)
theorem rows_k {k : Nat} {f : Stp} (hf : ∀ t x i, (f t x i).length = t.length) (c : List Int) : ∀ t ∈ rowsR k f c, t.length = k := by
  refine snoc_ind (p := fun c => ∀ t ∈ rowsR k f c, t.length = k) (by simp [rowsR]) (fun c x ih t ht => ?_) c
  rw [rowsR_snoc, nextR, mem_uniq] at ht
  obtain ⟨s, hs, ht⟩ := List.mem_flatMap.mp ht
  obtain ⟨i, _, rfl⟩ := List.mem_map.mp ht
  rw [hf]
  exact ih s hs
theorem rowsA {k : Nat} (c : List Int) : ∀ t, t ∈ rowsR k stA c ↔ ∃ P, Way k c P ∧ tmP k P = t := by
  refine snoc_ind (p := fun c => ∀ t, t ∈ rowsR k stA c ↔ ∃ P, Way k c P ∧ tmP k P = t) (fun t => ?_) (fun c x ih t => ?_) c
  · simp only [rowsR, List.foldl_nil, List.mem_singleton]
    constructor
    · rintro rfl
      exact ⟨[], ⟨rfl, by simp⟩, tm_nil k⟩
    · rintro ⟨P, W, rfl⟩
      rw [List.map_eq_nil_iff.mp W.fst, tm_nil]
  · rw [rowsR_snoc, nextR, mem_uniq, List.mem_flatMap]
    constructor
    · rintro ⟨s, hs, ht⟩
      obtain ⟨i, hi, rfl⟩ := List.mem_map.mp ht
      obtain ⟨P, W, rfl⟩ := (ih s).mp hs
      exact ⟨_, way_snoc W (List.mem_range.mp hi), tm_snoc (List.mem_range.mp hi)⟩
    · rintro ⟨P, W, rfl⟩
      obtain ⟨R, hR, hP⟩ := List.mem_flatMap.mp (by
        have := (mem_allP (c ++ [x]) P).mpr W
        rwa [allP_snoc] at this)
      obtain ⟨i, hi, rfl⟩ := List.mem_map.mp hP
      exact ⟨tmP k R, (ih _).mpr ⟨R, (mem_allP c R).mp hR, rfl⟩, List.mem_map.mpr ⟨i, hi, (tm_snoc (List.mem_range.mp hi)).symm⟩⟩
theorem set_perm {s : List Int} {i : Nat} (h : i < s.length) (v : Int) : (s.set i v).Perm (v :: s.eraseIdx i) := by
  induction s generalizing i with
  | nil => simp at h
  | cons a s ih =>
    cases i with
    | zero => exact .refl _
    | succ i => exact ((ih (by simpa using h)).cons a).trans (.swap _ _ _)
theorem erase_perm {s : List Int} {i : Nat} (h : i < s.length) : s.Perm (s.getD i 0 :: s.eraseIdx i) := by
  have := set_perm h (s.getD i 0)
  have e : s.set i (s.getD i 0) = s := by simp [h]
  rwa [e] at this
theorem perm_set {s t : List Int} (p : s.Perm t) {i : Nat} (h : i < s.length) : ∃ j, j < t.length ∧ s.getD i 0 = t.getD j 0 ∧ ∀ v, (s.set i v).Perm (t.set j v) := by
  have hm : s.getD i 0 ∈ t := p.mem_iff.mp (by simp [h])
  obtain ⟨j, hj, e⟩ := List.mem_iff_getElem.mp hm
  have e2 : t.getD j 0 = s.getD i 0 := by simp [hj, e]
  refine ⟨j, hj, e2.symm, fun v => ?_⟩
  refine (set_perm h v).trans (List.Perm.trans ?_ (set_perm hj v).symm)
  refine List.Perm.cons v ?_
  have a := (erase_perm h).symm.trans (p.trans (erase_perm hj))
  rw [e2] at a
  exact a.cons_inv
theorem rowsS {k : Nat} (c : List Int) : ∀ t, t ∈ rowsR k stS c ↔ ∃ s ∈ rowsR k stA c, sortI s = t := by
  refine snoc_ind (p := fun c => ∀ t, t ∈ rowsR k stS c ↔ ∃ s ∈ rowsR k stA c, sortI s = t) (fun t => ?_) (fun c x ih t => ?_) c
  · have e : sortI (List.replicate k 0) = List.replicate k 0 := by
      have p := isort_perm leI (List.replicate k (0 : Int))
      exact List.eq_replicate_iff.mpr ⟨by rw [isort_len]; simp, fun v hv => by
        have := p.mem_iff.mp hv
        simp at this
        exact this.2⟩
    simp only [rowsR, List.foldl_nil, List.mem_singleton]
    constructor
    · rintro rfl; exact ⟨_, rfl, e⟩
    · rintro ⟨s, rfl, rfl⟩; exact e
  · rw [rowsR_snoc, rowsR_snoc, nextR, nextR, mem_uniq]
    simp only [mem_uniq, List.mem_flatMap, List.mem_map, List.mem_range]
    have hl := rows_k (k := k) (f := stA) (fun t x i => by simp [stA]) c
    constructor
    · rintro ⟨s, hs, i, hi, rfl⟩
      obtain ⟨s0, hs0, rfl⟩ := (ih s).mp hs
      have p := isort_perm leI s0
      have h0 := hl s0 hs0
      obtain ⟨j, hj, e1, e2⟩ := perm_set p (i := i) (by rw [isort_len]; omega)
      refine ⟨_, ⟨s0, hs0, j, by omega, rfl⟩, ?_⟩
      unfold stA stS
      rw [e1]
      exact (sortI_of_perm (e2 _)).symm
    · rintro ⟨s, ⟨s0, hs0, i, hi, rfl⟩, rfl⟩
      have p := (isort_perm leI s0).symm
      have h0 := hl s0 hs0
      obtain ⟨j, hj, e1, e2⟩ := perm_set p (i := i) (by omega)
      rw [isort_len] at hj
      refine ⟨sortI s0, (ih _).mpr ⟨s0, hs0, rfl⟩, j, by omega, ?_⟩
      unfold stA stS
      rw [e1]
      exact (sortI_of_perm (e2 _)).symm
theorem max_perm {s t : List Int} (p : s.Perm t) : maxL s = maxL t := maxL_congr fun x => p.mem_iff
theorem long_A {k : Nat} (c : List Int) : minL ((rowsR k stA c).map maxL) = longL k c := by
  refine minL_congr fun v => ?_
  rw [List.mem_map, List.mem_map]
  constructor
  · rintro ⟨t, ht, rfl⟩
    obtain ⟨P, W, rfl⟩ := (rowsA c t).mp ht
    exact ⟨P, (mem_allP c P).mpr W, rfl⟩
  · rintro ⟨P, hP, rfl⟩
    exact ⟨tmP k P, (rowsA c _).mpr ⟨P, (mem_allP c P).mp hP, rfl⟩, rfl⟩
theorem long_S {k : Nat} (c : List Int) : minL ((rowsR k stS c).map maxL) = longL k c := by
  rw [← long_A]
  refine minL_congr fun v => ?_
  rw [List.mem_map, List.mem_map]
  constructor
  · rintro ⟨t, ht, rfl⟩
    obtain ⟨s, hs, rfl⟩ := (rowsS c t).mp ht
    exact ⟨s, hs, (max_perm (isort_perm leI s)).symm⟩
  · rintro ⟨t, ht, rfl⟩
    exact ⟨sortI t, (rowsS c _).mpr ⟨t, ht, rfl⟩, max_perm (isort_perm leI t)⟩
theorem rows_ne {k : Nat} (hk : 1 ≤ k) (c : List Int) : rowsR k stA c ≠ [] := List.ne_nil_of_mem ((rowsA c _).mpr ⟨_, gr_way hk c, rfl⟩)
theorem rowsS_ne {k : Nat} (hk : 1 ≤ k) (c : List Int) : rowsR k stS c ≠ [] := List.ne_nil_of_mem ((rowsS c _).mpr ⟨_, (rowsA c _).mpr ⟨_, gr_way hk c, rfl⟩, rfl⟩)
theorem flat_take {L : List (List Int)} {i : Nat} {t : List Int} (h : L[i]? = some t) (g : List Int → List (List Int)) : (L.take (i + 1)).flatMap g = (L.take i).flatMap g ++ g t := by
  obtain ⟨hl, e⟩ := List.getElem?_eq_some_iff.mp h
  rw [← List.take_append_getElem hl, List.flatMap_append, e]
  simp
theorem stA_eq {t : List Int} {i : Nat} (hi : i < t.length) (x : Int) : t.take i ++ ((t.getD i 0 + x) :: t.drop (i + 1)) = stA t x i := by
  rw [stA, List.set_eq_take_append_cons_drop, if_pos hi]
theorem max_int {t : List Int} (h : t ≠ []) : ∃ a r, t = a :: r ∧ W.maxD (.int a) (iL r) = .int (maxL t) := by
  cases t with
  | nil => exact absurd rfl h
  | cons a r => exact ⟨a, r, rfl, W.maxD_ints a r⟩
theorem law_long : LAW longW fw__law_longest := by
  intro args Q Ew h
  unfold longW at h
  split at h
  · rename_i ds m
    obtain ⟨c, k, rfl, ok, rfl, hk, q⟩ := h
    have l6 := ok.l6
    simp [fw__law_longest, w__law_longest]
    refine ⟨by omega, ?_⟩
    have e0 : [PySem.PyData.tuple (List.replicate k (PySem.PyData.int 0))] = (rowsR k stA []).map encT := by simp [rowsR, encT]
    rw [e0]
    refine forW_ty (xs := c) (enc := PySem.PyData.int) (fun _ j e => ∃ v3 v4 v5 v6, nO v5 ∧ e = [sT (.tuple (iL c)), fi (k : Nat), sT (.list ((rowsR k stA (c.take j)).map encT)), v3, v4, v5, v6]) ⟨none, none, none, none, nO_none, rfl⟩ (fun j x e hj ⟨v3, v4, v5, v6, n5, he⟩ => ?_) (fun e ⟨v3, v4, v5, v6, n5, he⟩ => ?_)
    · subst he
      have ht := take_at hj
      have hkk := rows_k (k := k) (f := stA) (fun t x i => by simp [stA]) (c.take j)
      rw [ht, rowsR_snoc]
      have hlen := rows_len hk.2 stA (c.take j)
      have hlen2 : (rowsR k stA (c.take j)).length ≤ 729 := by
        refine Nat.le_trans hlen ?_
        rw [List.length_take]
        exact Nat.le_trans (Nat.pow_le_pow_right (by omega) (show min j c.length ≤ 6 by omega)) (by decide)
      generalize rowsR k stA (c.take j) = L at hkk hlen2
      simp
      refine forW_ty (xs := L) (enc := encT) (fun _ i e => ∃ v5 v6, nO v5 ∧ e = [sT (.tuple (iL c)), fi (k : Nat), sT (.list (L.map encT)), fi x, some (.ot (kvR (.int 1) (uniq ((L.take i).flatMap fun t => (List.range k).map fun i => stA t x i)))), v5, v6]) ⟨v5, v6, n5, by simp [uniq, kvR]⟩ (fun i t e hi ⟨v5, v6, n5, he⟩ => ?_) (fun e ⟨v5, v6, n5, he⟩ => ?_)
      · subst he
        have hkt := hkk t (List.mem_of_getElem? hi)
        rw [flat_take hi]
        have hil : i ≤ 729 := by
          have := (List.getElem?_eq_some_iff.mp hi).1
          omega
        have hfl : ((L.take i).flatMap fun t => (List.range k).map fun i => stA t x i).length ≤ 729 * 3 := by
          have : ∀ M : List (List Int), M.length ≤ 729 → (M.flatMap fun t => (List.range k).map fun i => stA t x i).length ≤ M.length * 3 := fun M _ => by
            induction M with
            | nil => simp
            | cons s M ih => rw [List.flatMap_cons, List.length_append]; simp; have := ih (by simp at *; omega); simp at this; omega
          have h1 := this (L.take i) (by rw [List.length_take]; omega)
          have h2 : (L.take i).length ≤ 729 := by rw [List.length_take]; omega
          omega
        generalize (L.take i).flatMap (fun t => (List.range k).map fun i => stA t x i) = acc at hfl
        simp
        refine ⟨by omega, ?_⟩
        refine forW_rngE (n := k) (fun _ y e => ∃ v6, e = [sT (.tuple (iL c)), fi (k : Nat), sT (.list (L.map encT)), fi x, some (.ot (kvR (.int 1) (uniq (acc ++ (List.range y).map fun i => stA t x i)))), sT (encT t), v6]) ⟨v6, by simp⟩ (fun y e hy ⟨v6, he⟩ => ?_) (fun e ⟨v6, he⟩ => ?_)
        · subst he
          have hyt : y < t.length := by omega
          have e1 : (iL t)[y]? = some (.int (t.getD y 0)) := by simp [hyt]
          have c1 : VL.cutD (iL t) none (some (y : Int)) = iL (t.take y) := by rw [cutD_take, ← List.map_take]
          have c2 : VL.cutD (iL t) (some ((y : Int) + 1)) none = iL (t.drop (y + 1)) := by rw [show (y : Int) + 1 = ((y + 1 : Nat) : Int) by omega, cutD_drop, ← List.map_drop]
          have e2 := stA_eq hyt x
          have hul := uniq_len (acc ++ (List.range y).map fun i => stA t x i)
          rw [List.length_append, List.length_map, List.length_range] at hul
          have e3 : acc ++ (List.range (y + 1)).map (fun i => stA t x i) = (acc ++ (List.range y).map fun i => stA t x i) ++ [stA t x y] := by
            rw [List.range_succ, List.map_append, List.append_assoc]; rfl
          rw [e3, ← putR_uniq]
          generalize acc ++ (List.range y).map (fun i => stA t x i) = acc2 at hul
          generalize stA t x y = s at e2
          generalize hty : t.getD y 0 = z at e1 e2
          have e4 : keysOf (List.take y (iL t) ++ .int (z + x) :: List.drop (y + 1) (iL t)) = some (kI s) := by
            rw [← keysOf_ints, ← e2]; simp
          simp only [encT]
          generalize hit : iL t = it at e1 c1 c2 e4
          simp [e1, c1, c2]
          rw [← hit] at e4
          have hkl := kvR_len (.int 1) (uniq acc2)
          refine ⟨by omega, by omega, _, e4, by omega, rfl⟩
        · subst he
          exact ⟨_, nO_fz _, _, rfl⟩
      · subst he
        simp
        exact ⟨_, _, _, n5, kvR_keys _ _, rfl, rfl, rfl⟩
    · subst he
      rw [List.take_length]
      have hkk := rows_k (k := k) (f := stA) (fun t x i => by simp [stA]) c
      have hlen := rows_len hk.2 stA c
      have hlen2 : (rowsR k stA c).length ≤ 729 := by
        refine Nat.le_trans hlen ?_
        exact Nat.le_trans (Nat.pow_le_pow_right (by omega) l6) (by decide)
      have hL := long_A (k := k) c
      have hne := rows_ne hk.1 c
      generalize rowsR k stA c = L at hkk hlen2 hL hne
      simp
      refine ⟨n5, ?_⟩
      refine lcW_map (fun t : List Int => .int (maxL t)) (by rw [sizeLine_is]; omega) (fun t ht Y hY => ?_) ?_
      · have htn : t ≠ [] := fun z => by
          have := hkk t ht
          rw [z] at this
          simp at this
          omega
        obtain ⟨a, r, rfl, e⟩ := max_int htn
        simp [encT]
        rw [e]
        simpa using hY
      · rw [int_map]
        cases hm : L.map maxL with
        | nil => exact absurd (List.map_eq_nil_iff.mp hm) hne
        | cons a r =>
          rw [hm] at hL
          simp
          rw [W.minD_ints]
          unfold longL at q hL
          rw [← hL] at q
          exact q
  · exact h.elim
end Lw
set_option Elab.async false
set_option linter.all false
set_option autoImplicit false
set_option maxRecDepth 100000
set_option maxHeartbeats 1000000
namespace Lw
open PySem PySem.Spec PyProof.Rows L2 VL
theorem stS_len (t : List Int) (x : Int) (i : Nat) : (stS t x i).length = t.length := by unfold stS; rw [isort_len, List.length_set]
theorem law_best : LAW bestW fw_best_longest := by
  intro args Q Ew h
  unfold bestW at h
  split at h
  · rename_i ds m
    obtain ⟨c, k, rfl, ok, rfl, hk, q⟩ := h
    have l6 := ok.l6
    simp [fw_best_longest, w_best_longest]
    have e0 : keysOf (List.replicate k (PySem.PyData.int 0)) = some (kI (List.replicate k 0)) := by rw [← keysOf_ints]; simp
    refine ⟨by omega, _, e0, ?_⟩
    have e1 : [(kI (List.replicate k (0 : Int)), PySem.PyData.bool true)] = kvR (.bool true) (rowsR k stS []) := by simp [rowsR, kvR]
    rw [e1]
    refine forW_ty (xs := c) (enc := PySem.PyData.int) (fun _ j e => ∃ v3 v4 v5 v6 v7, nO v5 ∧ e = [sT (.tuple (iL c)), fi (k : Nat), some (.ot (kvR (.bool true) (rowsR k stS (c.take j)))), v3, v4, v5, v6, v7]) ⟨none, none, none, none, none, nO_none, rfl⟩ (fun j x e hj ⟨v3, v4, v5, v6, v7, n5, he⟩ => ?_) (fun e ⟨v3, v4, v5, v6, v7, n5, he⟩ => ?_)
    · subst he
      have ht := take_at hj
      have hkk := rows_k (k := k) (f := stS) (fun t x i => stS_len t x i) (c.take j)
      rw [ht, rowsR_snoc]
      have hlen := rows_len hk.2 stS (c.take j)
      have hlen2 : (rowsR k stS (c.take j)).length ≤ 729 := by
        refine Nat.le_trans hlen ?_
        rw [List.length_take]
        exact Nat.le_trans (Nat.pow_le_pow_right (by omega) (show min j c.length ≤ 6 by omega)) (by decide)
      generalize rowsR k stS (c.take j) = L at hkk hlen2
      simp
      have e2 : (kvR (.bool true) L).map (fun kv => keyT kv.1) = L.map encT := kvR_keys _ _
      rw [e2]
      refine forW_ty (xs := L) (enc := encT) (fun _ i e => ∃ v5 v6 v7, nO v5 ∧ e = [sT (.tuple (iL c)), fi (k : Nat), none, fi x, some (.ot (kvR (.bool true) (uniq ((L.take i).flatMap fun t => (List.range k).map fun i => stS t x i)))), v5, v6, v7]) ⟨v5, v6, v7, n5, by simp [uniq, kvR]⟩ (fun i t e hi ⟨v5, v6, v7, n5, he⟩ => ?_) (fun e ⟨v5, v6, v7, n5, he⟩ => ?_)
      · subst he
        have hkt := hkk t (List.mem_of_getElem? hi)
        rw [flat_take hi]
        have hil : i ≤ 729 := by
          have := (List.getElem?_eq_some_iff.mp hi).1
          omega
        have hfl : ((L.take i).flatMap fun t => (List.range k).map fun i => stS t x i).length ≤ 729 * 3 := by
          have : ∀ M : List (List Int), M.length ≤ 729 → (M.flatMap fun t => (List.range k).map fun i => stS t x i).length ≤ M.length * 3 := fun M _ => by
            induction M with
            | nil => simp
            | cons s M ih => rw [List.flatMap_cons, List.length_append]; simp; have := ih (by simp at *; omega); simp at this; omega
          have h1 := this (L.take i) (by rw [List.length_take]; omega)
          have h2 : (L.take i).length ≤ 729 := by rw [List.length_take]; omega
          omega
        generalize (L.take i).flatMap (fun t => (List.range k).map fun i => stS t x i) = acc at hfl
        simp
        refine ⟨by omega, ?_⟩
        refine forW_rngE (n := k) (fun _ y e => ∃ v6 v7, e = [sT (.tuple (iL c)), fi (k : Nat), none, fi x, some (.ot (kvR (.bool true) (uniq (acc ++ (List.range y).map fun i => stS t x i)))), sT (encT t), v6, v7]) ⟨v6, v7, by simp⟩ (fun y e hy ⟨v6, v7, he⟩ => ?_) (fun e ⟨v6, v7, he⟩ => ?_)
        · subst he
          have hyt : y < t.length := by omega
          have e1 : (iL t)[y]? = some (.int (t.getD y 0)) := by simp [hyt]
          have c1 : VL.cutD (iL t) none (some (y : Int)) = iL (t.take y) := by rw [cutD_take, ← List.map_take]
          have c2 : VL.cutD (iL t) (some ((y : Int) + 1)) none = iL (t.drop (y + 1)) := by rw [show (y : Int) + 1 = ((y + 1 : Nat) : Int) by omega, cutD_drop, ← List.map_drop]
          have e2 : t.take y ++ ((t.getD y 0 + x) :: t.drop (y + 1)) = t.set y (t.getD y 0 + x) := by rw [List.set_eq_take_append_cons_drop, if_pos hyt]
          have hs : stS t x y = sortI (t.set y (t.getD y 0 + x)) := rfl
          have hul := uniq_len (acc ++ (List.range y).map fun i => stS t x i)
          rw [List.length_append, List.length_map, List.length_range] at hul
          have e3 : acc ++ (List.range (y + 1)).map (fun i => stS t x i) = (acc ++ (List.range y).map fun i => stS t x i) ++ [stS t x y] := by
            rw [List.range_succ, List.map_append, List.append_assoc]; rfl
          rw [e3, ← putR_uniq, hs]
          generalize acc ++ (List.range y).map (fun i => stS t x i) = acc2 at hul
          generalize hty : t.getD y 0 = z at e1 e2
          generalize t.set y (z + x) = s at e2
          have e4 : List.take y (iL t) ++ .int (z + x) :: List.drop (y + 1) (iL t) = iL s := by
            rw [← e2]; simp
          simp only [encT]
          generalize hit : iL t = it at e1 c1 c2 e4
          simp [e1, c1, c2]
          rw [← hit] at e4
          rw [e4]
          have hkl := kvR_len (.bool true) (uniq acc2)
          refine ⟨by omega, okSort_ints s, kI (sortI s), by rw [sortD_ints, keysOf_ints], by omega, rfl⟩
        · subst he
          exact ⟨_, nO_fz _, _, _, rfl⟩
      · subst he
        simp
        exact ⟨_, _, _, n5, rfl, rfl, rfl, rfl⟩
    · subst he
      rw [List.take_length]
      have hkk := rows_k (k := k) (f := stS) (fun t x i => stS_len t x i) c
      have hlen := rows_len hk.2 stS c
      have hlen2 : (rowsR k stS c).length ≤ 729 := by
        refine Nat.le_trans hlen ?_
        exact Nat.le_trans (Nat.pow_le_pow_right (by omega) l6) (by decide)
      have hL := long_S (k := k) c
      have hne := rowsS_ne hk.1 c
      generalize rowsR k stS c = L at hkk hlen2 hL hne
      simp
      have e2 : (kvR (.bool true) L).map (fun kv => keyT kv.1) = L.map encT := kvR_keys _ _
      rw [e2]
      refine ⟨n5, ?_⟩
      refine lcW_map (fun t : List Int => .int (maxL t)) (by rw [sizeLine_is]; omega) (fun t ht Y hY => ?_) ?_
      · have htn : t ≠ [] := fun z => by
          have := hkk t ht
          rw [z] at this
          simp at this
          omega
        obtain ⟨a, r, rfl, e⟩ := max_int htn
        simp [encT]
        rw [e]
        simpa using hY
      · rw [int_map]
        cases hm : L.map maxL with
        | nil => exact absurd (List.map_eq_nil_iff.mp hm) hne
        | cons a r =>
          rw [hm] at hL
          simp
          rw [W.minD_ints]
          unfold longL at q hL
          rw [← hL] at q
          exact q
  · exact h.elim
end Lw
set_option Elab.async false
set_option linter.all false
set_option autoImplicit false
set_option maxRecDepth 100000
set_option maxHeartbeats 1000000
namespace Lw
open PySem PySem.Spec PyProof.Rows L2 VL
theorem cut_mid (xs : List PySem.PyData) (a b : Nat) : VL.cutD xs (some (a : Int)) (some (b : Int)) = (xs.take b).drop a := by
  unfold VL.cutD
  rw [sIx_nat, sIx_nat]
  apply List.ext_getElem?
  intro i
  rw [List.getElem?_take, List.getElem?_drop, List.getElem?_drop, List.getElem?_take]
  by_cases h1 : a ≤ xs.length
  · rw [Nat.min_eq_left h1]
    by_cases h2 : b ≤ xs.length
    · rw [Nat.min_eq_left h2]
      by_cases h3 : i < b - a
      · rw [if_pos h3, if_pos (by omega)]
      · rw [if_neg h3, if_neg (by omega)]
    · rw [Nat.min_eq_right (by omega)]
      by_cases h3 : i < xs.length - a
      · rw [if_pos h3, if_pos (by omega)]
      · rw [if_neg h3]
        split
        · rw [List.getElem?_eq_none (by omega)]
        · rfl
  · rw [Nat.min_eq_right (a := a) (by omega)]
    rw [if_neg (by omega)]
    split
    · rw [List.getElem?_eq_none (by omega)]
    · rfl
theorem law_tired : LAW tiredW fw__law_tired := by
  intro args Q Ew h
  unfold tiredW at h
  split at h
  · rename_i ds
    obtain ⟨w, rfl, l40, hw, q⟩ := h
    simp [fw__law_tired, w__law_tired]
    refine ⟨by omega, lcW_rngM (fun i : Nat => .int ((lvF 0 w).getD i 0)) (by rw [sizeLine_is]; omega) (fun i hi Y hY => ?_) ?_⟩
    · simp
      refine ⟨by omega, ?_⟩
      have hr := tired_at hi
      refine lcW_rngM (fun b : Nat => .int ((w.take (i + 1)).drop b).sum) (by rw [sizeLine_is]; omega) (fun b hb Y2 hY2 => ?_) ?_
      · simp only [wgName]
        simp
        have c1 : VL.cutD (iL w) (some (b : Int)) (some ((i : Int) + 1)) = iL ((w.take (i + 1)).drop b) := by
          rw [show (i : Int) + 1 = ((i + 1 : Nat) : Int) by omega, cut_mid]
          simp
        simp [c1]
        exact ⟨_, by rw [← List.map_take, ← List.map_drop]; exact numsD_iL _, hY2⟩
      · rw [int_map]
        simp
        refine ⟨by omega, ?_⟩
        have e : List.map (PySem.PyData.int ∘ fun b => ((w.take (i + 1)).drop b).sum) (List.range (i + 1)) = iL ((List.range (i + 1)).map fun b => ((w.take (i + 1)).drop b).sum) := by simp
        rw [e]
        generalize (List.range (i + 1)).map (fun b => ((w.take (i + 1)).drop b).sum) = l at hr
        rw [W.maxD_ints]
        refine ⟨okBest_ints 0 l, ?_⟩
        rw [← hr] at hY
        exact hY
    · rw [int_map]
      have e : (List.range w.length).map (fun i => (lvF 0 w).getD i 0) = lvF 0 w := by
        refine List.ext_getElem (by simp [lv_len]) fun j h1 h2 => ?_
        simp [h2]
      rw [e]
      exact q
  · exact h.elim
end Lw
set_option Elab.async false
set_option linter.all false
set_option autoImplicit false
set_option maxRecDepth 100000
set_option maxHeartbeats 1000000
namespace Lw
open PySem PySem.Spec PyProof.Rows L2 VL
theorem seq_assoc (a b c : WS) : wSeq (wSeq a b) c = wSeq a (wSeq b c) := rfl
theorem seq_do (a b : WS) (D : WD) (e : PEnv) : wSeq a b D e = a ⟨b D, D.rt, D.bk, D.ct⟩ e := rfl
theorem sameW_eq {n : Nat} {a b : PySem.PyData} {Q : VL.Slot → Prop} {Ew : Str → Prop} (e : a = b) (h : okD n a) (k : Q (.fz (.bool true))) : sameW n [.fz a, .fz b] Q Ew := by
  subst e
  exact ⟨h, h, fun _ => k, fun n => absurd rfl n⟩
theorem okD_ints {n : Nat} (l : List Int) (h : l.length ≤ 1000000) : okD (n + 1) (.tuple (iL l)) := ⟨by simpa using h, fun x hx => by obtain ⟨z, _, rfl⟩ := List.mem_map.mp hx; simp [okD]⟩
theorem okW_is {w : List Int} (ok : OkW w) : isWk (.tuple (iL w)) = true := by
  have h1 := ok.l1
  have h6 := ok.l6
  have h2 : (iL w).all (fun x => isNum x (-50) 50) = true := by
    rw [List.all_eq_true]
    intro x hx
    obtain ⟨z, hz, rfl⟩ := List.mem_map.mp hx
    have := ok.pos z hz
    simp [isNum]
    omega
  show (decide (1 ≤ (iL w).length) && (decide ((iL w).length ≤ 40) && (iL w).all fun x => isNum x (-50) 50)) = true
  rw [h2]
  simp
  omega
abbrev EW (v1 : Option VL.Slot) (w : List Int) (v3 v5 v6 v7 v8 v9 v10 : Option VL.Slot) : PEnv :=
  [some .dr, v1, sT (.tuple (iL w)), v3, fi (w.length : Nat), v5, v6, v7, v8, v9, v10]
abbrev dueW (w : List Int) : List Int := lvF 0 (w ++ (w ++ (w ++ w)))
section
variable {D : WD} {w : List Int} {v1 v3 v5 v6 v7 v8 v9 v10 : Option VL.Slot}
theorem w11_ok (k : ∀ z : Int, (2 ≤ z ∧ z ≤ 50) → D.nx [some .dr, fi z, none, none, none, none, none, none, none, none, none]) :
    _law_weeks_s11 D [some .dr, none, none, none, none, none, none, none, none, none, none] := by
  simp [_law_weeks_s11]
  intro v v0 v1
  have hv : v = 0 ∨ v = 1 ∨ v = 2 := by omega
  rcases hv with rfl | rfl | rfl
  · exact ⟨_, rfl, k 2 (by omega)⟩
  · exact ⟨_, rfl, k 9 (by omega)⟩
  · exact ⟨_, rfl, k 50 (by omega)⟩
theorem w10_ok {z : Int} (hz : 2 ≤ z ∧ z ≤ 50) (k : ∀ w, OkW w → w.length ≤ 9 → D.nx [some .dr, fi z, sT (.tuple (iL w)), none, none, none, none, none, none, none, none]) :
    _law_weeks_s10 D [some .dr, fi z, none, none, none, none, none, none, none, none, none] := by
  simp [_law_weeks_s10]
  intro v v0 v1
  refine ⟨by omega, ?_⟩
  refine lcW_draw PySem.PyData.int (fun x : Int => -50 ≤ x ∧ x ≤ 50) (by rw [sizeLine_is, rangeD_len]; omega) (fun i x hx Y hY => ?_) (fun as hl hp => ?_)
  · simp
    refine ⟨cmulA_l (by omega) (by omega), by omega, fun y y0 y1 => ?_⟩
    exact hY (y - z) ⟨by omega, by omega⟩
  · rw [rangeD_len] at hl
    exact k as ⟨by omega, by omega, hp⟩ (by omega)
theorem w9_ok (ok : OkW w) (k : D.nx (EW v1 w v3 v5 v6 v7 v8 v9 v10)) : _law_weeks_s9 D (EW v1 w v3 v5 v6 v7 v8 v9 v10) := by
  have h := okW_is ok
  simp [_law_weeks_s9]
  rw [h]
  simp
  exact k
theorem w8_ok (ok : OkW w) (h9 : w.length ≤ 9) (k : D.nx (EW v1 w v3 (sT (.list (iL (dueW w)))) v6 v7 v8 v9 v10)) : _law_weeks_s8 D (EW v1 w v3 v5 v6 v7 v8 v9 v10) := by
  simp [_law_weeks_s8]
  refine ⟨⟨fun z => by have := ok.l1; rw [z] at this; simp at this, by omega⟩, w ++ (w ++ (w ++ w)), ?_, ?_, ?_, ?_⟩
  · simp
  · rw [List.length_append, List.length_append, List.length_append]; omega
  · intro x hx
    have hx : x ∈ w := by
      simp only [List.mem_append] at hx
      rcases hx with h | h | h | h <;> exact h
    exact ok.pos x hx
  · exact k
theorem w7_ok (ok : OkW w) (h9 : w.length ≤ 9) (k : D.nx (EW v1 w v3 (sT (.list (iL (dueW w)))) v6 v7 v8 v9 v10)) : _law_weeks_s7 D (EW v1 w v3 (sT (.list (iL (dueW w)))) v6 v7 v8 v9 v10) := by
  have e : VL.cutD (iL (dueW w)) none (some (w.length : Int)) = iL (lvF 0 w) := by
    rw [cutD_take, ← List.map_take]
    congr 1
    unfold dueW
    rw [lv_app]
    have := lv_len w 0
    rw [List.take_append_of_le_length (by omega), List.take_of_length_le (by omega)]
  have hl := lv_len w 0
  generalize hd : iL (dueW w) = ds at e ⊢
  simp [_law_weeks_s7, e]
  refine ⟨ok, sameW_eq rfl (okD_ints _ (by omega)) ?_⟩
  rw [← hd]
  simpa using k
theorem cut4 {a b c d : List Int} {n : Nat} (ha : a.length = n) (hb : b.length = n) (hc : c.length = n) (hd : d.length = n) (i j : Nat) :
    VL.cutD (iL (a ++ (b ++ (c ++ d)))) (some (n : Int)) (some ((2 : Int) * n)) = iL b ∧ VL.cutD (iL (a ++ (b ++ (c ++ d)))) (some ((2 : Int) * n)) (some ((3 : Int) * n)) = iL c ∧ VL.cutD (iL (a ++ (b ++ (c ++ d)))) (some ((3 : Int) * n)) none = iL d := by
  refine ⟨?_, ?_, ?_⟩
  · rw [show (2 : Int) * n = ((n + n : Nat) : Int) by omega, cut_mid, ← List.map_take, ← List.map_drop]
    congr 1
    rw [List.take_append, List.take_of_length_le (by omega), List.drop_append_of_le_length (by omega), List.drop_of_length_le (by omega), List.nil_append, List.take_append_of_le_length (by omega), List.take_of_length_le (by omega)]
  · rw [show (2 : Int) * n = ((n + n : Nat) : Int) by omega, show (3 : Int) * n = ((n + n + n : Nat) : Int) by omega, cut_mid, ← List.map_take, ← List.map_drop]
    congr 1
    have e : a ++ (b ++ (c ++ d)) = (a ++ b) ++ (c ++ d) := by simp
    rw [e, List.take_append, List.take_of_length_le (by simp; omega), List.drop_append_of_le_length (by simp; omega), List.drop_of_length_le (by simp; omega), List.nil_append, List.take_append_of_le_length (by simp; omega), List.take_of_length_le (by simp; omega)]
  · rw [show (3 : Int) * n = ((n + n + n : Nat) : Int) by omega, cutD_drop, ← List.map_drop]
    congr 1
    have e : a ++ (b ++ (c ++ d)) = (a ++ (b ++ c)) ++ d := by simp
    rw [e, List.drop_append_of_le_length (by simp; omega), List.drop_of_length_le (by simp; omega), List.nil_append]
theorem four_at {A B : List Int} {n : Nat} {s : Int} (ha : A.length = n) (hb : B.length = n) {i : Nat} (hi : i < 2 * n) :
    (A ++ (B ++ (B.map (· + s) ++ B.map (· + (s + s))))).getD (n + i + n) 0 = (A ++ (B ++ (B.map (· + s) ++ B.map (· + (s + s))))).getD (n + i) 0 + s := by
  have e2 : B.map (· + s) ++ B.map (· + (s + s)) = (B ++ B.map (· + s)).map (· + s) := by
    rw [List.map_append, List.map_map]
    congr 1
    refine List.map_congr_left fun x _ => ?_
    show x + (s + s) = x + s + s
    omega
  have e3 : B ++ (B.map (· + s) ++ B.map (· + (s + s))) = (B ++ B.map (· + s)) ++ B.map (· + (s + s)) := by simp
  have hl : (B ++ B.map (· + s)).length = 2 * n := by simp; omega
  simp only [List.getD_eq_getElem?_getD]
  have r2 : (A ++ (B ++ (B.map (· + s) ++ B.map (· + (s + s)))))[n + i]? = (B ++ B.map (· + s))[i]? := by
    rw [List.getElem?_append_right (by omega), e3, List.getElem?_append_left (by omega)]
    congr 1
    omega
  have r1 : (A ++ (B ++ (B.map (· + s) ++ B.map (· + (s + s)))))[n + i + n]? = ((B ++ B.map (· + s)).map (· + s))[i]? := by
    rw [List.getElem?_append_right (by omega), List.getElem?_append_right (by omega), e2]
    congr 1
    omega
  rw [r1, r2, List.getElem?_map, List.getElem?_eq_getElem (by omega)]
  rfl
theorem w6_ok (ok : OkW w) (h9 : w.length ≤ 9) (n3 : nO v3) (k : ∀ v3, nO v3 → D.nx (EW v1 w v3 (sT (.list (iL (dueW w)))) v6 v7 v8 v9 v10)) : _law_weeks_s6 D (EW v1 w v3 (sT (.list (iL (dueW w)))) v6 v7 v8 v9 v10) := by
  have l1 := ok.l1
  have hne : w ≠ [] := fun z => by rw [z] at l1; simp at l1
  have hle := last_end hne
  unfold _law_weeks_s6
  simp
  by_cases c : w.sum ≤ 0
  · rw [if_pos c]
    have e := due_lo c
    have hl1 := lv_len w 0
    have hl2 := lv_len w (endL 0 w)
    obtain ⟨c1, c2, c3⟩ := cut4 (n := w.length) hl1 hl2 hl2 hl2 0 0
    rw [← e] at c1 c2 c3
    have hk := k v3 n3
    generalize hd : iL (dueW w) = ds at c1 c2 c3 hk ⊢
    simp [_law_weeks_s4]
    have m2 : CMulA 2 (w.length : Int) := cmulA_l (by omega) (by omega)
    have m3 : CMulA 3 (w.length : Int) := cmulA_l (by omega) (by omega)
    have ht : toldD w = .tuple (iL (lvF (endL 0 w) w)) := by rw [toldD, if_pos c, hle]
    have hlay : ∀ l : List Int, ∀ x ∈ iL l, lay 63 x := fun l x hx => by
      obtain ⟨z, _, rfl⟩ := List.mem_map.mp hx
      exact lay_i 63 _
    rw [c1, c2, c3, ht]
    refine ⟨ok, m2, sameW_eq rfl (okD_ints _ (by omega)) ?_⟩
    simp
    exact ⟨m2, m3, m2, m3, hk⟩
  · rw [if_neg c]
    have e := due_hi (w := w) (by omega)
    have m3 : CMulA 3 (w.length : Int) := cmulA_l (by omega) (by omega)
    have ht : toldD w = .str "refused" := by rw [toldD, if_neg c]
    have hl1 := lv_len w 0
    have hl2 := lv_len w (endL 0 w)
    have hat : ∀ i : Nat, i < 2 * w.length → (iL (dueW w))[w.length + i]? = some (.int ((dueW w).getD (w.length + i) 0)) ∧ (iL (dueW w))[w.length + i + w.length]? = some (.int ((dueW w).getD (w.length + i) 0 + w.sum)) := by
      intro i hi
      have hdl : (dueW w).length = 4 * w.length := by rw [lv_len]; simp; omega
      have f1 : (dueW w).getD (w.length + i + w.length) 0 = (dueW w).getD (w.length + i) 0 + w.sum := by
        unfold dueW
        rw [e]
        exact four_at hl1 hl2 hi
      constructor
      · rw [List.getElem?_map, List.getD_eq_getElem?_getD, List.getElem?_eq_getElem (by omega)]
        rfl
      · rw [← f1, List.getElem?_map, List.getD_eq_getElem?_getD, List.getElem?_eq_getElem (by omega)]
        rfl
    have hk := k v3 n3
    generalize iL (dueW w) = ds at hat hk ⊢
    simp [_law_weeks_s5]
    rw [ht]
    refine ⟨ok, by decide +kernel, by decide +kernel, ?_⟩
    rw [if_pos (by decide +kernel)]
    refine ⟨m3, by omega, n3, lcW_rngP (fun _ => false) (fun _ => .none) (by rw [sizeLine_is]; omega) (fun i hi Y Z hY hZ => ?_) ?_⟩
    · have hi2 : i < 2 * w.length := by omega
      obtain ⟨f1, f2⟩ := hat i hi2
      have hz := hZ rfl
      clear hZ hY
      generalize (dueW w).getD (w.length + i) 0 = y at f1 f2
      simp only [wgName]
      simp
      refine ⟨_, atI_some (by omega) f2, _, atI_some (by omega) f1, ?_⟩
      show if y + w.sum - y = w.sum then _ else _
      rw [if_pos (by omega)]
      exact hz
    · simp
      exact hk
theorem w3_ok (h9 : w.length ≤ 9) (n8 : nO v8) {b : Nat} (hb : b < w.length) {l : List Int} (hl : l.length ≤ 1000) (k : ∀ v8, nO v8 → D.nx (EW v1 w v3 v5 (sT (.list (iL (l ++ (List.range (w.length - b)).map fun i => ((w.take (b + 1 + i)).drop b).sum)))) (fi (b : Nat)) v8 v9 v10)) : _law_weeks_s3 D (EW v1 w v3 v5 (sT (.list (iL l))) (fi (b : Nat)) v8 v9 v10) := by
  simp [_law_weeks_s3]
  refine ⟨by omega, n8, ?_⟩
  rw [show ((w.length : Int) + 1 - ((b : Int) + 1)).toNat = w.length - b by omega] 
  refine lcW_rngM (fun i : Nat => .int ((w.take (b + 1 + i)).drop b).sum) (by rw [sizeLine_is]; omega) (fun i hi Y hY => ?_) ?_
  · have c1 : VL.cutD (iL w) (some (b : Int)) (some ((b : Int) + 1 + (i : Int))) = iL ((w.take (b + 1 + i)).drop b) := by
      rw [show (b : Int) + 1 + (i : Int) = ((b + 1 + i : Nat) : Int) by omega, cut_mid]
      simp
    simp only [wgName]
    simp [c1]
    exact ⟨_, by rw [← List.map_take, ← List.map_drop]; exact numsD_iL _, hY⟩
  · rw [int_map]
    simp
    refine ⟨by omega, ?_⟩
    have := k v8 n8
    simpa using this
theorem w2_ok (ok : OkW w) (k : D.nx (EW v1 w v3 v5 (sT (.list (iL (sumsL w)))) v7 v8 v9 v10)) : _law_weeks_s2 D (EW v1 w v3 v5 (sT (.list (iL (sumsL w)))) v7 v8 v9 v10) := by
  have l1 := ok.l1
  have hne : w ≠ [] := fun z => by rw [z] at l1; simp at l1
  have hw := worst_eq hne
  unfold sumsL at hw k ⊢
  generalize (List.range w.length).flatMap (fun b => (List.range (w.length - b)).map fun i => ((w.take (b + 1 + i)).drop b).sum) = l at hw k ⊢
  simp [_law_weeks_s2]
  rw [W.maxD_ints]
  refine ⟨ok, sameW_eq (by rw [← hw]; rfl) (by simp [okD]) ?_⟩
  simp
  simpa using k
theorem w1_ok (ok : OkW w) (k : ∀ os : List PySem.PyData, os.length = 8 → (∀ x ∈ os, isWk x = false) → D.nx (EW v1 w v3 v5 v6 v7 v8 (sT (.list os)) v10)) :
    _law_weeks_s1 D (EW v1 w v3 v5 v6 v7 v8 v9 v10) := by
  simp [_law_weeks_s1]
  refine k [_, _, _, _, _, _, _, _] rfl (fun x hx => ?_)
  simp only [List.mem_cons, List.not_mem_nil, or_false] at hx
  rcases hx with rfl | rfl | rfl | rfl | rfl | rfl | rfl | rfl <;> simp [isWk, isNum]
theorem w0_ok {os : List PySem.PyData} (hl : os.length = 8) (ho : ∀ x ∈ os, isWk x = false) (n10 : nO v10) (k : D.rt (.fz (.bool true))) :
    _law_weeks_s0 D (EW v1 w v3 v5 v6 v7 v8 (sT (.list os)) v10) := by
  simp [_law_weeks_s0]
  refine ⟨n10, lcW_pure (fun _ => none) (by rw [hl, sizeLine_is]; omega) (fun x hx Y Z hY hZ => ?_) ?_⟩
  · simp [ho x hx]
    exact hZ rfl
  · rw [show os.filterMap (fun _ => (none : Option PySem.PyData)) = [] by simp]
    simpa using k
end
theorem law_weeks : LAW weeksW fw__law_weeks := by
  intro args Q Ew h
  unfold weeksW at h
  split at h
  · unfold fw__law_weeks w__law_weeks
    simp [-wSeq]
    rw [seq_do]
    refine w11_ok fun z hz => ?_
    dsimp only
    rw [seq_do]
    refine w10_ok hz fun w ok h9 => ?_
    dsimp only
    rw [seq_do]
    simp [-wSeq]
    rw [seq_do]
    refine w9_ok ok ?_
    dsimp only
    rw [seq_do]
    refine w8_ok ok h9 ?_
    dsimp only
    rw [seq_do]
    refine w7_ok ok h9 ?_
    dsimp only
    rw [seq_do]
    refine w6_ok ok h9 nO_none fun v3 n3 => ?_
    dsimp only
    rw [seq_do]
    simp [-wSeq]
    rw [seq_do]
    simp [-wSeq]
    refine ⟨by omega, ?_⟩
    refine forW_rngE (n := w.length) (fun _ b e => ∃ v7 v8, nO v8 ∧ e = EW (fi z) w v3 (sT (.list (iL (dueW w)))) (sT (.list (iL (0 :: (List.range b).flatMap fun b => (List.range (w.length - b)).map fun i => ((w.take (b + 1 + i)).drop b).sum)))) v7 v8 none none) ⟨none, none, nO_none, rfl⟩ (fun b e hb ⟨v7, v8, n8, he⟩ => ?_) (fun e ⟨v7, v8, n8, he⟩ => ?_)
    · subst he
      have hfl : ∀ m : Nat, m ≤ w.length → ((List.range m).flatMap fun b => (List.range (w.length - b)).map fun i => ((w.take (b + 1 + i)).drop b).sum).length ≤ m * 9 := fun m hm => by
        induction m with
        | zero => simp
        | succ m ih =>
          rw [List.range_succ, List.flatMap_append, List.length_append]
          have := ih (by omega)
          simp only [List.flatMap_cons, List.flatMap_nil, List.append_nil, List.length_map, List.length_range]
          omega
      have hf := hfl b (by omega)
      simp only [wgName, Int.zero_add]
      refine w3_ok (l := 0 :: (List.range b).flatMap fun b => (List.range (w.length - b)).map fun i => ((w.take (b + 1 + i)).drop b).sum) h9 n8 hb (by rw [List.length_cons]; omega) fun v8 n8 => ?_
      refine ⟨fi (b : Nat), v8, n8, ?_⟩
      rw [List.range_succ, List.flatMap_append]
      simp
    · subst he
      dsimp only
      rw [seq_do]
      refine w2_ok ok ?_
      dsimp only
      rw [seq_do]
      refine w1_ok ok fun os hl ho => ?_
      dsimp only
      exact w0_ok hl ho nO_none h
  · exact h.elim
end Lw
set_option Elab.async false
set_option linter.all false
set_option autoImplicit false
set_option maxRecDepth 100000
set_option maxHeartbeats 1000000
namespace Lw
open PySem PySem.Spec PyProof.Rows L2 VL
theorem okC_is {c : List Int} (ok : OkC c) : areC (.tuple (iL c)) = true := by
  have h6 := ok.l6
  have h2 : (iL c).all (fun x => isNum x 1 60) = true := by
    rw [List.all_eq_true]
    intro x hx
    obtain ⟨z, hz, rfl⟩ := List.mem_map.mp hx
    have := ok.pos z hz
    simp [isNum]
    omega
  show (decide ((iL c).length ≤ 8) && (iL c).all fun x => isNum x 1 60) = true
  rw [h2]
  simp
  omega
abbrev EV (v0 : Option VL.Slot) (m : Nat) (c : List Int) (v4 v5 v6 v7 v8 v9 v10 v11 v12 v13 v14 v15 : Option VL.Slot) : PEnv :=
  [v0, some .dr, fi (m : Nat), sT (.tuple (iL c)), v4, v5, v6, v7, v8, v9, v10, v11, v12, v13, v14, v15]
section
variable {D : WD} {c r : List Int} {m : Nat} {v0 v4 v5 v6 v7 v8 v9 v10 v11 v12 v13 v14 v15 : Option VL.Slot}
theorem s16_ok (k : D.nx [v0, some .dr, none, none, none, none, none, none, none, none, none, none, none, none, none, none]) :
    law_s16 D [v0, some .dr, none, none, none, none, none, none, none, none, none, none, none, none, none, none] := by
  simp [law_s16]
  exact k
theorem s15_ok (k : ∀ m : Nat, 1 ≤ m ∧ m ≤ 3 → D.nx [v0, some .dr, fi (m : Nat), none, none, none, none, none, none, none, none, none, none, none, none, none]) :
    law_s15 D [v0, some .dr, none, none, none, none, none, none, none, none, none, none, none, none, none, none] := by
  simp [law_s15]
  intro v v0 v1
  have := k (1 + v).toNat (by omega)
  rwa [show (((1 + v).toNat : Nat) : Int) = 1 + v by omega] at this
theorem s14_ok (k : ∀ c, OkC c → D.nx (EV v0 m c none none none none none none none none none none none none)) :
    law_s14 D [v0, some .dr, fi (m : Nat), none, none, none, none, none, none, none, none, none, none, none, none, none] := by
  simp [law_s14]
  intro v v0 v1
  refine ⟨by omega, ?_⟩
  refine lcW_draw PySem.PyData.int (fun x : Int => 1 ≤ x ∧ x ≤ 60) (by rw [sizeLine_is, rangeD_len]; omega) (fun i x hx Y hY => ?_) (fun as hl hp => ?_)
  · simp
    intro z z0 z1
    by_cases h : z = 0
    · subst h
      exact ⟨_, rfl, by simp; exact fun y y0 y1 => hY (1 + y) ⟨by omega, by omega⟩⟩
    · have h : z = 1 := by omega
      subst h
      exact ⟨_, rfl, by simp; exact fun y y0 y1 => hY (1 + y) ⟨by omega, by omega⟩⟩
  · rw [rangeD_len] at hl
    exact k as ⟨by omega, hp⟩
theorem s13_ok (ok : OkC c) (k : D.nx (EV v0 m c v4 v5 v6 v7 v8 v9 v10 v11 v12 v13 v14 v15)) : law_s13 D (EV v0 m c v4 v5 v6 v7 v8 v9 v10 v11 v12 v13 v14 v15) := by
  have h := okC_is ok
  simp [law_s13]
  rw [h]
  simp
  exact k
theorem s12_ok (ok : OkC c) (hm : 1 ≤ m ∧ m ≤ 3) (k : D.nx (EV v0 m c v4 (fi (longL m c)) v6 v7 v8 v9 v10 v11 v12 v13 v14 v15)) : law_s12 D (EV v0 m c v4 v5 v6 v7 v8 v9 v10 v11 v12 v13 v14 v15) := by
  simp [law_s12]
  exact ⟨ok, m, rfl, hm, k⟩
theorem s11_ok (ok : OkC c) (hm : 1 ≤ m ∧ m ≤ 3) (k : D.nx (EV v0 m c v4 (fi (longL m c)) v6 v7 v8 v9 v10 v11 v12 v13 v14 v15)) : law_s11 D (EV v0 m c v4 (fi (longL m c)) v6 v7 v8 v9 v10 v11 v12 v13 v14 v15) := by
  simp [law_s11]
  refine ⟨ok, m, rfl, hm, sameW_eq rfl (by simp [okD]) ?_⟩
  simp
  exact k
theorem s9_ok (hm : 1 ≤ m ∧ m ≤ 3) (k : D.nx (EV v0 m c v4 v5 v6 v7 v8 (some (.ol (iL (tmP m (grP m []))))) (some (.ol [])) v11 v12 v13 v14 v15)) : law_s9 D (EV v0 m c v4 v5 v6 v7 v8 v9 v10 v11 v12 v13 v14 v15) := by
  have e0 : List.replicate m (PySem.PyData.int 0) = iL (tmP m (grP m [])) := by rw [show grP m [] = [] from rfl, tm_nil, rep_iL]
  simp [law_s9]
  refine ⟨by omega, ?_⟩
  rw [e0]
  exact k
theorem even_lt {j : Nat} {x : Int} (hm : 1 ≤ m) (ok : OkC r) (hj : r[j]? = some x) : maxL (tmP m (grP m (r.take (j + 1)))) - minL (tmP m (grP m (r.take (j + 1)))) ≤ maxL (r.take (j + 1)) := by
  have h1 := gr_even hm (c := r.take (j + 1)) fun y hy => by have := ok.pos y (List.mem_of_mem_take hy); omega
  have hx : x ∈ r.take (j + 1) := by rw [take_at hj]; simp
  have h2 : maxL (0 :: r.take (j + 1)) ≤ maxL (r.take (j + 1)) := by
    rw [maxL_le (by simp)]
    intro y hy
    rcases List.mem_cons.mp hy with rfl | hy
    · have := le_maxL hx
      have := ok.pos x (List.mem_of_mem_take hx)
      omega
    · exact le_maxL hy
  omega
theorem min_int {t : List Int} (h : t ≠ []) : ∃ a r, t = a :: r ∧ W.minD (.int a) (iL r) = .int (minL t) := by
  cases t with
  | nil => exact absurd rfl h
  | cons a r => exact ⟨a, r, rfl, W.minD_ints a r⟩
theorem s8_ok (hm : 1 ≤ m ∧ m ≤ 3) (ok : OkC r) (n4 : nO v4) (n11 : nO v11) (k : ∀ v4 v11, nO v4 → nO v11 → D.nx (EV v0 m c v4 v5 (sT (.tuple (iL r))) v7 v8 (some (.ol (iL (tmP m (grP m r))))) (some (.ol (nL ((grP m r).map (·.2))))) v11 v12 v13 v14 v15)) :
    law_s8 D (EV v0 m c v4 v5 (sT (.tuple (iL r))) v7 v8 (some (.ol (iL (tmP m (grP m []))))) (some (.ol [])) v11 v12 v13 v14 v15) := by
  have l6 := ok.l6
  unfold law_s8
  simp [-wSeq]
  refine ⟨by omega, ?_⟩
  refine forW_rngE (n := r.length) (fun _ j e => ∃ v4 v11, nO v4 ∧ nO v11 ∧ e = EV v0 m c v4 v5 (sT (.tuple (iL r))) v7 v8 (some (.ol (iL (tmP m (grP m (r.take j)))))) (some (.ol (nL ((grP m (r.take j)).map (·.2))))) v11 v12 v13 v14 v15) ⟨v4, v11, n4, n11, rfl⟩ (fun j e hj ⟨v4, v11, n4, n11, he⟩ => ?_) (fun e ⟨v4, v11, n4, n11, he⟩ => ?_)
  · subst he
    obtain ⟨x, hx⟩ : ∃ x, r[j]? = some x := ⟨_, List.getElem?_eq_getElem hj⟩
    have ht := take_at hx
    have hev := even_lt hm.1 ok hx
    have hne := tm_ne hm.1 (grP m (r.take j))
    have hne2 := tm_ne hm.1 (grP m (r.take (j + 1)))
    have hrn : r.take (j + 1) ≠ [] := by rw [ht]; simp
    have hga : (iL (tmP m (grP m (r.take j))))[argM (tmP m (grP m (r.take j)))]? = some (.int (minL (tmP m (grP m (r.take j))))) := by
      have := arg_at hne
      rw [List.getD_eq_getElem?_getD, List.getElem?_eq_getElem (arg_lt hne)] at this
      rw [List.getElem?_map, List.getElem?_eq_getElem (arg_lt hne)]
      exact congrArg (fun z => some (PySem.PyData.int z)) this
    have hix := idx_arg hne
    have hal := arg_lt hne
    have hlen := tm_len m (grP m (r.take j))
    have hgl : (grP m (r.take j)).length ≤ 6 := by
      have := congrArg List.length (gr_way hm.1 (r.take j)).fst
      rw [List.length_map, List.length_take] at this
      omega
    have hcut : VL.cutD (iL r) none (some ((j : Int) + 1)) = iL (r.take (j + 1)) := by
      rw [show (j : Int) + 1 = ((j + 1 : Nat) : Int) by omega, cutD_take, ← List.map_take]
    have hrj : (iL r)[j]? = some (.int x) := by rw [List.getElem?_map, hx]; rfl
    have e1 : tmP m (grP m (r.take (j + 1))) = (tmP m (grP m (r.take j))).set (argM (tmP m (grP m (r.take j)))) (minL (tmP m (grP m (r.take j))) + x) := by rw [ht, gr_tm hm.1]
    have e2 : grP m (r.take (j + 1)) = grP m (r.take j) ++ [(x, argM (tmP m (grP m (r.take j))))] := by rw [ht, grP_snoc]
    obtain ⟨a1, q1, w1, z1⟩ := max_int hne2
    obtain ⟨a2, q2, w2, z2⟩ := min_int hne2
    obtain ⟨a3, q3, w3, z3⟩ := max_int hrn
    obtain ⟨a4, q4, w4, z4⟩ := min_int hne
    rw [w1] at w2
    injection w2 with w2 w2'
    subst w2 w2'
    generalize maxL (r.take (j + 1)) = M at hev z3
    generalize maxL (tmP m (grP m (r.take (j + 1)))) = M1 at hev z1
    generalize minL (tmP m (grP m (r.take (j + 1)))) = M2 at hev z2
    rw [e2] at w1 e1 ⊢
    generalize hT : tmP m (grP m (r.take j)) = t at *
    generalize argM t = g at *
    generalize tmP m (grP m (r.take j) ++ [(x, g)]) = t2 at *
    generalize grP m (r.take j) = P at *
    generalize hmin : minL t = mn at *
    rw [w3] at hcut
    subst w1 w4
    generalize hir : iL r = ir at hcut hrj ⊢
    have hset : (PySem.PyData.int a4 :: iL q4).set g (.int (mn + x)) = .int a1 :: iL q1 := by
      have := congrArg (List.map PySem.PyData.int) e1
      rw [List.map_set] at this
      exact this.symm
    simp [law_s7, law_s6, law_s5]
    rw [z4]
    have hs : SeqAt.shaped (.int mn) = true := by rw [shaped_lay]; exact lay_i 64 _
    simp at hal
    refine ⟨hs, g, hix, _, hga, _, hrj, ?_⟩
    simp
    refine ⟨g, ixN_at rfl hal, by omega, ?_⟩
    rw [hset]
    simp
    rw [z1, z2, hcut]
    simp
    rw [z3]
    simp
    intro h
    omega
  · subst he
    rw [List.take_length]
    exact k _ _ n4 n11
theorem zip_fs : ∀ P : Gv, (P.map (·.1)).zip (P.map (·.2)) = P
  | [] => rfl
  | q :: P => by
    show (q.1, q.2) :: (P.map (·.1)).zip (P.map (·.2)) = q :: P
    rw [zip_fs P]
theorem s4_ok (hm : 1 ≤ m ∧ m ≤ 3) (ok : OkC r) {b f y : Int} (hf : f = 1 ∨ f = 3) (hy : f * maxL (tmP m (grP m r)) * m ≤ b * y) (hy2 : -100 ≤ y ∧ y ≤ 100)
    (k : D.nx (EV v0 m c v4 (fi b) (sT (.tuple (iL r))) (fi f) (fi y) (some (.ol (iL (tmP m (grP m r))))) (some (.ol (nL ((grP m r).map (·.2))))) v11 v12 v13 v14 v15)) :
    law_s4 D (EV v0 m c v4 (fi b) (sT (.tuple (iL r))) (fi f) (fi y) (some (.ol (iL (tmP m (grP m r))))) (some (.ol (nL ((grP m r).map (·.2))))) v11 v12 v13 v14 v15) := by
  have W := gr_way hm.1 r
  have hg1 : ((grP m r).map (·.2)).length = r.length := by
    have := congrArg List.length W.fst
    simpa using this
  have hz : r.zip ((grP m r).map (·.2)) = grP m r := by
    have := zip_fs (grP m r)
    rwa [W.fst] at this
  have hl6 := ok.l6
  have hlt : ∀ i ∈ (grP m r).map (·.2), i < m := fun i hi => by
    obtain ⟨q, hq, rfl⟩ := List.mem_map.mp hi
    exact W.lt q hq
  have hne := tm_ne hm.1 (grP m r)
  have hlen := tm_len m (grP m r)
  obtain ⟨a1, q1, w1, z1⟩ := max_int hne
  have hgl : (grP m r).length ≤ 6 := by simp at hg1; omega
  have e5 : List.map (PySem.PyData.int ∘ fun q : Int × Nat => (q.2 : Int)) (grP m r) = List.map ((PySem.PyData.int ∘ fun k : Nat => (k : Int)) ∘ fun x : Int × Nat => x.2) (grP m r) := rfl
  unfold law_s4
  simp
  refine ⟨ok, m, rfl, hm, ok, (grP m r).map (·.2), m, rfl, hm, by rw [List.map_map], hg1, hlt, ?_⟩
  rw [hz, e5]
  refine sameW_eq rfl ⟨by simp, fun x hx => ?_⟩ ?_
  · simp only [List.mem_cons, List.not_mem_nil, or_false] at hx
    rcases hx with rfl | rfl
    · refine ⟨by simp; omega, fun x hx => ?_⟩
      obtain ⟨q, _, rfl⟩ := List.mem_map.mp hx
      simp [okD]
    · exact okD_ints _ (by omega)
  · simp
    generalize hT : maxL (tmP m (grP m r)) = T at hy z1
    rw [w1] at k ⊢
    simp
    rw [z1]
    have c1 : CMulA f T := cmulA_l (by omega) (by omega)
    have c2 : CMulA (f * T) m := cmulA_r (by omega) (by omega)
    have c3 : CMulA b y := cmulA_r (by omega) (by omega)
    simp
    refine ⟨c1, c2, c3, ?_⟩
    rw [if_neg (by omega)]
    simpa using k
theorem rev_ok (ok : OkC c) : OkC (sortI c).reverse := ⟨by rw [List.length_reverse, isort_len]; exact ok.l6, fun x hx => ok.pos x ((isort_perm leI c).mem_iff.mp (List.mem_reverse.mp hx))⟩
theorem graham_c (hm : 1 ≤ m ∧ m ≤ 3) (ok : OkC c) : 1 * maxL (tmP m (grP m c)) * m ≤ longL m c * (2 * m - 1) := by
  obtain ⟨P, W, e⟩ := long_way hm.1 c
  have := graham hm W fun x hx => by have := ok.pos x hx; omega
  rw [e]
  rw [Int.one_mul]
  exact this
theorem lpt_c (hm : 1 ≤ m ∧ m ≤ 3) (ok : OkC c) : 3 * maxL (tmP m (grP m (sortI c).reverse)) * m ≤ longL m c * (4 * m - 1) := by
  obtain ⟨P, W, e⟩ := long_way hm.1 c
  have p : ((sortI c).reverse).Perm c := (List.reverse_perm _).trans (isort_perm leI c)
  obtain ⟨P', W', e'⟩ := way_perm p W
  rw [e, ← e']
  refine lpt hm W' (fun x hx => (ok.pos x (p.mem_iff.mp hx)).1) ?_
  rw [List.pairwise_reverse]
  exact sortI_sorted c
theorem s10_ok (ok : OkC c) (hm : 1 ≤ m ∧ m ≤ 3) (n4 : nO v4) (n11 : nO v11) (k : ∀ v4 v6 v7 v8 v9 v10 v11, nO v4 → nO v11 → D.nx (EV v0 m c v4 (fi (longL m c)) v6 v7 v8 v9 v10 v11 v12 v13 v14 v15)) :
    law_s10 D (EV v0 m c v4 (fi (longL m c)) v6 v7 v8 v9 v10 v11 v12 v13 v14 v15) := by
  have l6 := ok.l6
  unfold law_s10
  simp [-wSeq]
  refine ⟨cmulA_l (by omega) (by omega), cmulA_l (by omega) (by omega), ?_⟩
  rw [← List.map_reverse]
  refine forW_ty (xs := [(c, (1 : Int), 2 * (m : Int) - 1), ((sortI c).reverse, 3, 4 * (m : Int) - 1)]) (enc := fun q : List Int × Int × Int => .tuple [.tuple (iL q.1), .int q.2.1, .int q.2.2]) (fun _ j e => ∃ v4 v6 v7 v8 v9 v10 v11, nO v4 ∧ nO v11 ∧ e = EV v0 m c v4 (fi (longL m c)) v6 v7 v8 v9 v10 v11 v12 v13 v14 v15) ⟨v4, v6, v7, v8, v9, v10, v11, n4, n11, rfl⟩ (fun j x e hj ⟨v4, v6, v7, v8, v9, v10, v11, n4, n11, he⟩ => ?_) (fun e ⟨v4, v6, v7, v8, v9, v10, v11, n4, n11, he⟩ => ?_)
  · subst he
    have hx : OkC x.1 ∧ (x.2.1 = 1 ∨ x.2.1 = 3) ∧ x.2.1 * maxL (tmP m (grP m x.1)) * m ≤ longL m c * x.2.2 ∧ (-100 ≤ x.2.2 ∧ x.2.2 ≤ 100) := by
      have := List.mem_of_getElem? hj
      simp only [List.mem_cons, List.not_mem_nil, or_false] at this
      rcases this with rfl | rfl
      · exact ⟨ok, .inl rfl, graham_c hm ok, by simp; omega⟩
      · exact ⟨rev_ok ok, .inr rfl, lpt_c hm ok, by simp; omega⟩
    obtain ⟨r, f, y⟩ := x
    obtain ⟨okr, hf, hy, hy2⟩ := hx
    simp [-wSeq]
    rw [seq_do]
    refine s9_ok hm ?_
    dsimp only
    rw [seq_do]
    refine s8_ok hm okr n4 n11 fun v4 v11 n4 n11 => ?_
    dsimp only
    refine s4_ok hm okr hf hy hy2 ?_
    exact ⟨_, n4, _, _, _, _, _, _, n11, rfl⟩
  · subst he
    exact k _ _ _ _ _ _ _ n4 n11
theorem s3_ok (ok : OkC c) (hm : 1 ≤ m ∧ m ≤ 3) (n13 : nO v13) (k : ∀ g : List Nat, g.length = c.length → (∀ i ∈ g, i < m) → D.nx (EV v0 m c v4 v5 v6 v7 v8 v9 v10 v11 (sT (.tuple (nL g))) v13 v14 v15)) :
    law_s3 D (EV v0 m c v4 v5 v6 v7 v8 v9 v10 v11 v12 v13 v14 v15) := by
  have l6 := ok.l6
  simp [law_s3]
  refine ⟨n13, ?_⟩
  refine lcW_draw (PySem.PyData.int ∘ fun k : Nat => (k : Int)) (fun x : Nat => x < m) (by rw [sizeLine_is, List.length_map]; omega) (fun i x hx Y hY => ?_) (fun as hl hp => ?_)
  · simp
    refine ⟨by omega, fun z z0 z1 => ?_⟩
    have := hY z.toNat (by omega)
    simp at this
    rwa [show max z 0 = z by omega] at this
  · rw [List.length_map] at hl
    have := k as hl hp
    simpa using this
theorem jobs_zip {g : List Nat} (hl : g.length = c.length) (x : Nat) : jobs x (c.zip g) = ((List.range c.length).filter fun i => g.getD i 0 == x).map fun i => c.getD i 0 := by
  have e : c.zip g = (List.range c.length).map fun i => (c.getD i 0, g.getD i 0) := by
    refine List.ext_getElem (by simp [hl]) fun j h1 h2 => ?_
    simp at h1
    have h3 : j < c.length := by omega
    have h4 : j < g.length := by omega
    simp [h3, h4]
  rw [e]
  unfold jobs
  rw [List.filter_map, List.map_map]
  rfl
theorem s2_ok (ok : OkC c) (hm : 1 ≤ m ∧ m ≤ 3) (n11 : nO v11) (n4 : nO v4) {g : List Nat} (hl : g.length = c.length) (hg : ∀ i ∈ g, i < m) (k : D.nx (EV v0 m c v4 v5 v6 v7 v8 v9 v10 v11 (sT (.tuple (nL g))) v13 v14 v15)) :
    law_s2 D (EV v0 m c v4 v5 v6 v7 v8 v9 v10 v11 (sT (.tuple (nL g))) v13 v14 v15) := by
  have l6 := ok.l6
  simp [law_s2]
  refine ⟨ok, g, m, rfl, hm, rfl, hl, hg, by omega, n11, ?_⟩
  have htl := tm_len m (c.zip g)
  refine lcW_rngM (fun x : Nat => .int ((jobs x (c.zip g)).sum)) (by rw [sizeLine_is]; omega) (fun x hx Y hY => ?_) ?_
  · simp
    refine ⟨by omega, n4, ?_⟩
    refine lcW_rngP (fun i => g.getD i 0 == x) (fun i => .int (c.getD i 0)) (by rw [sizeLine_is]; omega) (fun i hi Y2 Z2 hY2 hZ2 => ?_) ?_
    · have e1 : (nL g)[i]? = some (.int (g.getD i 0 : Nat)) := by simp [show i < g.length by omega]
      have e2 : (iL c)[i]? = some (.int (c.getD i 0)) := by simp [hi]
      generalize g.getD i 0 = gi at e1 hY2 hZ2
      generalize c.getD i 0 = ci at e2 hY2
      generalize nL g = gs at e1 hY2 hZ2 ⊢
      generalize iL c = cs at e2 hY2 hZ2 ⊢
      simp only [wgName]
      simp
      rw [e1]
      refine ⟨_, rfl, ?_⟩
      simp
      by_cases hgx : gi = x
      · rw [if_pos (by omega)]
        exact ⟨_, e2, hY2 (by simpa using hgx)⟩
      · rw [if_neg (by omega)]
        exact hZ2 (by simpa using hgx)
    · rw [int_map, ← jobs_zip hl]
      exact ⟨_, numsD_iL _, hY⟩
  · rw [int_map]
    have e : (List.range m).map (fun x => (jobs x (c.zip g)).sum) = tmP m (c.zip g) := rfl
    rw [e]
    simp
    refine sameW_eq rfl (okD_ints _ (by omega)) ?_
    simp
    exact k
theorem s1_ok (ok : OkC c) (k : ∀ os : List PySem.PyData, os.length = 7 → (∀ x ∈ os, areC x = false) → D.nx (EV v0 m c v4 v5 v6 v7 v8 v9 v10 v11 v12 v13 (sT (.list os)) v15)) :
    law_s1 D (EV v0 m c v4 v5 v6 v7 v8 v9 v10 v11 v12 v13 v14 v15) := by
  simp [law_s1]
  refine k [_, _, _, _, _, _, _] rfl (fun x hx => ?_)
  simp only [List.mem_cons, List.not_mem_nil, or_false] at hx
  rcases hx with rfl | rfl | rfl | rfl | rfl | rfl | rfl <;> simp [areC, isNum]
theorem s0_ok {os : List PySem.PyData} (hl : os.length = 7) (ho : ∀ x ∈ os, areC x = false) (n15 : nO v15) (k : D.rt (.fz (.bool true))) :
    law_s0 D (EV v0 m c v4 v5 v6 v7 v8 v9 v10 v11 v12 v13 (sT (.list os)) v15) := by
  simp [law_s0]
  refine ⟨n15, lcW_pure (fun _ => none) (by rw [hl, sizeLine_is]; omega) (fun x hx Y Z hY hZ => ?_) ?_⟩
  · simp [ho x hx]
    exact hZ rfl
  · rw [show os.filterMap (fun _ => (none : Option PySem.PyData)) = [] by simp]
    have e : areC (.tuple []) = true := rfl
    simp [e]
    exact k
end
theorem law_law {ns : List Int} (h63 : ns.length ≤ 63) (Q : VL.Slot → Prop) (Ew : Str → Prop) (k : Q (.fz (.bool true))) : fw_law [.sc ns] Q Ew := by
  unfold fw_law w_law
  simp [-wSeq]
  rw [seq_do]
  simp
  refine ⟨h63, ?_⟩
  refine s16_ok ?_
  dsimp only
  rw [seq_do]
  refine s15_ok fun m hm => ?_
  dsimp only
  rw [seq_do]
  refine s14_ok fun c ok => ?_
  dsimp only
  rw [seq_do]
  refine s13_ok ok ?_
  dsimp only
  rw [seq_do]
  refine s12_ok ok hm ?_
  dsimp only
  rw [seq_do]
  refine s11_ok ok hm ?_
  dsimp only
  rw [seq_do]
  refine s10_ok ok hm nO_none nO_none fun v4 v6 v7 v8 v9 v10 v11 n4 n11 => ?_
  dsimp only
  rw [seq_do]
  refine s3_ok ok hm nO_none fun g hl hg => ?_
  dsimp only
  rw [seq_do]
  refine s2_ok ok hm n11 n4 hl hg ?_
  dsimp only
  rw [seq_do]
  refine s1_ok ok fun os hl ho => ?_
  dsimp only
  exact s0_ok hl ho nO_none k
end Lw
set_option Elab.async false
set_option linter.all false
set_option maxRecDepth 100000
set_option maxHeartbeats 4000000
namespace Lw
open PySem PySem.Spec PyProof.Rows L2 VL
theorem all_mk {q : Program} {l : PySem.W.OpenLaw} {w : World} {K : PySem.W.Frag} {h : Heap} {mg : Str → Option Value} {fa : Addr} (X : K.In h) (G : h.Ns mainGlobals mg) (T : AllTab q mg h) (hfa : mg "law" = some (.ref fa))
    {f1 c1 f2 c2 f3 c3 f4 c4 f5 c5 f6 c6 f7 c7 f8 c8 f9 c9 f10 c10 f11 c11 f12 c12 f13 c13 f14 c14 f15 c15 f16 c16 f17 c17 f18 c18 f19 c19 f20 c20 : Addr} {od1 an1 od2 an2 od3 an3 od4 an4 od5 an5 od6 an6 od7 an7 od8 an8 od9 an9 od10 an10 od11 an11 od12 an12 od13 an13 od14 an14 od15 an15 od16 an16 od17 an17 od18 an18 od19 an19 od20 an20 : Option Addr} {sl1 sl2 sl3 sl4 sl5 sl6 sl7 sl8 sl9 sl10 sl11 sl12 sl13 sl14 sl15 sl16 sl17 sl18 sl19 sl20 : Array (Option Value)} {oc1 kV1 dc1 pm1 ct1 oc2 kV2 dc2 pm2 ct2 oc3 kV3 dc3 pm3 ct3 oc4 kV4 dc4 pm4 ct4 oc5 kV5 dc5 pm5 ct5 oc6 kV6 dc6 pm6 ct6 oc7 kV7 dc7 pm7 ct7 oc8 kV8 dc8 pm8 ct8 oc9 kV9 dc9 pm9 ct9 oc10 kV10 dc10 pm10 ct10 oc11 kV11 dc11 pm11 ct11 oc12 kV12 dc12 pm12 ct12 oc13 kV13 dc13 pm13 ct13 oc14 kV14 dc14 pm14 ct14 oc15 kV15 dc15 pm15 ct15 oc16 kV16 dc16 pm16 ct16 oc17 kV17 dc17 pm17 ct17 oc18 kV18 dc18 pm18 ct18 oc19 kV19 dc19 pm19 ct19 oc20 kV20 dc20 pm20 ct20 : Value}
    {P2 P7 : Addr} {e2 e7 : Value} {dd2 dd7 : Option Addr} {vs2 vs7 : Array Value} {cl2 cl7 : Array (Option Value)}
    (a1 : PySem.W.nsIn K mainGlobals "is_number" = some (some (.ref f1))) (l1 : K.lookup f1 = some ⟨oc1, od1, .func (PySem.W.fnOf "is_number" "is_number" (defArgs s_is_number) (defBody s_is_number) (defScope s_is_number) .none kV1 dc1 pm1 an1 (.ref c1) ct1), sl1⟩) (u1 : PySem.W.codeIn K (.ref c1) "is_number" = true) (k1 : PySem.W.keepIn K (.ref f1) = true)
    (a2 : PySem.W.nsIn K mainGlobals "is_week" = some (some (.ref f2))) (l2 : K.lookup f2 = some ⟨oc2, od2, .func (PySem.W.fnOf "is_week" "is_week" (defArgs s_is_week) (defBody s_is_week) (defScope s_is_week) .none kV2 dc2 pm2 an2 (.ref c2) ct2), sl2⟩) (u2 : PySem.W.codeIn K (.ref c2) "is_week" = true) (k2 : PySem.W.keepIn K (.ref f2) = true)
    (q2 : K.lookup c2 = some ⟨e2, dd2, .fields vs2, cl2⟩) (p2 : vs2[11]? = some (.ref P2)) (h2 : PySem.W.codeHdIn K c2 P2 = true) (n2 : K.lookup P2 = none) (r2 : ((recsOf q).any fun e => e.name == ("is_week" : Str)) = true)
    (a3 : PySem.W.nsIn K mainGlobals "levels_from" = some (some (.ref f3))) (l3 : K.lookup f3 = some ⟨oc3, od3, .func (PySem.W.fnOf "levels_from" "levels_from" (defArgs s_levels_from) (defBody s_levels_from) (defScope s_levels_from) .none kV3 dc3 pm3 an3 (.ref c3) ct3), sl3⟩) (u3 : PySem.W.codeIn K (.ref c3) "levels_from" = true) (k3 : PySem.W.keepIn K (.ref f3) = true)
    (a4 : PySem.W.nsIn K mainGlobals "levels" = some (some (.ref f4))) (l4 : K.lookup f4 = some ⟨oc4, od4, .func (PySem.W.fnOf "levels" "levels" (defArgs s_levels) (defBody s_levels) (defScope s_levels) .none kV4 dc4 pm4 an4 (.ref c4) ct4), sl4⟩) (u4 : PySem.W.codeIn K (.ref c4) "levels" = true) (k4 : PySem.W.keepIn K (.ref f4) = true)
    (a5 : PySem.W.nsIn K mainGlobals "steady_levels" = some (some (.ref f5))) (l5 : K.lookup f5 = some ⟨oc5, od5, .func (PySem.W.fnOf "steady_levels" "steady_levels" (defArgs s_steady_levels) (defBody s_steady_levels) (defScope s_steady_levels) .none kV5 dc5 pm5 an5 (.ref c5) ct5), sl5⟩) (u5 : PySem.W.codeIn K (.ref c5) "steady_levels" = true) (k5 : PySem.W.keepIn K (.ref f5) = true)
    (a6 : PySem.W.nsIn K mainGlobals "worst_level" = some (some (.ref f6))) (l6 : K.lookup f6 = some ⟨oc6, od6, .func (PySem.W.fnOf "worst_level" "worst_level" (defArgs s_worst_level) (defBody s_worst_level) (defScope s_worst_level) .none kV6 dc6 pm6 an6 (.ref c6) ct6), sl6⟩) (u6 : PySem.W.codeIn K (.ref c6) "worst_level" = true) (k6 : PySem.W.keepIn K (.ref f6) = true)
    (a7 : PySem.W.nsIn K mainGlobals "are_calls" = some (some (.ref f7))) (l7 : K.lookup f7 = some ⟨oc7, od7, .func (PySem.W.fnOf "are_calls" "are_calls" (defArgs s_are_calls) (defBody s_are_calls) (defScope s_are_calls) .none kV7 dc7 pm7 an7 (.ref c7) ct7), sl7⟩) (u7 : PySem.W.codeIn K (.ref c7) "are_calls" = true) (k7 : PySem.W.keepIn K (.ref f7) = true)
    (q7 : K.lookup c7 = some ⟨e7, dd7, .fields vs7, cl7⟩) (p7 : vs7[11]? = some (.ref P7)) (h7 : PySem.W.codeHdIn K c7 P7 = true) (n7 : K.lookup P7 = none) (r7 : ((recsOf q).any fun e => e.name == ("are_calls" : Str)) = true)
    (a8 : PySem.W.nsIn K mainGlobals "times_of" = some (some (.ref f8))) (l8 : K.lookup f8 = some ⟨oc8, od8, .func (PySem.W.fnOf "times_of" "times_of" (defArgs s_times_of) (defBody s_times_of) (defScope s_times_of) .none kV8 dc8 pm8 an8 (.ref c8) ct8), sl8⟩) (u8 : PySem.W.codeIn K (.ref c8) "times_of" = true) (k8 : PySem.W.keepIn K (.ref f8) = true)
    (a9 : PySem.W.nsIn K mainGlobals "by_turns" = some (some (.ref f9))) (l9 : K.lookup f9 = some ⟨oc9, od9, .func (PySem.W.fnOf "by_turns" "by_turns" (defArgs s_by_turns) (defBody s_by_turns) (defScope s_by_turns) .none kV9 dc9 pm9 an9 (.ref c9) ct9), sl9⟩) (u9 : PySem.W.codeIn K (.ref c9) "by_turns" = true) (k9 : PySem.W.keepIn K (.ref f9) = true)
    (a10 : PySem.W.nsIn K mainGlobals "best_longest" = some (some (.ref f10))) (l10 : K.lookup f10 = some ⟨oc10, od10, .func (PySem.W.fnOf "best_longest" "best_longest" (defArgs s_best_longest) (defBody s_best_longest) (defScope s_best_longest) .none kV10 dc10 pm10 an10 (.ref c10) ct10), sl10⟩) (u10 : PySem.W.codeIn K (.ref c10) "best_longest" = true) (k10 : PySem.W.keepIn K (.ref f10) = true)
    (a11 : PySem.W.nsIn K mainGlobals "_law_draws" = some (some (.ref f11))) (l11 : K.lookup f11 = some ⟨oc11, od11, .func (PySem.W.fnOf "_law_draws" "_law_draws" (defArgs s__law_draws) (defBody s__law_draws) (defScope s__law_draws) .none kV11 dc11 pm11 an11 (.ref c11) ct11), sl11⟩) (u11 : PySem.W.codeIn K (.ref c11) "_law_draws" = true) (k11 : PySem.W.keepIn K (.ref f11) = true)
    (a12 : PySem.W.nsIn K mainGlobals "_law_take" = some (some (.ref f12))) (l12 : K.lookup f12 = some ⟨oc12, od12, .func (PySem.W.fnOf "_law_take" "_law_take" (defArgs s__law_take) (defBody s__law_take) (defScope s__law_take) .none kV12 dc12 pm12 an12 (.ref c12) ct12), sl12⟩) (u12 : PySem.W.codeIn K (.ref c12) "_law_take" = true) (k12 : PySem.W.keepIn K (.ref f12) = true)
    (a13 : PySem.W.nsIn K mainGlobals "_law_says" = some (some (.ref f13))) (l13 : K.lookup f13 = some ⟨oc13, od13, .func (PySem.W.fnOf "_law_says" "_law_says" (defArgs s__law_says) (defBody s__law_says) (defScope s__law_says) .none kV13 dc13 pm13 an13 (.ref c13) ct13), sl13⟩) (u13 : PySem.W.codeIn K (.ref c13) "_law_says" = true) (k13 : PySem.W.keepIn K (.ref f13) = true)
    (a14 : PySem.W.nsIn K mainGlobals "_law_alike" = some (some (.ref f14))) (l14 : K.lookup f14 = some ⟨oc14, od14, .func (PySem.W.fnOf "_law_alike" "_law_alike" (defArgs s__law_alike) (defBody s__law_alike) (defScope s__law_alike) .none kV14 dc14 pm14 an14 (.ref c14) ct14), sl14⟩) (u14 : PySem.W.codeIn K (.ref c14) "_law_alike" = true) (k14 : PySem.W.keepIn K (.ref f14) = true)
    (a15 : PySem.W.nsIn K mainGlobals "_law_word" = some (some (.ref f15))) (l15 : K.lookup f15 = some ⟨oc15, od15, .func (PySem.W.fnOf "_law_word" "_law_word" (defArgs s__law_word) (defBody s__law_word) (defScope s__law_word) .none kV15 dc15 pm15 an15 (.ref c15) ct15), sl15⟩) (u15 : PySem.W.codeIn K (.ref c15) "_law_word" = true) (k15 : PySem.W.keepIn K (.ref f15) = true)
    (a16 : PySem.W.nsIn K mainGlobals "_law_told" = some (some (.ref f16))) (l16 : K.lookup f16 = some ⟨oc16, od16, .func (PySem.W.fnOf "_law_told" "_law_told" (defArgs s__law_told) (defBody s__law_told) (defScope s__law_told) .none kV16 dc16 pm16 an16 (.ref c16) ct16), sl16⟩) (u16 : PySem.W.codeIn K (.ref c16) "_law_told" = true) (k16 : PySem.W.keepIn K (.ref f16) = true)
    (a17 : PySem.W.nsIn K mainGlobals "_law_tired" = some (some (.ref f17))) (l17 : K.lookup f17 = some ⟨oc17, od17, .func (PySem.W.fnOf "_law_tired" "_law_tired" (defArgs s__law_tired) (defBody s__law_tired) (defScope s__law_tired) .none kV17 dc17 pm17 an17 (.ref c17) ct17), sl17⟩) (u17 : PySem.W.codeIn K (.ref c17) "_law_tired" = true) (k17 : PySem.W.keepIn K (.ref f17) = true)
    (a18 : PySem.W.nsIn K mainGlobals "_law_weeks" = some (some (.ref f18))) (l18 : K.lookup f18 = some ⟨oc18, od18, .func (PySem.W.fnOf "_law_weeks" "_law_weeks" (defArgs s__law_weeks) (defBody s__law_weeks) (defScope s__law_weeks) .none kV18 dc18 pm18 an18 (.ref c18) ct18), sl18⟩) (u18 : PySem.W.codeIn K (.ref c18) "_law_weeks" = true) (k18 : PySem.W.keepIn K (.ref f18) = true)
    (a19 : PySem.W.nsIn K mainGlobals "_law_longest" = some (some (.ref f19))) (l19 : K.lookup f19 = some ⟨oc19, od19, .func (PySem.W.fnOf "_law_longest" "_law_longest" (defArgs s__law_longest) (defBody s__law_longest) (defScope s__law_longest) .none kV19 dc19 pm19 an19 (.ref c19) ct19), sl19⟩) (u19 : PySem.W.codeIn K (.ref c19) "_law_longest" = true) (k19 : PySem.W.keepIn K (.ref f19) = true)
    (a20 : PySem.W.nsIn K mainGlobals "law" = some (some (.ref f20))) (l20 : K.lookup f20 = some ⟨oc20, od20, .func (PySem.W.fnOf "law" "law" (defArgs s_law) (defBody s_law) (defScope s_law) .none kV20 dc20 pm20 an20 (.ref c20) ct20), sl20⟩) (u20 : PySem.W.codeIn K (.ref c20) "law" = true) (k20 : PySem.W.keepIn K (.ref f20) = true)
    (z_abs : PySem.W.nsIn K mainGlobals "abs" = some none)
    (z_all : PySem.W.nsIn K mainGlobals "all" = some none)
    (z_bool : PySem.W.nsIn K mainGlobals "bool" = some none)
    (z_int : PySem.W.nsIn K mainGlobals "int" = some none)
    (z_isinstance : PySem.W.nsIn K mainGlobals "isinstance" = some none)
    (z_len : PySem.W.nsIn K mainGlobals "len" = some none)
    (z_list : PySem.W.nsIn K mainGlobals "list" = some none)
    (z_max : PySem.W.nsIn K mainGlobals "max" = some none)
    (z_min : PySem.W.nsIn K mainGlobals "min" = some none)
    (z_range : PySem.W.nsIn K mainGlobals "range" = some none)
    (z_reversed : PySem.W.nsIn K mainGlobals "reversed" = some none)
    (z_sorted : PySem.W.nsIn K mainGlobals "sorted" = some none)
    (z_str : PySem.W.nsIn K mainGlobals "str" = some none)
    (z_sum : PySem.W.nsIn K mainGlobals "sum" = some none)
    (z_tuple : PySem.W.nsIn K mainGlobals "tuple" = some none)
    (z_zip : PySem.W.nsIn K mainGlobals "zip" = some none)
    {t_MOST_CALLS : Tok} (m_MOST_CALLS : PySem.W.nsIn K mainGlobals "MOST_CALLS" = some (some (.int 8 t_MOST_CALLS)))
    {t_MOST_CHANGE : Tok} (m_MOST_CHANGE : PySem.W.nsIn K mainGlobals "MOST_CHANGE" = some (some (.int 50 t_MOST_CHANGE)))
    {t_MOST_HOURS : Tok} (m_MOST_HOURS : PySem.W.nsIn K mainGlobals "MOST_HOURS" = some (some (.int 40 t_MOST_HOURS)))
    {t_MOST_MINUTES : Tok} (m_MOST_MINUTES : PySem.W.nsIn K mainGlobals "MOST_MINUTES" = some (some (.int 60 t_MOST_MINUTES)))
    {X_FireError : Addr} (y_FireError : PySem.W.nsIn K mainGlobals "FireError" = some (some (.ref X_FireError)))
    {X_OutOfRange : Addr} (y_OutOfRange : PySem.W.nsIn K mainGlobals "OutOfRange" = some (some (.ref X_OutOfRange)))
    {X_Malformed : Addr} (y_Malformed : PySem.W.nsIn K mainGlobals "Malformed" = some (some (.ref X_Malformed)))
    {X_NotThere : Addr} (y_NotThere : PySem.W.nsIn K mainGlobals "NotThere" = some (some (.ref X_NotThere)))
    {X_Refused : Addr} (y_Refused : PySem.W.nsIn K mainGlobals "Refused" = some (some (.ref X_Refused)))
    {X_TooMuch : Addr} (y_TooMuch : PySem.W.nsIn K mainGlobals "TooMuch" = some (some (.ref X_TooMuch)))
    (ye_Refused : PySem.W.excIn K X_Refused [.type "ValueError", .type "Exception", .type "BaseException", .type "object"] "ValueError.__new__" = true) (yk_Refused : PySem.W.keepIn K (.ref X_Refused) = true) (ys_Refused : PySem.W.subIn K (.ref X_Refused) (.type "BaseException") = some true) (yt_Refused : PySem.W.typeIn K (.ref X_Refused) = some (.type "type"))
    (yc_FireError : ClsF K X_FireError)
    (yc_OutOfRange : ClsF K X_OutOfRange)
    (yc_Malformed : ClsF K X_Malformed)
    (yc_NotThere : ClsF K X_NotThere)
    (yc_Refused : ClsF K X_Refused)
    (yc_TooMuch : ClsF K X_TooMuch)
    (yn_OutOfRange_FireError : (X_OutOfRange == X_FireError) = false) (yi_OutOfRange_FireError : PySem.W.subIn K (.ref X_OutOfRange) (.ref X_FireError) = some true)
    (yn_OutOfRange_Malformed : (X_OutOfRange == X_Malformed) = false) (yi_OutOfRange_Malformed : PySem.W.subIn K (.ref X_OutOfRange) (.ref X_Malformed) = some false)
    (yn_OutOfRange_NotThere : (X_OutOfRange == X_NotThere) = false) (yi_OutOfRange_NotThere : PySem.W.subIn K (.ref X_OutOfRange) (.ref X_NotThere) = some false)
    (yn_OutOfRange_Refused : (X_OutOfRange == X_Refused) = false) (yi_OutOfRange_Refused : PySem.W.subIn K (.ref X_OutOfRange) (.ref X_Refused) = some false)
    (yn_OutOfRange_TooMuch : (X_OutOfRange == X_TooMuch) = false) (yi_OutOfRange_TooMuch : PySem.W.subIn K (.ref X_OutOfRange) (.ref X_TooMuch) = some false)
    (yx_OutOfRange : ExcC K X_OutOfRange)
    (yn_Malformed_FireError : (X_Malformed == X_FireError) = false) (yi_Malformed_FireError : PySem.W.subIn K (.ref X_Malformed) (.ref X_FireError) = some true)
    (yn_Malformed_OutOfRange : (X_Malformed == X_OutOfRange) = false) (yi_Malformed_OutOfRange : PySem.W.subIn K (.ref X_Malformed) (.ref X_OutOfRange) = some false)
    (yn_Malformed_NotThere : (X_Malformed == X_NotThere) = false) (yi_Malformed_NotThere : PySem.W.subIn K (.ref X_Malformed) (.ref X_NotThere) = some false)
    (yn_Malformed_Refused : (X_Malformed == X_Refused) = false) (yi_Malformed_Refused : PySem.W.subIn K (.ref X_Malformed) (.ref X_Refused) = some false)
    (yn_Malformed_TooMuch : (X_Malformed == X_TooMuch) = false) (yi_Malformed_TooMuch : PySem.W.subIn K (.ref X_Malformed) (.ref X_TooMuch) = some false)
    (yx_Malformed : ExcC K X_Malformed)
    (yn_NotThere_FireError : (X_NotThere == X_FireError) = false) (yi_NotThere_FireError : PySem.W.subIn K (.ref X_NotThere) (.ref X_FireError) = some true)
    (yn_NotThere_OutOfRange : (X_NotThere == X_OutOfRange) = false) (yi_NotThere_OutOfRange : PySem.W.subIn K (.ref X_NotThere) (.ref X_OutOfRange) = some false)
    (yn_NotThere_Malformed : (X_NotThere == X_Malformed) = false) (yi_NotThere_Malformed : PySem.W.subIn K (.ref X_NotThere) (.ref X_Malformed) = some false)
    (yn_NotThere_Refused : (X_NotThere == X_Refused) = false) (yi_NotThere_Refused : PySem.W.subIn K (.ref X_NotThere) (.ref X_Refused) = some false)
    (yn_NotThere_TooMuch : (X_NotThere == X_TooMuch) = false) (yi_NotThere_TooMuch : PySem.W.subIn K (.ref X_NotThere) (.ref X_TooMuch) = some false)
    (yx_NotThere : ExcC K X_NotThere)
    (yn_Refused_FireError : (X_Refused == X_FireError) = false) (yi_Refused_FireError : PySem.W.subIn K (.ref X_Refused) (.ref X_FireError) = some true)
    (yn_Refused_OutOfRange : (X_Refused == X_OutOfRange) = false) (yi_Refused_OutOfRange : PySem.W.subIn K (.ref X_Refused) (.ref X_OutOfRange) = some false)
    (yn_Refused_Malformed : (X_Refused == X_Malformed) = false) (yi_Refused_Malformed : PySem.W.subIn K (.ref X_Refused) (.ref X_Malformed) = some false)
    (yn_Refused_NotThere : (X_Refused == X_NotThere) = false) (yi_Refused_NotThere : PySem.W.subIn K (.ref X_Refused) (.ref X_NotThere) = some false)
    (yn_Refused_TooMuch : (X_Refused == X_TooMuch) = false) (yi_Refused_TooMuch : PySem.W.subIn K (.ref X_Refused) (.ref X_TooMuch) = some false)
    (yx_Refused : ExcC K X_Refused)
    (yn_TooMuch_FireError : (X_TooMuch == X_FireError) = false) (yi_TooMuch_FireError : PySem.W.subIn K (.ref X_TooMuch) (.ref X_FireError) = some true)
    (yn_TooMuch_OutOfRange : (X_TooMuch == X_OutOfRange) = false) (yi_TooMuch_OutOfRange : PySem.W.subIn K (.ref X_TooMuch) (.ref X_OutOfRange) = some false)
    (yn_TooMuch_Malformed : (X_TooMuch == X_Malformed) = false) (yi_TooMuch_Malformed : PySem.W.subIn K (.ref X_TooMuch) (.ref X_Malformed) = some false)
    (yn_TooMuch_NotThere : (X_TooMuch == X_NotThere) = false) (yi_TooMuch_NotThere : PySem.W.subIn K (.ref X_TooMuch) (.ref X_NotThere) = some false)
    (yn_TooMuch_Refused : (X_TooMuch == X_Refused) = false) (yi_TooMuch_Refused : PySem.W.subIn K (.ref X_TooMuch) (.ref X_Refused) = some false)
    (yx_TooMuch : ExcC K X_TooMuch)
    (ym_OutOfRange : PySem.W.subIn K (.ref X_OutOfRange) (.ref X_FireError) = some true)
    (ym_Malformed : PySem.W.subIn K (.ref X_Malformed) (.ref X_FireError) = some true)
    (ym_NotThere : PySem.W.subIn K (.ref X_NotThere) (.ref X_FireError) = some true)
    (ym_Refused : PySem.W.subIn K (.ref X_Refused) (.ref X_FireError) = some true)
    (ym_TooMuch : PySem.W.subIn K (.ref X_TooMuch) (.ref X_FireError) = some true)
    : LamX.LawAtS l w K CX0 7 63 "script" mg fa h := by
  have e0 := hfa.symm.trans (PySem.W.mg_of X G a20)
  cases e0
  have M : Blt K mg := ⟨PySem.W.mg_none_of X G z_abs, PySem.W.mg_none_of X G z_all, PySem.W.mg_none_of X G z_bool, PySem.W.mg_none_of X G z_int, PySem.W.mg_none_of X G z_isinstance, PySem.W.mg_none_of X G z_len, PySem.W.mg_none_of X G z_list, PySem.W.mg_none_of X G z_max, PySem.W.mg_none_of X G z_min, PySem.W.mg_none_of X G z_range, PySem.W.mg_none_of X G z_reversed, PySem.W.mg_none_of X G z_sorted, PySem.W.mg_none_of X G z_str, PySem.W.mg_none_of X G z_sum, PySem.W.mg_none_of X G z_tuple, PySem.W.mg_none_of X G z_zip, ⟨⟨X_Refused, "ValueError", "ValueError.__new__", "ValueError.__init__", _, PySem.F.excBase_ValueError, ye_Refused, PySem.W.mg_of X G y_Refused, yk_Refused, ys_Refused, yt_Refused⟩⟩, isF_mk (PySem.W.mg_of X G y_FireError) (PySem.W.mg_of X G y_OutOfRange) (PySem.W.mg_of X G y_Malformed) (PySem.W.mg_of X G y_NotThere) (PySem.W.mg_of X G y_Refused) (PySem.W.mg_of X G y_TooMuch) (kit_sub yc_FireError yn_OutOfRange_FireError yi_OutOfRange_FireError) kit_self (kit_sub yc_Malformed yn_OutOfRange_Malformed yi_OutOfRange_Malformed) (kit_sub yc_NotThere yn_OutOfRange_NotThere yi_OutOfRange_NotThere) (kit_sub yc_Refused yn_OutOfRange_Refused yi_OutOfRange_Refused) (kit_sub yc_TooMuch yn_OutOfRange_TooMuch yi_OutOfRange_TooMuch) (kit_sub yc_FireError yn_Malformed_FireError yi_Malformed_FireError) (kit_sub yc_OutOfRange yn_Malformed_OutOfRange yi_Malformed_OutOfRange) kit_self (kit_sub yc_NotThere yn_Malformed_NotThere yi_Malformed_NotThere) (kit_sub yc_Refused yn_Malformed_Refused yi_Malformed_Refused) (kit_sub yc_TooMuch yn_Malformed_TooMuch yi_Malformed_TooMuch) (kit_sub yc_FireError yn_NotThere_FireError yi_NotThere_FireError) (kit_sub yc_OutOfRange yn_NotThere_OutOfRange yi_NotThere_OutOfRange) (kit_sub yc_Malformed yn_NotThere_Malformed yi_NotThere_Malformed) kit_self (kit_sub yc_Refused yn_NotThere_Refused yi_NotThere_Refused) (kit_sub yc_TooMuch yn_NotThere_TooMuch yi_NotThere_TooMuch) (kit_sub yc_FireError yn_Refused_FireError yi_Refused_FireError) (kit_sub yc_OutOfRange yn_Refused_OutOfRange yi_Refused_OutOfRange) (kit_sub yc_Malformed yn_Refused_Malformed yi_Refused_Malformed) (kit_sub yc_NotThere yn_Refused_NotThere yi_Refused_NotThere) kit_self (kit_sub yc_TooMuch yn_Refused_TooMuch yi_Refused_TooMuch) (kit_sub yc_FireError yn_TooMuch_FireError yi_TooMuch_FireError) (kit_sub yc_OutOfRange yn_TooMuch_OutOfRange yi_TooMuch_OutOfRange) (kit_sub yc_Malformed yn_TooMuch_Malformed yi_TooMuch_Malformed) (kit_sub yc_NotThere yn_TooMuch_NotThere yi_TooMuch_NotThere) (kit_sub yc_Refused yn_TooMuch_Refused yi_TooMuch_Refused) kit_self yx_OutOfRange yx_Malformed yx_NotThere yx_Refused yx_TooMuch, excF_mk (PySem.W.mg_of X G y_FireError) (PySem.W.mg_of X G y_OutOfRange) (PySem.W.mg_of X G y_Malformed) (PySem.W.mg_of X G y_NotThere) (PySem.W.mg_of X G y_Refused) (PySem.W.mg_of X G y_TooMuch) (exm_sub yc_FireError ym_OutOfRange) (exm_sub yc_FireError ym_Malformed) (exm_sub yc_FireError ym_NotThere) (exm_sub yc_FireError ym_Refused) (exm_sub yc_FireError ym_TooMuch), ⟨_, PySem.W.mg_of X G m_MOST_CALLS, ⟨_, rfl⟩⟩, ⟨_, PySem.W.mg_of X G m_MOST_CHANGE, ⟨_, rfl⟩⟩, ⟨_, PySem.W.mg_of X G m_MOST_HOURS, ⟨_, rfl⟩⟩, ⟨_, PySem.W.mg_of X G m_MOST_MINUTES, ⟨_, rfl⟩⟩⟩
  have F1 := funT_mk (st := s_is_number) l1 u1 k1
  have b1 := F1.toFun.binds (ps := ["value", "least", "most"]) fun _ _ _ _ _ _ us hl => match us, hl with | [_, _, _], _ => rfl
  have F2 := funT_mk (st := s_is_week) l2 u2 k2
  have b2 := F2.toFun.binds (ps := ["value"]) fun _ _ _ _ _ _ us hl => match us, hl with | [_], _ => rfl
  have t2 := T.at X r2 (PySem.W.mg_of X G a2) l2 rfl rfl q2 p2
  have C2 := PySem.W.codeHd_of_K X h2
  have F3 := funT_mk (st := s_levels_from) l3 u3 k3
  have b3 := F3.toFun.binds (ps := ["week", "level"]) fun _ _ _ _ _ _ us hl => match us, hl with | [_, _], _ => rfl
  have F4 := funT_mk (st := s_levels) l4 u4 k4
  have b4 := F4.toFun.binds (ps := ["week"]) fun _ _ _ _ _ _ us hl => match us, hl with | [_], _ => rfl
  have F5 := funT_mk (st := s_steady_levels) l5 u5 k5
  have b5 := F5.toFun.binds (ps := ["week"]) fun _ _ _ _ _ _ us hl => match us, hl with | [_], _ => rfl
  have F6 := funT_mk (st := s_worst_level) l6 u6 k6
  have b6 := F6.toFun.binds (ps := ["week"]) fun _ _ _ _ _ _ us hl => match us, hl with | [_], _ => rfl
  have F7 := funT_mk (st := s_are_calls) l7 u7 k7
  have b7 := F7.toFun.binds (ps := ["value"]) fun _ _ _ _ _ _ us hl => match us, hl with | [_], _ => rfl
  have t7 := T.at X r7 (PySem.W.mg_of X G a7) l7 rfl rfl q7 p7
  have C7 := PySem.W.codeHd_of_K X h7
  have F8 := funT_mk (st := s_times_of) l8 u8 k8
  have b8 := F8.toFun.binds (ps := ["calls", "crews", "given"]) fun _ _ _ _ _ _ us hl => match us, hl with | [_, _, _], _ => rfl
  have F9 := funT_mk (st := s_by_turns) l9 u9 k9
  have b9 := F9.toFun.binds (ps := ["calls", "crews"]) fun _ _ _ _ _ _ us hl => match us, hl with | [_, _], _ => rfl
  have F10 := funT_mk (st := s_best_longest) l10 u10 k10
  have b10 := F10.toFun.binds (ps := ["calls", "crews"]) fun _ _ _ _ _ _ us hl => match us, hl with | [_, _], _ => rfl
  have F11 := funT_mk (st := s__law_draws) l11 u11 k11
  have b11 := F11.toFun.binds (ps := ["script"]) fun _ _ _ _ _ _ us hl => match us, hl with | [_], _ => rfl
  have F12 := funT_mk (st := s__law_take) l12 u12 k12
  have b12 := F12.toFun.binds (ps := ["draws", "bound"]) fun _ _ _ _ _ _ us hl => match us, hl with | [_, _], _ => rfl
  have F13 := funT_mk (st := s__law_says) l13 u13 k13
  have b13 := F13.toFun.binds (ps := ["told", "due"]) fun _ _ _ _ _ _ us hl => match us, hl with | [_, _], _ => rfl
  have F14 := funT_mk (st := s__law_alike) l14 u14 k14
  have b14 := F14.toFun.binds (ps := ["found", "due"]) fun _ _ _ _ _ _ us hl => match us, hl with | [_, _], _ => rfl
  have F15 := funT_mk (st := s__law_word) l15 u15 k15
  have b15 := F15.toFun.binds (ps := ["error"]) fun _ _ _ _ _ _ us hl => match us, hl with | [_], _ => rfl
  have F16 := funT_mk (st := s__law_told) l16 u16 k16
  have b16 := F16.toFun.binds (ps := ["week"]) fun _ _ _ _ _ _ us hl => match us, hl with | [_], _ => rfl
  have F17 := funT_mk (st := s__law_tired) l17 u17 k17
  have b17 := F17.toFun.binds (ps := ["hours"]) fun _ _ _ _ _ _ us hl => match us, hl with | [_], _ => rfl
  have F18 := funT_mk (st := s__law_weeks) l18 u18 k18
  have b18 := F18.toFun.binds (ps := ["draws"]) fun _ _ _ _ _ _ us hl => match us, hl with | [_], _ => rfl
  have F19 := funT_mk (st := s__law_longest) l19 u19 k19
  have b19 := F19.toFun.binds (ps := ["calls", "crews"]) fun _ _ _ _ _ _ us hl => match us, hl with | [_, _], _ => rfl
  have F20 := funT_mk (st := s_law) l20 u20 k20
  have b20 := F20.toFun.binds (ps := ["script"]) fun _ _ _ _ _ _ us hl => match us, hl with | [_], _ => rfl
  refine ⟨PySem.W.fnOf "law" "law" (defArgs s_law) (defBody s_law) (defScope s_law) .none kV20 dc20 pm20 an20 (.ref c20) ct20, [(c2, P2), (c7, P7)], spW (⟨[P2, P7], false⟩ : VL.Tau) K mg 1 fw_law, List.forall_mem_cons.mpr ⟨t2, List.forall_mem_cons.mpr ⟨t7, List.forall_mem_nil _⟩⟩, List.forall_mem_cons.mpr ⟨n2, List.forall_mem_cons.mpr ⟨n7, List.forall_mem_nil _⟩⟩, List.forall_mem_cons.mpr ⟨C2, List.forall_mem_cons.mpr ⟨C7, List.forall_mem_nil _⟩⟩, fun s v => .of_eq rfl, fun H a ns hl hbits hT hS => law_sp (n := 63) (fun ns hl => law_law hl _ _ rfl) H a ns hl (fun P hP => ?_) hS, fun base KB GB TB => ?_⟩
  · obtain ⟨p, hp, e⟩ := List.mem_map.mp (show P ∈ ([(c2, P2), (c7, P7)] : List (Addr × Addr)).map (·.2) from VL.Tau.mem' hP)
    rw [← e]; exact hT p hp
  · have B2 := TB (c2, P2) (by simp)
    have B2 : GxR.TabB base mg c2 P2 := ⟨B2.code, B2.bm, B2.gP⟩
    have B7 := TB (c7, P7) (by simp)
    have B7 : GxR.TabB base mg c7 P7 := ⟨B7.code, B7.bm, B7.gP⟩
    have K1 : VL.Cal (⟨[P2, P7], false⟩ : VL.Tau) l.prog w K mg base 1 "is_number" ["value", "least", "most"] isnumW := ⟨_, _, fn_fw (ok_is_number F1 M) isnum_law, PySem.W.mg_of X G a1, k1, b1⟩
    have K2 : VL.Cal (⟨[P2, P7], false⟩ : VL.Tau) l.prog w K mg base 3 "is_week" ["value"] weekW := ⟨_, _, fn_fw (ok_is_week F2 B2 (VL.Tau.mem (by simp)) K1 M) law_week, PySem.W.mg_of X G a2, k2, b2⟩
    have K3 : VL.Cal (⟨[P2, P7], false⟩ : VL.Tau) l.prog w K mg base 1 "levels_from" ["week", "level"] lvfW := ⟨_, _, fn_fw (ok_levels_from F3 M) law_lvf, PySem.W.mg_of X G a3, k3, b3⟩
    have K4 : VL.Cal (⟨[P2, P7], false⟩ : VL.Tau) l.prog w K mg base 2 "levels" ["week"] levW := ⟨_, _, fn_fw (ok_levels F4 K3 M) law_lev, PySem.W.mg_of X G a4, k4, b4⟩
    have K5 : VL.CalX (⟨[P2, P7], false⟩ : VL.Tau) l.prog w K mg base 3 "steady_levels" ["week"] steadyW := ⟨_, _, fn_fw (ok_steady_levels F5 K4 K3 M) law_steady, PySem.W.mg_of X G a5, k5, b5⟩
    have K6 : VL.Cal (⟨[P2, P7], false⟩ : VL.Tau) l.prog w K mg base 3 "worst_level" ["week"] worstW := ⟨_, _, fn_fw (ok_worst_level F6 K4 M) law_worst, PySem.W.mg_of X G a6, k6, b6⟩
    have K7 : VL.Cal (⟨[P2, P7], false⟩ : VL.Tau) l.prog w K mg base 3 "are_calls" ["value"] areW := ⟨_, _, fn_fw (ok_are_calls F7 B7 (VL.Tau.mem (by simp)) K1 M) law_are, PySem.W.mg_of X G a7, k7, b7⟩
    have K8 : VL.Cal (⟨[P2, P7], false⟩ : VL.Tau) l.prog w K mg base 1 "times_of" ["calls", "crews", "given"] timesW := ⟨_, _, fn_fw (ok_times_of F8 M) law_times, PySem.W.mg_of X G a8, k8, b8⟩
    have K9 : VL.Cal (⟨[P2, P7], false⟩ : VL.Tau) l.prog w K mg base 1 "by_turns" ["calls", "crews"] turnsW := ⟨_, _, fn_fw (ok_by_turns F9 M) law_turns, PySem.W.mg_of X G a9, k9, b9⟩
    have K10 : VL.Cal (⟨[P2, P7], false⟩ : VL.Tau) l.prog w K mg base 1 "best_longest" ["calls", "crews"] bestW := ⟨_, _, fn_fw (ok_best_longest F10 M) law_best, PySem.W.mg_of X G a10, k10, b10⟩
    have K11 : VL.Cal (⟨[P2, P7], false⟩ : VL.Tau) l.prog w K mg base 1 "_law_draws" ["script"] drawsW := ⟨_, _, fn_fw (fn_dr rfl (ok__law_draws F11 M)) draws_law, PySem.W.mg_of X G a11, k11, b11⟩
    have K12 : VL.Cal (⟨[P2, P7], false⟩ : VL.Tau) l.prog w K mg base 1 "_law_take" ["draws", "bound"] takeW := ⟨_, _, ok_take rfl F12 ⟨rfl, rfl, rfl, by decide +kernel, rfl, by decide +kernel, by decide +kernel⟩ rfl rfl rfl rfl rfl rfl M.b_len M.b_int, PySem.W.mg_of X G a12, k12, b12⟩
    have K13 : VL.Cal (⟨[P2, P7], false⟩ : VL.Tau) l.prog w K mg base 1 "_law_says" ["told", "due"] saysW := ⟨_, _, fn_fw (ok__law_says F13 M) law_says, PySem.W.mg_of X G a13, k13, b13⟩
    have K14 : VL.Cal (⟨[P2, P7], false⟩ : VL.Tau) l.prog w K mg base 5 "_law_alike" ["found", "due"] (sameW 4) := ⟨_, _, fn_rec (W := sameR) (fun _ _ _ h => h) (PySem.W.mg_of X G a14) k14 b14 (fun n C => fn_fw (ok__law_alike F14 C M) (alike_step n)) 5, PySem.W.mg_of X G a14, k14, b14⟩
    have K15 : VL.CalE (⟨[P2, P7], false⟩ : VL.Tau) l.prog w K mg base 1 "_law_word" ["error"] fiveP word2W := ⟨fun a oe C nm h1 h2 h3 h4 => ⟨_, _, FnE.imp (ok__law_word F15 M h1 h2 h3 h4) (spW_fw word2_law), PySem.W.mg_of X G a15, k15, b15⟩⟩
    have K16 : VL.Cal (⟨[P2, P7], false⟩ : VL.Tau) l.prog w K mg base 4 "_law_told" ["week"] toldW := ⟨_, _, fn_fw (ok__law_told F16 K15 K5 M) law_told, PySem.W.mg_of X G a16, k16, b16⟩
    have K17 : VL.Cal (⟨[P2, P7], false⟩ : VL.Tau) l.prog w K mg base 1 "_law_tired" ["hours"] tiredW := ⟨_, _, fn_fw (ok__law_tired F17 M) law_tired, PySem.W.mg_of X G a17, k17, b17⟩
    have K18 : VL.Cal (⟨[P2, P7], false⟩ : VL.Tau) l.prog w K mg base 6 "_law_weeks" ["draws"] weeksW := ⟨_, _, fn_fw (ok__law_weeks F18 K14 K13 K12 K17 K16 K2 K4 K6 M) law_weeks, PySem.W.mg_of X G a18, k18, b18⟩
    have K19 : VL.Cal (⟨[P2, P7], false⟩ : VL.Tau) l.prog w K mg base 1 "_law_longest" ["calls", "crews"] longW := ⟨_, _, fn_fw (ok__law_longest F19 M) law_long, PySem.W.mg_of X G a19, k19, b19⟩
    exact ok_law F20 K14 K11 K19 K13 K12 K18 K7 K10 K9 K8 M
end Lw
open PySem PySem.W PyProof.Rows
set_option maxRecDepth 100000 in
set_option maxHeartbeats 0 in
theorem PySem.Challenge.cw_bucketsheld_k33_whole_tiredness_and_call_holds : PySem.Challenge.rw_bucketsheld_k33_whole_tiredness_and_call.Holds := by
  w_on; o_law; k_head; (case hw => w_witness2)
  k_fill
  refine VL.walk_ofAll (l := PySem.Challenge.rw_bucketsheld_k33_whole_tiredness_and_call) (n := 63) (k := 7) (x := "script") (CX := fun _ => L2.CX0) rfl (by decide) rfl ⟨rfl, by decide, by decide⟩ (fun w h Y => PySem.W.kIn_of Y) ?F (fun _ _ _ _ _ z => z)
  case F =>
    intro w mg fa h Y KX G hmg T
    refine' Lw.all_mk KX G T hmg ?a1 ?l1 ?u1 ?k1 ?a2 ?l2 ?u2 ?k2 ?q2 ?p2 ?h2 ?n2 ?r2 ?a3 ?l3 ?u3 ?k3 ?a4 ?l4 ?u4 ?k4 ?a5 ?l5 ?u5 ?k5 ?a6 ?l6 ?u6 ?k6 ?a7 ?l7 ?u7 ?k7 ?q7 ?p7 ?h7 ?n7 ?r7 ?a8 ?l8 ?u8 ?k8 ?a9 ?l9 ?u9 ?k9 ?a10 ?l10 ?u10 ?k10 ?a11 ?l11 ?u11 ?k11 ?a12 ?l12 ?u12 ?k12 ?a13 ?l13 ?u13 ?k13 ?a14 ?l14 ?u14 ?k14 ?a15 ?l15 ?u15 ?k15 ?a16 ?l16 ?u16 ?k16 ?a17 ?l17 ?u17 ?k17 ?a18 ?l18 ?u18 ?k18 ?a19 ?l19 ?u19 ?k19 ?a20 ?l20 ?u20 ?k20 ?z_abs ?z_all ?z_bool ?z_int ?z_isinstance ?z_len ?z_list ?z_max ?z_min ?z_range ?z_reversed ?z_sorted ?z_str ?z_sum ?z_tuple ?z_zip ?m_MOST_CALLS ?m_MOST_CHANGE ?m_MOST_HOURS ?m_MOST_MINUTES ?y_FireError ?y_OutOfRange ?y_Malformed ?y_NotThere ?y_Refused ?y_TooMuch ?ye_Refused ?yk_Refused ?ys_Refused ?yt_Refused ?yc_FireError ?yc_OutOfRange ?yc_Malformed ?yc_NotThere ?yc_Refused ?yc_TooMuch ?yn_OutOfRange_FireError ?yi_OutOfRange_FireError ?yn_OutOfRange_Malformed ?yi_OutOfRange_Malformed ?yn_OutOfRange_NotThere ?yi_OutOfRange_NotThere ?yn_OutOfRange_Refused ?yi_OutOfRange_Refused ?yn_OutOfRange_TooMuch ?yi_OutOfRange_TooMuch ?yx_OutOfRange ?yn_Malformed_FireError ?yi_Malformed_FireError ?yn_Malformed_OutOfRange ?yi_Malformed_OutOfRange ?yn_Malformed_NotThere ?yi_Malformed_NotThere ?yn_Malformed_Refused ?yi_Malformed_Refused ?yn_Malformed_TooMuch ?yi_Malformed_TooMuch ?yx_Malformed ?yn_NotThere_FireError ?yi_NotThere_FireError ?yn_NotThere_OutOfRange ?yi_NotThere_OutOfRange ?yn_NotThere_Malformed ?yi_NotThere_Malformed ?yn_NotThere_Refused ?yi_NotThere_Refused ?yn_NotThere_TooMuch ?yi_NotThere_TooMuch ?yx_NotThere ?yn_Refused_FireError ?yi_Refused_FireError ?yn_Refused_OutOfRange ?yi_Refused_OutOfRange ?yn_Refused_Malformed ?yi_Refused_Malformed ?yn_Refused_NotThere ?yi_Refused_NotThere ?yn_Refused_TooMuch ?yi_Refused_TooMuch ?yx_Refused ?yn_TooMuch_FireError ?yi_TooMuch_FireError ?yn_TooMuch_OutOfRange ?yi_TooMuch_OutOfRange ?yn_TooMuch_Malformed ?yi_TooMuch_Malformed ?yn_TooMuch_NotThere ?yi_TooMuch_NotThere ?yn_TooMuch_Refused ?yi_TooMuch_Refused ?yx_TooMuch ?ym_OutOfRange ?ym_Malformed ?ym_NotThere ?ym_Refused ?ym_TooMuch
    (case a1 => k_is)
    (case l1 => k_is)
    (case u1 => k_is)
    (case k1 => k_is)
    (case a2 => k_is)
    (case l2 => k_is)
    (case u2 => k_is)
    (case k2 => k_is)
    (case q2 => k_is)
    (case p2 => rfl)
    (case h2 => kernel_rfl)
    (case n2 => kernel_rfl)
    (case r2 => decide +kernel)
    (case a3 => k_is)
    (case l3 => k_is)
    (case u3 => k_is)
    (case k3 => k_is)
    (case a4 => k_is)
    (case l4 => k_is)
    (case u4 => k_is)
    (case k4 => k_is)
    (case a5 => k_is)
    (case l5 => k_is)
    (case u5 => k_is)
    (case k5 => k_is)
    (case a6 => k_is)
    (case l6 => k_is)
    (case u6 => k_is)
    (case k6 => k_is)
    (case a7 => k_is)
    (case l7 => k_is)
    (case u7 => k_is)
    (case k7 => k_is)
    (case q7 => k_is)
    (case p7 => rfl)
    (case h7 => kernel_rfl)
    (case n7 => kernel_rfl)
    (case r7 => decide +kernel)
    (case a8 => k_is)
    (case l8 => k_is)
    (case u8 => k_is)
    (case k8 => k_is)
    (case a9 => k_is)
    (case l9 => k_is)
    (case u9 => k_is)
    (case k9 => k_is)
    (case a10 => k_is)
    (case l10 => k_is)
    (case u10 => k_is)
    (case k10 => k_is)
    (case a11 => k_is)
    (case l11 => k_is)
    (case u11 => k_is)
    (case k11 => k_is)
    (case a12 => k_is)
    (case l12 => k_is)
    (case u12 => k_is)
    (case k12 => k_is)
    (case a13 => k_is)
    (case l13 => k_is)
    (case u13 => k_is)
    (case k13 => k_is)
    (case a14 => k_is)
    (case l14 => k_is)
    (case u14 => k_is)
    (case k14 => k_is)
    (case a15 => k_is)
    (case l15 => k_is)
    (case u15 => k_is)
    (case k15 => k_is)
    (case a16 => k_is)
    (case l16 => k_is)
    (case u16 => k_is)
    (case k16 => k_is)
    (case a17 => k_is)
    (case l17 => k_is)
    (case u17 => k_is)
    (case k17 => k_is)
    (case a18 => k_is)
    (case l18 => k_is)
    (case u18 => k_is)
    (case k18 => k_is)
    (case a19 => k_is)
    (case l19 => k_is)
    (case u19 => k_is)
    (case k19 => k_is)
    (case a20 => k_is)
    (case l20 => k_is)
    (case u20 => k_is)
    (case k20 => k_is)
    (case z_abs => k_is)
    (case z_all => k_is)
    (case z_bool => k_is)
    (case z_int => k_is)
    (case z_isinstance => k_is)
    (case z_len => k_is)
    (case z_list => k_is)
    (case z_max => k_is)
    (case z_min => k_is)
    (case z_range => k_is)
    (case z_reversed => k_is)
    (case z_sorted => k_is)
    (case z_str => k_is)
    (case z_sum => k_is)
    (case z_tuple => k_is)
    (case z_zip => k_is)
    (case m_MOST_CALLS => k_is)
    (case m_MOST_CHANGE => k_is)
    (case m_MOST_HOURS => k_is)
    (case m_MOST_MINUTES => k_is)
    (case y_FireError => k_is)
    (case y_OutOfRange => k_is)
    (case y_Malformed => k_is)
    (case y_NotThere => k_is)
    (case y_Refused => k_is)
    (case y_TooMuch => k_is)
    (case ye_Refused => k_exc)
    (case yk_Refused => k_is)
    (case ys_Refused => k_is)
    (case yt_Refused => k_is)
    (case yc_FireError => (constructor <;> k_is))
    (case yc_OutOfRange => (constructor <;> k_is))
    (case yc_Malformed => (constructor <;> k_is))
    (case yc_NotThere => (constructor <;> k_is))
    (case yc_Refused => (constructor <;> k_is))
    (case yc_TooMuch => (constructor <;> k_is))
    (case yn_OutOfRange_FireError => decide)
    (case yi_OutOfRange_FireError => k_is)
    (case yn_OutOfRange_Malformed => decide)
    (case yi_OutOfRange_Malformed => k_is)
    (case yn_OutOfRange_NotThere => decide)
    (case yi_OutOfRange_NotThere => k_is)
    (case yn_OutOfRange_Refused => decide)
    (case yi_OutOfRange_Refused => k_is)
    (case yn_OutOfRange_TooMuch => decide)
    (case yi_OutOfRange_TooMuch => k_is)
    (case yx_OutOfRange => (constructor <;> k_is))
    (case yn_Malformed_FireError => decide)
    (case yi_Malformed_FireError => k_is)
    (case yn_Malformed_OutOfRange => decide)
    (case yi_Malformed_OutOfRange => k_is)
    (case yn_Malformed_NotThere => decide)
    (case yi_Malformed_NotThere => k_is)
    (case yn_Malformed_Refused => decide)
    (case yi_Malformed_Refused => k_is)
    (case yn_Malformed_TooMuch => decide)
    (case yi_Malformed_TooMuch => k_is)
    (case yx_Malformed => (constructor <;> k_is))
    (case yn_NotThere_FireError => decide)
    (case yi_NotThere_FireError => k_is)
    (case yn_NotThere_OutOfRange => decide)
    (case yi_NotThere_OutOfRange => k_is)
    (case yn_NotThere_Malformed => decide)
    (case yi_NotThere_Malformed => k_is)
    (case yn_NotThere_Refused => decide)
    (case yi_NotThere_Refused => k_is)
    (case yn_NotThere_TooMuch => decide)
    (case yi_NotThere_TooMuch => k_is)
    (case yx_NotThere => (constructor <;> k_is))
    (case yn_Refused_FireError => decide)
    (case yi_Refused_FireError => k_is)
    (case yn_Refused_OutOfRange => decide)
    (case yi_Refused_OutOfRange => k_is)
    (case yn_Refused_Malformed => decide)
    (case yi_Refused_Malformed => k_is)
    (case yn_Refused_NotThere => decide)
    (case yi_Refused_NotThere => k_is)
    (case yn_Refused_TooMuch => decide)
    (case yi_Refused_TooMuch => k_is)
    (case yx_Refused => (constructor <;> k_is))
    (case yn_TooMuch_FireError => decide)
    (case yi_TooMuch_FireError => k_is)
    (case yn_TooMuch_OutOfRange => decide)
    (case yi_TooMuch_OutOfRange => k_is)
    (case yn_TooMuch_Malformed => decide)
    (case yi_TooMuch_Malformed => k_is)
    (case yn_TooMuch_NotThere => decide)
    (case yi_TooMuch_NotThere => k_is)
    (case yn_TooMuch_Refused => decide)
    (case yi_TooMuch_Refused => k_is)
    (case yx_TooMuch => (constructor <;> k_is))
    (case ym_OutOfRange => k_is)
    (case ym_Malformed => k_is)
    (case ym_NotThere => k_is)
    (case ym_Refused => k_is)
    (case ym_TooMuch => k_is)
