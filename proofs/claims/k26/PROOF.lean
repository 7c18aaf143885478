import PyProof.Rows.All
import Wide.All
import OpenK.AllK
import Wide.FinOn
import HandS.ForMost
import HandS.ForExc
import HandS.ExcInit
import HandS.Wide
import HandS.WideBits
import HandS.TupAny
import HandS.TupLe
import HandS.IsInst
import HandS.Sort
import HandS.SortRule
import HandS.SortInts
import KE.DataMinMax
import PyProof.Rows.SortShellAny
import HandS.Comp
import HandS.Zip
import KE.GoesMore
import KE.GoesZip
import KE.GoesEnum
import HandS.ExcField
import HandS.MakeKwOnly
import HandS.More
import PyProof.IsRules
import HandS.Evl
import HandS.Ends
import PySem.Challenge.RW_someoneout_k26_whole_mixed_and_flat
set_option Elab.async false
set_option linter.all false
set_option maxRecDepth 100000
set_option maxHeartbeats 4000000
set_option pp.oneline true
set_option pp.deepTerms false
namespace DN
open PySem PySem.Spec L2
open PyProof.Rows hiding St

/-! ### data -/
inductive D where
  | non | bl (b : Bool) | int (i : Int) | str (x : Str) | tup (xs : List D) | lst (xs : List D) | obj (c : Str) (xs : List D) | fd | scr (ns : List Int)
  deriving Inhabited

mutual
def D.toPy : D → Option PyData
  | .non => some .none
  | .bl b => some (.bool b)
  | .int i => some (.int i)
  | .str x => some (.str x)
  | .tup xs => (D.toPys xs).map PyData.tuple
  | .lst xs => (D.toPys xs).map PyData.list
  | .obj _ _ => none
  | .fd => none
  | .scr _ => none
def D.toPys : List D → Option (List PyData)
  | [] => some []
  | x :: xs => match D.toPy x, D.toPys xs with
    | some p, some ps => some (p :: ps)
    | _, _ => none
end

/-- what a program's context tells: the written part, its classes, its exceptions, the feed -/
structure Ctx (Φ : Type) where
  K : PySem.W.Frag
  cl : Str → Option (Addr × List Str)
  ex : Str → Option (Addr × List Str)
  FI : List Addr → Hp → Φ → Prop
  loc : ∀ F H H' φ, (∀ a, a ∈ F → H' a = H a) → FI F H φ → FI F H' φ
  trk : ∀ F H φ, FI F H φ → ∀ a, a ∈ F → H a ≠ none
  /-- what the callers own -/
  P : List Addr

variable {Φ : Type}

mutual
inductive RD (G : Ctx Φ) (F : List Addr) (H : Hp) : V → D → Prop
  | non : RD G F H .non .non
  | bl (b : Bool) : RD G F H (.bl b) (.bl b)
  | int (i : Int) : RD G F H (.int i) (.int i)
  | str (x : Str) : RD G F H (.str x) (.str x)
  | lst {a : Addr} {xs : List V} {ds : List D} : H a = some (.lst xs) → RDs G F H xs ds → RD G F H (.ref a) (.lst ds)
  | tup {a : Addr} {xs : List V} {ds : List D} : H a = some (.tup xs) → RDs G F H xs ds → RD G F H (.ref a) (.tup ds)
  | obj {a C dx : Addr} {fs : List (Str × V)} {c : Str} {ns : List Str} {ds : List D} : G.cl c = some (C, ns) → H a = some (.ins C dx fs) → fs.map (·.1) = ns → RDs G F H (fs.map (·.2)) ds → RD G F H (.ref a) (.obj c ds)
  | fd {a : Addr} {r : List Addr} : F = a :: r → RD G F H (.ref a) .fd
  | scr {a : Addr} {ns : List Int} : SqL G.K H a (ns.map V.int) → RD G F H (.ref a) (.scr ns)
inductive RDs (G : Ctx Φ) (F : List Addr) (H : Hp) : List V → List D → Prop
  | nil : RDs G F H [] []
  | cons {v : V} {vs : List V} {d : D} {ds : List D} : RD G F H v d → RDs G F H vs ds → RDs G F H (v :: vs) (d :: ds)
end

def FE (F F' : List Addr) : Prop := F = [] ∨ F' = F
theorem FE.refl (F : List Addr) : FE F F := .inr rfl
theorem FE.trans {F F1 F2 : List Addr} (a : FE F F1) (b : FE F1 F2) : FE F F2 := by
  rcases a with a | a
  · exact .inl a
  · subst a; exact b

mutual
theorem RD.mono {G : Ctx Φ} {F F' : List Addr} {H H' : Hp} (s : Same H H') (f : FE F F') : ∀ {v : V} {d : D}, RD G F H v d → RD G F' H' v d
  | _, .non, h => by cases h; exact .non
  | _, .bl b, h => by cases h; exact .bl b
  | _, .int i, h => by cases h; exact .int i
  | _, .str x, h => by cases h; exact .str x
  | _, .lst ds, h => by
    cases h with
    | lst h1 h2 => exact .lst (s _ _ h1) (RDs.mono s f h2)
  | _, .tup ds, h => by
    cases h with
    | tup h1 h2 => exact .tup (s _ _ h1) (RDs.mono s f h2)
  | _, .obj c ds, h => by
    cases h with
    | obj h1 h2 h3 h4 => exact .obj h1 (s _ _ h2) h3 (RDs.mono s f h4)
  | _, .fd, h => by
    cases h with
    | fd h1 =>
      rcases f with f | f
      · rw [f] at h1; cases h1
      · subst f; exact .fd h1
  | _, .scr ns, h => by
    cases h with
    | scr h1 => exact .scr (s.seq h1)
theorem RDs.mono {G : Ctx Φ} {F F' : List Addr} {H H' : Hp} (s : Same H H') (f : FE F F') : ∀ {vs : List V} {ds : List D}, RDs G F H vs ds → RDs G F' H' vs ds
  | _, [], h => by cases h; exact .nil
  | _, d :: ds, h => by
    cases h with
    | cons h1 h2 => exact .cons (RD.mono s f h1) (RDs.mono s f h2)
end

section
variable {G : Ctx Φ} {F : List Addr} {H : Hp}
theorem RDs.length : ∀ {vs : List V} {ds : List D}, RDs G F H vs ds → vs.length = ds.length
  | _, [], h => by cases h; rfl
  | _, d :: ds, h => by
    cases h with
    | cons h1 h2 => simp only [List.length_cons, RDs.length h2]
theorem RDs.append : ∀ {vs ws : List V} {ds es : List D}, RDs G F H vs ds → RDs G F H ws es → RDs G F H (vs ++ ws) (ds ++ es)
  | _, _, [], _, h, k => by cases h; exact k
  | _, _, d :: ds, _, h, k => by
    cases h with
    | cons h1 h2 => exact .cons h1 (RDs.append h2 k)
theorem RDs.get : ∀ {vs : List V} {ds : List D} {i : Nat} {v : V}, RDs G F H vs ds → vs[i]? = some v → ∃ d, ds[i]? = some d ∧ RD G F H v d
  | _, [], i, v, h, e => by cases h; simp at e
  | _, d :: ds, i, v, h, e => by
    cases h with
    | cons h1 h2 =>
      cases i with
      | zero => simp at e; subst e; exact ⟨d, rfl, h1⟩
      | succ i => exact RDs.get (i := i) h2 (by simpa using e)
theorem RDs.getD : ∀ {vs : List V} {ds : List D} {i : Nat} {d : D}, RDs G F H vs ds → ds[i]? = some d → ∃ v, vs[i]? = some v ∧ RD G F H v d
  | _, [], i, v, h, e => by simp at e
  | _, d :: ds, i, v, h, e => by
    cases h with
    | cons h1 h2 =>
      cases i with
      | zero => simp at e; subst e; exact ⟨_, rfl, h1⟩
      | succ i =>
        obtain ⟨w, e1, e2⟩ := RDs.getD (i := i) h2 (by simpa using e)
        exact ⟨w, by simpa using e1, e2⟩
theorem RDs.set {v : V} {d : D} (r : RD G F H v d) : ∀ {vs : List V} {ds : List D} (i : Nat), RDs G F H vs ds → RDs G F H (vs.set i v) (ds.set i d)
  | _, [], i, h => by cases h; exact .nil
  | _, e :: ds, i, h => by
    cases h with
    | cons h1 h2 =>
      cases i with
      | zero => exact .cons r h2
      | succ i => exact .cons h1 (RDs.set r i h2)
theorem RDs.take : ∀ {vs : List V} {ds : List D} (n : Nat), RDs G F H vs ds → RDs G F H (vs.take n) (ds.take n)
  | _, [], n, h => by cases h; simp; exact .nil
  | _, d :: ds, 0, h => .nil
  | _, d :: ds, n + 1, h => by
    cases h with
    | cons h1 h2 => exact .cons h1 (RDs.take n h2)
theorem RDs.drop : ∀ {vs : List V} {ds : List D} (n : Nat), RDs G F H vs ds → RDs G F H (vs.drop n) (ds.drop n)
  | _, [], n, h => by cases h; simp; exact .nil
  | _, d :: ds, 0, h => h
  | _, d :: ds, n + 1, h => by
    cases h with
    | cons h1 h2 => exact RDs.drop n h2
theorem RDs.eraseIdx : ∀ {vs : List V} {ds : List D} (n : Nat), RDs G F H vs ds → RDs G F H (vs.eraseIdx n) (ds.eraseIdx n)
  | _, [], n, h => by cases h; exact .nil
  | _, d :: ds, 0, h => by
    cases h with
    | cons h1 h2 => exact h2
  | _, d :: ds, n + 1, h => by
    cases h with
    | cons h1 h2 => exact .cons h1 (RDs.eraseIdx n h2)
theorem RDs.reverse : ∀ {vs : List V} {ds : List D}, RDs G F H vs ds → RDs G F H vs.reverse ds.reverse
  | _, [], h => by cases h; exact .nil
  | _, d :: ds, h => by
    cases h with
    | cons h1 h2 => rw [List.reverse_cons, List.reverse_cons]; exact (RDs.reverse h2).append (.cons h1 .nil)
/-- ints -/
theorem RDs.ints : ∀ {vs : List V} {ns : List Int}, RDs G F H vs (ns.map D.int) → vs = ns.map V.int
  | _, [], h => by cases h; rfl
  | _, n :: ns, h => by
    cases h with
    | cons h1 h2 => cases h1; rw [RDs.ints h2]; rfl
theorem RDs.of_ints : ∀ (ns : List Int), RDs G F H (ns.map V.int) (ns.map D.int)
  | [] => .nil
  | n :: ns => .cons (.int n) (RDs.of_ints ns)
mutual
theorem RD.dp {K : PySem.W.Frag} : ∀ {v : V} {d : D} {p : PyData}, RD G F H v d → d.toPy = some p → Dp K H v p
  | _, .non, _, h, e => by cases h; cases e; exact .non
  | _, .bl b, _, h, e => by cases h; cases e; exact .bl b
  | _, .int b, _, h, e => by cases h; cases e; exact .int b
  | _, .str b, _, h, e => by cases h; cases e; exact .str b
  | _, .lst ds, _, h, e => by
    cases h with
    | lst h1 h2 =>
      unfold D.toPy at e
      obtain ⟨ps, e1, rfl⟩ := Option.map_eq_some_iff.mp e
      exact .lst (.inl (.inl h1)) (RDs.dp h2 e1)
  | _, .tup ds, _, h, e => by
    cases h with
    | tup h1 h2 =>
      unfold D.toPy at e
      obtain ⟨ps, e1, rfl⟩ := Option.map_eq_some_iff.mp e
      exact .tup (.inl (.inl h1)) (RDs.dp h2 e1)
  | _, .obj _ _, _, h, e => by unfold D.toPy at e; cases e
  | _, .fd, _, h, e => by unfold D.toPy at e; cases e
  | _, .scr _, _, h, e => by unfold D.toPy at e; cases e
theorem RDs.dp {K : PySem.W.Frag} : ∀ {vs : List V} {ds : List D} {ps : List PyData}, RDs G F H vs ds → D.toPys ds = some ps → DpAll K H vs ps
  | _, [], _, h, e => by cases h; unfold D.toPys at e; cases e; exact .nil
  | _, d :: ds, _, h, e => by
    cases h with
    | cons h1 h2 =>
      unfold D.toPys at e
      split at e
      · rename_i p q e1 e2
        cases e
        exact .cons (RD.dp h1 e1) (RDs.dp h2 e2)
      · cases e
end
end

/-! ### what is hidden -/
def hide (U : List Addr) (H : Hp) : Hp := fun a => if a ∈ U then none else H a
theorem hide_some {U : List Addr} {H : Hp} {a : Addr} {o : HO} (h : hide U H a = some o) : a ∉ U ∧ H a = some o := by
  unfold hide at h
  split at h
  · cases h
  · rename_i n; exact ⟨n, h⟩
theorem hide_of {U : List Addr} {H : Hp} {a : Addr} {o : HO} (n : a ∉ U) (h : H a = some o) : hide U H a = some o := by
  unfold hide; rw [if_neg n]; exact h
theorem hide_sub {U U' : List Addr} {H : Hp} (h : ∀ a, a ∈ U' → a ∈ U) : Same (hide U H) (hide U' H) := fun b o e =>
  let ⟨n, e⟩ := hide_some e
  hide_of (fun z => n (h b z)) e
theorem hide_un {U : List Addr} {H : Hp} : Same (hide U H) H := fun b o e => (hide_some e).2
theorem hide_upd {U : List Addr} {H : Hp} {p : Addr} {o : HO} (hp : p ∈ U ∨ H p = none) : Same (hide U H) (hide U (upd H p o)) := fun b u e => by
  obtain ⟨n, e⟩ := hide_some e
  refine hide_of n ?_
  rw [upd_ne]
  · exact e
  · rintro rfl
    rcases hp with h | h
    · exact n h
    · rw [h] at e; cases e

/-! ### slots -/
inductive Sl where
  | emp | val (d : D) | own (ds : List D)
  deriving Inhabited

/-- a result: a value, or a list that is new -/
inductive R where
  | val (d : D) | new (ds : List D)
def R.d : R → D
  | .val d => d
  | .new ds => .lst ds

inductive Out (Φ α : Type) where
  | ok (a : α) (ρ : List Sl) (φ : Φ) | err (c : Str) (es : List D) (ρ : List Sl) (φ : Φ) | stuck
abbrev M (Φ α : Type) := List Sl → Φ → Out Φ α
@[simp] def mP {α : Type} (a : α) : M Φ α := fun ρ φ => .ok a ρ φ
def mB {α β : Type} (m : M Φ α) (k : α → M Φ β) : M Φ β := fun ρ φ => match m ρ φ with
  | .ok a ρ1 φ1 => k a ρ1 φ1
  | .err c es ρ1 φ1 => .err c es ρ1 φ1
  | .stuck => .stuck
def mS {α : Type} : M Φ α := fun _ _ => .stuck

structure Rel (G : Ctx Φ) (F O : List Addr) (ρ : List Sl) (φ : Φ) (σ : St) (H : Hp) : Prop where
  len : σ.length = ρ.length
  val : ∀ (i : Nat) (d : D), ρ[i]? = some (.val d) → ∃ v, σ[i]? = some (some v) ∧ RD G F (hide (F ++ O) H) v d
  own : ∀ (i : Nat) (ds : List D), ρ[i]? = some (.own ds) → ∃ a xs, σ[i]? = some (some (.ref a)) ∧ a ∈ O ∧ H a = some (.lst xs) ∧ RDs G F (hide (F ++ O) H) xs ds
  inj : ∀ (i j : Nat) (ds es : List D), ρ[i]? = some (.own ds) → ρ[j]? = some (.own es) → σ[i]? = σ[j]? → i = j
  disj : ∀ a, a ∈ O → a ∉ F
  trk : ∀ a, a ∈ O → H a ≠ none
  fi : G.FI F H φ
  psub : ∀ a, a ∈ G.P → a ∈ O
  pno : ∀ (i : Nat) (ds : List D) (a : Addr), ρ[i]? = some (.own ds) → σ[i]? = some (some (.ref a)) → a ∉ G.P

def RR (G : Ctx Φ) (F O : List Addr) (σ : St) (ρ : List Sl) (H : Hp) (v : V) : R → Prop
  | .val d => RD G F (hide (F ++ O) H) v d
  | .new ds => ∃ a xs, v = .ref a ∧ a ∈ O ∧ H a = some (.lst xs) ∧ RDs G F (hide (F ++ O) H) xs ds ∧ a ∉ G.P ∧ ∀ (i : Nat) (es : List D), ρ[i]? = some (.own es) → σ[i]? ≠ some (some (.ref a))

structure Ext (G : Ctx Φ) (F O : List Addr) (H : Hp) (F' O' : List Addr) (H' : Hp) : Prop where
  sm : Same (hide (F ++ O) H) (hide (F' ++ O') H')
  fe : FE F F'
  pk : ∀ a, a ∈ G.P → H' a = H a
theorem Ext.refl {G : Ctx Φ} {F O : List Addr} {H : Hp} : Ext G F O H F O H := ⟨Same.refl _, .refl _, fun _ _ => rfl⟩
theorem Ext.trans {G : Ctx Φ} {F O F1 O1 F2 O2 : List Addr} {H H1 H2 : Hp} (a : Ext G F O H F1 O1 H1) (b : Ext G F1 O1 H1 F2 O2 H2) : Ext G F O H F2 O2 H2 := ⟨a.sm.trans b.sm, a.fe.trans b.fe, fun p h => (b.pk p h).trans (a.pk p h)⟩

/-- an exception of the class named c, its fields es -/
def ER (G : Ctx Φ) (F O : List Addr) (H : Hp) (cls : Value) (d : Option Addr) (c : Str) (es : List D) : Prop :=
  ∃ C ns dd fs, G.ex c = some (C, ns) ∧ cls = .ref C ∧ d = some dd ∧ hide (F ++ O) H dd = some (.xd fs) ∧ fs.map (·.1) = ns ∧ RDs G F (hide (F ++ O) H) (fs.map (·.2)) es

def Good {α : Type} (G : Ctx Φ) (W : WX) (σ : St) (F O : List Addr) (H : Hp) (out : Out Φ α) (K : α → List Sl → Φ → List Addr → List Addr → Hp → Prop) : Prop :=
  match out with
  | .ok a ρ φ => ∀ F' O' H', Ext G F O H F' O' H' → Rel G F' O' ρ φ σ H' → K a ρ φ F' O' H'
  | .err c es ρ φ => ∀ F' O' H' cls d, Ext G F O H F' O' H' → Rel G F' O' ρ φ σ H' → ER G F' O' H' cls d c es → W cls d σ H'
  | .stuck => False

section
variable {G : Ctx Φ} {W : WX} {σ : St} {F O : List Addr} {H : Hp} {α β : Type}
theorem Good.bind {m : M Φ α} {k : α → M Φ β} {ρ : List Sl} {φ : Φ} {K : β → List Sl → Φ → List Addr → List Addr → Hp → Prop} (h : Good G W σ F O H (mB m k ρ φ) K) :
    Good G W σ F O H (m ρ φ) (fun a ρ1 φ1 F1 O1 H1 => Good G W σ F1 O1 H1 (k a ρ1 φ1) K) := by
  unfold mB at h
  cases e : m ρ φ with
  | ok a ρ1 φ1 =>
    rw [e] at h
    intro F1 O1 H1 x1 r1
    have h : Good G W σ F O H (k a ρ1 φ1) K := h
    cases e2 : k a ρ1 φ1 with
    | ok b ρ2 φ2 =>
      rw [e2] at h
      exact fun F2 O2 H2 x2 r2 => h F2 O2 H2 (x1.trans x2) r2
    | err c es ρ2 φ2 =>
      rw [e2] at h
      exact fun F2 O2 H2 cls d x2 r2 er => h F2 O2 H2 cls d (x1.trans x2) r2 er
    | stuck => rw [e2] at h; exact h
  | err c es ρ1 φ1 => rw [e] at h; exact h
  | stuck => rw [e] at h; exact h
theorem Good.mono {out : Out Φ α} {K K' : α → List Sl → Φ → List Addr → List Addr → Hp → Prop} (h : Good G W σ F O H out K)
    (hk : ∀ a ρ φ F' O' H', out = .ok a ρ φ → Ext G F O H F' O' H' → Rel G F' O' ρ φ σ H' → K a ρ φ F' O' H' → K' a ρ φ F' O' H') : Good G W σ F O H out K' := by
  cases out with
  | ok a ρ φ => exact fun F' O' H' x r => hk a ρ φ F' O' H' rfl x r (h F' O' H' x r)
  | err c es ρ φ => exact h
  | stuck => exact h
/-- from an elder state -/
theorem Good.ext {F1 O1 : List Addr} {H1 : Hp} {out : Out Φ α} {K : α → List Sl → Φ → List Addr → List Addr → Hp → Prop} (x : Ext G F O H F1 O1 H1) (h : Good G W σ F O H out K) : Good G W σ F1 O1 H1 out K := by
  cases out with
  | ok a ρ φ => exact fun F' O' H' x' r => h F' O' H' (x.trans x') r
  | err c es ρ φ => exact fun F' O' H' cls d x' r er => h F' O' H' cls d (x.trans x') r er
  | stuck => exact h
theorem Good.ok {a : α} {ρ : List Sl} {φ : Φ} {K : α → List Sl → Φ → List Addr → List Addr → Hp → Prop} (h : Good G W σ F O H (.ok a ρ φ) K) (r : Rel G F O ρ φ σ H) : K a ρ φ F O H := h F O H .refl r

/-- a new list is frozen -/
theorem Rel.freeze {ρ : List Sl} {φ : Φ} {v : V} {r : R} (h : Rel G F O ρ φ σ H) (q : RR G F O σ ρ H v r) : ∃ O', Rel G F O' ρ φ σ H ∧ Ext G F O H F O' H ∧ RD G F (hide (F ++ O') H) v r.d := by
  cases r with
  | val d => exact ⟨O, h, .refl, q⟩
  | new ds =>
    obtain ⟨a, xs, rfl, ha, hl, hd, hp, hn⟩ := q
    have sub : ∀ b, b ∈ F ++ O.filter (fun b => decide (b ≠ a)) → b ∈ F ++ O := fun b hb => by
      rcases List.mem_append.mp hb with z | z
      · exact List.mem_append_left _ z
      · exact List.mem_append_right _ (List.mem_filter.mp z).1
    have s := hide_sub (H := H) sub
    refine ⟨O.filter fun b => decide (b ≠ a), ⟨h.len, fun i d e => ?_, fun i ds e => ?_, h.inj, fun b hb => h.disj b (List.mem_filter.mp hb).1, fun b hb => h.trk b (List.mem_filter.mp hb).1, h.fi, fun b hb => List.mem_filter.mpr ⟨h.psub b hb, decide_eq_true fun z => hp (z ▸ hb)⟩, h.pno⟩, ⟨s, .refl _, fun _ _ => rfl⟩, .lst ?_ (hd.mono s (.refl _))⟩
    · obtain ⟨v, e1, e2⟩ := h.val i d e
      exact ⟨v, e1, e2.mono s (.refl _)⟩
    · obtain ⟨b, ys, e1, e2, e3, e4⟩ := h.own i ds e
      refine ⟨b, ys, e1, List.mem_filter.mpr ⟨e2, decide_eq_true fun z => ?_⟩, e3, e4.mono s (.refl _)⟩
      subst z
      exact hn i ds e e1
    · refine hide_of (fun z => ?_) hl
      rcases List.mem_append.mp z with z | z
      · exact h.disj a ha z
      · exact of_decide_eq_true (List.mem_filter.mp z).2 rfl
/-- an object is laid -/
theorem Rel.laid {ρ : List Sl} {φ : Φ} (h : Rel G F O ρ φ σ H) {p : Addr} {o : HO} (hp : H p = none) : Rel G F O ρ φ σ (upd H p o) ∧ Ext G F O H F O (upd H p o) := by
  have s : Same (hide (F ++ O) H) (hide (F ++ O) (upd H p o)) := hide_upd (.inr hp)
  have ne : ∀ a, H a ≠ none → a ≠ p := fun a ha z => ha (z ▸ hp)
  refine ⟨⟨h.len, fun i d e => ?_, fun i ds e => ?_, h.inj, h.disj, fun a ha => ?_, G.loc F H _ φ (fun a ha => upd_ne (ne a (G.trk F H φ h.fi a ha))) h.fi, h.psub, h.pno⟩, s, .refl _, fun a ha => upd_ne (ne a (h.trk a (h.psub a ha)))⟩
  · obtain ⟨v, e1, e2⟩ := h.val i d e
    exact ⟨v, e1, e2.mono s (.refl _)⟩
  · obtain ⟨b, ys, e1, e2, e3, e4⟩ := h.own i ds e
    exact ⟨b, ys, e1, e2, by rw [upd_ne (ne b (by rw [e3]; simp))]; exact e3, e4.mono s (.refl _)⟩
  · rw [upd_ne (ne a (h.trk a ha))]; exact h.trk a ha
theorem Rel.notin {ρ : List Sl} {φ : Φ} (h : Rel G F O ρ φ σ H) {p : Addr} (hp : H p = none) : p ∉ F ++ O := fun z => by
  rcases List.mem_append.mp z with z | z
  · exact G.trk F H φ h.fi p z hp
  · exact h.trk p z hp
/-- a new list of one's own is laid -/
theorem Rel.laidNew {ρ : List Sl} {φ : Φ} (h : Rel G F O ρ φ σ H) {p : Addr} {xs : List V} {ds : List D} (hp : H p = none) (hd : RDs G F (hide (F ++ O) H) xs ds) :
    Rel G F (p :: O) ρ φ σ (upd H p (.lst xs)) ∧ Ext G F O H F (p :: O) (upd H p (.lst xs)) ∧ RR G F (p :: O) σ ρ (upd H p (.lst xs)) (.ref p) (.new ds) := by
  obtain ⟨h1, x1⟩ := h.laid (o := .lst xs) hp
  have np := h.notin hp
  have s : Same (hide (F ++ O) H) (hide (F ++ p :: O) (upd H p (.lst xs))) := fun b o e => by
    obtain ⟨n, e'⟩ := hide_some e
    have nb : b ≠ p := fun z => by subst z; rw [hp] at e'; cases e'
    refine hide_of (fun z => ?_) (by rw [upd_ne nb]; exact e')
    rcases List.mem_append.mp z with z | z
    · exact n (List.mem_append_left _ z)
    · rcases List.mem_cons.mp z with z | z
      · exact nb z
      · exact n (List.mem_append_right _ z)
  have own' : ∀ (i : Nat) (es : List D), ρ[i]? = some (.own es) → σ[i]? ≠ some (some (.ref p)) := fun i es e z => by
    obtain ⟨b, ys, e1, e2, e3, e4⟩ := h.own i es e
    rw [z] at e1
    cases e1
    rw [hp] at e3; cases e3
  refine ⟨⟨h.len, fun i d e => ?_, fun i ds e => ?_, h.inj, fun a ha => ?_, fun a ha => ?_, h1.fi, fun a ha => List.mem_cons_of_mem _ (h.psub a ha), h.pno⟩, ⟨s, .refl _, x1.pk⟩, p, xs, rfl, List.mem_cons_self, upd_same, hd.mono s (.refl _), fun z => h.trk p (h.psub p z) hp, own'⟩
  · obtain ⟨v, e1, e2⟩ := h.val i d e
    exact ⟨v, e1, e2.mono s (.refl _)⟩
  · obtain ⟨b, ys, e1, e2, e3, e4⟩ := h.own i ds e
    have nb : b ≠ p := fun z => by subst z; rw [hp] at e3; cases e3
    exact ⟨b, ys, e1, List.mem_cons_of_mem _ e2, by rw [upd_ne nb]; exact e3, e4.mono s (.refl _)⟩
  · rcases List.mem_cons.mp ha with rfl | ha
    · exact fun z => np (List.mem_append_left _ z)
    · exact h.disj a ha
  · rcases List.mem_cons.mp ha with rfl | ha
    · rw [upd_same]; simp
    · exact h1.trk a ha
end
end DN
namespace DN
open PySem PySem.Spec L2
open PyProof.Rows hiding St
variable {Φ : Type}

theorem PE.weak {X : Cx} {e : Expr} {t t' : TE} (h : PE X e t) (w : ∀ σ H Q, t' σ H Q → t σ H Q) : PE X e t' := ⟨fun pins s σ H Q I q => h.run pins s σ H Q I (w σ H Q q)⟩
theorem PT.weak {X : Cx} {e : Expr} {t t' : TT} (h : PT X e t) (w : ∀ σ H Q, t' σ H Q → t σ H Q) : PT X e t' := ⟨fun pins s σ H Q I q => h.run pins s σ H Q I (w σ H Q q)⟩
theorem PW.weak {X : Cx} {e : Expr} {t t' : TT} (h : PW X e t) (w : ∀ σ H Q, t' σ H Q → t σ H Q) : PW X e t' := ⟨fun wh pins s σ H Q I q => h.run wh pins s σ H Q I (w σ H Q q)⟩
theorem PA.weak {X : Cx} {e : List Expr} {t t' : TA} (h : PA X e t) (w : ∀ σ H Q, t' σ H Q → t σ H Q) : PA X e t' := ⟨fun pos pins s σ H Q I q => h.run pos pins s σ H Q I (w σ H Q q)⟩
theorem PS.weak {X : Cx} {e : Stmt} {t t' : TS} (h : PS X e t) (w : ∀ D σ H, t' D σ H → t D σ H) : PS X e t' := ⟨fun pins s σ H D I q => h.run pins s σ H D I (w D σ H q)⟩
theorem PSs.weak {X : Cx} {e : List Stmt} {t t' : TS} (h : PSs X e t) (w : ∀ D σ H, t' D σ H → t D σ H) : PSs X e t' := ⟨fun pins s σ H D I q => h.run pins s σ H D I (w D σ H q)⟩

/-! ### readings by denotations -/
def dE (G : Ctx Φ) (W : WX) (m : M Φ R) : TE := fun σ H Q => ∃ ρ φ F O, Rel G F O ρ φ σ H ∧ Good G W σ F O H (m ρ φ) (fun r ρ' _ F' O' H' => ∀ v, RR G F' O' σ ρ' H' v r → Q v H')
def dT (G : Ctx Φ) (W : WX) (m : M Φ Bool) : TT := fun σ H Q => ∃ ρ φ F O, Rel G F O ρ φ σ H ∧ Good G W σ F O H (m ρ φ) (fun b _ _ _ _ H' => Q b H')
def dA (G : Ctx Φ) (W : WX) (m : M Φ (List D)) : TA := fun σ H Q => ∃ ρ φ F O, Rel G F O ρ φ σ H ∧ Good G W σ F O H (m ρ φ) (fun ds _ _ F' O' H' => ∀ vs, RDs G F' (hide (F' ++ O') H') vs ds → Q vs H')

section
variable {G : Ctx Φ} {W : WX} {σ : St} {H : Hp} {F O : List Addr} {ρ : List Sl} {φ : Φ}
theorem use {m : M Φ R} {Q : VK} (r : Rel G F O ρ φ σ H) (h : Good G W σ F O H (m ρ φ) (fun r ρ1 φ1 F1 O1 H1 => ∀ O2 v, Rel G F1 O2 ρ1 φ1 σ H1 → Ext G F1 O1 H1 F1 O2 H1 → RD G F1 (hide (F1 ++ O2) H1) v r.d → Q v H1)) : dE G W m σ H Q :=
  ⟨ρ, φ, F, O, r, h.mono fun a ρ1 φ1 F1 O1 H1 _ x1 r1 k v rr => by
    obtain ⟨O2, r2, x2, d2⟩ := r1.freeze rr
    exact k O2 v r2 x2 d2⟩
theorem useB {m : M Φ Bool} {Q : Bool → Hp → Prop} (r : Rel G F O ρ φ σ H) (h : Good G W σ F O H (m ρ φ) (fun b ρ1 φ1 F1 O1 H1 => Rel G F1 O1 ρ1 φ1 σ H1 → Q b H1)) : dT G W m σ H Q :=
  ⟨ρ, φ, F, O, r, h.mono fun a ρ1 φ1 F1 O1 H1 _ x1 r1 k => k r1⟩
theorem useA {m : M Φ (List D)} {Q : List V → Hp → Prop} (r : Rel G F O ρ φ σ H) (h : Good G W σ F O H (m ρ φ) (fun ds ρ1 φ1 F1 O1 H1 => ∀ vs, Rel G F1 O1 ρ1 φ1 σ H1 → RDs G F1 (hide (F1 ++ O1) H1) vs ds → Q vs H1)) : dA G W m σ H Q :=
  ⟨ρ, φ, F, O, r, h.mono fun a ρ1 φ1 F1 O1 H1 _ x1 r1 k vs hv => k vs r1 hv⟩

/-! ### names, constants -/
def mV (d : D) : M Φ R := mP (.val d)
def mVar (i : Nat) : M Φ R := fun ρ φ => match ρ[i]? with
  | some (.val d) => .ok (.val d) ρ φ
  | some (.own ds) => .ok (.val (.lst ds)) (ρ.set i (.val (.lst ds))) φ
  | _ => .stuck
/-- a slot's own list is given away: from then on it is read only -/
theorem Rel.give {i : Nat} {ds : List D} {a : Addr} (h : Rel G F O ρ φ σ H) (e : ρ[i]? = some (.own ds)) (ea : σ[i]? = some (some (.ref a))) :
    ∃ O', Rel G F O' (ρ.set i (.val (.lst ds))) φ σ H ∧ Ext G F O H F O' H ∧ RD G F (hide (F ++ O') H) (.ref a) (.lst ds) := by
  obtain ⟨a', xs, e1, e2, e3, e4⟩ := h.own i ds e
  rw [ea] at e1; cases e1
  have hi : i < ρ.length := (List.getElem?_eq_some_iff.mp e).1
  have sub : ∀ b, b ∈ F ++ O.filter (fun b => decide (b ≠ a)) → b ∈ F ++ O := fun b hb => by
    rcases List.mem_append.mp hb with z | z
    · exact List.mem_append_left _ z
    · exact List.mem_append_right _ (List.mem_filter.mp z).1
  have s := hide_sub (H := H) sub
  have rd : RD G F (hide (F ++ O.filter fun b => decide (b ≠ a)) H) (.ref a) (.lst ds) := by
    refine .lst (hide_of (fun z => ?_) e3) (e4.mono s (.refl _))
    rcases List.mem_append.mp z with z | z
    · exact h.disj a e2 z
    · exact of_decide_eq_true (List.mem_filter.mp z).2 rfl
  have old : ∀ (j : Nat) (sl : Sl), (ρ.set i (.val (.lst ds)))[j]? = some sl → (j = i ∧ sl = .val (.lst ds)) ∨ (j ≠ i ∧ ρ[j]? = some sl) := fun j sl ej => by
    by_cases hj : j = i
    · subst hj
      rw [List.getElem?_set_self hi] at ej
      exact .inl ⟨rfl, (Option.some.inj ej).symm⟩
    · rw [List.getElem?_set_ne (Ne.symm hj)] at ej
      exact .inr ⟨hj, ej⟩
  refine ⟨O.filter fun b => decide (b ≠ a), ⟨by rw [List.length_set]; exact h.len, fun j d ej => ?_, fun j es ej => ?_, fun j k es fs ej ek he => ?_, fun b hb => h.disj b (List.mem_filter.mp hb).1, fun b hb => h.trk b (List.mem_filter.mp hb).1, h.fi, fun b hb => List.mem_filter.mpr ⟨h.psub b hb, decide_eq_true fun z => h.pno i ds a e ea (z ▸ hb)⟩, fun j es b ej => ?_⟩, ⟨s, .refl _, fun _ _ => rfl⟩, rd⟩
  · rcases old j _ ej with ⟨rfl, z⟩ | ⟨hj, z⟩
    · cases z
      exact ⟨_, ea, rd⟩
    · obtain ⟨v, z1, z2⟩ := h.val j d z
      exact ⟨v, z1, z2.mono s (.refl _)⟩
  · rcases old j _ ej with ⟨rfl, z⟩ | ⟨hj, z⟩
    · cases z
    · obtain ⟨b, ys, z1, z2, z3, z4⟩ := h.own j es z
      refine ⟨b, ys, z1, List.mem_filter.mpr ⟨z2, decide_eq_true fun q => ?_⟩, z3, z4.mono s (.refl _)⟩
      subst q
      exact hj (h.inj j i es ds z e (z1.trans ea.symm))
  · rcases old j _ ej with ⟨rfl, z⟩ | ⟨hj, z⟩
    · cases z
    · rcases old k _ ek with ⟨rfl, y⟩ | ⟨hk, y⟩
      · cases y
      · exact h.inj j k es fs z y he
  · rcases old j _ ej with ⟨rfl, z⟩ | ⟨hj, z⟩
    · cases z
    · exact h.pno j es b z
theorem dE_var {i : Nat} {Q : VK} (h : dE G W (mVar i) σ H Q) : tVar i σ H Q := by
  obtain ⟨ρ, φ, F, O, r, g⟩ := h
  unfold mVar at g
  split at g
  · rename_i d e
    obtain ⟨v, e1, e2⟩ := r.val i d e
    exact ⟨v, e1, g.ok r v e2⟩
  · rename_i ds e
    obtain ⟨a, xs, e1, _⟩ := r.own i ds e
    obtain ⟨O', r', x', rd⟩ := r.give e e1
    exact ⟨_, e1, g F O' H x' r' _ rd⟩
  · exact g.elim
theorem dE_const {v : V} {d : D} {Q : VK} (hv : ∀ (F : List Addr) (H : Hp), RD G F H v d) (h : dE G W (mV d) σ H Q) : tC v σ H Q := by
  obtain ⟨ρ, φ, F, O, r, g⟩ := h
  exact g.ok r v (hv _ _)
end

section
variable {X : Cx} {G : Ctx Φ} {W : WX} {a b c e : Expr} {pos : Pos}
theorem qv (i : Nat) {x : Str} {pos : Pos} (hN : X.N[i]? = some x := by rfl) (hv : Vis X.env.scope x := by first | exact Or.inl rfl | exact Or.inr (Or.inl rfl) | exact Or.inr (Or.inr rfl)) (hd : (x == ("__debug__" : Str)) = false := by decide)
    (hcd : (x == ("__classdict__" : Str)) = false := by decide) : PE X (.Name x pos) (dE G W (mVar i)) := PE.weak (pe_var hN hv hd hcd) fun _ _ _ h => dE_var h
theorem q_int {i j pos} : PE X (.Constant (.int i) j pos) (dE G W (mV (.int i))) := PE.weak pe_int fun _ _ _ h => dE_const (fun _ _ => .int i) h
theorem q_bl {b j pos} : PE X (.Constant (.bool b) j pos) (dE G W (mV (.bl b))) := PE.weak pe_bl fun _ _ _ h => dE_const (fun _ _ => .bl b) h
theorem q_non {j pos} : PE X (.Constant .none j pos) (dE G W (mV .non)) := PE.weak pe_non fun _ _ _ h => dE_const (fun _ _ => .non) h
theorem q_str {x j pos} : PE X (.Constant (.str x) j pos) (dE G W (mV (.str x))) := PE.weak pe_str fun _ _ _ h => dE_const (fun _ _ => .str x) h

/-! ### operators -/
def mBin (f : D → D → M Φ R) (ma mb : M Φ R) : M Φ R := mB ma fun a => mB mb fun b => f a.d b.d
def OpDen (G : Ctx Φ) (W : WX) (r : R2) (f : D → D → M Φ R) : Prop :=
  ∀ (ρ : List Sl) (φ : Φ) (F O : List Addr) (σ : St) (H : Hp) (x y : V) (d e : D) (Q : VK), Rel G F O ρ φ σ H → RD G F (hide (F ++ O) H) x d → RD G F (hide (F ++ O) H) y e →
    Good G W σ F O H (f d e ρ φ) (fun r ρ' _ F' O' H' => ∀ v, RR G F' O' σ ρ' H' v r → Q v H') → r x y H Q
theorem dE_bin {r : R2} {f : D → D → M Φ R} {ma mb : M Φ R} (ho : OpDen G W r f) {σ : St} {H : Hp} {Q : VK} (h : dE G W (mBin f ma mb) σ H Q) : tOp r (dE G W ma) (dE G W mb) σ H Q := by
  obtain ⟨ρ, φ, F, O, r, g⟩ := h
  refine use r (Good.mono g.bind ?_)
  intro a ρ1 φ1 F1 O1 H1 _ x1 _ g1 O2 v r2 x2 d2
  refine use r2 (Good.mono (g1.ext x2).bind ?_)
  intro b ρ2 φ2 F2 O3 H2 _ x3 _ g2 O4 w r4 x4 d4
  have x34 := x3.trans x4
  exact ho _ _ _ _ _ _ _ _ _ _ _ r4 (d2.mono x34.sm x34.fe) d4 (g2.ext x4)
theorem q_op {op : Operator} {r : R2} {f : D → D → M Φ R} {ma mb : M Φ R} (hr : OpR X (binaryOp op) r) (hd : OpDen G W r f) (ha : PE X a (dE G W ma)) (hb : PE X b (dE G W mb)) : PE X (.BinOp a op b pos) (dE G W (mBin f ma mb)) :=
  PE.weak (pe_op hr ha hb) fun _ _ _ h => dE_bin hd h
theorem q_cmp {op : CmpOp} {r : R2} {f : D → D → M Φ R} {ma mb : M Φ R} (hr : OpR X (compareOp op) r) (hd : OpDen G W r f) (ha : PE X a (dE G W ma)) (hb : PE X b (dE G W mb)) (hm : behindInMarks op b = false) : PE X (.Compare a [op] [b] pos) (dE G W (mBin f ma mb)) :=
  PE.weak (pe_cmpR hr ha hb hm) fun _ _ _ h => dE_bin hd h

/-- as tests -/
def mTst (m : M Φ R) : M Φ Bool := mB m fun r => match r.d with
  | .bl b => mP b
  | _ => mS
theorem dT_tst {m : M Φ R} {σ : St} {H : Hp} {Q : Bool → Hp → Prop} (h : dT G W (mTst m) σ H Q) : tTest (dE G W m) σ H Q := by
  obtain ⟨ρ, φ, F, O, r, g⟩ := h
  refine use r (Good.mono g.bind ?_)
  intro a ρ1 φ1 F1 O1 H1 _ x1 _ g1 O2 v r2 x2 d2
  cases hd : a.d with
  | bl b =>
    rw [hd] at d2 g1
    cases d2
    exact ⟨b, rfl, (g1.ext x2).ok r2⟩
  | _ => rw [hd] at g1; exact g1.elim
theorem q_cmpT {op : CmpOp} {r : R2} {f : D → D → M Φ R} {ma mb : M Φ R} (hr : OpR X (compareOp op) r) (hd : OpDen G W r f) (ha : PE X a (dE G W ma)) (hb : PE X b (dE G W mb)) (hm : behindInMarks op b = false) : PT X (.Compare a [op] [b] pos) (dT G W (mTst (mBin f ma mb))) :=
  PT.weak (pt_cmpR hr ha hb hm) fun _ _ _ h => by
    obtain ⟨ρ, φ, F, O, r, g⟩ := dT_tst h
    exact dE_bin hd ⟨ρ, φ, F, O, r, g⟩
/-- an expression that gives a bool, as a test -/
theorem q_val {m : M Φ R} (h : PE X e (dE G W m)) (he : ∀ whole, isTrue e X.env whole = (do let v ← whole; standAt e.pos; holding [v] (truthy v)) := by intro _; rfl) : PT X e (dT G W (mTst m)) :=
  PT.weak (pt_val h he) fun _ _ _ h => dT_tst h

/-- one place -/
def mUn (f : D → M Φ R) (ma : M Φ R) : M Φ R := mB ma fun a => f a.d
def UnDen (G : Ctx Φ) (W : WX) (r : V → Hp → VK → Prop) (f : D → M Φ R) : Prop :=
  ∀ (ρ : List Sl) (φ : Φ) (F O : List Addr) (σ : St) (H : Hp) (x : V) (d : D) (Q : VK), Rel G F O ρ φ σ H → RD G F (hide (F ++ O) H) x d →
    Good G W σ F O H (f d ρ φ) (fun r ρ' _ F' O' H' => ∀ v, RR G F' O' σ ρ' H' v r → Q v H') → r x H Q
theorem dE_un {r : V → Hp → VK → Prop} {f : D → M Φ R} {ma : M Φ R} (ho : UnDen G W r f) {σ : St} {H : Hp} {Q : VK} (h : dE G W (mUn f ma) σ H Q) : (dE G W ma) σ H (fun x H1 => r x H1 Q) := by
  obtain ⟨ρ, φ, F, O, r, g⟩ := h
  refine use r (Good.mono g.bind ?_)
  intro a ρ1 φ1 F1 O1 H1 _ x1 _ g1 O2 v r2 x2 d2
  exact ho _ _ _ _ _ _ _ _ _ r2 d2 (g1.ext x2)
theorem q_un {op : UnaryOp} {r : V → Hp → VK → Prop} {f : D → M Φ R} {ma : M Φ R} (hr : UnR X (unaryOp op) r) (hd : UnDen G W r f) (ha : PE X a (dE G W ma)) : PE X (.UnaryOp op a pos) (dE G W (mUn f ma)) :=
  PE.weak (pe_un hr ha) fun _ _ _ h => dE_un hd h

/-! ### what the operators do -/
def dI2 (f : Int → Int → D) : D → D → M Φ R
  | .int i, .int j => mP (.val (f i j))
  | _, _ => mS
theorem den_I0 {g : Int → Int → V} {f : Int → Int → D} (hf : ∀ (F : List Addr) (H : Hp) i j, RD G F H (g i j) (f i j)) : OpDen G W (rI0 g) (dI2 f) := by
  intro ρ φ F O σ H x y d e Q r dx dy g
  unfold dI2 at g
  split at g
  · cases dx; cases dy
    exact ⟨_, _, rfl, rfl, g.ok r _ (hf _ _ _ _)⟩
  · exact g.elim
def dIC (C : Int → Int → Prop) [∀ i j, Decidable (C i j)] (f : Int → Int → D) : D → D → M Φ R
  | .int i, .int j => if C i j then mP (.val (f i j)) else mS
  | _, _ => mS
theorem den_IC {C C' : Int → Int → Prop} [∀ i j, Decidable (C i j)] {g : Int → Int → V} {f : Int → Int → D} (hC : ∀ i j, C i j → C' i j) (hf : ∀ (F : List Addr) (H : Hp) i j, RD G F H (g i j) (f i j)) : OpDen G W (rI C' g) (dIC C f) := by
  intro ρ φ F O σ H x y d e Q r dx dy g
  unfold dIC at g
  split at g
  · split at g
    · rename_i hc
      cases dx; cases dy
      exact ⟨_, _, rfl, rfl, hC _ _ hc, g.ok r _ (hf _ _ _ _)⟩
    · exact g.elim
  · exact g.elim
def cMul (i j : Int) : Prop := i.natAbs.log2 + j.natAbs.log2 < 1000000 ∨ Builtin.Int.intBits i ≤ 64 ∨ Builtin.Int.intBits j ≤ 64
theorem cMul.okM {i j : Int} (h : cMul i j) : IntMulOk i j := by
  rcases h with h | h | h
  · exact CMulW.ok h
  · exact .of_left h
  · exact .of_right h
theorem op_mulV {X : Cx} : OpR X (binaryOp .Mult) (rI cMul fun i j => .int (i * j)) := opI fun _ _ _ _ _ _ _ hc q => mul_int q hc.okM
instance : ∀ i j, Decidable (cMul i j) := fun i j => by unfold cMul; infer_instance
def cDiv (_ j : Int) : Prop := 0 < j ∧ j.natAbs.log2 < 9000
instance : ∀ i j, Decidable (cDiv i j) := fun i j => by unfold cDiv; infer_instance
def cPos (_ j : Int) : Prop := 0 < j
instance : ∀ i j, Decidable (cPos i j) := fun i j => by unfold cPos; infer_instance
def cPow (i j : Int) : Prop := 0 ≤ j ∧ j ≤ 1000000 ∧ i.natAbs < 2 ^ 64
instance : ∀ i j, Decidable (cPow i j) := fun i j => by unfold cPow; infer_instance
def cNn (_ j : Int) : Prop := 0 ≤ j
instance : ∀ i j, Decidable (cNn i j) := fun i j => by unfold cNn; infer_instance
def dMod : D → D → M Φ R := dIC cPos fun i j => .int (i % j)
def dDiv : D → D → M Φ R := dIC cDiv fun i j => .int (i / j)
def dPow : D → D → M Φ R := dIC cPow fun i j => .int (i ^ j.toNat)
def dShl : D → D → M Φ R := dIC cPow fun i j => .int (i * 2 ^ j.toNat)
def dShr : D → D → M Φ R := dIC cNn fun i j => .int (i / 2 ^ j.toNat)
def dAnd : D → D → M Φ R := dI2 fun i j => .int (Builtin.bitAnd i j)
def dOr : D → D → M Φ R := dI2 fun i j => .int (Builtin.bitOr i j)
def dSub : D → D → M Φ R := dI2 fun i j => .int (i - j)
def dLt : D → D → M Φ R := dI2 fun i j => .bl (decide (i < j))
def dLe : D → D → M Φ R := dI2 fun i j => .bl (decide (i ≤ j))
def dGt : D → D → M Φ R := dI2 fun i j => .bl (decide (j < i))
def dGe : D → D → M Φ R := dI2 fun i j => .bl (decide (j ≤ i))
variable {ma mb : M Φ R}
theorem q_mod (ha : PE X a (dE G W ma)) (hb : PE X b (dE G W mb)) : PE X (.BinOp a .Mod b pos) (dE G W (mBin dMod ma mb)) := q_op op_mod (den_IC (fun _ _ h => h) fun _ _ _ _ => .int _) ha hb
theorem q_div (ha : PE X a (dE G W ma)) (hb : PE X b (dE G W mb)) : PE X (.BinOp a .FloorDiv b pos) (dE G W (mBin dDiv ma mb)) := q_op op_fdivW (den_IC (fun _ _ h => h) fun _ _ _ _ => .int _) ha hb
theorem q_pow (ha : PE X a (dE G W ma)) (hb : PE X b (dE G W mb)) : PE X (.BinOp a .Pow b pos) (dE G W (mBin dPow ma mb)) := q_op op_pow (den_IC (fun _ _ h => h) fun _ _ _ _ => .int _) ha hb
theorem q_shl (ha : PE X a (dE G W ma)) (hb : PE X b (dE G W mb)) : PE X (.BinOp a .LShift b pos) (dE G W (mBin dShl ma mb)) := q_op op_shl (den_IC (fun _ _ h => h) fun _ _ _ _ => .int _) ha hb
theorem q_shr (ha : PE X a (dE G W ma)) (hb : PE X b (dE G W mb)) : PE X (.BinOp a .RShift b pos) (dE G W (mBin dShr ma mb)) := q_op op_shr (den_IC (fun _ _ h => h) fun _ _ _ _ => .int _) ha hb
theorem q_and (ha : PE X a (dE G W ma)) (hb : PE X b (dE G W mb)) : PE X (.BinOp a .BitAnd b pos) (dE G W (mBin dAnd ma mb)) := q_op op_and (den_I0 fun _ _ _ _ => .int _) ha hb
theorem q_or (ha : PE X a (dE G W ma)) (hb : PE X b (dE G W mb)) : PE X (.BinOp a .BitOr b pos) (dE G W (mBin dOr ma mb)) := q_op op_or (den_I0 fun _ _ _ _ => .int _) ha hb
theorem q_sub (ha : PE X a (dE G W ma)) (hb : PE X b (dE G W mb)) : PE X (.BinOp a .Sub b pos) (dE G W (mBin dSub ma mb)) := q_op op_sub (den_I0 fun _ _ _ _ => .int _) ha hb
/-- + : ints, lists, tuples, texts -/
def dAdd : D → D → M Φ R
  | .int i, .int j => mP (.val (.int (i + j)))
  | .int i, .bl k => mP (.val (.int (i + b2i k)))
  | .tup xs, .tup ys => if xs.length + ys.length ≤ 16777216 then mP (.val (.tup (xs ++ ys))) else mS
  | .lst xs, .lst ys => if xs.length + ys.length ≤ 16777216 then mP (.new (xs ++ ys)) else mS
  | .str x, .str y => if x.length + y.length ≤ 16777216 then mP (.val (.str (x ++ y))) else mS
  | _, _ => mS
def rAddA (K : PySem.W.Frag) : R2 := fun x y H Q => (rI0 fun i j => .int (i + j)) x y H Q ∨ (fun x y H Q => ∃ i k, x = V.int i ∧ y = V.bl k ∧ Q (V.int (i + b2i k)) H) x y H Q ∨ rCatA K x y H Q ∨ rCat x y H Q ∨
  (fun x y H Q => ∃ i j, x = V.str i ∧ y = V.str j ∧ i.length + j.length ≤ sizeLine ∧ Q (V.str (i ++ j)) H) x y H Q
theorem op_addA : OpR X (binaryOp .Add) (rAddA X.K) := op_add.or (op_add_ib.or (op_catA.or (op_cat.or op_add_str)))
theorem RDs.nil_iff {F : List Addr} {H : Hp} {vs : List V} {ds : List D} (h : RDs G F H vs ds) : vs = [] ↔ ds = [] := by
  cases h with
  | nil => simp
  | cons _ _ => simp
theorem den_add (K : PySem.W.Frag) : OpDen G W (rAddA K) dAdd := by
  intro ρ φ F O σ H x y d e Q r dx dy g
  unfold dAdd at g
  split at g
  · cases dx; cases dy
    exact .inl ⟨_, _, rfl, rfl, g.ok r _ (.int _)⟩
  · cases dx; cases dy
    exact .inr (.inl ⟨_, _, rfl, rfl, g.ok r _ (.int _)⟩)
  · split at g
    · rename_i hz
      cases dx with
      | tup h1 h2 =>
        cases dy with
        | tup k1 k2 =>
          rename_i a xs b ys
          have e1 := (hide_some h1).2
          have e2 := (hide_some k1).2
          refine .inr (.inr (.inl ⟨_, _, _, _, rfl, rfl, SqT.of e1, SqT.of e2, by rw [h2.length, k2.length, sizeLine_eq]; exact hz, fun z => ?_, fun z z' => ?_, fun z z' p hp => ?_⟩))
          · have z2 := h2.nil_iff.mp z
            rw [z2] at g
            exact g.ok r _ (.tup k1 k2)
          · have z2 := k2.nil_iff.mp z'
            rw [z2, List.append_nil] at g
            exact g.ok r _ (.tup h1 h2)
          · obtain ⟨r', x'⟩ := r.laid (o := .tup (_ ++ _)) hp
            exact g F O _ x' r' _ (.tup (hide_of (r.notin hp) upd_same) ((h2.append k2).mono x'.sm x'.fe))
    · exact g.elim
  · split at g
    · rename_i hz
      cases dx with
      | lst h1 h2 =>
        cases dy with
        | lst k1 k2 =>
          have e1 := (hide_some h1).2
          have e2 := (hide_some k1).2
          refine .inr (.inr (.inr (.inl ⟨_, _, _, _, rfl, rfl, e1, e2, by rw [h2.length, k2.length, sizeLine_eq]; exact hz, fun p hp => ?_⟩)))
          obtain ⟨r', x', rr⟩ := r.laidNew hp (h2.append k2)
          exact g F _ _ x' r' _ rr
    · exact g.elim
  · split at g
    · rename_i hz
      cases dx; cases dy
      exact .inr (.inr (.inr (.inr ⟨_, _, rfl, rfl, by rw [sizeLine_eq]; exact hz, g.ok r _ (.str _)⟩)))
    · exact g.elim
  · exact g.elim
theorem q_add (ha : PE X a (dE G W ma)) (hb : PE X b (dE G W mb)) : PE X (.BinOp a .Add b pos) (dE G W (mBin dAdd ma mb)) := q_op op_addA (den_add _) ha hb
/-- * : ints; a list times an int -/
def dMul : D → D → M Φ R
  | .int i, .int j => if cMul i j then mP (.val (.int (i * j))) else mS
  | .lst xs, .int k => if -1000000 ≤ k ∧ k ≤ 1000000 ∧ xs.length * k.toNat ≤ 16777216 then mP (.new (List.replicate k.toNat xs).flatten) else mS
  | _, _ => mS
def rMulA : R2 := fun x y H Q => (rI cMul fun i j => .int (i * j)) x y H Q ∨ rRep x y H Q
theorem op_mulA : OpR X (binaryOp .Mult) rMulA := op_mulV.or op_rep
theorem RDs.rep {F : List Addr} {H : Hp} {vs : List V} {ds : List D} (h : RDs G F H vs ds) : ∀ k : Nat, RDs G F H (List.replicate k vs).flatten (List.replicate k ds).flatten
  | 0 => .nil
  | k + 1 => by
    rw [List.replicate_succ, List.replicate_succ, List.flatten_cons, List.flatten_cons]
    exact h.append (RDs.rep h k)
theorem den_mul : OpDen G W rMulA dMul := by
  intro ρ φ F O σ H x y d e Q r dx dy g
  unfold dMul at g
  split at g
  · split at g
    · rename_i hc
      cases dx; cases dy
      exact .inl ⟨_, _, rfl, rfl, hc, g.ok r _ (.int _)⟩
    · exact g.elim
  · split at g
    · rename_i hc
      cases dx with
      | lst h1 h2 =>
        cases dy
        have e1 := (hide_some h1).2
        refine .inr ⟨_, _, _, rfl, rfl, e1, by omega, by omega, by rw [h2.length, sizeLine_eq]; exact hc.2.2, fun p hp => ?_⟩
        obtain ⟨r', x', rr⟩ := r.laidNew hp (h2.rep _)
        exact g F _ _ x' r' _ rr
    · exact g.elim
  · exact g.elim
theorem q_mul (ha : PE X a (dE G W ma)) (hb : PE X b (dE G W mb)) : PE X (.BinOp a .Mult b pos) (dE G W (mBin dMul ma mb)) := q_op op_mulA den_mul ha hb

/-! ### comparisons -/
theorem q_lt (ha : PE X a (dE G W ma)) (hb : PE X b (dE G W mb)) : PE X (.Compare a [.Lt] [b] pos) (dE G W (mBin dLt ma mb)) := q_cmp op_lt (den_I0 fun _ _ _ _ => .bl _) ha hb (nomark _)
theorem q_le (ha : PE X a (dE G W ma)) (hb : PE X b (dE G W mb)) : PE X (.Compare a [.LtE] [b] pos) (dE G W (mBin dLe ma mb)) := q_cmp op_le (den_I0 fun _ _ _ _ => .bl _) ha hb (nomark _)
theorem q_gt (ha : PE X a (dE G W ma)) (hb : PE X b (dE G W mb)) : PE X (.Compare a [.Gt] [b] pos) (dE G W (mBin dGt ma mb)) := q_cmp op_gt (den_I0 fun _ _ _ _ => .bl _) ha hb (nomark _)
theorem q_ge (ha : PE X a (dE G W ma)) (hb : PE X b (dE G W mb)) : PE X (.Compare a [.GtE] [b] pos) (dE G W (mBin dGe ma mb)) := q_cmp op_ge (den_I0 fun _ _ _ _ => .bl _) ha hb (nomark _)
theorem t_lt (ha : PE X a (dE G W ma)) (hb : PE X b (dE G W mb)) : PT X (.Compare a [.Lt] [b] pos) (dT G W (mTst (mBin dLt ma mb))) := q_cmpT op_lt (den_I0 fun _ _ _ _ => .bl _) ha hb (nomark _)
theorem t_le (ha : PE X a (dE G W ma)) (hb : PE X b (dE G W mb)) : PT X (.Compare a [.LtE] [b] pos) (dT G W (mTst (mBin dLe ma mb))) := q_cmpT op_le (den_I0 fun _ _ _ _ => .bl _) ha hb (nomark _)
theorem t_gt (ha : PE X a (dE G W ma)) (hb : PE X b (dE G W mb)) : PT X (.Compare a [.Gt] [b] pos) (dT G W (mTst (mBin dGt ma mb))) := q_cmpT op_gt (den_I0 fun _ _ _ _ => .bl _) ha hb (nomark _)
theorem t_ge (ha : PE X a (dE G W ma)) (hb : PE X b (dE G W mb)) : PT X (.Compare a [.GtE] [b] pos) (dT G W (mTst (mBin dGe ma mb))) := q_cmpT op_ge (den_I0 fun _ _ _ _ => .bl _) ha hb (nomark _)
/-- == of data, at any depth -/
def eqD (d e : D) : Option Bool := match d.toPy, e.toPy with
  | some p, some q => if SeqAt.shaped p = true ∧ SeqAt.shaped q = true then some (PyData.eqv p q) else none
  | _, _ => none
def dEq (d e : D) : M Φ R := match eqD d e with
  | some b => mP (.val (.bl b))
  | none => mS
def dNe (d e : D) : M Φ R := match eqD d e with
  | some b => mP (.val (.bl (!b)))
  | none => mS
theorem eqD_some {d e : D} {b : Bool} (h : eqD d e = some b) : ∃ p q, d.toPy = some p ∧ e.toPy = some q ∧ SeqAt.shaped p = true ∧ SeqAt.shaped q = true ∧ PyData.eqv p q = b := by
  unfold eqD at h
  split at h
  · rename_i p q e1 e2
    split at h
    · rename_i hs
      exact ⟨p, q, e1, e2, hs.1, hs.2, Option.some.inj h⟩
    · cases h
  · cases h
theorem Dp_mono {K : PySem.W.Frag} {H H' : Hp} (s : Same H H') {F : List Addr} {v : V} {d : D} {p : PyData} (h : RD G F H v d) (e : d.toPy = some p) : Dp K H' v p := RD.dp (h.mono s (.refl _)) e
theorem den_eq (K : PySem.W.Frag) : OpDen G W (rEqD K) dEq := by
  intro ρ φ F O σ H x y d e Q r dx dy g
  unfold dEq at g
  cases hb : eqD d e with
  | some b =>
    rw [hb] at g
    obtain ⟨p, q, e1, e2, s1, s2, rfl⟩ := eqD_some hb
    exact ⟨p, q, Dp_mono hide_un dx e1, Dp_mono hide_un dy e2, s1, s2, g.ok r _ (.bl _)⟩
  | none => rw [hb] at g; exact g.elim
theorem den_ne (K : PySem.W.Frag) : OpDen G W (rNeD K) dNe := by
  intro ρ φ F O σ H x y d e Q r dx dy g
  unfold dNe at g
  cases hb : eqD d e with
  | some b =>
    rw [hb] at g
    obtain ⟨p, q, e1, e2, s1, s2, rfl⟩ := eqD_some hb
    exact ⟨p, q, Dp_mono hide_un dx e1, Dp_mono hide_un dy e2, s1, s2, g.ok r _ (.bl _)⟩
  | none => rw [hb] at g; exact g.elim
theorem q_eq {k : Nat} (hr : Room k X.A) (ha : PE X a (dE G W ma)) (hb : PE X b (dE G W mb)) : PE X (.Compare a [.Eq] [b] pos) (dE G W (mBin dEq ma mb)) := q_cmp (op_eqD hr.units) (den_eq _) ha hb (nomark _)
theorem q_ne {k : Nat} (hr : Room k X.A) (ha : PE X a (dE G W ma)) (hb : PE X b (dE G W mb)) : PE X (.Compare a [.NotEq] [b] pos) (dE G W (mBin dNe ma mb)) := q_cmp (op_neD hr.units) (den_ne _) ha hb (nomark _)
theorem t_eq {k : Nat} (hr : Room k X.A) (ha : PE X a (dE G W ma)) (hb : PE X b (dE G W mb)) : PT X (.Compare a [.Eq] [b] pos) (dT G W (mTst (mBin dEq ma mb))) := q_cmpT (op_eqD hr.units) (den_eq _) ha hb (nomark _)
theorem t_ne {k : Nat} (hr : Room k X.A) (ha : PE X a (dE G W ma)) (hb : PE X b (dE G W mb)) : PT X (.Compare a [.NotEq] [b] pos) (dT G W (mTst (mBin dNe ma mb))) := q_cmpT (op_neD hr.units) (den_ne _) ha hb (nomark _)
/-- is None -/
def isN : D → Bool
  | .non => true
  | _ => false
def dIsN (d : D) : M Φ R := mP (.val (.bl (isN d)))
def dNotN (d : D) : M Φ R := mP (.val (.bl (!isN d)))
theorem RD.isN {F : List Addr} {H : Hp} {v : V} {d : D} (h : RD G F H v d) : decide (v = .non) = DN.isN d := by cases h <;> simp [DN.isN]
theorem q_isN {j pos'} (ha : PE X a (dE G W ma)) : PE X (.Compare a [.Is] [.Constant .none j pos'] pos) (dE G W (mUn dIsN ma)) :=
  PE.weak (pe_cmp (pc_isN ha)) fun σ H Q h => dE_un (r := fun x H Q => Q (.bl (decide (x = .non))) H) (fun ρ φ F O σ H x d Q r dx g => by have e := dx.isN; show Q _ H; rw [e]; exact g.ok r _ (.bl _)) h
theorem q_notN {j pos'} (ha : PE X a (dE G W ma)) : PE X (.Compare a [.IsNot] [.Constant .none j pos'] pos) (dE G W (mUn dNotN ma)) :=
  PE.weak (pe_cmp (pc_notN ha)) fun σ H Q h => dE_un (r := fun x H Q => Q (.bl (!decide (x = .non))) H) (fun ρ φ F O σ H x d Q r dx g => by have e := dx.isN; show Q _ H; rw [e]; exact g.ok r _ (.bl _)) h
theorem t_isN {j pos'} (ha : PE X a (dE G W ma)) : PT X (.Compare a [.Is] [.Constant .none j pos'] pos) (dT G W (mTst (mUn dIsN ma))) :=
  PT.weak (pt_cmp (pc_isN ha)) fun σ H Q h => by
    obtain ⟨ρ, φ, F, O, r, g⟩ := dT_tst h
    exact dE_un (r := fun x H Q => Q (.bl (decide (x = .non))) H) (fun ρ φ F O σ H x d Q r dx g => by have e := dx.isN; show Q _ H; rw [e]; exact g.ok r _ (.bl _)) ⟨ρ, φ, F, O, r, g⟩
theorem t_notN {j pos'} (ha : PE X a (dE G W ma)) : PT X (.Compare a [.IsNot] [.Constant .none j pos'] pos) (dT G W (mTst (mUn dNotN ma))) :=
  PT.weak (pt_cmp (pc_notN ha)) fun σ H Q h => by
    obtain ⟨ρ, φ, F, O, r, g⟩ := dT_tst h
    exact dE_un (r := fun x H Q => Q (.bl (!decide (x = .non))) H) (fun ρ φ F O σ H x d Q r dx g => by have e := dx.isN; show Q _ H; rw [e]; exact g.ok r _ (.bl _)) ⟨ρ, φ, F, O, r, g⟩

/-! ### one place -/
def dNeg : D → M Φ R
  | .int i => mP (.val (.int (-i)))
  | _ => mS
theorem q_neg (ha : PE X a (dE G W ma)) : PE X (.UnaryOp .USub a pos) (dE G W (mUn dNeg ma)) := q_un un_neg (fun ρ φ F O σ H x d Q r dx g => by
  unfold dNeg at g
  split at g
  · cases dx
    exact ⟨_, rfl, g.ok r _ (.int _)⟩
  · exact g.elim) ha
def dNot : D → M Φ R
  | .bl b => mP (.val (.bl (!b)))
  | _ => mS
theorem q_not (ha : PE X a (dE G W ma)) : PE X (.UnaryOp .Not a pos) (dE G W (mUn dNot ma)) :=
  PE.weak (pe_not ha) fun σ H Q h => dE_un (r := fun x H Q => ∃ c, x = .bl c ∧ Q (.bl (!c)) H) (fun ρ φ F O σ H x d Q r dx g => by
    unfold dNot at g
    split at g
    · cases dx
      exact ⟨_, rfl, g.ok r _ (.bl _)⟩
    · exact g.elim) h

/-! ### and, or, not, if -/
def mNotT (m : M Φ Bool) : M Φ Bool := mB m fun b => mP (!b)
def mAndT (m n : M Φ Bool) : M Φ Bool := mB m fun b => if b = true then n else mP false
def mOrT (m n : M Φ Bool) : M Φ Bool := mB m fun b => if b = true then mP true else n
variable {ta tb : M Φ Bool} {rest : List Expr}
theorem t_not (h : PT X a (dT G W ta)) : PT X (.UnaryOp .Not a pos) (dT G W (mNotT ta)) := PT.weak (pt_not h) fun σ H Q h => by
  obtain ⟨ρ, φ, F, O, r, g⟩ := h
  exact useB r (Good.mono g.bind fun b ρ1 φ1 F1 O1 H1 _ x1 _ g1 r1 => g1.ok r1)
theorem w_and1 (h : PT X a (dT G W ta)) : PW X (.BoolOp .And [a] pos) (dT G W ta) := pw_and1 h
theorem w_or1 (h : PT X a (dT G W ta)) : PW X (.BoolOp .Or [a] pos) (dT G W ta) := pw_or1 h
theorem w_and (h : PT X a (dT G W ta)) (k : PW X (.BoolOp .And (b :: rest) pos) (dT G W tb)) : PW X (.BoolOp .And (a :: b :: rest) pos) (dT G W (mAndT ta tb)) := PW.weak (pw_and h k) fun σ H Q h => by
  obtain ⟨ρ, φ, F, O, r, g⟩ := h
  refine useB r (Good.mono g.bind fun c ρ1 φ1 F1 O1 H1 _ x1 _ g1 r1 => ?_)
  cases c with
  | true => exact ⟨ρ1, φ1, F1, O1, r1, g1⟩
  | false => exact g1.ok r1
theorem w_or (h : PT X a (dT G W ta)) (k : PW X (.BoolOp .Or (b :: rest) pos) (dT G W tb)) : PW X (.BoolOp .Or (a :: b :: rest) pos) (dT G W (mOrT ta tb)) := PW.weak (pw_or h k) fun σ H Q h => by
  obtain ⟨ρ, φ, F, O, r, g⟩ := h
  refine useB r (Good.mono g.bind fun c ρ1 φ1 F1 O1 H1 _ x1 _ g1 r1 => ?_)
  cases c with
  | true => exact g1.ok r1
  | false => exact ⟨ρ1, φ1, F1, O1, r1, g1⟩
/-- as values -/
def mAnd (m n : M Φ R) : M Φ R := mB m fun r => match r.d with
  | .bl true => n
  | .bl false => mP (.val (.bl false))
  | _ => mS
def mOr (m n : M Φ R) : M Φ R := mB m fun r => match r.d with
  | .bl true => mP (.val (.bl true))
  | .bl false => n
  | _ => mS
theorem q_one {op} (h : PE X a (dE G W ma)) : PE X (.BoolOp op [a] pos) (dE G W ma) := pe_one h
theorem q_andv (h : PE X a (dE G W ma)) (k : PE X (.BoolOp .And (b :: rest) pos) (dE G W mb)) : PE X (.BoolOp .And (a :: b :: rest) pos) (dE G W (mAnd ma mb)) := PE.weak (pe_and h k) fun σ H Q h => by
  obtain ⟨ρ, φ, F, O, r, g⟩ := h
  refine use r (Good.mono g.bind fun c ρ1 φ1 F1 O1 H1 _ x1 _ g1 O2 v r2 x2 d2 => ?_)
  cases hd : c.d with
  | bl k =>
    rw [hd] at d2 g1
    cases d2
    refine ⟨k, rfl, ?_⟩
    cases k with
    | true => exact ⟨ρ1, φ1, F1, O2, r2, g1.ext x2⟩
    | false => exact (g1.ext x2).ok r2 _ (.bl _)
  | _ => rw [hd] at g1; exact g1.elim
theorem q_orv (h : PE X a (dE G W ma)) (k : PE X (.BoolOp .Or (b :: rest) pos) (dE G W mb)) : PE X (.BoolOp .Or (a :: b :: rest) pos) (dE G W (mOr ma mb)) := PE.weak (pe_or h k) fun σ H Q h => by
  obtain ⟨ρ, φ, F, O, r, g⟩ := h
  refine use r (Good.mono g.bind fun c ρ1 φ1 F1 O1 H1 _ x1 _ g1 O2 v r2 x2 d2 => ?_)
  cases hd : c.d with
  | bl k =>
    rw [hd] at d2 g1
    cases d2
    refine ⟨k, rfl, ?_⟩
    cases k with
    | false => exact ⟨ρ1, φ1, F1, O2, r2, g1.ext x2⟩
    | true => exact (g1.ext x2).ok r2 _ (.bl _)
  | _ => rw [hd] at g1; exact g1.elim
def mIf (t : M Φ Bool) (m n : M Φ R) : M Φ R := mB t fun b => if b = true then m else n
theorem q_if (h : PT X c (dT G W ta)) (ha : PE X a (dE G W ma)) (hb : PE X b (dE G W mb)) : PE X (.IfExp c a b pos) (dE G W (mIf ta ma mb)) := PE.weak (pe_ifExp h ha hb) fun σ H Q h => by
  obtain ⟨ρ, φ, F, O, r, g⟩ := h
  refine useB r (Good.mono g.bind fun c ρ1 φ1 F1 O1 H1 _ x1 _ g1 r1 => ?_)
  cases c with
  | true => exact ⟨ρ1, φ1, F1, O1, r1, g1⟩
  | false => exact ⟨ρ1, φ1, F1, O1, r1, g1⟩
/-- a chain of two comparisons of ints -/
def dChn (f g : D → D → M Φ R) (ma mb mc : M Φ R) : M Φ R := mB ma fun a => mB mb fun b => mB (f a.d b.d) fun k => match k.d with
  | .bl true => mB mc fun c => g b.d c.d
  | .bl false => mP (.val (.bl false))
  | _ => mS
variable {mc : M Φ R}
theorem dE_chn {r r' : R2} {f f' : D → D → M Φ R} (ho : OpDen G W r f) (ho' : OpDen G W r' f') {σ : St} {H : Hp} {Q : VK} (h : dE G W (dChn f f' ma mb mc) σ H Q) : tChain r r' (dE G W ma) (dE G W mb) (dE G W mc) σ H Q := by
  obtain ⟨ρ, φ, F, O, r, g⟩ := h
  refine use r (Good.mono g.bind ?_)
  intro a ρ1 φ1 F1 O1 H1 _ x1 _ g1 O2 v r2 x2 d2
  refine use r2 (Good.mono (g1.ext x2).bind ?_)
  intro b ρ2 φ2 F2 O3 H2 _ x3 _ g2 O4 w r4 x4 d4
  have x34 := x3.trans x4
  refine ho _ _ _ _ _ _ _ _ _ _ _ r4 (d2.mono x34.sm x34.fe) d4 (Good.mono (g2.ext x4).bind ?_)
  intro k ρ3 φ3 F3 O5 H3 _ x5 r5 g3 z rz
  obtain ⟨O6, r6, x6, d6⟩ := r5.freeze rz
  cases hd : k.d with
  | bl k =>
    rw [hd] at d6 g3
    cases d6
    refine ⟨k, rfl, ?_⟩
    cases k with
    | false => exact (g3.ext x6).ok r6 _ (.bl _)
    | true =>
      refine iteT (use r6 (Good.mono (g3.ext x6).bind ?_))
      intro c ρ7 φ7 F7 O7 H7 _ x7 _ g7 O8 u r8 x8 d8
      have xx := (x5.trans x6).trans (x7.trans x8)
      exact ho' _ _ _ _ _ _ _ _ _ _ _ r8 (d4.mono xx.sm xx.fe) d8 (g7.ext x8)
  | _ => rw [hd] at g3; exact g3.elim
theorem q_lele (ha : PE X a (dE G W ma)) (hb : PE X b (dE G W mb)) (hc : PE X c (dE G W mc)) (hm : lastMarks [.LtE, .LtE] [b, c] = false := by with_unfolding_all rfl) : PE X (.Compare a [.LtE, .LtE] [b, c] pos) (dE G W (dChn dLe dLe ma mb mc)) :=
  PE.weak (pe_chain op_le op_le ha hb hc hm) fun σ H Q h => dE_chn (den_I0 fun _ _ _ _ => .bl _) (den_I0 fun _ _ _ _ => .bl _) h
theorem q_lelt (ha : PE X a (dE G W ma)) (hb : PE X b (dE G W mb)) (hc : PE X c (dE G W mc)) (hm : lastMarks [.LtE, .Lt] [b, c] = false := by with_unfolding_all rfl) : PE X (.Compare a [.LtE, .Lt] [b, c] pos) (dE G W (dChn dLe dLt ma mb mc)) :=
  PE.weak (pe_chain op_le op_lt ha hb hc hm) fun σ H Q h => dE_chn (den_I0 fun _ _ _ _ => .bl _) (den_I0 fun _ _ _ _ => .bl _) h
end
end DN
namespace DN
open PySem PySem.Spec L2
open PyProof.Rows hiding St
variable {Φ : Type}
section
variable {X : Cx} {G : Ctx Φ} {W : WX} {a b c e : Expr} {es : List Expr} {pos : Pos} {m ma mb : M Φ R} {t : M Φ (List D)}

/-! ### arguments, displays -/
def mNil : M Φ (List D) := mP []
def mCons (m : M Φ R) (t : M Φ (List D)) : M Φ (List D) := mB m fun r => mB t fun ds => mP (r.d :: ds)
theorem a_nil : PA X [] (dA G W mNil) := PA.weak pa_nil fun σ H Q h => by
  obtain ⟨ρ, φ, F, O, r, g⟩ := h
  exact g.ok r [] .nil
theorem dA_cons {σ : St} {H : Hp} {Q : List V → Hp → Prop} (h : dA G W (mCons m t) σ H Q) : tCons (dE G W m) (dA G W t) σ H Q := by
  obtain ⟨ρ, φ, F, O, r, g⟩ := h
  refine use r (Good.mono g.bind fun a ρ1 φ1 F1 O1 H1 _ x1 _ g1 O2 v r2 x2 d2 => ?_)
  refine useA r2 (Good.mono (g1.ext x2).bind fun ds ρ3 φ3 F3 O3 H3 _ x3 _ g3 vs r3 hv => ?_)
  exact g3.ok r3 _ (.cons (d2.mono x3.sm x3.fe) hv)
theorem a_cons (ha : PE X e (dE G W m)) (hr : PA X es (dA G W t)) (hs : starEach (e :: es) X.env = (false, eval e X.env) :: starEach es X.env := by rfl) : PA X (e :: es) (dA G W (mCons m t)) :=
  PA.weak (pa_cons ha hr hs) fun _ _ _ h => dA_cons h
def dTup (ds : List D) : M Φ R := if ds.length ≤ 16777216 then mP (.val (.tup ds)) else mS
def dLst (ds : List D) : M Φ R := if ds.length ≤ 16777216 then mP (.new ds) else mS
theorem q_tup {x1} (h : PA X es (dA G W t)) : PE X (.Tuple es x1 pos) (dE G W (mB t dTup)) := PE.weak (pe_tup h) fun σ H Q h => by
  obtain ⟨ρ, φ, F, O, r, g⟩ := h
  refine useA r (Good.mono g.bind fun ds ρ1 φ1 F1 O1 H1 _ x1 _ g1 vs r1 hv => ?_)
  unfold dTup at g1
  split at g1
  · rename_i hz
    refine ⟨by rw [hv.length, sizeLine_eq]; exact hz, fun p hp => ?_⟩
    obtain ⟨r', x'⟩ := r1.laid (o := .tup vs) hp
    exact g1 F1 O1 _ x' r' _ (.tup (hide_of (r1.notin hp) upd_same) (hv.mono x'.sm x'.fe))
  · exact g1.elim
theorem q_lst (h : PA X es (dA G W t)) : PE X (.List es pos) (dE G W (mB t dLst)) := PE.weak (pe_lst h) fun σ H Q h => by
  obtain ⟨ρ, φ, F, O, r, g⟩ := h
  refine useA r (Good.mono g.bind fun ds ρ1 φ1 F1 O1 H1 _ x1 _ g1 vs r1 hv => ?_)
  unfold dLst at g1
  split at g1
  · rename_i hz
    refine ⟨by rw [hv.length, sizeLine_eq]; exact hz, fun p hp => ?_⟩
    obtain ⟨r', x', rr⟩ := r1.laidNew hp hv
    exact g1 F1 _ _ x' r' _ rr
  · exact g1.elim

/-! ### built-ins -/
def CallDen (G : Ctx Φ) (W : WX) (r : List V → Hp → VK → Prop) (f : List D → M Φ R) : Prop :=
  ∀ (ρ : List Sl) (φ : Φ) (F O : List Addr) (σ : St) (H : Hp) (vs : List V) (ds : List D) (Q : VK), Rel G F O ρ φ σ H → RDs G F (hide (F ++ O) H) vs ds →
    Good G W σ F O H (f ds ρ φ) (fun r ρ' _ F' O' H' => ∀ v, RR G F' O' σ ρ' H' v r → Q v H') → r vs H Q
theorem dE_call {r : List V → Hp → VK → Prop} {f : List D → M Φ R} (ho : CallDen G W r f) {σ : St} {H : Hp} {Q : VK} (h : dE G W (mB t f) σ H Q) : tCB r (dA G W t) σ H Q := by
  obtain ⟨ρ, φ, F, O, r, g⟩ := h
  exact useA r (Good.mono g.bind fun ds ρ1 φ1 F1 O1 H1 _ x1 _ g1 vs r1 hv => ho _ _ _ _ _ _ _ _ _ r1 hv g1)
theorem q_callB {id : String} {x : Str} {p : Pos} {r : List V → Hp → VK → Prop} {f : List D → M Φ R} (hc : CallR X (.builtin id) r) (hd : CallDen G W r f) (hg : Gl X x) (hm : X.mg x = none) (hv : bootBuiltins x = some (.builtin id)) (ha : PA X (e :: es) (dA G W t)) (hn : x ≠ "__name__" := by decide) (hdb : (x == ("__debug__" : Str)) = false := by decide)
    (he : starEach (e :: es) X.env = (false, eval e X.env) :: starEach es X.env := by rfl) (hpl : (backTo pos (starEach es X.env)).any (·.1) = false := by rfl) : PE X (.Call (.Name x p) (e :: es) [] pos) (dE G W (mB t f)) :=
  PE.weak (pe_callB hc hg hm hv ha hn hdb he hpl) fun _ _ _ h => dE_call hd h
theorem q_callTy {T : String} {x : Str} {p : Pos} {r : List V → Hp → VK → Prop} {f : List D → M Φ R} (hc : CallR X (.type T) r) (hd : CallDen G W r f) (hg : Gl X x) (hm : X.mg x = none) (hv : bootBuiltins x = some (.type T)) (ha : PA X (e :: es) (dA G W t)) (hn : x ≠ "__name__" := by decide) (hdb : (x == ("__debug__" : Str)) = false := by decide)
    (he : starEach (e :: es) X.env = (false, eval e X.env) :: starEach es X.env := by rfl) (hpl : (backTo pos (starEach es X.env)).any (·.1) = false := by rfl) : PE X (.Call (.Name x p) (e :: es) [] pos) (dE G W (mB t f)) :=
  PE.weak (pe_callTy hc hg hm hv ha hn hdb he hpl) fun _ _ _ h => dE_call hd h
/-- len -/
def dLen : List D → M Φ R
  | [.lst xs] => mP (.val (.int xs.length))
  | [.tup xs] => mP (.val (.int xs.length))
  | [.str x] => if x.length ≤ 16777216 then mP (.val (.int x.length)) else mS
  | _ => mS
theorem den_len (K : PySem.W.Frag) : CallDen G W (fun xs H Q => ∃ x n, xs = [x] ∧ LenV K x H n ∧ Q (.int n) H) dLen := by
  intro ρ φ F O σ H vs ds Q r hv g
  unfold dLen at g
  split at g
  · cases hv with
    | cons h1 h2 =>
      cases h2
      cases h1 with
      | lst k1 k2 =>
        have q := g.ok r _ (.int _)
        rw [← k2.length] at q
        exact ⟨_, _, rfl, .inl ⟨_, SqL.of (hide_some k1).2, rfl⟩, q⟩
  · cases hv with
    | cons h1 h2 =>
      cases h2
      cases h1 with
      | tup k1 k2 =>
        have q := g.ok r _ (.int _)
        rw [← k2.length] at q
        exact ⟨_, _, rfl, .inr ⟨_, SqT.of (hide_some k1).2, rfl⟩, q⟩
  · split at g
    · rename_i hz
      cases hv with
      | cons h1 h2 =>
        cases h2
        cases h1
        exact ⟨_, _, rfl, ⟨by rw [sizeLine_eq]; exact hz, rfl⟩, g.ok r _ (.int _)⟩
    · exact g.elim
  · exact g.elim
theorem boot_len' : bootBuiltins ("len" : Str) = some (.builtin "len") := PySem.boot_len
theorem q_len {p : Pos} (hg : Gl X "len") (hm : X.mg "len" = none) (ha : PA X [a] (dA G W t)) (he : starEach [a] X.env = [(false, eval a X.env)] := by rfl) : PE X (.Call (.Name "len" p) [a] [] pos) (dE G W (mB t dLen)) :=
  q_callB call_len (den_len _) hg hm PySem.boot_len ha (he := he) (hpl := rfl)
/-- tuple(..) -/
def dTuple : List D → M Φ R
  | [.lst xs] => mP (.val (.tup xs))
  | [.tup xs] => mP (.val (.tup xs))
  | _ => mS
theorem den_tuple (K : PySem.W.Frag) : CallDen G W (fun xs H Q => ∃ p ys, xs = [V.ref p] ∧ ((SqL K H p ys ∧ ∀ l, H l = none → Q (V.ref l) (upd H l (.tup ys))) ∨ (SqT K H p ys ∧ Q (V.ref p) H))) dTuple := by
  intro ρ φ F O σ H vs ds Q r hv g
  unfold dTuple at g
  split at g
  · cases hv with
    | cons h1 h2 =>
      cases h2
      cases h1 with
      | lst k1 k2 =>
        refine ⟨_, _, rfl, .inl ⟨SqL.of (hide_some k1).2, fun l hl => ?_⟩⟩
        obtain ⟨r', x'⟩ := r.laid (o := .tup _) hl
        exact g F O _ x' r' _ (.tup (hide_of (r.notin hl) upd_same) (k2.mono x'.sm x'.fe))
  · cases hv with
    | cons h1 h2 =>
      cases h2
      cases h1 with
      | tup k1 k2 => exact ⟨_, _, rfl, .inr ⟨SqT.of (hide_some k1).2, g.ok r _ (.tup k1 k2)⟩⟩
  · exact g.elim
theorem q_tuple {p : Pos} (hg : Gl X "tuple") (hm : X.mg "tuple" = none) (ha : PA X [a] (dA G W t)) (he : starEach [a] X.env = [(false, eval a X.env)] := by rfl) : PE X (.Call (.Name "tuple" p) [a] [] pos) (dE G W (mB t dTuple)) :=
  q_callTy call_tuple_of (den_tuple _) hg hm (by decide +kernel) ha (he := he) (hpl := rfl)
/-- list(..) -/
def dList : List D → M Φ R
  | [.lst xs] => mP (.new xs)
  | [.tup xs] => mP (.new xs)
  | _ => mS
theorem den_list (K : PySem.W.Frag) : CallDen G W (fun xs H Q => ∃ p ys, xs = [V.ref p] ∧ (SqL K H p ys ∨ SqT K H p ys) ∧ ∀ l, H l = none → Q (V.ref l) (upd H l (.lst ys))) dList := by
  intro ρ φ F O σ H vs ds Q r hv g
  unfold dList at g
  split at g
  · cases hv with
    | cons h1 h2 =>
      cases h2
      cases h1 with
      | lst k1 k2 =>
        refine ⟨_, _, rfl, .inl (SqL.of (hide_some k1).2), fun l hl => ?_⟩
        obtain ⟨r', x', rr⟩ := r.laidNew hl k2
        exact g F _ _ x' r' _ rr
  · cases hv with
    | cons h1 h2 =>
      cases h2
      cases h1 with
      | tup k1 k2 =>
        refine ⟨_, _, rfl, .inr (SqT.of (hide_some k1).2), fun l hl => ?_⟩
        obtain ⟨r', x', rr⟩ := r.laidNew hl k2
        exact g F _ _ x' r' _ rr
  · exact g.elim
theorem q_list {p : Pos} (hg : Gl X "list") (hm : X.mg "list" = none) (ha : PA X [a] (dA G W t)) (he : starEach [a] X.env = [(false, eval a X.env)] := by rfl) : PE X (.Call (.Name "list" p) [a] [] pos) (dE G W (mB t dList)) :=
  q_callTy call_list_of (den_list _) hg hm (by decide +kernel) ha (he := he) (hpl := rfl)
/-- int(..) -/
def dInt : List D → M Φ R
  | [.int i] => mP (.val (.int i))
  | [.bl k] => mP (.val (.int (if k then 1 else 0)))
  | _ => mS
theorem den_int : CallDen G W (fun xs H Q => (∃ i, xs = [V.int i] ∧ Q (V.int i) H) ∨ ∃ k, xs = [V.bl k] ∧ Q (V.int (if k then 1 else 0)) H) dInt := by
  intro ρ φ F O σ H vs ds Q r hv g
  unfold dInt at g
  split at g
  · cases hv with
    | cons h1 h2 => cases h2; cases h1; exact .inl ⟨_, rfl, g.ok r _ (.int _)⟩
  · cases hv with
    | cons h1 h2 => cases h2; cases h1; exact .inr ⟨_, rfl, g.ok r _ (.int _)⟩
  · exact g.elim
theorem q_intc {p : Pos} (hg : Gl X "int") (hm : X.mg "int" = none) (ha : PA X [a] (dA G W t)) (he : starEach [a] X.env = [(false, eval a X.env)] := by rfl) : PE X (.Call (.Name "int" p) [a] [] pos) (dE G W (mB t dInt)) :=
  q_callTy call_int1 den_int hg hm (by decide +kernel) ha (he := he) (hpl := rfl)
/-- abs -/
def dAbs : List D → M Φ R
  | [.int i] => mP (.val (.int (if i < 0 then -i else i)))
  | _ => mS
theorem den_abs : CallDen G W (fun xs H Q => ∃ i, xs = [V.int i] ∧ Q (V.int (if i < 0 then -i else i)) H) dAbs := by
  intro ρ φ F O σ H vs ds Q r hv g
  unfold dAbs at g
  split at g
  · cases hv with
    | cons h1 h2 => cases h2; cases h1; exact ⟨_, rfl, g.ok r _ (.int _)⟩
  · exact g.elim
theorem q_abs {p : Pos} (hg : Gl X "abs") (hm : X.mg "abs" = none) (ha : PA X [a] (dA G W t)) (he : starEach [a] X.env = [(false, eval a X.env)] := by rfl) : PE X (.Call (.Name "abs" p) [a] [] pos) (dE G W (mB t dAbs)) :=
  q_callB call_abs den_abs hg hm (by decide +kernel) ha (he := he) (hpl := rfl)
/-- ints of a list -/
def asInts : List D → Option (List Int)
  | [] => some []
  | .int i :: r => (asInts r).map (i :: ·)
  | _ :: _ => none
theorem asInts_some : ∀ {ds : List D} {ns : List Int}, asInts ds = some ns → ds = ns.map D.int
  | [], ns, h => by cases h; rfl
  | .int i :: r, ns, h => by
    unfold asInts at h
    obtain ⟨ms, e, rfl⟩ := Option.map_eq_some_iff.mp h
    rw [asInts_some e]; rfl
  | .non :: _, _, h => by cases h
  | .bl _ :: _, _, h => by cases h
  | .str _ :: _, _, h => by cases h
  | .tup _ :: _, _, h => by cases h
  | .lst _ :: _, _, h => by cases h
  | .obj _ _ :: _, _, h => by cases h
  | .fd :: _, _, h => by cases h
  | .scr _ :: _, _, h => by cases h
theorem asInts_of : ∀ (ns : List Int), asInts (ns.map D.int) = some ns
  | [] => rfl
  | n :: r => by
    show (asInts (r.map D.int)).map (n :: ·) = _
    rw [asInts_of r]; rfl
def maxI : List Int → Int
  | [] => 0
  | [x] => x
  | x :: y :: r => let m := maxI (y :: r); if x < m then m else x
def minI : List Int → Int
  | [] => 0
  | [x] => x
  | x :: y :: r => let m := minI (y :: r); if m < x then m else x
theorem maxI_is : ∀ {ns : List Int} {m : Int}, m ∈ ns → (∀ y, y ∈ ns → y ≤ m) → m = maxI ns
  | [x], m, h, _ => List.mem_singleton.mp h
  | x :: y :: r, m, h, k => by
    have ih : ∀ m', m' ∈ (y :: r) → (∀ z, z ∈ (y :: r) → z ≤ m') → m' = maxI (y :: r) := fun m' => maxI_is
    show m = if x < maxI (y :: r) then maxI (y :: r) else x
    have ex : ∀ l : List Int, l ≠ [] → ∃ m', m' ∈ l ∧ ∀ z, z ∈ l → z ≤ m' := by
      intro l
      induction l with
      | nil => intro q; exact absurd rfl q
      | cons z l ih =>
        intro _
        cases l with
        | nil => exact ⟨z, by simp, fun w hw => by simp at hw; omega⟩
        | cons z2 l2 =>
          obtain ⟨m2, h2, k2⟩ := ih (by simp)
          by_cases hz : z ≤ m2
          · exact ⟨m2, List.mem_cons_of_mem _ h2, fun w hw => by rcases List.mem_cons.mp hw with rfl | hw; exact hz; exact k2 w hw⟩
          · exact ⟨z, List.mem_cons_self, fun w hw => by
              rcases List.mem_cons.mp hw with rfl | hw
              · omega
              · have := k2 w hw; omega⟩
    obtain ⟨m2, h2, k2⟩ := ex (y :: r) (by simp)
    have e2 := ih m2 h2 k2
    rw [← e2]
    have a1 := k x List.mem_cons_self
    have a2 := k m2 (List.mem_cons_of_mem _ h2)
    rcases List.mem_cons.mp h with rfl | h
    · split <;> omega
    · have a3 := k2 m h
      split <;> omega
theorem minI_is : ∀ {ns : List Int} {m : Int}, m ∈ ns → (∀ y, y ∈ ns → m ≤ y) → m = minI ns
  | [x], m, h, _ => List.mem_singleton.mp h
  | x :: y :: r, m, h, k => by
    have ih : ∀ m', m' ∈ (y :: r) → (∀ z, z ∈ (y :: r) → m' ≤ z) → m' = minI (y :: r) := fun m' => minI_is
    show m = if minI (y :: r) < x then minI (y :: r) else x
    have ex : ∀ l : List Int, l ≠ [] → ∃ m', m' ∈ l ∧ ∀ z, z ∈ l → m' ≤ z := by
      intro l
      induction l with
      | nil => intro q; exact absurd rfl q
      | cons z l ih =>
        intro _
        cases l with
        | nil => exact ⟨z, by simp, fun w hw => by simp at hw; omega⟩
        | cons z2 l2 =>
          obtain ⟨m2, h2, k2⟩ := ih (by simp)
          by_cases hz : m2 ≤ z
          · exact ⟨m2, List.mem_cons_of_mem _ h2, fun w hw => by rcases List.mem_cons.mp hw with rfl | hw; exact hz; exact k2 w hw⟩
          · exact ⟨z, List.mem_cons_self, fun w hw => by
              rcases List.mem_cons.mp hw with rfl | hw
              · omega
              · have := k2 w hw; omega⟩
    obtain ⟨m2, h2, k2⟩ := ex (y :: r) (by simp)
    have e2 := ih m2 h2 k2
    rw [← e2]
    have a1 := k x List.mem_cons_self
    have a2 := k m2 (List.mem_cons_of_mem _ h2)
    rcases List.mem_cons.mp h with rfl | h
    · split <;> omega
    · have a3 := k2 m h
      split <;> omega
end
end DN
namespace DN
open PySem PySem.Spec L2
open PyProof.Rows hiding St

/-! ### the library's words for tuples -/
section
variable {prog : Program} {w : World} {A : Around} {E : Value → Shared → Prop} {s : Shared} {l : Addr} {its : List Value} {ns : List Int} {Q : Value → Shared → Prop}
theorem sumT_raw (hh : A.handled = none) (hl : IsTup s.heap l its.toArray) (hi : IntsAre its ns)
    (h : ∀ h' tk t', (∀ b o, s.heap.get? b = some o → h'.get? b = some o) → Q (.int ns.sum t') { s with heap := h', toks := tk }) : wpAny (model prog w) A (call (.builtin "sum") [.ref l]) Q E s := by
  obtain ⟨xs, e⟩ := hi.allInts.items
  have hn : numsOf (intItems xs).toList = ns := by rw [← e]; exact hi.numsOf
  rw [nums_intItems] at hn
  rw [e] at hl
  have hl' : s.heap.IsTuple l (intItems xs) := hl
  have hlt : l < s.heap.objs.size := by obtain ⟨_, e, _⟩ := hl'; exact Heap.lt_size e
  refine call_sum_walkG (wpAny_pyIter_tuple hl' ?_)
  refine ⟨_, _, _, _, _, _, numAt xs, rfl, Walks.tuple (A := A.in1) hh _ l (Nat.ne_of_lt hlt) (intItems xs), ⟨⟨_, Heap.get?_push_size _ rfl, rfl, rfl⟩, hl'.push _⟩, (fun b hb => ?_), (fun _ _ => intItems_at), fun h' tk t' hk => ?_⟩
  · show b < (s.heap.push _).objs.size
    rw [Heap.size_push]
    rcases List.mem_cons.mp hb with rfl | hb
    · exact Nat.lt_succ_self _
    · rw [List.mem_singleton.mp hb]; exact Nat.lt_succ_of_lt hlt
  · have hk' : ∀ b o, s.heap.get? b = some o → h'.get? b = some o := fun b o e => hk b o (fun z => by
      rw [List.mem_singleton.mp z] at e
      exact absurd (Heap.lt_size e) (Nat.lt_irrefl _)) (Heap.get?_push_of_some _ e)
    have := h h' tk t' hk'
    rw [← hn] at this
    have e2 : preSum (numAt xs) (intItems xs).size = (xs.toList.map (·.1)).sum := by
      rw [preSum_eq, List.take_of_length_le (by simp [intItems])]
    rw [e2]; exact this

theorem fpt {h : Heap} {l : Addr} {o : Obj} (hlt : l < h.objs.size) : ∀ b ∈ [h.objs.size, l], b < (h.push o).objs.size := fun b hb => by
  rw [Heap.size_push]
  rcases List.mem_cons.mp hb with rfl | hb
  · exact Nat.lt_succ_self _
  · rw [List.mem_singleton.mp hb]; exact Nat.lt_succ_of_lt hlt
theorem keptT {h h' : Heap} {o : Obj} (hk : ∀ b u, b ∉ [h.objs.size] → (h.push o).get? b = some u → h'.get? b = some u) : ∀ b u, h.get? b = some u → h'.get? b = some u := fun b u e => hk b u (fun z => by
  rw [List.mem_singleton.mp z] at e
  exact absurd (Heap.lt_size e) (Nat.lt_irrefl _)) (Heap.get?_push_of_some _ e)
theorem maxT_raw (hh : A.handled = none) (hl : IsTup s.heap l its.toArray) (hi : IntsAre its ns) (hne : 0 < ns.length)
    (h : ∀ h' tk M t', (∀ b o, s.heap.get? b = some o → h'.get? b = some o) → M ∈ ns → (∀ a, a ∈ ns → a ≤ M) → Q (.int M t') { s with heap := h', toks := tk }) : wpAny (model prog w) A (call (.builtin "max") [.ref l]) Q E s := by
  obtain ⟨xs, e⟩ := hi.allInts.items
  have hn : numsOf (intItems xs).toList = ns := by rw [← e]; exact hi.numsOf
  rw [nums_intItems] at hn
  subst hn
  rw [e] at hl
  have hl' : s.heap.IsTuple l (intItems xs) := hl
  have hlt : l < s.heap.objs.size := by obtain ⟨_, e, _⟩ := hl'; exact Heap.lt_size e
  have hsz : 0 < xs.size := by simpa using hne
  refine call_max_walk (wpAny_pyIter_tuple hl' ?_)
  refine ⟨_, _, _, _, _, _, _, rfl, Walks.tuple (A := A.in1) hh _ l (Nat.ne_of_lt hlt) (intItems xs), ⟨⟨_, Heap.get?_push_size _ rfl, rfl, rfl⟩, hl'.push _⟩, fpt hlt, by simpa [intItems] using hsz, CmpOf.ints_gt (numAt xs) (fun _ _ => intItems_at), fun v h' tk hP hk => ?_⟩
  have hP : (intItems xs)[argBest (fun i j => decide (numAt xs i > numAt xs j)) (xs.size - 1)]? = some v := by simpa [intItems] using hP
  obtain ⟨t, rfl⟩ := intItems_at hP
  obtain ⟨h1, h2⟩ := argBest_gt (numAt xs) (xs.size - 1)
  refine h h' tk _ t (keptT hk) ?_ fun a ha => ?_
  · rw [numAt_eq]; exact PySem.getD_mem (by rw [List.length_map, Array.length_toList]; omega)
  · obtain ⟨j, hj, rfl⟩ := mem_getD ha
    rw [List.length_map, Array.length_toList] at hj
    rw [← numAt_eq]; exact h2 j (by omega)
theorem minT_raw (hh : A.handled = none) (hl : IsTup s.heap l its.toArray) (hi : IntsAre its ns) (hne : 0 < ns.length)
    (h : ∀ h' tk M t', (∀ b o, s.heap.get? b = some o → h'.get? b = some o) → M ∈ ns → (∀ a, a ∈ ns → M ≤ a) → Q (.int M t') { s with heap := h', toks := tk }) : wpAny (model prog w) A (call (.builtin "min") [.ref l]) Q E s := by
  obtain ⟨xs, e⟩ := hi.allInts.items
  have hn : numsOf (intItems xs).toList = ns := by rw [← e]; exact hi.numsOf
  rw [nums_intItems] at hn
  subst hn
  rw [e] at hl
  have hl' : s.heap.IsTuple l (intItems xs) := hl
  have hlt : l < s.heap.objs.size := by obtain ⟨_, e, _⟩ := hl'; exact Heap.lt_size e
  have hsz : 0 < xs.size := by simpa using hne
  refine call_min_walk (wpAny_pyIter_tuple hl' ?_)
  refine ⟨_, _, _, _, _, _, _, rfl, Walks.tuple (A := A.in1) hh _ l (Nat.ne_of_lt hlt) (intItems xs), ⟨⟨_, Heap.get?_push_size _ rfl, rfl, rfl⟩, hl'.push _⟩, fpt hlt, by simpa [intItems] using hsz, CmpOf.ints_lt (numAt xs) (fun _ _ => intItems_at), fun v h' tk hP hk => ?_⟩
  have hP : (intItems xs)[argBest (fun i j => decide (numAt xs i < numAt xs j)) (xs.size - 1)]? = some v := by simpa [intItems] using hP
  obtain ⟨t, rfl⟩ := intItems_at hP
  obtain ⟨h1, h2⟩ := argBest_lt (numAt xs) (xs.size - 1)
  refine h h' tk _ t (keptT hk) ?_ fun a ha => ?_
  · rw [numAt_eq]; exact PySem.getD_mem (by rw [List.length_map, Array.length_toList]; omega)
  · obtain ⟨j, hj, rfl⟩ := mem_getD ha
    rw [List.length_map, Array.length_toList] at hj
    rw [← numAt_eq]; exact h2 j (by omega)
theorem collect_tup {vs : List Value} {Q : List Value → Shared → Prop} (hl : IsTup s.heap l vs.toArray)
    (h : Q vs { s with heap := (s.heap.push (seqObj "list" #[] 0)).update s.heap.objs.size (Obj.mapSeq (· ++ vs.toArray)) }) (hsz : vs.length ≤ sizeLine) :
    wpAny (model prog w) A (collect (.ref l)) Q E s := by
  obtain ⟨o, ho, hc, n, hd⟩ := id hl
  unfold collect
  refine wpAny_bind (wpAny_runValue (codeAny_builtin entry_proto_collect' ?_))
  show wpAny _ _ (do again (.builtin "list.__iadd__" ⟨[← newList [], .ref l], []⟩)) _ _ s
  refine wpAny_bind (wpAny_newList (wpAny_pure ⟨Code.quiet_builtin _ (by decide +kernel), codeAny_builtin entry_list_iadd' ?_⟩))
  show wpAny _ _ (Builtin.List.listExtendWith (.ref s.heap.objs.size) (.ref l) (.ref s.heap.objs.size)) _ _ { s with heap := s.heap.push (seqObj "list" #[] 0) }
  unfold Builtin.List.listExtendWith
  have ho' : (s.heap.push (seqObj "list" #[] 0)).get? l = some o := Heap.get?_push_of_some _ ho
  refine wpAny_bind (wpAny_typeOf (T := "tuple") ⟨o, ho', hc⟩ ?_)
  have ht : (Value.type "tuple" == Value.type "tuple") = true := by rfl
  rw [if_pos (by rw [ht]; simp)]
  refine wpAny_bind (listItems_at ho' hd ?_)
  refine wpAny_bind (listItems_at (xs := #[]) (n := 0) (Heap.get?_push_size _ rfl) rfl ?_)
  rw [if_neg (by simp)]
  refine wpAny_bind (listUpdate_at (xs := #[]) (n := 0) (Heap.get?_push_size _ rfl) rfl ?_ (Nat.zero_le _) (by show (#[] ++ vs.toArray).size ≤ sizeLine + 1; simp only [Array.size_append, List.size_toArray, List.length_nil]; omega))
  refine wpAny_pure ?_
  show wpAny (model prog w) A (do
      let o ← load s.heap.objs.size
      match o.data with
      | .seq xs _ => pure xs.toList
      | _ => unsupported "internal:collect") Q E { s with heap := (s.heap.push (seqObj "list" #[] 0)).update s.heap.objs.size (Obj.mapSeq (· ++ vs.toArray)) }
  refine wpAny_bind (wpAny_load (get?_update_seq (Heap.get?_push_size _ rfl) _) ?_)
  show wpAny _ _ (pure ((#[] : Array Value) ++ vs.toArray).toList) Q E _
  rw [show ((#[] : Array Value) ++ vs.toArray).toList = vs by simp]
  exact wpAny_pure h
theorem sortedT_ints {vs : List Value} (hl : IsTup s.heap l vs.toArray) (hI : IntsAre vs ns) (hL : vs.length ≤ sizeLine)
    (h : ∀ (out : Array Value) (ns' : List Int), IntsAre out.toList ns' → ns'.Perm ns → ns'.Pairwise (· ≤ ·) → Q (.ref (s.heap.objs.size + 1)) { s with heap := sortedAll s.heap vs out }) :
    wpAny (model prog w) A (call (.builtin "sorted") [.ref l]) Q E s := by
  refine Calls.call_function_entry kind_sorted plain_sorted entry_sorted (args_sorted1 _) ?_
  unfold Builtin.«sorted»
  refine wpAny_bind (m := checkCount "sorted" 1 1 _) (wpAny_pure ?_)
  refine wpAny_bind (collect_tup hl ?_ hL)
  refine wpAny_bind (wpAny_newList ?_ hL)
  have hsz : ((s.heap.push (seqObj "list" #[] 0)).update s.heap.objs.size (Obj.mapSeq (· ++ vs.toArray))).objs.size = s.heap.objs.size + 1 := by
    rw [Heap.size_update, size_push']
  have hoL : (((s.heap.push (seqObj "list" #[] 0)).update s.heap.objs.size (Obj.mapSeq (· ++ vs.toArray))).push (seqObj "list" vs.toArray 0)).get? (s.heap.objs.size + 1) = some (seqObj "list" vs.toArray 0) := by
    rw [← hsz]; exact Heap.get?_push_size _ rfl
  show wpAny _ _ _ _ _ { s with heap := ((s.heap.push (seqObj "list" #[] 0)).update s.heap.objs.size (Obj.mapSeq (· ++ vs.toArray))).push (seqObj "list" vs.toArray 0) }
  rw [hsz]
  refine wpAny_bind (wpAny_holding (wpAny_call_entry slot_list_sort ⟨_, hoL, rfl⟩ entry_list_sort (list_sort_treeAny hoL hI hL fun out ns' a1 a2 a3 => ⟨_, rfl, ?_⟩) (args_list_sort _)))
  exact wpAny_pure ⟨_, rfl, h out ns' a1 a2 a3⟩
end

/-! ### as calls of the layer -/
section
variable {X : Cx}
theorem cr_sumT (hc : X.calm = true) : CallR X (.builtin "sum") (fun vs H Q => ∃ (a : Addr) (ns : List Int), vs = [V.ref a] ∧ SqT X.K H a (ns.map V.int) ∧ Q (.int ns.sum) H) := by
  intro pins s σ H vs us Q I r h
  obtain ⟨a, ns, rfl, hs, q⟩ := h
  obtain ⟨its, rv, hl, _⟩ := I.tuple hs
  rw [Vals.ref1 r]
  exact sumT_raw (I.ok.hd hc) hl rv.ints fun h' tk t' hk => ⟨.int _, H, I.kept hk, ⟨_, rfl⟩, q⟩
theorem cr_maxT (hc : X.calm = true) : CallR X (.builtin "max") (fun vs H Q => ∃ (a : Addr) (ns : List Int), vs = [V.ref a] ∧ SqT X.K H a (ns.map V.int) ∧ 0 < ns.length ∧ ∀ m, m ∈ ns → (∀ y, y ∈ ns → y ≤ m) → Q (.int m) H) := by
  intro pins s σ H vs us Q I r h
  obtain ⟨a, ns, rfl, hs, hne, q⟩ := h
  obtain ⟨its, rv, hl, _⟩ := I.tuple hs
  rw [Vals.ref1 r]
  exact maxT_raw (I.ok.hd hc) hl rv.ints hne fun h' tk m t' hk h1 h2 => ⟨.int _, H, I.kept hk, ⟨_, rfl⟩, q m h1 h2⟩
theorem cr_minT (hc : X.calm = true) : CallR X (.builtin "min") (fun vs H Q => ∃ (a : Addr) (ns : List Int), vs = [V.ref a] ∧ SqT X.K H a (ns.map V.int) ∧ 0 < ns.length ∧ ∀ m, m ∈ ns → (∀ y, y ∈ ns → m ≤ y) → Q (.int m) H) := by
  intro pins s σ H vs us Q I r h
  obtain ⟨a, ns, rfl, hs, hne, q⟩ := h
  obtain ⟨its, rv, hl, _⟩ := I.tuple hs
  rw [Vals.ref1 r]
  exact minT_raw (I.ok.hd hc) hl rv.ints hne fun h' tk m t' hk h1 h2 => ⟨.int _, H, I.kept hk, ⟨_, rfl⟩, q m h1 h2⟩
theorem cr_sortedT : CallR X (.builtin "sorted") (fun vs H Q => ∃ (a : Addr) (ns : List Int), vs = [V.ref a] ∧ SqT X.K H a (ns.map V.int) ∧ ∀ (ns' : List Int) (p : Addr), ns'.Perm ns → ns'.Pairwise (· ≤ ·) → H p = none → Q (.ref p) (upd H p (.lst (ns'.map V.int)))) := by
  intro pins s σ H vs us Q I r h
  obtain ⟨a, ns, rfl, hs, q⟩ := h
  obtain ⟨its, rv, hl, hz⟩ := I.tuple hs
  rw [Vals.ref1 r]
  have hi := rv.ints
  have hlv := rv.length
  rw [List.length_map] at hlv hz
  refine sortedT_ints hl hi (by rw [← hlv]; exact hz) fun out ns' h1 h2 h3 => ?_
  obtain ⟨ep, he'⟩ := PyProof.Rows.sortedAll_at s.heap its out
  have hlen : (ns'.map V.int).length ≤ sizeLine := by rw [List.length_map, h2.length_eq]; exact hz
  exact ⟨.ref _, upd H (s.heap.objs.size + 1) (.lst (ns'.map V.int)), I.laid (t' := s.toks) (fun _ _ => PyProof.Rows.sortedAll_old) (Nat.le_succ _) ⟨hlen, out.toList, ep, vals_of_ints h1, he'⟩, rfl, q ns' _ h2 h3 (I.hok.fresh (Nat.le_succ _))⟩
end
end DN
namespace DN
open PySem PySem.Spec L2
open PyProof.Rows hiding St
variable {Φ : Type}

/-! ### a sort of one's own -/
section
variable {α : Type} (lt : α → α → Bool)
def insB (x : α) : List α → List α
  | [] => [x]
  | y :: r => if lt y x = true then y :: insB x r else x :: y :: r
def srtB : List α → List α
  | [] => []
  | x :: r => insB lt x (srtB r)
theorem insB_perm (x : α) : ∀ l : List α, (insB lt x l).Perm (x :: l)
  | [] => .refl _
  | y :: r => by
    unfold insB
    split
    · exact ((insB_perm x r).cons y).trans (List.Perm.swap x y r)
    · exact .refl _
theorem srtB_perm : ∀ l : List α, (srtB lt l).Perm l
  | [] => .refl _
  | x :: r => (insB_perm lt x (srtB lt r)).trans ((srtB_perm r).cons x)
/-- lt orders totally -/
structure Tot : Prop where
  asym : ∀ x y, lt x y = true → lt y x = false
  trans : ∀ x y z, lt x y = true → lt y z = true → lt x z = true
  tot : ∀ x y, lt x y = false → lt y x = false → x = y
variable {lt}
theorem insB_srt (T : Tot lt) (x : α) : ∀ l : List α, l.Pairwise (fun a b => lt b a = false) → (insB lt x l).Pairwise (fun a b => lt b a = false)
  | [], _ => by simp [insB]
  | y :: r, h => by
    obtain ⟨h1, h2⟩ := List.pairwise_cons.mp h
    unfold insB
    split
    · rename_i hl
      refine List.pairwise_cons.mpr ⟨fun b hb => ?_, insB_srt T x r h2⟩
      rcases List.mem_cons.mp ((insB_perm lt x r).mem_iff.mp hb) with rfl | hb
      · exact T.asym _ _ hl
      · exact h1 b hb
    · rename_i hl
      have hl : lt y x = false := by simpa using hl
      refine List.pairwise_cons.mpr ⟨fun b hb => ?_, h⟩
      rcases List.mem_cons.mp hb with rfl | hb
      · exact hl
      · cases e : lt b x with
        | false => rfl
        | true =>
          have e2 := h1 b hb
          cases e3 : lt x y with
          | true => rw [T.trans _ _ _ e e3] at e2; cases e2
          | false =>
            have := T.tot _ _ e3 hl
            subst this
            rw [e] at e2; cases e2
theorem srtB_srt (T : Tot lt) : ∀ l : List α, (srtB lt l).Pairwise (fun a b => lt b a = false)
  | [] => .nil
  | x :: r => insB_srt T x _ (srtB_srt T r)
theorem srt_uniq (T : Tot lt) : ∀ {l m : List α}, l.Perm m → l.Pairwise (fun a b => lt b a = false) → m.Pairwise (fun a b => lt b a = false) → l = m
  | [], m, p, _, _ => (List.Perm.nil_eq p)
  | x :: l, [], p, _, _ => by have := p.length_eq; simp at this
  | x :: l, y :: m, p, h, k => by
    obtain ⟨h1, h2⟩ := List.pairwise_cons.mp h
    obtain ⟨k1, k2⟩ := List.pairwise_cons.mp k
    have e : x = y := by
      by_cases q : x = y
      · exact q
      · have m1 : x ∈ m := by
          rcases List.mem_cons.mp (p.mem_iff.mp List.mem_cons_self) with z | z
          · exact absurd z q
          · exact z
        have m2 : y ∈ l := by
          rcases List.mem_cons.mp (p.mem_iff.mpr List.mem_cons_self) with z | z
          · exact absurd z.symm q
          · exact z
        exact T.tot _ _ (k1 x m1) (h1 y m2)
    subst e
    rw [srt_uniq T (List.Perm.cons_inv p) h2 k2]
theorem srtB_is (T : Tot lt) {l m : List α} (p : m.Perm l) (h : m.Pairwise (fun a b => lt b a = false)) : m = srtB lt l := srt_uniq T (p.trans (srtB_perm lt l).symm) h (srtB_srt T l)
end
def ltI (x y : Int) : Bool := decide (x < y)
theorem totI : Tot ltI := ⟨fun x y h => by simp [ltI] at *; omega, fun x y z h k => by simp [ltI] at *; omega, fun x y h k => by simp [ltI] at *; omega⟩
def srtI (l : List Int) : List Int := srtB ltI l
theorem srtI_is {l m : List Int} (p : m.Perm l) (h : m.Pairwise (· ≤ ·)) : m = srtI l := srtB_is totI p (h.imp fun {a b} q => by simp [ltI]; omega)
def ltPP (x y : Int × Int) : Bool := decide (x.1 < y.1) || (decide (x.1 = y.1) && decide (x.2 < y.2))
theorem totPP : Tot ltPP := by
  refine ⟨fun x y h => ?_, fun x y z h k => ?_, fun x y h k => ?_⟩
  · obtain ⟨x1, x2⟩ := x; obtain ⟨y1, y2⟩ := y
    simp [ltPP] at *; omega
  · obtain ⟨x1, x2⟩ := x; obtain ⟨y1, y2⟩ := y; obtain ⟨z1, z2⟩ := z
    simp [ltPP] at *; omega
  · obtain ⟨x1, x2⟩ := x; obtain ⟨y1, y2⟩ := y
    simp [ltPP] at *; constructor <;> omega
def srtP (l : List (Int × Int)) : List (Int × Int) := srtB ltPP l

section
variable {X : Cx} {G : Ctx Φ} {W : WX} {a b c e : Expr} {es : List Expr} {pos : Pos} {m ma mb : M Φ R} {t : M Φ (List D)}

/-! ### sum, max, min, sorted, all -/
def dSum : List D → M Φ R
  | [.lst xs] => match asInts xs with
    | some ns => mP (.val (.int ns.sum))
    | none => mS
  | [.tup xs] => match asInts xs with
    | some ns => mP (.val (.int ns.sum))
    | none => mS
  | _ => mS
def rSumA (K : PySem.W.Frag) : List V → Hp → VK → Prop := fun vs H Q => rSum K vs H Q ∨ (fun vs H Q => ∃ (a : Addr) (ns : List Int), vs = [V.ref a] ∧ SqT K H a (ns.map V.int) ∧ Q (V.int ns.sum) H) vs H Q
theorem RD.lints {F : List Addr} {H : Hp} {v : V} {xs : List D} {ns : List Int} (h : RD G F H v (.lst xs)) (e : asInts xs = some ns) : ∃ a, v = .ref a ∧ H a = some (.lst (ns.map V.int)) := by
  cases h with
  | lst h1 h2 =>
    rw [asInts_some e] at h2
    rw [h2.ints] at h1
    exact ⟨_, rfl, h1⟩
theorem RD.tints {F : List Addr} {H : Hp} {v : V} {xs : List D} {ns : List Int} (h : RD G F H v (.tup xs)) (e : asInts xs = some ns) : ∃ a, v = .ref a ∧ H a = some (.tup (ns.map V.int)) := by
  cases h with
  | tup h1 h2 =>
    rw [asInts_some e] at h2
    rw [h2.ints] at h1
    exact ⟨_, rfl, h1⟩
theorem RDs.one {F : List Addr} {H : Hp} {vs : List V} {d : D} (h : RDs G F H vs [d]) : ∃ v, vs = [v] ∧ RD G F H v d := by
  cases h with
  | cons h1 h2 => cases h2; exact ⟨_, rfl, h1⟩
theorem RDs.two {F : List Addr} {H : Hp} {vs : List V} {d e : D} (h : RDs G F H vs [d, e]) : ∃ v w, vs = [v, w] ∧ RD G F H v d ∧ RD G F H w e := by
  cases h with
  | cons h1 h2 =>
    obtain ⟨w, rfl, h3⟩ := h2.one
    exact ⟨_, _, rfl, h1, h3⟩
theorem den_sum (K : PySem.W.Frag) : CallDen G W (rSumA K) dSum := by
  intro ρ φ F O σ H vs ds Q r hv g
  unfold dSum at g
  split at g
  · rename_i xs
    cases e : asInts xs with
    | none => rw [e] at g; exact g.elim
    | some ns =>
      rw [e] at g
      obtain ⟨v, rfl, h1⟩ := hv.one
      obtain ⟨p, rfl, h2⟩ := h1.lints e
      exact .inl ⟨_, _, rfl, SqL.of (hide_some h2).2, g.ok r _ (.int _)⟩
  · rename_i xs
    cases e : asInts xs with
    | none => rw [e] at g; exact g.elim
    | some ns =>
      rw [e] at g
      obtain ⟨v, rfl, h1⟩ := hv.one
      obtain ⟨p, rfl, h2⟩ := h1.tints e
      exact .inr ⟨_, _, rfl, SqT.of (hide_some h2).2, g.ok r _ (.int _)⟩
  · exact g.elim
theorem q_sum {p : Pos} (hc : X.calm = true) (hg : Gl X "sum") (hm : X.mg "sum" = none) (ha : PA X [a] (dA G W t)) (he : starEach [a] X.env = [(false, eval a X.env)] := by rfl) : PE X (.Call (.Name "sum" p) [a] [] pos) (dE G W (mB t dSum)) :=
  q_callB ((cr_sum hc).or (cr_sumT hc)) (den_sum _) hg hm (by decide +kernel) ha (he := he) (hpl := rfl)
def dMax : List D → M Φ R
  | [.lst xs] => match asInts xs with
    | some ns => if ns = [] then mS else mP (.val (.int (maxI ns)))
    | none => mS
  | [.tup xs] => match asInts xs with
    | some ns => if ns = [] then mS else mP (.val (.int (maxI ns)))
    | none => mS
  | [.int i, .int j] => mP (.val (.int (if j > i then j else i)))
  | _ => mS
def dMin : List D → M Φ R
  | [.lst xs] => match asInts xs with
    | some ns => if ns = [] then mS else mP (.val (.int (minI ns)))
    | none => mS
  | [.tup xs] => match asInts xs with
    | some ns => if ns = [] then mS else mP (.val (.int (minI ns)))
    | none => mS
  | [.int i, .int j] => mP (.val (.int (if j < i then j else i)))
  | _ => mS
def rMaxA (K : PySem.W.Frag) : List V → Hp → VK → Prop := fun vs H Q => rMax K vs H Q ∨ (fun vs H Q => (fun vs H Q => ∃ (a : Addr) (ns : List Int), vs = [V.ref a] ∧ SqT K H a (ns.map V.int) ∧ 0 < ns.length ∧ ∀ m, m ∈ ns → (∀ y, y ∈ ns → y ≤ m) → Q (V.int m) H) vs H Q ∨
  (fun xs H Q => ∃ i j, xs = [V.int i, V.int j] ∧ Q (V.int (if j > i then j else i)) H) vs H Q) vs H Q
def rMinA (K : PySem.W.Frag) : List V → Hp → VK → Prop := fun vs H Q => rMin K vs H Q ∨ (fun vs H Q => (fun vs H Q => ∃ (a : Addr) (ns : List Int), vs = [V.ref a] ∧ SqT K H a (ns.map V.int) ∧ 0 < ns.length ∧ ∀ m, m ∈ ns → (∀ y, y ∈ ns → m ≤ y) → Q (V.int m) H) vs H Q ∨
  (fun xs H Q => ∃ i j, xs = [V.int i, V.int j] ∧ Q (V.int (if j < i then j else i)) H) vs H Q) vs H Q
theorem den_max (K : PySem.W.Frag) : CallDen G W (rMaxA K) dMax := by
  intro ρ φ F O σ H vs ds Q r hv g
  unfold dMax at g
  split at g
  · rename_i xs
    cases e : asInts xs with
    | none => rw [e] at g; exact g.elim
    | some ns =>
      rw [e] at g
      dsimp only at g
      split at g
      · exact g.elim
      · rename_i hn
        obtain ⟨v, rfl, h1⟩ := hv.one
        obtain ⟨p, rfl, h2⟩ := h1.lints e
        refine .inl ⟨_, _, rfl, SqL.of (hide_some h2).2, List.length_pos_iff.mpr hn, fun m k1 k2 => ?_⟩
        rw [maxI_is k1 k2]
        exact g.ok r _ (.int _)
  · rename_i xs
    cases e : asInts xs with
    | none => rw [e] at g; exact g.elim
    | some ns =>
      rw [e] at g
      dsimp only at g
      split at g
      · exact g.elim
      · rename_i hn
        obtain ⟨v, rfl, h1⟩ := hv.one
        obtain ⟨p, rfl, h2⟩ := h1.tints e
        refine .inr (.inl ⟨_, _, rfl, SqT.of (hide_some h2).2, List.length_pos_iff.mpr hn, fun m k1 k2 => ?_⟩)
        rw [maxI_is k1 k2]
        exact g.ok r _ (.int _)
  · obtain ⟨v, w, rfl, h1, h2⟩ := hv.two
    cases h1; cases h2
    exact .inr (.inr ⟨_, _, rfl, g.ok r _ (.int _)⟩)
  · exact g.elim
theorem den_min (K : PySem.W.Frag) : CallDen G W (rMinA K) dMin := by
  intro ρ φ F O σ H vs ds Q r hv g
  unfold dMin at g
  split at g
  · rename_i xs
    cases e : asInts xs with
    | none => rw [e] at g; exact g.elim
    | some ns =>
      rw [e] at g
      dsimp only at g
      split at g
      · exact g.elim
      · rename_i hn
        obtain ⟨v, rfl, h1⟩ := hv.one
        obtain ⟨p, rfl, h2⟩ := h1.lints e
        refine .inl ⟨_, _, rfl, SqL.of (hide_some h2).2, List.length_pos_iff.mpr hn, fun m k1 k2 => ?_⟩
        rw [minI_is k1 k2]
        exact g.ok r _ (.int _)
  · rename_i xs
    cases e : asInts xs with
    | none => rw [e] at g; exact g.elim
    | some ns =>
      rw [e] at g
      dsimp only at g
      split at g
      · exact g.elim
      · rename_i hn
        obtain ⟨v, rfl, h1⟩ := hv.one
        obtain ⟨p, rfl, h2⟩ := h1.tints e
        refine .inr (.inl ⟨_, _, rfl, SqT.of (hide_some h2).2, List.length_pos_iff.mpr hn, fun m k1 k2 => ?_⟩)
        rw [minI_is k1 k2]
        exact g.ok r _ (.int _)
  · obtain ⟨v, w, rfl, h1, h2⟩ := hv.two
    cases h1; cases h2
    exact .inr (.inr ⟨_, _, rfl, g.ok r _ (.int _)⟩)
  · exact g.elim
theorem q_max {p : Pos} (hc : X.calm = true) (hg : Gl X "max") (hm : X.mg "max" = none) (ha : PA X (e :: es) (dA G W t)) (he : starEach (e :: es) X.env = (false, eval e X.env) :: starEach es X.env := by rfl) (hpl : (backTo pos (starEach es X.env)).any (·.1) = false := by rfl) :
    PE X (.Call (.Name "max" p) (e :: es) [] pos) (dE G W (mB t dMax)) := q_callB ((cr_max hc).or ((cr_maxT hc).or (call_max2 hc))) (den_max _) hg hm (by decide +kernel) ha (he := he) (hpl := hpl)
theorem q_min {p : Pos} (hc : X.calm = true) (hg : Gl X "min") (hm : X.mg "min" = none) (ha : PA X (e :: es) (dA G W t)) (he : starEach (e :: es) X.env = (false, eval e X.env) :: starEach es X.env := by rfl) (hpl : (backTo pos (starEach es X.env)).any (·.1) = false := by rfl) :
    PE X (.Call (.Name "min" p) (e :: es) [] pos) (dE G W (mB t dMin)) := q_callB ((cr_min hc).or ((cr_minT hc).or (call_min2 hc))) (den_min _) hg hm (by decide +kernel) ha (he := he) (hpl := hpl)
/-- bools of a list -/
def asBls : List D → Option (List Bool)
  | [] => some []
  | .bl i :: r => (asBls r).map (i :: ·)
  | _ :: _ => none
theorem asBls_some : ∀ {ds : List D} {ns : List Bool}, asBls ds = some ns → ds = ns.map D.bl
  | [], ns, h => by cases h; rfl
  | .bl i :: r, ns, h => by
    unfold asBls at h
    obtain ⟨ms, e, rfl⟩ := Option.map_eq_some_iff.mp h
    rw [asBls_some e]; rfl
  | .non :: _, _, h => by cases h
  | .int _ :: _, _, h => by cases h
  | .str _ :: _, _, h => by cases h
  | .tup _ :: _, _, h => by cases h
  | .lst _ :: _, _, h => by cases h
  | .obj _ _ :: _, _, h => by cases h
  | .fd :: _, _, h => by cases h
  | .scr _ :: _, _, h => by cases h
theorem asBls_of : ∀ (ns : List Bool), asBls (ns.map D.bl) = some ns
  | [] => rfl
  | n :: r => by
    show (asBls (r.map D.bl)).map (n :: ·) = _
    rw [asBls_of r]; rfl
theorem RDs.bls {F : List Addr} {H : Hp} : ∀ {vs : List V} {ns : List Bool}, RDs G F H vs (ns.map D.bl) → vs = ns.map V.bl
  | _, [], h => by cases h; rfl
  | _, n :: ns, h => by
    cases h with
    | cons h1 h2 => cases h1; rw [RDs.bls h2]; rfl
def dAll : List D → M Φ R
  | [.lst xs] => match asBls xs with
    | some bs => mP (.val (.bl (bs.all id)))
    | none => mS
  | _ => mS
def dAny : List D → M Φ R
  | [.lst xs] => match asBls xs with
    | some bs => mP (.val (.bl (bs.any id)))
    | none => mS
  | _ => mS
theorem den_all (K : PySem.W.Frag) : CallDen G W (fun vs H Q => ∃ (a : Addr) (bs : List Bool), vs = [V.ref a] ∧ SqL K H a (bs.map V.bl) ∧ Q (V.bl (bs.all id)) H) dAll := by
  intro ρ φ F O σ H vs ds Q r hv g
  unfold dAll at g
  split at g
  · rename_i xs
    cases e : asBls xs with
    | none => rw [e] at g; exact g.elim
    | some ns =>
      rw [e] at g
      obtain ⟨v, rfl, h1⟩ := hv.one
      cases h1 with
      | lst k1 k2 =>
        rw [asBls_some e] at k2
        rw [k2.bls] at k1
        exact ⟨_, _, rfl, SqL.of (hide_some k1).2, g.ok r _ (.bl _)⟩
  · exact g.elim
theorem den_any (K : PySem.W.Frag) : CallDen G W (fun vs H Q => ∃ (a : Addr) (bs : List Bool), vs = [V.ref a] ∧ SqL K H a (bs.map V.bl) ∧ Q (V.bl (bs.any id)) H) dAny := by
  intro ρ φ F O σ H vs ds Q r hv g
  unfold dAny at g
  split at g
  · rename_i xs
    cases e : asBls xs with
    | none => rw [e] at g; exact g.elim
    | some ns =>
      rw [e] at g
      obtain ⟨v, rfl, h1⟩ := hv.one
      cases h1 with
      | lst k1 k2 =>
        rw [asBls_some e] at k2
        rw [k2.bls] at k1
        exact ⟨_, _, rfl, SqL.of (hide_some k1).2, g.ok r _ (.bl _)⟩
  · exact g.elim
theorem q_all {p : Pos} (hc : X.calm = true) (hg : Gl X "all") (hm : X.mg "all" = none) (ha : PA X [a] (dA G W t)) (he : starEach [a] X.env = [(false, eval a X.env)] := by rfl) : PE X (.Call (.Name "all" p) [a] [] pos) (dE G W (mB t dAll)) :=
  q_callB (cr_all hc) (den_all _) hg hm (by decide +kernel) ha (he := he) (hpl := rfl)
theorem q_any {p : Pos} (hc : X.calm = true) (hg : Gl X "any") (hm : X.mg "any" = none) (ha : PA X [a] (dA G W t)) (he : starEach [a] X.env = [(false, eval a X.env)] := by rfl) : PE X (.Call (.Name "any" p) [a] [] pos) (dE G W (mB t dAny)) :=
  q_callB (cr_any hc) (den_any _) hg hm (by decide +kernel) ha (he := he) (hpl := rfl)

/-- sorted: ints of a list or a tuple, pairs of ints of a list -/
def asPrs : List D → Option (List (Int × Int))
  | [] => some []
  | .tup [.int i, .int j] :: r => (asPrs r).map ((i, j) :: ·)
  | _ :: _ => none
def dPr (p : Int × Int) : D := .tup [.int p.1, .int p.2]
theorem asPrs_some : ∀ {ds : List D} {ps : List (Int × Int)}, asPrs ds = some ps → ds = ps.map dPr
  | [], ps, h => by cases h; rfl
  | d :: r, ps, h => by
    unfold asPrs at h
    split at h
    · rename_i e; cases e
    · rename_i i j r' e
      cases e
      obtain ⟨ms, e, rfl⟩ := Option.map_eq_some_iff.mp h
      rw [asPrs_some e]; rfl
    · cases h
theorem asPrs_of : ∀ (ps : List (Int × Int)), asPrs (ps.map dPr) = some ps
  | [] => rfl
  | n :: r => by
    show (asPrs (r.map dPr)).map ((n.1, n.2) :: ·) = _
    rw [asPrs_of r]; rfl
def dSorted : List D → M Φ R
  | [.lst xs] => match asInts xs with
    | some ns => mP (.new ((srtI ns).map D.int))
    | none => match asPrs xs with
      | some ps => mP (.new ((srtP ps).map dPr))
      | none => mS
  | [.tup xs] => match asInts xs with
    | some ns => mP (.new ((srtI ns).map D.int))
    | none => mS
  | _ => mS
def rSortedA (K : PySem.W.Frag) : List V → Hp → VK → Prop := fun vs H Q => rSortedI K vs H Q ∨ (fun vs H Q => rSortedPO K vs H Q ∨ (fun vs H Q => ∃ (a : Addr) (ns : List Int), vs = [V.ref a] ∧ SqT K H a (ns.map V.int) ∧ ∀ (ns' : List Int) (p : Addr), ns'.Perm ns → ns'.Pairwise (· ≤ ·) → H p = none → Q (V.ref p) (upd H p (.lst (ns'.map V.int)))) vs H Q) vs H Q
/-- what a pair's address says -/
def kOf (H : Hp) : V → Int × Int
  | .ref t => match H t with
    | some (.tup [.int i, .int j]) => (i, j)
    | _ => (0, 0)
  | _ => (0, 0)
theorem RDs.prs {F : List Addr} {H H' : Hp} (s : Same H H') : ∀ {vs : List V} {ps : List (Int × Int)}, RDs G F H vs (ps.map dPr) → vs.map (kOf H') = ps ∧ ∀ x ∈ vs, ∃ t, x = V.ref t ∧ H' t = some (.tup [.int (kOf H' x).1, .int (kOf H' x).2]) ∧ RD G F H x (dPr (kOf H' x))
  | _, [], h => by cases h; exact ⟨rfl, fun _ z => nomatch z⟩
  | _, p :: ps, h => by
    cases h with
    | @cons v vs _ _ h1 h2 =>
      obtain ⟨e, k⟩ := RDs.prs s h2
      have h1' : RD G F H v (.tup [.int p.1, .int p.2]) := h1
      cases h1' with
      | @tup t xs _ k1 k2 =>
        have k2' : RDs G F H xs ([p.1, p.2].map D.int) := k2
        rw [k2'.ints] at k1
        have e1 : H' t = some (.tup [.int p.1, .int p.2]) := s _ _ k1
        have ek : kOf H' (.ref t) = p := by
          show (match H' t with | some (.tup [.int i, .int j]) => (i, j) | _ => (0, 0)) = p
          rw [e1]
        refine ⟨by rw [List.map_cons, ek, e], fun x hx => ?_⟩
        rcases List.mem_cons.mp hx with rfl | hx
        · rw [ek]; exact ⟨t, rfl, e1, h1⟩
        · exact k x hx
theorem RDs.of_keys {F : List Addr} {H : Hp} {k : V → Int × Int} : ∀ {ys : List V}, (∀ x ∈ ys, RD G F H x (dPr (k x))) → RDs G F H ys ((ys.map k).map dPr)
  | [], _ => .nil
  | y :: ys, h => .cons (h y List.mem_cons_self) (RDs.of_keys fun x hx => h x (List.mem_cons_of_mem _ hx))
theorem den_sorted (K : PySem.W.Frag) : CallDen G W (rSortedA K) dSorted := by
  intro ρ φ F O σ H vs ds Q r hv g
  unfold dSorted at g
  split at g
  · rename_i xs
    cases e : asInts xs with
    | some ns =>
      rw [e] at g
      obtain ⟨v, rfl, h1⟩ := hv.one
      obtain ⟨p, rfl, h2⟩ := h1.lints e
      refine .inl ⟨_, _, rfl, SqL.of (hide_some h2).2, fun ns' p hp hs hn => ?_⟩
      rw [srtI_is hp hs]
      obtain ⟨r', x', rr⟩ := r.laidNew hn (RDs.of_ints (srtI ns))
      exact g F _ _ x' r' _ rr
    | none =>
      rw [e] at g
      dsimp only at g
      cases e2 : asPrs xs with
      | none => rw [e2] at g; exact g.elim
      | some ps =>
        rw [e2] at g
        obtain ⟨v, rfl, h1⟩ := hv.one
        cases h1 with
        | @lst a ws _ k1 k2 =>
          rw [asPrs_some e2] at k2
          obtain ⟨q1, q2⟩ := k2.prs hide_un
          refine .inr (.inl ⟨a, ws, kOf H, rfl, SqL.of (hide_some k1).2, fun x hx => ?_, fun ys p hs hb hn => ?_⟩)
          · obtain ⟨t, e1, e2, _⟩ := q2 x hx
            exact ⟨t, e1, e2⟩
          · have hp : (ys.map (kOf H)).Perm ps := by rw [← q1]; exact hb.perm.map _
            have hs' : (ys.map (kOf H)).Pairwise (fun a b => ltPP b a = false) := by
              rw [List.pairwise_map]
              refine List.Pairwise.imp (fun {x y} h => ?_) hs
              have h : SrtO.lexB (kOf H y) (kOf H x) = false := h
              have := SrtO.lexB_no.mp h
              simp [ltPP]
              omega
            have es := srtB_is totPP hp hs'
            have hd : RDs G F (hide (F ++ O) H) ys ((srtP ps).map dPr) := by
              rw [show srtP ps = ys.map (kOf H) from es.symm]
              exact RDs.of_keys fun x hx => (q2 x (hb.perm.mem_iff.mp hx)).elim fun t z => z.2.2
            obtain ⟨r', x', rr⟩ := r.laidNew hn hd
            exact g F _ _ x' r' _ rr
  · rename_i xs
    cases e : asInts xs with
    | none => rw [e] at g; exact g.elim
    | some ns =>
      rw [e] at g
      obtain ⟨v, rfl, h1⟩ := hv.one
      obtain ⟨p, rfl, h2⟩ := h1.tints e
      refine .inr (.inr ⟨_, _, rfl, SqT.of (hide_some h2).2, fun ns' p hp hs hn => ?_⟩)
      rw [srtI_is hp hs]
      obtain ⟨r', x', rr⟩ := r.laidNew hn (RDs.of_ints (srtI ns))
      exact g F _ _ x' r' _ rr
  · exact g.elim
theorem q_sorted {p : Pos} (hg : Gl X "sorted") (hm : X.mg "sorted" = none) (ha : PA X [a] (dA G W t)) (he : starEach [a] X.env = [(false, eval a X.env)] := by rfl) : PE X (.Call (.Name "sorted" p) [a] [] pos) (dE G W (mB t dSorted)) :=
  q_callB (cr_sortedI.or (cr_sortedPO.or cr_sortedT)) (den_sorted _) hg hm (by decide +kernel) ha (he := he) (hpl := rfl)
end
end DN
namespace DN
open PySem PySem.Spec L2
open PyProof.Rows hiding St
variable {Φ : Type}
section
variable {X : Cx} {G : Ctx Φ} {W : WX} {a b c e : Expr} {es : List Expr} {pos : Pos} {m ma mb : M Φ R} {t : M Φ (List D)}

/-! ### items -/
theorem RDs.atI {F : List Addr} {H : Hp} {vs : List V} {ds : List D} {i : Int} {d : D} (h : RDs G F H vs ds) (e : atI ds i = some d) : ∃ v, L2.atI vs i = some v ∧ RD G F H v d := by
  unfold L2.atI at *
  rw [← h.length] at e
  cases q : ixN vs.length i with
  | none => rw [q] at e; cases e
  | some j =>
    rw [q] at e
    obtain ⟨v, e1, e2⟩ := h.getD (i := j) e
    exact ⟨v, e1, e2⟩
def dIx : D → D → M Φ R
  | .lst xs, .int i => match atI xs i with
    | some d => mP (.val d)
    | none => mS
  | .tup xs, .int i => match atI xs i with
    | some d => mP (.val d)
    | none => mS
  | .str z, .int i => if z.length ≤ 16777216 then match atI z.cps.toList i with
    | some c => mP (.val (.str ⟨#[c]⟩))
    | none => mS else mS
  | _, _ => mS
theorem den_ix (K : PySem.W.Frag) : OpDen G W (rIx K) dIx := by
  intro ρ φ F O σ H x y d e Q r dx dy g
  unfold dIx at g
  split at g
  · rename_i xs i
    cases q : atI xs i with
    | none => rw [q] at g; exact g.elim
    | some d =>
      rw [q] at g
      cases dy
      cases dx with
      | lst h1 h2 =>
        obtain ⟨v, e1, e2⟩ := h2.atI q
        exact .inl ⟨_, _, _, _, rfl, rfl, SqL.of (hide_some h1).2, e1, g.ok r _ e2⟩
  · rename_i xs i
    cases q : atI xs i with
    | none => rw [q] at g; exact g.elim
    | some d =>
      rw [q] at g
      cases dy
      cases dx with
      | tup h1 h2 =>
        obtain ⟨v, e1, e2⟩ := h2.atI q
        exact .inr (.inl ⟨_, _, _, _, rfl, rfl, SqT.of (hide_some h1).2, e1, g.ok r _ e2⟩)
  · rename_i z i
    split at g
    · rename_i hz
      cases q : atI z.cps.toList i with
      | none => rw [q] at g; exact g.elim
      | some c =>
        rw [q] at g
        cases dy; cases dx
        exact .inr (.inr ⟨_, _, _, rfl, rfl, by rw [sizeLine_eq]; exact hz, q, g.ok r _ (.str _)⟩)
    · exact g.elim
  · exact g.elim
theorem q_ix (ha : PE X a (dE G W ma)) (hb : PE X b (dE G W mb)) (hs : PlainIx b := by exact fun _ _ => rfl) : PE X (.Subscript a b pos) (dE G W (mBin dIx ma mb)) := PE.weak (pe_ix ix_seq ha hb hs) fun _ _ _ h => dE_bin (den_ix _) h
/-- x[..], x a name: its list is not given away -/
def mIxV (i : Nat) (m : M Φ R) : M Φ R := fun ρ φ => match ρ[i]? with
  | some (.val d) => mB m (fun k => dIx d k.d) ρ φ
  | some (.own _) => mB m (fun k => fun ρ1 φ1 => match ρ1[i]?, k.d with
    | some (.own ds), .int z => (match L2.atI ds z with
      | some d => .ok (.val d) ρ1 φ1
      | none => .stuck)
    | _, _ => .stuck) ρ φ
  | _ => .stuck
theorem dE_ixV {i : Nat} {σ : St} {H : Hp} {Q : VK} {K : PySem.W.Frag} (h : dE G W (mIxV i m) σ H Q) : tOp (rIx K) (tVar i) (dE G W m) σ H Q := by
  obtain ⟨ρ, φ, F, O, r, g⟩ := h
  unfold mIxV at g
  split at g
  · rename_i d e
    obtain ⟨v, e1, e2⟩ := r.val i d e
    refine ⟨v, e1, use r (Good.mono g.bind fun k ρ1 φ1 F1 O1 H1 _ x1 _ g1 O2 w r2 x2 d2 => ?_)⟩
    have xx := x1.trans x2
    exact den_ix K _ _ _ _ _ _ _ _ _ _ _ r2 (e2.mono xx.sm xx.fe) d2 (g1.ext x2)
  · rename_i ds0 e
    obtain ⟨a, xs, e1, _⟩ := r.own i ds0 e
    refine ⟨_, e1, use r (Good.mono g.bind fun k ρ1 φ1 F1 O1 H1 _ x1 _ g1 O2 w r2 x2 d2 => ?_)⟩
    split at g1
    · rename_i ds z hs hk
      obtain ⟨a', ys, e3, _, e5, e6⟩ := r2.own i ds hs
      rw [e1] at e3; cases e3
      cases q : L2.atI ds z with
      | none => rw [q] at g1; exact g1.elim
      | some d =>
        rw [q] at g1
        rw [hk] at d2
        cases d2
        obtain ⟨v, z1, z2⟩ := e6.atI q
        exact .inl ⟨_, _, _, _, rfl, rfl, SqL.of e5, z1, (g1.ext x2).ok r2 _ z2⟩
    · exact g1.elim
  · exact g.elim
theorem q_ixv (i : Nat) {x : Str} {p : Pos} (hb : PE X b (dE G W mb)) (hN : X.N[i]? = some x := by rfl) (hv : Vis X.env.scope x := by first | exact Or.inl rfl | exact Or.inr (Or.inl rfl) | exact Or.inr (Or.inr rfl)) (hd : (x == ("__debug__" : Str)) = false := by decide)
    (hcd : (x == ("__classdict__" : Str)) = false := by decide) (hs : PlainIx b := by exact fun _ _ => rfl) : PE X (.Subscript (.Name x p) b pos) (dE G W (mIxV i mb)) :=
  PE.weak (pe_ix ix_seq (pe_var hN hv hd hcd) hb hs) fun _ _ _ h => dE_ixV h
/-- len(x), x a name -/
def mLenV (i : Nat) : M Φ R := fun ρ φ => match ρ[i]? with
  | some (.val d) => dLen [d] ρ φ
  | some (.own ds) => .ok (.val (.int ds.length)) ρ φ
  | _ => .stuck
theorem q_lenv (i : Nat) {x : Str} {p p2 : Pos} (hg : Gl X "len") (hm : X.mg "len" = none) (hN : X.N[i]? = some x := by rfl) (hv : Vis X.env.scope x := by first | exact Or.inl rfl | exact Or.inr (Or.inl rfl) | exact Or.inr (Or.inr rfl)) (hd : (x == ("__debug__" : Str)) = false := by decide)
    (hcd : (x == ("__classdict__" : Str)) = false := by decide) (he : starEach [.Name x p2] X.env = [(false, eval (.Name x p2) X.env)] := by rfl) : PE X (.Call (.Name "len" p) [.Name x p2] [] pos) (dE G W (mLenV i)) :=
  PE.weak (pe_callB call_len hg hm PySem.boot_len (pa_cons (pe_var hN hv hd hcd) pa_nil he) (he := he) (hpl := rfl)) fun σ H Q h => by
    obtain ⟨ρ, φ, F, O, r, g⟩ := h
    unfold mLenV at g
    split at g
    · rename_i d e
      obtain ⟨v, e1, e2⟩ := r.val i d e
      exact ⟨v, e1, den_len _ _ _ _ _ _ _ _ _ _ r (.cons e2 .nil) g⟩
    · rename_i ds e
      obtain ⟨a, xs, e1, _, e3, e4⟩ := r.own i ds e
      refine ⟨_, e1, ?_⟩
      have q := g.ok r _ (.int _)
      rw [← e4.length] at q
      exact ⟨_, _, rfl, .inl ⟨_, SqL.of e3, rfl⟩, q⟩
    · exact g.elim

/-! ### slices -/
def cutD {α : Type} (xs : List α) (lo hi : Option Int) : List α := (xs.drop (HT.sIx xs.length 0 lo)).take (HT.sIx xs.length xs.length hi - HT.sIx xs.length 0 lo)
theorem RDs.cut {F : List Addr} {H : Hp} {vs : List V} {ds : List D} (h : RDs G F H vs ds) (lo hi : Option Int) : RDs G F H (cutV vs lo hi) (cutD ds lo hi) := by
  unfold cutV cutD
  rw [h.length]
  exact (h.drop _).take _
def mNoP : M Φ (Option Int) := mP none
def mPart (m : M Φ R) : M Φ (Option Int) := mB m fun r => match r.d with
  | .int i => mP (some i)
  | _ => mS
def dO (G : Ctx Φ) (W : WX) (m : M Φ (Option Int)) : TO := fun σ H Q => ∃ ρ φ F O, Rel G F O ρ φ σ H ∧ Good G W σ F O H (m ρ φ) (fun o _ _ _ _ H' => Q o H')
theorem PO.weak {X : Cx} {e : Option Expr} {t t' : TO} (h : PO X e t) (w : ∀ σ H Q, t' σ H Q → t σ H Q) : PO X e t' := by
  obtain ⟨run⟩ := h
  exact ⟨fun pins s σ H Q I q => run pins s σ H Q I (w σ H Q q)⟩
theorem o_none : PO X none (dO G W mNoP) := PO.weak po_none fun σ H Q h => by
  obtain ⟨ρ, φ, F, O, r, g⟩ := h
  exact g.ok r
theorem o_some (h : PE X e (dE G W m)) : PO X (some e) (dO G W (mPart m)) := PO.weak (po_some h) fun σ H Q h => by
  obtain ⟨ρ, φ, F, O, r, g⟩ := h
  refine use r (Good.mono g.bind fun a ρ1 φ1 F1 O1 H1 _ x1 _ g1 O2 v r2 x2 d2 => ?_)
  cases hd : a.d with
  | int i =>
    rw [hd] at d2 g1
    cases d2
    exact ⟨i, rfl, (g1.ext x2).ok r2⟩
  | _ => rw [hd] at g1; exact g1.elim
def dSl (d : D) (lo hi : Option Int) : M Φ R := match d with
  | .lst xs => mP (.new (cutD xs lo hi))
  | .tup xs => mP (.val (.tup (cutD xs lo hi)))
  | _ => mS
def mSl (m : M Φ R) (l u : M Φ (Option Int)) : M Φ R := mB m fun r => mB l fun lo => mB u fun hi => dSl r.d lo hi
theorem cut_whole {α : Type} {xs : List α} {lo hi : Option Int} (h : HT.sIx xs.length 0 lo = 0 ∧ HT.sIx xs.length xs.length hi = xs.length) : cutD xs lo hi = xs := by
  unfold cutD
  rw [h.1, h.2]
  simp
theorem q_sl {lo hi : Option Expr} {p2 : Pos} {l u : M Φ (Option Int)} (he : PE X e (dE G W m)) (hl : PO X lo (dO G W l)) (hu : PO X hi (dO G W u)) : PE X (.Subscript e (.Slice lo hi none p2) pos) (dE G W (mSl m l u)) :=
  PE.weak (pe_slice (sl_list.or sl_tupA) he hl hu) fun σ H Q h => by
    obtain ⟨ρ, φ, F, O, r, g⟩ := h
    refine use r (Good.mono g.bind fun d ρ1 φ1 F1 O1 H1 _ x1 _ g1 O2 v r2 x2 d2 => ?_)
    refine ⟨ρ1, φ1, F1, O2, r2, Good.mono (g1.ext x2).bind fun o ρ3 φ3 F3 O3 H3 _ x3 r3 g3 => ?_⟩
    refine ⟨ρ3, φ3, F3, O3, r3, Good.mono g3.bind fun o' ρ4 φ4 F4 O4 H4 _ x4 r4 g4 => ?_⟩
    have xx := x3.trans x4
    have d4 := d2.mono xx.sm xx.fe
    cases hd : d.d with
    | lst xs =>
      rw [hd] at d4 g4
      cases d4 with
      | lst h1 h2 =>
        refine .inl ⟨_, _, rfl, SqL.of (hide_some h1).2, fun p hp => ?_⟩
        obtain ⟨r', x', rr⟩ := r4.laidNew hp (h2.cut o o')
        exact g4 F4 _ _ x' r' _ rr
    | tup xs =>
      rw [hd] at d4 g4
      cases d4 with
      | tup h1 h2 =>
        refine .inr ⟨_, _, rfl, SqT.of (hide_some h1).2, fun hw => ?_, fun _ p hp => ?_⟩
        · rw [h2.length] at hw
          have q := g4.ok r4
          rw [cut_whole hw] at q
          exact q _ (.tup h1 h2)
        · obtain ⟨r', x'⟩ := r4.laid (o := .tup (cutV _ o o')) hp
          exact g4 F4 O4 _ x' r' _ (.tup (hide_of (r4.notin hp) upd_same) ((h2.cut o o').mono x'.sm x'.fe))
    | _ => rw [hd] at g4; exact g4.elim

/-! ### isinstance -/
def tyN : D → Option String
  | .non => some "NoneType"
  | .bl _ => some "bool"
  | .int _ => some "int"
  | .str _ => some "str"
  | .tup _ => some "tuple"
  | .lst _ => some "list"
  | _ => none
def isiD (T : String) (d : D) : Option Bool := match tyN d with
  | some s => some (s == T || (T == "int" && s == "bool"))
  | none => none
def dIsi (T : String) (d : D) : M Φ R := match isiD T d with
  | some b => mP (.val (.bl b))
  | none => mS
/-- the answers are the library's -/
def IsiOk (T : String) : Prop := ∀ s ∈ ["NoneType", "bool", "int", "str", "tuple", "list"], kitB s T = some (s == T || (T == "int" && s == "bool"))
theorem tyN_mem {d : D} {s : String} (h : tyN d = some s) : s ∈ ["NoneType", "bool", "int", "str", "tuple", "list"] := by
  cases d <;> simp [tyN] at h <;> subst h <;> simp
theorem RD.ty {K : PySem.W.Frag} {F : List Addr} {H H' : Hp} {v : V} {d : D} {s : String} (sm : Same H H') (h : RD G F H v d) (e : tyN d = some s) : TyX K H' v (.type s) := by
  cases h with
  | non => cases e; exact .base .non
  | bl b => cases e; exact .base (.bl b)
  | int b => cases e; exact .base (.int b)
  | str b => cases e; exact .base (.str b)
  | lst h1 h2 => cases e; exact .base (.lst (sm _ _ h1))
  | tup h1 h2 => cases e; exact .base (.tup (sm _ _ h1))
  | obj h1 h2 => cases e
  | fd h1 => cases e
  | scr h1 => cases e
theorem q_isi (T : String) {p p2 : Pos} {x : Str} (ok : IsiOk T) (hg : Gl X "isinstance") (hm : X.mg "isinstance" = none) (hgT : Gl X x) (hmT : X.mg x = none) (hvT : bootBuiltins x = some (.type T)) (ha : PE X a (dE G W m)) (hnT : x ≠ "__name__" := by decide) (hdT : (x == ("__debug__" : Str)) = false := by decide)
    (he : starEach [a, .Name x p2] X.env = (false, eval a X.env) :: starEach [.Name x p2] X.env := by rfl) (he2 : starEach [.Name x p2] X.env = (false, eval (.Name x p2) X.env) :: starEach [] X.env := by rfl) (hpl : (backTo pos (starEach [.Name x p2] X.env)).any (·.1) = false := by rfl) :
    PE X (.Call (.Name "isinstance" p) [a, .Name x p2] [] pos) (dE G W (mUn (dIsi T) m)) :=
  PE.weak (pe_callB call_isi hg hm (by decide +kernel) (pa_cons ha (pa_cons (pe_bltn (v := .ty T) hgT hmT hvT rfl hnT hdT) pa_nil he2) he) (he := he) (hpl := hpl)) fun σ H Q h => by
    obtain ⟨ρ, φ, F, O, r, g⟩ := h
    refine use r (Good.mono g.bind fun d ρ1 φ1 F1 O1 H1 _ x1 _ g1 O2 v r2 x2 d2 => ?_)
    show rIsi X.K [v, V.ty T] H1 Q
    unfold dIsi at g1
    cases hb : isiD T d.d with
    | none => rw [hb] at g1; exact g1.elim
    | some b =>
      rw [hb] at g1
      unfold isiD at hb
      cases hs : tyN d.d with
      | none => rw [hs] at hb; cases hb
      | some s =>
        rw [hs] at hb
        cases hb
        exact ⟨v, .ty T, .type s, .type T, _, rfl, .ty T, d2.ty hide_un hs, kit_ty (ok s (tyN_mem hs)), (g1.ext x2).ok r2 _ (.bl _)⟩
theorem isi_int : IsiOk "int" := by unfold IsiOk; decide +kernel
theorem isi_bool : IsiOk "bool" := by unfold IsiOk; decide +kernel
theorem isi_str : IsiOk "str" := by unfold IsiOk; decide +kernel
theorem isi_tuple : IsiOk "tuple" := by unfold IsiOk; decide +kernel
theorem isi_list : IsiOk "list" := by unfold IsiOk; decide +kernel
/-- x.bit_length() -/
def dBits : D → M Φ R
  | .int i => mP (.val (.int (Builtin.Int.intBits i : Nat)))
  | _ => mS
theorem q_bits {apos : Pos} (ho : PE X a (dE G W m)) (hbase : attributeBase a "bit_length" X.env (eval a X.env) = eval a X.env := by rfl) (hline : (apos.endLine == pos.line) = true := by rfl) : PE X (.Call (.Attribute a "bit_length" apos) [] [] pos) (dE G W (mUn dBits m)) :=
  PE.weak (pe_bits ho hbase hline) fun σ H Q h => dE_un (r := fun x H Q => ∃ i, x = .int i ∧ Q (.int (Builtin.Int.intBits i : Nat)) H) (fun ρ φ F O σ H x d Q r dx g => by
    unfold dBits at g
    split at g
    · cases dx
      exact ⟨_, rfl, g.ok r _ (.int _)⟩
    · exact g.elim) h
end
end DN
namespace DN
open PySem PySem.Spec L2
open PyProof.Rows hiding St
variable {Φ : Type}

/-! ### what a def does -/
inductive Res (Φ : Type) where
  | ok (r : R) (φ : Φ) | err (c : Str) (es : List D) (φ : Φ) | stuck
abbrev Fn (Φ : Type) := List D → Φ → Res Φ
def Ctx.at (G : Ctx Φ) (P : List Addr) : Ctx Φ := { G with P := P }
section
variable {G : Ctx Φ} {P F : List Addr} {H : Hp}
mutual
theorem RD.at_ : ∀ {v : V} {d : D}, RD (G.at P) F H v d → RD G F H v d
  | _, .non, h => by cases h; exact .non
  | _, .bl b, h => by cases h; exact .bl b
  | _, .int i, h => by cases h; exact .int i
  | _, .str x, h => by cases h; exact .str x
  | _, .lst ds, h => by
    cases h with
    | lst h1 h2 => exact .lst h1 (RDs.at_ h2)
  | _, .tup ds, h => by
    cases h with
    | tup h1 h2 => exact .tup h1 (RDs.at_ h2)
  | _, .obj c ds, h => by
    cases h with
    | obj h1 h2 h3 h4 => exact .obj h1 h2 h3 (RDs.at_ h4)
  | _, .fd, h => by
    cases h with
    | fd h1 => exact .fd h1
  | _, .scr ns, h => by
    cases h with
    | scr h1 => exact .scr h1
theorem RDs.at_ : ∀ {vs : List V} {ds : List D}, RDs (G.at P) F H vs ds → RDs G F H vs ds
  | _, [], h => by cases h; exact .nil
  | _, d :: ds, h => by
    cases h with
    | cons h1 h2 => exact .cons (RD.at_ h1) (RDs.at_ h2)
end
mutual
theorem RD.to : ∀ {v : V} {d : D}, RD G F H v d → RD (G.at P) F H v d
  | _, .non, h => by cases h; exact .non
  | _, .bl b, h => by cases h; exact .bl b
  | _, .int i, h => by cases h; exact .int i
  | _, .str x, h => by cases h; exact .str x
  | _, .lst ds, h => by
    cases h with
    | lst h1 h2 => exact .lst h1 (RDs.to h2)
  | _, .tup ds, h => by
    cases h with
    | tup h1 h2 => exact .tup h1 (RDs.to h2)
  | _, .obj c ds, h => by
    cases h with
    | obj h1 h2 h3 h4 => exact .obj h1 h2 h3 (RDs.to h4)
  | _, .fd, h => by
    cases h with
    | fd h1 => exact .fd h1
  | _, .scr ns, h => by
    cases h with
    | scr h1 => exact .scr h1
theorem RDs.to : ∀ {vs : List V} {ds : List D}, RDs G F H vs ds → RDs (G.at P) F H vs ds
  | _, [], h => by cases h; exact .nil
  | _, d :: ds, h => by
    cases h with
    | cons h1 h2 => exact .cons (RD.to h1) (RDs.to h2)
end
end
/-- a call's result as the caller has it: P what the caller owns -/
def RC (G : Ctx Φ) (P : List Addr) (H : Hp) (F' : List Addr) (H' : Hp) (v : V) : R → Prop
  | .val d => RD G F' (hide (F' ++ P) H') v d
  | .new ds => ∃ a xs, v = .ref a ∧ H a = none ∧ a ∉ F' ∧ H' a = some (.lst xs) ∧ RDs G F' (hide (F' ++ a :: P) H') xs ds
def spD (G : Ctx Φ) (n : Nat) (f : Fn Φ) : Sp := fun vs H Q E => ∃ F φ ds P, vs.length = n ∧ RDs G F (hide (F ++ P) H) vs ds ∧ G.FI F H φ ∧ (∀ a, a ∈ P → a ∉ F ∧ H a ≠ none) ∧
  match f ds φ with
  | .ok r φ' => ∀ F' H' v, FE F F' → Same (hide F H) (hide F' H') → G.FI F' H' φ' → RC G P H F' H' v r → Q v H'
  | .err c es φ' => ∀ F' H' cls d, FE F F' → Same (hide F H) (hide F' H') → G.FI F' H' φ' → ER G F' P H' cls d c es → E cls d H'
  | .stuck => False
def mCall (f : Fn Φ) (t : M Φ (List D)) : M Φ R := mB t fun ds => fun ρ φ => match f ds φ with
  | .ok r φ' => .ok r ρ φ'
  | .err c es φ' => .err c es ρ φ'
  | .stuck => .stuck
/-- so many arguments -/
def Ar (n : Nat) (t : M Φ (List D)) : Prop := ∀ ρ φ ds ρ' φ', t ρ φ = .ok ds ρ' φ' → ds.length = n
theorem ar_nil : Ar 0 (mNil : M Φ (List D)) := fun ρ φ ds ρ' φ' h => by
  simp only [mNil, mP] at h
  injection h with h1 h2 h3
  subst h1; rfl
theorem ar_cons {n : Nat} {m : M Φ R} {t : M Φ (List D)} (h : Ar n t) : Ar (n + 1) (mCons m t) := fun ρ φ ds ρ' φ' e => by
  unfold mCons mB at e
  split at e
  · rename_i r ρ1 φ1 e1
    dsimp only at e
    split at e
    · rename_i ds1 ρ2 φ2 e2
      have k := h _ _ _ _ _ e2
      simp only [mP] at e
      injection e with h1 h2 h3
      subst h1
      rw [List.length_cons, k]
    · cases e
    · cases e
  · cases e
  · cases e

section
variable {G : Ctx Φ} {P0 : List Addr} {W : WX} {σ : St} {H : Hp} {F O : List Addr} {ρ : List Sl} {φ : Φ}
/-- a callee has changed nothing of ours -/
theorem Rel.after {G : Ctx Φ} {F' : List Addr} {H' : Hp} {φ' : Φ} (r : Rel G F O ρ φ σ H) (fe : FE F F') (sm : Same (hide F H) (hide F' H')) (fi : G.FI F' H' φ') : Rel G F' O ρ φ' σ H' ∧ Ext G F O H F' O H' := by
  have own : ∀ a, a ∈ O → ∀ o, H a = some o → a ∉ F' ∧ H' a = some o := fun a ha o e => hide_some (sm a o (hide_of (r.disj a ha) e))
  have s : Same (hide (F ++ O) H) (hide (F' ++ O) H') := fun b o e => by
    obtain ⟨n, e⟩ := hide_some e
    obtain ⟨n', e'⟩ := hide_some (sm b o (hide_of (fun z => n (List.mem_append_left _ z)) e))
    exact hide_of (fun z => (List.mem_append.mp z).elim n' fun z => n (List.mem_append_right _ z)) e'
  have ex : ∀ a, a ∈ O → ∃ o, H a = some o := fun a ha => by
    cases e : H a with
    | none => exact absurd e (r.trk a ha)
    | some o => exact ⟨o, rfl⟩
  refine ⟨⟨r.len, fun i d e => ?_, fun i ds e => ?_, r.inj, fun a ha => ?_, fun a ha => ?_, fi, r.psub, r.pno⟩, s, fe, fun a ha => ?_⟩
  · obtain ⟨v, e1, e2⟩ := r.val i d e
    exact ⟨v, e1, e2.mono s fe⟩
  · obtain ⟨b, ys, e1, e2, e3, e4⟩ := r.own i ds e
    exact ⟨b, ys, e1, e2, (own b e2 _ e3).2, e4.mono s fe⟩
  · obtain ⟨o, e⟩ := ex a ha
    exact (own a ha o e).1
  · obtain ⟨o, e⟩ := ex a ha
    rw [(own a ha o e).2]; simp
  · obtain ⟨o, e⟩ := ex a (r.psub a ha)
    rw [(own a (r.psub a ha) o e).2, e]
/-- .. and has given a new list -/
theorem Rel.afterNew {G : Ctx Φ} {a : Addr} {xs : List V} {ds : List D} {F' : List Addr} {H' : Hp} {φ' : Φ} (r : Rel G F O ρ φ σ H) (fe : FE F F') (sm : Same (hide F H) (hide F' H')) (fi : G.FI F' H' φ') (na : H a = none) (nF : a ∉ F') (e : H' a = some (.lst xs)) (hd : RDs G F' (hide (F' ++ a :: O) H') xs ds) :
    Rel G F' (a :: O) ρ φ' σ H' ∧ Ext G F O H F' (a :: O) H' ∧ RR G F' (a :: O) σ ρ H' (.ref a) (.new ds) := by
  obtain ⟨r', x⟩ := r.after fe sm fi
  have nO : a ∉ O := fun z => r.trk a z na
  have nv : ∀ b o, b ≠ a → hide (F' ++ O) H' b = some o → hide (F' ++ a :: O) H' b = some o := fun b o hb q => by
    obtain ⟨n', e'⟩ := hide_some q
    refine hide_of (fun z => ?_) e'
    rcases List.mem_append.mp z with z | z
    · exact n' (List.mem_append_left _ z)
    · rcases List.mem_cons.mp z with z | z
      · exact hb z
      · exact n' (List.mem_append_right _ z)
  have s : Same (hide (F ++ O) H) (hide (F' ++ a :: O) H') := fun b o q => nv b o (fun z => by
    have := (hide_some q).2
    rw [z, na] at this; cases this) (x.sm b o q)
  refine ⟨⟨r'.len, fun i d q => ?_, fun i ds q => ?_, r'.inj, fun b hb => ?_, fun b hb => ?_, r'.fi, fun b hb => List.mem_cons_of_mem _ (r'.psub b hb), r'.pno⟩, ⟨s, x.fe, x.pk⟩, a, xs, rfl, List.mem_cons_self, e, hd, fun z => nO (r.psub a z), fun i es q z => ?_⟩
  · obtain ⟨v, e1, e2⟩ := r.val i d q
    exact ⟨v, e1, e2.mono s x.fe⟩
  · obtain ⟨b, ys, e1, e2, e3, e4⟩ := r.own i ds q
    exact ⟨b, ys, e1, List.mem_cons_of_mem _ e2, (hide_some (sm b _ (hide_of (r.disj b e2) e3))).2, e4.mono s x.fe⟩
  · rcases List.mem_cons.mp hb with rfl | hb
    · exact nF
    · exact r'.disj b hb
  · rcases List.mem_cons.mp hb with rfl | hb
    · rw [e]; simp
    · exact r'.trk b hb
  · obtain ⟨b, ys, e1, e2, e3, e4⟩ := r.own i es q
    rw [z] at e1; cases e1
    rw [na] at e3; cases e3
theorem ER.at_ {G : Ctx Φ} {P F O : List Addr} {H : Hp} {cls : Value} {d : Option Addr} {c : Str} {es : List D} (h : ER (G.at P) F O H cls d c es) : ER G F O H cls d c es := by
  obtain ⟨C, ns, dd, fs, h1, h2, h3, h4, h5, h6⟩ := h
  exact ⟨C, ns, dd, fs, h1, h2, h3, h4, h5, h6.at_⟩
theorem ER.to {G : Ctx Φ} {P F O : List Addr} {H : Hp} {cls : Value} {d : Option Addr} {c : Str} {es : List D} (h : ER G F O H cls d c es) : ER (G.at P) F O H cls d c es := by
  obtain ⟨C, ns, dd, fs, h1, h2, h3, h4, h5, h6⟩ := h
  exact ⟨C, ns, dd, fs, h1, h2, h3, h4, h5, h6.to⟩
theorem dE_fn {G : Ctx Φ} {P0 : List Addr} {n : Nat} {f : Fn Φ} {t : M Φ (List D)} {Q : VK} (hn : Ar n t) (h : dE (G.at P0) W (mCall f t) σ H Q) : tCallS (spD G n f) (WE W) (dA (G.at P0) W t) σ H Q := by
  obtain ⟨ρ, φ, F, O, r, g⟩ := h
  refine ⟨ρ, φ, F, O, r, Good.mono g.bind fun ds ρ1 φ1 F1 O1 H1 e1 x1 r1 g1 vs hv => ?_⟩
  refine ⟨F1, φ1, ds, O1, by rw [hv.length]; exact hn _ _ _ _ _ e1, hv.at_, r1.fi, fun a ha => ⟨r1.disj a ha, r1.trk a ha⟩, ?_⟩
  cases q : f ds φ1 with
  | ok res φ' =>
    dsimp only at g1 ⊢
    rw [q] at g1
    intro F' H' v fe sm fi rc
    cases res with
    | val d =>
      obtain ⟨r2, x2⟩ := r1.after fe sm fi
      exact g1 F' O1 H' x2 r2 v (RD.to rc)
    | new ds' =>
      obtain ⟨a, xs, rfl, na, nF, ea, hd⟩ := rc
      obtain ⟨r2, x2, rr⟩ := r1.afterNew fe sm fi na nF ea hd.to
      exact g1 F' _ H' x2 r2 _ rr
  | err c es φ' =>
    dsimp only at g1 ⊢
    rw [q] at g1
    intro F' H' cls d fe sm fi er
    obtain ⟨r2, x2⟩ := r1.after fe sm fi
    exact g1 F' O1 H' cls d x2 r2 er.to
  | stuck => rw [q] at g1; exact g1.elim
end
section
variable {X : Cx} {G : Ctx Φ} {P0 : List Addr} {W : WX} {e : Expr} {es : List Expr} {pos : Pos}
theorem q_call {k n : Nat} {f : Addr} {fd : FuncData} {ps : List Str} {fn : Fn Φ} {x : Str} {p : Pos} {t : M Φ (List D)} (F : FnOk X.prog X.w X.K X.mg X.base (L2.CX X.prog X.w) k f fd ps (spD G n fn)) (hr : Room k X.A) (hg : Gl X x) (hm : X.mg x = some (.ref f)) (hk : PySem.W.keepIn X.K (.ref f) = true) (hb : Binds X.K fd ps []) (tk : Takes X W)
    (hn : Ar n t) (ha : PA X (e :: es) (dA (G.at P0) W t)) (hdb : (x == ("__debug__" : Str)) = false := by decide) (he : starEach (e :: es) X.env = (false, eval e X.env) :: starEach es X.env := by rfl) (hpl : (backTo pos (starEach es X.env)).any (·.1) = false := by rfl) :
    PE X (.Call (.Name x p) (e :: es) [] pos) (dE (G.at P0) W (mCall fn t)) :=
  PE.weak (pe_callS F hr hg hm hk hb (fun σ => passAt tk σ) ha hdb he hpl) fun _ _ _ h => dE_fn hn h

/-! ### a def -/
end
inductive Fl where
  | nx | bk | ct | rt (r : R)
def runF (N : Nat) (m : M Φ Fl) : Fn Φ := fun ds φ => match m (ds.map Sl.val ++ List.replicate (N - ds.length) Sl.emp) φ with
  | .ok .nx _ φ' => .ok (.val .non) φ'
  | .ok (.rt r) _ φ' => .ok r φ'
  | .ok _ _ _ => .stuck
  | .err c es _ φ' => .err c es φ'
  | .stuck => .stuck
def GoodS (G : Ctx Φ) (W : WX) (F O : List Addr) (H : Hp) (out : Out Φ Fl) (D : Ends) : Prop :=
  match out with
  | .ok .nx ρ φ => ∀ F' O' H' σ', Ext G F O H F' O' H' → Rel G F' O' ρ φ σ' H' → D.nx σ' H'
  | .ok .bk ρ φ => ∀ F' O' H' σ', Ext G F O H F' O' H' → Rel G F' O' ρ φ σ' H' → D.bk σ' H'
  | .ok .ct ρ φ => ∀ F' O' H' σ', Ext G F O H F' O' H' → Rel G F' O' ρ φ σ' H' → D.ct σ' H'
  | .ok (.rt r) ρ φ => ∀ F' O' H' σ', Ext G F O H F' O' H' → Rel G F' O' ρ φ σ' H' → ∀ v, RR G F' O' σ' ρ H' v r → D.rt v H'
  | .err c es ρ φ => ∀ F' O' H' cls d σ', Ext G F O H F' O' H' → Rel G F' O' ρ φ σ' H' → ER G F' O' H' cls d c es → W cls d σ' H'
  | .stuck => False
def dS (G : Ctx Φ) (W : WX) (m : M Φ Fl) : TS := fun D σ H => ∃ ρ φ F O, Rel G F O ρ φ σ H ∧ GoodS G W F O H (m ρ φ) D
theorem GoodS.ext {G : Ctx Φ} {W : WX} {F O F1 O1 : List Addr} {H H1 : Hp} {out : Out Φ Fl} {D : Ends} (x : Ext G F O H F1 O1 H1) (h : GoodS G W F O H out D) : GoodS G W F1 O1 H1 out D := by
  cases out with
  | ok fl ρ φ =>
    cases fl with
    | nx => exact fun F' O' H' σ' x' r => h F' O' H' σ' (x.trans x') r
    | bk => exact fun F' O' H' σ' x' r => h F' O' H' σ' (x.trans x') r
    | ct => exact fun F' O' H' σ' x' r => h F' O' H' σ' (x.trans x') r
    | rt v => exact fun F' O' H' σ' x' r => h F' O' H' σ' (x.trans x') r
  | err c es ρ φ => exact fun F' O' H' cls d σ' x' r er => h F' O' H' cls d σ' (x.trans x') r er
  | stuck => exact h

section
variable {Pg : Program} {w : World} {K : PySem.W.Frag} {mg : Str → Option Value} {base : Heap} {G : Ctx Φ}
theorem rel_start {F P : List Addr} {H : Hp} {φ : Φ} {vs : List V} {ds : List D} {N : List Str} (hl : vs.length ≤ N.length) (hv : RDs G F (hide (F ++ P) H) vs ds) (fi : G.FI F H φ) (hp : ∀ a, a ∈ P → a ∉ F ∧ H a ≠ none) :
    Rel (G.at P) F P (ds.map Sl.val ++ List.replicate (N.length - ds.length) Sl.emp) φ (L2.start N vs) H := by
  have get : ∀ (i : Nat) (sl : Sl), (ds.map Sl.val ++ List.replicate (N.length - ds.length) Sl.emp)[i]? = some sl → (∃ d, ds[i]? = some d ∧ sl = .val d) ∨ sl = .emp := fun i sl e => by
    by_cases hi : i < ds.length
    · rw [List.getElem?_append_left (by simpa using hi), List.getElem?_map] at e
      obtain ⟨d, e1, e2⟩ := Option.map_eq_some_iff.mp e
      exact .inl ⟨d, e1, e2.symm⟩
    · rw [List.getElem?_append_right (by simpa using hi), List.getElem?_replicate] at e
      split at e
      · exact .inr (Option.some.inj e).symm
      · cases e
  refine ⟨?_, fun i d e => ?_, fun i es e => ?_, fun i j es fs e => ?_, fun a ha => (hp a ha).1, fun a ha => (hp a ha).2, fi, fun a ha => ha, fun i es a e => ?_⟩
  · have := hv.length
    unfold L2.start
    simp only [List.length_append, List.length_map, List.length_replicate]
    omega
  · rcases get i _ e with ⟨d', e1, e2⟩ | e2
    · cases e2
      obtain ⟨v, z1, z2⟩ := hv.getD e1
      refine ⟨v, ?_, z2.to⟩
      unfold L2.start
      have hi := (List.getElem?_eq_some_iff.mp z1).1
      rw [List.getElem?_append_left (by simpa using hi), List.getElem?_map, z1]
      rfl
    · cases e2
  · rcases get i _ e with ⟨d', e1, e2⟩ | e2 <;> cases e2
  · rcases get i _ e with ⟨d', e1, e2⟩ | e2 <;> cases e2
  · rcases get i _ e with ⟨d', e1, e2⟩ | e2 <;> cases e2
theorem fn_ok {x qual : Str} {st : Stmt} {f : Addr} {fd : FuncData} {N ps : List Str} {k : Nat} {m : M Φ Fl} (Fu : Fun K x qual st f fd) (S : FnScope N ps (defScope st))
    (hb : ∀ (cdv : Value) (A : Around) (outer : List Env) (s : Shared) (H : Hp) (E : XK) (P : List Addr), Room k (A.deeper (envOfC qual (defScope st) s.heap.objs.size f cdv)) →
      PSs (cxOf (L2.CX Pg w) Pg w K mg base N qual (defScope st) f cdv A outer s H E) (defBody st) (dS (G.at P) (fun cls d _ H => E cls d H) m)) :
    FnOk Pg w K mg base (L2.CX Pg w) (k + 1) f fd ps (spD G ps.length (runF N.length m)) := by
  have hpl : ps.length ≤ N.length := by have := congrArg List.length S.pre; rw [List.length_take] at this; omega
  refine Fu.okX S (fun vs H Q E h => ?_) (fun cdv A outer s H vs Q E hr h => ?_)
  · obtain ⟨F, φ, ds, P, h, _⟩ := h
    exact h
  · obtain ⟨F, φ, ds, P, hl, hv, fi, hp, h⟩ := h
    refine ⟨_, hb cdv A outer s H E P hr, _, φ, F, P, rel_start (by omega) hv fi hp, ?_⟩
    have sm : ∀ {F' O' : List Addr} {H' : Hp} {ρ' : List Sl} {φ' : Φ} {σ' : St}, Ext (G.at P) F P H F' O' H' → Rel (G.at P) F' O' ρ' φ' σ' H' → Same (hide F H) (hide F' H') := fun {F' O' H' ρ' φ' σ'} x r b o e => by
      obtain ⟨n, e⟩ := hide_some e
      by_cases hP : b ∈ P
      · exact hide_of (r.disj b (r.psub b hP)) ((x.pk b hP).trans e)
      · obtain ⟨n', e'⟩ := hide_some (x.sm b o (hide_of (fun z => (List.mem_append.mp z).elim n hP) e))
        exact hide_of (fun z => n' (List.mem_append_left _ z)) e'
    have sub : ∀ {F' O' : List Addr} {H' : Hp} {ρ' : List Sl} {φ' : Φ} {σ' : St}, Rel (G.at P) F' O' ρ' φ' σ' H' → Same (hide (F' ++ O') H') (hide (F' ++ P) H') := fun {F' O' H' ρ' φ' σ'} r => hide_sub fun a ha => by
      rcases List.mem_append.mp ha with z | z
      · exact List.mem_append_left _ z
      · exact List.mem_append_right _ (r.psub a z)
    unfold runF at h
    cases q : m (ds.map Sl.val ++ List.replicate (N.length - ds.length) Sl.emp) φ with
    | ok fl ρ' φ' =>
      rw [q] at h
      cases fl with
      | nx =>
        intro F' O' H' σ' x r
        exact h F' H' .non x.fe (sm x r) r.fi .non
      | rt res =>
        intro F' O' H' σ' x r v rr
        refine h F' H' v x.fe (sm x r) r.fi ?_
        cases res with
        | val d => exact RD.mono (sub r) (.refl _) (RD.at_ rr)
        | new ds' =>
          obtain ⟨a, xs, e1, ha, e2, e3, e4, e5⟩ := rr
          refine ⟨a, xs, e1, ?_, r.disj a ha, e2, RDs.mono (hide_sub fun b hb => ?_) (.refl _) e3.at_⟩
          · cases ea : H a with
            | none => rfl
            | some o =>
              by_cases hF : a ∈ F
              · rcases x.fe with z | z
                · rw [z] at hF; cases hF
                · rw [← z] at hF; exact absurd hF (r.disj a ha)
              · have z := x.sm a o (hide_of (fun z => (List.mem_append.mp z).elim hF e4) ea)
                exact absurd (List.mem_append_right _ ha) (hide_some z).1
          · rcases List.mem_append.mp hb with z | z
            · exact List.mem_append_left _ z
            · rcases List.mem_cons.mp z with z | z
              · rw [z]; exact List.mem_append_right _ ha
              · exact List.mem_append_right _ (r.psub b z)
      | bk => exact h.elim
      | ct => exact h.elim
    | err c es ρ' φ' =>
      rw [q] at h
      intro F' O' H' cls d σ' x r er
      refine h F' H' cls d x.fe (sm x r) r.fi ?_
      obtain ⟨C, ns, dd, fs, h1, h2, h3, h4, h5, h6⟩ := er
      exact ⟨C, ns, dd, fs, h1, h2, h3, sub r _ _ h4, h5, RDs.mono (sub r) (.refl _) h6.at_⟩
    | stuck => rw [q] at h; exact h.elim
end
end DN
namespace DN
open PySem PySem.Spec L2
open PyProof.Rows hiding St
variable {Φ : Type}

/-! ### slots are set -/
section
variable {G : Ctx Φ} {W : WX} {σ : St} {H : Hp} {F O : List Addr} {ρ : List Sl} {φ : Φ}
theorem Rel.setVal {i : Nat} {v : V} {d : D} (r : Rel G F O ρ φ σ H) (hd : RD G F (hide (F ++ O) H) v d) : Rel G F O (ρ.set i (.val d)) φ (σ.set i (some v)) H := by
  have old : ∀ (j : Nat) (sl : Sl), (ρ.set i (.val d))[j]? = some sl → (j = i ∧ i < ρ.length ∧ sl = .val d) ∨ (j ≠ i ∧ ρ[j]? = some sl) := fun j sl ej => by
    by_cases hj : j = i
    · subst hj
      by_cases hi : j < ρ.length
      · rw [List.getElem?_set_self hi] at ej
        exact .inl ⟨rfl, hi, (Option.some.inj ej).symm⟩
      · rw [List.getElem?_eq_none (by simpa using hi)] at ej; cases ej
    · rw [List.getElem?_set_ne (Ne.symm hj)] at ej
      exact .inr ⟨hj, ej⟩
  have sl := r.len
  refine ⟨by rw [List.length_set, List.length_set]; exact r.len, fun j e ej => ?_, fun j es ej => ?_, fun j k es fs ej ek he => ?_, r.disj, r.trk, r.fi, r.psub, fun j es a ej ea => ?_⟩
  · rcases old j _ ej with ⟨rfl, hi, z⟩ | ⟨hj, z⟩
    · cases z
      exact ⟨v, by rw [List.getElem?_set_self (by omega)], hd⟩
    · obtain ⟨u, z1, z2⟩ := r.val j e z
      exact ⟨u, by rw [List.getElem?_set_ne (Ne.symm hj)]; exact z1, z2⟩
  · rcases old j _ ej with ⟨rfl, hi, z⟩ | ⟨hj, z⟩
    · cases z
    · obtain ⟨b, ys, z1, z2⟩ := r.own j es z
      exact ⟨b, ys, by rw [List.getElem?_set_ne (Ne.symm hj)]; exact z1, z2⟩
  · rcases old j _ ej with ⟨rfl, hi, z⟩ | ⟨hj, z⟩
    · cases z
    · rcases old k _ ek with ⟨rfl, hi, y⟩ | ⟨hk, y⟩
      · cases y
      · rw [List.getElem?_set_ne (Ne.symm hj), List.getElem?_set_ne (Ne.symm hk)] at he
        exact r.inj j k es fs z y he
  · rcases old j _ ej with ⟨rfl, hi, z⟩ | ⟨hj, z⟩
    · cases z
    · rw [List.getElem?_set_ne (Ne.symm hj)] at ea
      exact r.pno j es a z ea
theorem Rel.setNew {i : Nat} {v : V} {ds : List D} (r : Rel G F O ρ φ σ H) (hd : RR G F O σ ρ H v (.new ds)) : Rel G F O (ρ.set i (.own ds)) φ (σ.set i (some v)) H := by
  obtain ⟨p, xs, rfl, hp, hx, hr, hP, hn⟩ := hd
  have old : ∀ (j : Nat) (sl : Sl), (ρ.set i (.own ds))[j]? = some sl → (j = i ∧ i < ρ.length ∧ sl = .own ds) ∨ (j ≠ i ∧ ρ[j]? = some sl) := fun j sl ej => by
    by_cases hj : j = i
    · subst hj
      by_cases hi : j < ρ.length
      · rw [List.getElem?_set_self hi] at ej
        exact .inl ⟨rfl, hi, (Option.some.inj ej).symm⟩
      · rw [List.getElem?_eq_none (by simpa using hi)] at ej; cases ej
    · rw [List.getElem?_set_ne (Ne.symm hj)] at ej
      exact .inr ⟨hj, ej⟩
  have sl := r.len
  refine ⟨by rw [List.length_set, List.length_set]; exact r.len, fun j e ej => ?_, fun j es ej => ?_, fun j k es fs ej ek he => ?_, r.disj, r.trk, r.fi, r.psub, fun j es a ej ea => ?_⟩
  · rcases old j _ ej with ⟨rfl, hi, z⟩ | ⟨hj, z⟩
    · cases z
    · obtain ⟨u, z1, z2⟩ := r.val j e z
      exact ⟨u, by rw [List.getElem?_set_ne (Ne.symm hj)]; exact z1, z2⟩
  · rcases old j _ ej with ⟨rfl, hi, z⟩ | ⟨hj, z⟩
    · cases z
      exact ⟨p, xs, by rw [List.getElem?_set_self (by omega)], hp, hx, hr⟩
    · obtain ⟨b, ys, z1, z2⟩ := r.own j es z
      exact ⟨b, ys, by rw [List.getElem?_set_ne (Ne.symm hj)]; exact z1, z2⟩
  · rcases old j _ ej with ⟨rfl, hi, z⟩ | ⟨hj, z⟩
    · rcases old k _ ek with ⟨rfl, hi', y⟩ | ⟨hk, y⟩
      · rfl
      · rw [List.getElem?_set_self (by omega), List.getElem?_set_ne (Ne.symm hk)] at he
        exact absurd he.symm (hn k fs y)
    · rcases old k _ ek with ⟨rfl, hi', y⟩ | ⟨hk, y⟩
      · rw [List.getElem?_set_self (by omega), List.getElem?_set_ne (Ne.symm hj)] at he
        exact absurd he (hn j es z)
      · rw [List.getElem?_set_ne (Ne.symm hj), List.getElem?_set_ne (Ne.symm hk)] at he
        exact r.inj j k es fs z y he
  · rcases old j _ ej with ⟨rfl, hi, z⟩ | ⟨hj, z⟩
    · rw [List.getElem?_set_self (by omega)] at ea
      cases ea
      exact hP
    · rw [List.getElem?_set_ne (Ne.symm hj)] at ea
      exact r.pno j es a z ea
/-- a list of one's own is changed -/
theorem Rel.write {i : Nat} {a : Addr} {ds es : List D} {xs ys : List V} (r : Rel G F O ρ φ σ H) (e : ρ[i]? = some (.own ds)) (ea : σ[i]? = some (some (.ref a))) (hx : H a = some (.lst xs)) (hd : RDs G F (hide (F ++ O) H) ys es) :
    Rel G F O (ρ.set i (.own es)) φ σ (upd H a (.lst ys)) ∧ Ext G F O H F O (upd H a (.lst ys)) := by
  obtain ⟨a', xs', e1, e2, e3, e4⟩ := r.own i ds e
  rw [ea] at e1; cases e1
  have hi : i < ρ.length := (List.getElem?_eq_some_iff.mp e).1
  have s : Same (hide (F ++ O) H) (hide (F ++ O) (upd H a (.lst ys))) := hide_upd (.inl (List.mem_append_right _ e2))
  have old : ∀ (j : Nat) (sl : Sl), (ρ.set i (.own es))[j]? = some sl → (j = i ∧ sl = .own es) ∨ (j ≠ i ∧ ρ[j]? = some sl) := fun j sl ej => by
    by_cases hj : j = i
    · subst hj
      rw [List.getElem?_set_self hi] at ej
      exact .inl ⟨rfl, (Option.some.inj ej).symm⟩
    · rw [List.getElem?_set_ne (Ne.symm hj)] at ej
      exact .inr ⟨hj, ej⟩
  have nP := r.pno i ds a e ea
  refine ⟨⟨by rw [List.length_set]; exact r.len, fun j d ej => ?_, fun j fs ej => ?_, fun j k fs gs ej ek he => ?_, r.disj, fun b hb => ?_, G.loc F H _ φ (fun b hb => upd_ne fun z => r.disj a e2 (z ▸ hb)) r.fi, r.psub, fun j fs b ej eb => ?_⟩, s, .refl _, fun b hb => upd_ne fun z => nP (z ▸ hb)⟩
  · rcases old j _ ej with ⟨rfl, z⟩ | ⟨hj, z⟩
    · cases z
    · obtain ⟨u, z1, z2⟩ := r.val j d z
      exact ⟨u, z1, z2.mono s (.refl _)⟩
  · rcases old j _ ej with ⟨rfl, z⟩ | ⟨hj, z⟩
    · cases z
      exact ⟨a, ys, ea, e2, upd_same, hd.mono s (.refl _)⟩
    · obtain ⟨b, zs, z1, z2, z3, z4⟩ := r.own j fs z
      refine ⟨b, zs, z1, z2, ?_, z4.mono s (.refl _)⟩
      rw [upd_ne]
      · exact z3
      · rintro rfl
        exact hj (r.inj j i fs ds z e (z1.trans ea.symm))
  · rcases old j _ ej with ⟨rfl, z⟩ | ⟨hj, z⟩
    · rcases old k _ ek with ⟨rfl, y⟩ | ⟨hk, y⟩
      · rfl
      · exact r.inj j k ds gs e y he
    · rcases old k _ ek with ⟨rfl, y⟩ | ⟨hk, y⟩
      · exact r.inj j k fs ds z e he
      · exact r.inj j k fs gs z y he
  · by_cases hb2 : b = a
    · rw [hb2, upd_same]; simp
    · rw [upd_ne hb2]; exact r.trk b hb
  · rcases old j _ ej with ⟨rfl, z⟩ | ⟨hj, z⟩
    · rw [ea] at eb; cases eb; exact nP
    · exact r.pno j fs b z eb

/-! ### targets -/
end
inductive Pat where
  | nm (i : Nat) | tp (ps : List Pat)
mutual
def patSet : Pat → D → List Sl → Option (List Sl)
  | .nm i, d, ρ => some (ρ.set i (.val d))
  | .tp ps, .tup ds, ρ => if ps.length = ds.length then patSets ps ds ρ else none
  | .tp _, _, _ => none
def patSets : List Pat → List D → List Sl → Option (List Sl)
  | [], [], ρ => some ρ
  | p :: ps, d :: ds, ρ => match patSet p d ρ with
    | some ρ1 => patSets ps ds ρ1
    | none => none
  | _, _, _ => none
end
mutual
def Pat.ix : Pat → List Nat
  | .nm i => [i]
  | .tp ps => Pat.ixs ps
def Pat.ixs : List Pat → List Nat
  | [] => []
  | p :: ps => p.ix ++ Pat.ixs ps
end
/-- two frames that differ at some slots alone -/
def Off (l : List Nat) (σ σ' : St) : Prop := ∀ i, i ∉ l → σ'[i]? = σ[i]?
def gP (G : Ctx Φ) (p : Pat) : TG := fun v σ H Q => ∃ ρ φ F O d ρ', Rel G F O ρ φ σ H ∧ RD G F (hide (F ++ O) H) v d ∧ patSet p d ρ = some ρ' ∧ ∀ σ', Rel G F O ρ' φ σ' H → Off p.ix σ σ' → Q σ' H
def gPs (G : Ctx Φ) (ps : List Pat) : TGs := fun vs σ H Q => ∃ ρ φ F O ds ρ', Rel G F O ρ φ σ H ∧ RDs G F (hide (F ++ O) H) vs ds ∧ patSets ps ds ρ = some ρ' ∧ ∀ σ', Rel G F O ρ' φ σ' H → Off (Pat.ixs ps) σ σ' → Q σ' H
theorem PG.weak {X : Cx} {e : Expr} {t t' : TG} (h : PG X e t) (w : ∀ v σ H Q, t' v σ H Q → t v σ H Q) : PG X e t' := ⟨fun pins s σ H v u Q I r q => h.run pins s σ H v u Q I r (w v σ H Q q)⟩
theorem PGs.weak {X : Cx} {e : List Expr} {t t' : TGs} (h : PGs X e t) (w : ∀ v σ H Q, t' v σ H Q → t v σ H Q) : PGs X e t' := ⟨fun pins s σ H v u Q I r q => h.run pins s σ H v u Q I r (w v σ H Q q)⟩
section
variable {X : Cx} {G : Ctx Φ} {W : WX} {pos : Pos} {e : Expr} {es : List Expr} {p : Pat} {ps : List Pat}
theorem g_nm (i : Nat) {x : Str} (hN : X.N.Nodup) (hi : X.N[i]? = some x := by rfl) (hx : Loc X.env.scope x := by first | exact Or.inl rfl | exact Or.inr rfl) (hf : X.fn x = true ∨ X.env.scope.names.lookup x = some .local := by first | exact .inl rfl | exact .inr rfl | assumption) : PG X (.Name x pos) (gP G (.nm i)) :=
  PG.weak (pg_name hN hi hx hf) fun v σ H Q h => by
    obtain ⟨ρ, φ, F, O, d, ρ', r, hd, e, q⟩ := h
    cases e
    exact q _ (r.setVal hd) fun j hj => List.getElem?_set_ne fun z => hj (by rw [z]; exact List.mem_singleton.mpr rfl)
theorem g_nil : PGs X [] (gPs G []) := PGs.weak pgs_nil fun vs σ H Q h => by
  obtain ⟨ρ, φ, F, O, ds, ρ', r, hd, e, q⟩ := h
  cases ds with
  | nil => cases hd; cases e; exact ⟨rfl, q _ r fun _ _ => rfl⟩
  | cons d ds => cases e
theorem g_cons (h1 : PG X e (gP G p)) (h2 : PGs X es (gPs G ps)) (hs : (assignEach (e :: es) X.env).map (·.2) = assign e X.env :: (assignEach es X.env).map (·.2) := by rfl) : PGs X (e :: es) (gPs G (p :: ps)) :=
  PGs.weak (pgs_cons h1 h2 hs) fun vs σ H Q h => by
    obtain ⟨ρ, φ, F, O, ds, ρ', r, hd, e, q⟩ := h
    cases ds with
    | nil => cases e
    | cons d ds =>
      cases hd with
      | cons k1 k2 =>
        unfold patSets at e
        split at e
        · rename_i ρ1 e1
          exact ⟨_, _, rfl, ρ, φ, F, O, d, ρ1, r, k1, e1, fun σ' r' o => ⟨ρ1, φ, F, O, ds, ρ', r', k2, e, fun τ rr o2 => q τ rr fun j hj => (o2 j fun z => hj (List.mem_append_right _ z)).trans (o j fun z => hj (List.mem_append_left _ z))⟩⟩
        · cases e
theorem g_tp {k n : Nat} (hc : X.calm = true) (h : PGs X es (gPs G ps)) (hl : ps.length = n) (hn : (assignEach es X.env).length = n := by rfl) (hst : (assignEach es X.env).findIdx? (·.1) = none := by rfl) : PG X (.Tuple es k pos) (gP G (.tp ps)) :=
  PG.weak (pg_tup hc h hn hst) fun v σ H Q h => by
    obtain ⟨ρ, φ, F, O, d, ρ', r, hd, e, q⟩ := h
    cases d with
    | tup ds =>
      unfold patSet at e
      split at e
      · rename_i hz
        cases hd with
        | tup k1 k2 => exact ⟨_, _, rfl, SqT.of (hide_some k1).2, by rw [k2.length, ← hz]; exact hl, ρ, φ, F, O, ds, ρ', r, k2, e, q⟩
      · cases e
    | _ => unfold patSet at e; cases e

/-! ### small statements, blocks -/
def mSeq (m n : M Φ Fl) : M Φ Fl := fun ρ φ => match m ρ φ with
  | .ok .nx ρ1 φ1 => n ρ1 φ1
  | .ok .bk ρ1 φ1 => .ok .bk ρ1 φ1
  | .ok .ct ρ1 φ1 => .ok .ct ρ1 φ1
  | .ok (.rt r) ρ1 φ1 => .ok (.rt r) ρ1 φ1
  | .err c es ρ1 φ1 => .err c es ρ1 φ1
  | .stuck => .stuck
section
variable {F O : List Addr} {H : Hp} {ρ : List Sl} {φ : Φ} {D : Ends} {α : Type} {σ : St}
theorem GoodS.seq {m n : M Φ Fl} (h : GoodS G W F O H (mSeq m n ρ φ) D) : GoodS G W F O H (m ρ φ) { D with nx := fun σ' H' => dS G W n D σ' H' } := by
  unfold mSeq at h
  cases e : m ρ φ with
  | ok fl ρ1 φ1 =>
    rw [e] at h
    cases fl with
    | nx => exact fun F' O' H' σ' x r => ⟨ρ1, φ1, F', O', r, h.ext x⟩
    | bk => exact h
    | ct => exact h
    | rt v => exact h
  | err c es ρ1 φ1 => rw [e] at h; exact h
  | stuck => rw [e] at h; exact h
theorem GoodS.bindE {m : M Φ α} {k : α → M Φ Fl} (h : GoodS G W F O H (mB m k ρ φ) D) : Good G W σ F O H (m ρ φ) (fun a ρ1 φ1 F1 O1 H1 => GoodS G W F1 O1 H1 (k a ρ1 φ1) D) := by
  unfold mB at h
  cases e : m ρ φ with
  | ok a ρ1 φ1 =>
    rw [e] at h
    exact fun F' O' H' x r => GoodS.ext x h
  | err c es ρ1 φ1 =>
    rw [e] at h
    exact fun F' O' H' cls d x r er => h F' O' H' cls d σ x r er
  | stuck => rw [e] at h; exact h
end
variable {st : Stmt} {rest : List Stmt} {m n : M Φ Fl} {me mb : M Φ R} {t : M Φ (List D)} {c : Expr} {tc : M Φ Bool}
theorem ss_nil : PSs X [] (dS G W (mP .nx)) := PSs.weak pss_nil fun D σ H h => by
  obtain ⟨ρ, φ, F, O, r, g⟩ := h
  exact g F O H σ .refl r
theorem ss_cons (h1 : PS X st (dS G W m)) (h2 : PSs X rest (dS G W n)) : PSs X (st :: rest) (dS G W (mSeq m n)) := PSs.weak (pss_cons h1 h2) fun D σ H h => by
  obtain ⟨ρ, φ, F, O, r, g⟩ := h
  exact ⟨ρ, φ, F, O, r, g.seq⟩
theorem ss_one (h1 : PS X st (dS G W m)) : PSs X [st] (dS G W m) := pss_one h1
theorem s_pass : PS X (.Pass pos) (dS G W (mP .nx)) := PS.weak ps_pass fun D σ H h => by
  obtain ⟨ρ, φ, F, O, r, g⟩ := h
  exact g F O H σ .refl r
theorem s_break : PS X (.Break pos) (dS G W (mP .bk)) := PS.weak ps_break fun D σ H h => by
  obtain ⟨ρ, φ, F, O, r, g⟩ := h
  exact g F O H σ .refl r
theorem s_cont : PS X (.Continue pos) (dS G W (mP .ct)) := PS.weak ps_continue fun D σ H h => by
  obtain ⟨ρ, φ, F, O, r, g⟩ := h
  exact g F O H σ .refl r
def mRet (m : M Φ R) : M Φ Fl := mB m fun r => mP (.rt r)
theorem s_ret (h : PE X e (dE G W me)) : PS X (.Return (some e) pos) (dS G W (mRet me)) := PS.weak (ps_ret h) fun D σ H h => by
  obtain ⟨ρ, φ, F, O, r, g⟩ := h
  exact ⟨ρ, φ, F, O, r, Good.mono g.bindE fun a ρ1 φ1 F1 O1 H1 _ x1 r1 g1 v rv => g1 F1 O1 H1 σ .refl r1 v rv⟩
theorem s_retN : PS X (.Return none pos) (dS G W (mP (.rt (.val .non)))) := PS.weak ps_retN fun D σ H h => by
  obtain ⟨ρ, φ, F, O, r, g⟩ := h
  exact g F O H σ .refl r .non .non
def mDrop (m : M Φ R) : M Φ Fl := mB m fun _ => mP .nx
theorem s_expr (h : PE X e (dE G W me)) (hs : swapsWith e none pos.line X.env = pure false := by rfl) : PS X (.Expr e pos) (dS G W (mDrop me)) := PS.weak (ps_expr h hs) fun D σ H h => by
  obtain ⟨ρ, φ, F, O, r, g⟩ := h
  exact use r (Good.mono g.bindE fun a ρ1 φ1 F1 O1 H1 _ x1 r1 g1 O2 v r2 x2 _ => g1 F1 O2 H1 σ x2 r2)
theorem s_doc {x j pos'} : PS X (.Expr (.Constant (.str x) j pos) pos') (dS G W (mP .nx)) := PS.weak ps_doc fun D σ H h => by
  obtain ⟨ρ, φ, F, O, r, g⟩ := h
  exact g F O H σ .refl r
def slOf : R → Sl
  | .val d => .val d
  | .new ds => .own ds
def mAsg (i : Nat) (m : M Φ R) : M Φ Fl := mB m fun r => fun ρ φ => .ok .nx (ρ.set i (slOf r)) φ
theorem dS_asg {i : Nat} {D : Ends} {σ : St} {H : Hp} (h : dS G W (mAsg i me) D σ H) : dE G W me σ H (fun x H1 => gName i x σ H1 D.nx) := by
  obtain ⟨ρ, φ, F, O, r, g⟩ := h
  refine ⟨ρ, φ, F, O, r, Good.mono g.bindE fun a ρ1 φ1 F1 O1 H1 _ x1 r1 g1 v rv => ?_⟩
  cases a with
  | val d => exact g1 F1 O1 H1 _ .refl (r1.setVal rv)
  | new ds => exact g1 F1 O1 H1 _ .refl (r1.setNew rv)
theorem s_set (i : Nat) {x : Str} {pos' : Pos} (hN : X.N.Nodup) (he : PE X e (dE G W me)) (hi : X.N[i]? = some x := by rfl) (hx : Loc X.env.scope x := by first | exact Or.inl rfl | exact Or.inr rfl) (hs : swapsWith e (some (.Name x pos')) pos.line X.env = pure false := by rfl) (hf : X.fn x = true ∨ X.env.scope.names.lookup x = some .local := by first | exact .inl rfl | exact .inr rfl | assumption) :
    PS X (.Assign [.Name x pos'] e pos) (dS G W (mAsg i me)) := PS.weak (ps_set hN hi hx he hs hf) fun D σ H h => dS_asg h
def mAsgP (p : Pat) (m : M Φ R) : M Φ Fl := mB m fun r => fun ρ φ => match patSet p r.d ρ with
  | some ρ' => .ok .nx ρ' φ
  | none => .stuck
theorem s_setP {tg : Expr} (he : PE X e (dE G W me)) (hg : PG X tg (gP G p)) (hs : swapsWithSole [tg] e pos.line X.env = pure false := by rfl) (hw : swappedStores [tg] e X.env = pure none := by rfl)
    (h1 : (assignEach [tg] X.env).map (·.2) = [assign tg X.env] := by rfl) : PS X (.Assign [tg] e pos) (dS G W (mAsgP p me)) := PS.weak (ps_asg he hg hs hw h1) fun D σ H h => by
  obtain ⟨ρ, φ, F, O, r, g⟩ := h
  refine use r (Good.mono g.bindE fun a ρ1 φ1 F1 O1 H1 _ x1 r1 g1 O2 v r2 x2 d2 => ?_)
  split at g1
  · rename_i ρ' e1
    exact ⟨ρ1, φ1, F1, O2, a.d, ρ', r2, d2, e1, fun σ' r' _ => g1 F1 O2 H1 σ' x2 r'⟩
  · exact g1.elim
/-- a, b = e1, e2 -/
def mPar (i j : Nat) (t : M Φ (List D)) : M Φ Fl := mB t fun ds => fun ρ φ => match ds with
  | [d, e] => .ok .nx ((ρ.set i (.val d)).set j (.val e)) φ
  | _ => .stuck
theorem s_par (i j : Nat) {x y : Str} {a b : Expr} {px py pt : Pos} {kt k2 pt2} (hc : X.calm = true) (hN : X.N.Nodup) (ha : PA X [a, b] (dA G W t)) (hi : X.N[i]? = some x := by rfl) (hj : X.N[j]? = some y := by rfl) (hij : i ≠ j := by decide)
    (hx : X.env.scope.names.lookup x = some .local := by rfl) (hy : X.env.scope.names.lookup y = some .local := by rfl)
    (hw : swappedStores [.Tuple [.Name x px, .Name y py] kt pt] (.Tuple [a, b] k2 pt2) X.env = pure (some [x, y]) := by rfl)
    (hs : swapsWithSole [.Tuple [.Name x px, .Name y py] kt pt] (.Tuple [a, b] k2 pt2) pos.line X.env = pure false := by rfl) :
    PS X (.Assign [.Tuple [.Name x px, .Name y py] kt pt] (.Tuple [a, b] k2 pt2) pos) (dS G W (mPar i j t)) := PS.weak (ps_par hc hN hi hj hij hx hy ha hw hs) fun D σ H h => by
  obtain ⟨ρ, φ, F, O, r, g⟩ := h
  refine useA r (Good.mono g.bindE fun ds ρ1 φ1 F1 O1 H1 _ x1 _ g1 vs r1 hv => ?_)
  split at g1
  · rename_i d e
    obtain ⟨v, w, rfl, k1, k2⟩ := hv.two
    exact ⟨v, w, rfl, g1 F1 O1 H1 _ .refl ((r1.setVal k1).setVal k2)⟩
  · exact g1.elim
/-- x += e -/
def mAug (i : Nat) (f : D → D → M Φ R) (m : M Φ R) : M Φ Fl := fun ρ φ => match ρ[i]? with
  | some (.val d) => mB (mB m fun r => f d r.d) (fun r => fun ρ φ => .ok .nx (ρ.set i (.val r.d)) φ) ρ φ
  | _ => .stuck
theorem s_aug (i : Nat) {x : Str} {pos' : Pos} {op : Operator} {r2 : R2} {f : D → D → M Φ R} (hN : X.N.Nodup) (ho : OpR X (inplaceOp op) r2) (hd : OpDen G W r2 f) (he : PE X e (dE G W me)) (hi : X.N[i]? = some x := by rfl) (hx : Loc X.env.scope x := by first | exact Or.inl rfl | exact Or.inr rfl) (hf : X.fn x = true ∨ X.env.scope.names.lookup x = some .local := by first | exact .inl rfl | exact .inr rfl | assumption) :
    PS X (.AugAssign (.Name x pos') op e pos) (dS G W (mAug i f me)) := PS.weak (ps_aug (ti := r2) hN hi hx he (fun pins s σ H x y v u Q I r1 r2 h => ho pins s σ H x y v u Q I r1 r2 h) hf) fun D σ H h => by
  obtain ⟨ρ, φ, F, O, r, g⟩ := h
  unfold mAug at g
  split at g
  · rename_i d e
    obtain ⟨v, e1, e2⟩ := r.val i d e
    refine ⟨v, e1, ?_⟩
    have g' : Good G W σ F O H (mB me (fun r => f d r.d) ρ φ) (fun a ρ1 φ1 F1 O1 H1 => GoodS G W F1 O1 H1 (.ok .nx (ρ1.set i (.val a.d)) φ1) D) := GoodS.bindE g
    refine use r (Good.mono g'.bind fun a ρ1 φ1 F1 O1 H1 _ x1 _ g1 O2 w r2 x2 d2 => ?_)
    have xx := x1.trans x2
    refine hd _ _ _ _ _ _ _ _ _ _ _ r2 (e2.mono xx.sm xx.fe) d2 (Good.mono (g1.ext x2) fun b ρ3 φ3 F3 O3 H3 _ x3 r3 g3 z rz => ?_)
    obtain ⟨O4, r4, x4, d4⟩ := r3.freeze rz
    exact (GoodS.ext x4 g3) F3 O4 H3 _ .refl (r4.setVal d4)
  · exact g.elim
def dAddI : D → D → M Φ R := dI2 fun i j => .int (i + j)
theorem s_augAdd (i : Nat) {x : Str} {pos' : Pos} (hN : X.N.Nodup) (he : PE X e (dE G W me)) (hi : X.N[i]? = some x := by rfl) (hx : Loc X.env.scope x := by first | exact Or.inl rfl | exact Or.inr rfl) (hf : X.fn x = true ∨ X.env.scope.names.lookup x = some .local := by first | exact .inl rfl | exact .inr rfl | assumption) :
    PS X (.AugAssign (.Name x pos') .Add e pos) (dS G W (mAug i dAddI me)) := s_aug i hN iop_add (den_I0 fun _ _ _ _ => .int _) he hi hx hf
theorem s_augSub (i : Nat) {x : Str} {pos' : Pos} (hN : X.N.Nodup) (he : PE X e (dE G W me)) (hi : X.N[i]? = some x := by rfl) (hx : Loc X.env.scope x := by first | exact Or.inl rfl | exact Or.inr rfl) (hf : X.fn x = true ∨ X.env.scope.names.lookup x = some .local := by first | exact .inl rfl | exact .inr rfl | assumption) :
    PS X (.AugAssign (.Name x pos') .Sub e pos) (dS G W (mAug i dSub me)) := s_aug i hN iop_sub (den_I0 fun _ _ _ _ => .int _) he hi hx hf
/-- x[k] = e, x a name that owns its list -/
def mSetIx (i : Nat) (mk m : M Φ R) : M Φ Fl := mB m fun r => fun ρ φ => match ρ[i]? with
  | some (.own _) => mB mk (fun k => fun ρ2 φ2 => match ρ2[i]?, k.d with
    | some (.own ds), .int z => (match ixN ds.length z with
      | some j => .ok .nx (ρ2.set i (.own (ds.set j r.d))) φ2
      | none => .stuck)
    | _, _ => .stuck) ρ φ
  | _ => .stuck
theorem s_setIx (i : Nat) {x : Str} {px ps : Pos} {k : Expr} {mk : M Φ R} (he : PE X e (dE G W me)) (hk : PE X k (dE G W mk)) (hN : X.N[i]? = some x := by rfl) (hv : Vis X.env.scope x := by first | exact Or.inl rfl | exact Or.inr (Or.inl rfl) | exact Or.inr (Or.inr rfl)) (hd : (x == ("__debug__" : Str)) = false := by decide)
    (hcd : (x == ("__classdict__" : Str)) = false := by decide)
    (ha : ∀ v, assign (.Subscript (.Name x px) k ps) X.env v = (do
      let ov ← holding [v] (eval (.Name x px) X.env)
      let iv ← holding [v, ov] (eval k X.env)
      standAt ps
      holding [v, ov, iv] (setItem ov iv v)
      release [v, ov, iv] []) := by intro _; rfl)
    (hs : swapsWithSole [.Subscript (.Name x px) k ps] e pos.line X.env = pure false := by rfl) (hw : swappedStores [.Subscript (.Name x px) k ps] e X.env = pure none := by rfl)
    (h1 : (assignEach [.Subscript (.Name x px) k ps] X.env).map (·.2) = [assign (.Subscript (.Name x px) k ps) X.env] := by rfl) :
    PS X (.Assign [.Subscript (.Name x px) k ps] e pos) (dS G W (mSetIx i mk me)) := PS.weak (ps_asg he (pg_sub (pe_var hN hv hd hcd) hk set_list ha) hs hw h1) fun D σ H h => by
  obtain ⟨ρ, φ, F, O, r, g⟩ := h
  refine use r (Good.mono g.bindE fun a ρ1 φ1 F1 O1 H1 _ x1 r1 g1 O2 v r2 x2 d2 => ?_)
  show gSub (tVar i) (dE G W mk) rSetL v σ H1 D.nx
  split at g1
  · rename_i ds0 e0
    obtain ⟨p, xs0, e1, _⟩ := r2.own i ds0 e0
    refine ⟨_, e1, use r2 (Good.mono (GoodS.bindE (GoodS.ext x2 g1)) fun kk ρ3 φ3 F3 O3 H3 _ x3 _ g3 O4 w r4 x4 d4 => ?_)⟩
    split at g3
    · rename_i ds z es ek
      obtain ⟨p', xs, e1', e2, e3, e4⟩ := r4.own i ds es
      rw [e1] at e1'; cases e1'
      cases q : ixN ds.length z with
      | none => rw [q] at g3; exact g3.elim
      | some j =>
        rw [q] at g3
        rw [ek] at d4
        cases d4
        have xx := x3.trans x4
        obtain ⟨r5, x5⟩ := r4.write (ys := xs.set j v) (es := ds.set j a.d) es e1 e3 (RDs.set (d2.mono xx.sm xx.fe) j e4)
        exact ⟨_, _, _, _, rfl, rfl, e3, by rw [e4.length]; exact q, (GoodS.ext x4 g3) F3 O4 _ σ x5 r5⟩
    · exact g3.elim
  · exact g1.elim
/-- x.append(e), x a name that owns its list -/
def mApp (i : Nat) (m : M Φ R) : M Φ R := fun ρ φ => match ρ[i]? with
  | some (.own _) => mB m (fun r => fun ρ2 φ2 => match ρ2[i]? with
    | some (.own ds) => if ds.length < 16777216 then .ok (.val .non) (ρ2.set i (.own (ds ++ [r.d]))) φ2 else .stuck
    | _ => .stuck) ρ φ
  | _ => .stuck
theorem q_app (i : Nat) {x : Str} {px pa pos : Pos} (he : PE X e (dE G W me)) (hN : X.N[i]? = some x := by rfl) (hv : Vis X.env.scope x := by first | exact Or.inl rfl | exact Or.inr (Or.inl rfl) | exact Or.inr (Or.inr rfl)) (hd : (x == ("__debug__" : Str)) = false := by decide)
    (hcd : (x == ("__classdict__" : Str)) = false := by decide) (hst : starEach [e] X.env = [(false, eval e X.env)] := by rfl)
    (hbase : attributeBase (.Name x px) "append" X.env (eval (.Name x px) X.env) = eval (.Name x px) X.env := by rfl)
    (hfew : ((backTo pos (starEach [e] X.env)).all (fun x => !x.1) && (backToKw pos (keywordEach [] X.env)).all (fun x => x.1.isSome)
      && decide (([e] : List Expr).length + ([] : List Keyword).length + (if ([] : List Keyword).isEmpty then 0 else 1) < 30)) = true := by rfl)
    (hline : (pa.endLine == pos.line) = true := by rfl) (hplain : (backTo pos (starEach [] X.env)).any (·.1) = false := by rfl) :
    PE X (.Call (.Attribute (.Name x px) "append" pa) [e] [] pos) (dE G W (mApp i me)) :=
  PE.weak (pe_bm PySem.F.plainAttrs_list PySem.F.slot_list_append PySem.F.type_list_append mt_append (pe_var hN hv hd hcd) (pa_cons he pa_nil hst) hbase hfew hline hst hplain) fun σ H Q h => by
    obtain ⟨ρ, φ, F, O, r, g⟩ := h
    unfold mApp at g
    split at g
    · rename_i ds0 e0
      obtain ⟨p, xs0, e1, e2, e3, _⟩ := r.own i ds0 e0
      refine ⟨_, e1, .inl ⟨rfl, _, SqL.of e3⟩, ?_⟩
      refine use r (Good.mono g.bind fun a ρ1 φ1 F1 O1 H1 _ x1 _ g1 O2 v r2 x2 d2 => ?_)
      split at g1
      · rename_i ds es
        split at g1
        · rename_i hz
          obtain ⟨p', xs, e1', e2', e3', e4⟩ := r2.own i ds es
          rw [e1] at e1'; cases e1'
          obtain ⟨r5, x5⟩ := r2.write (ys := xs ++ [v]) (es := ds ++ [a.d]) es e1 e3' (e4.append (.cons d2 .nil))
          exact ⟨_, _, _, rfl, rfl, e3', by rw [e4.length, sizeLine_eq]; exact hz, (g1.ext x2) F1 O2 _ x5 r5 _ .non⟩
        · exact g1.elim
      · exact g1.elim
    · exact g.elim
/-- x.pop(e), x a name that owns its list -/
def mPopAt (i : Nat) (m : M Φ R) : M Φ R := fun ρ φ => match ρ[i]? with
  | some (.own _) => mB m (fun r => fun ρ2 φ2 => match ρ2[i]?, r.d with
    | some (.own ds), .int z => if -(2 ^ 63) ≤ z ∧ z < 2 ^ 63 then (match seqIndex? z ds.length with
      | some k => (match ds[k]? with
        | some d => .ok (.val d) (ρ2.set i (.own (ds.eraseIdx k))) φ2
        | none => .stuck)
      | none => .stuck) else .stuck
    | _, _ => .stuck) ρ φ
  | _ => .stuck
theorem q_popAt (i : Nat) {x : Str} {px pa pos : Pos} (he : PE X e (dE G W me)) (hN : X.N[i]? = some x := by rfl) (hv : Vis X.env.scope x := by first | exact Or.inl rfl | exact Or.inr (Or.inl rfl) | exact Or.inr (Or.inr rfl)) (hd : (x == ("__debug__" : Str)) = false := by decide)
    (hcd : (x == ("__classdict__" : Str)) = false := by decide) (hst : starEach [e] X.env = [(false, eval e X.env)] := by rfl)
    (hbase : attributeBase (.Name x px) "pop" X.env (eval (.Name x px) X.env) = eval (.Name x px) X.env := by rfl)
    (hfew : ((backTo pos (starEach [e] X.env)).all (fun x => !x.1) && (backToKw pos (keywordEach [] X.env)).all (fun x => x.1.isSome)
      && decide (([e] : List Expr).length + ([] : List Keyword).length + (if ([] : List Keyword).isEmpty then 0 else 1) < 30)) = true := by rfl)
    (hline : (pa.endLine == pos.line) = true := by rfl) (hplain : (backTo pos (starEach [] X.env)).any (·.1) = false := by rfl) :
    PE X (.Call (.Attribute (.Name x px) "pop" pa) [e] [] pos) (dE G W (mPopAt i me)) :=
  PE.weak (pe_bm PySem.F.plainAttrs_list PySem.F.slot_list_pop PySem.F.type_list_pop mt_popAt (pe_var hN hv hd hcd) (pa_cons he pa_nil hst) hbase hfew hline hst hplain) fun σ H Q h => by
    obtain ⟨ρ, φ, F, O, r, g⟩ := h
    unfold mPopAt at g
    split at g
    · rename_i ds0 e0
      obtain ⟨p, xs0, e1, e2, e3, _⟩ := r.own i ds0 e0
      refine ⟨_, e1, .inl ⟨rfl, _, SqL.of e3⟩, ?_⟩
      refine use r (Good.mono g.bind fun a ρ1 φ1 F1 O1 H1 _ x1 _ g1 O2 v r2 x2 d2 => ?_)
      split at g1
      · rename_i ds z es ez
        split at g1
        · rename_i hz
          obtain ⟨p', xs, e1', e2', e3', e4⟩ := r2.own i ds es
          rw [e1] at e1'; cases e1'
          rw [ez] at d2; cases d2
          cases q : seqIndex? z ds.length with
          | none => rw [q] at g1; exact g1.elim
          | some k =>
            rw [q] at g1
            dsimp only at g1
            cases q2 : ds[k]? with
            | none => rw [q2] at g1; exact g1.elim
            | some d =>
              rw [q2] at g1
              obtain ⟨u, z1, z2⟩ := e4.getD q2
              obtain ⟨r5, x5⟩ := r2.write (ys := xs.eraseIdx k) (es := ds.eraseIdx k) es e1 e3' (e4.eraseIdx k)
              exact ⟨_, _, _, _, _, rfl, rfl, e3', hz.1, hz.2, by rw [e4.length]; exact q, z1, (g1.ext x2) F1 O2 _ x5 r5 _ (z2.mono x5.sm x5.fe)⟩
        · exact g1.elim
      · exact g1.elim
    · exact g.elim

/-! ### if, while -/
def mIfS (t : M Φ Bool) (m n : M Φ Fl) : M Φ Fl := mB t fun b => if b = true then m else n
theorem s_if {a b : List Stmt} (hc : PT X c (dT G W tc)) (ha : PSs X a (dS G W m)) (hb : PSs X b (dS G W n)) : PS X (.If c a b pos) (dS G W (mIfS tc m n)) := PS.weak (ps_if hc ha hb) fun D σ H h => by
  obtain ⟨ρ, φ, F, O, r, g⟩ := h
  refine useB r (Good.mono g.bindE fun k ρ1 φ1 F1 O1 H1 _ x1 _ g1 r1 => ?_)
  cases k with
  | true => exact ⟨ρ1, φ1, F1, O1, r1, g1⟩
  | false => exact ⟨ρ1, φ1, F1, O1, r1, g1⟩
def mWhile : Nat → M Φ Bool → M Φ Fl → M Φ Fl
  | 0, _, _ => mS
  | k + 1, t, m => mB t fun b => if b = true then (fun ρ φ => match m ρ φ with
      | .ok .nx ρ1 φ1 => mWhile k t m ρ1 φ1
      | .ok .ct ρ1 φ1 => mWhile k t m ρ1 φ1
      | .ok .bk ρ1 φ1 => .ok .nx ρ1 φ1
      | .ok (.rt r) ρ1 φ1 => .ok (.rt r) ρ1 φ1
      | .err c es ρ1 φ1 => .err c es ρ1 φ1
      | .stuck => .stuck) else mP .nx
theorem s_while {body : List Stmt} (k : Nat) (hp : PassesOwn (model X.prog X.w) X.A X.env X.xe) (hc : PT X c (dT G W tc)) (hb : PSs X body (dS G W m)) : PS X (.While c body [] pos) (dS G W (mWhile k tc m)) := PS.weak (ps_while hp hc hb) fun D σ H h => by
  refine ⟨fun k σ H => dS G W (mWhile k tc m) D σ H, ⟨k, h⟩, fun k σ H h => ?_⟩
  obtain ⟨ρ, φ, F, O, r, g⟩ := h
  cases k with
  | zero => exact g.elim
  | succ k =>
    refine useB r (Good.mono (GoodS.bindE g) fun b ρ1 φ1 F1 O1 H1 _ x1 _ g1 r1 => ?_)
    cases b with
    | false => exact g1 F1 O1 H1 σ .refl r1
    | true =>
      refine iteT ⟨fun σ' H' => dS G W (mWhile k tc m) D σ' H', fun σ' H' h => ⟨k, Nat.lt_succ_self k, h⟩, ρ1, φ1, F1, O1, r1, ?_⟩
      have g1 : GoodS G W F1 O1 H1 (match m ρ1 φ1 with
        | .ok .nx ρ1 φ1 => mWhile k tc m ρ1 φ1
        | .ok .ct ρ1 φ1 => mWhile k tc m ρ1 φ1
        | .ok .bk ρ1 φ1 => .ok .nx ρ1 φ1
        | .ok (.rt r) ρ1 φ1 => .ok (.rt r) ρ1 φ1
        | .err c es ρ1 φ1 => .err c es ρ1 φ1
        | .stuck => .stuck) D := g1
      cases q : m ρ1 φ1 with
      | ok fl ρ2 φ2 =>
        rw [q] at g1
        cases fl with
        | nx => exact fun F' O' H' σ' x r => ⟨ρ2, φ2, F', O', r, GoodS.ext x g1⟩
        | ct => exact fun F' O' H' σ' x r => ⟨ρ2, φ2, F', O', r, GoodS.ext x g1⟩
        | bk => exact g1
        | rt v => exact g1
      | err c es ρ2 φ2 => rw [q] at g1; exact g1
      | stuck => rw [q] at g1; exact g1
end
end DN
namespace DN
open PySem PySem.Spec L2
open PyProof.Rows hiding St
variable {Φ : Type}

/-! ### what is walked -/
/-- wherever the run has got to, the iterator gives these -/
def Items (G : Ctx Φ) (F O : List Addr) (H : Hp) (ds : List D) (J : It) : Prop :=
  ∀ F' O' H', Same (hide (F ++ O) H) (hide (F' ++ O') H') → FE F F' → (∀ a, a ∈ F' ++ O' → H' a ≠ none) → ∀ i,
    (∀ d, ds[i]? = some d → J.go i H' ∧ ∀ x H2, J.yld i H' x H2 → (H2 = H' ∨ ∃ p o, H' p = none ∧ H2 = upd H' p o) ∧ RD G F' (hide (F' ++ O') H2) x d) ∧ (i = ds.length → J.stop i H')
def dI (G : Ctx Φ) (W : WX) (m : M Φ (List D)) : TI := fun σ H R => ∃ ρ φ F O, Rel G F O ρ φ σ H ∧ Good G W σ F O H (m ρ φ) (fun ds ρ' φ' F' O' H' => Rel G F' O' ρ' φ' σ H' → ∀ J, Items G F' O' H' ds J → R J H')
theorem Rel.tr {G : Ctx Φ} {F O : List Addr} {ρ : List Sl} {φ : Φ} {σ : St} {H : Hp} (r : Rel G F O ρ φ σ H) : ∀ a, a ∈ F ++ O → H a ≠ none := fun a h =>
  (List.mem_append.mp h).elim (G.trk F H φ r.fi a) (r.trk a)
theorem items_list {G : Ctx Φ} {F O : List Addr} {H : Hp} {a : Addr} {xs : List V} {ds : List D} (h : hide (F ++ O) H a = some (.lst xs)) (hd : RDs G F (hide (F ++ O) H) xs ds) : Items G F O H ds (Itl G.K a) := fun F' O' H' s fe t i => by
  have e := (hide_some (s _ _ h)).2
  have hd := hd.mono s fe
  refine ⟨fun d ed => ?_, fun hi => ⟨xs, SqL.of e, by rw [hd.length]; exact Nat.le_of_eq hi.symm⟩⟩
  obtain ⟨v, ev, rv⟩ := hd.getD ed
  refine ⟨⟨xs, v, SqL.of e, ev⟩, fun x H2 y => ?_⟩
  obtain ⟨rfl, y⟩ := y
  have := y xs (SqL.of e)
  rw [ev] at this; cases this
  exact ⟨.inl rfl, rv⟩
theorem items_tup {G : Ctx Φ} {F O : List Addr} {H : Hp} {a : Addr} {xs : List V} {ds : List D} (h : hide (F ++ O) H a = some (.tup xs)) (hd : RDs G F (hide (F ++ O) H) xs ds) : Items G F O H ds (Itt G.K a) := fun F' O' H' s fe t i => by
  have e := (hide_some (s _ _ h)).2
  have hd := hd.mono s fe
  refine ⟨fun d ed => ?_, fun hi => ⟨xs, SqT.of e, by rw [hd.length]; exact Nat.le_of_eq hi.symm⟩⟩
  obtain ⟨v, ev, rv⟩ := hd.getD ed
  refine ⟨⟨xs, v, SqT.of e, ev⟩, fun x H2 y => ?_⟩
  obtain ⟨rfl, y⟩ := y
  have := y xs (SqT.of e)
  rw [ev] at this; cases this
  exact ⟨.inl rfl, rv⟩
def rng (lo : Int) (n : Nat) : List D := (List.range n).map fun k => D.int (lo + (k : Nat))
theorem items_rng {G : Ctx Φ} {F O : List Addr} {H : Hp} (lo : Int) (n : Nat) : Items G F O H (rng lo n) (Itr lo n) := fun F' O' H' s fe t i => by
  refine ⟨fun d ed => ?_, fun hi => ?_⟩
  · unfold rng at ed
    rw [List.getElem?_map] at ed
    obtain ⟨k, ek, rfl⟩ := Option.map_eq_some_iff.mp ed
    obtain ⟨hi, ek⟩ := List.getElem?_eq_some_iff.mp ek
    rw [List.getElem_range] at ek
    subst ek
    refine ⟨show i < n by simpa using hi, fun x H2 y => ?_⟩
    obtain ⟨rfl, rfl⟩ := y
    exact ⟨.inl rfl, .int _⟩
  · show n ≤ i
    unfold rng at hi
    rw [List.length_map, List.length_range] at hi
    omega
section
variable {X : Cx} {G : Ctx Φ} {W : WX} {e : Expr} {pos : Pos} {tg : Expr} {me : M Φ R}
/-- a list or a tuple -/
def itD : D → M Φ (List D)
  | .lst ds => mP ds
  | .tup ds => mP ds
  | _ => mS
def mIt (m : M Φ R) : M Φ (List D) := mB m fun r => itD r.d
theorem PI.weak {wi wi' : TI} (h : PI X tg e wi) (w : ∀ σ H R, wi' σ H R → wi σ H R) : PI X tg e wi' := ⟨fun pins s σ H R I q => h.run pins s σ H R I (w σ H R q)⟩
theorem dI_it {σ : St} {H : Hp} {R : It → Hp → Prop} (hK : G.K = X.K) (h : dI G W (mIt me) σ H R) : iList X.K (dE G W me) σ H R ∨ iTup X.K (dE G W me) σ H R := by
  obtain ⟨ρ, φ, F, O, r, g⟩ := h
  have g := g.bind
  cases q : me ρ φ with
  | stuck => rw [q] at g; exact g.elim
  | err c es ρ1 φ1 =>
    rw [q] at g
    exact .inl (use r (by rw [q]; exact g))
  | ok x ρ1 φ1 =>
    have g := g
    rw [q] at g
    cases ed : x.d with
    | lst ds =>
      refine .inl (use r ?_)
      rw [q]
      intro F1 O1 H1 x1 r1 O2 v r2 x2 d2
      have g := g F1 O1 H1 x1 r1
      dsimp only at g
      rw [ed] at g d2
      cases d2 with
      | lst h1 h2 => exact ⟨_, rfl, ⟨_, SqL.of (hide_some h1).2⟩, hK ▸ g F1 O2 H1 x2 r2 r2 _ (items_list h1 h2)⟩
    | tup ds =>
      refine .inr (use r ?_)
      rw [q]
      intro F1 O1 H1 x1 r1 O2 v r2 x2 d2
      have g := g F1 O1 H1 x1 r1
      dsimp only at g
      rw [ed] at g d2
      cases d2 with
      | tup h1 h2 => exact ⟨_, rfl, ⟨_, SqT.of (hide_some h1).2⟩, hK ▸ g F1 O2 H1 x2 r2 r2 _ (items_tup h1 h2)⟩
    | _ =>
      refine .inl (use r ?_)
      rw [q]
      intro F1 O1 H1 x1 r1
      have g := g F1 O1 H1 x1 r1
      dsimp only at g
      rw [ed] at g
      exact g.elim
theorem i_it (hK : G.K = X.K) (he : PE X e (dE G W me)) : PI X tg e (dI G W (mIt me)) := ⟨fun pins s σ H R I h => (dI_it hK h).elim (fun q => (pi_list he).run pins s σ H R I q) fun q => (pi_tup he).run pins s σ H R I q⟩
/-- range -/
def mRng (t : M Φ (List D)) : M Φ (List D) := mB t fun ds => match ds with
  | [.int j] => if -4611686018427387904 ≤ j ∧ j < 4611686018427387904 then mP (rng 0 j.toNat) else mS
  | [.int i, .int j] => if -4611686018427387904 ≤ i ∧ i < 4611686018427387904 ∧ -4611686018427387904 ≤ j ∧ j < 4611686018427387904 then mP (rng i (j - i).toNat) else mS
  | _ => mS
theorem i_rng1 {a : Expr} {t : M Φ (List D)} {p pos : Pos} (hg : Gl X "range") (hm : X.mg "range" = none) (ha : PA X [a] (dA G W t)) (ht : Ar 1 t) (hs : starEach [a] X.env = [(false, eval a X.env)] := by rfl) : PI X tg (.Call (.Name "range" p) [a] [] pos) (dI G W (mRng t)) :=
  PI.weak (pi_range1 hg hm ha hs) fun σ H R h => by
    obtain ⟨ρ, φ, F, O, r, g⟩ := h
    refine useA r (Good.mono g.bind fun ds ρ1 φ1 F1 O1 H1 e1 x1 _ g1 vs r1 hv => ?_)
    have hl := ht _ _ _ _ _ e1
    split at g1
    · split at g1
      · rename_i j hj
        obtain ⟨v, rfl, h1⟩ := hv.one
        cases h1
        refine ⟨j, rfl, by omega, by omega, g1.ok r1 r1 _ (items_rng _ _)⟩
      · exact g1.elim
    · cases hl
    · exact g1.elim
theorem i_rng2 {a b : Expr} {t : M Φ (List D)} {p pos : Pos} (hg : Gl X "range") (hm : X.mg "range" = none) (ha : PA X [a, b] (dA G W t)) (ht : Ar 2 t) (hs : starEach [a, b] X.env = [(false, eval a X.env), (false, eval b X.env)] := by rfl) (hs2 : starEach [b] X.env = [(false, eval b X.env)] := by rfl) : PI X tg (.Call (.Name "range" p) [a, b] [] pos) (dI G W (mRng t)) :=
  PI.weak (pi_range2 hg hm ha hs hs2) fun σ H R h => by
    obtain ⟨ρ, φ, F, O, r, g⟩ := h
    refine useA r (Good.mono g.bind fun ds ρ1 φ1 F1 O1 H1 e1 x1 _ g1 vs r1 hv => ?_)
    have hl := ht _ _ _ _ _ e1
    split at g1
    · cases hl
    · split at g1
      · rename_i i j hj
        obtain ⟨v, w, rfl, h1, h2⟩ := hv.two
        cases h1; cases h2
        refine ⟨i, j, rfl, ⟨by omega, by omega, by omega, by omega⟩, g1.ok r1 r1 _ (items_rng _ _)⟩
      · exact g1.elim
    · exact g1.elim

/-! ### for -/
def mFor (p : Pat) (m : M Φ Fl) : List D → M Φ Fl
  | [] => mP .nx
  | d :: ds => fun ρ φ => match patSet p d ρ with
    | none => .stuck
    | some ρ1 => match m ρ1 φ with
      | .ok .nx ρ2 φ2 => mFor p m ds ρ2 φ2
      | .ok .ct ρ2 φ2 => mFor p m ds ρ2 φ2
      | .ok .bk ρ2 φ2 => .ok .nx ρ2 φ2
      | .ok (.rt r) ρ2 φ2 => .ok (.rt r) ρ2 φ2
      | .err c es ρ2 φ2 => .err c es ρ2 φ2
      | .stuck => .stuck
theorem Rel.grown {F O : List Addr} {ρ : List Sl} {φ : Φ} {σ : St} {H H2 : Hp} (r : Rel G F O ρ φ σ H) (h : H2 = H ∨ ∃ p o, H p = none ∧ H2 = upd H p o) : Rel G F O ρ φ σ H2 ∧ Ext G F O H F O H2 := by
  rcases h with rfl | ⟨p, o, hp, rfl⟩
  · exact ⟨r, .refl⟩
  · exact r.laid hp
theorem s_for {iter : Expr} {body : List Stmt} {mi : M Φ (List D)} {m : M Φ Fl} {p : Pat} (hp : PassesOwn (model X.prog X.w) X.A X.env X.xe) (hc : X.calm = true) (hi : PI X tg iter (dI G W mi)) (hg : PG X tg (gP G p)) (hb : PSs X body (dS G W m))
    (hs : ∀ x, foldedSetIterable iter X.env x = pure x := by intro _; rfl) : PS X (.For tg iter body [] pos) (dS G W (mB mi (mFor p m))) := PS.weak (ps_for hp hc hi hg hb hs) fun D σ H h => by
  obtain ⟨ρ, φ, F, O, r, g⟩ := h
  refine ⟨ρ, φ, F, O, r, Good.mono g.bindE fun ds ρ1 φ1 F1 O1 H1 _ x1 _ g1 r1 J it => ?_⟩
  refine ⟨fun i n σ H => (n = ds.length - i ∧ i ≤ ds.length) ∧ ∃ ρ φ F O, Rel G F O ρ φ σ H ∧ Ext G F1 O1 H1 F O H ∧ GoodS G W F O H (mFor p m (ds.drop i) ρ φ) D, ⟨_, ⟨rfl, Nat.zero_le _⟩, ρ1, φ1, F1, O1, r1, .refl, by simpa using g1⟩, fun i n σ H w => ?_⟩
  obtain ⟨⟨hn, hle⟩, ρ2, φ2, F2, O2, r2, x2, g2⟩ := w
  have iti := it F2 O2 H x2.sm x2.fe r2.tr i
  cases ed : ds[i]? with
  | none =>
    have hl := List.getElem?_eq_none_iff.mp ed
    rw [List.drop_eq_nil_of_le hl] at g2
    exact .inl ⟨iti.2 (Nat.le_antisymm hle hl), g2 F2 O2 H σ .refl r2⟩
  | some d =>
    obtain ⟨hi2, e2⟩ := List.getElem?_eq_some_iff.mp ed
    rw [List.drop_eq_getElem_cons hi2, e2] at g2
    obtain ⟨go, yl⟩ := iti.1 d ed
    refine .inr ⟨go, fun σ' H' => ∃ n', n' < n ∧ (n' = ds.length - (i + 1) ∧ i + 1 ≤ ds.length) ∧ ∃ ρ φ F O, Rel G F O ρ φ σ' H' ∧ Ext G F1 O1 H1 F O H' ∧ GoodS G W F O H' (mFor p m (ds.drop (i + 1)) ρ φ) D, fun σ' H' ⟨n', a, b⟩ => ⟨n', a, b⟩, fun x H' y => ?_⟩
    obtain ⟨gr, rx⟩ := yl x H' y
    obtain ⟨r3, x3⟩ := r2.grown gr
    have g3 := g2.ext x3
    unfold mFor at g3
    split at g3
    · exact g3.elim
    · rename_i ρ3 e3
      refine ⟨ρ2, φ2, F2, O2, d, ρ3, r3, rx, e3, fun σ' r' _ => ⟨ρ3, φ2, F2, O2, r', ?_⟩⟩
      have x23 := x2.trans x3
      have lt : ds.length - (i + 1) < n := by omega
      cases q : m ρ3 φ2 with
      | ok fl ρ4 φ4 =>
        rw [q] at g3
        cases fl with
        | nx => exact fun F4 O4 H4 σ4 x4 r4 => ⟨_, lt, ⟨rfl, hi2⟩, ρ4, φ4, F4, O4, r4, x23.trans x4, g3.ext x4⟩
        | ct => exact fun F4 O4 H4 σ4 x4 r4 => ⟨_, lt, ⟨rfl, hi2⟩, ρ4, φ4, F4, O4, r4, x23.trans x4, g3.ext x4⟩
        | bk => exact g3
        | rt v => exact g3
      | err c es ρ4 φ4 => rw [q] at g3; exact g3
      | stuck => rw [q] at g3; exact g3
end
end DN
namespace DN
open PySem PySem.Spec L2
open PyProof.Rows hiding St
variable {Φ : Type}

/-! ### list comprehensions -/
mutual
theorem patSet_len : ∀ {p : Pat} {d : D} {ρ ρ' : List Sl}, patSet p d ρ = some ρ' → ρ'.length = ρ.length
  | .nm i, d, ρ, ρ', h => by cases h; rw [List.length_set]
  | .tp ps, .tup ds, ρ, ρ', h => by
    unfold patSet at h
    split at h
    · exact patSets_len h
    · cases h
  | .tp ps, .non, _, _, h => by unfold patSet at h; cases h
  | .tp ps, .bl _, _, _, h => by unfold patSet at h; cases h
  | .tp ps, .int _, _, _, h => by unfold patSet at h; cases h
  | .tp ps, .str _, _, _, h => by unfold patSet at h; cases h
  | .tp ps, .lst _, _, _, h => by unfold patSet at h; cases h
  | .tp ps, .obj _ _, _, _, h => by unfold patSet at h; cases h
  | .tp ps, .fd, _, _, h => by unfold patSet at h; cases h
  | .tp ps, .scr _, _, _, h => by unfold patSet at h; cases h
theorem patSets_len : ∀ {p : List Pat} {d : List D} {ρ ρ' : List Sl}, patSets p d ρ = some ρ' → ρ'.length = ρ.length
  | [], [], ρ, ρ', h => by cases h; rfl
  | p :: ps, d :: ds, ρ, ρ', h => by
    unfold patSets at h
    split at h
    · rename_i ρ1 e1
      rw [patSets_len h, patSet_len e1]
    · cases h
  | [], d :: ds, _, _, h => by unfold patSets at h; cases h
  | p :: ps, [], _, _, h => by unfold patSets at h; cases h
end
def wipeR (ρ : List Sl) : List Nat → List Sl
  | [] => ρ
  | v :: vs => (wipeR ρ vs).set v .emp
def noOwn (ρ : List Sl) (vs : List Nat) : Bool := vs.all fun v => match ρ[v]? with
  | some (.own _) => false
  | _ => true
/-- the names of the block as they were -/
def backR (ρ0 ρ : List Sl) : List Nat → List Sl
  | [] => ρ
  | v :: vs => (backR ρ0 ρ vs).set v (ρ0.getD v .emp)
theorem wipeR_length (ρ : List Sl) : ∀ vs, (wipeR ρ vs).length = ρ.length
  | [] => rfl
  | v :: vs => by unfold wipeR; rw [List.length_set, wipeR_length ρ vs]
theorem backR_length (ρ0 ρ : List Sl) : ∀ vs, (backR ρ0 ρ vs).length = ρ.length
  | [] => rfl
  | v :: vs => by unfold backR; rw [List.length_set, backR_length ρ0 ρ vs]
theorem wipeR_out {ρ : List Sl} {i : Nat} : ∀ {vs : List Nat}, i ∉ vs → (wipeR ρ vs)[i]? = ρ[i]?
  | [], _ => rfl
  | v :: vs, h => by
    rw [List.mem_cons, not_or] at h
    unfold wipeR
    rw [List.getElem?_set_ne (Ne.symm h.1)]
    exact wipeR_out h.2
theorem wipeR_in {ρ : List Sl} {i : Nat} : ∀ {vs : List Nat}, i ∈ vs → i < ρ.length → (wipeR ρ vs)[i]? = some .emp
  | v :: vs, h, hi => by
    unfold wipeR
    by_cases z : v = i
    · subst z
      rw [List.getElem?_set_self (by rw [wipeR_length]; exact hi)]
    · rw [List.getElem?_set_ne z]
      exact wipeR_in ((List.mem_cons.mp h).resolve_left (Ne.symm z)) hi
theorem backR_out {ρ0 ρ : List Sl} {i : Nat} : ∀ {vs : List Nat}, i ∉ vs → (backR ρ0 ρ vs)[i]? = ρ[i]?
  | [], _ => rfl
  | v :: vs, h => by
    rw [List.mem_cons, not_or] at h
    unfold backR
    rw [List.getElem?_set_ne (Ne.symm h.1)]
    exact backR_out h.2
theorem backR_in {ρ0 ρ : List Sl} {i : Nat} : ∀ {vs : List Nat}, i ∈ vs → i < ρ.length → (backR ρ0 ρ vs)[i]? = some (ρ0.getD i .emp)
  | v :: vs, h, hi => by
    unfold backR
    by_cases z : v = i
    · subst z
      rw [List.getElem?_set_self (by rw [backR_length]; exact hi)]
    · rw [List.getElem?_set_ne z]
      exact backR_in ((List.mem_cons.mp h).resolve_left (Ne.symm z)) hi
theorem wipe_eq {σ σ' : St} {l vs : List Nat} (hl : σ'.length = σ.length) (o : Off l σ σ') (s : ∀ i, i ∈ l → i ∈ vs) : wipe σ' vs = wipe σ vs := by
  have inn : ∀ (τ : St) (i : Nat) (ws : List Nat), i ∈ ws → i < τ.length → (wipe τ ws)[i]? = some none := fun τ i ws => by
    induction ws with
    | nil => intro h; cases h
    | cons v ws ih =>
      intro h hi
      unfold wipe
      by_cases z : v = i
      · subst z
        rw [List.getElem?_set_self (by rw [wipe_length]; exact hi)]
      · rw [List.getElem?_set_ne z]
        exact ih ((List.mem_cons.mp h).resolve_left (Ne.symm z)) hi
  refine List.ext_getElem? fun i => ?_
  by_cases hi : i ∈ vs
  · by_cases hl2 : i < σ.length
    · rw [inn σ i vs hi hl2, inn σ' i vs hi (by omega)]
    · rw [List.getElem?_eq_none (by rw [wipe_length]; omega), List.getElem?_eq_none (by rw [wipe_length]; omega)]
  · rw [wipe_out hi, wipe_out hi]
    exact o i fun z => hi (s i z)
section
variable {G : Ctx Φ} {F O : List Addr} {ρ : List Sl} {φ : Φ} {σ : St} {H : Hp} {P P' : List Addr}
theorem Rel.wiped (r : Rel G F O ρ φ σ H) (vs : List Nat) : Rel G F O (wipeR ρ vs) φ (wipe σ vs) H := by
  have old : ∀ (i : Nat) (sl : Sl), (wipeR ρ vs)[i]? = some sl → sl = .emp ∨ (i ∉ vs ∧ ρ[i]? = some sl) := fun i sl e => by
    by_cases hi : i ∈ vs
    · have hl := (List.getElem?_eq_some_iff.mp e).1
      rw [wipeR_length] at hl
      rw [wipeR_in hi hl] at e
      exact .inl (Option.some.inj e).symm
    · rw [wipeR_out hi] at e
      exact .inr ⟨hi, e⟩
  refine ⟨by rw [wipe_length, wipeR_length]; exact r.len, fun i d e => ?_, fun i ds e => ?_, fun i j ds es e e' he => ?_, r.disj, r.trk, r.fi, r.psub, fun i ds a e ea => ?_⟩
  · rcases old i _ e with z | ⟨n, z⟩
    · cases z
    · rw [wipe_out n]; exact r.val i d z
  · rcases old i _ e with z | ⟨n, z⟩
    · cases z
    · rw [wipe_out n]; exact r.own i ds z
  · rcases old i _ e with z | ⟨n, z⟩
    · cases z
    · rcases old j _ e' with y | ⟨m, y⟩
      · cases y
      · rw [wipe_out n, wipe_out m] at he
        exact r.inj i j ds es z y he
  · rcases old i _ e with z | ⟨n, z⟩
    · cases z
    · rw [wipe_out n] at ea
      exact r.pno i ds a z ea
theorem Rel.re (r : Rel (G.at P) F O ρ φ σ H) (h1 : ∀ a, a ∈ P' → a ∈ O) (h2 : ∀ (i : Nat) (ds : List D) (a : Addr), ρ[i]? = some (.own ds) → σ[i]? = some (some (.ref a)) → a ∉ P') : Rel (G.at P') F O ρ φ σ H :=
  ⟨r.len, fun i d e => let ⟨v, a, b⟩ := r.val i d e; ⟨v, a, b.at_.to⟩, fun i ds e => let ⟨a, xs, k1, k2, k3, k4⟩ := r.own i ds e; ⟨a, xs, k1, k2, k3, k4.at_.to⟩, r.inj, r.disj, r.trk, r.fi, h1, h2⟩
theorem Ext.re {F' O' : List Addr} {H' : Hp} (x : Ext (G.at P) F O H F' O' H') (h : ∀ a, a ∈ P' → a ∈ P) : Ext (G.at P') F O H F' O' H' := ⟨x.sm, x.fe, fun a ha => x.pk a (h a ha)⟩
theorem RR.re {v : V} {x : R} (h : RR (G.at P) F O σ ρ H v x) (hp : ∀ a, a ∈ P' → a ∈ P) : RR (G.at P') F O σ ρ H v x := by
  cases x with
  | val d => exact RD.to (RD.at_ h)
  | new ds =>
    obtain ⟨a, xs, k1, k2, k3, k4, k5, k6⟩ := h
    exact ⟨a, xs, k1, k2, k3, k4.at_.to, fun z => k5 (hp a z), k6⟩
/-- at the end of the block -/
theorem Rel.backed {F1 O1 : List Addr} {H1 : Hp} {ρ1 : List Sl} {φ1 : Φ} {vs : List Nat} (r : Rel G F O ρ φ σ H) (x : Ext G F O H F1 O1 H1) (no : noOwn ρ vs = true) (r1 : Rel G F1 O1 ρ1 φ1 (wipe σ vs) H1) : Rel G F1 O1 (backR ρ ρ1 vs) φ1 σ H1 := by
  have l1 : ρ1.length = ρ.length := by have := r1.len; rw [wipe_length] at this; rw [← this, r.len]
  have old : ∀ (i : Nat) (sl : Sl), (backR ρ ρ1 vs)[i]? = some sl → (i ∈ vs ∧ ρ[i]? = some sl) ∨ (i ∉ vs ∧ ρ1[i]? = some sl) := fun i sl e => by
    by_cases hi : i ∈ vs
    · have hl := (List.getElem?_eq_some_iff.mp e).1
      rw [backR_length] at hl
      rw [backR_in hi hl] at e
      refine .inl ⟨hi, ?_⟩
      rw [List.getD_eq_getElem?_getD] at e
      have h2 : i < ρ.length := by omega
      rw [List.getElem?_eq_getElem h2] at e ⊢
      exact e
    · rw [backR_out hi] at e
      exact .inr ⟨hi, e⟩
  have nown : ∀ (i : Nat) (ds : List D), i ∈ vs → ρ[i]? ≠ some (.own ds) := fun i ds hi e => by
    have := List.all_eq_true.mp no i hi
    rw [e] at this
    cases this
  refine ⟨by rw [backR_length, l1]; exact r.len, fun i d e => ?_, fun i ds e => ?_, fun i j ds es e e' he => ?_, r1.disj, r1.trk, r1.fi, r1.psub, fun i ds a e ea => ?_⟩
  · rcases old i _ e with ⟨n, z⟩ | ⟨n, z⟩
    · obtain ⟨v, k1, k2⟩ := r.val i d z
      exact ⟨v, k1, k2.mono x.sm x.fe⟩
    · have := r1.val i d z
      rw [wipe_out n] at this; exact this
  · rcases old i _ e with ⟨n, z⟩ | ⟨n, z⟩
    · exact absurd z (nown i ds n)
    · have := r1.own i ds z
      rw [wipe_out n] at this; exact this
  · rcases old i _ e with ⟨n, z⟩ | ⟨n, z⟩
    · exact absurd z (nown i ds n)
    · rcases old j _ e' with ⟨m, y⟩ | ⟨m, y⟩
      · exact absurd y (nown j es m)
      · rw [← wipe_out n, ← wipe_out m] at he
        exact r1.inj i j ds es z y he
  · rcases old i _ e with ⟨n, z⟩ | ⟨n, z⟩
    · exact absurd z (nown i ds n)
    · rw [← wipe_out n] at ea
      exact r1.pno i ds a z ea
end
def lcLoop (p : Pat) (vs : List Nat) (tt : M Φ Bool) (te : M Φ R) : List D → M Φ (List D)
  | [] => fun ρ φ => .ok [] (wipeR ρ vs) φ
  | d :: ds => fun ρ φ => match patSet p d (wipeR ρ vs) with
    | none => .stuck
    | some ρ1 => match tt ρ1 φ with
      | .ok false ρ2 φ2 => lcLoop p vs tt te ds ρ2 φ2
      | .ok true ρ2 φ2 => (match te ρ2 φ2 with
        | .ok r ρ3 φ3 => (match lcLoop p vs tt te ds ρ3 φ3 with
          | .ok l ρ4 φ4 => .ok (r.d :: l) ρ4 φ4
          | _ => .stuck)
        | _ => .stuck)
      | _ => .stuck
def mLcD (p : Pat) (vs : List Nat) (tt : M Φ Bool) (te : M Φ R) (ds : List D) : M Φ R := fun ρ φ =>
  if ds.length ≤ 16777216 ∧ noOwn ρ vs = true then (match lcLoop p vs tt te ds ρ φ with
    | .ok l ρ' φ' => .ok (.new l) (backR ρ ρ' vs) φ'
    | _ => .stuck) else .stuck
def mLc (p : Pat) (vs : List Nat) (mi : M Φ (List D)) (tt : M Φ Bool) (te : M Φ R) : M Φ R := mB mi (mLcD p vs tt te)
/-- no error is meant -/
def wN : WX := fun _ _ _ _ => False
def mYes : M Φ Bool := mP true
section
variable {X : Cx} {G : Ctx Φ} {P0 : List Addr} {W : WX} {e : Expr} {pos : Pos}
theorem q_yes {P : List Addr} {W : WX} : PTs X [] (dT (G.at P) W mYes) := ⟨fun pins s σ H Q I h => pts_nil.run pins s σ H Q I (by
  obtain ⟨ρ, φ, F, O, r, g⟩ := h
  exact g.ok r)⟩
/-- what is wanted of the rest of the loop -/
def LG (G : Ctx Φ) (P P0 : List Addr) (vs : List Nat) (σ : St) (F O : List Addr) (H : Hp) (out : Out Φ (List D)) (K : List D → List Sl → Φ → List Addr → List Addr → Hp → Prop) : Prop :=
  match out with
  | .ok l ρ φ => ∀ F' O' H', Ext (G.at P0) F O H F' O' H' → Rel (G.at P) F' O' ρ φ (wipe σ vs) H' → K l ρ φ F' O' H'
  | _ => False
theorem LG.ext {P P0 : List Addr} {vs : List Nat} {σ : St} {F O F1 O1 : List Addr} {H H1 : Hp} {out : Out Φ (List D)} {K : List D → List Sl → Φ → List Addr → List Addr → Hp → Prop} (x : Ext (G.at P0) F O H F1 O1 H1) (h : LG G P P0 vs σ F O H out K) : LG G P P0 vs σ F1 O1 H1 out K := by
  cases out with
  | ok l ρ φ => exact fun F' O' H' y r => h F' O' H' (x.trans y) r
  | err c es ρ φ => exact h
  | stuck => exact h
def uG (G : Ctx Φ) (p : Pat) : TG := fun x σ H Q => ∃ P, gP (G.at P) p x σ H Q
def uT (G : Ctx Φ) (t : M Φ Bool) : TT := fun σ H Q => ∃ P, dT (G.at P) wN t σ H Q
def uE (G : Ctx Φ) (t : M Φ R) : TE := fun σ H Q => ∃ P, dE (G.at P) wN t σ H Q
theorem dE_lc {mi : M Φ (List D)} {tt : M Φ Bool} {te : M Φ R} {p : Pat} {vs : List Nat} (hvs : ∀ i, i ∈ p.ix → i ∈ vs) {σ : St} {H : Hp} {Q : VK}
    (h : dE (G.at P0) W (mLc p vs mi tt te) σ H Q) :
    dI (G.at P0) W mi σ H fun J H1 => ∀ A, H1 A = none → ∃ U : Nat → Nat → Hp → Prop, (∃ m, U 0 m (upd H1 A (.lst []))) ∧ ∀ i m H, U i m H →
      (J.stop i H ∧ Q (.ref A) H) ∨ (J.go i H ∧ ∃ Nx : Hp → Prop, (∀ H', Nx H' → ∃ m', m' < m ∧ U (i + 1) m' H') ∧ ∀ x H', J.yld i H x H' → uG G p x (wipe σ vs) H' fun σ2 H2 => wipe σ2 vs = wipe σ vs ∧ uT G tt σ2 H2 fun b H3 =>
        if b = true then uE G te σ2 H3 fun y H4 => ∃ acc, H4 A = some (.lst acc) ∧ acc.length < sizeLine ∧ Nx (upd H4 A (.lst (acc ++ [y]))) else Nx H3) := by
  obtain ⟨ρ, φ, F, O, r, g⟩ := h
  refine ⟨ρ, φ, F, O, r, Good.mono g.bind fun ds ρ1 φ1 F1 O1 H1 _ x1 r1 g1 _ J it A hA => ?_⟩
  unfold mLcD at g1
  split at g1
  case isFalse => exact g1.elim
  rename_i hz
  obtain ⟨hz, hno⟩ := hz
  -- the new list
  have hA1 := r1.notin hA
  obtain ⟨r2, x2, rr2⟩ := r1.laidNew (xs := []) (ds := []) hA .nil
  obtain ⟨_, _, eA, _, _, _, nP, nO⟩ := rr2
  cases eA
  have rs : Rel (G.at (A :: P0)) F1 (A :: O1) ρ1 φ1 σ (upd H1 A (.lst [])) := r2.re (fun a ha => by
    rcases List.mem_cons.mp ha with rfl | ha
    · exact List.mem_cons_self
    · exact r2.psub a ha) fun i es a e ea z => by
    rcases List.mem_cons.mp z with rfl | z
    · exact nO i es e ea
    · exact r2.pno i es a e ea z
  let Pn : List Addr := A :: P0
  -- what the end wants
  let Kf : List D → List D → List Sl → Φ → List Addr → List Addr → Hp → Prop := fun acc l ρ' φ' F' O' H' => ∀ ys, H' A = some (.lst ys) → RDs (G.at P0) F' (hide (F' ++ O') H') ys (acc ++ l) → Ext (G.at P0) F1 (A :: O1) (upd H1 A (.lst [])) F' O' H' → Q (.ref A) H'
  have fin : LG G Pn P0 vs σ F1 (A :: O1) (upd H1 A (.lst [])) (lcLoop p vs tt te ds ρ1 φ1) (Kf []) := by
    cases q : lcLoop p vs tt te ds ρ1 φ1 with
    | ok l ρ' φ' =>
      rw [q] at g1
      intro F' O' H' y r' ys hys hd x'
      have rA : Rel (G.at P0) F' O' ρ' φ' (wipe σ vs) H' := r'.re (fun a ha => r'.psub a (List.mem_cons_of_mem _ ha)) fun i es a e ea z => r'.pno i es a e ea (List.mem_cons_of_mem _ z)
      have rB := r2.backed x' hno rA
      refine g1 F' O' H' (x2.trans x') rB (.ref A) ⟨A, ys, rfl, r'.psub A List.mem_cons_self, hys, hd, nP, fun i es e ea => ?_⟩
      have hin : i ∉ vs := fun hi => by
        have hl := (List.getElem?_eq_some_iff.mp e).1
        rw [backR_length] at hl
        rw [backR_in hi hl] at e
        have := List.all_eq_true.mp hno i hi
        have hl2 : i < ρ1.length := by have a := r'.len; have b := r2.len; rw [wipe_length] at a; omega
        rw [List.getD_eq_getElem?_getD, List.getElem?_eq_getElem hl2] at e
        rw [List.getElem?_eq_getElem hl2] at this
        have e' : ρ1[i] = .own es := by simpa using e
        rw [e'] at this
        cases this
      rw [backR_out hin] at e
      rw [← wipe_out hin] at ea
      exact r'.pno i es A e ea List.mem_cons_self
    | err c es ρ' φ' => rw [q] at g1; exact g1.elim
    | stuck => rw [q] at g1; exact g1.elim
  let Inv : Nat → Hp → Prop := fun i H => ∃ ρ φ F O acc ys, Rel (G.at Pn) F O ρ φ (wipe σ vs) H ∧ (∃ ρw, wipeR ρw vs = wipeR ρ vs ∧ LG G Pn P0 vs σ F O H (lcLoop p vs tt te (ds.drop i) ρw φ) (Kf acc)) ∧ H A = some (.lst ys) ∧ RDs (G.at P0) F (hide (F ++ O) H) ys acc ∧ (acc.length ≤ i ∧ i ≤ ds.length) ∧ Ext (G.at P0) F1 (A :: O1) (upd H1 A (.lst [])) F O H
  have wsame : ∀ (ρw ρ : List Sl) (ds : List D) (φ : Φ), wipeR ρw vs = wipeR ρ vs → lcLoop p vs tt te ds ρw φ = lcLoop p vs tt te ds ρ φ := fun ρw ρ ds φ e => by
    cases ds with
    | nil => unfold lcLoop; rw [e]
    | cons d ds => unfold lcLoop; rw [e]
  have wtwo : ∀ ρ : List Sl, wipeR (wipeR ρ vs) vs = wipeR ρ vs := fun ρ => List.ext_getElem? fun i => by
    by_cases hi : i ∈ vs
    · by_cases hl : i < ρ.length
      · rw [wipeR_in hi (by rw [wipeR_length]; exact hl), wipeR_in hi hl]
      · rw [List.getElem?_eq_none (by rw [wipeR_length, wipeR_length]; omega), List.getElem?_eq_none (by rw [wipeR_length]; omega)]
    · rw [wipeR_out hi, wipeR_out hi]
  refine ⟨fun i m H => m = ds.length - i ∧ Inv i H, ⟨_, rfl, _, φ1, F1, A :: O1, [], [], rs.wiped vs, ⟨ρ1, (wtwo ρ1).symm, by simpa using fin⟩, upd_same, .nil, ⟨Nat.zero_le _, Nat.zero_le _⟩, .refl⟩, fun i m H w => ?_⟩
  obtain ⟨hm, ρ2, φ2, F2, O2, acc, ys, r2', ⟨ρw, ew, g2⟩, hy, hd, ⟨hl, hle⟩, x2'⟩ := w
  rw [wsame ρw ρ2 _ _ ew] at g2
  have iti := it F2 O2 H (x2.trans x2').sm (x2.trans x2').fe r2'.tr i
  cases ed : ds[i]? with
  | none =>
    have hl := List.getElem?_eq_none_iff.mp ed
    rw [List.drop_eq_nil_of_le hl] at g2
    have wself : Rel (G.at Pn) F2 O2 (wipeR ρ2 vs) φ2 (wipe σ vs) H := by
      have := r2'.wiped vs
      rw [wipe_eq (σ := σ) (σ' := wipe σ vs) (l := vs) (wipe_length _ _) (fun i hi => wipe_out hi) (fun i hi => hi)] at this
      exact this
    exact .inl ⟨iti.2 (Nat.le_antisymm hle hl), g2 F2 O2 H .refl wself ys hy (by rw [List.append_nil]; exact hd) x2'⟩
  | some d =>
    obtain ⟨hi2, e2⟩ := List.getElem?_eq_some_iff.mp ed
    rw [List.drop_eq_getElem_cons hi2, e2] at g2
    obtain ⟨go, yl⟩ := iti.1 d ed
    refine .inr ⟨go, fun H' => Inv (i + 1) H', fun H' a => ⟨_, by omega, rfl, a⟩, fun x H' y => ?_⟩
    obtain ⟨gr, rx⟩ := yl x H' y
    obtain ⟨r3, x3⟩ := r2'.grown gr
    have x3' := x3.re (P' := P0) fun a ha => List.mem_cons_of_mem _ ha
    have g3 := g2.ext x3'
    have wself : Rel (G.at Pn) F2 O2 (wipeR ρ2 vs) φ2 (wipe σ vs) H' := by
      have := r3.wiped vs
      rw [wipe_eq (σ := σ) (σ' := wipe σ vs) (l := vs) (wipe_length _ _) (fun i hi => wipe_out hi) (fun i hi => hi)] at this
      exact this
    unfold lcLoop at g3
    split at g3
    · exact g3.elim
    rename_i ρ3 e3
    refine ⟨Pn, _, φ2, F2, O2, d, ρ3, wself, rx.at_.to, e3, fun σ2 r4 off => ?_⟩
    have we : wipe σ2 vs = wipe σ vs := by
      have l2 : σ2.length = (wipe σ vs).length := by rw [r4.len, wself.len]; exact patSet_len e3
      rw [wipe_eq l2 off hvs, wipe_eq (σ := σ) (σ' := wipe σ vs) (l := vs) (wipe_length _ _) (fun i hi => wipe_out hi) (fun i hi => hi)]
    refine ⟨we, Pn, ρ3, φ2, F2, O2, r4, ?_⟩
    cases q : tt ρ3 φ2 with
    | err c es ρ4 φ4 => rw [q] at g3; exact g3.elim
    | stuck => rw [q] at g3; exact g3.elim
    | ok b ρ4 φ4 =>
      rw [q] at g3
      intro F4 O4 H4 x4 r5
      have x4' := x4.re (P' := P0) fun a ha => List.mem_cons_of_mem _ ha
      have hy4 : H4 A = some (.lst ys) := by rw [x4.pk A List.mem_cons_self, x3.pk A List.mem_cons_self]; exact hy
      have rw5 := r5.wiped vs
      rw [we] at rw5
      cases b with
      | false =>
        dsimp only at g3 ⊢
        rw [if_neg Bool.false_ne_true]
        exact ⟨_, φ4, F4, O4, acc, ys, rw5, ⟨ρ4, (wtwo ρ4).symm, g3.ext x4'⟩, hy4, hd.mono (x3'.trans x4').sm (x3'.trans x4').fe, ⟨by omega, hi2⟩, x2'.trans (x3'.trans x4')⟩
      | true =>
        dsimp only at g3 ⊢
        rw [if_pos rfl]
        refine ⟨Pn, ρ4, φ4, F4, O4, r5, ?_⟩
        cases q2 : te ρ4 φ4 with
        | err c es ρ4 φ4 => rw [q2] at g3; exact g3.elim
        | stuck => rw [q2] at g3; exact g3.elim
        | ok z ρ5 φ5 =>
          rw [q2] at g3
          dsimp only at g3
          intro F5 O5 H5 x5 r6 v hv
          have hy5 : H5 A = some (.lst ys) := by rw [x5.pk A List.mem_cons_self]; exact hy4
          obtain ⟨O6, r7, x7, d7⟩ := r6.freeze hv
          have hA6 : A ∈ O6 := r7.psub A List.mem_cons_self
          have x5' := x5.re (P' := P0) fun a ha => List.mem_cons_of_mem _ ha
          have x7' := x7.re (P' := P0) fun a ha => List.mem_cons_of_mem _ ha
          have xx := (x3'.trans x4').trans (x5'.trans x7')
          have hd7 := hd.mono xx.sm xx.fe
          refine ⟨ys, hy5, by rw [hd.length, sizeLine_eq]; omega, ?_⟩
          -- the list grows
          have nPA : ∀ a, a ∈ P0 → a ≠ A := fun a ha z => by rw [z] at ha; exact nP ha
          have s8 : Same (hide (F5 ++ O6) H5) (hide (F5 ++ O6) (upd H5 A (.lst (ys ++ [v])))) := hide_upd (.inl (List.mem_append_right _ hA6))
          have x8 : Ext (G.at P0) F5 O6 H5 F5 O6 (upd H5 A (.lst (ys ++ [v]))) := ⟨s8, .refl _, fun a ha => upd_ne (nPA a ha)⟩
          have r8 : Rel (G.at Pn) F5 O6 ρ5 φ5 σ2 (upd H5 A (.lst (ys ++ [v]))) := ⟨r7.len, fun i d e => let ⟨u, k1, k2⟩ := r7.val i d e; ⟨u, k1, k2.mono s8 (.refl _)⟩, fun i es e => by
              obtain ⟨b, zs, k1, k2, k3, k4⟩ := r7.own i es e
              have nb : b ≠ A := fun z => r7.pno i es b e k1 (by rw [z]; exact List.mem_cons_self)
              exact ⟨b, zs, k1, k2, by rw [upd_ne nb]; exact k3, k4.mono s8 (.refl _)⟩, r7.inj, r7.disj, fun a ha => by
              by_cases hb : a = A
              · rw [hb, upd_same]; simp
              · rw [upd_ne hb]; exact r7.trk a ha, G.loc F5 H5 _ φ5 (fun b hb => upd_ne fun z => r7.disj A hA6 (z ▸ hb)) r7.fi, r7.psub, r7.pno⟩
          have rw8 := r8.wiped vs
          rw [we] at rw8
          refine ⟨_, φ5, F5, O6, acc ++ [z.d], ys ++ [v], rw8, ⟨ρ5, (wtwo ρ5).symm, ?_⟩, upd_same, (hd7.append (.cons d7.at_.to .nil)).mono s8 (.refl _), ⟨by rw [List.length_append]; simp; omega, hi2⟩, (x2'.trans xx).trans x8⟩
          cases q3 : lcLoop p vs tt te (ds.drop (i + 1)) ρ5 φ5 with
          | err c es ρ4 φ4 => rw [q3] at g3; exact g3.elim
          | stuck => rw [q3] at g3; exact g3.elim
          | ok l ρ6 φ6 =>
            rw [q3] at g3
            dsimp only at g3
            intro F' O' H' y' r' ws hw hdw xw
            exact g3 F' O' H' ((x4'.trans (x5'.trans x7')).trans (x8.trans y')) r' ws hw (by simpa using hdw) xw
variable {elt tg iter : Expr} {ifs : List Expr} {scope : Scope} {own : List (Str × Nat)} {mi : M Φ (List D)} {tt : M Φ Bool} {te : M Φ R} {p : Pat}
theorem q_lc (hc : X.calm = true) (hN : X.N.Nodup) (hi : PI X tg iter (dI (G.at P0) W mi)) (ok : BlkOk X.N X.env.scope scope own)
    (hg : ∀ (P : List Addr) (s : Shared) (H : Hp) (C : Addr) (cl : List (Str × Addr)) (fp : List Addr), PG (X.blk s H scope (compEnvC scope cl C X.env) fp) tg (gP (G.at P) p))
    (ht : ∀ (P : List Addr) (s : Shared) (H : Hp) (C : Addr) (cl : List (Str × Addr)) (fp : List Addr), PTs (X.blk s H scope (compEnvC scope cl C X.env) fp) ifs (dT (G.at P) wN tt))
    (he : ∀ (P : List Addr) (s : Shared) (H : Hp) (C : Addr) (cl : List (Str × Addr)) (fp : List Addr), PE (X.blk s H scope (compEnvC scope cl C X.env) fp) elt (dE (G.at P) wN te))
    (hv : ∀ i, i ∈ p.ix → i ∈ own.map (·.2) := by decide) (hs : ∀ x, foldedSetIterable iter X.env x = pure x := by intro _; rfl) :
    PE X (.ListComp elt [⟨tg, iter, ifs, 0⟩] scope pos) (dE (G.at P0) W (mLc p (own.map (·.2)) mi tt te)) :=
  PE.weak (pe_lc (g := uG G p) (tt := uT G tt) (te := uE G te) hc hN hi ok (fun s H C cl fp => ⟨fun pins s' σ H' v u Q I r ⟨P, q⟩ => (hg P s H C cl fp).run pins s' σ H' v u Q I r q⟩)
    (fun s H C cl fp => ⟨fun pins s' σ H' Q I ⟨P, q⟩ => (ht P s H C cl fp).run pins s' σ H' Q I q⟩) (fun s H C cl fp => ⟨fun pins s' σ H' Q I ⟨P, q⟩ => (he P s H C cl fp).run pins s' σ H' Q I q⟩) hs) fun σ H Q h => dE_lc hv h
/-- name = [..] -/
theorem s_setLc (i : Nat) {y : Str} {py spos : Pos} (hc : X.calm = true) (hN : X.N.Nodup) (hi : PI X tg iter (dI (G.at P0) W mi)) (ok : BlkOk X.N X.env.scope scope own)
    (hg : ∀ (P : List Addr) (s : Shared) (H : Hp) (C : Addr) (cl : List (Str × Addr)) (fp : List Addr), PG (X.blk s H scope (compEnvC scope cl C X.env) fp) tg (gP (G.at P) p))
    (ht : ∀ (P : List Addr) (s : Shared) (H : Hp) (C : Addr) (cl : List (Str × Addr)) (fp : List Addr), PTs (X.blk s H scope (compEnvC scope cl C X.env) fp) ifs (dT (G.at P) wN tt))
    (he : ∀ (P : List Addr) (s : Shared) (H : Hp) (C : Addr) (cl : List (Str × Addr)) (fp : List Addr), PE (X.blk s H scope (compEnvC scope cl C X.env) fp) elt (dE (G.at P) wN te))
    (hy : X.N[i]? = some y := by rfl) (hyl : X.env.scope.names.lookup y = some .local := by rfl) (hsw : swapsWith (.ListComp elt [⟨tg, iter, ifs, 0⟩] scope pos) (some (.Name y py)) spos.line X.env = pure true := by rfl)
    (hv : ∀ i, i ∈ p.ix → i ∈ own.map (·.2) := by decide) (hs : ∀ x, foldedSetIterable iter X.env x = pure x := by intro _; rfl) :
    PS X (.Assign [.Name y py] (.ListComp elt [⟨tg, iter, ifs, 0⟩] scope pos) spos) (dS (G.at P0) W (mAsg i (mLc p (own.map (·.2)) mi tt te))) :=
  PS.weak (ps_setLc (g := uG G p) (tt := uT G tt) (te := uE G te) hc hN hy hyl hsw hi ok (fun s H C cl fp => ⟨fun pins s' σ H' v u Q I r ⟨P, q⟩ => (hg P s H C cl fp).run pins s' σ H' v u Q I r q⟩)
    (fun s H C cl fp => ⟨fun pins s' σ H' Q I ⟨P, q⟩ => (ht P s H C cl fp).run pins s' σ H' Q I q⟩) (fun s H C cl fp => ⟨fun pins s' σ H' Q I ⟨P, q⟩ => (he P s H C cl fp).run pins s' σ H' Q I q⟩) hs) fun D σ H h => dE_lc hv (dS_asg h)
theorem q_ifs {c : Expr} (h : PT X c (dT G W tt)) : PTs X [c] (dT G W tt) := pts_one h
end
end DN
namespace DN
open PySem PySem.Spec L2
open PyProof.Rows hiding St
variable {Φ : Type}

/-! ### a list or a tuple, by a mark -/
def SqB (K : PySem.W.Frag) (t : Bool) (H : Hp) (a : Addr) (xs : List V) : Prop := match t with
  | true => SqT K H a xs
  | false => SqL K H a xs
def AtB (t : Bool) (h : Heap) (a : Addr) (xs : Array Value) : Prop := match t with
  | true => h.IsTuple a xs
  | false => h.IsList a xs
def IterB (t : Bool) (h : Heap) (it a : Addr) (i : Nat) : Prop := match t with
  | true => h.IsTupleIter it a i
  | false => h.IsListIter it a i
def firstB (t : Bool) (a : Addr) : Obj := match t with
  | true => { cls := .type "tuple_iterator", data := .fields #[.ref a, .int 0 0] }
  | false => { cls := .type "list_iterator", data := .fields #[.ref a, .int 0 0] }
theorem begB (t : Bool) (a : Addr) (xs : Array Value) : Begins (.ref a) (firstB t a) fun h => AtB t h a xs := by
  cases t
  · exact begins_list a xs
  · exact begins_tuple a xs
theorem drawB {prog : Program} {w : World} {A : Around} (t : Bool) (hh : A.handled = none) (it a : Addr) (hne : a ≠ it) (xs : Array Value) :
    Draws prog w A it [it, a] xs.size (fun i v => xs[i]? = some v) (fun i h => IterB t h it a i ∧ AtB t h a xs) := by
  cases t
  · exact Draws.list hh it a hne xs
  · exact Draws.tuple hh it a hne xs
theorem IterB.first {t : Bool} {h : Heap} {it a : Addr} (e : h.get? it = some (firstB t a)) : IterB t h it a 0 := by
  cases t
  · exact ⟨_, e, rfl, rfl⟩
  · exact ⟨_, e, rfl, rfl⟩
theorem IterB.rec {t : Bool} {h : Heap} {it a : Addr} {i : Nat} (x : IterB t h it a i) : ∃ o, h.get? it = some o ∧ ∀ v, o.data ≠ .cell v := by
  cases t
  · obtain ⟨o, e, _, d⟩ := x
    exact ⟨o, e, fun v q => by rw [d] at q; cases q⟩
  · obtain ⟨o, e, _, d⟩ := x
    exact ⟨o, e, fun v q => by rw [d] at q; cases q⟩
theorem IterB.on {t : Bool} {h h' : Heap} {it a : Addr} {i : Nat} (x : IterB t h it a i) (k : ∀ o, h.get? it = some o → h'.get? it = some o) : IterB t h' it a i := by
  cases t
  · exact Heap.IsListIter.at x k
  · exact Heap.IsTupleIter.at x k
section
variable {X : Cx} {pins : List (Addr × Obj)} {σ : St} {H : Hp} {s : Shared} {a : Addr} {xs : List V} {t : Bool}
theorem SqB.seen (I : Inv X pins σ H s) (q : SqB X.K t H a xs) : ∃ its : List Value, Vals xs its ∧ AtB t s.heap a its.toArray := by
  cases t
  · obtain ⟨its, rv, p, _⟩ := I.list q
    exact ⟨its, rv, p.isList⟩
  · obtain ⟨its, rv, p, _⟩ := I.tuple q
    exact ⟨its, rv, p⟩
theorem SqB.inj (I : Inv X pins σ H s) {ys : List V} (q : SqB X.K t H a xs) (q' : SqB X.K t H a ys) : xs = ys := by
  cases t
  · exact I.list_inj q q'
  · exact I.tuple_inj q q'
end
/-- zip of two, each a list or a tuple -/
def ItzB (K : PySem.W.Frag) (t u : Bool) (a b : Addr) : It where
  go i H := ∃ xs ys x y, SqB K t H a xs ∧ SqB K u H b ys ∧ xs[i]? = some x ∧ ys[i]? = some y
  yld i H v H' := ∃ A x y, v = .ref A ∧ H A = none ∧ H' = upd H A (.tup [x, y]) ∧ (∀ xs, SqB K t H a xs → xs[i]? = some x) ∧ ∀ ys, SqB K u H b ys → ys[i]? = some y
  stop i H := ∃ xs ys, SqB K t H a xs ∧ SqB K u H b ys ∧ i ≤ xs.length ∧ i ≤ ys.length ∧ (i = xs.length ∨ i = ys.length)
theorem turn_zipB {P : Program} {w : World} {K : PySem.W.Frag} {elts : List Expr} {kk : Nat} {tpos : Pos} {t u : Bool} {a b z TI TO i1 i2 : Addr} (S : ZipSep2 z TI TO i1 i2 [i1, a] [i2, b]) (na : a ≠ i1) (nb : b ≠ i2) :
    Turn P w K (.Tuple elts kk tpos) (ItzB K t u a b) [z, TI, TO, i1, i2] z (fun i h => IsZip h z TI TO .none ∧ IsTupOf2 h TI (.ref i1) (.ref i2) ∧ (∃ p q, IsTupOf2 h TO p q) ∧ IterB t h i1 a i ∧ IterB u h i2 b i) where
  mem := List.mem_cons_self
  obj := fun i h st c hc => by
    obtain ⟨k1, k2, ⟨x, y, k3⟩, k4, k5⟩ := st
    simp only [List.mem_cons, List.not_mem_nil, or_false] at hc
    rcases hc with q | q | q | q | q <;> subst q
    · exact ⟨_, k1, fun v q => nomatch q⟩
    · exact ⟨_, k2, fun v q => nomatch q⟩
    · exact ⟨_, k3, fun v q => nomatch q⟩
    · exact k4.rec
    · exact k5.rec
  keep := fun i h h' st k =>
    let ⟨k1, k2, ⟨x, y, k3⟩, k4, k5⟩ := st
    ⟨k z (by simp) _ k1, k TI (by simp) _ k2, ⟨x, y, k TO (by simp) _ k3⟩, k4.on fun o q => k i1 (by simp) o q, k5.on fun o q => k i2 (by simp) o q⟩
  item := by
    intro X hP hw hK hc i pins s σ H E I hf st hg
    subst hP hw hK
    obtain ⟨k1, k2, ⟨p0, q0, k3⟩, k4, k5⟩ := st
    obtain ⟨xs, ys, x, y, hxs, hys, hx, hy⟩ := hg
    obtain ⟨its, rv, ha⟩ := hxs.seen I
    obtain ⟨its', rv', hb⟩ := hys.seen I
    obtain ⟨m, hm, rm⟩ := rv.get hx
    obtain ⟨n, hn, rn⟩ := rv'.get hy
    have lm := (List.getElem?_eq_some_iff.mp hm).1
    have ln := (List.getElem?_eq_some_iff.mp hn).1
    have zl : z < s.heap.objs.size := Heap.lt_size k1
    have hd : X.A.in1.handled = none := I.ok.hd hc
    refine wpAny_pyNext_zipD2_item S (drawB t hd i1 a na its.toArray) (drawB u hd i2 b nb its'.toArray) k1 k2 k3 ⟨k4, ha⟩ ⟨k5, hb⟩ (by simpa using lm) (by simpa using ln) fun x1 x2 h' tk e1 e2 j1 j2 j3 j4 j5 hz hk => ?_
    rw [List.getElem?_toArray, hm] at e1
    rw [List.getElem?_toArray, hn] at e2
    cases e1
    cases e2
    refine ⟨_, rfl, wpAny_letOwnedTupleGo_zip (s := { s with heap := h', toks := tk }) j1 fun h'' g1 sb => ?_⟩
    have gT : IsTupOf2 h'' s.heap.objs.size m n := (sb.2 _ (Nat.ne_of_gt zl)).trans j5
    have nw : ObjOk X.prog X.w (upd H s.heap.objs.size (.tup [x, y])) h'' s.heap.objs.size (.tup [x, y]) := ⟨by show 2 ≤ sizeLine; decide, [m, n], .cons rm (.cons rn .nil), ⟨_, gT, rfl, _, rfl⟩⟩
    have I1 : Inv X pins σ (upd H s.heap.objs.size (.tup [x, y])) { s with heap := h'', toks := tk } := I.turnedNew (ch := [z, TI, TO, i1, i2]) (fun c o hc q => by
      simp only [List.mem_cons, List.not_mem_nil, or_false, not_or] at hc
      exact (sb.2 c hc.1).trans (hk c o hc.1 hc.2.2.1 hc.2.2.2.1 hc.2.2.2.2 q)) hf (Nat.le_refl _) nw
    refine ⟨.ref s.heap.objs.size, _, I1, rfl, ⟨_, x, y, rfl, I.hok.fresh (Nat.le_refl _), rfl, fun l hl => ?_, fun l hl => ?_⟩, ⟨g1, ?_, ⟨m, n, (sb.2 _ S.TOz).trans j2⟩, j3.1.on fun o q => (sb.2 _ (Ne.symm S.zi1)).trans q, j4.1.on fun o q => (sb.2 _ (Ne.symm S.zi2)).trans q⟩, fun c hc2 => ?_⟩
    · rw [SqB.inj I hl hxs]; exact hx
    · rw [SqB.inj I hl hys]; exact hy
    · exact (sb.2 _ S.TIz).trans (hk _ _ S.TIz S.TITO S.TIi1 S.TIi2 k2)
    · have lt : c < s.heap.objs.size := by
        simp only [List.mem_cons, List.not_mem_nil, or_false] at hc2
        rcases hc2 with q | q | q | q | q
        · rw [q]; exact zl
        · rw [q]; exact Heap.lt_size k2
        · rw [q]; exact Heap.lt_size k3
        · obtain ⟨o, e, _⟩ := k4.rec
          rw [q]; exact Heap.lt_size e
        · obtain ⟨o, e, _⟩ := k5.rec
          rw [q]; exact Heap.lt_size e
      rw [upd_ne (Nat.ne_of_lt lt)]
      exact (hf c hc2).1
  done := by
    intro X hP hw hK hc i pins s σ H E I hf st hg
    subst hP hw hK
    obtain ⟨k1, k2, ⟨p0, q0, k3⟩, k4, k5⟩ := st
    obtain ⟨xs, ys, hxs, hys, l1, l2, e⟩ := hg
    obtain ⟨its, rv, ha⟩ := hxs.seen I
    obtain ⟨its', rv', hb⟩ := hys.seen I
    have r1 := rv.length
    have r2 := rv'.length
    have hd : X.A.in1.handled = none := I.ok.hd hc
    refine wpAny_pyNext_zipD2_end S (drawB t hd i1 a na its.toArray) (drawB u hd i2 b nb its'.toArray) k1 k2 k3 ⟨k4, ha⟩ ⟨k5, hb⟩ (by rw [List.size_toArray]; omega) (by rw [List.size_toArray]; omega) (by rw [List.size_toArray, List.size_toArray]; omega) fun h' tk hk => ⟨rfl, I.turnedL (ch := [z, TI, TO, i1, i2]) (fun c o hc q => by
      simp only [List.mem_cons, List.not_mem_nil, or_false, not_or] at hc
      exact hk c o hc.1 hc.2.2.1 hc.2.2.2.1 hc.2.2.2.2 q) hf⟩
  self := fun A i s Q E st h => wpAny_pyIter_zip st.1 h
def iZipB (K : PySem.W.Frag) (ta : TA) : TI := fun σ H R => ta σ H fun vs H1 => ∃ t u a b xs ys, vs = [.ref a, .ref b] ∧ SqB K t H1 a xs ∧ SqB K u H1 b ys ∧ R (ItzB K t u a b) H1
theorem AtB.lt {t : Bool} {h : Heap} {a : Addr} {xs : Array Value} (x : AtB t h a xs) : a < h.objs.size := by
  cases t
  · obtain ⟨_, e, _⟩ := x; exact Heap.lt_size e
  · obtain ⟨_, e, _⟩ := x; exact Heap.lt_size e
theorem pi_zipB {X : Cx} {e e2 : Expr} {ta : TA} {p pos tpos : Pos} {elts : List Expr} {kk : Nat} (hg : Gl X "zip") (hm : X.mg "zip" = none) (ha : PA X [e, e2] ta)
    (hs : starEach [e, e2] X.env = (false, eval e X.env) :: starEach [e2] X.env := by rfl) (hpl : (backTo pos (starEach [e2] X.env)).any (·.1) = false := by rfl) : PI X (.Tuple elts kk tpos) (.Call (.Name "zip" p) [e, e2] [] pos) (iZipB X.K ta) := by
  refine ⟨fun pins s σ H R I h => Call_ (ld_blt I hg hm PyProof.Rows.boot_zip (PyProof.Rows.callWith_type1 (thn (ha.run pos pins s σ H _ I h) fun us s1 q => ?_) hs hpl))⟩
  obtain ⟨vs, H1, I1, r1, t, u, a, b, xs, ys, ev, hxs, hys, hr⟩ := q
  subst ev
  cases r1 with
  | cons ra rr =>
    cases rr with
    | cons rb rr =>
      cases rr
      cases ra
      cases rb
      obtain ⟨its, rv, sa⟩ := hxs.seen I1
      obtain ⟨its', rv', sb⟩ := hys.seen I1
      have la := sa.lt
      have lb := sb.lt
      refine zip_begins2 (begB t a its.toArray) (begB u b its'.toArray) sa sb fun h' hz hTI hTO g1 g2 hsz hk => wpAny_pyIter_zip hz ?_
      have S := zip_sep2 (N := s1.heap.objs.size) (fp1 := [a]) (fp2 := [b]) (fun c hc => by rw [List.mem_singleton.mp hc]; exact la) (fun c hc => by rw [List.mem_singleton.mp hc]; exact lb)
      refine ⟨s1.heap.objs.size + 4, [s1.heap.objs.size + 4, s1.heap.objs.size + 2, s1.heap.objs.size + 3, s1.heap.objs.size, s1.heap.objs.size + 1], _, _, H1, rfl, I1.kept (t' := s1.toks) hk, turn_zipB (t := t) (u := u) S (Nat.ne_of_lt la) (Nat.ne_of_lt (Nat.lt_succ_of_lt lb)), ⟨hz, hTI, ⟨_, _, hTO⟩, .first g1, .first g2⟩, fun c hc => ?_, hr⟩
      have le : s1.heap.objs.size ≤ c := by
        simp only [List.mem_cons, List.not_mem_nil, or_false] at hc
        rcases hc with q | q | q | q | q <;> rw [q]
        · exact Nat.le_add_right _ _
        · exact Nat.le_add_right _ _
        · exact Nat.le_add_right _ _
        · exact Nat.le_refl _
        · exact Nat.le_add_right _ _
      exact I1.fpOk le (I1.hok.fresh le)
/-! ### enumerate -/
def IteB (K : PySem.W.Frag) (t : Bool) (a : Addr) : It where
  go i H := ∃ xs x, SqB K t H a xs ∧ xs[i]? = some x
  yld i H v H' := ∃ A x, v = .ref A ∧ H A = none ∧ H' = upd H A (.tup [.int (i : Nat), x]) ∧ ∀ xs, SqB K t H a xs → xs[i]? = some x
  stop i H := ∃ xs, SqB K t H a xs ∧ i = xs.length
theorem turn_enumB {P : Program} {w : World} {K : PySem.W.Frag} {elts : List Expr} {kk : Nat} {tpos : Pos} {t : Bool} {a e it : Addr} (hne : e ≠ it) (hea : e ≠ a) (hia : a ≠ it) :
    Turn P w K (.Tuple elts kk tpos) (IteB K t a) [e, it] e (fun i h => (∃ old, IsEnum h e it ((i : Nat) : Int) old) ∧ IterB t h it a i) where
  mem := List.mem_cons_self
  obj := fun i h st b hb => by
    obtain ⟨⟨old, k1⟩, k2⟩ := st
    simp only [List.mem_cons, List.not_mem_nil, or_false] at hb
    rcases hb with q | q <;> subst q
    · exact ⟨_, k1, fun v q => nomatch q⟩
    · exact k2.rec
  keep := fun i h h' st k =>
    let ⟨⟨old, k1⟩, k2⟩ := st
    ⟨⟨old, k e (by simp) _ k1⟩, k2.on fun o q => k it (by simp) o q⟩
  item := by
    intro X hP hw hK hc i pins s σ H E I hf st hg
    subst hP hw hK
    obtain ⟨⟨old, k1⟩, k2⟩ := st
    obtain ⟨xs, x, hxs, hx⟩ := hg
    obtain ⟨its, rv, ha⟩ := hxs.seen I
    obtain ⟨m, hm, rm⟩ := rv.get hx
    have lm := (List.getElem?_eq_some_iff.mp hm).1
    have el : e < s.heap.objs.size := Heap.lt_size k1
    have hd : X.A.in1.handled = none := I.ok.hd hc
    refine wpAny_pyNext_enum_itemC (drawB t hd it a hia its.toArray) k1 ⟨k2, ha⟩ (by simpa using lm) hne (by simp only [List.mem_cons, List.not_mem_nil, or_false, not_or]; exact ⟨hne, hea⟩) fun x1 h' tk e1 j1 j2 j3 hz hk => ?_
    rw [List.getElem?_toArray, hm] at e1
    cases e1
    refine ⟨_, rfl, wpAny_letOwnedTupleGo_enum (s := { s with heap := h', toks := tk + 1 }) j1 fun h'' g1 sb => ?_⟩
    have gT : IsTupOf2 h'' s.heap.objs.size (.int i tk) m := (sb.2 _ (Nat.ne_of_gt el)).trans j3
    have nw : ObjOk X.prog X.w (upd H s.heap.objs.size (.tup [.int (i : Nat), x])) h'' s.heap.objs.size (.tup [.int (i : Nat), x]) := ⟨by show 2 ≤ sizeLine; decide, [.int i tk, m], .cons ⟨_, rfl⟩ (.cons rm .nil), ⟨_, gT, rfl, _, rfl⟩⟩
    have I1 : Inv X pins σ (upd H s.heap.objs.size (.tup [.int (i : Nat), x])) { s with heap := h'', toks := tk + 1 } := I.turnedNew (ch := [e, it]) (fun c o hc q => by
      simp only [List.mem_cons, List.not_mem_nil, or_false, not_or] at hc
      exact (sb.2 c hc.1).trans (hk c o hc.1 hc.2 q)) hf (Nat.le_refl _) nw
    refine ⟨.ref s.heap.objs.size, _, I1, rfl, ⟨_, x, rfl, I.hok.fresh (Nat.le_refl _), rfl, fun l hl => ?_⟩, ⟨⟨m, ?_⟩, j2.1.on fun o q => (sb.2 _ (Ne.symm hne)).trans q⟩, fun c hc2 => ?_⟩
    · rw [SqB.inj I hl hxs]; exact hx
    · have e1 : ((i + 1 : Nat) : Int) = (i : Int) + 1 := by omega
      rw [e1]; exact g1
    · have lt : c < s.heap.objs.size := by
        simp only [List.mem_cons, List.not_mem_nil, or_false] at hc2
        rcases hc2 with q | q
        · rw [q]; exact el
        · obtain ⟨o, e, _⟩ := k2.rec
          rw [q]; exact Heap.lt_size e
      rw [upd_ne (Nat.ne_of_lt lt)]
      exact (hf c hc2).1
  done := by
    intro X hP hw hK hc i pins s σ H E I hf st hg
    subst hP hw hK
    obtain ⟨⟨old, k1⟩, k2⟩ := st
    obtain ⟨xs, hxs, hl⟩ := hg
    obtain ⟨its, rv, ha⟩ := hxs.seen I
    have r1 := rv.length
    have hd : X.A.in1.handled = none := I.ok.hd hc
    have hn : i = its.toArray.size := by rw [List.size_toArray]; omega
    obtain ⟨f0, f1, f2, f3, f4, f5⟩ := hf it (by simp)
    rw [hn] at k2
    exact wpAny_pyNext_enum_endD (drawB t hd it a hia its.toArray) k1 ⟨k2, ha⟩ fun h' eb => ⟨rfl, I.turned (t' := s.toks) (fun b o hb q => eb b o hb q) f0 f1 f3 f4 f5⟩
  self := fun A i s Q E st h => let ⟨⟨_, he⟩, _⟩ := st; wpAny_pyIter_enum he h
theorem meets_enumB {v : Value} {o : Obj} {Z : Heap → Prop} (B : Begins v o Z) :
    Meets (Builtin.«enumerate.__new__» ⟨[.type "enumerate", v], []⟩) (fun _ R s => Z s.heap ∧
      R (.ok (.ret (.ref (s.heap.push o).objs.size))) { s with heap := (s.heap.push o).push { cls := .type "enumerate", data := .fields #[.none, .bool false, .ref s.heap.objs.size, rawInt 0, .none, .none] } }) :=
  .of_wp fun prog w A R s h => by
    obtain ⟨hp, g, d, tk, os⟩ := s
    obtain ⟨h1, h⟩ := h
    have hsub := sub_enumerate
    have go : ∀ {A' : Around} {E : Value → Shared → Prop} {Q : Value → Shared → Prop}, Q (.ref hp.objs.size) ⟨hp.push o, g, d, tk, os⟩ → wpAny (model prog w) A' (pyIter v) Q E ⟨hp, g, d, tk, os⟩ := fun q => B.iter prog w _ _ ⟨hp, g, d, tk, os⟩ _ h1 q
    wp_walk using go
    refine wpAny_stack_any fun st => wpAny_pure ?_
    split
    · rename_i c _ _ _ _ _
      cases (c == Value.type "enumerate")
      · wp_walk using go
        exact ⟨_, rfl, h⟩
      · wp_walk using go
        exact ⟨_, rfl, h⟩
    · wp_walk using go
      exact ⟨_, rfl, h⟩
theorem call_enumB {prog : Program} {w : World} {A : Around} {E : Value → Shared → Prop} {s : Shared} {v : Value} {o : Obj} {Z : Heap → Prop} {Q : Value → Shared → Prop} (B : Begins v o Z) (h1 : Z s.heap)
    (h : ∀ h', IsEnum h' (s.heap.objs.size + 1) s.heap.objs.size 0 .none → h'.get? s.heap.objs.size = some o → (∀ b o, s.heap.get? b = some o → h'.get? b = some o) → Q (.ref (s.heap.objs.size + 1)) { s with heap := h' }) :
    wpAny (model prog w) A (call (.type "enumerate") [v]) Q E s := by
  refine callType_new F.called_enumerate (by decide) (F.typeCall_enumerate_1 _) (F.newCall_enumerate_1 _) (fun obj => F.args_object_init_2 obj _) F.entry_enumerate_new (meets_enumB B) ⟨h1, ?_⟩
  have hz : (s.heap.push o).objs.size = s.heap.objs.size + 1 := Heap.size_push ..
  show _ ∧ _
  have he := Heap.get?_push_size (s.heap.push o) (o := { cls := .type "enumerate", data := .fields #[.none, .bool false, .ref s.heap.objs.size, rawInt 0, .none, .none] }) rfl
  rw [hz] at he ⊢
  exact ⟨⟨_, he, rfl⟩, h _ he (Heap.get?_push_of_some _ (Heap.get?_push_size _ B.free)) fun b o x => Heap.get?_push_of_some _ (Heap.get?_push_of_some _ x)⟩
def iEnumB (K : PySem.W.Frag) (ta : TA) : TI := fun σ H R => ta σ H fun vs H1 => ∃ t a xs, vs = [.ref a] ∧ SqB K t H1 a xs ∧ R (IteB K t a) H1
theorem pi_enumB {X : Cx} {e : Expr} {ta : TA} {p pos tpos : Pos} {elts : List Expr} {kk : Nat} (hg : Gl X "enumerate") (hm : X.mg "enumerate" = none) (ha : PA X [e] ta) (hs : starEach [e] X.env = [(false, eval e X.env)] := by rfl) : PI X (.Tuple elts kk tpos) (.Call (.Name "enumerate" p) [e] [] pos) (iEnumB X.K ta) := by
  refine ⟨fun pins s σ H R I h => Call_ (ld_blt I hg hm boot_enumerate (PyProof.Rows.callWith_type1 (thn (ha.run pos pins s σ H _ I h) fun us s1 q => ?_) hs rfl))⟩
  obtain ⟨vs, H1, I1, r1, t, a, xs, ev, hxs, hr⟩ := q
  subst ev
  cases r1 with
  | cons ra rr =>
    cases rr
    cases ra
    obtain ⟨its, rv, sa⟩ := hxs.seen I1
    have la := sa.lt
    refine call_enumB (begB t a its.toArray) sa fun h' he g1 hk => wpAny_pyIter_enum he ?_
    refine ⟨s1.heap.objs.size + 1, [s1.heap.objs.size + 1, s1.heap.objs.size], _, _, H1, rfl, I1.kept (t' := s1.toks) hk, turn_enumB (t := t) (Nat.succ_ne_self _) (Nat.ne_of_gt (Nat.lt_succ_of_lt la)) (Nat.ne_of_lt la), ⟨⟨_, he⟩, .first g1⟩, fun c hc => ?_, hr⟩
    have le : s1.heap.objs.size ≤ c := by
      simp only [List.mem_cons, List.not_mem_nil, or_false] at hc
      rcases hc with q | q <;> rw [q]
      · exact Nat.le_add_right _ _
      · exact Nat.le_refl _
    exact I1.fpOk le (I1.hok.fresh le)
end DN
namespace DN
open PySem PySem.Spec L2
open PyProof.Rows hiding St
variable {Φ : Type}

/-! ### enumerate, zip -/
def isSeq (t : Bool) (ds : List D) : D := match t with
  | true => .tup ds
  | false => .lst ds
def sqObj (t : Bool) (xs : List V) : HO := match t with
  | true => .tup xs
  | false => .lst xs
theorem RD.seq {G : Ctx Φ} {F : List Addr} {H : Hp} {v : V} {t : Bool} {ds : List D} (h : RD G F H v (isSeq t ds)) : ∃ a xs, v = .ref a ∧ H a = some (sqObj t xs) ∧ RDs G F H xs ds := by
  cases t
  · cases h with
    | lst h1 h2 => exact ⟨_, _, rfl, h1, h2⟩
  · cases h with
    | tup h1 h2 => exact ⟨_, _, rfl, h1, h2⟩
theorem SqB.of {K : PySem.W.Frag} {t : Bool} {H : Hp} {a : Addr} {xs : List V} (e : H a = some (sqObj t xs)) : SqB K t H a xs := by
  cases t
  · exact SqL.of e
  · exact SqT.of e
theorem upd_some {H : Hp} {p a : Addr} {o u : HO} (n : H p = none) (e : H a = some u) : upd H p o a = some u := by
  rw [upd_ne]
  · exact e
  · intro z; rw [z, n] at e; cases e
def enD (ds : List D) : List D := ds.zipIdx.map fun p => .tup [.int (p.2 : Nat), p.1]
theorem items_enum {G : Ctx Φ} {F O : List Addr} {H : Hp} {t : Bool} {a : Addr} {xs : List V} {ds : List D} (h : hide (F ++ O) H a = some (sqObj t xs)) (hd : RDs G F (hide (F ++ O) H) xs ds) : Items G F O H (enD ds) (IteB G.K t a) := fun F' O' H' s fe tr i => by
  have e := (hide_some (s _ _ h)).2
  have hd := hd.mono s fe
  refine ⟨fun d ed => ?_, fun hi => ⟨xs, SqB.of e, by rw [hd.length, hi]; simp [enD]⟩⟩
  unfold enD at ed
  rw [List.getElem?_map] at ed
  obtain ⟨⟨d0, j⟩, ej, rfl⟩ := Option.map_eq_some_iff.mp ed
  rw [List.getElem?_zipIdx] at ej
  obtain ⟨d1, e1, e2⟩ := Option.map_eq_some_iff.mp ej
  cases e2
  obtain ⟨v, ev, rv⟩ := hd.getD e1
  refine ⟨⟨xs, v, SqB.of e, ev⟩, fun x H2 y => ?_⟩
  obtain ⟨A, u, rfl, hA, rfl, hu⟩ := y
  have := hu xs (SqB.of e)
  rw [ev] at this; cases this
  refine ⟨.inr ⟨A, _, hA, rfl⟩, .tup (hide_of (fun z => tr A z hA) upd_same) (.cons ?_ (.cons (rv.mono (hide_upd (.inr hA)) (.refl _)) .nil))⟩
  show RD _ _ _ (.int ((i : Nat) : Int)) (.int ((0 + i : Nat) : Int))
  rw [Nat.zero_add]
  exact .int _
def zpD (ds es : List D) : List D := List.zipWith (fun d e => .tup [d, e]) ds es
theorem items_zip {G : Ctx Φ} {F O : List Addr} {H : Hp} {t u : Bool} {a b : Addr} {xs ys : List V} {ds es : List D} (h : hide (F ++ O) H a = some (sqObj t xs)) (hd : RDs G F (hide (F ++ O) H) xs ds) (k : hide (F ++ O) H b = some (sqObj u ys)) (kd : RDs G F (hide (F ++ O) H) ys es) :
    Items G F O H (zpD ds es) (ItzB G.K t u a b) := fun F' O' H' s fe tr i => by
  have e := (hide_some (s _ _ h)).2
  have f := (hide_some (s _ _ k)).2
  have hd := hd.mono s fe
  have kd := kd.mono s fe
  have l1 := hd.length
  have l2 := kd.length
  refine ⟨fun d ed => ?_, fun hi => ⟨xs, ys, SqB.of e, SqB.of f, ?_⟩⟩
  · unfold zpD at ed
    rw [List.getElem?_zipWith] at ed
    cases e1 : ds[i]? with
    | none => rw [e1] at ed; cases ed
    | some d1 =>
      cases e2 : es[i]? with
      | none => rw [e1, e2] at ed; cases ed
      | some d2 =>
        rw [e1, e2] at ed
        cases ed
        obtain ⟨v, ev, rv⟩ := hd.getD e1
        obtain ⟨w, ew, rw'⟩ := kd.getD e2
        refine ⟨⟨xs, ys, v, w, SqB.of e, SqB.of f, ev, ew⟩, fun x H2 y => ?_⟩
        obtain ⟨A, v', w', rfl, hA, rfl, hv, hw⟩ := y
        have q1 := hv xs (SqB.of e)
        have q2 := hw ys (SqB.of f)
        rw [ev] at q1; cases q1
        rw [ew] at q2; cases q2
        exact ⟨.inr ⟨A, _, hA, rfl⟩, .tup (hide_of (fun z => tr A z hA) upd_same) (.cons (rv.mono (hide_upd (.inr hA)) (.refl _)) (.cons (rw'.mono (hide_upd (.inr hA)) (.refl _)) .nil))⟩
  · unfold zpD at hi
    rw [List.length_zipWith] at hi
    omega
def seqOf : D → Option (Bool × List D)
  | .lst ds => some (false, ds)
  | .tup ds => some (true, ds)
  | _ => none
theorem seqOf_eq : ∀ {d : D} {t : Bool} {ds : List D}, seqOf d = some (t, ds) → d = isSeq t ds
  | .lst _, _, _, h => by cases h; rfl
  | .tup _, _, _, h => by cases h; rfl
  | .non, _, _, h => by cases h
  | .bl _, _, _, h => by cases h
  | .int _, _, _, h => by cases h
  | .str _, _, _, h => by cases h
  | .obj _ _, _, _, h => by cases h
  | .fd, _, _, h => by cases h
  | .scr _, _, _, h => by cases h
def enumOf : List D → M Φ (List D)
  | [d] => (match seqOf d with
    | some (_, ds) => mP (enD ds)
    | none => mS)
  | _ => mS
def zipOf : List D → M Φ (List D)
  | [d, e] => (match seqOf d, seqOf e with
    | some (_, ds), some (_, es) => mP (zpD ds es)
    | _, _ => mS)
  | _ => mS
def mEnum (t : M Φ (List D)) : M Φ (List D) := mB t enumOf
def mZip (t : M Φ (List D)) : M Φ (List D) := mB t zipOf
section
variable {X : Cx} {G : Ctx Φ} {W : WX} {e e2 : Expr} {pos p tpos : Pos} {elts : List Expr} {kk : Nat} {t : M Φ (List D)}
theorem i_enum (hK : G.K = X.K) (hg : Gl X "enumerate") (hm : X.mg "enumerate" = none) (ha : PA X [e] (dA G W t)) (hs : starEach [e] X.env = [(false, eval e X.env)] := by rfl) : PI X (.Tuple elts kk tpos) (.Call (.Name "enumerate" p) [e] [] pos) (dI G W (mEnum t)) :=
  PI.weak (pi_enumB hg hm ha hs) fun σ H R h => by
    obtain ⟨ρ, φ, F, O, r, g⟩ := h
    refine useA r (Good.mono g.bind fun ds ρ1 φ1 F1 O1 H1 _ x1 _ g1 vs r1 hv => ?_)
    unfold enumOf at g1
    split at g1
    · rename_i d _
      cases eq : seqOf d with
      | none => rw [eq] at g1; exact g1.elim
      | some be =>
        obtain ⟨b, es⟩ := be
        rw [eq] at g1
        obtain ⟨v, rfl, h1⟩ := hv.one
        rw [seqOf_eq eq] at h1
        obtain ⟨a, xs, rfl, k1, k2⟩ := h1.seq
        exact ⟨b, a, xs, rfl, SqB.of (hide_some k1).2, hK ▸ g1.ok r1 r1 _ (items_enum k1 k2)⟩
    · exact g1.elim
theorem i_zip (hK : G.K = X.K) (hg : Gl X "zip") (hm : X.mg "zip" = none) (ha : PA X [e, e2] (dA G W t)) (hs : starEach [e, e2] X.env = (false, eval e X.env) :: starEach [e2] X.env := by rfl) (hpl : (backTo pos (starEach [e2] X.env)).any (·.1) = false := by rfl) : PI X (.Tuple elts kk tpos) (.Call (.Name "zip" p) [e, e2] [] pos) (dI G W (mZip t)) :=
  PI.weak (pi_zipB hg hm ha hs hpl) fun σ H R h => by
    obtain ⟨ρ, φ, F, O, r, g⟩ := h
    refine useA r (Good.mono g.bind fun ds ρ1 φ1 F1 O1 H1 _ x1 _ g1 vs r1 hv => ?_)
    unfold zipOf at g1
    split at g1
    · rename_i d1 d2 _
      cases eq1 : seqOf d1 with
      | none => rw [eq1] at g1; exact g1.elim
      | some be =>
      cases eq2 : seqOf d2 with
      | none =>
        obtain ⟨b1, es1⟩ := be
        rw [eq1, eq2] at g1; exact g1.elim
      | some be2 =>
        obtain ⟨b1, es1⟩ := be
        obtain ⟨b2, es2⟩ := be2
        rw [eq1, eq2] at g1
        obtain ⟨v, w, rfl, h1, h2⟩ := hv.two
        rw [seqOf_eq eq1] at h1
        rw [seqOf_eq eq2] at h2
        obtain ⟨a, xs, rfl, k1, k2⟩ := h1.seq
        obtain ⟨b, ys, rfl, k3, k4⟩ := h2.seq
        exact ⟨b1, b2, a, b, xs, ys, rfl, SqB.of (hide_some k1).2, SqB.of (hide_some k3).2, hK ▸ g1.ok r1 r1 _ (items_zip k1 k2 k3 k4)⟩
    · exact g1.elim
end
end DN
namespace DN
open PySem PySem.Spec L2
open PyProof.Rows hiding St
variable {Φ : Type}

/-! ### calls whose arguments have names -/
def perm {α : Type} (ix : List Nat) (xs : List α) : List α := ix.filterMap fun i => xs[i]?
theorem perm_vals {ix : List Nat} {vs : List V} {us : List Value} (h : Vals vs us) : Vals (perm ix vs) (perm ix us) := by
  induction ix with
  | nil => exact .nil
  | cons i ix ih =>
    unfold perm at ih ⊢
    rw [List.filterMap_cons, List.filterMap_cons]
    have hl := h.length
    cases e : vs[i]? with
    | none =>
      have : us[i]? = none := List.getElem?_eq_none (by have := List.getElem?_eq_none_iff.mp e; omega)
      rw [this]; exact ih
    | some v =>
      obtain ⟨u, e2, r⟩ := h.get e
      rw [e2]; exact .cons r ih
theorem perm_rds {G : Ctx Φ} {F : List Addr} {H : Hp} {ix : List Nat} {vs : List V} {ds : List D} (h : RDs G F H vs ds) : RDs G F H (perm ix vs) (perm ix ds) := by
  induction ix with
  | nil => exact .nil
  | cons i ix ih =>
    unfold perm at ih ⊢
    rw [List.filterMap_cons, List.filterMap_cons]
    cases e : vs[i]? with
    | none =>
      have : ds[i]? = none := List.getElem?_eq_none (by have := List.getElem?_eq_none_iff.mp e; have := h.length; omega)
      rw [this]; exact ih
    | some v =>
      obtain ⟨d, e2, r⟩ := h.get e
      rw [e2]; exact .cons r ih
theorem perm_length {α : Type} {ix : List Nat} {xs : List α} {n : Nat} (hx : xs.length = n) (hi : ∀ i, i ∈ ix → i < n) : (perm ix xs).length = ix.length := by
  induction ix with
  | nil => rfl
  | cons i ix ih =>
    unfold perm at ih ⊢
    have := hi i List.mem_cons_self
    rw [List.filterMap_cons, List.getElem?_eq_getElem (by omega)]
    simp only [List.length_cons]
    rw [ih fun j hj => hi j (List.mem_cons_of_mem _ hj)]
def KwB (fd : FuncData) (ps ks : List Str) (ix : List Nat) : Prop := ∀ (s : Shared) (ws : List Value), ws.length = ks.length → BindsTo s fd ⟨[], ks.zip ws⟩ (ps.zip (perm ix ws))
section
variable {X : Cx} {G : Ctx Φ} {P0 : List Addr} {W : WX} {e : Expr} {pos kpos : Pos} {kws : List Keyword} {m : M Φ R} {t : M Φ (List D)} {nm : Option Str}
theorem PK.weak {t t' : TA} (h : PK X kws t) (w : ∀ σ H Q, t' σ H Q → t σ H Q) : PK X kws t' := ⟨fun pos pins s σ H Q I q => h.run pos pins s σ H Q I (w σ H Q q)⟩
theorem k_nil : PK X [] (dA G W mNil) := PK.weak pk_nil fun σ H Q h => by
  obtain ⟨ρ, φ, F, O, r, g⟩ := h
  exact g.ok r [] .nil
theorem k_cons (ha : PE X e (dE G W m)) (hr : PK X kws (dA G W t)) : PK X (⟨nm, e, kpos⟩ :: kws) (dA G W (mCons m t)) := PK.weak (pk_cons ha hr) fun _ _ _ h => dA_cons h
def mCallK (f : Fn Φ) (ix : List Nat) (t : M Φ (List D)) : M Φ R := mCall (fun ds => f (perm ix ds)) t
theorem q_callK {k : Nat} {f : Addr} {fd : FuncData} {ps ks : List Str} {fn : Fn Φ} {x : Str} {p : Pos} {ix : List Nat} (F : FnOk X.prog X.w X.K X.mg X.base (L2.CX X.prog X.w) k f fd ps (spD G ps.length fn)) (hr : Room k X.A) (hg : Gl X x) (hm : X.mg x = some (.ref f)) (hk : PySem.W.keepIn X.K (.ref f) = true) (hb : KwB fd ps ks ix) (tk : Takes X W)
    (hn : Ar ks.length t) (ha : PK X kws (dA (G.at P0) W t)) (hp : ps.length = ix.length := by rfl) (hi : ∀ i, i ∈ ix → i < ks.length := by decide) (hdb : (x == ("__debug__" : Str)) = false := by decide) (hall : (backToKw pos (keywordEach kws X.env)).all (·.1.isSome) = true := by rfl) (hks : (backToKw pos (keywordEach kws X.env)).filterMap (·.1) = ks := by rfl)
    (hpl : ((backTo pos (starEach [] X.env)).any (·.1) || (backToKw pos (keywordEach kws X.env)).any (·.1.isNone)) = false := by rfl) :
    PE X (.Call (.Name x p) [] kws pos) (dE (G.at P0) W (mCallK fn ix t)) := by
  refine ⟨fun pins s σ H Q I h => ?_⟩
  have h2 : tCallS (spD G ks.length (fun ds => fn (perm ix ds))) (WE W) (dA (G.at P0) W t) σ H Q := dE_fn hn h
  have tp := passAt tk σ
  refine wpAny_Call_Name_kw (ld_glob I hg hm ?_ hdb)
  refine PySem.W.callWith_KW0 (h₀ := X.base) I.ok.mod.kin hk hall ?_ hpl
  refine thn (ha.run pos pins s σ H _ I h2) fun ws s2 ⟨zs, H2, I2, rz, q2⟩ => ⟨I2.kIn, ?_⟩
  rw [hks]
  obtain ⟨F0, φ0, ds, P, hl, hv, fi, hP, q⟩ := q2
  have lw : ws.length = ks.length := by rw [← rz.length]; exact hl
  have q3 : spD G ps.length fn (perm ix zs) H2 Q (WE W σ) := ⟨F0, φ0, perm ix ds, P, by rw [perm_length hl hi, hp], perm_rds hv, fi, hP, q⟩
  have lp : (perm ix ws).length = ps.length := by rw [perm_length lw hi, hp]
  refine wpAny_call (codeAny_mono (F.run X.A X.stack s2 H2 ⟨[], ks.zip ws⟩ (perm ix ws) (perm ix zs) Q (WE W σ) hr I2.env0 (hb s2 ws lw) (perm_vals rz) q3) fun r s' hq => ?_)
  cases r with
  | error e => exact tp pins H2 s2 e s' I2 hq
  | ok fl =>
    cases fl with
    | ret u => exact I2.after hq
    | next => exact False.elim hq
    | brk => exact False.elim hq
    | cont => exact False.elim hq
end

/-! ### an error of one's own, with two fields -/
def spInit (K : PySem.W.Frag) (C : Addr) (n1 n2 : Str) : Sp := fun vs H Q _ => ∃ a w x, vs = [.ref a, w, x] ∧ OexC K C ∧ PySem.W.findIn K (.ref C) n1 = some none ∧ PySem.W.findIn K (.ref C) n2 = some none ∧ H a = some (exo a C none) ∧
  ∀ dx, H dx = none → dx ≠ a → Q .non (upd (upd (upd H dx (exd dx [(n1, w)])) a (exo a C (some dx))) dx (exd dx [(n2, x), (n1, w)]))
theorem init_pure {K : PySem.W.Frag} {C : Addr} {n1 n2 : Str} {N : List Str} (hN : N.length = 3) (vs : List V) (H : Hp) (Q : VK) (E : XK) (h : spInit K C n1 n2 vs H Q E) :
    tSeq (tOst K n1 (tVar 0) (tVar 1)) (tOst K n2 (tVar 0) (tVar 2)) { nx := fun _ H' => Q .non H', rt := Q } (L2.start N vs) H := by
  obtain ⟨a, w, x, rfl, T, f1, f2, ha, q⟩ := h
  have es : L2.start N [.ref a, w, x] = [some (.ref a), some w, some x] := by
    unfold L2.start
    rw [hN]
    rfl
  rw [es]
  refine ⟨w, rfl, .ref a, rfl, a, C, rfl, T, f1, .inl ⟨ha, fun dx n ne => ?_⟩⟩
  refine ⟨x, rfl, .ref a, rfl, a, C, rfl, T, f2, .inr ⟨dx, [(n1, w)], upd_same, ?_, (show 1 ≤ 900 by decide), ?_⟩⟩
  · rw [upd_ne ne]; exact upd_same
  · exact q dx n ne
def mRaise (c : Str) (t : M Φ (List D)) : M Φ Fl := mB t fun ds => fun ρ φ => .err c ds.reverse ρ φ
section
variable {X : Cx} {G : Ctx Φ} {P0 : List Addr} {W : WX} {e : Expr} {es : List Expr} {pos pos2 : Pos} {t : M Φ (List D)}
theorem s_raise {k : Nat} {fI C : Addr} {fd : FuncData} {ps : List Str} {n1 n2 x : Str} {p : Pos} (hc : X.calm = true) (tk : Takes X W) (T : OexC X.K C) (h1 : PySem.W.findIn X.K (.ref C) n1 = some none) (h2 : PySem.W.findIn X.K (.ref C) n2 = some none) (iC : PySem.W.findIn X.K (.ref C) "__init__" = some (some (.ref fI))) (tI : PySem.W.typeIn X.K (.ref fI) = some (.type "function"))
    (F1 : FnOk X.prog X.w X.K X.mg X.base CX0 k fI fd ps (spInit X.K C n1 n2)) (hr : Room (k + 1) X.A) (hb : Binds X.K fd ps []) (hg : Gl X x) (hm : X.mg x = some (.ref C)) (hx : G.ex x = some (C, [n2, n1])) (hn : Ar 2 t) (ha : PA X (e :: es) (dA (G.at P0) W t))
    (hdb : (x == ("__debug__" : Str)) = false := by decide) (he : starEach (e :: es) X.env = (false, eval e X.env) :: starEach es X.env := by rfl) (hpl : (backTo pos (starEach es X.env)).any (·.1) = false := by rfl) :
    PS X (.Raise (some (.Call (.Name x p) (e :: es) [] pos)) none pos2) (dS (G.at P0) W (mRaise x t)) :=
  PS.weak (ps_raise hc tk (pmk_oex (dvs := []) T iC tI F1 hr hb .nil (fun _ _ _ _ _ _ _ h => h.elim) hg hm ha hdb he hpl)) fun D σ H h => by
    obtain ⟨ρ, φ, F, O, r, g⟩ := h
    refine useA r (Good.mono g.bindE fun ds ρ1 φ1 F1 O1 H1 e1 x1 _ g1 vs r1 hv => ?_)
    have hl := hn _ _ _ _ _ e1
    match ds, hl with
    | [d1, d2], _ =>
      obtain ⟨v, w, rfl, k1, k2⟩ := hv.two
      refine ⟨(show 2 ≤ 1000 by decide), fun a hna => ⟨a, v, w, rfl, T, h1, h2, upd_same, fun dx hd ne => ⟨rfl, dx, [(n2, w), (n1, v)], ?_, upd_same, ?_, ?_⟩⟩⟩
      · rw [upd_ne (Ne.symm ne), upd_same]
      · rw [upd_ne ne] at hd; exact hd
      · have hd1 : H1 dx = none := by rw [upd_ne ne] at hd; exact hd
        have eh : upd (del (upd (upd (upd (upd H1 a (exo a C none)) dx (exd dx [(n1, v)])) a (exo a C (some dx))) dx (exd dx [(n2, w), (n1, v)])) a) dx (.xd [(n2, w), (n1, v)]) = upd H1 dx (.xd [(n2, w), (n1, v)]) := by
          funext b
          by_cases hb : b = dx
          · rw [hb, upd_same, upd_same]
          · rw [upd_ne hb, upd_ne hb]
            by_cases hba : b = a
            · rw [hba, del_same, hna]
            · rw [del_ne hba, upd_ne hb, upd_ne hba, upd_ne hb, upd_ne hba]
        rw [eh]
        obtain ⟨r2, x2⟩ := r1.laid (o := .xd [(n2, w), (n1, v)]) hd1
        exact g1 F1 O1 _ _ _ _ x2 r2 ⟨C, [n2, n1], dx, _, hx, rfl, rfl, hide_of (r1.notin hd1) upd_same, rfl, .cons (k2.mono x2.sm x2.fe) (.cons (k1.mono x2.sm x2.fe) .nil)⟩
end
end DN
namespace DN
open PySem PySem.Spec L2
open PyProof.Rows hiding St
variable {Φ : Type}

/-! ### try: .. except X as e: return (.., e.f, ..) -/
/-- what stands in the display: a text, or a field of e -/
inductive XI where
  | k (x : Str) | f (n : Str)
def xiD (ns : List Str) (es : List D) : XI → Option D
  | .k x => some (.str x)
  | .f n => (ns.zip es).lookup n
def xiT (a : Addr) (cls : Value) (d : Option Addr) (C : Addr) (i : Nat) : List XI → TA
  | [] => tNil
  | .k x :: l => tCons (tC (.str x)) (xiT a cls d C i l)
  | .f n :: l => tCons (tXf a cls d C n (tVar i)) (xiT a cls d C i l)
theorem look_rds {G : Ctx Φ} {F : List Addr} {H : Hp} {n : Str} {d : D} : ∀ {fs : List (Str × V)} {es : List D}, RDs G F H (fs.map (·.2)) es → ((fs.map (·.1)).zip es).lookup n = some d → ∃ v, fs.lookup n = some v ∧ RD G F H v d
  | [], _, h, e => by simp at e
  | (k, v) :: fs, [], h, e => by simp at e
  | (k, v) :: fs, d1 :: es, h, e => by
    cases h with
    | cons h1 h2 =>
      rw [List.map_cons, List.zip_cons_cons, List.lookup_cons] at e
      rw [List.lookup_cons]
      cases hb : n == k with
      | true =>
        rw [hb] at e
        cases e
        exact ⟨v, rfl, h1⟩
      | false =>
        rw [hb] at e
        exact look_rds h2 e
theorem xi_ok {G : Ctx Φ} {F O : List Addr} {σ : St} {H : Hp} {a C dd : Addr} {i : Nat} {fs : List (Str × V)} {es : List D} (hs : σ[i]? = some (some (.ref a))) (hd : hide (F ++ O) H dd = some (.xd fs)) (hr : RDs G F (hide (F ++ O) H) (fs.map (·.2)) es) :
    ∀ (l : List XI) (ds : List D) (Q : List V → Hp → Prop), l.mapM (xiD (fs.map (·.1)) es) = some ds → (∀ vs, RDs G F (hide (F ++ O) H) vs ds → Q vs H) → xiT a (.ref C) (some dd) C i l σ H Q
  | [], ds, Q, e, q => by
    cases e
    exact q [] .nil
  | .k x :: l, ds, Q, e, q => by
    rw [List.mapM_cons] at e
    simp only [xiD, Option.bind_eq_bind, Option.bind_some, Option.pure_def] at e
    obtain ⟨ds', e1, e2⟩ := Option.bind_eq_some_iff.mp e
    cases e2
    exact xi_ok hs hd hr l ds' _ e1 fun vs hv => q _ (.cons (.str x) hv)
  | .f n :: l, ds, Q, e, q => by
    rw [List.mapM_cons] at e
    obtain ⟨d, e0, e⟩ := Option.bind_eq_some_iff.mp e
    obtain ⟨ds', e1, e2⟩ := Option.bind_eq_some_iff.mp e
    cases e2
    obtain ⟨v, l1, l2⟩ := look_rds hr e0
    exact ⟨_, hs, rfl, rfl, dd, fs, v, rfl, (hide_some hd).2, l1, xi_ok hs hd hr l ds' _ e1 fun vs hv => q _ (.cons l2 hv)⟩
def mTryRet (i : Nat) (hit : Str → Bool) (ns : List Str) (l : List XI) (m : M Φ Fl) : M Φ Fl := fun ρ φ => match m ρ φ with
  | .err c es ρ1 φ1 => if hit c = true then (match l.mapM (xiD ns es) with
    | some ds => if ds.length ≤ 16777216 ∧ i < ρ1.length then .ok (.rt (.val (.tup ds))) ρ1 φ1 else .stuck
    | none => .stuck) else .err c es ρ1 φ1
  | .ok fl ρ1 φ1 => .ok fl ρ1 φ1
  | .stuck => .stuck
section
variable {X : Cx} {G : Ctx Φ} {W : WX} {m : M Φ Fl} {i : Nat} {n x : Str} {C : Addr} {body : List Stmt} {e : Expr} {es : List Expr} {np pos pos' pt pr : Pos} {kt : Nat} {ns : List Str} {l : List XI}
theorem dS_try {c0 : Str} {hit : Str → Bool} {D : Ends} {σ : St} {H : Hp} (hx : G.ex c0 = some (C, ns)) (hh : ∀ c C' ns', G.ex c = some (C', ns') → PySem.W.exmOne X.K (.ref C') (.ref C) = some (hit c) ∧ (hit c = true → C' = C ∧ ns' = ns))
    (h : dS G W (mTryRet i hit ns l m) D σ H) : dS G (wAs X.K (.ref C) i (fun a cls d => tRet (tTup (xiT a cls d C i l))) W D) m D σ H := by
  obtain ⟨ρ, φ, F, O, r, g⟩ := h
  refine ⟨ρ, φ, F, O, r, ?_⟩
  unfold mTryRet at g
  cases q : m ρ φ with
  | stuck => rw [q] at g; exact g
  | ok fl ρ1 φ1 =>
    rw [q] at g
    cases fl <;> exact g
  | err c es ρ1 φ1 =>
    rw [q] at g
    dsimp only at g
    intro F' O' H' cls d σ' x' r' er
    have er0 := er
    obtain ⟨C', ns', dd, fs, h1, h2, h3, h4, h5, h6⟩ := er
    obtain ⟨k1, k2⟩ := hh c C' ns' h1
    subst h2; subst h3
    refine ⟨hit c, k1, fun ht a ha => ?_, fun hf => ?_⟩
    · rw [if_pos ht] at g
      obtain ⟨rfl, rfl⟩ := k2 ht
      split at g
      · rename_i ds eds
        split at g
        · rename_i hz
          have hi : i < σ'.length := by rw [r'.len]; exact hz.2
          refine xi_ok (F := F') (O := O') (List.getElem?_set_self hi) h4 h6 l ds _ (by rw [h5]; exact eds) fun vs hv => ⟨by rw [hv.length, sizeLine_eq]; exact hz.1, fun p hp => ?_⟩
          obtain ⟨r2, x2⟩ := r'.laid (o := .tup vs) hp
          exact g F' O' _ σ' (x'.trans x2) r2 (.ref p) (.tup (hide_of (r'.notin hp) upd_same) (hv.mono x2.sm x2.fe))
        · exact g.elim
      · exact g.elim
    · rw [hf, if_neg Bool.false_ne_true] at g
      exact g F' O' H' (.ref C') (some dd) σ' x' r' er0
theorem s_try {c0 : Str} {hit : Str → Bool} (hs : X.stack = X.env :: X.outer) (hf : X.env.frame = some X.env.locals) (hN : X.N.Nodup) (hi : X.N[i]? = some n) (hln : X.env.kindOf n = some .local) (hc : Names X x (.ref C)) (tk : Takes X W) (hx : G.ex c0 = some (C, ns))
    (hh : ∀ c C' ns', G.ex c = some (C', ns') → PySem.W.exmOne X.K (.ref C') (.ref C) = some (hit c) ∧ (hit c = true → C' = C ∧ ns' = ns))
    (hb : ∀ (W' : WX) (pn : List (Addr × Obj)) (xe : Value → Shared → Prop), Takes (X.tr pn xe) W' → PassesOwn (model X.prog X.w) X.A X.env xe → PSs (X.tr pn xe) body (dS G W' m))
    (hsu : ∀ (a : Addr) (oe : Obj) (cls : Value) (d : Option Addr) (pn : List (Addr × Obj)), Zc cls d oe → (∃ vs, oe.data = .fields vs) → PA (X.suite a ((a, oe) :: pn)) es (xiT a cls d C i l)) :
    PS X (.Try body [.ExceptHandler (some (.Name x np)) (some n) [.Return (some (.Tuple es kt pt)) pr] pos'] [] [] pos) (dS G W (mTryRet i hit ns l m)) :=
  PS.weak (ps_try_as (tb := fun W' => dS G W' m) (ts := fun a cls d => tRet (tTup (xiT a cls d C i l))) hs hf hN hi hln hc tk hb fun a oe cls d pn hz hv => pss_one (ps_ret (pe_tup (hsu a oe cls d pn hz hv)))) fun D σ H h => dS_try hx hh h
end
end DN
namespace DN
open PySem PySem.Spec L2
open PyProof.Rows hiding St
variable {Φ : Type}

/-! ### loops by a measure of the frame -/
def sizeD : D → Nat
  | .int i => i.natAbs
  | .lst ds => ds.length
  | .tup ds => ds.length
  | _ => 0
def sizeR : List Sl → Nat
  | [] => 1
  | .val d :: ρ => sizeD d + sizeR ρ
  | .own ds :: ρ => ds.length + sizeR ρ
  | .emp :: ρ => sizeR ρ
def mWh (t : M Φ Bool) (m : M Φ Fl) : M Φ Fl := fun ρ φ => mWhile (sizeR ρ) t m ρ φ
section
variable {X : Cx} {G : Ctx Φ} {W : WX} {c : Expr} {pos : Pos} {tc : M Φ Bool} {m : M Φ Fl} {body : List Stmt}
theorem s_wh (hp : PassesOwn (model X.prog X.w) X.A X.env X.xe) (hc : PT X c (dT G W tc)) (hb : PSs X body (dS G W m)) : PS X (.While c body [] pos) (dS G W (mWh tc m)) := ⟨fun pins s σ H D I h => by
  obtain ⟨ρ, φ, F, O, r, g⟩ := h
  exact (s_while (sizeR ρ) hp hc hb).run pins s σ H D I ⟨ρ, φ, F, O, r, g⟩⟩
end
/-! the cells of a script -/
section
variable {X : Cx} {G : Ctx Φ} {W : WX} {e : Expr} {tg : Expr} {me : M Φ R}
def scrD : D → M Φ (List D)
  | .scr ns => mP (ns.map D.int)
  | _ => mS
def mScr (m : M Φ R) : M Φ (List D) := mB m fun r => scrD r.d
theorem i_scr (hK : G.K = X.K) (he : PE X e (dE G W me)) : PI X tg e (dI G W (mScr me)) := PI.weak (pi_list he) fun σ H R h => by
  obtain ⟨ρ, φ, F, O, r, g⟩ := h
  refine use r (Good.mono g.bind fun a ρ1 φ1 F1 O1 H1 _ x1 _ g1 O2 v r2 x2 d2 => ?_)
  cases ed : a.d with
  | scr ns =>
    rw [ed] at g1 d2
    cases d2 with
    | scr h1 =>
      have h2 := h1
      rw [hK] at h2
      refine ⟨_, rfl, ⟨_, hide_un.seq h2⟩, (g1.ext x2).ok r2 r2 _ fun F' O' H' s fe t i => ?_⟩
      have q := hide_un.seq (s.seq h2)
      refine ⟨fun d ed => ?_, fun hi => ⟨_, q, by rw [hi]; simp⟩⟩
      rw [List.getElem?_map] at ed
      obtain ⟨n, en, rfl⟩ := Option.map_eq_some_iff.mp ed
      have ev : (ns.map V.int)[i]? = some (.int n) := by rw [List.getElem?_map, en]; rfl
      refine ⟨⟨_, _, q, ev⟩, fun x H2 y => ?_⟩
      obtain ⟨rfl, y⟩ := y
      have := y _ q
      rw [ev] at this; cases this
      exact ⟨.inl rfl, .int n⟩
  | _ => rw [ed] at g1; exact g1.elim
end

/-! ### the text's defs -/
def clsDef (s : Stmt) (i : Nat) : Stmt := match s with
  | .ClassDef _ _ _ b _ _ _ _ _ _ _ => b.getD i (.Pass ⟨0, 0, 0, 0⟩)
  | _ => .Pass ⟨0, 0, 0, 0⟩
section
variable {K : PySem.W.Frag} {x qual : Str} {st : Stmt} {f : Addr} {fd : FuncData} {ps : List Str}
theorem fun_kw {ks : List Str} {ix : List Nat} (F : Fun K x qual st f fd)
    (h : ∀ (kV doc pm : Value) (an : Option Addr) (cdv ct : Value) (ws : List Value), ws.length = ks.length → bindArgs (PySem.W.fnOf x qual (defArgs st) (defBody st) (defScope st) .none kV doc pm an cdv ct) ⟨[], ks.zip ws⟩ = pure (ps.zip (perm ix ws))) : KwB fd ps ks ix := by
  obtain ⟨oc, od, kV, doc, pm, an, cdv, ct, osl, rfl, lk, hcd⟩ := F.ex
  exact fun s ws hl => BindsTo.of_eq (h kV doc pm an cdv ct ws hl)
end
def fnStuck : Fn Φ := fun _ _ => .stuck
theorem fn_stuck {P : Program} {w : World} {K : PySem.W.Frag} {mg : Str → Option Value} {base : Heap} {CX : CXT} {G : Ctx Φ} {k n : Nat} {f : Addr} {fd : FuncData} {ps : List Str} : FnOk P w K mg base CX k f fd ps (spD G n fnStuck) :=
  ⟨fun vs H Q E h => by
    obtain ⟨F, φ, ds, P, _, _, _, _, h⟩ := h
    exact h.elim, fun A outer s H args us vs Q E _ _ _ _ h => by
    obtain ⟨F, φ, ds, P, _, _, _, _, h⟩ := h
    exact h.elim⟩
end DN
namespace DN
open PySem PySem.Spec L2
open PyProof.Rows hiding St
variable {Φ : Type}

/-! ### what the readings give: plain laws -/
theorem lcLoop_pure {p : Pat} {vs : List Nat} {tt : M Φ Bool} {te : M Φ R} {ρ : List Sl} {φ : Φ} (b : D → Bool) (r : D → D) : ∀ (ds : List D),
    (∀ d, d ∈ ds → ∃ ρd, patSet p d (wipeR ρ vs) = some ρd ∧ wipeR ρd vs = wipeR ρ vs ∧ tt ρd φ = .ok (b d) ρd φ ∧ (b d = true → ∃ x, te ρd φ = .ok x ρd φ ∧ x.d = r d)) →
    ∀ ρ0, wipeR ρ0 vs = wipeR ρ vs → lcLoop p vs tt te ds ρ0 φ = .ok ((ds.filter b).map r) (wipeR ρ vs) φ
  | [], h, ρ0, e => by unfold lcLoop; rw [e]; rfl
  | d :: ds, h, ρ0, e => by
    obtain ⟨ρd, h1, h2, h3, h4⟩ := h d List.mem_cons_self
    have ih := lcLoop_pure b r ds (fun x hx => h x (List.mem_cons_of_mem _ hx)) ρd h2
    unfold lcLoop
    rw [e, h1]
    dsimp only
    rw [h3]
    cases hb : b d with
    | false =>
      dsimp only
      rw [ih, List.filter_cons_of_neg (by rw [hb]; simp)]
    | true =>
      obtain ⟨x, h5, h6⟩ := h4 hb
      dsimp only
      rw [h5]
      dsimp only
      rw [ih, List.filter_cons_of_pos hb, List.map_cons, h6]
theorem mLcD_pure {p : Pat} {vs : List Nat} {tt : M Φ Bool} {te : M Φ R} {ρ : List Sl} {φ : Φ} (b : D → Bool) (r : D → D) {ds : List D} (hl : ds.length ≤ 16777216) (hn : noOwn ρ vs = true)
    (h : ∀ d, d ∈ ds → ∃ ρd, patSet p d (wipeR ρ vs) = some ρd ∧ wipeR ρd vs = wipeR ρ vs ∧ tt ρd φ = .ok (b d) ρd φ ∧ (b d = true → ∃ x, te ρd φ = .ok x ρd φ ∧ x.d = r d)) :
    mLcD p vs tt te ds ρ φ = .ok (.new ((ds.filter b).map r)) (backR ρ (wipeR ρ vs) vs) φ := by
  unfold mLcD
  rw [if_pos ⟨hl, hn⟩, lcLoop_pure b r ds h ρ rfl]
/-- no test -/
theorem mLcD_map {p : Pat} {vs : List Nat} {te : M Φ R} {ρ : List Sl} {φ : Φ} (r : D → D) {ds : List D} (hl : ds.length ≤ 16777216) (hn : noOwn ρ vs = true)
    (h : ∀ d, d ∈ ds → ∃ ρd, patSet p d (wipeR ρ vs) = some ρd ∧ wipeR ρd vs = wipeR ρ vs ∧ ∃ x, te ρd φ = .ok x ρd φ ∧ x.d = r d) :
    mLcD p vs mYes te ds ρ φ = .ok (.new (ds.map r)) (backR ρ (wipeR ρ vs) vs) φ := by
  rw [mLcD_pure (fun _ => true) r hl hn fun d hd => by
    obtain ⟨ρd, h1, h2, h3⟩ := h d hd
    exact ⟨ρd, h1, h2, rfl, fun _ => h3⟩]
  rw [List.filter_eq_self.mpr fun _ _ => rfl]
/-- with a state that goes on -/
theorem lcLoop_inv {p : Pat} {vs : List Nat} {te : M Φ R} {ρ : List Sl} (J : Nat → Φ → Prop) (Pr : D → Prop) : ∀ (ds : List D) (n : Nat),
    (∀ d i φ, d ∈ ds → J i φ → ∃ ρd, patSet p d (wipeR ρ vs) = some ρd ∧ wipeR ρd vs = wipeR ρ vs ∧ ∃ x φ', te ρd φ = .ok x ρd φ' ∧ Pr x.d ∧ J (i + 1) φ') →
    ∀ ρ0 φ, wipeR ρ0 vs = wipeR ρ vs → J n φ → ∃ l φ', lcLoop p vs mYes te ds ρ0 φ = .ok l (wipeR ρ vs) φ' ∧ l.length = ds.length ∧ (∀ x, x ∈ l → Pr x) ∧ J (n + ds.length) φ'
  | [], n, h, ρ0, φ, e, j => ⟨[], φ, by unfold lcLoop; rw [e], rfl, fun _ hx => (List.not_mem_nil hx).elim, j⟩
  | d :: ds, n, h, ρ0, φ, e, j => by
    obtain ⟨ρd, h1, h2, x, φ', h3, h4, h5⟩ := h d n φ List.mem_cons_self j
    obtain ⟨l, φ2, k1, k2, k3, k4⟩ := lcLoop_inv J Pr ds (n + 1) (fun x i φ hx => h x i φ (List.mem_cons_of_mem _ hx)) ρd φ' h2 h5
    refine ⟨x.d :: l, φ2, ?_, by rw [List.length_cons, List.length_cons, k2], fun y hy => ?_, ?_⟩
    · unfold lcLoop
      rw [e, h1]
      dsimp only
      rw [show (mYes : M Φ Bool) ρd φ = .ok true ρd φ from rfl]
      dsimp only
      rw [h3]
      dsimp only
      rw [k1]
    · rcases List.mem_cons.mp hy with rfl | hy
      · exact h4
      · exact k3 y hy
    · rw [List.length_cons, show n + (ds.length + 1) = n + 1 + ds.length by omega]; exact k4
theorem mLcD_inv {p : Pat} {vs : List Nat} {te : M Φ R} {ρ : List Sl} {φ : Φ} (J : Nat → Φ → Prop) (Pr : D → Prop) {ds : List D} (n : Nat) (hl : ds.length ≤ 16777216) (hn : noOwn ρ vs = true)
    (h : ∀ d i φ, d ∈ ds → J i φ → ∃ ρd, patSet p d (wipeR ρ vs) = some ρd ∧ wipeR ρd vs = wipeR ρ vs ∧ ∃ x φ', te ρd φ = .ok x ρd φ' ∧ Pr x.d ∧ J (i + 1) φ') (j : J n φ) :
    ∃ l φ', mLcD p vs mYes te ds ρ φ = .ok (.new l) (backR ρ (wipeR ρ vs) vs) φ' ∧ l.length = ds.length ∧ (∀ x, x ∈ l → Pr x) ∧ J (n + ds.length) φ' := by
  obtain ⟨l, φ', k1, k2, k3, k4⟩ := lcLoop_inv J Pr ds n h ρ φ rfl j
  refine ⟨l, φ', ?_, k2, k3, k4⟩
  unfold mLcD
  rw [if_pos ⟨hl, hn⟩, k1]
/-- a loop that runs through -/
theorem mFor_inv {p : Pat} {m : M Φ Fl} (I : Nat → List Sl → Φ → Prop) : ∀ (ds : List D) (n : Nat) (ρ : List Sl) (φ : Φ), I n ρ φ →
    (∀ i d ρ φ, ds[i]? = some d → I (n + i) ρ φ → ∃ ρ1 ρ2 φ2, patSet p d ρ = some ρ1 ∧ (m ρ1 φ = .ok .nx ρ2 φ2 ∨ m ρ1 φ = .ok .ct ρ2 φ2) ∧ I (n + i + 1) ρ2 φ2) →
    ∃ ρ' φ', mFor p m ds ρ φ = .ok .nx ρ' φ' ∧ I (n + ds.length) ρ' φ'
  | [], n, ρ, φ, i0, h => ⟨ρ, φ, rfl, i0⟩
  | d :: ds, n, ρ, φ, i0, h => by
    obtain ⟨ρ1, ρ2, φ2, h1, h2, h3⟩ := h 0 d ρ φ rfl i0
    obtain ⟨ρ', φ', k1, k2⟩ := mFor_inv I ds (n + 1) ρ2 φ2 h3 fun i d ρ φ e j => by
      have := h (i + 1) d ρ φ (by rw [List.getElem?_cons_succ]; exact e) (by rw [show n + (i + 1) = n + 1 + i by omega]; exact j)
      rw [show n + (i + 1) + 1 = n + 1 + i + 1 by omega] at this
      exact this
    refine ⟨ρ', φ', ?_, by rw [List.length_cons, show n + (ds.length + 1) = n + 1 + ds.length by omega]; exact k2⟩
    unfold mFor
    rw [h1]
    dsimp only
    rcases h2 with h2 | h2 <;> rw [h2] <;> exact k1
/-- .. its final state a fold -/
theorem mFor_fold {α : Type} {p : Pat} {m : M Φ Fl} {φ : Φ} (S : α → List Sl → Prop) (g : α → D → α) : ∀ (ds : List D) (s : α) (ρ : List Sl), S s ρ →
    (∀ d s ρ, d ∈ ds → S s ρ → ∃ ρ1 ρ2, patSet p d ρ = some ρ1 ∧ m ρ1 φ = .ok .nx ρ2 φ ∧ S (g s d) ρ2) → ∃ ρ', mFor p m ds ρ φ = .ok .nx ρ' φ ∧ S (ds.foldl g s) ρ'
  | [], s, ρ, h0, h => ⟨ρ, rfl, h0⟩
  | d :: ds, s, ρ, h0, h => by
    obtain ⟨ρ1, ρ2, h1, h2, h3⟩ := h d s ρ List.mem_cons_self h0
    obtain ⟨ρ', k1, k2⟩ := mFor_fold S g ds (g s d) ρ2 h3 fun d s ρ hd => h d s ρ (List.mem_cons_of_mem _ hd)
    refine ⟨ρ', ?_, k2⟩
    unfold mFor
    rw [h1]
    dsimp only
    rw [h2]
    exact k1
end DN
namespace DN
open PySem PySem.Spec L2
open PyProof.Rows hiding St
variable {Φ : Type}
/-! ### is True, is False -/
def isB (k : Bool) : D → Bool
  | .bl b => b == k
  | _ => false
theorem RD.isB {G : Ctx Φ} {F : List Addr} {H : Hp} {v : V} {d : D} {k : Bool} (h : RD G F H v d) : decide (v = .bl k) = DN.isB k d := by
  cases h <;> first
    | (simp [DN.isB]; done)
    | (rename_i b; cases b <;> cases k <;> rfl)
theorem is_bool {x : V} {v : Value} {k : Bool} (r : RelV x v) : (v == Value.bool k) = decide (x = .bl k) := by
  by_cases e : x = .bl k
  · subst e
    cases (show v = Value.bool k from r)
    rw [decide_eq_true rfl]
    exact beq_self_eq_true _
  · rw [decide_eq_false e]
    refine beq_eq_false_iff_ne.mpr fun z => ?_
    subst z
    cases x with
    | non => cases (show Value.bool k = Value.none from r)
    | bl b => cases (show Value.bool k = Value.bool b from r); exact e rfl
    | int i => obtain ⟨t, z⟩ := (show ∃ t, Value.bool k = Value.int i t from r); cases z
    | str i => obtain ⟨t, z⟩ := (show ∃ t, Value.bool k = Value.str i t from r); cases z
    | byt i => obtain ⟨t, z⟩ := (show ∃ t, Value.bool k = Value.bytes i t from r); cases z
    | flt i => obtain ⟨t, z⟩ := (show ∃ t, Value.bool k = Value.float i t from r); cases z
    | ref a => cases (show Value.bool k = Value.ref a from r)
    | ty n => cases (show Value.bool k = Value.type n from r)
theorem is_plain {x : V} {v : Value} {k : Bool} (r : RelV x v) : plainIs v (Value.bool k) = true := by
  cases x with
  | non => cases (show v = Value.none from r); rfl
  | bl b => cases (show v = Value.bool b from r); rfl
  | int i => obtain ⟨t, z⟩ := (show ∃ t, v = Value.int i t from r); cases z; rfl
  | str i => obtain ⟨t, z⟩ := (show ∃ t, v = Value.str i t from r); cases z; rfl
  | byt i => obtain ⟨t, z⟩ := (show ∃ t, v = Value.bytes i t from r); cases z; rfl
  | flt i => obtain ⟨t, z⟩ := (show ∃ t, v = Value.float i t from r); cases z; rfl
  | ref a => cases (show v = Value.ref a from r); rfl
  | ty n => cases (show v = Value.type n from r); rfl
def rIsB : R2 := fun x y H Q => ∃ k, y = .bl k ∧ Q (.bl (decide (x = .bl k))) H
def rNotB : R2 := fun x y H Q => ∃ k, y = .bl k ∧ Q (.bl (!decide (x = .bl k))) H
section
variable {X : Cx} {G : Ctx Φ} {W : WX} {a b e : Expr} {pos : Pos} {ma mb : M Φ R}
theorem op_isB : OpR X (compareOp .Is) rIsB := by
  intro pins s σ H x y v u Q I rx ry h
  obtain ⟨k, rfl, q⟩ := h
  cases (show u = Value.bool k from ry)
  exact wpAny_is_plain (is_plain rx) (fin_bl I q (is_bool rx).symm)
theorem op_notB : OpR X (compareOp .IsNot) rNotB := by
  intro pins s σ H x y v u Q I rx ry h
  obtain ⟨k, rfl, q⟩ := h
  cases (show u = Value.bool k from ry)
  exact wpAny_isNot_plain (is_plain rx) (fin_bl I q (congrArg not (is_bool rx).symm))
def dIs : D → D → M Φ R
  | d, .bl k => mP (.val (.bl (isB k d)))
  | _, _ => mS
def dNot2 : D → D → M Φ R
  | d, .bl k => mP (.val (.bl (!isB k d)))
  | _, _ => mS
theorem den_is : OpDen G W rIsB dIs := by
  intro ρ φ F O σ H x y d e Q r dx dy g
  unfold dIs at g
  split at g
  · cases dy
    refine ⟨_, rfl, ?_⟩
    rw [dx.isB]
    exact g.ok r _ (.bl _)
  · exact g.elim
theorem den_isNot : OpDen G W rNotB dNot2 := by
  intro ρ φ F O σ H x y d e Q r dx dy g
  unfold dNot2 at g
  split at g
  · cases dy
    refine ⟨_, rfl, ?_⟩
    rw [dx.isB]
    exact g.ok r _ (.bl _)
  · exact g.elim
theorem q_is (ha : PE X a (dE G W ma)) (hb : PE X b (dE G W mb)) : PE X (.Compare a [.Is] [b] pos) (dE G W (mBin dIs ma mb)) := q_cmp op_isB den_is ha hb (nomark _)
theorem q_isNot (ha : PE X a (dE G W ma)) (hb : PE X b (dE G W mb)) : PE X (.Compare a [.IsNot] [b] pos) (dE G W (mBin dNot2 ma mb)) := q_cmp op_notB den_isNot ha hb (nomark _)
theorem t_is (ha : PE X a (dE G W ma)) (hb : PE X b (dE G W mb)) : PT X (.Compare a [.Is] [b] pos) (dT G W (mTst (mBin dIs ma mb))) := q_cmpT op_isB den_is ha hb (nomark _)
theorem t_isNot (ha : PE X a (dE G W ma)) (hb : PE X b (dE G W mb)) : PT X (.Compare a [.IsNot] [b] pos) (dT G W (mTst (mBin dNot2 ma mb))) := q_cmpT op_notB den_isNot ha hb (nomark _)
end
/-! ### zip of three -/
def ItzC (K : PySem.W.Frag) (t u w : Bool) (a b c : Addr) : It where
  go i H := ∃ xs ys zs x y z, SqB K t H a xs ∧ SqB K u H b ys ∧ SqB K w H c zs ∧ xs[i]? = some x ∧ ys[i]? = some y ∧ zs[i]? = some z
  yld i H v H' := ∃ A x y z, v = .ref A ∧ H A = none ∧ H' = upd H A (.tup [x, y, z]) ∧ (∀ xs, SqB K t H a xs → xs[i]? = some x) ∧ (∀ ys, SqB K u H b ys → ys[i]? = some y) ∧ ∀ zs, SqB K w H c zs → zs[i]? = some z
  stop i H := ∃ xs ys zs, SqB K t H a xs ∧ SqB K u H b ys ∧ SqB K w H c zs ∧ i ≤ xs.length ∧ i ≤ ys.length ∧ i ≤ zs.length ∧ (i = xs.length ∨ i = ys.length ∨ i = zs.length)
theorem turn_zipC {P : Program} {w : World} {K : PySem.W.Frag} {elts : List Expr} {kk : Nat} {tpos : Pos} {t u v : Bool} {a b c z TI TO i1 i2 i3 : Addr} (S : ZipSep3 z TI TO i1 i2 i3 [i1, a] [i2, b] [i3, c]) (na : a ≠ i1) (nb : b ≠ i2) (nc : c ≠ i3) :
    Turn P w K (.Tuple elts kk tpos) (ItzC K t u v a b c) [z, TI, TO, i1, i2, i3] z (fun i h => IsZip h z TI TO .none ∧ IsTupOf3 h TI (.ref i1) (.ref i2) (.ref i3) ∧ (∃ p q r, IsTupOf3 h TO p q r) ∧ IterB t h i1 a i ∧ IterB u h i2 b i ∧ IterB v h i3 c i) where
  mem := List.mem_cons_self
  obj := fun i h st c hc => by
    obtain ⟨k1, k2, ⟨x, y, y', k3⟩, k4, k5, k6⟩ := st
    simp only [List.mem_cons, List.not_mem_nil, or_false] at hc
    rcases hc with q | q | q | q | q | q <;> subst q
    · exact ⟨_, k1, fun v q => nomatch q⟩
    · exact ⟨_, k2, fun v q => nomatch q⟩
    · exact ⟨_, k3, fun v q => nomatch q⟩
    · exact k4.rec
    · exact k5.rec
    · exact k6.rec
  keep := fun i h h' st k =>
    let ⟨k1, k2, ⟨x, y, y', k3⟩, k4, k5, k6⟩ := st
    ⟨k z (by simp) _ k1, k TI (by simp) _ k2, ⟨x, y, y', k TO (by simp) _ k3⟩, k4.on fun o q => k i1 (by simp) o q, k5.on fun o q => k i2 (by simp) o q, k6.on fun o q => k i3 (by simp) o q⟩
  item := by
    intro X hP hw hK hc i pins s σ H E I hf st hg
    subst hP hw hK
    obtain ⟨k1, k2, ⟨p0, q0, r0, k3⟩, k4, k5, k6⟩ := st
    obtain ⟨xs, ys, zs, x, y, y', hxs, hys, hzs, hx, hy, hz'⟩ := hg
    obtain ⟨its, rv, ha⟩ := hxs.seen I
    obtain ⟨its', rv', hb⟩ := hys.seen I
    obtain ⟨its'', rv'', hc''⟩ := hzs.seen I
    obtain ⟨m, hm, rm⟩ := rv.get hx
    obtain ⟨n, hn, rn⟩ := rv'.get hy
    obtain ⟨l, hl', rl⟩ := rv''.get hz'
    have lm := (List.getElem?_eq_some_iff.mp hm).1
    have ln := (List.getElem?_eq_some_iff.mp hn).1
    have ll := (List.getElem?_eq_some_iff.mp hl').1
    have zl : z < s.heap.objs.size := Heap.lt_size k1
    have hd : X.A.in1.handled = none := I.ok.hd hc
    refine wpAny_pyNext_zipD3_item S (drawB t hd i1 a na its.toArray) (drawB u hd i2 b nb its'.toArray) (drawB v hd i3 c nc its''.toArray) k1 k2 k3 ⟨k4, ha⟩ ⟨k5, hb⟩ ⟨k6, hc''⟩ (by simpa using lm) (by simpa using ln) (by simpa using ll) fun x1 x2 x3 h' tk e1 e2 e3 j1 j2 j3 j4 j6 j5 hz hk => ?_
    rw [List.getElem?_toArray, hm] at e1
    rw [List.getElem?_toArray, hn] at e2
    rw [List.getElem?_toArray, hl'] at e3
    cases e1
    cases e2
    cases e3
    refine ⟨_, rfl, wpAny_letOwnedTupleGo_zip (s := { s with heap := h', toks := tk }) j1 fun h'' g1 sb => ?_⟩
    have gT : IsTupOf3 h'' s.heap.objs.size m n l := (sb.2 _ (Nat.ne_of_gt zl)).trans j5
    have nw : ObjOk X.prog X.w (upd H s.heap.objs.size (.tup [x, y, y'])) h'' s.heap.objs.size (.tup [x, y, y']) := ⟨by show 3 ≤ sizeLine; decide, [m, n, l], .cons rm (.cons rn (.cons rl .nil)), ⟨_, gT, rfl, _, rfl⟩⟩
    have I1 : Inv X pins σ (upd H s.heap.objs.size (.tup [x, y, y'])) { s with heap := h'', toks := tk } := I.turnedNew (ch := [z, TI, TO, i1, i2, i3]) (fun c o hc q => by
      simp only [List.mem_cons, List.not_mem_nil, or_false, not_or] at hc
      exact (sb.2 c hc.1).trans (hk c o hc.1 hc.2.2.1 hc.2.2.2.1 hc.2.2.2.2.1 hc.2.2.2.2.2 q)) hf (Nat.le_refl _) nw
    refine ⟨.ref s.heap.objs.size, _, I1, rfl, ⟨_, x, y, y', rfl, I.hok.fresh (Nat.le_refl _), rfl, fun l hl => ?_, fun l hl => ?_, fun l hl => ?_⟩, ⟨g1, ?_, ⟨m, n, l, (sb.2 _ S.TOz).trans j2⟩, j3.1.on fun o q => (sb.2 _ (Ne.symm S.zi1)).trans q, j4.1.on fun o q => (sb.2 _ (Ne.symm S.zi2)).trans q, j6.1.on fun o q => (sb.2 _ (Ne.symm S.zi3)).trans q⟩, fun c hc2 => ?_⟩
    · rw [SqB.inj I hl hxs]; exact hx
    · rw [SqB.inj I hl hys]; exact hy
    · rw [SqB.inj I hl hzs]; exact hz'
    · exact (sb.2 _ S.TIz).trans (hk _ _ S.TIz S.TITO S.TIi1 S.TIi2 S.TIi3 k2)
    · have lt : c < s.heap.objs.size := by
        simp only [List.mem_cons, List.not_mem_nil, or_false] at hc2
        rcases hc2 with q | q | q | q | q | q
        · rw [q]; exact zl
        · rw [q]; exact Heap.lt_size k2
        · rw [q]; exact Heap.lt_size k3
        · obtain ⟨o, e, _⟩ := k4.rec
          rw [q]; exact Heap.lt_size e
        · obtain ⟨o, e, _⟩ := k5.rec
          rw [q]; exact Heap.lt_size e
        · obtain ⟨o, e, _⟩ := k6.rec
          rw [q]; exact Heap.lt_size e
      rw [upd_ne (Nat.ne_of_lt lt)]
      exact (hf c hc2).1
  done := by
    intro X hP hw hK hc i pins s σ H E I hf st hg
    subst hP hw hK
    obtain ⟨k1, k2, ⟨p0, q0, r0, k3⟩, k4, k5, k6⟩ := st
    obtain ⟨xs, ys, zs, hxs, hys, hzs, l1, l2, l3, e⟩ := hg
    obtain ⟨its, rv, ha⟩ := hxs.seen I
    obtain ⟨its', rv', hb⟩ := hys.seen I
    obtain ⟨its'', rv'', hc''⟩ := hzs.seen I
    have r1 := rv.length
    have r2 := rv'.length
    have r3 := rv''.length
    have hd : X.A.in1.handled = none := I.ok.hd hc
    refine wpAny_pyNext_zipD3_end S (drawB t hd i1 a na its.toArray) (drawB u hd i2 b nb its'.toArray) (drawB v hd i3 c nc its''.toArray) k1 k2 k3 ⟨k4, ha⟩ ⟨k5, hb⟩ ⟨k6, hc''⟩ (by rw [List.size_toArray]; omega) (by rw [List.size_toArray]; omega) (by rw [List.size_toArray]; omega) (by rw [List.size_toArray, List.size_toArray, List.size_toArray]; omega) fun h' tk hk => ⟨rfl, I.turnedL (ch := [z, TI, TO, i1, i2, i3]) (fun c o hc q => by
      simp only [List.mem_cons, List.not_mem_nil, or_false, not_or] at hc
      exact hk c o hc.1 hc.2.2.1 hc.2.2.2.1 hc.2.2.2.2.1 hc.2.2.2.2.2 q) hf⟩
  self := fun A i s Q E st h => wpAny_pyIter_zip st.1 h
def iZipC (K : PySem.W.Frag) (ta : TA) : TI := fun σ H R => ta σ H fun vs H1 => ∃ t u v a b c xs ys zs, vs = [.ref a, .ref b, .ref c] ∧ SqB K t H1 a xs ∧ SqB K u H1 b ys ∧ SqB K v H1 c zs ∧ R (ItzC K t u v a b c) H1
theorem pi_zipC {X : Cx} {e e2 e3 : Expr} {ta : TA} {p pos tpos : Pos} {elts : List Expr} {kk : Nat} (hg : Gl X "zip") (hm : X.mg "zip" = none) (ha : PA X [e, e2, e3] ta)
    (hs : starEach [e, e2, e3] X.env = (false, eval e X.env) :: starEach [e2, e3] X.env := by rfl) (hpl : (backTo pos (starEach [e2, e3] X.env)).any (·.1) = false := by rfl) : PI X (.Tuple elts kk tpos) (.Call (.Name "zip" p) [e, e2, e3] [] pos) (iZipC X.K ta) := by
  refine ⟨fun pins s σ H R I h => Call_ (ld_blt I hg hm PyProof.Rows.boot_zip (PyProof.Rows.callWith_type1 (thn (ha.run pos pins s σ H _ I h) fun us s1 q => ?_) hs hpl))⟩
  obtain ⟨vs, H1, I1, r1, t, u, v, a, b, c, xs, ys, zs, ev, hxs, hys, hzs, hr⟩ := q
  subst ev
  cases r1 with
  | cons ra rr =>
    cases rr with
    | cons rb rr =>
    cases rr with
    | cons rc rr =>
      cases rr
      cases ra
      cases rb
      cases rc
      obtain ⟨its, rv, sa⟩ := hxs.seen I1
      obtain ⟨its', rv', sb⟩ := hys.seen I1
      obtain ⟨its'', rv'', sc⟩ := hzs.seen I1
      have la := sa.lt
      have lb := sb.lt
      have lc := sc.lt
      refine zip_begins3 (begB t a its.toArray) (begB u b its'.toArray) (begB v c its''.toArray) sa sb sc fun h' hz hTI hTO g1 g2 g3 hsz hk => wpAny_pyIter_zip hz ?_
      have S := zip_sep3 (N := s1.heap.objs.size) (fp1 := [a]) (fp2 := [b]) (fp3 := [c]) (fun c hc => by rw [List.mem_singleton.mp hc]; exact la) (fun c hc => by rw [List.mem_singleton.mp hc]; exact lb) (fun d hd => by rw [List.mem_singleton.mp hd]; exact lc)
      refine ⟨s1.heap.objs.size + 5, [s1.heap.objs.size + 5, s1.heap.objs.size + 3, s1.heap.objs.size + 4, s1.heap.objs.size, s1.heap.objs.size + 1, s1.heap.objs.size + 2], _, _, H1, rfl, I1.kept (t' := s1.toks) hk, turn_zipC (t := t) (u := u) (v := v) S (Nat.ne_of_lt la) (Nat.ne_of_lt (Nat.lt_succ_of_lt lb)) (Nat.ne_of_lt (Nat.lt_succ_of_lt (Nat.lt_succ_of_lt lc))), ⟨hz, hTI, ⟨_, _, _, hTO⟩, .first g1, .first g2, .first g3⟩, fun c hc => ?_, hr⟩
      have le : s1.heap.objs.size ≤ c := by
        simp only [List.mem_cons, List.not_mem_nil, or_false] at hc
        rcases hc with q | q | q | q | q | q <;> rw [q]
        · exact Nat.le_add_right _ _
        · exact Nat.le_add_right _ _
        · exact Nat.le_add_right _ _
        · exact Nat.le_refl _
        · exact Nat.le_add_right _ _
        · exact Nat.le_add_right _ _
      exact I1.fpOk le (I1.hok.fresh le)
def zpD3 : List D → List D → List D → List D
  | d :: ds, e :: es, f :: fs => .tup [d, e, f] :: zpD3 ds es fs
  | _, _, _ => []
theorem zpD3_get : ∀ (ds es fs : List D) (i : Nat), (zpD3 ds es fs)[i]? = (match ds[i]?, es[i]?, fs[i]? with
    | some d, some e, some f => some (.tup [d, e, f])
    | _, _, _ => none)
  | [], _, _, i => by unfold zpD3; simp
  | d :: ds, [], _, i => by
    unfold zpD3
    cases (d :: ds)[i]? <;> simp
  | d :: ds, e :: es, [], i => by
    unfold zpD3
    cases (d :: ds)[i]? <;> cases (e :: es)[i]? <;> simp
  | d :: ds, e :: es, f :: fs, 0 => rfl
  | d :: ds, e :: es, f :: fs, i + 1 => by
    unfold zpD3
    simp only [List.getElem?_cons_succ]
    exact zpD3_get ds es fs i
theorem zpD3_len : ∀ (ds es fs : List D), (zpD3 ds es fs).length = min ds.length (min es.length fs.length)
  | [], _, _ => by unfold zpD3; simp
  | d :: ds, [], _ => by unfold zpD3; simp
  | d :: ds, e :: es, [] => by unfold zpD3; simp
  | d :: ds, e :: es, f :: fs => by
    unfold zpD3
    simp only [List.length_cons, zpD3_len ds es fs]
    omega
theorem items_zip3 {G : Ctx Φ} {F O : List Addr} {H : Hp} {t u w : Bool} {a b c : Addr} {xs ys zs : List V} {ds es fs : List D} (h : hide (F ++ O) H a = some (sqObj t xs)) (hd : RDs G F (hide (F ++ O) H) xs ds) (k : hide (F ++ O) H b = some (sqObj u ys)) (kd : RDs G F (hide (F ++ O) H) ys es) (l : hide (F ++ O) H c = some (sqObj w zs)) (ld : RDs G F (hide (F ++ O) H) zs fs) :
    Items G F O H (zpD3 ds es fs) (ItzC G.K t u w a b c) := fun F' O' H' s fe tr i => by
  have e := (hide_some (s _ _ h)).2
  have f := (hide_some (s _ _ k)).2
  have g := (hide_some (s _ _ l)).2
  have hd := hd.mono s fe
  have kd := kd.mono s fe
  have ld := ld.mono s fe
  have l1 := hd.length
  have l2 := kd.length
  have l3 := ld.length
  refine ⟨fun d ed => ?_, fun hi => ⟨xs, ys, zs, SqB.of e, SqB.of f, SqB.of g, ?_⟩⟩
  · rw [zpD3_get] at ed
    cases e1 : ds[i]? with
    | none => rw [e1] at ed; cases ed
    | some d1 =>
      cases e2 : es[i]? with
      | none => rw [e1, e2] at ed; cases ed
      | some d2 =>
        cases e3 : fs[i]? with
        | none => rw [e1, e2, e3] at ed; cases ed
        | some d3 =>
          rw [e1, e2, e3] at ed
          cases ed
          obtain ⟨v, ev, rv⟩ := hd.getD e1
          obtain ⟨w, ew, rw'⟩ := kd.getD e2
          obtain ⟨y, ey, ry⟩ := ld.getD e3
          refine ⟨⟨xs, ys, zs, v, w, y, SqB.of e, SqB.of f, SqB.of g, ev, ew, ey⟩, fun x H2 z => ?_⟩
          obtain ⟨A, v', w', y', rfl, hA, rfl, hv, hw, hy⟩ := z
          have q1 := hv xs (SqB.of e)
          have q2 := hw ys (SqB.of f)
          have q3 := hy zs (SqB.of g)
          rw [ev] at q1; cases q1
          rw [ew] at q2; cases q2
          rw [ey] at q3; cases q3
          exact ⟨.inr ⟨A, _, hA, rfl⟩, .tup (hide_of (fun z => tr A z hA) upd_same) (.cons (rv.mono (hide_upd (.inr hA)) (.refl _)) (.cons (rw'.mono (hide_upd (.inr hA)) (.refl _)) (.cons (ry.mono (hide_upd (.inr hA)) (.refl _)) .nil)))⟩
  · rw [zpD3_len] at hi
    omega
def zip3Of : List D → M Φ (List D)
  | [d, e, f] => (match seqOf d, seqOf e, seqOf f with
    | some (_, ds), some (_, es), some (_, fs) => mP (zpD3 ds es fs)
    | _, _, _ => mS)
  | _ => mS
def mZip3 (t : M Φ (List D)) : M Φ (List D) := mB t zip3Of
section
variable {X : Cx} {G : Ctx Φ} {W : WX} {e e2 e3 : Expr} {pos p tpos : Pos} {elts : List Expr} {kk : Nat} {t : M Φ (List D)}
theorem i_zip3 (hK : G.K = X.K) (hg : Gl X "zip") (hm : X.mg "zip" = none) (ha : PA X [e, e2, e3] (dA G W t)) (hs : starEach [e, e2, e3] X.env = (false, eval e X.env) :: starEach [e2, e3] X.env := by rfl) (hpl : (backTo pos (starEach [e2, e3] X.env)).any (·.1) = false := by rfl) : PI X (.Tuple elts kk tpos) (.Call (.Name "zip" p) [e, e2, e3] [] pos) (dI G W (mZip3 t)) :=
  PI.weak (pi_zipC hg hm ha hs hpl) fun σ H R h => by
    obtain ⟨ρ, φ, F, O, r, g⟩ := h
    refine useA r (Good.mono g.bind fun ds ρ1 φ1 F1 O1 H1 _ x1 _ g1 vs r1 hv => ?_)
    unfold zip3Of at g1
    split at g1
    · rename_i d1 d2 d3 _
      cases eq1 : seqOf d1 with
      | none => rw [eq1] at g1; exact g1.elim
      | some q1 =>
      cases eq2 : seqOf d2 with
      | none => rw [eq1, eq2] at g1; exact g1.elim
      | some q2 =>
      cases eq3 : seqOf d3 with
      | none => rw [eq1, eq2, eq3] at g1; exact g1.elim
      | some q3 =>
        obtain ⟨b1, es1⟩ := q1
        obtain ⟨b2, es2⟩ := q2
        obtain ⟨b3, es3⟩ := q3
        rw [eq1, eq2, eq3] at g1
        cases hv with
        | cons h1 hv =>
          obtain ⟨w, w2, rfl, h2, h3⟩ := hv.two
          rw [seqOf_eq eq1] at h1
          rw [seqOf_eq eq2] at h2
          rw [seqOf_eq eq3] at h3
          obtain ⟨a, xs, rfl, k1, k2⟩ := h1.seq
          obtain ⟨b, ys, rfl, k3, k4⟩ := h2.seq
          obtain ⟨c, zs, rfl, k5, k6⟩ := h3.seq
          exact ⟨b1, b2, b3, a, b, c, xs, ys, zs, rfl, SqB.of (hide_some k1).2, SqB.of (hide_some k3).2, SqB.of (hide_some k5).2, hK ▸ g1.ok r1 r1 _ (items_zip3 k1 k2 k3 k4 k5 k6)⟩
    · exact g1.elim
end
end DN
namespace DN
open PySem PySem.Spec L2
open PyProof.Rows hiding St
variable {Φ : Type}
/-! ### list comprehensions with two for -/
def catO (o : Out Φ (List D)) (n : M Φ (List D)) : Out Φ (List D) := match o with
  | .ok l ρ φ => (match n ρ φ with
    | .ok l2 ρ2 φ2 => .ok (l ++ l2) ρ2 φ2
    | _ => .stuck)
  | _ => .stuck
def lcLoop2 (p : Pat) (vs : List Nat) (tt : M Φ Bool) (mi1 : M Φ (List D)) (p1 : Pat) (vs1 : List Nat) (tt1 : M Φ Bool) (te : M Φ R) : List D → M Φ (List D)
  | [] => fun ρ φ => .ok [] (wipeR ρ vs) φ
  | d :: ds => fun ρ φ => match patSet p d (wipeR ρ vs) with
    | none => .stuck
    | some ρ1 => match tt ρ1 φ with
      | .ok false ρ2 φ2 => lcLoop2 p vs tt mi1 p1 vs1 tt1 te ds ρ2 φ2
      | .ok true ρ2 φ2 => catO (mB mi1 (lcLoop p1 vs1 tt1 te) ρ2 φ2) (lcLoop2 p vs tt mi1 p1 vs1 tt1 te ds)
      | _ => .stuck
def mLc2D (p : Pat) (vs : List Nat) (tt : M Φ Bool) (mi1 : M Φ (List D)) (p1 : Pat) (vs1 : List Nat) (tt1 : M Φ Bool) (te : M Φ R) (ds : List D) : M Φ R := fun ρ φ =>
  if noOwn ρ vs = true then (match lcLoop2 p vs tt mi1 p1 vs1 tt1 te ds ρ φ with
    | .ok l ρ' φ' => if l.length ≤ 16777216 then .ok (.new l) (backR ρ ρ' vs) φ' else .stuck
    | _ => .stuck) else .stuck
def mLc2 (p : Pat) (vs : List Nat) (mi : M Φ (List D)) (tt : M Φ Bool) (p1 : Pat) (vs1 : List Nat) (mi1 : M Φ (List D)) (tt1 : M Φ Bool) (te : M Φ R) : M Φ R := mB mi (mLc2D p vs tt mi1 p1 vs1 tt1 te)
/-- what is wanted of the rest of the loops -/
def LH (G : Ctx Φ) (P P0 : List Addr) (vs : List Nat) (σ : St) (F O : List Addr) (H : Hp) (acc : List D) (out : Out Φ (List D)) (K : List D → List Sl → Φ → List Addr → List Addr → Hp → Prop) : Prop :=
  match out with
  | .ok l ρ φ => (acc ++ l).length ≤ 16777216 ∧ ∀ F' O' H', Ext (G.at P0) F O H F' O' H' → Rel (G.at P) F' O' ρ φ (wipe σ vs) H' → K (acc ++ l) ρ φ F' O' H'
  | _ => False
section
variable {G : Ctx Φ} {P P0 : List Addr} {vs : List Nat} {σ : St} {F O F1 O1 : List Addr} {H H1 : Hp} {acc : List D} {out : Out Φ (List D)} {K : List D → List Sl → Φ → List Addr → List Addr → Hp → Prop}
theorem LH.ext (x : Ext (G.at P0) F O H F1 O1 H1) (h : LH G P P0 vs σ F O H acc out K) : LH G P P0 vs σ F1 O1 H1 acc out K := by
  cases out with
  | ok l ρ φ => exact ⟨h.1, fun F' O' H' y r => h.2 F' O' H' (x.trans y) r⟩
  | err c es ρ φ => exact h
  | stuck => exact h
theorem LH.nil {n : M Φ (List D)} {ρ : List Sl} {φ : Φ} (h : LH G P P0 vs σ F O H acc (catO (.ok [] ρ φ) n) K) : LH G P P0 vs σ F O H acc (n ρ φ) K := by
  unfold catO at h
  dsimp only at h
  cases q : n ρ φ with
  | ok l ρ φ => rw [q] at h; simpa using h
  | err c es ρ φ => rw [q] at h; exact h.elim
  | stuck => rw [q] at h; exact h.elim
theorem LH.cons {n : M Φ (List D)} {d : D} {o : Out Φ (List D)} (h : LH G P P0 vs σ F O H acc (catO (match o with
    | .ok l ρ φ => .ok (d :: l) ρ φ
    | _ => .stuck) n) K) : acc.length < 16777216 ∧ LH G P P0 vs σ F O H (acc ++ [d]) (catO o n) K := by
  cases o with
  | ok l ρ φ =>
    unfold catO at h ⊢
    dsimp only at h ⊢
    cases q : n ρ φ with
    | ok l2 ρ φ =>
      rw [q] at h
      have h : (acc ++ (d :: l ++ l2)).length ≤ 16777216 ∧ _ := h
      have e : acc ++ (d :: l ++ l2) = acc ++ [d] ++ (l ++ l2) := by simp
      refine ⟨?_, ?_⟩
      · have := h.1
        simp at this
        omega
      · show (acc ++ [d] ++ (l ++ l2)).length ≤ 16777216 ∧ _
        rw [← e]
        exact h
    | err c es ρ φ => rw [q] at h; exact h.elim
    | stuck => rw [q] at h; exact h.elim
  | err c es ρ φ => exact h.elim
  | stuck => exact h.elim
end
def uI (G : Ctx Φ) (t : M Φ (List D)) : TI := fun σ H R => ∃ P, dI (G.at P) wN t σ H R
section
variable {X : Cx} {G : Ctx Φ} {P0 : List Addr} {W : WX}
theorem wipeR_two {ρ : List Sl} {vs1 vs : List Nat} (hs : ∀ i, i ∈ vs1 → i ∈ vs) : wipeR (wipeR ρ vs1) vs = wipeR ρ vs := List.ext_getElem? fun i => by
  by_cases hi : i ∈ vs
  · by_cases hl : i < ρ.length
    · rw [wipeR_in hi (by rw [wipeR_length]; exact hl), wipeR_in hi hl]
    · rw [List.getElem?_eq_none (by rw [wipeR_length, wipeR_length]; omega), List.getElem?_eq_none (by rw [wipeR_length]; omega)]
  · rw [wipeR_out hi, wipeR_out fun z => hi (hs i z), wipeR_out hi]
theorem wipe_two {σ : St} {vs1 vs : List Nat} (hs : ∀ i, i ∈ vs1 → i ∈ vs) : wipe (wipe σ vs1) vs = wipe σ vs := wipe_eq (σ := σ) (σ' := wipe σ vs1) (l := vs1) (wipe_length _ _) (fun i hi => wipe_out hi) hs
theorem lc_same {p : Pat} {vs : List Nat} {tt : M Φ Bool} {te : M Φ R} {ρw ρ : List Sl} {ds : List D} {φ : Φ} (e : wipeR ρw vs = wipeR ρ vs) : lcLoop p vs tt te ds ρw φ = lcLoop p vs tt te ds ρ φ := by
  cases ds with
  | nil => unfold lcLoop; rw [e]
  | cons d ds => unfold lcLoop; rw [e]
theorem lc2_same {p p1 : Pat} {vs vs1 : List Nat} {tt tt1 : M Φ Bool} {mi1 : M Φ (List D)} {te : M Φ R} {ρw ρ : List Sl} {ds : List D} {φ : Φ} (e : wipeR ρw vs = wipeR ρ vs) : lcLoop2 p vs tt mi1 p1 vs1 tt1 te ds ρw φ = lcLoop2 p vs tt mi1 p1 vs1 tt1 te ds ρ φ := by
  cases ds with
  | nil => unfold lcLoop2; rw [e]
  | cons d ds => unfold lcLoop2; rw [e]
theorem dE_lc2 {mi mi1 : M Φ (List D)} {tt tt1 : M Φ Bool} {te : M Φ R} {p p1 : Pat} {vs vs1 : List Nat} (hvs : ∀ i, i ∈ p.ix → i ∈ vs) (hvs1 : ∀ i, i ∈ p1.ix → i ∈ vs1) (hsub : ∀ i, i ∈ vs1 → i ∈ vs) {σ : St} {H : Hp} {Q : VK}
    (h : dE (G.at P0) W (mLc2 p vs mi tt p1 vs1 mi1 tt1 te) σ H Q) :
    tLc2 (dI (G.at P0) W mi) (uG G p) (uT G tt) (uI G mi1) (uG G p1) (uT G tt1) (uE G te) vs vs1 σ H Q := by
  obtain ⟨ρ, φ, F, O, r, g⟩ := h
  refine ⟨ρ, φ, F, O, r, Good.mono g.bind fun ds ρ1 φ1 F1 O1 H1 _ x1 r1 g1 _ J it A hA => ?_⟩
  unfold mLc2D at g1
  split at g1
  case isFalse => exact g1.elim
  rename_i hno
  -- the new list
  have hA1 := r1.notin hA
  obtain ⟨r2, x2, rr2⟩ := r1.laidNew (xs := []) (ds := []) hA .nil
  obtain ⟨_, _, eA, _, _, _, nP, nO⟩ := rr2
  cases eA
  have rs : Rel (G.at (A :: P0)) F1 (A :: O1) ρ1 φ1 σ (upd H1 A (.lst [])) := r2.re (fun a ha => by
    rcases List.mem_cons.mp ha with rfl | ha
    · exact List.mem_cons_self
    · exact r2.psub a ha) fun i es a e ea z => by
    rcases List.mem_cons.mp z with rfl | z
    · exact nO i es e ea
    · exact r2.pno i es a e ea z
  let Pn : List Addr := A :: P0
  let Kf : List D → List Sl → Φ → List Addr → List Addr → Hp → Prop := fun full ρ' φ' F' O' H' => ∀ ys, H' A = some (.lst ys) → RDs (G.at P0) F' (hide (F' ++ O') H') ys full → Ext (G.at P0) F1 (A :: O1) (upd H1 A (.lst [])) F' O' H' → Q (.ref A) H'
  have fin : LH G Pn P0 vs σ F1 (A :: O1) (upd H1 A (.lst [])) [] (lcLoop2 p vs tt mi1 p1 vs1 tt1 te ds ρ1 φ1) Kf := by
    cases q : lcLoop2 p vs tt mi1 p1 vs1 tt1 te ds ρ1 φ1 with
    | ok l ρ' φ' =>
      rw [q] at g1
      dsimp only at g1
      split at g1
      case isFalse => exact g1.elim
      rename_i hz
      refine ⟨by simpa using hz, ?_⟩
      intro F' O' H' y r' ys hys hd x'
      have rA : Rel (G.at P0) F' O' ρ' φ' (wipe σ vs) H' := r'.re (fun a ha => r'.psub a (List.mem_cons_of_mem _ ha)) fun i es a e ea z => r'.pno i es a e ea (List.mem_cons_of_mem _ z)
      have rB := r2.backed x' hno rA
      refine g1 F' O' H' (x2.trans x') rB (.ref A) ⟨A, ys, rfl, r'.psub A List.mem_cons_self, hys, by simpa using hd, nP, fun i es e ea => ?_⟩
      have hin : i ∉ vs := fun hi => by
        have hl := (List.getElem?_eq_some_iff.mp e).1
        rw [backR_length] at hl
        rw [backR_in hi hl] at e
        have := List.all_eq_true.mp hno i hi
        have hl2 : i < ρ1.length := by have a := r'.len; have b := r2.len; rw [wipe_length] at a; omega
        rw [List.getD_eq_getElem?_getD, List.getElem?_eq_getElem hl2] at e
        rw [List.getElem?_eq_getElem hl2] at this
        have e' : ρ1[i] = .own es := by simpa using e
        rw [e'] at this
        cases this
      rw [backR_out hin] at e
      rw [← wipe_out hin] at ea
      exact r'.pno i es A e ea List.mem_cons_self
    | err c es ρ' φ' => rw [q] at g1; exact g1.elim
    | stuck => rw [q] at g1; exact g1.elim
  let Inv : Nat → Hp → Prop := fun i H => ∃ ρ φ F O acc ys, Rel (G.at Pn) F O ρ φ (wipe σ vs) H ∧ (∃ ρw, wipeR ρw vs = wipeR ρ vs ∧ LH G Pn P0 vs σ F O H acc (lcLoop2 p vs tt mi1 p1 vs1 tt1 te (ds.drop i) ρw φ) Kf) ∧ H A = some (.lst ys) ∧ RDs (G.at P0) F (hide (F ++ O) H) ys acc ∧ i ≤ ds.length ∧ Ext (G.at P0) F1 (A :: O1) (upd H1 A (.lst [])) F O H
  have wall : ∀ ρ : List Sl, wipeR (wipeR ρ vs) vs = wipeR ρ vs := fun ρ => wipeR_two fun i hi => hi
  have sall : wipe (wipe σ vs) vs = wipe σ vs := wipe_two fun i hi => hi
  refine ⟨fun i m H => m = ds.length - i ∧ Inv i H, ⟨_, rfl, _, φ1, F1, A :: O1, [], [], rs.wiped vs, ⟨ρ1, (wall ρ1).symm, by simpa using fin⟩, upd_same, .nil, Nat.zero_le _, .refl⟩, fun i m H w => ?_⟩
  obtain ⟨hm, ρ2, φ2, F2, O2, acc, ys, r2', ⟨ρw, ew, g2⟩, hy, hd, hle, x2'⟩ := w
  rw [lc2_same ew] at g2
  have iti := it F2 O2 H (x2.trans x2').sm (x2.trans x2').fe r2'.tr i
  cases ed : ds[i]? with
  | none =>
    have hl := List.getElem?_eq_none_iff.mp ed
    rw [List.drop_eq_nil_of_le hl] at g2
    have wself : Rel (G.at Pn) F2 O2 (wipeR ρ2 vs) φ2 (wipe σ vs) H := by
      have := r2'.wiped vs
      rw [sall] at this
      exact this
    have g2' : (acc ++ []).length ≤ 16777216 ∧ _ := g2
    exact .inl ⟨iti.2 (Nat.le_antisymm hle hl), g2'.2 F2 O2 H .refl wself ys hy (by rw [List.append_nil]; exact hd) x2'⟩
  | some d =>
    obtain ⟨hi2, e2⟩ := List.getElem?_eq_some_iff.mp ed
    rw [List.drop_eq_getElem_cons hi2, e2] at g2
    obtain ⟨go, yl⟩ := iti.1 d ed
    refine .inr ⟨go, fun H' => Inv (i + 1) H', fun H' a => ⟨_, by omega, rfl, a⟩, fun x H' y => ?_⟩
    obtain ⟨gr, rx⟩ := yl x H' y
    obtain ⟨r3, x3⟩ := r2'.grown gr
    have x3' := x3.re (P' := P0) fun a ha => List.mem_cons_of_mem _ ha
    have g3 := g2.ext x3'
    have wself : Rel (G.at Pn) F2 O2 (wipeR ρ2 vs) φ2 (wipe σ vs) H' := by
      have := r3.wiped vs
      rw [sall] at this
      exact this
    unfold lcLoop2 at g3
    split at g3
    · exact g3.elim
    rename_i ρ3 e3
    refine ⟨Pn, _, φ2, F2, O2, d, ρ3, wself, rx.at_.to, e3, fun σ2 r4 off => ?_⟩
    have we : wipe σ2 vs = wipe σ vs := by
      have l2 : σ2.length = (wipe σ vs).length := by rw [r4.len, wself.len]; exact patSet_len e3
      rw [wipe_eq l2 off hvs, sall]
    refine ⟨we, Pn, ρ3, φ2, F2, O2, r4, ?_⟩
    cases q : tt ρ3 φ2 with
    | err c es ρ4 φ4 => rw [q] at g3; exact g3.elim
    | stuck => rw [q] at g3; exact g3.elim
    | ok b ρ4 φ4 =>
      rw [q] at g3
      intro F4 O4 H4 x4 r5
      have x4' := x4.re (P' := P0) fun a ha => List.mem_cons_of_mem _ ha
      have hy4 : H4 A = some (.lst ys) := by rw [x4.pk A List.mem_cons_self, x3.pk A List.mem_cons_self]; exact hy
      cases b with
      | false =>
        dsimp only at g3 ⊢
        rw [if_neg Bool.false_ne_true]
        have rw5 := r5.wiped vs
        rw [we] at rw5
        exact ⟨_, φ4, F4, O4, acc, ys, rw5, ⟨ρ4, (wall ρ4).symm, g3.ext x4'⟩, hy4, hd.mono (x3'.trans x4').sm (x3'.trans x4').fe, hi2, x2'.trans (x3'.trans x4')⟩
      | true =>
        dsimp only at g3 ⊢
        rw [if_pos rfl]
        refine ⟨Pn, ρ4, φ4, F4, O4, r5, ?_⟩
        have g4 := g3.ext x4'
        have hd4 := hd.mono (x3'.trans x4').sm (x3'.trans x4').fe
        have x24 := x2'.trans (x3'.trans x4')
        unfold mB at g4
        cases q1 : mi1 ρ4 φ4 with
        | err c es ρ5 φ5 => rw [q1] at g4; exact g4.elim
        | stuck => rw [q1] at g4; exact g4.elim
        | ok es ρ5 φ5 =>
        rw [q1] at g4
        dsimp only at g4
        intro F5 O5 H5 x5 r6 _ J1 it1
        have x5' := x5.re (P' := P0) fun a ha => List.mem_cons_of_mem _ ha
        have hy5 : H5 A = some (.lst ys) := by rw [x5.pk A List.mem_cons_self]; exact hy4
        have rw6 := r6.wiped vs1
        -- the inner loop
        let Inv1 : Nat → Hp → Prop := fun j H => ∃ ρ φ F O acc1 ys1, Rel (G.at Pn) F O ρ φ (wipe σ2 vs1) H ∧ (∃ ρw, wipeR ρw vs1 = wipeR ρ vs1 ∧ LH G Pn P0 vs σ F O H acc1 (catO (lcLoop p1 vs1 tt1 te (es.drop j) ρw φ) (lcLoop2 p vs tt mi1 p1 vs1 tt1 te (ds.drop (i + 1)))) Kf) ∧ H A = some (.lst ys1) ∧ RDs (G.at P0) F (hide (F ++ O) H) ys1 acc1 ∧ j ≤ es.length ∧ Ext (G.at P0) F1 (A :: O1) (upd H1 A (.lst [])) F O H ∧ Ext (G.at P0) F5 O5 H5 F O H
        have wall1 : ∀ ρ : List Sl, wipeR (wipeR ρ vs1) vs1 = wipeR ρ vs1 := fun ρ => wipeR_two fun i hi => hi
        have sall1 : wipe (wipe σ2 vs1) vs1 = wipe σ2 vs1 := wipe_two fun i hi => hi
        refine ⟨fun j k H => k = es.length - j ∧ Inv1 j H, ⟨_, rfl, _, φ5, F5, O5, acc, ys, rw6, ⟨ρ5, (wall1 ρ5).symm, by simpa using g4.ext x5'⟩, hy5, hd4.mono x5'.sm x5'.fe, Nat.zero_le _, x24.trans x5', .refl⟩, fun j k HH w => ?_⟩
        obtain ⟨hk, ρ6, φ6, F6, O6, acc1, ys1, r6', ⟨ρw1, ew1, g6⟩, hy6, hd6, hle1, x6, x56⟩ := w
        rw [lc_same ew1] at g6
        have it1j := it1 F6 O6 HH x56.sm x56.fe r6'.tr j
        cases ed1 : es[j]? with
        | none =>
          have hl := List.getElem?_eq_none_iff.mp ed1
          rw [List.drop_eq_nil_of_le hl] at g6
          refine .inl ⟨it1j.2 (Nat.le_antisymm hle1 hl), ?_⟩
          have g7 := LH.nil (ρ := wipeR ρ6 vs1) (φ := φ6) g6
          have rw7 := r6'.wiped vs
          rw [wipe_two hsub, we] at rw7
          exact ⟨_, φ6, F6, O6, acc1, ys1, rw7, ⟨wipeR ρ6 vs1, by rw [wall, wipeR_two hsub], g7⟩, hy6, hd6, hi2, x6⟩
        | some d1 =>
          obtain ⟨hj2, e21⟩ := List.getElem?_eq_some_iff.mp ed1
          rw [List.drop_eq_getElem_cons hj2, e21] at g6
          obtain ⟨go1, yl1⟩ := it1j.1 d1 ed1
          refine .inr ⟨go1, fun H' => Inv1 (j + 1) H', fun H' a => ⟨_, by omega, rfl, a⟩, fun x7 H7 y7 => ?_⟩
          obtain ⟨gr1, rx1⟩ := yl1 x7 H7 y7
          obtain ⟨r7, z7⟩ := r6'.grown gr1
          have z7' := z7.re (P' := P0) fun a ha => List.mem_cons_of_mem _ ha
          have g7 := g6.ext z7'
          have wself1 : Rel (G.at Pn) F6 O6 (wipeR ρ6 vs1) φ6 (wipe σ2 vs1) H7 := by
            have := r7.wiped vs1
            rw [sall1] at this
            exact this
          unfold lcLoop at g7
          split at g7
          · exact g7.elim
          rename_i ρ7 e7
          refine ⟨Pn, _, φ6, F6, O6, d1, ρ7, wself1, rx1.at_.to, e7, fun σ3 r8 off1 => ?_⟩
          have we1 : wipe σ3 vs1 = wipe σ2 vs1 := by
            have l2 : σ3.length = (wipe σ2 vs1).length := by rw [r8.len, wself1.len]; exact patSet_len e7
            rw [wipe_eq l2 off1 hvs1, sall1]
          refine ⟨we1, Pn, ρ7, φ6, F6, O6, r8, ?_⟩
          cases q7 : tt1 ρ7 φ6 with
          | err c es ρ8 φ8 => rw [q7] at g7; exact g7.elim
          | stuck => rw [q7] at g7; exact g7.elim
          | ok b1 ρ8 φ8 =>
          rw [q7] at g7
          intro F8 O8 H8 x8 r9
          have x8' := x8.re (P' := P0) fun a ha => List.mem_cons_of_mem _ ha
          have hy8 : H8 A = some (.lst ys1) := by rw [x8.pk A List.mem_cons_self, z7.pk A List.mem_cons_self]; exact hy6
          have rw9 := r9.wiped vs1
          rw [we1] at rw9
          have xx8 := z7'.trans x8'
          cases b1 with
          | false =>
            dsimp only at g7 ⊢
            rw [if_neg Bool.false_ne_true]
            exact ⟨_, φ8, F8, O8, acc1, ys1, rw9, ⟨ρ8, (wall1 ρ8).symm, g7.ext x8'⟩, hy8, hd6.mono xx8.sm xx8.fe, hj2, x6.trans xx8, x56.trans xx8⟩
          | true =>
            dsimp only at g7 ⊢
            rw [if_pos rfl]
            refine ⟨Pn, ρ8, φ8, F8, O8, r9, ?_⟩
            cases q9 : te ρ8 φ8 with
            | err c es ρ4 φ4 => rw [q9] at g7; exact g7.elim
            | stuck => rw [q9] at g7; exact g7.elim
            | ok zr ρ9 φ9 =>
            rw [q9] at g7
            dsimp only at g7
            obtain ⟨hlt, g8⟩ := LH.cons g7
            intro F9 O9 H9 x9 r10 v hv
            have hy9 : H9 A = some (.lst ys1) := by rw [x9.pk A List.mem_cons_self]; exact hy8
            obtain ⟨OA, r11, x11, d11⟩ := r10.freeze hv
            have hAO : A ∈ OA := r11.psub A List.mem_cons_self
            have x9' := x9.re (P' := P0) fun a ha => List.mem_cons_of_mem _ ha
            have x11' := x11.re (P' := P0) fun a ha => List.mem_cons_of_mem _ ha
            have xx := xx8.trans (x9'.trans x11')
            have hd11 := hd6.mono xx.sm xx.fe
            refine ⟨ys1, hy9, by rw [hd6.length, sizeLine_eq]; exact hlt, ?_⟩
            have nPA : ∀ a, a ∈ P0 → a ≠ A := fun a ha z => by rw [z] at ha; exact nP ha
            have s12 : Same (hide (F9 ++ OA) H9) (hide (F9 ++ OA) (upd H9 A (.lst (ys1 ++ [v])))) := hide_upd (.inl (List.mem_append_right _ hAO))
            have x12 : Ext (G.at P0) F9 OA H9 F9 OA (upd H9 A (.lst (ys1 ++ [v]))) := ⟨s12, .refl _, fun a ha => upd_ne (nPA a ha)⟩
            have r12 : Rel (G.at Pn) F9 OA ρ9 φ9 σ3 (upd H9 A (.lst (ys1 ++ [v]))) := ⟨r11.len, fun i d e => let ⟨u, k1, k2⟩ := r11.val i d e; ⟨u, k1, k2.mono s12 (.refl _)⟩, fun i es e => by
                obtain ⟨b, zs, k1, k2, k3, k4⟩ := r11.own i es e
                have nb : b ≠ A := fun z => r11.pno i es b e k1 (by rw [z]; exact List.mem_cons_self)
                exact ⟨b, zs, k1, k2, by rw [upd_ne nb]; exact k3, k4.mono s12 (.refl _)⟩, r11.inj, r11.disj, fun a ha => by
                by_cases hb : a = A
                · rw [hb, upd_same]; simp
                · rw [upd_ne hb]; exact r11.trk a ha, G.loc F9 H9 _ φ9 (fun b hb => upd_ne fun z => r11.disj A hAO (z ▸ hb)) r11.fi, r11.psub, r11.pno⟩
            have rw12 := r12.wiped vs1
            rw [we1] at rw12
            exact ⟨_, φ9, F9, OA, acc1 ++ [zr.d], ys1 ++ [v], rw12, ⟨ρ9, (wall1 ρ9).symm, (g8.ext (x8'.trans (x9'.trans x11'))).ext x12⟩, upd_same, (hd11.append (.cons d11.at_.to .nil)).mono s12 (.refl _), hj2, (x6.trans xx).trans x12, (x56.trans xx).trans x12⟩
variable {elt tg iter tg1 iter1 : Expr} {ifs ifs1 : List Expr} {scope : Scope} {own : List (Str × Nat)} {vs1 : List Nat} {mi mi1 : M Φ (List D)} {tt tt1 : M Φ Bool} {te : M Φ R} {p p1 : Pat} {pos : Pos}
theorem q_lc2 (hc : X.calm = true) (hN : X.N.Nodup) (hi : PI X tg iter (dI (G.at P0) W mi)) (ok : BlkOk X.N X.env.scope scope own)
    (hg : ∀ (P : List Addr) (s : Shared) (H : Hp) (C : Addr) (cl : List (Str × Addr)) (fp : List Addr), PG (X.blk s H scope (compEnvC scope cl C X.env) fp) tg (gP (G.at P) p))
    (ht : ∀ (P : List Addr) (s : Shared) (H : Hp) (C : Addr) (cl : List (Str × Addr)) (fp : List Addr), PTs (X.blk s H scope (compEnvC scope cl C X.env) fp) ifs (dT (G.at P) wN tt))
    (hi1 : ∀ (P : List Addr) (s : Shared) (H : Hp) (C : Addr) (cl : List (Str × Addr)) (fp : List Addr), PI (X.blk s H scope (compEnvC scope cl C X.env) fp) tg1 iter1 (dI (G.at P) wN mi1))
    (hg1 : ∀ (P : List Addr) (s : Shared) (H : Hp) (C : Addr) (cl : List (Str × Addr)) (fp : List Addr), PG (X.blk s H scope (compEnvC scope cl C X.env) fp) tg1 (gP (G.at P) p1))
    (ht1 : ∀ (P : List Addr) (s : Shared) (H : Hp) (C : Addr) (cl : List (Str × Addr)) (fp : List Addr), PTs (X.blk s H scope (compEnvC scope cl C X.env) fp) ifs1 (dT (G.at P) wN tt1))
    (he : ∀ (P : List Addr) (s : Shared) (H : Hp) (C : Addr) (cl : List (Str × Addr)) (fp : List Addr), PE (X.blk s H scope (compEnvC scope cl C X.env) fp) elt (dE (G.at P) wN te))
    (hv : ∀ i, i ∈ p.ix → i ∈ own.map (·.2) := by decide) (hv1 : ∀ i, i ∈ p1.ix → i ∈ vs1 := by decide) (hsub : ∀ i, i ∈ vs1 → i ∈ own.map (·.2) := by decide) (hs : ∀ x, foldedSetIterable iter X.env x = pure x := by intro _; rfl) (hs1 : ∀ env x, foldedSetIterable iter1 env x = pure x := by intro _ _; rfl) :
    PE X (.ListComp elt [⟨tg, iter, ifs, 0⟩, ⟨tg1, iter1, ifs1, 0⟩] scope pos) (dE (G.at P0) W (mLc2 p (own.map (·.2)) mi tt p1 vs1 mi1 tt1 te)) :=
  PE.weak (pe_lc2 (g := uG G p) (tt := uT G tt) (wi1 := uI G mi1) (g1 := uG G p1) (tt1 := uT G tt1) (te := uE G te) hc hN hi ok hsub (fun s H C cl fp => ⟨fun pins s' σ H' v u Q I r ⟨P, q⟩ => (hg P s H C cl fp).run pins s' σ H' v u Q I r q⟩)
    (fun s H C cl fp => ⟨fun pins s' σ H' Q I ⟨P, q⟩ => (ht P s H C cl fp).run pins s' σ H' Q I q⟩) (fun s H C cl fp => ⟨fun pins s' σ H' R I ⟨P, q⟩ => (hi1 P s H C cl fp).run pins s' σ H' R I q⟩)
    (fun s H C cl fp => ⟨fun pins s' σ H' v u Q I r ⟨P, q⟩ => (hg1 P s H C cl fp).run pins s' σ H' v u Q I r q⟩) (fun s H C cl fp => ⟨fun pins s' σ H' Q I ⟨P, q⟩ => (ht1 P s H C cl fp).run pins s' σ H' Q I q⟩)
    (fun s H C cl fp => ⟨fun pins s' σ H' Q I ⟨P, q⟩ => (he P s H C cl fp).run pins s' σ H' Q I q⟩) hs hs1) fun σ H Q h => dE_lc2 hv hv1 hsub h
/-- name = [.. for .. for ..] -/
theorem s_setLc2 (i : Nat) {y : Str} {py spos : Pos} (hc : X.calm = true) (hN : X.N.Nodup) (hi : PI X tg iter (dI (G.at P0) W mi)) (ok : BlkOk X.N X.env.scope scope own)
    (hg : ∀ (P : List Addr) (s : Shared) (H : Hp) (C : Addr) (cl : List (Str × Addr)) (fp : List Addr), PG (X.blk s H scope (compEnvC scope cl C X.env) fp) tg (gP (G.at P) p))
    (ht : ∀ (P : List Addr) (s : Shared) (H : Hp) (C : Addr) (cl : List (Str × Addr)) (fp : List Addr), PTs (X.blk s H scope (compEnvC scope cl C X.env) fp) ifs (dT (G.at P) wN tt))
    (hi1 : ∀ (P : List Addr) (s : Shared) (H : Hp) (C : Addr) (cl : List (Str × Addr)) (fp : List Addr), PI (X.blk s H scope (compEnvC scope cl C X.env) fp) tg1 iter1 (dI (G.at P) wN mi1))
    (hg1 : ∀ (P : List Addr) (s : Shared) (H : Hp) (C : Addr) (cl : List (Str × Addr)) (fp : List Addr), PG (X.blk s H scope (compEnvC scope cl C X.env) fp) tg1 (gP (G.at P) p1))
    (ht1 : ∀ (P : List Addr) (s : Shared) (H : Hp) (C : Addr) (cl : List (Str × Addr)) (fp : List Addr), PTs (X.blk s H scope (compEnvC scope cl C X.env) fp) ifs1 (dT (G.at P) wN tt1))
    (he : ∀ (P : List Addr) (s : Shared) (H : Hp) (C : Addr) (cl : List (Str × Addr)) (fp : List Addr), PE (X.blk s H scope (compEnvC scope cl C X.env) fp) elt (dE (G.at P) wN te))
    (hy : X.N[i]? = some y := by rfl) (hyl : X.env.scope.names.lookup y = some .local := by rfl) (hsw : swapsWith (.ListComp elt [⟨tg, iter, ifs, 0⟩, ⟨tg1, iter1, ifs1, 0⟩] scope pos) (some (.Name y py)) spos.line X.env = pure true := by rfl)
    (hv : ∀ i, i ∈ p.ix → i ∈ own.map (·.2) := by decide) (hv1 : ∀ i, i ∈ p1.ix → i ∈ vs1 := by decide) (hsub : ∀ i, i ∈ vs1 → i ∈ own.map (·.2) := by decide) (hs : ∀ x, foldedSetIterable iter X.env x = pure x := by intro _; rfl) (hs1 : ∀ env x, foldedSetIterable iter1 env x = pure x := by intro _ _; rfl) :
    PS X (.Assign [.Name y py] (.ListComp elt [⟨tg, iter, ifs, 0⟩, ⟨tg1, iter1, ifs1, 0⟩] scope pos) spos) (dS (G.at P0) W (mAsg i (mLc2 p (own.map (·.2)) mi tt p1 vs1 mi1 tt1 te))) :=
  PS.weak (ps_setLc2 (g := uG G p) (tt := uT G tt) (wi1 := uI G mi1) (g1 := uG G p1) (tt1 := uT G tt1) (te := uE G te) hc hN hy hyl hsw hi ok hsub (fun s H C cl fp => ⟨fun pins s' σ H' v u Q I r ⟨P, q⟩ => (hg P s H C cl fp).run pins s' σ H' v u Q I r q⟩)
    (fun s H C cl fp => ⟨fun pins s' σ H' Q I ⟨P, q⟩ => (ht P s H C cl fp).run pins s' σ H' Q I q⟩) (fun s H C cl fp => ⟨fun pins s' σ H' R I ⟨P, q⟩ => (hi1 P s H C cl fp).run pins s' σ H' R I q⟩)
    (fun s H C cl fp => ⟨fun pins s' σ H' v u Q I r ⟨P, q⟩ => (hg1 P s H C cl fp).run pins s' σ H' v u Q I r q⟩) (fun s H C cl fp => ⟨fun pins s' σ H' Q I ⟨P, q⟩ => (ht1 P s H C cl fp).run pins s' σ H' Q I q⟩)
    (fun s H C cl fp => ⟨fun pins s' σ H' Q I ⟨P, q⟩ => (he P s H C cl fp).run pins s' σ H' Q I q⟩) hs hs1) fun σ H D h => dE_lc2 hv hv1 hsub (dS_asg h)
end
end DN
namespace DN
open PySem PySem.Spec L2
open PyProof.Rows hiding St
variable {Φ : Type}
/-! ### an error of one's own, with one field -/
def spInit1 (K : PySem.W.Frag) (C : Addr) (n1 : Str) : Sp := fun vs H Q _ => ∃ a w, vs = [.ref a, w] ∧ OexC K C ∧ PySem.W.findIn K (.ref C) n1 = some none ∧ H a = some (exo a C none) ∧
  ∀ dx, H dx = none → dx ≠ a → Q .non (upd (upd H dx (exd dx [(n1, w)])) a (exo a C (some dx)))
theorem init_pure1 {K : PySem.W.Frag} {C : Addr} {n1 : Str} {N : List Str} (hN : N.length = 2) (vs : List V) (H : Hp) (Q : VK) (E : XK) (h : spInit1 K C n1 vs H Q E) :
    tOst K n1 (tVar 0) (tVar 1) { nx := fun _ H' => Q .non H', rt := Q } (L2.start N vs) H := by
  obtain ⟨a, w, rfl, T, f1, ha, q⟩ := h
  have es : L2.start N [.ref a, w] = [some (.ref a), some w] := by
    unfold L2.start
    rw [hN]
    rfl
  rw [es]
  exact ⟨w, rfl, .ref a, rfl, a, C, rfl, T, f1, .inl ⟨ha, fun dx n ne => q dx n ne⟩⟩
section
variable {X : Cx} {G : Ctx Φ} {P0 : List Addr} {W : WX} {e : Expr} {es : List Expr} {pos pos2 : Pos} {t : M Φ (List D)}
theorem s_raise1 {k : Nat} {fI C : Addr} {fd : FuncData} {ps : List Str} {n1 x : Str} {p : Pos} (hc : X.calm = true) (tk : Takes X W) (T : OexC X.K C) (h1 : PySem.W.findIn X.K (.ref C) n1 = some none) (iC : PySem.W.findIn X.K (.ref C) "__init__" = some (some (.ref fI))) (tI : PySem.W.typeIn X.K (.ref fI) = some (.type "function"))
    (F1 : FnOk X.prog X.w X.K X.mg X.base CX0 k fI fd ps (spInit1 X.K C n1)) (hr : Room (k + 1) X.A) (hb : Binds X.K fd ps []) (hg : Gl X x) (hm : X.mg x = some (.ref C)) (hx : G.ex x = some (C, [n1])) (hn : Ar 1 t) (ha : PA X (e :: es) (dA (G.at P0) W t))
    (hdb : (x == ("__debug__" : Str)) = false := by decide) (he : starEach (e :: es) X.env = (false, eval e X.env) :: starEach es X.env := by rfl) (hpl : (backTo pos (starEach es X.env)).any (·.1) = false := by rfl) :
    PS X (.Raise (some (.Call (.Name x p) (e :: es) [] pos)) none pos2) (dS (G.at P0) W (mRaise x t)) :=
  PS.weak (ps_raise hc tk (pmk_oex (dvs := []) T iC tI F1 hr hb .nil (fun _ _ _ _ _ _ _ h => h.elim) hg hm ha hdb he hpl)) fun D σ H h => by
    obtain ⟨ρ, φ, F, O, r, g⟩ := h
    refine useA r (Good.mono g.bindE fun ds ρ1 φ1 F1 O1 H1 e1 x1 _ g1 vs r1 hv => ?_)
    have hl := hn _ _ _ _ _ e1
    match ds, hl with
    | [d1], _ =>
      obtain ⟨v, rfl, k1⟩ := hv.one
      refine ⟨(show 1 ≤ 1000 by decide), fun a hna => ⟨a, v, rfl, T, h1, upd_same, fun dx hd ne => ⟨rfl, dx, [(n1, v)], ?_, ?_, ?_, ?_⟩⟩⟩
      · rw [upd_same]
      · rw [upd_ne ne, upd_same]
      · rw [upd_ne ne] at hd; exact hd
      · have hd1 : H1 dx = none := by rw [upd_ne ne] at hd; exact hd
        have eh : upd (del (upd (upd (upd H1 a (exo a C none)) dx (exd dx [(n1, v)])) a (exo a C (some dx))) a) dx (.xd [(n1, v)]) = upd H1 dx (.xd [(n1, v)]) := by
          funext b
          by_cases hb : b = dx
          · rw [hb, upd_same, upd_same]
          · rw [upd_ne hb, upd_ne hb]
            by_cases hba : b = a
            · rw [hba, del_same, hna]
            · rw [del_ne hba, upd_ne hba, upd_ne hb, upd_ne hba]
        rw [eh]
        obtain ⟨r2, x2⟩ := r1.laid (o := .xd [(n1, v)]) hd1
        exact g1 F1 O1 _ _ _ _ x2 r2 ⟨C, [n1], dx, _, hx, rfl, rfl, hide_of (r1.notin hd1) upd_same, rfl, .cons (k1.mono x2.sm x2.fe) .nil⟩
/-! ### a field -/
theorem look_at {fs : List (Str × V)} : ∀ {i : Nat} {n : Str}, (fs.map (·.1))[i]? = some n → (fs.map (·.1)).Nodup → ∃ v, fs[i]? = some (n, v) ∧ fs.lookup n = some v := by
  induction fs with
  | nil => intro i n h; simp at h
  | cons p fs ih =>
    intro i n h nd
    rw [List.map_cons] at h nd
    cases i with
    | zero =>
      have h : some p.1 = some n := h
      cases h
      exact ⟨p.2, rfl, by rw [List.lookup_cons]; simp⟩
    | succ i =>
      rw [List.getElem?_cons_succ] at h
      obtain ⟨v, h1, h2⟩ := ih h (List.nodup_cons.mp nd).2
      refine ⟨v, by rw [List.getElem?_cons_succ]; exact h1, ?_⟩
      rw [List.lookup_cons]
      have ne : n ≠ p.1 := fun z => (List.nodup_cons.mp nd).1 (by rw [← z]; exact List.mem_of_getElem? h)
      rw [show (n == p.1) = false from beq_eq_false_iff_ne.mpr ne]
      exact h2
theorem look_no {fs : List (Str × V)} {n : Str} (h : n ∉ fs.map (·.1)) : fs.lookup n = none := by
  induction fs with
  | nil => rfl
  | cons p fs ih =>
    rw [List.map_cons, List.mem_cons, not_or] at h
    rw [List.lookup_cons, show (n == p.1) = false from beq_eq_false_iff_ne.mpr h.1]
    exact ih h.2
def mFld (c : Str) (i : Nat) (m : M Φ R) : M Φ R := mB m fun r => match r.d with
  | .obj c' ds => if c' = c then (match ds[i]? with
    | some d => mP (.val d)
    | none => mS) else mS
  | _ => mS
variable {m : M Φ R}
theorem q_fld {c fl : Str} {C : Addr} {ns : List Str} {i : Nat} (hcl : G.cl c = some (C, ns)) (hi : ns[i]? = some fl) (nd : ns.Nodup) (cl : Cls X.K C) (na : NoAttr X.K C fl) (he : PE X e (dE G W m)) (hb : attributeBase e fl X.env (eval e X.env) = eval e X.env := by rfl) :
    PE X (.Attribute e fl pos) (dE G W (mFld c i m)) :=
  PE.weak (pe_fld he hb) fun σ H Q h => by
    obtain ⟨ρ, φ, F, O, r, g⟩ := h
    refine use r (Good.mono g.bind fun a ρ1 φ1 F1 O1 H1 _ x1 _ g1 O2 v r2 x2 d2 => ?_)
    cases ed : a.d with
    | obj c' ds =>
      rw [ed] at g1 d2
      dsimp only at g1
      by_cases hc : c' = c
      · rw [if_pos hc] at g1
        subst hc
        cases d2 with
        | obj h1 h2 h3 h4 =>
          rw [hcl] at h1
          cases h1
          cases q : ds[i]? with
          | none => rw [q] at g1; exact g1.elim
          | some d =>
            rw [q] at g1
            rw [← h3] at hi nd
            obtain ⟨w, e1, e2⟩ := look_at hi nd
            obtain ⟨u, e3, e4⟩ := h4.getD q
            rw [List.getElem?_map, e1] at e3
            cases e3
            exact ⟨_, _, _, _, _, rfl, (hide_some h2).2, cl, na, e2, (g1.ext x2).ok r2 _ e4⟩
      · rw [if_neg hc] at g1
        exact g1.elim
    | _ => rw [ed] at g1; exact g1.elim
/-! ### methods, their arguments by name -/
def mMeth (c : Str) (f : Fn Φ) (ix : List Nat) (m : M Φ R) (t : M Φ (List D)) : M Φ R := mB m fun r => match r.d with
  | .obj c' _ => if c' = c then mCall (fun ds => f (r.d :: perm ix ds)) t else mS
  | _ => mS
theorem dE_meth {c : Str} {C : Addr} {ns : List Str} {f : Fn Φ} {ix : List Nat} {n k : Nat} {mn : Str} {σ : St} {H : Hp} {Q : VK} (hcl : G.cl c = some (C, ns)) (hno : mn ∉ ns) (hn : Ar n t) (hi : ∀ i, i ∈ ix → i < n) (hk : k = ix.length + 1)
    (h : dE (G.at P0) W (mMeth c f ix m t) σ H Q) : dE (G.at P0) W m σ H fun x H1 => ∃ a dx fs, x = .ref a ∧ H1 a = some (.ins C dx fs) ∧ fs.lookup mn = none ∧
      dA (G.at P0) W t σ H1 fun zs H2 => zs.length = n ∧ spD G k f (x :: perm ix zs) H2 Q (WE W σ) := by
  obtain ⟨ρ, φ, F, O, r, g⟩ := h
  refine use r (Good.mono g.bind fun a ρ1 φ1 F1 O1 H1 _ x1 _ g1 O2 v r2 x2 d2 => ?_)
  cases ed : a.d with
  | obj c' ds0 =>
    rw [ed] at g1 d2
    dsimp only at g1
    by_cases hc : c' = c
    · rw [if_pos hc] at g1
      subst hc
      have d2' := d2
      cases d2 with
      | obj h1 h2 h3 h4 =>
        have h1 : G.cl c' = _ := h1
        rw [hcl] at h1
        cases h1
        refine ⟨_, _, _, rfl, (hide_some h2).2, look_no (by rw [h3]; exact hno), ρ1, φ1, F1, O2, r2, Good.mono (g1.ext x2).bind fun ds ρ3 φ3 F3 O3 H3 e3 x3 r3 g3 vs hv => ?_⟩
        refine ⟨by rw [hv.length]; exact hn _ _ _ _ _ e3, F3, φ3, D.obj c' ds0 :: perm ix ds, O3, by rw [List.length_cons, perm_length (by rw [hv.length]; exact hn _ _ _ _ _ e3) hi, hk], (RDs.cons (d2'.mono x3.sm x3.fe) (perm_rds hv)).at_, r3.fi, fun a ha => ⟨r3.disj a ha, r3.trk a ha⟩, ?_⟩
        cases q : f (D.obj c' ds0 :: perm ix ds) φ3 with
        | ok res φ' =>
          dsimp only at g3 ⊢
          rw [q] at g3
          intro F' H' v fe sm fi rc
          cases res with
          | val d =>
            obtain ⟨r4, x4⟩ := r3.after fe sm fi
            exact g3 F' O3 H' x4 r4 v (RD.to rc)
          | new ds' =>
            obtain ⟨a, xs, rfl, na, nF, ea, hd⟩ := rc
            obtain ⟨r4, x4, rr⟩ := r3.afterNew fe sm fi na nF ea hd.to
            exact g3 F' _ H' x4 r4 _ rr
        | err c es φ' =>
          dsimp only at g3 ⊢
          rw [q] at g3
          intro F' H' cls d fe sm fi er
          obtain ⟨r4, x4⟩ := r3.after fe sm fi
          exact g3 F' O3 H' cls d x4 r4 er.to
        | stuck => dsimp only at g3; rw [q] at g3; exact g3.elim
    · rw [if_neg hc] at g1
      exact g1.elim
  | _ => rw [ed] at g1; exact g1.elim
/-- o.m(), o.m(x=.., ..) -/
theorem q_meth {k : Nat} {f C : Addr} {fd : FuncData} {ps ks ns : List Str} {fn : Fn Φ} {c mn : Str} {ix : List Nat} {o : Expr} {apos : Pos} {kws : List Keyword} {pl : Sem Bool} (hcl : G.cl c = some (C, ns)) (cl : Cls X.K C) (hm : Meth X.K C mn f) (F : FnOk X.prog X.w X.K X.mg X.base (L2.CX X.prog X.w) k f fd ps (spD G ps.length fn)) (hr : Room k X.A)
    (hb : ∀ (s : Shared) (u : Value) (ws : List Value), ws.length = ks.length → BindsTo s fd ⟨[u], ks.zip ws⟩ (ps.zip (u :: perm ix ws))) (tk : Takes X W) (hn : Ar ks.length t) (ho : PE X o (dE (G.at P0) W m)) (ha : PK X kws (dA (G.at P0) W t)) (hno : mn ∉ ns := by decide) (hp : ps.length = ix.length + 1 := by rfl) (hi : ∀ i, i ∈ ix → i < ks.length := by decide)
    (ht : eval (.Call (.Attribute o mn apos) [] kws pos) X.env = (do
      let ov ← eval o X.env
      standAt apos.atName
      let (f, first) ← holding [ov] (getMethod ov mn pl)
      callWith pos f first (backTo pos (starEach [] X.env)) (backToKw pos (keywordEach kws X.env))) := by rfl)
    (hall : (backToKw pos (keywordEach kws X.env)).all (·.1.isSome) = true := by rfl) (hks : (backToKw pos (keywordEach kws X.env)).filterMap (·.1) = ks := by rfl)
    (hpl : ((backTo pos (starEach [] X.env)).any (·.1) || (backToKw pos (keywordEach kws X.env)).any (·.1.isNone)) = false := by rfl) :
    PE X (.Call (.Attribute o mn apos) [] kws pos) (dE (G.at P0) W (mMeth c fn ix m t)) := by
  refine ⟨fun pins s σ H Q I h => ?_⟩
  have h2 := dE_meth hcl hno hn hi hp h
  have tp := passAt tk σ
  refine PySem.W.methodCall_KW (pl := pl) (thn (ho.run pins s σ H _ I h2) fun u s1 ⟨x, H1, I1, rx, a, dx, fs, ex, ea, l, q⟩ => ?_) ht
  subst ex
  obtain rfl : u = Value.ref a := rx
  refine getmeth_ok I1 ea cl hm l ?_
  refine PySem.W.callWith_KW0 (h₀ := X.base) (first := [.ref a]) I.ok.mod.kin hm.kp hall ?_ hpl
  refine thn (ha.run pos pins s1 σ H1 _ I1 q) fun ws s2 ⟨zs, H2, I2, rz, q2⟩ => ⟨I2.kIn, ?_⟩
  rw [hks]
  obtain ⟨lz, q2⟩ := q2
  have lw : ws.length = ks.length := by rw [← rz.length]; exact lz
  refine wpAny_call (codeAny_mono (F.run X.A X.stack s2 H2 ⟨[.ref a], ks.zip ws⟩ (.ref a :: perm ix ws) (.ref a :: perm ix zs) Q (WE W σ) hr I2.env0 (hb s2 _ ws lw) (.cons rfl (perm_vals rz)) q2) fun r s' hq => ?_)
  cases r with
  | error e => exact tp pins H2 s2 e s' I2 hq
  | ok fl =>
    cases fl with
    | ret u => exact I2.after hq
    | next => exact False.elim hq
    | brk => exact False.elim hq
    | cont => exact False.elim hq
end
end DN
namespace DN
open PySem PySem.Spec L2
open PyProof.Rows hiding St
variable {Φ : Type}
/-! ### instances of a class with one field are made -/
def spNew1 (G : Ctx Φ) (C : Addr) (fl : Str) (n : Nat) (f : Fn Φ) : Sp := fun vs H Q E => ∃ a dx ws F φ ds P, vs = .ref a :: ws ∧ ws.length = n ∧ H a = some (.ins C dx []) ∧ a ∈ P ∧ RDs G F (hide (F ++ P) H) ws ds ∧ G.FI F H φ ∧ (∀ b, b ∈ P → b ∉ F ∧ H b ≠ none) ∧
  match f ds φ with
  | .ok r φ' => ∀ F' H' v, FE F F' → Same (hide F H) (hide F' H') → G.FI F' H' φ' → a ∉ F' → RD G F' (hide (F' ++ P) H') v r.d → Q .non (upd H' a (.ins C dx [(fl, v)]))
  | .err c es φ' => ∀ F' H' cls d, FE F F' → Same (hide F H) (hide F' H') → G.FI F' H' φ' → ER G F' P H' cls d c es → E cls d H'
  | .stuck => False
/-- what the maker gives -/
def newF (c : Str) (f : Fn Φ) : Fn Φ := fun ds φ => match f ds φ with
  | .ok r φ' => .ok (.val (.obj c [r.d])) φ'
  | .err x es φ' => .err x es φ'
  | .stuck => .stuck
section
variable {X : Cx} {G : Ctx Φ} {P0 : List Addr} {W : WX} {e : Expr} {es : List Expr} {pos : Pos} {t : M Φ (List D)}
theorem dE_make {c fl : Str} {C : Addr} {f : Fn Φ} {n : Nat} {σ : St} {H : Hp} {Q : VK} (hcl : G.cl c = some (C, [fl])) (hn : Ar n t) (h : dE (G.at P0) W (mCall (newF c f) t) σ H Q) :
    dA (G.at P0) W t σ H fun vs H1 => ∀ x dx, H1 x = none → H1 dx = none → dx ≠ x → spNew1 G C fl n f (.ref x :: (vs ++ [])) (upd (upd H1 dx (.own x)) x (.ins C dx [])) (fun v H2 => v = .non ∧ Q (.ref x) H2) (WE W σ) := by
  obtain ⟨ρ, φ, F, O, r, g⟩ := h
  refine ⟨ρ, φ, F, O, r, Good.mono g.bind fun ds ρ1 φ1 F1 O1 H1 e1 x1 r1 g1 vs hv x dx hx hd hne => ?_⟩
  obtain ⟨r2, x2⟩ := r1.laid (o := .own x) hd
  have hx2 : upd H1 dx (.own x) x = none := by rw [upd_ne (Ne.symm hne)]; exact hx
  obtain ⟨r3, x3⟩ := r2.laid (o := .ins C dx []) hx2
  have xx := x2.trans x3
  have nx := r2.notin hx2
  let H3 : Hp := upd (upd H1 dx (.own x)) x (.ins C dx [])
  have s3 : Same (hide (F1 ++ O1) H1) (hide (F1 ++ x :: O1) H3) := fun b o q => by
    obtain ⟨n1, q1⟩ := hide_some q
    obtain ⟨n2, q2⟩ := hide_some (xx.sm b o q)
    have nb : b ≠ x := fun z => by rw [z, hx] at q1; cases q1
    refine hide_of (fun z => ?_) q2
    rcases List.mem_append.mp z with z | z
    · exact n2 (List.mem_append_left _ z)
    · rcases List.mem_cons.mp z with z | z
      · exact nb z
      · exact n2 (List.mem_append_right _ z)
  refine ⟨x, dx, vs ++ [], F1, φ1, ds, x :: O1, rfl, by rw [List.append_nil, hv.length]; exact hn _ _ _ _ _ e1, upd_same, List.mem_cons_self, ?_, r3.fi, fun b hb => ?_, ?_⟩
  · rw [List.append_nil]
    exact (hv.mono s3 (.refl _)).at_
  · rcases List.mem_cons.mp hb with rfl | hb
    · exact ⟨fun z => nx (List.mem_append_left _ z), by rw [upd_same]; simp⟩
    · exact ⟨r3.disj b hb, r3.trk b hb⟩
  · unfold newF at g1
    cases q : f ds φ1 with
    | ok res φ' =>
      rw [q] at g1
      dsimp only at g1 ⊢
      intro F' H' v fe sm fi nF hv'
      refine ⟨rfl, ?_⟩
      -- the end
      have nO : x ∉ O1 := fun z => nx (List.mem_append_right _ z)
      have sm1 : Same (hide F1 H1) (hide F' (upd H' x (.ins C dx [(fl, v)]))) := fun b o q => by
        obtain ⟨n1, q1⟩ := hide_some q
        have nb : b ≠ x := fun z => by rw [z, hx] at q1; cases q1
        have nd : b ≠ dx := fun z => by rw [z, hd] at q1; cases q1
        obtain ⟨n2, q2⟩ := hide_some (sm b o (hide_of n1 (by
          show upd (upd H1 dx (.own x)) x (.ins C dx []) b = some o
          rw [upd_ne nb, upd_ne nd]; exact q1)))
        exact hide_of n2 (by rw [upd_ne nb]; exact q2)
      obtain ⟨r4, x4⟩ := r1.after fe sm1 (G.loc F' H' _ φ' (fun b hb => upd_ne fun z => nF (z ▸ hb)) fi)
      refine g1 F' O1 _ x4 r4 (.ref x) ?_
      refine .obj (C := C) (ns := [fl]) hcl (hide_of (fun z => (List.mem_append.mp z).elim nF nO) upd_same) rfl (.cons ?_ .nil)
      refine RD.to (RD.mono (fun b o q => ?_) (.refl _) hv')
      obtain ⟨n1, q1⟩ := hide_some q
      have nb : b ≠ x := fun z => n1 (List.mem_append_right _ (by rw [z]; exact List.mem_cons_self))
      refine hide_of (fun z => n1 ?_) (by rw [upd_ne nb]; exact q1)
      rcases List.mem_append.mp z with z | z
      · exact List.mem_append_left _ z
      · exact List.mem_append_right _ (List.mem_cons_of_mem _ z)
    | err c es φ' =>
      rw [q] at g1
      dsimp only at g1 ⊢
      intro F' H' cls d fe sm fi er
      have sm1 : Same (hide F1 H1) (hide F' H') := fun b o q => by
        obtain ⟨n1, q1⟩ := hide_some q
        have nb : b ≠ x := fun z => by rw [z, hx] at q1; cases q1
        have nd : b ≠ dx := fun z => by rw [z, hd] at q1; cases q1
        exact sm b o (hide_of n1 (by
          show upd (upd H1 dx (.own x)) x (.ins C dx []) b = some o
          rw [upd_ne nb, upd_ne nd]; exact q1))
      obtain ⟨r4, x4⟩ := r1.after fe sm1 fi
      refine g1 F' O1 H' cls d x4 r4 (ER.to ?_)
      obtain ⟨C', ns', dd, fs, h1, h2, h3, h4, h5, h6⟩ := er
      have sb : Same (hide (F' ++ x :: O1) H') (hide (F' ++ O1) H') := hide_sub fun a ha => by
        rcases List.mem_append.mp ha with z | z
        · exact List.mem_append_left _ z
        · exact List.mem_append_right _ (List.mem_cons_of_mem _ z)
      exact ⟨C', ns', dd, fs, h1, h2, h3, sb _ _ h4, h5, h6.mono sb (.refl _)⟩
    | stuck => rw [q] at g1; exact g1.elim
theorem q_make {k n : Nat} {f C : Addr} {fd : FuncData} {ps : List Str} {fn : Fn Φ} {c fl x : Str} {p : Pos} (hcl : G.cl c = some (C, [fl])) (M : Mk X.K C f) (F : FnOk X.prog X.w X.K X.mg X.base (L2.CX X.prog X.w) k f fd ps (spNew1 G C fl n fn)) (hr : Room (k + 1) X.A) (hg : Gl X x) (hm : X.mg x = some (.ref C)) (hb : Binds X.K fd ps []) (tk : Takes X W)
    (hn : Ar n t) (ha : PA X (e :: es) (dA (G.at P0) W t)) (hdb : (x == ("__debug__" : Str)) = false := by decide) (he : starEach (e :: es) X.env = (false, eval e X.env) :: starEach es X.env := by rfl) (hpl : (backTo pos (starEach es X.env)).any (·.1) = false := by rfl) :
    PE X (.Call (.Name x p) (e :: es) [] pos) (dE (G.at P0) W (mCall (newF c fn) t)) := by
  refine ⟨fun pins s σ H Q I h => ?_⟩
  have h2 := dE_make hcl hn h
  have hx := passAt tk σ
  refine wpAny_Call_Name_kw (ld_glob I hg hm ?_ hdb)
  refine PySem.W.callWith_K (h₀ := X.base) I.ok.mod.kin M.kp (thn (ha.run pos pins s σ H _ I h2) fun us s1 ⟨vs, H1, I1, rv, q⟩ => ⟨I1.kIn, ?_⟩) he hpl
  have hq := q (s1.heap.objs.size + 1) s1.heap.objs.size (I1.hok.fresh (Nat.le_succ _)) (I1.hok.fresh (Nat.le_refl _)) (Nat.ne_of_lt (Nat.lt_succ_self _))
  have I2 := Inv.made (C := C) I1
  have r2 : Vals (V.ref (s1.heap.objs.size + 1) :: (vs ++ [])) (Value.ref (s1.heap.objs.size + 1) :: (us ++ [])) := .cons rfl (rv.append .nil)
  have hl : (Value.ref (s1.heap.objs.size + 1) :: us ++ []).length = ps.length := by
    have e := r2.length
    rw [F.len _ _ _ _ hq] at e
    exact e.symm
  have hb2 := hb _ (Value.ref (s1.heap.objs.size + 1) :: us) I2.kIn hl
  rw [List.cons_append] at hb2
  refine wpAny_call (make_map (f := f) I1.kIn M.makes M.init (beq_iff_eq.mp M.fn) (codeAny_mono (F.run _ X.stack _ _ ⟨Value.ref (s1.heap.objs.size + 1) :: us, []⟩ (Value.ref (s1.heap.objs.size + 1) :: (us ++ [])) _ _ (WE W σ) (hr.make C us [])
    (I2.env0.make C us []) hb2 r2 hq) fun r s' hq' => ?_))
  cases r with
  | error e => exact hx pins _ _ e s' I2 hq'
  | ok fl =>
    cases fl with
    | ret u =>
      obtain ⟨v, H', I3, rv, ev, q3⟩ := I2.after hq'
      subst ev
      exact ⟨rv, ⟨V.ref (s1.heap.objs.size + 1), H', I3, rfl, q3⟩⟩
    | next => exact False.elim hq'
    | brk => exact False.elim hq'
    | cont => exact False.elim hq'
/-! ### __init__: x = .., if ..: raise .., self.f = .. -/
def mInit (i : Nat) (m1 : M Φ R) (t : M Φ Bool) (mr : M Φ Fl) (m3 : M Φ R) : M Φ Fl := mSeq (mAsg i m1) (mSeq (mIfS t mr (mP .nx)) (mRet m3))
variable {m1 m3 : M Φ R} {tt : M Φ Bool} {mr : M Φ Fl}
theorem init_pss {P : List Addr} {s1 s2 s3 : Stmt} {i : Nat} {f : Str} (hi : i ≠ 0) (hmr : ∀ ρ φ fl ρ' φ', mr ρ φ ≠ .ok fl ρ' φ') (h1 : PS X s1 (tAsg (dE (G.at P) W m1) (gName i))) (h2 : PS X s2 (tIfS (dT (G.at P) W tt) (dS (G.at P) W mr) tNext)) (h3 : PS X s3 (sFld X.K (tVar 0) (dE (G.at P) W m3) f)) (cl : Cls X.K C) (na : NoAttr X.K C f) :
    PSs X [s1, s2, s3] (fun D σ H => ∃ a dx, σ[0]? = some (some (.ref a)) ∧ (∀ H' : Hp, H' a = H a → H' a = some (.ins C dx [])) ∧ a ∈ P ∧
      dS (G.at P) W (mInit i m1 tt mr m3) { nx := fun _ _ => False, rt := fun y H' => ∀ σ', D.nx σ' (upd H' a (.ins C dx [(f, y)])) } σ H) := by
  refine PSs.weak (pss_cons h1 (pss_cons h2 (pss_one h3))) fun D σ H h => ?_
  obtain ⟨a, dx, e0, ha, hP, ρ, φ, F, O, r, g⟩ := h
  unfold mInit at g
  obtain g1 := g.seq
  unfold mAsg at g1
  refine ⟨ρ, φ, F, O, r, Good.mono (GoodS.bindE g1) fun b ρ1 φ1 F1 O1 H1 _ x1 r1 g2 v rv => ?_⟩
  have e1 : (σ.set i (some v))[0]? = some (some (.ref a)) := by rw [List.getElem?_set_ne hi]; exact e0
  have g3 : dS (G.at P) W (mSeq (mIfS tt mr (mP .nx)) (mRet m3)) { nx := fun _ _ => False, rt := fun y H' => ∀ σ', D.nx σ' (upd H' a (.ins C dx [(f, y)])) } (σ.set i (some v)) H1 := by
    cases b with
    | val d => exact g2 F1 O1 H1 _ .refl (r1.setVal rv)
    | new ds => exact g2 F1 O1 H1 _ .refl (r1.setNew rv)
  have k1 : H1 a = H a := x1.pk a hP
  obtain ⟨ρ2, φ2, F2, O2, r2, g4⟩ := g3
  have g5 := g4.seq
  unfold mIfS at g5
  refine useB r2 (Good.mono (GoodS.bindE g5) fun b ρ3 φ3 F3 O3 H3 _ x3 _ g6 r3 => ?_)
  have k3 : H3 a = H1 a := x3.pk a hP
  cases b with
  | true =>
    rw [if_pos rfl] at g6 ⊢
    refine ⟨ρ3, φ3, F3, O3, r3, ?_⟩
    cases q : mr ρ3 φ3 with
    | ok fl ρ4 φ4 => exact absurd q (hmr _ _ _ _ _)
    | err c es ρ4 φ4 => rw [q] at g6; exact g6
    | stuck => rw [q] at g6; exact g6.elim
  | false =>
    rw [if_neg Bool.false_ne_true] at g6 ⊢
    obtain ⟨ρ4, φ4, F4, O4, r4, g7⟩ := g6 F3 O3 H3 _ .refl r3
    unfold mRet at g7
    refine ⟨ρ4, φ4, F4, O4, r4, Good.mono (GoodS.bindE g7) fun y ρ5 φ5 F5 O5 H5 _ x5 r5 g8 v' rv' => ?_⟩
    have k5 : H5 a = H3 a := x5.pk a hP
    refine ⟨_, e1, a, C, dx, [], rfl, ha H5 (k5.trans (k3.trans k1)), cl, na, (by show 0 < 1000; decide), ?_⟩
    exact g8 F5 O5 H5 _ .refl r5 v' rv' _
end
section
variable {Pg : Program} {w : World} {K : PySem.W.Frag} {mg : Str → Option Value} {base : Heap} {G : Ctx Φ}
/-- the value that is stored, from the arguments -/
def runI (N : Nat) (m : M Φ Fl) : Fn Φ := fun ds φ => match m (Sl.emp :: (ds.map Sl.val ++ List.replicate (N - (ds.length + 1)) Sl.emp)) φ with
  | .ok (.rt r) _ φ' => .ok r φ'
  | .err c es _ φ' => .err c es φ'
  | _ => .stuck
theorem init_ok {x qual : Str} {st : Stmt} {f C : Addr} {fd : FuncData} {N ps : List Str} {k i n : Nat} {fl : Str} {m1 m3 : M Φ R} {tt : M Φ Bool} {mr : M Φ Fl} (Fu : Fun K x qual st f fd) (S : FnScope N ps (defScope st)) (hps : ps.length = n + 1)
    (hb : ∀ (cdv : Value) (A : Around) (outer : List Env) (s : Shared) (H : Hp) (E : XK) (P : List Addr), Room k (A.deeper (envOfC qual (defScope st) s.heap.objs.size f cdv)) →
      PSs (cxOf (L2.CX Pg w) Pg w K mg base N qual (defScope st) f cdv A outer s H E) (defBody st) (fun D σ H' => ∃ a dx, σ[0]? = some (some (.ref a)) ∧ (∀ H2 : Hp, H2 a = H' a → H2 a = some (.ins C dx [])) ∧ a ∈ P ∧
        dS (G.at P) (fun cls d _ H => E cls d H) (mInit i m1 tt mr m3) { nx := fun _ _ => False, rt := fun y H2 => ∀ σ', D.nx σ' (upd H2 a (.ins C dx [(fl, y)])) } σ H')) :
    FnOk Pg w K mg base (L2.CX Pg w) (k + 1) f fd ps (spNew1 G C fl n (runI N.length (mInit i m1 tt mr m3))) := by
  have hpl : ps.length ≤ N.length := by have := congrArg List.length S.pre; rw [List.length_take] at this; omega
  refine Fu.okX S (fun vs H Q E h => ?_) (fun cdv A outer s H vs Q E hr h => ?_)
  · obtain ⟨a, dx, ws, F, φ, ds, P, rfl, h, _⟩ := h
    rw [List.length_cons, h, hps]
  · obtain ⟨a, dx, ws, F, φ, ds, P, rfl, hl, ha, hP, hv, fi, hp, h⟩ := h
    have rr : Rel (G.at P) F P (Sl.emp :: (ds.map Sl.val ++ List.replicate (N.length - (ds.length + 1)) Sl.emp)) φ (L2.start N (.ref a :: ws)) H := by
      have r0 := rel_start (N := N.tail) (vs := ws) (by rw [List.length_tail]; omega) hv fi hp
      have es : L2.start N (.ref a :: ws) = some (.ref a) :: L2.start N.tail ws := by
        unfold L2.start
        cases N with
        | nil => rw [hps] at hpl; simp at hpl
        | cons y N => simp
      have er : N.tail.length - ds.length = N.length - (ds.length + 1) := by rw [List.length_tail]; omega
      rw [er] at r0
      rw [es]
      refine ⟨by rw [List.length_cons, List.length_cons, r0.len], fun i d q => ?_, fun i es q => ?_, fun i j es fs q q' he => ?_, r0.disj, r0.trk, r0.fi, r0.psub, fun i es b q q' => ?_⟩
      · cases i with
        | zero => cases q
        | succ i => exact r0.val i d q
      · cases i with
        | zero => cases q
        | succ i => exact r0.own i es q
      · cases i with
        | zero => cases q
        | succ i =>
          cases j with
          | zero => cases q'
          | succ j => rw [r0.inj i j es fs q q' he]
      · cases i with
        | zero => cases q
        | succ i => exact r0.pno i es b q q'
    have sm : ∀ {F' O' : List Addr} {H' : Hp} {ρ' : List Sl} {φ' : Φ} {σ' : St}, Ext (G.at P) F P H F' O' H' → Rel (G.at P) F' O' ρ' φ' σ' H' → Same (hide F H) (hide F' H') := fun {F' O' H' ρ' φ' σ'} x r b o e => by
      obtain ⟨n, e⟩ := hide_some e
      by_cases hP : b ∈ P
      · exact hide_of (r.disj b (r.psub b hP)) ((x.pk b hP).trans e)
      · obtain ⟨n', e'⟩ := hide_some (x.sm b o (hide_of (fun z => (List.mem_append.mp z).elim n hP) e))
        exact hide_of (fun z => n' (List.mem_append_left _ z)) e'
    have sub : ∀ {F' O' : List Addr} {H' : Hp} {ρ' : List Sl} {φ' : Φ} {σ' : St}, Rel (G.at P) F' O' ρ' φ' σ' H' → Same (hide (F' ++ O') H') (hide (F' ++ P) H') := fun {F' O' H' ρ' φ' σ'} r => hide_sub fun a ha => by
      rcases List.mem_append.mp ha with z | z
      · exact List.mem_append_left _ z
      · exact List.mem_append_right _ (r.psub a z)
    refine ⟨_, hb cdv A outer s H E P hr, a, dx, ?_, fun H2 e => e.trans ha, hP, _, φ, F, P, rr, ?_⟩
    · unfold L2.start
      cases N with
      | nil => rw [hps] at hpl; simp at hpl
      | cons y N => rfl
    · unfold runI at h
      cases q : mInit i m1 tt mr m3 (Sl.emp :: (ds.map Sl.val ++ List.replicate (N.length - (ds.length + 1)) Sl.emp)) φ with
      | ok fl' ρ' φ' =>
        rw [q] at h
        cases fl' with
        | rt res =>
          intro F' O' H' σ' x r v rv σ''
          obtain ⟨O2, r2, x2, d2⟩ := r.freeze rv
          have xx := x.trans x2
          exact h F' H' v xx.fe (sm xx r2) r2.fi (r2.disj a (r2.psub a hP)) (RD.mono (sub r2) (.refl _) (RD.at_ d2))
        | nx => exact h.elim
        | bk => exact h.elim
        | ct => exact h.elim
      | err c es ρ' φ' =>
        rw [q] at h
        intro F' O' H' cls d σ' x r er
        refine h F' H' cls d x.fe (sm x r) r.fi ?_
        obtain ⟨C, ns, dd, fs, h1, h2, h3, h4, h5, h6⟩ := er
        exact ⟨C, ns, dd, fs, h1, h2, h3, sub r _ _ h4, h5, RDs.mono (sub r) (.refl _) h6.at_⟩
      | stuck => rw [q] at h; exact h.elim
theorem fun_kw1 {x qual : Str} {st : Stmt} {f : Addr} {fd : FuncData} {ps ks : List Str} {ix : List Nat} (F : Fun K x qual st f fd)
    (h : ∀ (kV doc pm : Value) (an : Option Addr) (cdv ct : Value) (u : Value) (ws : List Value), ws.length = ks.length → bindArgs (PySem.W.fnOf x qual (defArgs st) (defBody st) (defScope st) .none kV doc pm an cdv ct) ⟨[u], ks.zip ws⟩ = pure (ps.zip (u :: perm ix ws))) : ∀ (s : Shared) (u : Value) (ws : List Value), ws.length = ks.length → BindsTo s fd ⟨[u], ks.zip ws⟩ (ps.zip (u :: perm ix ws)) := by
  obtain ⟨oc, od, kV, doc, pm, an, cdv, ct, osl, rfl, lk, hcd⟩ := F.ex
  exact fun s u ws hl => BindsTo.of_eq (h kV doc pm an cdv ct u ws hl)
theorem raise_no {c : Str} {t : M Φ (List D)} : ∀ ρ φ fl ρ' φ', mRaise c t ρ φ ≠ .ok fl ρ' φ' := fun ρ φ fl ρ' φ' h => by
  unfold mRaise mB at h
  split at h <;> cases h
theorem exm_two {S C : Addr} {b : Bool} (h1 : PySem.W.subIn K (.ref C) (.type "BaseException") = some true) (h2 : PySem.W.isClsIn K C = true) (h3 : PySem.W.typeIn K (.ref C) = some (.type "type")) (h4 : PySem.W.subIn K (.ref S) (.ref C) = some b) : PySem.W.exmOne K (.ref S) (.ref C) = some b := by
  have h2 : (PySem.W.clsIn K C).isSome = true := h2
  unfold PySem.W.exmOne PySem.W.kitCls
  simp [h1, h2, h3, h4]
end
end DN
namespace DN
open PySem PySem.Spec L2
open PyProof.Rows hiding St
variable {Φ : Type} {α β : Type} {ρ ρ1 ρ2 : List Sl} {φ φ1 φ2 : Φ}
theorem mB_ok {m : M Φ α} {k : α → M Φ β} {a : α} (h : m ρ φ = .ok a ρ1 φ1) : mB m k ρ φ = k a ρ1 φ1 := by unfold mB; rw [h]
theorem mSeq_ok {m n : M Φ Fl} (h : m ρ φ = .ok .nx ρ1 φ1) : mSeq m n ρ φ = n ρ1 φ1 := by unfold mSeq; rw [h]
theorem mSeq_rt {m n : M Φ Fl} {r : R} (h : m ρ φ = .ok (.rt r) ρ1 φ1) : mSeq m n ρ φ = .ok (.rt r) ρ1 φ1 := by unfold mSeq; rw [h]
theorem mSeq_err {m n : M Φ Fl} {c : Str} {es : List D} (h : m ρ φ = .err c es ρ1 φ1) : mSeq m n ρ φ = .err c es ρ1 φ1 := by unfold mSeq; rw [h]
theorem mCall_ok {f : Fn Φ} {t : M Φ (List D)} {ds : List D} {r : R} (h : t ρ φ = .ok ds ρ1 φ1) (k : f ds φ1 = .ok r φ2) : mCall f t ρ φ = .ok r ρ1 φ2 := by unfold mCall mB; rw [h]; dsimp only; rw [k]
theorem mCall_err {f : Fn Φ} {t : M Φ (List D)} {ds : List D} {c : Str} {es : List D} (h : t ρ φ = .ok ds ρ1 φ1) (k : f ds φ1 = .err c es φ2) : mCall f t ρ φ = .err c es ρ1 φ2 := by unfold mCall mB; rw [h]; dsimp only; rw [k]
theorem mRet_ok {m : M Φ R} {r : R} (h : m ρ φ = .ok r ρ1 φ1) : mRet m ρ φ = .ok (.rt r) ρ1 φ1 := by unfold mRet mB; rw [h]; rfl
theorem mRet_err {m : M Φ R} {c : Str} {es : List D} (h : m ρ φ = .err c es ρ1 φ1) : mRet m ρ φ = .err c es ρ1 φ1 := by unfold mRet mB; rw [h]
theorem mDrop_ok {m : M Φ R} {r : R} (h : m ρ φ = .ok r ρ1 φ1) : mDrop m ρ φ = .ok .nx ρ1 φ1 := by unfold mDrop mB; rw [h]; rfl
theorem mAsg_ok {i : Nat} {m : M Φ R} {r : R} (h : m ρ φ = .ok r ρ1 φ1) : mAsg i m ρ φ = .ok .nx (ρ1.set i (slOf r)) φ1 := by unfold mAsg mB; rw [h]
theorem mAsg_same {i : Nat} {m : M Φ R} {r : R} (h : m ρ φ = .ok r ρ φ1) (k : ρ.set i (slOf r) = ρ2) : mAsg i m ρ φ = .ok .nx ρ2 φ1 := by rw [mAsg_ok h, k]
theorem mAsgP_ok {p : Pat} {m : M Φ R} {r : R} (h : m ρ φ = .ok r ρ1 φ1) (k : patSet p r.d ρ1 = some ρ2) : mAsgP p m ρ φ = .ok .nx ρ2 φ1 := by unfold mAsgP mB; rw [h]; dsimp only; rw [k]
theorem mIfS_t {t : M Φ Bool} {m n : M Φ Fl} (h : t ρ φ = .ok true ρ1 φ1) : mIfS t m n ρ φ = m ρ1 φ1 := by unfold mIfS mB; rw [h]; rfl
theorem mIfS_f {t : M Φ Bool} {m n : M Φ Fl} (h : t ρ φ = .ok false ρ1 φ1) : mIfS t m n ρ φ = n ρ1 φ1 := by unfold mIfS mB; rw [h]; rfl
theorem mIfS_b {t : M Φ Bool} {m n : M Φ Fl} {b : Bool} (h : t ρ φ = .ok b ρ1 φ1) : mIfS t m n ρ φ = (if b = true then m else n) ρ1 φ1 := by unfold mIfS mB; rw [h]
theorem mNil_ok : (mNil : M Φ (List D)) ρ φ = .ok [] ρ φ := rfl
theorem mCons_ok {m : M Φ R} {t : M Φ (List D)} {r : R} {ds : List D} (h : m ρ φ = .ok r ρ1 φ1) (k : t ρ1 φ1 = .ok ds ρ2 φ2) : mCons m t ρ φ = .ok (r.d :: ds) ρ2 φ2 := by unfold mCons mB; rw [h]; dsimp only; rw [k]; rfl
theorem mCons1 {m : M Φ R} {r : R} (h : m ρ φ = .ok r ρ1 φ1) : mCons m mNil ρ φ = .ok [r.d] ρ1 φ1 := mCons_ok h rfl
theorem mBin_ok {f : D → D → M Φ R} {ma mb : M Φ R} {a b : R} (h : ma ρ φ = .ok a ρ1 φ1) (k : mb ρ1 φ1 = .ok b ρ2 φ2) : mBin f ma mb ρ φ = f a.d b.d ρ2 φ2 := by unfold mBin mB; rw [h]; dsimp only; rw [k]
theorem mUn_ok {f : D → M Φ R} {ma : M Φ R} {a : R} (h : ma ρ φ = .ok a ρ1 φ1) : mUn f ma ρ φ = f a.d ρ1 φ1 := by unfold mUn mB; rw [h]
theorem mTst_ok {m : M Φ R} {b : Bool} {r : R} (h : m ρ φ = .ok r ρ1 φ1) (e : r.d = .bl b) : mTst m ρ φ = .ok b ρ1 φ1 := by unfold mTst mB; rw [h]; dsimp only; rw [e]; rfl
theorem mNotT_ok {m : M Φ Bool} {b : Bool} (h : m ρ φ = .ok b ρ1 φ1) : mNotT m ρ φ = .ok (!b) ρ1 φ1 := by unfold mNotT mB; rw [h]; rfl
theorem mOrT_f {m n : M Φ Bool} (h : m ρ φ = .ok false ρ1 φ1) : mOrT m n ρ φ = n ρ1 φ1 := by unfold mOrT mB; rw [h]; rfl
theorem mOrT_t {m n : M Φ Bool} (h : m ρ φ = .ok true ρ1 φ1) : mOrT m n ρ φ = .ok true ρ1 φ1 := by unfold mOrT mB; rw [h]; rfl
theorem mAndT_f {m n : M Φ Bool} (h : m ρ φ = .ok false ρ1 φ1) : mAndT m n ρ φ = .ok false ρ1 φ1 := by unfold mAndT mB; rw [h]; rfl
theorem mAndT_t {m n : M Φ Bool} (h : m ρ φ = .ok true ρ1 φ1) : mAndT m n ρ φ = n ρ1 φ1 := by unfold mAndT mB; rw [h]; rfl
theorem mAnd_f {m n : M Φ R} {r : R} (h : m ρ φ = .ok r ρ1 φ1) (e : r.d = .bl false) : mAnd m n ρ φ = .ok (.val (.bl false)) ρ1 φ1 := by unfold mAnd mB; rw [h]; dsimp only; rw [e]; rfl
theorem mAnd_t {m n : M Φ R} {r : R} (h : m ρ φ = .ok r ρ1 φ1) (e : r.d = .bl true) : mAnd m n ρ φ = n ρ1 φ1 := by unfold mAnd mB; rw [h]; dsimp only; rw [e]
theorem mOr_f {m n : M Φ R} {r : R} (h : m ρ φ = .ok r ρ1 φ1) (e : r.d = .bl false) : mOr m n ρ φ = n ρ1 φ1 := by unfold mOr mB; rw [h]; dsimp only; rw [e]
theorem mOr_t {m n : M Φ R} {r : R} (h : m ρ φ = .ok r ρ1 φ1) (e : r.d = .bl true) : mOr m n ρ φ = .ok (.val (.bl true)) ρ1 φ1 := by unfold mOr mB; rw [h]; dsimp only; rw [e]; rfl
theorem runF_rt {N : Nat} {m : M Φ Fl} {ds : List D} {r : R} (h : m (ds.map Sl.val ++ List.replicate (N - ds.length) Sl.emp) φ = .ok (.rt r) ρ1 φ1) : runF N m ds φ = .ok r φ1 := by unfold runF; rw [h]
theorem runF_err {N : Nat} {m : M Φ Fl} {ds : List D} {c : Str} {es : List D} (h : m (ds.map Sl.val ++ List.replicate (N - ds.length) Sl.emp) φ = .err c es ρ1 φ1) : runF N m ds φ = .err c es φ1 := by unfold runF; rw [h]
theorem mLc_map {p : Pat} {vs : List Nat} {mi : M Φ (List D)} {te : M Φ R} {ds : List D} (hm : mi ρ φ = .ok ds ρ1 φ1) (r : D → D) (hl : ds.length ≤ 16777216) (hn : noOwn ρ1 vs = true)
    (h : ∀ d, d ∈ ds → ∃ ρd, patSet p d (wipeR ρ1 vs) = some ρd ∧ wipeR ρd vs = wipeR ρ1 vs ∧ ∃ x, te ρd φ1 = .ok x ρd φ1 ∧ x.d = r d) :
    mLc p vs mi mYes te ρ φ = .ok (.new (ds.map r)) (backR ρ1 (wipeR ρ1 vs) vs) φ1 := by
  unfold mLc
  rw [mB_ok hm, mLcD_map r hl hn h]
theorem mLc_fil {p : Pat} {vs : List Nat} {mi : M Φ (List D)} {tt : M Φ Bool} {te : M Φ R} {ds : List D} (hm : mi ρ φ = .ok ds ρ1 φ1) (b : D → Bool) (r : D → D) (hl : ds.length ≤ 16777216) (hn : noOwn ρ1 vs = true)
    (h : ∀ d, d ∈ ds → ∃ ρd, patSet p d (wipeR ρ1 vs) = some ρd ∧ wipeR ρd vs = wipeR ρ1 vs ∧ tt ρd φ1 = .ok (b d) ρd φ1 ∧ (b d = true → ∃ x, te ρd φ1 = .ok x ρd φ1 ∧ x.d = r d)) :
    mLc p vs mi tt te ρ φ = .ok (.new ((ds.filter b).map r)) (backR ρ1 (wipeR ρ1 vs) vs) φ1 := by
  unfold mLc
  rw [mB_ok hm, mLcD_pure b r hl hn h]
theorem mFor_ok {p : Pat} {m : M Φ Fl} {mi : M Φ (List D)} {ds : List D} {o : Out Φ Fl} (h : mi ρ φ = .ok ds ρ1 φ1) (k : mFor p m ds ρ1 φ1 = o) : mB mi (mFor p m) ρ φ = o := by rw [mB_ok h, k]
theorem mFor_nil {p : Pat} {m : M Φ Fl} : mFor p m [] ρ φ = .ok .nx ρ φ := rfl
theorem mFor_cons {p : Pat} {m : M Φ Fl} {d : D} {ds : List D} (h : patSet p d ρ = some ρ1) (k : m ρ1 φ = .ok .nx ρ2 φ2) : mFor p m (d :: ds) ρ φ = mFor p m ds ρ2 φ2 := by
  conv => lhs; unfold mFor
  rw [h]; dsimp only; rw [k]
theorem mFor_rt {p : Pat} {m : M Φ Fl} {d : D} {ds : List D} {r : R} (h : patSet p d ρ = some ρ1) (k : m ρ1 φ = .ok (.rt r) ρ2 φ2) : mFor p m (d :: ds) ρ φ = .ok (.rt r) ρ2 φ2 := by
  conv => lhs; unfold mFor
  rw [h]; dsimp only; rw [k]
theorem ixNn {n k : Nat} (h : k < n) : ixN n (k : Int) = some k := by
  unfold ixN
  rw [if_pos (by omega), if_pos (by omega), Int.toNat_natCast]
theorem atN {γ : Type} {xs : List γ} {k : Nat} {d : γ} (h : xs[k]? = some d) : L2.atI xs (k : Int) = some d := by
  have hk : k < xs.length := by
    rcases Nat.lt_or_ge k xs.length with h' | h'
    · exact h'
    · rw [List.getElem?_eq_none h'] at h; cases h
  unfold L2.atI
  rw [ixNn hk]
  exact h
/-- the last one -/
theorem atLast {γ : Type} {xs : List γ} {d : γ} (h : xs.getLast? = some d) : L2.atI xs (-1) = some d := by
  unfold L2.atI ixN
  have hl : 0 < xs.length := by
    cases xs with
    | nil => cases h
    | cons => simp
  rw [if_neg (by omega), if_pos (by omega)]
  show xs[((-1 : Int) + (xs.length : Int)).toNat]? = some d
  rw [show ((-1 : Int) + (xs.length : Int)).toNat = xs.length - 1 by omega, ← List.getLast?_eq_getElem?]
  exact h
theorem atInt {xs : List Int} {k : Nat} (h : k < xs.length) : L2.atI (xs.map D.int) (k : Int) = some (.int (xs.getD k 0)) := by
  refine atN ?_
  rw [List.getElem?_map, List.getElem?_eq_getElem h, List.getD_eq_getElem?_getD, List.getElem?_eq_getElem h]
  rfl
theorem ints_of : ∀ xs : List Int, asInts (xs.map D.int) = some xs
  | [] => rfl
  | x :: xs => by
    rw [List.map_cons]
    unfold asInts
    rw [ints_of xs]
    rfl
theorem prs_of : ∀ xs : List (Int × Int), asPrs (xs.map dPr) = some xs
  | [] => rfl
  | x :: xs => by
    rw [List.map_cons]
    unfold dPr asPrs
    rw [show xs.map (fun p => D.tup [.int p.1, .int p.2]) = xs.map dPr from rfl, prs_of xs]
    rfl
theorem bls_of : ∀ xs : List Bool, asBls (xs.map D.bl) = some xs
  | [] => rfl
  | x :: xs => by
    rw [List.map_cons]
    unfold asBls
    rw [bls_of xs]
    rfl
theorem ints_prs {p : Int × Int} {xs : List (Int × Int)} : asInts ((p :: xs).map dPr) = none := rfl
theorem dSum_l {xs : List Int} : dSum [.lst (xs.map D.int)] ρ φ = .ok (.val (.int xs.sum)) ρ φ := by
  unfold dSum; dsimp only; rw [ints_of]; rfl
theorem dSum_t {xs : List Int} : dSum [.tup (xs.map D.int)] ρ φ = .ok (.val (.int xs.sum)) ρ φ := by
  unfold dSum; dsimp only; rw [ints_of]; rfl
theorem dMax_l {xs : List Int} (h : xs ≠ []) : dMax [.lst (xs.map D.int)] ρ φ = .ok (.val (.int (maxI xs))) ρ φ := by
  unfold dMax; dsimp only; rw [ints_of]; dsimp only; rw [if_neg h]; rfl
theorem dMax_t {xs : List Int} (h : xs ≠ []) : dMax [.tup (xs.map D.int)] ρ φ = .ok (.val (.int (maxI xs))) ρ φ := by
  unfold dMax; dsimp only; rw [ints_of]; dsimp only; rw [if_neg h]; rfl
theorem dMin_l {xs : List Int} (h : xs ≠ []) : dMin [.lst (xs.map D.int)] ρ φ = .ok (.val (.int (minI xs))) ρ φ := by
  unfold dMin; dsimp only; rw [ints_of]; dsimp only; rw [if_neg h]; rfl
theorem dAll_l {xs : List Bool} : dAll [.lst (xs.map D.bl)] ρ φ = .ok (.val (.bl (xs.all id))) ρ φ := by
  unfold dAll; dsimp only; rw [bls_of]; rfl
theorem dSorted_t {xs : List Int} : dSorted [.tup (xs.map D.int)] ρ φ = .ok (.new ((srtI xs).map D.int)) ρ φ := by
  unfold dSorted; dsimp only; rw [ints_of]; rfl
theorem dSorted_p {p : Int × Int} {xs : List (Int × Int)} : dSorted [.lst ((p :: xs).map dPr)] ρ φ = .ok (.new ((srtP (p :: xs)).map dPr)) ρ φ := by
  unfold dSorted; dsimp only; rw [ints_prs]; dsimp only; rw [prs_of]; rfl
theorem maxI_in : ∀ {xs : List Int}, xs ≠ [] → maxI xs ∈ xs ∧ ∀ x, x ∈ xs → x ≤ maxI xs
  | [], h => absurd rfl h
  | [x], _ => by simp [maxI]
  | x :: y :: r, _ => by
    obtain ⟨h1, h2⟩ := maxI_in (xs := y :: r) (by simp)
    unfold maxI
    dsimp only
    split
    · exact ⟨List.mem_cons_of_mem _ h1, fun z hz => by
        rcases List.mem_cons.mp hz with rfl | hz
        · omega
        · exact h2 z hz⟩
    · exact ⟨List.mem_cons_self, fun z hz => by
        rcases List.mem_cons.mp hz with rfl | hz
        · omega
        · have := h2 z hz; omega⟩
theorem minI_in : ∀ {xs : List Int}, xs ≠ [] → minI xs ∈ xs ∧ ∀ x, x ∈ xs → minI xs ≤ x
  | [], h => absurd rfl h
  | [x], _ => by simp [minI]
  | x :: y :: r, _ => by
    obtain ⟨h1, h2⟩ := minI_in (xs := y :: r) (by simp)
    unfold minI
    dsimp only
    split
    · exact ⟨List.mem_cons_of_mem _ h1, fun z hz => by
        rcases List.mem_cons.mp hz with rfl | hz
        · omega
        · exact h2 z hz⟩
    · exact ⟨List.mem_cons_self, fun z hz => by
        rcases List.mem_cons.mp hz with rfl | hz
        · omega
        · have := h2 z hz; omega⟩
theorem maxI_of {xs : List Int} {m : Int} (h : m ∈ xs) (k : ∀ x, x ∈ xs → x ≤ m) : maxI xs = m := by
  obtain ⟨h1, h2⟩ := maxI_in (List.ne_nil_of_mem h)
  have := h2 m h
  have := k _ h1
  omega
/-! ### sizes -/
def Bd (e : Nat) (i : Int) : Prop := i.natAbs < 2 ^ e
theorem Bd.mono {e e' : Nat} {i : Int} (h : Bd e i) (k : e ≤ e') : Bd e' i := Nat.lt_of_lt_of_le h (Nat.pow_le_pow_right (by decide) k)
theorem Bd.add {e : Nat} {i j : Int} (h : Bd e i) (k : Bd e j) : Bd (e + 1) (i + j) := by
  unfold Bd at *
  rw [Nat.pow_succ]
  omega
theorem Bd.sub {e : Nat} {i j : Int} (h : Bd e i) (k : Bd e j) : Bd (e + 1) (i - j) := by
  unfold Bd at *
  rw [Nat.pow_succ]
  omega
theorem Bd.mul {e e' : Nat} {i j : Int} (h : Bd e i) (k : Bd e' j) : Bd (e + e') (i * j) := by
  unfold Bd at *
  rw [Int.natAbs_mul, Nat.pow_add]
  exact Nat.mul_lt_mul_of_lt_of_lt h k
theorem Bd.of_le {e : Nat} {i j : Int} (h : Bd e j) (h0 : 0 ≤ i) (k : i ≤ j) : Bd e i := by
  unfold Bd at *
  omega
theorem Bd.cMul {e e' : Nat} {i j : Int} (h : Bd e i) (k : Bd e' j) (q : e + e' < 1000000) : cMul i j := by
  refine .inl ?_
  have h1 : i.natAbs.log2 ≤ e := by
    by_cases z : i.natAbs = 0
    · rw [z]; exact Nat.zero_le _
    · exact Nat.le_of_lt ((Nat.log2_lt z).mpr h)
  have h2 : j.natAbs.log2 ≤ e' := by
    by_cases z : j.natAbs = 0
    · rw [z]; exact Nat.zero_le _
    · exact Nat.le_of_lt ((Nat.log2_lt z).mpr k)
  omega
theorem Bd.sum {e : Nat} : ∀ {l : List Int}, (∀ x, x ∈ l → Bd e x) → l.length ≤ 64 → Bd (e + 6) l.sum := by
  have key : ∀ l : List Int, (∀ x, x ∈ l → Bd e x) → l.sum.natAbs ≤ l.length * (2 ^ e - 1) := by
    intro l
    induction l with
    | nil => intro _; simp
    | cons x l ih =>
      intro h
      have h1 := ih fun y hy => h y (List.mem_cons_of_mem _ hy)
      have h2 := h x List.mem_cons_self
      unfold Bd at h2
      rw [List.sum_cons, List.length_cons, Nat.succ_mul]
      omega
  intro l h hl
  have h1 := key l h
  have h2 := Nat.mul_le_mul_right (2 ^ e - 1) hl
  have h3 : 0 < 2 ^ e := Nat.pow_pos (by decide)
  unfold Bd
  rw [Nat.pow_add]
  omega
end DN
namespace DN
open PySem PySem.Spec L2
open PyProof.Rows hiding St
variable {Φ : Type} {ρ : List Sl} {φ : Φ}
/-! ### running what is written, by simp -/
theorem eqD_int (a b : Int) : eqD (.int a) (.int b) = some (decide (a = b)) := by kernel_rfl
@[simp] theorem x_dEq (a b : Int) : (dEq (.int a) (.int b) : M Φ R) ρ φ = .ok (.val (.bl (decide (a = b)))) ρ φ := by unfold dEq; rw [eqD_int]; rfl
@[simp] theorem x_dNe (a b : Int) : (dNe (.int a) (.int b) : M Φ R) ρ φ = .ok (.val (.bl (!decide (a = b)))) ρ φ := by unfold dNe; rw [eqD_int]; rfl
/-! frames: what is left to do with what has run through -/
section
variable {α β : Type}
def kB (k : α → M Φ β) (o : Out Φ α) : Out Φ β := match o with
  | .ok a ρ φ => k a ρ φ
  | .err c es ρ φ => .err c es ρ φ
  | .stuck => .stuck
@[simp] theorem kB_ok (k : α → M Φ β) {a : α} : kB k (.ok a ρ φ) = k a ρ φ := id rfl
@[simp] theorem kB_err (k : α → M Φ β) {c : Str} {es : List D} : kB k (.err c es ρ φ) = .err c es ρ φ := id rfl
@[simp] theorem x_b {m : M Φ α} {k : α → M Φ β} : mB m k ρ φ = kB k (m ρ φ) := id rfl
end
def kSeq (n : M Φ Fl) (o : Out Φ Fl) : Out Φ Fl := match o with
  | .ok .nx ρ1 φ1 => n ρ1 φ1
  | .ok .bk ρ1 φ1 => .ok .bk ρ1 φ1
  | .ok .ct ρ1 φ1 => .ok .ct ρ1 φ1
  | .ok (.rt r) ρ1 φ1 => .ok (.rt r) ρ1 φ1
  | .err c es ρ1 φ1 => .err c es ρ1 φ1
  | .stuck => .stuck
@[simp] theorem kSeq_nx (n : M Φ Fl) : kSeq n (.ok .nx ρ φ) = n ρ φ := id rfl
@[simp] theorem kSeq_rt (n : M Φ Fl) {r : R} : kSeq n (.ok (.rt r) ρ φ) = .ok (.rt r) ρ φ := id rfl
@[simp] theorem kSeq_bk (n : M Φ Fl) : kSeq n (.ok .bk ρ φ) = .ok .bk ρ φ := id rfl
@[simp] theorem kSeq_ct (n : M Φ Fl) : kSeq n (.ok .ct ρ φ) = .ok .ct ρ φ := id rfl
@[simp] theorem kSeq_err (n : M Φ Fl) {c : Str} {es : List D} : kSeq n (.err c es ρ φ) = .err c es ρ φ := id rfl
@[simp] theorem x_seq {m n : M Φ Fl} : mSeq m n ρ φ = kSeq n (m ρ φ) := id rfl
@[simp] theorem x_v {d : D} : (mV d : M Φ R) ρ φ = .ok (.val d) ρ φ := id rfl
@[simp] theorem x_p {α : Type} {a : α} : (mP a : M Φ α) ρ φ = .ok a ρ φ := id rfl
def kAsg (i : Nat) (o : Out Φ R) : Out Φ Fl := match o with
  | .ok a ρ φ => .ok .nx (ρ.set i (slOf a)) φ
  | .err c es ρ φ => .err c es ρ φ
  | .stuck => .stuck
@[simp] theorem kAsg_ok (i : Nat) {a : R} : kAsg i (.ok a ρ φ) = .ok .nx (ρ.set i (slOf a)) φ := id rfl
@[simp] theorem kAsg_err (i : Nat) {c : Str} {es : List D} : kAsg i (.err c es ρ φ) = .err c es ρ φ := id rfl
@[simp] theorem x_asg {i : Nat} {m : M Φ R} : mAsg i m ρ φ = kAsg i (m ρ φ) := by unfold mAsg mB kAsg; cases m ρ φ <;> rfl
def kBin2 (f : D → D → M Φ R) (d : D) (o : Out Φ R) : Out Φ R := match o with
  | .ok a ρ φ => f d a.d ρ φ
  | .err c es ρ φ => .err c es ρ φ
  | .stuck => .stuck
@[simp] theorem kBin2_ok (f : D → D → M Φ R) (d : D) {a : R} : kBin2 f d (.ok a ρ φ) = f d a.d ρ φ := id rfl
@[simp] theorem kBin2_err (f : D → D → M Φ R) (d : D) {c : Str} {es : List D} : kBin2 f d (.err c es ρ φ) = .err c es ρ φ := id rfl
def kBin (f : D → D → M Φ R) (mb : M Φ R) (o : Out Φ R) : Out Φ R := match o with
  | .ok a ρ φ => kBin2 f a.d (mb ρ φ)
  | .err c es ρ φ => .err c es ρ φ
  | .stuck => .stuck
@[simp] theorem kBin_ok (f : D → D → M Φ R) (mb : M Φ R) {a : R} : kBin f mb (.ok a ρ φ) = kBin2 f a.d (mb ρ φ) := id rfl
@[simp] theorem kBin_err (f : D → D → M Φ R) (mb : M Φ R) {c : Str} {es : List D} : kBin f mb (.err c es ρ φ) = .err c es ρ φ := id rfl
@[simp] theorem x_bin {f : D → D → M Φ R} {ma mb : M Φ R} : mBin f ma mb ρ φ = kBin f mb (ma ρ φ) := by
  unfold mBin mB kBin
  cases ma ρ φ with
  | ok a ρ1 φ1 => dsimp only; unfold kBin2; cases mb ρ1 φ1 <;> rfl
  | err => rfl
  | stuck => rfl
def kUn (f : D → M Φ R) (o : Out Φ R) : Out Φ R := match o with
  | .ok a ρ φ => f a.d ρ φ
  | .err c es ρ φ => .err c es ρ φ
  | .stuck => .stuck
@[simp] theorem kUn_ok (f : D → M Φ R) {a : R} : kUn f (.ok a ρ φ) = f a.d ρ φ := id rfl
@[simp] theorem kUn_err (f : D → M Φ R) {c : Str} {es : List D} : kUn f (.err c es ρ φ) = .err c es ρ φ := id rfl
@[simp] theorem x_un {f : D → M Φ R} {ma : M Φ R} : mUn f ma ρ φ = kUn f (ma ρ φ) := by unfold mUn mB kUn; cases ma ρ φ <;> rfl
def kTst (o : Out Φ R) : Out Φ Bool := match o with
  | .ok a ρ φ => (match a.d with
    | .bl b => .ok b ρ φ
    | _ => .stuck)
  | .err c es ρ φ => .err c es ρ φ
  | .stuck => .stuck
@[simp] theorem kTst_bl {b : Bool} : kTst (.ok (.val (.bl b)) ρ φ) = .ok b ρ φ := id rfl
@[simp] theorem x_tst {m : M Φ R} : mTst m ρ φ = kTst (m ρ φ) := by
  unfold mTst mB kTst
  cases m ρ φ with
  | ok r ρ1 φ1 => dsimp only; cases r.d <;> rfl
  | err => rfl
  | stuck => rfl
def kIfS (m n : M Φ Fl) (o : Out Φ Bool) : Out Φ Fl := match o with
  | .ok true ρ φ => m ρ φ
  | .ok false ρ φ => n ρ φ
  | .err c es ρ φ => .err c es ρ φ
  | .stuck => .stuck
@[simp] theorem kIfS_t (m n : M Φ Fl) : kIfS m n (.ok true ρ φ) = m ρ φ := id rfl
@[simp] theorem kIfS_f (m n : M Φ Fl) : kIfS m n (.ok false ρ φ) = n ρ φ := id rfl
@[simp] theorem x_ifs {t : M Φ Bool} {m n : M Φ Fl} : mIfS t m n ρ φ = kIfS m n (t ρ φ) := by
  unfold mIfS
  rw [x_b]
  cases t ρ φ with
  | ok b ρ1 φ1 => cases b <;> rfl
  | err => rfl
  | stuck => rfl
def kIf (m n : M Φ R) (o : Out Φ Bool) : Out Φ R := match o with
  | .ok true ρ φ => m ρ φ
  | .ok false ρ φ => n ρ φ
  | .err c es ρ φ => .err c es ρ φ
  | .stuck => .stuck
@[simp] theorem kIf_t (m n : M Φ R) : kIf m n (.ok true ρ φ) = m ρ φ := id rfl
@[simp] theorem kIf_f (m n : M Φ R) : kIf m n (.ok false ρ φ) = n ρ φ := id rfl
@[simp] theorem x_if {t : M Φ Bool} {m n : M Φ R} : mIf t m n ρ φ = kIf m n (t ρ φ) := by
  unfold mIf
  rw [x_b]
  cases t ρ φ with
  | ok b ρ1 φ1 => cases b <;> rfl
  | err => rfl
  | stuck => rfl
def kAndT (n : M Φ Bool) (o : Out Φ Bool) : Out Φ Bool := match o with
  | .ok true ρ φ => n ρ φ
  | .ok false ρ φ => .ok false ρ φ
  | .err c es ρ φ => .err c es ρ φ
  | .stuck => .stuck
@[simp] theorem kAndT_t (n : M Φ Bool) : kAndT n (.ok true ρ φ) = n ρ φ := id rfl
@[simp] theorem kAndT_f (n : M Φ Bool) : kAndT n (.ok false ρ φ) = .ok false ρ φ := id rfl
@[simp] theorem x_andT {m n : M Φ Bool} : mAndT m n ρ φ = kAndT n (m ρ φ) := by
  unfold mAndT
  rw [x_b]
  cases m ρ φ with
  | ok b ρ1 φ1 => cases b <;> rfl
  | err => rfl
  | stuck => rfl
def kOrT (n : M Φ Bool) (o : Out Φ Bool) : Out Φ Bool := match o with
  | .ok true ρ φ => .ok true ρ φ
  | .ok false ρ φ => n ρ φ
  | .err c es ρ φ => .err c es ρ φ
  | .stuck => .stuck
@[simp] theorem kOrT_t (n : M Φ Bool) : kOrT n (.ok true ρ φ) = .ok true ρ φ := id rfl
@[simp] theorem kOrT_f (n : M Φ Bool) : kOrT n (.ok false ρ φ) = n ρ φ := id rfl
@[simp] theorem x_orT {m n : M Φ Bool} : mOrT m n ρ φ = kOrT n (m ρ φ) := by
  unfold mOrT
  rw [x_b]
  cases m ρ φ with
  | ok b ρ1 φ1 => cases b <;> rfl
  | err => rfl
  | stuck => rfl
def kAnd (n : M Φ R) (o : Out Φ R) : Out Φ R := match o with
  | .ok a ρ φ => mAnd (fun _ _ => .ok a ρ φ) n ρ φ
  | .err c es ρ φ => .err c es ρ φ
  | .stuck => .stuck
@[simp] theorem kAnd_t (n : M Φ R) : kAnd n (.ok (.val (.bl true)) ρ φ) = n ρ φ := id rfl
@[simp] theorem kAnd_f (n : M Φ R) : kAnd n (.ok (.val (.bl false)) ρ φ) = .ok (.val (.bl false)) ρ φ := id rfl
@[simp] theorem x_and {m n : M Φ R} : mAnd m n ρ φ = kAnd n (m ρ φ) := by
  cases e : m ρ φ with
  | ok a ρ1 φ1 => unfold kAnd mAnd mB; rw [e]
  | err => unfold kAnd mAnd mB; rw [e]
  | stuck => unfold kAnd mAnd mB; rw [e]
def kOr (n : M Φ R) (o : Out Φ R) : Out Φ R := match o with
  | .ok a ρ φ => mOr (fun _ _ => .ok a ρ φ) n ρ φ
  | .err c es ρ φ => .err c es ρ φ
  | .stuck => .stuck
@[simp] theorem kOr_t (n : M Φ R) : kOr n (.ok (.val (.bl true)) ρ φ) = .ok (.val (.bl true)) ρ φ := id rfl
@[simp] theorem kOr_f (n : M Φ R) : kOr n (.ok (.val (.bl false)) ρ φ) = n ρ φ := id rfl
@[simp] theorem x_or {m n : M Φ R} : mOr m n ρ φ = kOr n (m ρ φ) := by
  cases e : m ρ φ with
  | ok a ρ1 φ1 => unfold kOr mOr mB; rw [e]
  | err => unfold kOr mOr mB; rw [e]
  | stuck => unfold kOr mOr mB; rw [e]
def kNot (o : Out Φ Bool) : Out Φ Bool := match o with
  | .ok a ρ φ => .ok (!a) ρ φ
  | .err c es ρ φ => .err c es ρ φ
  | .stuck => .stuck
@[simp] theorem kNot_ok {a : Bool} : kNot (.ok a ρ φ) = .ok (!a) ρ φ := id rfl
@[simp] theorem kNot_err {c : Str} {es : List D} : kNot (.err c es ρ φ) = .err c es ρ φ := id rfl
@[simp] theorem x_notT {m : M Φ Bool} : mNotT m ρ φ = kNot (m ρ φ) := by unfold mNotT mB kNot; cases m ρ φ <;> rfl
def kCons2 (d : D) (o : Out Φ (List D)) : Out Φ (List D) := match o with
  | .ok a ρ φ => .ok (d :: a) ρ φ
  | .err c es ρ φ => .err c es ρ φ
  | .stuck => .stuck
@[simp] theorem kCons2_ok (d : D) {a : (List D)} : kCons2 d (.ok a ρ φ) = .ok (d :: a) ρ φ := id rfl
@[simp] theorem kCons2_err (d : D) {c : Str} {es : List D} : kCons2 d (.err c es ρ φ) = .err c es ρ φ := id rfl
def kCons (t : M Φ (List D)) (o : Out Φ R) : Out Φ (List D) := match o with
  | .ok a ρ φ => kCons2 a.d (t ρ φ)
  | .err c es ρ φ => .err c es ρ φ
  | .stuck => .stuck
@[simp] theorem kCons_ok (t : M Φ (List D)) {a : R} : kCons t (.ok a ρ φ) = kCons2 a.d (t ρ φ) := id rfl
@[simp] theorem kCons_err (t : M Φ (List D)) {c : Str} {es : List D} : kCons t (.err c es ρ φ) = .err c es ρ φ := id rfl
@[simp] theorem x_nil : (mNil : M Φ (List D)) ρ φ = .ok [] ρ φ := id rfl
@[simp] theorem x_cons {m : M Φ R} {t : M Φ (List D)} : mCons m t ρ φ = kCons t (m ρ φ) := by
  unfold mCons mB kCons
  cases m ρ φ with
  | ok a ρ1 φ1 => dsimp only; unfold kCons2; cases t ρ1 φ1 <;> rfl
  | err => rfl
  | stuck => rfl
def kRes (ρ : List Sl) (o : Res Φ) : Out Φ R := match o with
  | .ok r φ' => .ok r ρ φ'
  | .err c es φ' => .err c es ρ φ'
  | .stuck => .stuck
@[simp] theorem kRes_ok {r : R} : kRes ρ (.ok r φ) = .ok r ρ φ := id rfl
@[simp] theorem kRes_err {c : Str} {es : List D} : kRes ρ (.err c es φ) = .err c es ρ φ := id rfl
def kCall (f : Fn Φ) (o : Out Φ (List D)) : Out Φ R := match o with
  | .ok a ρ φ => kRes ρ (f a φ)
  | .err c es ρ φ => .err c es ρ φ
  | .stuck => .stuck
@[simp] theorem kCall_ok (f : Fn Φ) {a : (List D)} : kCall f (.ok a ρ φ) = kRes ρ (f a φ) := id rfl
@[simp] theorem kCall_err (f : Fn Φ) {c : Str} {es : List D} : kCall f (.err c es ρ φ) = .err c es ρ φ := id rfl
@[simp] theorem x_call {f : Fn Φ} {t : M Φ (List D)} : mCall f t ρ φ = kCall f (t ρ φ) := by
  unfold mCall mB kCall
  cases t ρ φ with
  | ok a ρ1 φ1 => dsimp only; unfold kRes; cases f a φ1 <;> rfl
  | err => rfl
  | stuck => rfl
def kCallK (f : Fn Φ) (ix : List Nat) (o : Out Φ (List D)) : Out Φ R := match o with
  | .ok a ρ φ => kRes ρ (f (perm ix a) φ)
  | .err c es ρ φ => .err c es ρ φ
  | .stuck => .stuck
@[simp] theorem kCallK_ok (f : Fn Φ) (ix : List Nat) {a : (List D)} : kCallK f ix (.ok a ρ φ) = kRes ρ (f (perm ix a) φ) := id rfl
@[simp] theorem kCallK_err (f : Fn Φ) (ix : List Nat) {c : Str} {es : List D} : kCallK f ix (.err c es ρ φ) = .err c es ρ φ := id rfl
@[simp] theorem x_callK {f : Fn Φ} {ix : List Nat} {t : M Φ (List D)} : mCallK f ix t ρ φ = kCallK f ix (t ρ φ) := by
  unfold mCallK mCall mB kCallK
  cases t ρ φ with
  | ok a ρ1 φ1 => dsimp only; unfold kRes; cases f (perm ix a) φ1 <;> rfl
  | err => rfl
  | stuck => rfl
def kRet (o : Out Φ R) : Out Φ Fl := match o with
  | .ok a ρ φ => .ok (.rt a) ρ φ
  | .err c es ρ φ => .err c es ρ φ
  | .stuck => .stuck
@[simp] theorem kRet_ok {a : R} : kRet (.ok a ρ φ) = .ok (.rt a) ρ φ := id rfl
@[simp] theorem kRet_err {c : Str} {es : List D} : kRet (.err c es ρ φ) = .err c es ρ φ := id rfl
@[simp] theorem x_ret {m : M Φ R} : mRet m ρ φ = kRet (m ρ φ) := by unfold mRet mB kRet; cases m ρ φ <;> rfl
def kDrop (o : Out Φ R) : Out Φ Fl := match o with
  | .ok a ρ φ => .ok .nx ρ φ
  | .err c es ρ φ => .err c es ρ φ
  | .stuck => .stuck
@[simp] theorem kDrop_ok {a : R} : kDrop (.ok a ρ φ) = .ok .nx ρ φ := id rfl
@[simp] theorem kDrop_err {c : Str} {es : List D} : kDrop (.err c es ρ φ) = .err c es ρ φ := id rfl
@[simp] theorem x_drop {m : M Φ R} : mDrop m ρ φ = kDrop (m ρ φ) := by unfold mDrop mB kDrop; cases m ρ φ <;> rfl
theorem x_var_val {i : Nat} {d : D} (h : ρ[i]? = some (.val d)) : (mVar i : M Φ R) ρ φ = .ok (.val d) ρ φ := by unfold mVar; rw [h]
theorem x_var_own {i : Nat} {ds : List D} (h : ρ[i]? = some (.own ds)) : (mVar i : M Φ R) ρ φ = .ok (.val (.lst ds)) (ρ.set i (.val (.lst ds))) φ := by unfold mVar; rw [h]
/-! names, by their place -/
@[simp] theorem rd_val {d : D} : (R.val d).d = d := id rfl
@[simp] theorem rd_new {ds : List D} : (R.new ds).d = .lst ds := id rfl
@[simp] theorem sl_val {d : D} : slOf (.val d) = .val d := id rfl
@[simp] theorem sl_new {ds : List D} : slOf (.new ds) = .own ds := id rfl
@[simp] theorem isN_int {i : Int} : isN (.int i) = false := id rfl
@[simp] theorem isN_non : isN .non = true := id rfl
@[simp] theorem isN_tup {ds : List D} : isN (.tup ds) = false := id rfl
@[simp] theorem isN_str {x : Str} : isN (.str x) = false := id rfl
@[simp] theorem isN_bl {b : Bool} : isN (.bl b) = false := id rfl
@[simp] theorem isN_lst {ds : List D} : isN (.lst ds) = false := id rfl
def varS (o : Option Sl) (i : Nat) (ρ : List Sl) (φ : Φ) : Out Φ R := match o with
  | some (.val d) => .ok (.val d) ρ φ
  | some (.own ds) => .ok (.val (.lst ds)) (ρ.set i (.val (.lst ds))) φ
  | _ => .stuck
@[simp] theorem x_var {i : Nat} : (mVar i : M Φ R) ρ φ = varS ρ[i]? i ρ φ := id rfl
@[simp] theorem varS_val {d : D} {i : Nat} : (varS (some (.val d)) i ρ φ : Out Φ R) = .ok (.val d) ρ φ := id rfl
@[simp] theorem varS_own {ds : List D} {i : Nat} : (varS (some (.own ds)) i ρ φ : Out Φ R) = .ok (.val (.lst ds)) (ρ.set i (.val (.lst ds))) φ := id rfl
def lenS (o : Option Sl) (ρ : List Sl) (φ : Φ) : Out Φ R := match o with
  | some (.val d) => dLen [d] ρ φ
  | some (.own ds) => .ok (.val (.int ds.length)) ρ φ
  | _ => .stuck
@[simp] theorem x_lenv {i : Nat} : (mLenV i : M Φ R) ρ φ = lenS ρ[i]? ρ φ := id rfl
@[simp] theorem lenS_tup {ds : List D} : (lenS (some (.val (.tup ds))) ρ φ : Out Φ R) = .ok (.val (.int ds.length)) ρ φ := id rfl
@[simp] theorem lenS_lst {ds : List D} : (lenS (some (.val (.lst ds))) ρ φ : Out Φ R) = .ok (.val (.int ds.length)) ρ φ := id rfl
@[simp] theorem lenS_own {ds : List D} : (lenS (some (.own ds)) ρ φ : Out Φ R) = .ok (.val (.int ds.length)) ρ φ := id rfl
/-- x[k] of a name -/
def ixS (i : Nat) (o : Out Φ R) : Out Φ R := match o with
  | .ok k ρ1 φ1 => (match ρ1[i]?, k.d with
    | some (.own ds), .int z => (match L2.atI ds z with
      | some d => .ok (.val d) ρ1 φ1
      | none => .stuck)
    | _, _ => .stuck)
  | .err c es ρ φ => .err c es ρ φ
  | .stuck => .stuck
def ixV (o : Option Sl) (i : Nat) (m : M Φ R) (ρ : List Sl) (φ : Φ) : Out Φ R := match o with
  | some (.val d) => kUn (dIx d) (m ρ φ)
  | some (.own _) => ixS i (m ρ φ)
  | _ => .stuck
@[simp] theorem x_ixv {i : Nat} {m : M Φ R} : mIxV i m ρ φ = ixV ρ[i]? i m ρ φ := by
  unfold mIxV ixV
  cases ρ[i]? with
  | none => rfl
  | some s =>
    cases s with
    | val d => dsimp only; unfold mB kUn; cases m ρ φ <;> rfl
    | own ds => dsimp only; unfold mB ixS; cases m ρ φ <;> rfl
    | emp => rfl
@[simp] theorem ixV_val {d : D} {i : Nat} {m : M Φ R} : ixV (some (.val d)) i m ρ φ = kUn (dIx d) (m ρ φ) := id rfl
@[simp] theorem ixV_own {ds : List D} {i : Nat} {m : M Φ R} : ixV (some (.own ds)) i m ρ φ = ixS i (m ρ φ) := id rfl
def atS (o : Option D) (ρ : List Sl) (φ : Φ) : Out Φ R := match o with
  | some d => .ok (.val d) ρ φ
  | none => .stuck
@[simp] theorem atS_some {d : D} : (atS (some d) ρ φ : Out Φ R) = .ok (.val d) ρ φ := id rfl
@[simp] theorem x_ixT {ds : List D} {z : Int} : (dIx (.tup ds) (.int z) : M Φ R) ρ φ = atS (L2.atI ds z) ρ φ := by
  unfold dIx atS; dsimp only; cases L2.atI ds z <;> rfl
@[simp] theorem x_ixL {ds : List D} {z : Int} : (dIx (.lst ds) (.int z) : M Φ R) ρ φ = atS (L2.atI ds z) ρ φ := by
  unfold dIx atS; dsimp only; cases L2.atI ds z <;> rfl
def ixO (o : Option Sl) (z : D) (ρ : List Sl) (φ : Φ) : Out Φ R := match o, z with
  | some (.own ds), .int z => atS (L2.atI ds z) ρ φ
  | _, _ => .stuck
@[simp] theorem ixS_ok {i : Nat} {k : R} : ixS i (.ok k ρ φ) = ixO ρ[i]? k.d ρ φ := by
  unfold ixS ixO
  dsimp only
  cases ρ[i]? with
  | none => cases k.d <;> rfl
  | some s =>
    cases s with
    | own ds =>
      cases k.d with
      | int z => dsimp only; cases L2.atI ds z <;> rfl
      | _ => rfl
    | _ => cases k.d <;> rfl
@[simp] theorem ixO_own {ds : List D} {z : Int} : (ixO (some (.own ds)) (.int z) ρ φ : Out Φ R) = atS (L2.atI ds z) ρ φ := id rfl
/-- x.append(..) -/
def appO (o : Option Sl) (i : Nat) (d : D) (ρ : List Sl) (φ : Φ) : Out Φ R := match o with
  | some (.own ds) => if ds.length < 16777216 then .ok (.val .non) (ρ.set i (.own (ds ++ [d]))) φ else .stuck
  | _ => .stuck
def kApp (i : Nat) (o : Out Φ R) : Out Φ R := match o with
  | .ok a ρ φ => appO ρ[i]? i a.d ρ φ
  | .err c es ρ φ => .err c es ρ φ
  | .stuck => .stuck
def appS (o : Option Sl) (i : Nat) (m : M Φ R) (ρ : List Sl) (φ : Φ) : Out Φ R := match o with
  | some (.own _) => kApp i (m ρ φ)
  | _ => .stuck
@[simp] theorem x_app {i : Nat} {m : M Φ R} : mApp i m ρ φ = appS ρ[i]? i m ρ φ := by
  unfold mApp appS
  cases ρ[i]? with
  | none => rfl
  | some s =>
    cases s with
    | own ds =>
      unfold mB kApp
      cases m ρ φ with
      | ok r ρ1 φ1 =>
        dsimp only
        unfold appO
        cases ρ1[i]? with
        | none => rfl
        | some s => cases s <;> rfl
      | err => rfl
      | stuck => rfl
    | _ => rfl
@[simp] theorem appS_own {ds : List D} {i : Nat} {m : M Φ R} : appS (some (.own ds)) i m ρ φ = kApp i (m ρ φ) := id rfl
@[simp] theorem kApp_ok {i : Nat} {r : R} : kApp i (.ok r ρ φ) = appO ρ[i]? i r.d ρ φ := id rfl
theorem appO_own {ds : List D} {i : Nat} {d : D} (h : ds.length < 16777216) : (appO (some (.own ds)) i d ρ φ : Out Φ R) = .ok (.val .non) (ρ.set i (.own (ds ++ [d]))) φ := by unfold appO; dsimp only; rw [if_pos h]
theorem x_fun {N : Nat} {m : M Φ Fl} {ds : List D} {r : R} {ρ1 : List Sl} {φ1 : Φ} (h : m (ds.map Sl.val ++ List.replicate (N - ds.length) Sl.emp) φ = .ok (.rt r) ρ1 φ1) : runF N m ds φ = .ok r φ1 := runF_rt h
@[simp] theorem x_add (i j : Int) : (dAdd (.int i) (.int j) : M Φ R) ρ φ = .ok (.val (.int (i + j))) ρ φ := id rfl
@[simp] theorem x_sub (i j : Int) : (dSub (.int i) (.int j) : M Φ R) ρ φ = .ok (.val (.int (i - j))) ρ φ := id rfl
@[simp] theorem x_lt (i j : Int) : (dLt (.int i) (.int j) : M Φ R) ρ φ = .ok (.val (.bl (decide (i < j)))) ρ φ := id rfl
@[simp] theorem x_le (i j : Int) : (dLe (.int i) (.int j) : M Φ R) ρ φ = .ok (.val (.bl (decide (i ≤ j)))) ρ φ := id rfl
@[simp] theorem x_gt (i j : Int) : (dGt (.int i) (.int j) : M Φ R) ρ φ = .ok (.val (.bl (decide (j < i)))) ρ φ := id rfl
@[simp] theorem x_ge (i j : Int) : (dGe (.int i) (.int j) : M Φ R) ρ φ = .ok (.val (.bl (decide (j ≤ i)))) ρ φ := id rfl
theorem x_mod {i j : Int} (h : 0 < j) : (dMod (.int i) (.int j) : M Φ R) ρ φ = .ok (.val (.int (i % j))) ρ φ := by
  show (if cPos i j then (mP (.val (.int (i % j))) : M Φ R) else mS) ρ φ = _
  rw [if_pos (show cPos i j from h)]; rfl
theorem x_div {i j : Int} (h : cDiv i j) : (dDiv (.int i) (.int j) : M Φ R) ρ φ = .ok (.val (.int (i / j))) ρ φ := by
  show (if cDiv i j then (mP (.val (.int (i / j))) : M Φ R) else mS) ρ φ = _
  rw [if_pos h]; rfl
theorem x_mul {i j : Int} (h : cMul i j) : (dMul (.int i) (.int j) : M Φ R) ρ φ = .ok (.val (.int (i * j))) ρ φ := by
  show (if cMul i j then (mP (.val (.int (i * j))) : M Φ R) else mS) ρ φ = _
  rw [if_pos h]; rfl
@[simp] theorem x_neg (i : Int) : (dNeg (.int i) : M Φ R) ρ φ = .ok (.val (.int (-i))) ρ φ := id rfl
@[simp] theorem x_int (i : Int) : (dInt [.int i] : M Φ R) ρ φ = .ok (.val (.int i)) ρ φ := id rfl
theorem x_lst {ds : List D} (h : ds.length ≤ 16777216) : (dLst ds : M Φ R) ρ φ = .ok (.new ds) ρ φ := by unfold dLst; rw [if_pos h]; rfl
theorem x_tup {ds : List D} (h : ds.length ≤ 16777216) : (dTup ds : M Φ R) ρ φ = .ok (.val (.tup ds)) ρ φ := by unfold dTup; rw [if_pos h]; rfl
@[simp] theorem x_tupL {ds : List D} : (dTuple [.lst ds] : M Φ R) ρ φ = .ok (.val (.tup ds)) ρ φ := id rfl
@[simp] theorem x_lstT {ds : List D} : (dList [.tup ds] : M Φ R) ρ φ = .ok (.new ds) ρ φ := id rfl
@[simp] theorem x_isN {d : D} : (dIsN d : M Φ R) ρ φ = .ok (.val (.bl (isN d))) ρ φ := id rfl
@[simp] theorem x_notN {d : D} : (dNotN d : M Φ R) ρ φ = .ok (.val (.bl (!isN d))) ρ φ := id rfl
/-- the numbers of a mul by a written small one -/
theorem cm_l {i j : Int} (h : i.natAbs < 2 ^ 60) : cMul i j := .inr (.inl (by
  unfold Builtin.Int.intBits
  split
  · omega
  · rename_i z
    have : i.natAbs.log2 < 60 := (Nat.log2_lt (by simp at z; omega)).mpr h
    omega))
theorem cm_r {i j : Int} (h : j.natAbs < 2 ^ 60) : cMul i j := .inr (.inr (by
  unfold Builtin.Int.intBits
  split
  · omega
  · rename_i z
    have : j.natAbs.log2 < 60 := (Nat.log2_lt (by simp at z; omega)).mpr h
    omega))
theorem cd_s {i j : Int} (h : 0 < j) (k : j.natAbs < 2 ^ 1000) : cDiv i j := ⟨h, by
  have : j.natAbs.log2 < 1000 := (Nat.log2_lt (by omega)).mpr k
  omega⟩
end DN
namespace DN
open PySem PySem.Spec L2
open PyProof.Rows hiding St
variable {Φ : Type} {ρ : List Sl} {φ : Φ}
/-! ### more frames -/
def kF (o : Out Φ Fl) : Res Φ := match o with
  | .ok .nx _ φ' => .ok (.val .non) φ'
  | .ok (.rt r) _ φ' => .ok r φ'
  | .ok _ _ _ => .stuck
  | .err c es _ φ' => .err c es φ'
  | .stuck => .stuck
@[simp] theorem kF_rt {r : R} : kF (.ok (.rt r) ρ φ) = .ok r φ := id rfl
@[simp] theorem kF_nx : kF (.ok .nx ρ φ) = .ok (.val .non) φ := id rfl
@[simp] theorem kF_err {c : Str} {es : List D} : kF (.err c es ρ φ) = .err c es φ := id rfl
@[simp] theorem x_run {N : Nat} {m : M Φ Fl} {ds : List D} : runF N m ds φ = kF (m (ds.map Sl.val ++ List.replicate (N - ds.length) Sl.emp) φ) := by
  unfold runF kF
  cases m (ds.map Sl.val ++ List.replicate (N - ds.length) Sl.emp) φ with
  | ok fl ρ1 φ1 => cases fl <;> rfl
  | err => rfl
  | stuck => rfl
def rngD (ds : List D) : M Φ (List D) := match ds with
    | [.int j] => if -4611686018427387904 ≤ j ∧ j < 4611686018427387904 then mP (rng 0 j.toNat) else mS
    | [.int i, .int j] => if -4611686018427387904 ≤ i ∧ i < 4611686018427387904 ∧ -4611686018427387904 ≤ j ∧ j < 4611686018427387904 then mP (rng i (j - i).toNat) else mS
    | _ => mS
@[simp] theorem x_rng {t : M Φ (List D)} : mRng t ρ φ = kB rngD (t ρ φ) := id rfl
/-- 0, 1, .. -/
abbrev nD (n : Nat) : D := .int (n : Int)
theorem rng_nD (n : Nat) : rng 0 n = (List.range n).map nD := by
  unfold rng nD
  exact List.map_congr_left fun i _ => by rw [Int.zero_add]
theorem x_rngN {n : Nat} (h : n < 1000000000) : (rngD [.int (n : Int)] : M Φ (List D)) ρ φ = .ok ((List.range n).map nD) ρ φ := by
  unfold rngD
  dsimp only
  rw [if_pos (by omega), Int.toNat_natCast, rng_nD]
  rfl
theorem x_rng2 {n : Nat} (h : 2 ^ n < 1000000000) : (rngD [.int ((2 : Int) ^ n)] : M Φ (List D)) ρ φ = .ok ((List.range (2 ^ n)).map nD) ρ φ := by
  rw [← x_rngN h]
  norm_cast
@[simp] theorem x_it {m : M Φ R} : mIt m ρ φ = kB (fun r => itD r.d) (m ρ φ) := id rfl
@[simp] theorem itD_t {ds : List D} : (itD (.tup ds) : M Φ (List D)) ρ φ = .ok ds ρ φ := id rfl
@[simp] theorem itD_l {ds : List D} : (itD (.lst ds) : M Φ (List D)) ρ φ = .ok ds ρ φ := id rfl
@[simp] theorem x_enum {t : M Φ (List D)} : mEnum t ρ φ = kB enumOf (t ρ φ) := id rfl
@[simp] theorem x_zip {t : M Φ (List D)} : mZip t ρ φ = kB zipOf (t ρ φ) := id rfl
@[simp] theorem x_zip3 {t : M Φ (List D)} : mZip3 t ρ φ = kB zip3Of (t ρ φ) := id rfl
@[simp] theorem enumOf_t {ds : List D} : (enumOf [.tup ds] : M Φ (List D)) ρ φ = .ok (enD ds) ρ φ := id rfl
@[simp] theorem enumOf_l {ds : List D} : (enumOf [.lst ds] : M Φ (List D)) ρ φ = .ok (enD ds) ρ φ := id rfl
@[simp] theorem zipOf_tt {ds es : List D} : (zipOf [.tup ds, .tup es] : M Φ (List D)) ρ φ = .ok (zpD ds es) ρ φ := id rfl
@[simp] theorem zipOf_ll {ds es : List D} : (zipOf [.lst ds, .lst es] : M Φ (List D)) ρ φ = .ok (zpD ds es) ρ φ := id rfl
@[simp] theorem zipOf_tl {ds es : List D} : (zipOf [.tup ds, .lst es] : M Φ (List D)) ρ φ = .ok (zpD ds es) ρ φ := id rfl
@[simp] theorem zipOf_lt {ds es : List D} : (zipOf [.lst ds, .tup es] : M Φ (List D)) ρ φ = .ok (zpD ds es) ρ φ := id rfl
@[simp] theorem zip3Of_ttt {ds es fs : List D} : (zip3Of [.tup ds, .tup es, .tup fs] : M Φ (List D)) ρ φ = .ok (zpD3 ds es fs) ρ φ := id rfl
@[simp] theorem x_lc {p : Pat} {vs : List Nat} {mi : M Φ (List D)} {tt : M Φ Bool} {te : M Φ R} : mLc p vs mi tt te ρ φ = kB (mLcD p vs tt te) (mi ρ φ) := id rfl
@[simp] theorem x_lc2 {p : Pat} {vs : List Nat} {mi : M Φ (List D)} {tt : M Φ Bool} {p1 : Pat} {vs1 : List Nat} {mi1 : M Φ (List D)} {tt1 : M Φ Bool} {te : M Φ R} : mLc2 p vs mi tt p1 vs1 mi1 tt1 te ρ φ = kB (mLc2D p vs tt mi1 p1 vs1 tt1 te) (mi ρ φ) := id rfl
@[simp] theorem x_scr {m : M Φ R} : mScr m ρ φ = kB (fun r => scrD r.d) (m ρ φ) := id rfl
@[simp] theorem scrD_s {ns : List Int} : (scrD (.scr ns) : M Φ (List D)) ρ φ = .ok (ns.map D.int) ρ φ := id rfl
def kPat (o : Option (List Sl)) (φ : Φ) : Out Φ Fl := match o with
  | some ρ' => .ok .nx ρ' φ
  | none => .stuck
@[simp] theorem kPat_s {φ : Φ} : kPat (some ρ) φ = .ok .nx ρ φ := id rfl
def kAsgP (p : Pat) (o : Out Φ R) : Out Φ Fl := match o with
  | .ok a ρ φ => kPat (patSet p a.d ρ) φ
  | .err c es ρ φ => .err c es ρ φ
  | .stuck => .stuck
@[simp] theorem kAsgP_ok (p : Pat) {a : R} : kAsgP p (.ok a ρ φ) = kPat (patSet p a.d ρ) φ := id rfl
@[simp] theorem kAsgP_err (p : Pat) {c : Str} {es : List D} : kAsgP p (.err c es ρ φ) = .err c es ρ φ := id rfl
@[simp] theorem x_asgP {p : Pat} {m : M Φ R} : mAsgP p m ρ φ = kAsgP p (m ρ φ) := by
  unfold mAsgP mB kAsgP kPat
  cases m ρ φ with
  | ok a ρ1 φ1 => first | rfl | (dsimp only; cases patSet p a.d ρ1 <;> rfl)
  | err => rfl
  | stuck => rfl
@[simp] theorem pat_nm {i : Nat} {d : D} : patSet (.nm i) d ρ = some (ρ.set i (.val d)) := by simp [patSet]
@[simp] theorem pat_2 {i j : Nat} {d e : D} : patSet (.tp [.nm i, .nm j]) (.tup [d, e]) ρ = some ((ρ.set i (.val d)).set j (.val e)) := by simp [patSet, patSets]
@[simp] theorem pat_3 {i j k : Nat} {d e f : D} : patSet (.tp [.nm i, .nm j, .nm k]) (.tup [d, e, f]) ρ = some (((ρ.set i (.val d)).set j (.val e)).set k (.val f)) := by simp [patSet, patSets]
@[simp] theorem x_par {i j : Nat} {t : M Φ (List D)} : mPar i j t ρ φ = kB (fun ds => fun ρ φ => match ds with
  | [d, e] => .ok .nx ((ρ.set i (.val d)).set j (.val e)) φ
  | _ => .stuck) (t ρ φ) := rfl
@[simp] theorem x_noP : (mNoP : M Φ (Option Int)) ρ φ = .ok none ρ φ := id rfl
def partD (r : R) : M Φ (Option Int) := match r.d with
  | .int i => mP (some i)
  | _ => mS
@[simp] theorem x_part {m : M Φ R} : mPart m ρ φ = kB partD (m ρ φ) := id rfl
@[simp] theorem partD_i {i : Int} : (partD (.val (.int i)) : M Φ (Option Int)) ρ φ = .ok (some i) ρ φ := id rfl
def kSl3 (r : R) (lo : Option Int) (o : Out Φ (Option Int)) : Out Φ R := match o with
  | .ok a ρ φ => dSl r.d lo a ρ φ
  | .err c es ρ φ => .err c es ρ φ
  | .stuck => .stuck
def kSl2 (r : R) (u : M Φ (Option Int)) (o : Out Φ (Option Int)) : Out Φ R := match o with
  | .ok a ρ φ => kSl3 r a (u ρ φ)
  | .err c es ρ φ => .err c es ρ φ
  | .stuck => .stuck
def kSl (l u : M Φ (Option Int)) (o : Out Φ R) : Out Φ R := match o with
  | .ok a ρ φ => kSl2 a u (l ρ φ)
  | .err c es ρ φ => .err c es ρ φ
  | .stuck => .stuck
@[simp] theorem kSl3_ok {r : R} {lo a : Option Int} : kSl3 r lo (.ok a ρ φ) = dSl r.d lo a ρ φ := id rfl
@[simp] theorem kSl2_ok {r : R} {u : M Φ (Option Int)} {a : Option Int} : kSl2 r u (.ok a ρ φ) = kSl3 r a (u ρ φ) := id rfl
@[simp] theorem kSl_ok {l u : M Φ (Option Int)} {a : R} : kSl l u (.ok a ρ φ) = kSl2 a u (l ρ φ) := id rfl
@[simp] theorem x_sl {m : M Φ R} {l u : M Φ (Option Int)} : mSl m l u ρ φ = kSl l u (m ρ φ) := by
  unfold mSl mB kSl
  cases m ρ φ with
  | ok a ρ1 φ1 =>
    dsimp only
    unfold kSl2
    cases l ρ1 φ1 with
    | ok b ρ2 φ2 => dsimp only; unfold kSl3; cases u ρ2 φ2 <;> rfl
    | err => rfl
    | stuck => rfl
  | err => rfl
  | stuck => rfl
@[simp] theorem dSl_t {xs : List D} {lo hi : Option Int} : (dSl (.tup xs) lo hi : M Φ R) ρ φ = .ok (.val (.tup (cutD xs lo hi))) ρ φ := id rfl
@[simp] theorem dSl_l {xs : List D} {lo hi : Option Int} : (dSl (.lst xs) lo hi : M Φ R) ρ φ = .ok (.new (cutD xs lo hi)) ρ φ := id rfl
theorem sIx_k {n d k : Nat} (h : k ≤ n) : HT.sIx n d (some (k : Int)) = k := by
  rw [HT.sIx_nat]
  omega
theorem cut_to {α : Type} {xs : List α} {k : Nat} (h : k ≤ xs.length) : cutD xs none (some (k : Int)) = xs.take k := by
  unfold cutD
  rw [sIx_k h]
  show (xs.drop 0).take (k - 0) = _
  simp
theorem cut_from {α : Type} {xs : List α} {k : Nat} (h : k ≤ xs.length) : cutD xs (some (k : Int)) none = xs.drop k := by
  unfold cutD
  rw [sIx_k h]
  show (xs.drop k).take (xs.length - k) = _
  rw [← List.length_drop, List.take_length]
/-! x[k] = .. -/
def setP (o : Option Sl) (i : Nat) (d z : D) (ρ : List Sl) (φ : Φ) : Out Φ Fl := match o, z with
  | some (.own ds), .int z => (match ixN ds.length z with
      | some j => .ok .nx (ρ.set i (.own (ds.set j d))) φ
      | none => .stuck)
  | _, _ => .stuck
def kSet2 (i : Nat) (d : D) (o : Out Φ R) : Out Φ Fl := match o with
  | .ok k ρ φ => setP ρ[i]? i d k.d ρ φ
  | .err c es ρ φ => .err c es ρ φ
  | .stuck => .stuck
def setO (o : Option Sl) (i : Nat) (mk : M Φ R) (d : D) (ρ : List Sl) (φ : Φ) : Out Φ Fl := match o with
  | some (.own _) => kSet2 i d (mk ρ φ)
  | _ => .stuck
def kSet (i : Nat) (mk : M Φ R) (o : Out Φ R) : Out Φ Fl := match o with
  | .ok r ρ φ => setO ρ[i]? i mk r.d ρ φ
  | .err c es ρ φ => .err c es ρ φ
  | .stuck => .stuck
@[simp] theorem kSet_ok {i : Nat} {mk : M Φ R} {r : R} : kSet i mk (.ok r ρ φ) = setO ρ[i]? i mk r.d ρ φ := id rfl
@[simp] theorem setO_own {ds : List D} {i : Nat} {mk : M Φ R} {d : D} : setO (some (.own ds)) i mk d ρ φ = kSet2 i d (mk ρ φ) := id rfl
@[simp] theorem kSet2_ok {i : Nat} {d : D} {r : R} : kSet2 i d (.ok r ρ φ) = setP ρ[i]? i d r.d ρ φ := id rfl
theorem setP_own {ds : List D} {i k : Nat} {d : D} (h : k < ds.length) : setP (some (.own ds)) i d (.int (k : Int)) ρ φ = .ok .nx (ρ.set i (.own (ds.set k d))) φ := by
  unfold setP
  dsimp only
  rw [ixNn h]
@[simp] theorem x_setIx {i : Nat} {mk m : M Φ R} : mSetIx i mk m ρ φ = kSet i mk (m ρ φ) := by
  unfold mSetIx mB kSet
  cases m ρ φ with
  | ok r ρ1 φ1 =>
    dsimp only
    unfold setO
    cases e : ρ1[i]? with
    | none => rfl
    | some s =>
      cases s with
      | own ds =>
        dsimp only
        unfold kSet2
        cases mk ρ1 φ1 with
        | ok k ρ2 φ2 =>
          dsimp only
          unfold setP
          cases ρ2[i]? with
          | none => cases k.d <;> rfl
          | some s => cases s <;> cases k.d <;> rfl
        | err => rfl
        | stuck => rfl
      | _ => rfl
  | err => rfl
  | stuck => rfl
def kRaise (c : Str) (o : Out Φ (List D)) : Out Φ Fl := match o with
  | .ok ds ρ φ => .err c ds.reverse ρ φ
  | .err c es ρ φ => .err c es ρ φ
  | .stuck => .stuck
@[simp] theorem kRaise_ok {c : Str} {ds : List D} : kRaise c (.ok ds ρ φ) = .err c ds.reverse ρ φ := id rfl
@[simp] theorem x_raise {c : Str} {t : M Φ (List D)} : mRaise c t ρ φ = kRaise c (t ρ φ) := by unfold mRaise mB kRaise; cases t ρ φ <;> rfl
@[simp] theorem isi_it {i : Int} : (dIsi "int" (.int i) : M Φ R) ρ φ = .ok (.val (.bl true)) ρ φ := id rfl
@[simp] theorem isi_ib {i : Int} : (dIsi "bool" (.int i) : M Φ R) ρ φ = .ok (.val (.bl false)) ρ φ := id rfl
@[simp] theorem isi_tup {ds : List D} : (dIsi "tuple" (.tup ds) : M Φ R) ρ φ = .ok (.val (.bl true)) ρ φ := id rfl
@[simp] theorem x_not {b : Bool} : (dNot (.bl b) : M Φ R) ρ φ = .ok (.val (.bl (!b))) ρ φ := id rfl
@[simp] theorem x_is {d : D} {k : Bool} : (dIs d (.bl k) : M Φ R) ρ φ = .ok (.val (.bl (isB k d))) ρ φ := id rfl
@[simp] theorem x_lenT {ds : List D} : (dLen [.tup ds] : M Φ R) ρ φ = .ok (.val (.int ds.length)) ρ φ := id rfl
@[simp] theorem x_lenL {ds : List D} : (dLen [.lst ds] : M Φ R) ρ φ = .ok (.val (.int ds.length)) ρ φ := id rfl
@[simp] theorem x_abs {i : Int} : (dAbs [.int i] : M Φ R) ρ φ = .ok (.val (.int (if i < 0 then -i else i))) ρ φ := id rfl
@[simp] theorem x_yes : (mYes : M Φ Bool) ρ φ = .ok true ρ φ := id rfl
theorem x_addT {xs ys : List D} (h : xs.length + ys.length ≤ 16777216) : (dAdd (.tup xs) (.tup ys) : M Φ R) ρ φ = .ok (.val (.tup (xs ++ ys))) ρ φ := by unfold dAdd; dsimp only; rw [if_pos h]; rfl
theorem x_addL {xs ys : List D} (h : xs.length + ys.length ≤ 16777216) : (dAdd (.lst xs) (.lst ys) : M Φ R) ρ φ = .ok (.new (xs ++ ys)) ρ φ := by unfold dAdd; dsimp only; rw [if_pos h]; rfl
/-! ### loops -/
/-- a loop that goes through to its end -/
theorem for_all {p : Pat} {m : M Φ Fl} {n : Nat} {f : Nat → D} (S : Nat → List Sl → Φ → Prop) (h0 : S 0 ρ φ)
    (step : ∀ k ρ φ, k < n → S k ρ φ → ∃ ρ1 ρ2 φ2, patSet p (f k) ρ = some ρ1 ∧ m ρ1 φ = .ok .nx ρ2 φ2 ∧ S (k + 1) ρ2 φ2) :
    ∃ ρ' φ', mFor p m ((List.range n).map f) ρ φ = .ok .nx ρ' φ' ∧ S n ρ' φ' := by
  obtain ⟨ρ', φ', a, b⟩ := mFor_inv (p := p) (m := m) S ((List.range n).map f) 0 ρ φ h0 (by
    intro i d ρ φ e hs
    rw [Nat.zero_add] at hs ⊢
    rw [List.getElem?_map] at e
    obtain ⟨j, ej, rfl⟩ := Option.map_eq_some_iff.mp e
    obtain ⟨hi, ej⟩ := List.getElem?_eq_some_iff.mp ej
    rw [List.getElem_range] at ej
    subst ej
    obtain ⟨ρ1, ρ2, φ2, a, b, c⟩ := step i ρ φ (by simpa using hi) hs
    exact ⟨ρ1, ρ2, φ2, a, .inl b, c⟩)
  rw [Nat.zero_add, List.length_map, List.length_range] at b
  exact ⟨ρ', φ', a, b⟩
/-- .. by the number itself -/
theorem for_rng {i : Nat} {m : M Φ Fl} {n : Nat} (S : Nat → List Sl → Φ → Prop) (h0 : S 0 ρ φ)
    (step : ∀ k ρ φ, k < n → S k ρ φ → ∃ ρ2 φ2, m (ρ.set i (.val (.int (k : Int)))) φ = .ok .nx ρ2 φ2 ∧ S (k + 1) ρ2 φ2) :
    ∃ ρ' φ', mFor (.nm i) m ((List.range n).map nD) ρ φ = .ok .nx ρ' φ' ∧ S n ρ' φ' :=
  for_all S h0 fun k ρ φ hk hs => by
    obtain ⟨ρ2, φ2, a, b⟩ := step k ρ φ hk hs
    exact ⟨_, ρ2, φ2, pat_nm, a, b⟩
/-- .. that ends at the first that is meant -/
theorem for_find {p : Pat} {m : M Φ Fl} {f : Nat → D} (b : Nat → Bool) (r : Nat → R) (S : Nat → List Sl → Prop) : ∀ (n j : Nat) (ρ : List Sl), S j ρ →
    (∀ k ρ, k < j + n → S k ρ → ∃ ρ1 ρ2, patSet p (f k) ρ = some ρ1 ∧ (b k = true → m ρ1 φ = .ok (.rt (r k)) ρ2 φ) ∧ (b k = false → m ρ1 φ = .ok .nx ρ2 φ ∧ S (k + 1) ρ2)) →
    ∃ ρ', mFor p m ((List.range' j n).map f) ρ φ = (match (List.range' j n).find? b with
      | some k => .ok (.rt (r k)) ρ' φ
      | none => .ok .nx ρ' φ) ∧ ((List.range' j n).find? b = none → S (j + n) ρ')
  | 0, j, ρ, h0, _ => ⟨ρ, rfl, fun _ => h0⟩
  | n + 1, j, ρ, h0, step => by
    obtain ⟨ρ1, ρ2, h1, h2, h3⟩ := step j ρ (by omega) h0
    rw [List.range'_succ, List.map_cons, List.find?_cons]
    cases hb : b j with
    | true => exact ⟨ρ2, by unfold mFor; rw [h1]; dsimp only; rw [h2 hb], fun e => by cases e⟩
    | false =>
      obtain ⟨k1, k2⟩ := h3 hb
      obtain ⟨ρ', a, c⟩ := for_find b r S n (j + 1) ρ2 k2 fun k ρ hk => step k ρ (by omega)
      refine ⟨ρ', ?_, by rw [show j + (n + 1) = j + 1 + n by omega]; exact c⟩
      conv => lhs; unfold mFor
      rw [h1]; dsimp only; rw [k1]
      exact a
/-! lists of numbers -/
theorem at_rng {n k : Nat} {f : Nat → D} (h : k < n) : L2.atI ((List.range n).map f) (k : Int) = some (f k) := atN (by rw [List.getElem?_map, List.getElem?_range h]; rfl)
theorem lc_rng {p : Pat} {vs : List Nat} {te : M Φ R} {n : Nat} {f r : Nat → D} (hl : n ≤ 16777216) (hn : noOwn ρ vs = true)
    (h : ∀ k, k < n → ∃ ρd, patSet p (f k) (wipeR ρ vs) = some ρd ∧ wipeR ρd vs = wipeR ρ vs ∧ ∃ x, te ρd φ = .ok x ρd φ ∧ x.d = r k) :
    mLcD p vs mYes te ((List.range n).map f) ρ φ = .ok (.new ((List.range n).map r)) (backR ρ (wipeR ρ vs) vs) φ := by
  have loop : ∀ (l : List Nat) (ρ0 : List Sl), (∀ k, k ∈ l → k < n) → wipeR ρ0 vs = wipeR ρ vs → lcLoop p vs mYes te (l.map f) ρ0 φ = .ok (l.map r) (wipeR ρ vs) φ := by
    intro l
    induction l with
    | nil => intro ρ0 _ e; show Out.ok _ _ _ = _; rw [e]; rfl
    | cons k l ih =>
      intro ρ0 hk e
      obtain ⟨ρd, h1, h2, x, h3, h4⟩ := h k (hk k List.mem_cons_self)
      rw [List.map_cons]
      unfold lcLoop
      rw [e, h1]
      dsimp only
      rw [show (mYes : M Φ Bool) ρd φ = .ok true ρd φ from rfl]
      dsimp only
      rw [h3]
      dsimp only
      rw [ih ρd (fun z hz => hk z (List.mem_cons_of_mem _ hz)) h2]
      dsimp only
      rw [h4, List.map_cons]
  unfold mLcD
  rw [if_pos ⟨by rw [List.length_map, List.length_range]; exact hl, hn⟩, loop _ ρ (fun k hk => List.mem_range.mp hk) rfl]
theorem lc_map {α : Type} {p : Pat} {vs : List Nat} {te : M Φ R} {l : List α} {f r : α → D} (hl : l.length ≤ 16777216) (hn : noOwn ρ vs = true)
    (h : ∀ k, k ∈ l → ∃ ρd, patSet p (f k) (wipeR ρ vs) = some ρd ∧ wipeR ρd vs = wipeR ρ vs ∧ ∃ x, te ρd φ = .ok x ρd φ ∧ x.d = r k) :
    mLcD p vs mYes te (l.map f) ρ φ = .ok (.new (l.map r)) (backR ρ (wipeR ρ vs) vs) φ := by
  have loop : ∀ (l' : List α) (ρ0 : List Sl), (∀ k, k ∈ l' → k ∈ l) → wipeR ρ0 vs = wipeR ρ vs → lcLoop p vs mYes te (l'.map f) ρ0 φ = .ok (l'.map r) (wipeR ρ vs) φ := by
    intro l'
    induction l' with
    | nil => intro ρ0 _ e; show Out.ok _ _ _ = _; rw [e]; rfl
    | cons k l' ih =>
      intro ρ0 hk e
      obtain ⟨ρd, h1, h2, x, h3, h4⟩ := h k (hk k List.mem_cons_self)
      rw [List.map_cons]
      unfold lcLoop
      rw [e, h1]
      dsimp only
      rw [show (mYes : M Φ Bool) ρd φ = .ok true ρd φ from rfl]
      dsimp only
      rw [h3]
      dsimp only
      rw [ih ρd (fun z hz => hk z (List.mem_cons_of_mem _ hz)) h2]
      dsimp only
      rw [h4, List.map_cons]
  unfold mLcD
  rw [if_pos ⟨by rw [List.length_map]; exact hl, hn⟩, loop l ρ (fun k hk => hk) rfl]
theorem lcl_map {α : Type} {p : Pat} {vs : List Nat} {te : M Φ R} {l : List α} {f r : α → D}
    (h : ∀ k, k ∈ l → ∃ ρd, patSet p (f k) (wipeR ρ vs) = some ρd ∧ wipeR ρd vs = wipeR ρ vs ∧ ∃ x, te ρd φ = .ok x ρd φ ∧ x.d = r k) :
    lcLoop p vs mYes te (l.map f) ρ φ = .ok (l.map r) (wipeR ρ vs) φ := by
  have loop : ∀ (l' : List α) (ρ0 : List Sl), (∀ k, k ∈ l' → k ∈ l) → wipeR ρ0 vs = wipeR ρ vs → lcLoop p vs mYes te (l'.map f) ρ0 φ = .ok (l'.map r) (wipeR ρ vs) φ := by
    intro l'
    induction l' with
    | nil => intro ρ0 _ e; show Out.ok _ _ _ = _; rw [e]; rfl
    | cons k l' ih =>
      intro ρ0 hk e
      obtain ⟨ρd, h1, h2, x, h3, h4⟩ := h k (hk k List.mem_cons_self)
      rw [List.map_cons]
      unfold lcLoop
      rw [e, h1]
      dsimp only
      rw [show (mYes : M Φ Bool) ρd φ = .ok true ρd φ from rfl]
      dsimp only
      rw [h3]
      dsimp only
      rw [ih ρd (fun z hz => hk z (List.mem_cons_of_mem _ hz)) h2]
      dsimp only
      rw [h4, List.map_cons]
  exact loop l ρ (fun k hk => hk) rfl
/-- two `for` -/
theorem lc2_map {α : Type} {p p1 : Pat} {vs vs1 : List Nat} {tt1 : M Φ Bool} {mi1 : M Φ (List D)} {te : M Φ R} {l : List α} {f : α → D} {g : α → List D} (hl : (l.flatMap g).length ≤ 16777216) (hn : noOwn ρ vs = true)
    (h : ∀ k, k ∈ l → ∃ ρd, patSet p (f k) (wipeR ρ vs) = some ρd ∧ ∃ ρe, mB mi1 (lcLoop p1 vs1 tt1 te) ρd φ = .ok (g k) ρe φ ∧ wipeR ρe vs = wipeR ρ vs) :
    mLc2D p vs mYes mi1 p1 vs1 tt1 te (l.map f) ρ φ = .ok (.new (l.flatMap g)) (backR ρ (wipeR ρ vs) vs) φ := by
  have loop : ∀ (l' : List α) (ρ0 : List Sl), (∀ k, k ∈ l' → k ∈ l) → wipeR ρ0 vs = wipeR ρ vs → lcLoop2 p vs mYes mi1 p1 vs1 tt1 te (l'.map f) ρ0 φ = .ok (l'.flatMap g) (wipeR ρ vs) φ := by
    intro l'
    induction l' with
    | nil => intro ρ0 _ e; show Out.ok _ _ _ = _; rw [e]; rfl
    | cons k l' ih =>
      intro ρ0 hk e
      obtain ⟨ρd, h1, ρe, h2, h3⟩ := h k (hk k List.mem_cons_self)
      rw [List.map_cons]
      unfold lcLoop2
      rw [e, h1]
      dsimp only
      rw [show (mYes : M Φ Bool) ρd φ = .ok true ρd φ from rfl]
      dsimp only
      rw [h2]
      unfold catO
      dsimp only
      rw [ih ρe (fun z hz => hk z (List.mem_cons_of_mem _ hz)) h3]
      rfl
  unfold mLc2D
  rw [if_pos hn, loop l ρ (fun k hk => hk) rfl]
  dsimp only
  rw [if_pos hl]
theorem for_fst {p : Pat} {m : M Φ Fl} {f : Nat → D} (b : Nat → Bool) (r : Nat → R) (S : Nat → List Sl → Prop) {n : Nat} (h0 : S 0 ρ)
    (step : ∀ k ρ, k < n → S k ρ → ∃ ρ1 ρ2, patSet p (f k) ρ = some ρ1 ∧ (b k = true → m ρ1 φ = .ok (.rt (r k)) ρ2 φ) ∧ (b k = false → m ρ1 φ = .ok .nx ρ2 φ ∧ S (k + 1) ρ2)) :
    ∃ ρ', mFor p m ((List.range n).map f) ρ φ = (match (List.range n).find? b with
      | some k => .ok (.rt (r k)) ρ' φ
      | none => .ok .nx ρ' φ) := by
  rw [List.range_eq_range']
  obtain ⟨ρ', a, _⟩ := for_find b r S n 0 ρ h0 fun k ρ hk => step k ρ (by omega)
  exact ⟨ρ', a⟩
theorem enD_rng {n : Nat} {f : Nat → D} : enD ((List.range n).map f) = (List.range n).map fun k => .tup [nD k, f k] := by
  unfold enD
  refine List.ext_getElem? fun i => ?_
  rw [List.getElem?_map, List.getElem?_map, List.getElem?_zipIdx, List.getElem?_map]
  rcases Nat.lt_or_ge i n with h | h
  · rw [List.getElem?_range h]; simp
  · rw [List.getElem?_eq_none (by simpa using h)]; rfl
theorem zpD_rng {n : Nat} {f g : Nat → D} : zpD ((List.range n).map f) ((List.range n).map g) = (List.range n).map fun k => .tup [f k, g k] := by
  unfold zpD
  rw [List.zipWith_map, List.zipWith_self]
theorem zpD3_rng {n : Nat} {f g h : Nat → D} : zpD3 ((List.range n).map f) ((List.range n).map g) ((List.range n).map h) = (List.range n).map fun k => .tup [f k, g k, h k] := by
  refine List.ext_getElem? fun i => ?_
  rw [zpD3_get, List.getElem?_map, List.getElem?_map, List.getElem?_map, List.getElem?_map]
  rcases Nat.lt_or_ge i n with q | q
  · rw [List.getElem?_range q]; rfl
  · rw [List.getElem?_eq_none (by simpa using q)]; rfl
/-- .. with a test -/
theorem lc_fil {α : Type} {p : Pat} {vs : List Nat} {tt : M Φ Bool} {te : M Φ R} {l : List α} {f r : α → D} (b : α → Bool) (hl : l.length ≤ 16777216) (hn : noOwn ρ vs = true)
    (h : ∀ k, k ∈ l → ∃ ρd, patSet p (f k) (wipeR ρ vs) = some ρd ∧ wipeR ρd vs = wipeR ρ vs ∧ tt ρd φ = .ok (b k) ρd φ ∧ (b k = true → ∃ x, te ρd φ = .ok x ρd φ ∧ x.d = r k)) :
    mLcD p vs tt te (l.map f) ρ φ = .ok (.new ((l.filter b).map r)) (backR ρ (wipeR ρ vs) vs) φ := by
  have loop : ∀ (l' : List α) (ρ0 : List Sl), (∀ k, k ∈ l' → k ∈ l) → wipeR ρ0 vs = wipeR ρ vs → lcLoop p vs tt te (l'.map f) ρ0 φ = .ok ((l'.filter b).map r) (wipeR ρ vs) φ := by
    intro l'
    induction l' with
    | nil => intro ρ0 _ e; show Out.ok _ _ _ = _; rw [e]; rfl
    | cons k l' ih =>
      intro ρ0 hk e
      obtain ⟨ρd, h1, h2, h5, h6⟩ := h k (hk k List.mem_cons_self)
      have q := ih ρd (fun z hz => hk z (List.mem_cons_of_mem _ hz)) h2
      rw [List.map_cons]
      unfold lcLoop
      rw [e, h1]
      dsimp only
      rw [h5]
      cases hb : b k with
      | false =>
        dsimp only
        rw [q, List.filter_cons_of_neg (by rw [hb]; simp)]
      | true =>
        obtain ⟨x, h3, h4⟩ := h6 hb
        dsimp only
        rw [h3]
        dsimp only
        rw [q, List.filter_cons_of_pos hb, List.map_cons, h4]
  unfold mLcD
  rw [if_pos ⟨by rw [List.length_map]; exact hl, hn⟩, loop l ρ (fun k hk => hk) rfl]
/-- .. that draws -/
theorem lc_inv {α : Type} {p : Pat} {vs : List Nat} {te : M Φ R} {l : List α} {f : α → D} (J : Φ → Prop) (Pr : D → Prop) (hl : l.length ≤ 16777216) (hn : noOwn ρ vs = true) (j : J φ)
    (h : ∀ k φ, k ∈ l → J φ → ∃ ρd, patSet p (f k) (wipeR ρ vs) = some ρd ∧ wipeR ρd vs = wipeR ρ vs ∧ ∃ x φ', te ρd φ = .ok x ρd φ' ∧ Pr x.d ∧ J φ') :
    ∃ r φ', mLcD p vs mYes te (l.map f) ρ φ = .ok (.new r) (backR ρ (wipeR ρ vs) vs) φ' ∧ r.length = l.length ∧ (∀ d, d ∈ r → Pr d) ∧ J φ' := by
  obtain ⟨r, φ', a, b, c, d⟩ := mLcD_inv (p := p) (vs := vs) (te := te) (fun _ => J) Pr (ds := l.map f) 0 (by rw [List.length_map]; exact hl) hn (fun d _ φ hd hj => by
    obtain ⟨k, hk, rfl⟩ := List.mem_map.mp hd
    exact h k φ hk hj) j
  exact ⟨r, φ', a, by rw [b, List.length_map], c, d⟩
@[simp] theorem at_0 {d : D} {ds : List D} : L2.atI (d :: ds) 0 = some d := by
  have := atN (xs := d :: ds) (k := 0) (d := d) rfl
  exact this
@[simp] theorem at_1 {d e : D} {ds : List D} : L2.atI (d :: e :: ds) 1 = some e := by
  have := atN (xs := d :: e :: ds) (k := 1) (d := e) rfl
  exact this
@[simp] theorem at_2 {d e f : D} {ds : List D} : L2.atI (d :: e :: f :: ds) 2 = some f := by
  have := atN (xs := d :: e :: f :: ds) (k := 2) (d := f) rfl
  exact this
theorem x_shl {i j : Int} (h : 0 ≤ j ∧ j ≤ 1000000 ∧ i.natAbs < 2 ^ 64) : (dShl (.int i) (.int j) : M Φ R) ρ φ = .ok (.val (.int (i * 2 ^ j.toNat))) ρ φ := by
  show (if cPow i j then (mP (.val (.int (i * 2 ^ j.toNat))) : M Φ R) else mS) ρ φ = _
  rw [if_pos (show cPow i j from h)]; rfl
theorem x_shl1 {n : Nat} (h : n ≤ 1000000) : (dShl (.int 1) (.int (n : Int)) : M Φ R) ρ φ = .ok (.val (.int ((2 ^ n : Nat) : Int))) ρ φ := by
  rw [x_shl ⟨by omega, by omega, by decide⟩, Int.toNat_natCast, Int.one_mul]
  norm_cast
@[simp] theorem x_and2 {i j : Int} : (dAnd (.int i) (.int j) : M Φ R) ρ φ = .ok (.val (.int (Builtin.bitAnd i j))) ρ φ := id rfl
theorem band_nn (a b : Nat) : Builtin.bitAnd (a : Int) (b : Int) = ((a &&& b : Nat) : Int) := by
  unfold Builtin.bitAnd
  rw [decide_eq_true (Int.natCast_nonneg a), decide_eq_true (Int.natCast_nonneg b)]
  rfl
theorem band_1 (a : Nat) : Builtin.bitAnd (a : Int) 1 = ((a % 2 : Nat) : Int) := by
  rw [show (1 : Int) = ((1 : Nat) : Int) from rfl, band_nn, Nat.and_one_is_mod]
theorem band_3 (a : Nat) : Builtin.bitAnd (a : Int) 3 = ((a % 4 : Nat) : Int) := by
  rw [show (3 : Int) = ((3 : Nat) : Int) from rfl, band_nn]
  have := Nat.and_two_pow_sub_one_eq_mod a 2
  simp at this
  rw [this]
/-! while -/
def kWh (k : Nat) (t : M Φ Bool) (m : M Φ Fl) (o : Out Φ Fl) : Out Φ Fl := match o with
      | .ok .nx ρ1 φ1 => mWhile k t m ρ1 φ1
      | .ok .ct ρ1 φ1 => mWhile k t m ρ1 φ1
      | .ok .bk ρ1 φ1 => .ok .nx ρ1 φ1
      | .ok (.rt r) ρ1 φ1 => .ok (.rt r) ρ1 φ1
      | .err c es ρ1 φ1 => .err c es ρ1 φ1
      | .stuck => .stuck
def kWhT (k : Nat) (t : M Φ Bool) (m : M Φ Fl) (o : Out Φ Bool) : Out Φ Fl := match o with
  | .ok true ρ φ => kWh k t m (m ρ φ)
  | .ok false ρ φ => .ok .nx ρ φ
  | .err c es ρ φ => .err c es ρ φ
  | .stuck => .stuck
@[simp] theorem kWhT_t {k : Nat} {t : M Φ Bool} {m : M Φ Fl} : kWhT k t m (.ok true ρ φ) = kWh k t m (m ρ φ) := id rfl
@[simp] theorem kWhT_f {k : Nat} {t : M Φ Bool} {m : M Φ Fl} : kWhT k t m (.ok false ρ φ) = .ok .nx ρ φ := id rfl
@[simp] theorem kWh_nx {k : Nat} {t : M Φ Bool} {m : M Φ Fl} : kWh k t m (.ok .nx ρ φ) = mWhile k t m ρ φ := id rfl
theorem x_wh1 {k : Nat} {t : M Φ Bool} {m : M Φ Fl} : mWhile (k + 1) t m ρ φ = kWhT k t m (t ρ φ) := by
  show mB t _ ρ φ = _
  rw [x_b]
  cases t ρ φ with
  | ok b ρ1 φ1 =>
    cases b
    · rfl
    · unfold kB kWhT kWh
      dsimp only
      refine (congrFun (congrFun (if_pos rfl) _) _).trans ?_
      cases m ρ1 φ1 with
      | ok fl _ _ => cases fl <;> rfl
      | err => rfl
      | stuck => rfl
  | err => rfl
  | stuck => rfl
end DN
namespace DN
open PySem PySem.Spec L2
open PyProof.Rows hiding St
variable {Φ : Type} {ρ : List Sl} {φ : Φ}
/-! ### what things are -/
@[simp] theorem isi_int_bool {b : Bool} : (dIsi "int" (.bl b) : M Φ R) ρ φ = .ok (.val (.bl true)) ρ φ := id rfl
@[simp] theorem isi_int_str {x : Str} : (dIsi "int" (.str x) : M Φ R) ρ φ = .ok (.val (.bl false)) ρ φ := id rfl
@[simp] theorem isi_int_tuple {ds : List D} : (dIsi "int" (.tup ds) : M Φ R) ρ φ = .ok (.val (.bl false)) ρ φ := id rfl
@[simp] theorem isi_int_list {ds : List D} : (dIsi "int" (.lst ds) : M Φ R) ρ φ = .ok (.val (.bl false)) ρ φ := id rfl
@[simp] theorem isi_int_NoneType  : (dIsi "int" .non : M Φ R) ρ φ = .ok (.val (.bl false)) ρ φ := id rfl
@[simp] theorem isi_bool_bool {b : Bool} : (dIsi "bool" (.bl b) : M Φ R) ρ φ = .ok (.val (.bl true)) ρ φ := id rfl
@[simp] theorem isi_bool_str {x : Str} : (dIsi "bool" (.str x) : M Φ R) ρ φ = .ok (.val (.bl false)) ρ φ := id rfl
@[simp] theorem isi_bool_tuple {ds : List D} : (dIsi "bool" (.tup ds) : M Φ R) ρ φ = .ok (.val (.bl false)) ρ φ := id rfl
@[simp] theorem isi_bool_list {ds : List D} : (dIsi "bool" (.lst ds) : M Φ R) ρ φ = .ok (.val (.bl false)) ρ φ := id rfl
@[simp] theorem isi_bool_NoneType  : (dIsi "bool" .non : M Φ R) ρ φ = .ok (.val (.bl false)) ρ φ := id rfl
@[simp] theorem isi_tuple_int {i : Int} : (dIsi "tuple" (.int i) : M Φ R) ρ φ = .ok (.val (.bl false)) ρ φ := id rfl
@[simp] theorem isi_tuple_bool {b : Bool} : (dIsi "tuple" (.bl b) : M Φ R) ρ φ = .ok (.val (.bl false)) ρ φ := id rfl
@[simp] theorem isi_tuple_str {x : Str} : (dIsi "tuple" (.str x) : M Φ R) ρ φ = .ok (.val (.bl false)) ρ φ := id rfl
@[simp] theorem isi_tuple_list {ds : List D} : (dIsi "tuple" (.lst ds) : M Φ R) ρ φ = .ok (.val (.bl false)) ρ φ := id rfl
@[simp] theorem isi_tuple_NoneType  : (dIsi "tuple" .non : M Φ R) ρ φ = .ok (.val (.bl false)) ρ φ := id rfl
@[simp] theorem isi_str_int {i : Int} : (dIsi "str" (.int i) : M Φ R) ρ φ = .ok (.val (.bl false)) ρ φ := id rfl
@[simp] theorem isi_str_bool {b : Bool} : (dIsi "str" (.bl b) : M Φ R) ρ φ = .ok (.val (.bl false)) ρ φ := id rfl
@[simp] theorem isi_str_str {x : Str} : (dIsi "str" (.str x) : M Φ R) ρ φ = .ok (.val (.bl true)) ρ φ := id rfl
@[simp] theorem isi_str_tuple {ds : List D} : (dIsi "str" (.tup ds) : M Φ R) ρ φ = .ok (.val (.bl false)) ρ φ := id rfl
@[simp] theorem isi_str_list {ds : List D} : (dIsi "str" (.lst ds) : M Φ R) ρ φ = .ok (.val (.bl false)) ρ φ := id rfl
@[simp] theorem isi_str_NoneType  : (dIsi "str" .non : M Φ R) ρ φ = .ok (.val (.bl false)) ρ φ := id rfl
@[simp] theorem isB_int {k : Bool} {i : Int} : isB k (.int i) = false := id rfl
@[simp] theorem isB_str {k : Bool} {i : Str} : isB k (.str i) = false := id rfl
@[simp] theorem isB_tup {k : Bool} {i : List D} : isB k (.tup i) = false := id rfl
@[simp] theorem isB_non {k : Bool} : isB k .non = false := id rfl
@[simp] theorem isB_bl {k b : Bool} : isB k (.bl b) = (b == k) := id rfl
theorem x_dEqS {a : Str} (h : eqD (.str a) (.str a) = some true) : (dEq (.str a) (.str a) : M Φ R) ρ φ = .ok (.val (.bl true)) ρ φ := by unfold dEq; rw [h]; rfl
/-! fields, methods, makers -/
def kFld (c : Str) (i : Nat) (o : Out Φ R) : Out Φ R := match o with
  | .ok r ρ φ => (match r.d with
    | .obj c' ds => if c' = c then (match ds[i]? with
      | some d => mP (.val d)
      | none => mS) else mS
    | _ => mS : M Φ R) ρ φ
  | .err c es ρ φ => .err c es ρ φ
  | .stuck => .stuck
@[simp] theorem x_fld {c : Str} {i : Nat} {m : M Φ R} : mFld c i m ρ φ = kFld c i (m ρ φ) := by unfold mFld mB kFld; cases m ρ φ <;> rfl
@[simp] theorem kFld_ok {c : Str} {i : Nat} {ds : List D} : (kFld c i (.ok (.val (.obj c ds)) ρ φ) : Out Φ R) = atS ds[i]? ρ φ := by
  unfold kFld
  simp
  cases ds[i]? <;> rfl
def kMeth (c : Str) (f : Fn Φ) (ix : List Nat) (t : M Φ (List D)) (o : Out Φ R) : Out Φ R := match o with
  | .ok r ρ φ => (match r.d with
    | .obj c' _ => if c' = c then mCall (fun ds => f (r.d :: perm ix ds)) t else mS
    | _ => mS : M Φ R) ρ φ
  | .err c es ρ φ => .err c es ρ φ
  | .stuck => .stuck
@[simp] theorem x_meth {c : Str} {f : Fn Φ} {ix : List Nat} {m : M Φ R} {t : M Φ (List D)} : mMeth c f ix m t ρ φ = kMeth c f ix t (m ρ φ) := by unfold mMeth mB kMeth; cases m ρ φ <;> rfl
@[simp] theorem kMeth_ok {c : Str} {f : Fn Φ} {ix : List Nat} {t : M Φ (List D)} {ds : List D} : (kMeth c f ix t (.ok (.val (.obj c ds)) ρ φ) : Out Φ R) = mCall (fun es => f (.obj c ds :: perm ix es)) t ρ φ := by
  unfold kMeth
  simp
@[simp] theorem kMeth_err {c c' : Str} {f : Fn Φ} {ix : List Nat} {t : M Φ (List D)} {es : List D} : (kMeth c f ix t (.err c' es ρ φ) : Out Φ R) = .err c' es ρ φ := id rfl
def kNew (c : Str) (o : Res Φ) : Res Φ := match o with
  | .ok r φ' => .ok (.val (.obj c [r.d])) φ'
  | .err x es φ' => .err x es φ'
  | .stuck => .stuck
@[simp] theorem x_newF {c : Str} {f : Fn Φ} {ds : List D} : newF c f ds φ = kNew c (f ds φ) := id rfl
@[simp] theorem kNew_ok {c : Str} {r : R} : kNew c (.ok r φ) = .ok (.val (.obj c [r.d])) φ := id rfl
@[simp] theorem kNew_err {c x : Str} {es : List D} : kNew c (.err x es φ) = .err x es φ := id rfl
def kRI (o : Out Φ Fl) : Res Φ := match o with
  | .ok (.rt r) _ φ' => .ok r φ'
  | .err c es _ φ' => .err c es φ'
  | _ => .stuck
@[simp] theorem x_runI {N : Nat} {m : M Φ Fl} {ds : List D} : runI N m ds φ = kRI (m (Sl.emp :: (ds.map Sl.val ++ List.replicate (N - (ds.length + 1)) Sl.emp)) φ) := by
  unfold runI kRI
  cases m (Sl.emp :: (ds.map Sl.val ++ List.replicate (N - (ds.length + 1)) Sl.emp)) φ with
  | ok fl ρ1 φ1 => cases fl <;> rfl
  | err => rfl
  | stuck => rfl
@[simp] theorem kRI_rt {r : R} : kRI (.ok (.rt r) ρ φ) = .ok r φ := id rfl
@[simp] theorem kRI_err {c : Str} {es : List D} : kRI (.err c es ρ φ) = .err c es φ := id rfl
/-! errors that are met -/
def kTry (i : Nat) (hit : Str → Bool) (ns : List Str) (l : List XI) (o : Out Φ Fl) : Out Φ Fl := match o with
  | .err c es ρ1 φ1 => if hit c = true then (match l.mapM (xiD ns es) with
    | some ds => if ds.length ≤ 16777216 ∧ i < ρ1.length then .ok (.rt (.val (.tup ds))) ρ1 φ1 else .stuck
    | none => .stuck) else .err c es ρ1 φ1
  | .ok fl ρ1 φ1 => .ok fl ρ1 φ1
  | .stuck => .stuck
@[simp] theorem x_try {i : Nat} {hit : Str → Bool} {ns : List Str} {l : List XI} {m : M Φ Fl} : mTryRet i hit ns l m ρ φ = kTry i hit ns l (m ρ φ) := by
  unfold mTryRet kTry
  cases m ρ φ <;> rfl
@[simp] theorem kTry_ok {i : Nat} {hit : Str → Bool} {ns : List Str} {l : List XI} {fl : Fl} : kTry i hit ns l (.ok fl ρ φ) = .ok fl ρ φ := id rfl
theorem kTry_err {i : Nat} {hit : Str → Bool} {ns : List Str} {l : List XI} {c : Str} {es ds : List D} (h : hit c = true) (e : l.mapM (xiD ns es) = some ds) (hl : ds.length ≤ 16777216) (hi : i < ρ.length) : kTry i hit ns l (.err c es ρ φ) = .ok (.rt (.val (.tup ds))) ρ φ := by
  unfold kTry
  dsimp only
  rw [if_pos h, e]
  dsimp only
  rw [if_pos ⟨hl, hi⟩]
end DN
namespace L26
open PySem PySem.Spec L2 DN
open PyProof.Rows hiding St
/-! ### the feed -/
structure Fst where
  s : Int
  g : Int
  c : Int
abbrev Ph := Option Fst
def hit_NotUsable (c : Str) : Bool := decide (c = "NotUsable")
def hit_Uneven (c : Str) : Bool := decide (c = "Uneven")
/-- what a feed holds at F -/
def FIn (F : List Addr) (H : Hp) (φ : Ph) : Prop := (φ = none ∧ F = []) ∨ ∃ a st, φ = some st ∧ F = [a] ∧ H a = some (.lst [.int st.s, .int st.g, .int st.c])
def GG (K : PySem.W.Frag) (C : Str → Addr) : Ctx Ph where
  K := K
  cl c := if c = "Board" then some (C "Board", ["_pair"]) else none
  ex c := if c = "NotUsable" then some (C "NotUsable", ["at", "word"]) else if c = "Uneven" then some (C "Uneven", ["place"]) else none
  FI := FIn
  loc F H H' φ h f := by
    rcases f with f | ⟨a, st, h1, h2, h3⟩
    · exact .inl f
    · exact .inr ⟨a, st, h1, h2, by rw [h a (by rw [h2]; simp)]; exact h3⟩
  trk F H φ f a ha := by
    rcases f with f | ⟨x, st, h1, h2, h3⟩
    · rw [f.2] at ha; cases ha
    · rw [h2, List.mem_singleton] at ha
      rw [ha, h3]; simp
  P := []
/-- one drawing -/
def pickF (st : Fst) (n : Int) : Int × Fst :=
  if 0 < st.g ∧ st.c < 60 then (st.g % n, { st with g := st.g / n, c := st.c + 1 })
  else
    let z := (st.s * 39373 + 1787) % 2147483647
    (z / 1019 % n, { st with s := z })
def d_u_law_pick : Fn Ph := fun ds φ => match ds, φ with
  | [.fd, .int n], some st => if (0 ≤ st.s ∧ st.s < 2147483647) ∧ 0 < n ∧ n < 1000000000000000000000000000000000000000000000000000000000000 then .ok (.val (.int (pickF st n).1)) (some (pickF st n).2) else .stuck
  | _, _ => .stuck
/-- the feed from a script -/
def dealF : List Int → Int → Int → Int × Int
  | [], s, g => (s, g)
  | c :: ns, s, g =>
    let g' := if g = 0 ∧ 1000000000000000000 ≤ c then c else g
    let s1 := (s * 52631 + c % 1999841 + 7) % 2147483543
    dealF ns ((s1 * s1 + 101) % 2147483497) g'
def d_u_law_deal : Fn Ph := fun ds φ => match ds, φ with
  | [.scr ns], none => if ns.length ≤ 16777216 then .ok (.val .fd) (some ⟨(dealF ns 88211 0).1, (dealF ns 88211 0).2, 0⟩) else .stuck
  | _, _ => .stuck
def m_u_law_deal : M Ph Fl :=
  (mSeq (mAsg 1 (mV (.int 88211)))
    (mSeq (mAsg 2 (mV (.int 0)))
    (mSeq (mB (mScr (mVar 0)) (mFor (.nm 3)
    (mSeq (mIfS (mAndT (mTst (mBin dEq (mVar 2) (mV (.int 0)))) (mTst (mBin dGe (mVar 3) (mBin dPow (mV (.int 10)) (mV (.int 18))))))
    (mAsg 2 (mVar 3))
    (mP .nx))
    (mSeq (mAsg 1 (mBin dMod (mB (mCons (mBin dAdd (mBin dAdd (mBin dMul (mVar 1) (mV (.int 52631))) (mBin dMod (mB (mCons (mVar 3) mNil) dInt) (mV (.int 1999841)))) (mV (.int 7))) mNil) dInt) (mV (.int 2147483543))))
    (mAsg 1 (mBin dMod (mB (mCons (mBin dAdd (mBin dMul (mVar 1) (mVar 1)) (mV (.int 101))) mNil) dInt) (mV (.int 2147483497))))))))
    (mRet (mB (mCons (mVar 1) (mCons (mVar 2) (mCons (mV (.int 0)) mNil))) dLst)))))
def d0_u_law_deal : Fn Ph := runF 4 m_u_law_deal

def m_u_law_counts : M Ph Fl :=
  (mSeq (mAsg 1 (mBin dIx (mB (mCons (mV (.int 2)) (mCons (mV (.int 3)) (mCons (mV (.int 2)) (mCons (mV (.int 3)) (mCons (mV (.int 4)) (mCons (mV (.int 3)) (mCons (mV (.int 2)) (mCons (mV (.int 5)) mNil)))))))) dTup) (mCall d_u_law_pick (mCons (mVar 0) (mCons (mV (.int 8)) mNil)))))
    (mSeq (mAsg 2 (mB mNil dLst))
    (mSeq (mAsg 3 (mV (.int 1)))
    (mSeq (mB (mRng (mCons (mVar 1) mNil)) (mFor (.nm 4)
    (mSeq (mAsg 5 (mBin dIx (mB (mCons (mV (.int 2)) (mCons (mV (.int 3)) (mCons (mV (.int 2)) (mCons (mV (.int 4)) (mCons (mV (.int 2)) (mCons (mV (.int 3)) (mCons (mV (.int 2)) (mCons (mV (.int 1)) mNil)))))))) dTup) (mCall d_u_law_pick (mCons (mVar 0) (mCons (mV (.int 8)) mNil)))))
    (mSeq (mIfS (mTst (mBin dGt (mBin dMul (mVar 3) (mVar 5)) (mV (.int 40))))
    (mAsg 5 (mIf (mTst (mBin dLt (mVar 3) (mV (.int 21)))) (mV (.int 2)) (mV (.int 1))))
    (mP .nx))
    (mSeq (mDrop (mApp 2 (mVar 5)))
    (mAsg 3 (mBin dMul (mVar 3) (mVar 5))))))))
    (mRet (mB (mCons (mVar 2) mNil) dTuple))))))
def d_u_law_counts : Fn Ph := runF 6 m_u_law_counts

def m_u_law_places : M Ph Fl :=
  (mSeq (mAsg 1 (mB (mCons (mB mNil dTup) mNil) dLst))
    (mSeq (mB (mIt (mVar 0)) (mFor (.nm 2)
    (mSeq (mAsg 3 (mB mNil dLst))
    (mSeq (mB (mIt (mVar 1)) (mFor (.nm 4)
    (mAsg 3 (mBin dAdd (mVar 3) (mLc (.nm 5) [5] (mRng (mCons (mVar 2) mNil)) mYes (mBin dAdd (mVar 4) (mB (mCons (mVar 5) mNil) dTup)))))))
    (mAsg 1 (mVar 3))))))
    (mRet (mVar 1))))
def d_u_law_places : Fn Ph := runF 6 m_u_law_places

def m_u_law_choice : M Ph Fl :=
  (mSeq (mAsg 3 (mV (.int 0)))
    (mSeq (mB (mRng (mCons (mLenV 0) mNil)) (mFor (.nm 4)
    (mIfS (mTst (mBin dNe (mVar 4) (mVar 1)))
    (mAsg 3 (mBin dAdd (mBin dMul (mVar 3) (mIxV 0 (mVar 4))) (mIxV 2 (mVar 4))))
    (mP .nx))))
    (mRet (mVar 3))))
def d_u_law_choice : Fn Ph := runF 5 m_u_law_choice

def m_u_law_board : M Ph Fl :=
  (mSeq (mAsg 1 (mCall d_u_law_counts (mCons (mVar 0) mNil)))
    (mSeq (mAsg 2 (mCall d_u_law_places (mCons (mVar 1) mNil)))
    (mSeq (mAsg 3 (mLc (.nm 4) [4] (mIt (mVar 2)) mYes (mV (.int 0))))
    (mSeq (mB (mRng (mCons (mLenV 1) mNil)) (mFor (.nm 5)
    (mSeq (mAsg 6 (mLc (.nm 4) [4] (mIt (mVar 2)) mYes (mBin dSub (mCall d_u_law_pick (mCons (mVar 0) (mCons (mV (.int 9)) mNil))) (mV (.int 4)))))
    (mB (mRng (mCons (mLenV 2) mNil)) (mFor (.nm 7)
    (mSetIx 3 (mVar 7) (mBin dAdd (mIxV 3 (mVar 7)) (mIxV 6 (mCall d_u_law_choice (mCons (mVar 1) (mCons (mVar 5) (mCons (mIxV 2 (mVar 7)) mNil))))))))))))
    (mSeq (mAsg 8 (mCall d_u_law_pick (mCons (mVar 0) (mCons (mV (.int 6)) mNil))))
    (mSeq (mIfS (mTst (mBin dEq (mVar 8) (mV (.int 3))))
    (mSeq (mAsg 9 (mIf (mTst (mBin dEq (mCall d_u_law_pick (mCons (mVar 0) (mCons (mV (.int 3)) mNil))) (mV (.int 0)))) (mBin dSub (mLenV 2) (mV (.int 1))) (mCall d_u_law_pick (mCons (mVar 0) (mCons (mLenV 2) mNil)))))
    (mSetIx 3 (mVar 9) (mBin dAdd (mIxV 3 (mVar 9)) (mBin dIx (mB (mCons (mV (.int 1)) (mCons (mUn dNeg (mV (.int 1))) (mCons (mV (.int 4)) (mCons (mUn dNeg (mV (.int 3))) mNil)))) dTup) (mCall d_u_law_pick (mCons (mVar 0) (mCons (mV (.int 4)) mNil)))))))
    (mP .nx))
    (mSeq (mIfS (mTst (mBin dEq (mVar 8) (mV (.int 4))))
    (mSeq (mAsg 10 (mLc (.nm 11) [11] (mIt (mVar 1)) mYes (mCall d_u_law_pick (mCons (mVar 0) (mCons (mVar 11) mNil)))))
    (mSeq (mAsg 12 (mBin dAdd (mV (.int 1)) (mCall d_u_law_pick (mCons (mVar 0) (mCons (mV (.int 5)) mNil)))))
    (mB (mRng (mCons (mLenV 2) mNil)) (mFor (.nm 7)
    (mIfS (mTst (mBin dEq (mB (mCons (mLc (.nm 13) [13] (mRng (mCons (mLenV 1) mNil)) (mAndT (mTst (mBin dNe (mBin dIx (mIxV 2 (mVar 7)) (mVar 13)) (mV (.int 0)))) (mTst (mBin dNe (mBin dIx (mIxV 2 (mVar 7)) (mVar 13)) (mIxV 10 (mVar 13))))) (mVar 13)) mNil) dLen) (mV (.int 0))))
    (mSetIx 3 (mVar 7) (mBin dAdd (mIxV 3 (mVar 7)) (mBin dMul (mVar 12) (mBin dSub (mV (.int 1)) (mBin dMul (mV (.int 2)) (mB (mCons (mBin dAnd (mB (mCons (mIxV 2 (mVar 7)) mNil) dSum) (mV (.int 1))) mNil) dInt))))))
    (mP .nx))))))
    (mP .nx))
    (mSeq (mIfS (mTst (mBin dEq (mVar 8) (mV (.int 5))))
    (mAsg 3 (mLc (.nm 4) [4] (mIt (mVar 2)) mYes (mBin dSub (mCall d_u_law_pick (mCons (mVar 0) (mCons (mV (.int 19)) mNil))) (mV (.int 9)))))
    (mP .nx))
    (mSeq (mIfS (mTst (mBin dEq (mCall d_u_law_pick (mCons (mVar 0) (mCons (mV (.int 16)) mNil))) (mV (.int 7))))
    (mAsg 3 (mLc (.nm 14) [14] (mIt (mVar 3)) mYes (mBin dMul (mVar 14) (mBin dPow (mV (.int 10)) (mV (.int 28))))))
    (mP .nx))
    (mRet (mB (mCons (mVar 1) (mCons (mB (mCons (mVar 3) mNil) dTuple) mNil)) dTup)))))))))))
def d_u_law_board : Fn Ph := runF 15 m_u_law_board

def m_u_law_at : M Ph Fl :=
  (mSeq (mAsg 2 (mV (.int 0)))
    (mSeq (mB (mRng (mCons (mLenV 0) mNil)) (mFor (.nm 3)
    (mAsg 2 (mBin dAdd (mBin dMul (mVar 2) (mIxV 0 (mVar 3))) (mIxV 1 (mVar 3))))))
    (mRet (mVar 2))))
def d_u_law_at : Fn Ph := runF 4 m_u_law_at

def m_u_law_mixed : M Ph Fl :=
  (mSeq (mAsg 3 (mLenV 1))
    (mSeq (mAsg 4 (mV (.int 0)))
    (mSeq (mB (mRng (mCons (mBin dShl (mV (.int 1)) (mVar 3)) mNil)) (mFor (.nm 5)
    (mSeq (mAsg 6 (mB mNil dLst))
    (mSeq (mAsg 7 (mV (.int 1)))
    (mSeq (mB (mRng (mCons (mVar 3) mNil)) (mFor (.nm 8)
    (mSeq (mAsg 9 (mBin dGt (mBin dAnd (mVar 5) (mBin dShl (mV (.int 1)) (mVar 8))) (mV (.int 0))))
    (mSeq (mDrop (mApp 6 (mIf (mTst (mVar 9)) (mIxV 2 (mVar 8)) (mIxV 1 (mVar 8)))))
    (mAsg 7 (mIf (mTst (mVar 9)) (mVar 7) (mUn dNeg (mVar 7))))))))
    (mAsg 4 (mBin dAdd (mVar 4) (mBin dMul (mVar 7) (mBin dIx (mIxV 0 (mV (.int 1))) (mCall d_u_law_at (mCons (mIxV 0 (mV (.int 0))) (mCons (mVar 6) mNil))))))))))))
    (mRet (mVar 4)))))
def d_u_law_mixed : Fn Ph := runF 10 m_u_law_mixed

def m_u_law_uneven : M Ph Fl :=
  (mSeq (mAsg 1 (mB (mCons (mLc (.nm 2) [2] (mIt (mIxV 0 (mV (.int 0)))) mYes (mV (.int 0))) mNil) dTuple))
    (mSeq (mB (mIt (mCall d_u_law_places (mCons (mIxV 0 (mV (.int 0))) mNil))) (mFor (.nm 3)
    (mIfS (mTst (mBin dNe (mCall d_u_law_mixed (mCons (mVar 0) (mCons (mVar 1) (mCons (mVar 3) mNil)))) (mV (.int 0))))
    (mRet (mVar 3))
    (mP .nx))))
    (mRet (mV .non))))
def d_u_law_uneven : Fn Ph := runF 4 m_u_law_uneven

def m_board_size : M Ph Fl :=
  (mSeq (mAsg 1 (mV (.int 1)))
    (mSeq (mB (mIt (mVar 0)) (mFor (.nm 2)
    (mAsg 1 (mBin dMul (mVar 1) (mVar 2)))))
    (mRet (mVar 1))))
def d_board_size : Fn Ph := runF 3 m_board_size

def m_firsts_by_place : M Ph Fl :=
  (mSeq (mAsg 2 (mCall d_board_size (mCons (mSl (mVar 0) (mPart (mBin dAdd (mVar 1) (mV (.int 1)))) mNoP) mNil)))
    (mSeq (mAsg 3 (mBin dMul (mVar 2) (mIxV 0 (mVar 1))))
    (mRet (mLc (.nm 4) [4] (mRng (mCons (mCall d_board_size (mCons (mVar 0) mNil)) mNil)) mYes (mBin dAdd (mBin dMul (mBin dDiv (mVar 4) (mVar 3)) (mVar 3)) (mBin dMod (mVar 4) (mVar 2)))))))
def d_firsts_by_place : Fn Ph := runF 5 m_firsts_by_place

def m_flattened : M Ph Fl :=
  (mSeq (mAsg 2 (mB (mCons (mVar 1) mNil) dList))
    (mSeq (mAsg 3 (mB mNil dLst))
    (mSeq (mB (mRng (mCons (mLenV 0) mNil)) (mFor (.nm 4)
    (mSeq (mAsg 5 (mCall d_firsts_by_place (mCons (mVar 0) (mCons (mVar 4) mNil))))
    (mSeq (mDrop (mApp 3 (mLc (.tp [(.nm 6), (.nm 7)]) [6, 7] (mEnum (mCons (mVar 5) mNil)) (mTst (mBin dEq (mVar 6) (mVar 7))) (mIxV 2 (mVar 6)))))
    (mAsg 2 (mLc (.tp [(.nm 8), (.nm 7)]) [8, 7] (mZip (mCons (mVar 2) (mCons (mVar 5) mNil))) mYes (mBin dSub (mVar 8) (mIxV 2 (mVar 7)))))))))
    (mRet (mB (mCons (mVar 3) (mCons (mVar 2) mNil)) dTup)))))
def d_flattened : Fn Ph := runF 9 m_flattened

def m_row_tuples : M Ph Fl :=
  (mSeq (mAsg 1 (mB (mCons (mB mNil dTup) mNil) dLst))
    (mSeq (mB (mIt (mVar 0)) (mFor (.nm 2)
    (mAsg 1 (mLc2 (.nm 3) [3, 4] (mIt (mVar 1)) mYes (.nm 4) [4] (mRng (mCons (mVar 2) mNil)) mYes (mBin dAdd (mVar 3) (mB (mCons (mVar 4) mNil) dTup))))))
    (mRet (mVar 1))))
def d_row_tuples : Fn Ph := runF 5 m_row_tuples

def m_uneven_place : M Ph Fl :=
  (mSeq (mAsgP (.tp [(.nm 1), (.nm 2)]) (mVar 0))
    (mSeq (mAsg 3 (mBin dIx (mCall d_flattened (mCons (mVar 1) (mCons (mVar 2) mNil))) (mV (.int 1))))
    (mSeq (mB (mZip (mCons (mCall d_row_tuples (mCons (mVar 1) mNil)) (mCons (mVar 3) mNil))) (mFor (.tp [(.nm 4), (.nm 5)])
    (mIfS (mTst (mBin dNe (mVar 5) (mV (.int 0))))
    (mRet (mVar 4))
    (mP .nx))))
    (mRet (mV .non)))))
def d_uneven_place : Fn Ph := runF 6 m_uneven_place

def m_flat_tables : M Ph Fl :=
  (mSeq (mAsgP (.tp [(.nm 1), (.nm 2)]) (mVar 0))
    (mSeq (mAsg 3 (mCall d_uneven_place (mCons (mVar 0) mNil)))
    (mSeq (mIfS (mTst (mUn dNotN (mVar 3)))
    (mRaise "Uneven" (mCons (mVar 3) mNil))
    (mP .nx))
    (mSeq (mAsg 4 (mBin dIx (mCall d_flattened (mCons (mVar 1) (mCons (mVar 2) mNil))) (mV (.int 0))))
    (mSeq (mAsg 5 (mBin dSub (mLenV 1) (mV (.int 1))))
    (mRet (mB (mCons (mLc (.nm 7) [7] (mIt (mVar 4)) mYes (mB (mCons (mLc (.nm 6) [6] (mIt (mVar 7)) mYes (mB (mCons (mBin dMul (mVar 5) (mVar 6)) (mCons (mV (.int 1)) mNil)) dTup)) mNil) dTuple)) mNil) dTuple)))))))
def d_flat_tables : Fn Ph := runF 8 m_flat_tables

def m_u_law_flat : M Ph Fl :=
  (mTryRet 1 hit_Uneven ["place"] [.k "uneven", .f "place"]
    (mRet (mB (mCons (mV (.str "flat")) (mCons (mCallK d_flat_tables [0] (mCons (mVar 0) mNil)) mNil)) dTup)))
def d_u_law_flat : Fn Ph := runF 2 m_u_law_flat

def m_u_law_integer : M Ph Fl :=
  (mRet (mAnd (mUn (dIsi "int") (mVar 0)) (mUn dNot (mUn (dIsi "bool") (mVar 0)))))
def d_u_law_integer : Fn Ph := runF 1 m_u_law_integer

def m_u_law_same (rec : Fn Ph) : M Ph Fl :=
  (mSeq (mIfS (mTst (mUn (dIsi "tuple") (mVar 1)))
    (mSeq (mIfS (mOrT (mNotT (mTst (mUn (dIsi "tuple") (mVar 0)))) (mTst (mBin dNe (mLenV 0) (mLenV 1))))
    (mRet (mV (.bl false)))
    (mP .nx))
    (mSeq (mB (mRng (mCons (mLenV 1) mNil)) (mFor (.nm 2)
    (mIfS (mNotT (mTst (mCall rec (mCons (mIxV 0 (mVar 2)) (mCons (mIxV 1 (mVar 2)) mNil)))))
    (mRet (mV (.bl false)))
    (mP .nx))))
    (mRet (mV (.bl true)))))
    (mP .nx))
    (mSeq (mIfS (mTst (mUn dIsN (mVar 1)))
    (mRet (mUn dIsN (mVar 0)))
    (mP .nx))
    (mSeq (mIfS (mTst (mBin dIs (mVar 1) (mV (.bl true))))
    (mRet (mBin dIs (mVar 0) (mV (.bl true))))
    (mP .nx))
    (mSeq (mIfS (mTst (mBin dIs (mVar 1) (mV (.bl false))))
    (mRet (mBin dIs (mVar 0) (mV (.bl false))))
    (mP .nx))
    (mSeq (mIfS (mTst (mUn (dIsi "str") (mVar 1)))
    (mRet (mAnd (mUn (dIsi "str") (mVar 0)) (mBin dEq (mVar 0) (mVar 1))))
    (mP .nx))
    (mRet (mAnd (mCall d_u_law_integer (mCons (mVar 0) mNil)) (mBin dEq (mVar 0) (mVar 1)))))))))
def d_u_law_sameN : Nat → Fn Ph
  | 0 => fnStuck
  | k + 1 => runF 3 (m_u_law_same (d_u_law_sameN k))
def d_u_law_same : Fn Ph := d_u_law_sameN 4

def m_is_integer : M Ph Fl :=
  (mRet (mAnd (mUn (dIsi "int") (mVar 0)) (mUn dNot (mUn (dIsi "bool") (mVar 0)))))
def d_is_integer : Fn Ph := runF 1 m_is_integer

def m_are_rows : M Ph Fl :=
  (mSeq (mIfS (mOrT (mNotT (mTst (mUn (dIsi "tuple") (mVar 1)))) (mTst (mBin dNe (mLenV 1) (mLenV 0))))
    (mRet (mV (.bl false)))
    (mP .nx))
    (mSeq (mB (mZip (mCons (mVar 0) (mCons (mVar 1) mNil))) (mFor (.tp [(.nm 2), (.nm 3)])
    (mIfS (mOrT (mNotT (mTst (mCall d_is_integer (mCons (mVar 3) mNil)))) (mOrT (mTst (mBin dLt (mVar 3) (mV (.int 0)))) (mTst (mBin dGe (mVar 3) (mVar 2)))))
    (mRet (mV (.bl false)))
    (mP .nx))))
    (mRet (mV (.bl true)))))
def d_are_rows : Fn Ph := runF 4 m_are_rows

def m_mixed_at : M Ph Fl :=
  (mSeq (mAsgP (.tp [(.nm 3), (.nm 4)]) (mVar 0))
    (mSeq (mIfS (mNotT (mTst (mCall d_are_rows (mCons (mVar 3) (mCons (mVar 1) mNil)))))
    (mRaise "NotUsable" (mCons (mV (.str "here")) (mCons (mUn dNeg (mV (.int 1))) mNil)))
    (mP .nx))
    (mSeq (mIfS (mNotT (mTst (mCall d_are_rows (mCons (mVar 3) (mCons (mVar 2) mNil)))))
    (mRaise "NotUsable" (mCons (mV (.str "there")) (mCons (mUn dNeg (mV (.int 1))) mNil)))
    (mP .nx))
    (mSeq (mAsg 5 (mB (mCons (mB (mCons (mV (.int 0)) (mCons (mV (.int 1)) mNil)) dTup) mNil) dLst))
    (mSeq (mB (mZip3 (mCons (mVar 3) (mCons (mVar 1) (mCons (mVar 2) mNil)))) (mFor (.tp [(.nm 6), (.nm 7), (.nm 8)])
    (mSeq (mAsg 9 (mLc (.tp [(.nm 10), (.nm 11)]) [10, 11] (mIt (mVar 5)) mYes (mB (mCons (mBin dAdd (mBin dMul (mVar 10) (mVar 6)) (mVar 7)) (mCons (mUn dNeg (mVar 11)) mNil)) dTup)))
    (mAsg 5 (mBin dAdd (mVar 9) (mLc (.tp [(.nm 10), (.nm 11)]) [10, 11] (mIt (mVar 5)) mYes (mB (mCons (mBin dAdd (mBin dMul (mVar 10) (mVar 6)) (mVar 8)) (mCons (mVar 11) mNil)) dTup)))))))
    (mRet (mB (mCons (mLc (.tp [(.nm 12), (.nm 11)]) [12, 11] (mIt (mVar 5)) mYes (mBin dMul (mVar 11) (mIxV 4 (mVar 12)))) mNil) dSum)))))))
def d_mixed_at : Fn Ph := runF 13 m_mixed_at

def m_Board_mixed : M Ph Fl :=
  (mRet (mCall d_mixed_at (mCons (mFld "Board" 0 (mVar 0)) (mCons (mVar 1) (mCons (mVar 2) mNil)))))
def d_Board_mixed : Fn Ph := runF 3 m_Board_mixed

def m_board_fault : M Ph Fl :=
  (mSeq (mIfS (mOrT (mNotT (mTst (mUn (dIsi "tuple") (mVar 0)))) (mTst (mBin dNe (mLenV 0) (mV (.int 2)))))
    (mRet (mB (mCons (mV (.str "shape")) (mCons (mUn dNeg (mV (.int 1))) mNil)) dTup))
    (mP .nx))
    (mSeq (mAsgP (.tp [(.nm 1), (.nm 2)]) (mVar 0))
    (mSeq (mIfS (mOrT (mNotT (mTst (mUn (dIsi "tuple") (mVar 1)))) (mTst (mBin dLt (mLenV 1) (mV (.int 2)))))
    (mRet (mB (mCons (mV (.str "counts")) (mCons (mUn dNeg (mV (.int 1))) mNil)) dTup))
    (mP .nx))
    (mSeq (mB (mIt (mVar 1)) (mFor (.nm 3)
    (mIfS (mOrT (mNotT (mTst (mCall d_is_integer (mCons (mVar 3) mNil)))) (mTst (mBin dLt (mVar 3) (mV (.int 1)))))
    (mRet (mB (mCons (mV (.str "counts")) (mCons (mUn dNeg (mV (.int 1))) mNil)) dTup))
    (mP .nx))))
    (mSeq (mIfS (mNotT (mTst (mUn (dIsi "tuple") (mVar 2))))
    (mRet (mB (mCons (mV (.str "worths")) (mCons (mUn dNeg (mV (.int 1))) mNil)) dTup))
    (mP .nx))
    (mSeq (mAsg 4 (mV (.int 1)))
    (mSeq (mB (mIt (mVar 1)) (mFor (.nm 3)
    (mSeq (mAsg 4 (mBin dMul (mVar 4) (mVar 3)))
    (mIfS (mTst (mBin dGt (mVar 4) (mLenV 2)))
    (mRet (mB (mCons (mV (.str "worths")) (mCons (mUn dNeg (mV (.int 1))) mNil)) dTup))
    (mP .nx)))))
    (mSeq (mIfS (mTst (mBin dNe (mVar 4) (mLenV 2)))
    (mRet (mB (mCons (mV (.str "worths")) (mCons (mUn dNeg (mV (.int 1))) mNil)) dTup))
    (mP .nx))
    (mSeq (mB (mEnum (mCons (mVar 2) mNil)) (mFor (.tp [(.nm 5), (.nm 6)])
    (mIfS (mNotT (mTst (mCall d_is_integer (mCons (mVar 6) mNil))))
    (mRet (mB (mCons (mV (.str "worth")) (mCons (mVar 5) mNil)) dTup))
    (mP .nx))))
    (mRet (mV .non)))))))))))
def d_board_fault : Fn Ph := runF 7 m_board_fault

def m_Board___init__ : M Ph Fl := mInit 3 (mCall d_board_fault (mCons (mB (mCons (mVar 1) (mCons (mVar 2) mNil)) dTup) mNil))
  (mTst (mUn dNotN (mVar 3)))
  (mRaise "NotUsable" (mCons (mIf (mTst (mBin dEq (mIxV 3 (mV (.int 0))) (mV (.str "counts")))) (mV (.str "counts")) (mV (.str "worths"))) (mCons (mUn dNeg (mV (.int 1))) mNil)))
  (mB (mCons (mVar 1) (mCons (mVar 2) mNil)) dTup)
def d_Board___init__ : Fn Ph := runI 4 m_Board___init__

def m_u_law_asked : M Ph Fl :=
  (mTryRet 4 hit_NotUsable ["at", "word"] [.k "refused", .f "word", .f "at"]
    (mSeq (mIfS (mTst (mVar 3))
    (mRet (mMeth "Board" d_Board_mixed [1, 0] (mCall (newF "Board" d_Board___init__) (mCons (mIxV 0 (mV (.int 0))) (mCons (mIxV 0 (mV (.int 1))) mNil))) (mCons (mVar 2) (mCons (mVar 1) mNil))))
    (mP .nx))
    (mRet (mCall d_mixed_at (mCons (mVar 0) (mCons (mVar 1) (mCons (mVar 2) mNil)))))))
def d_u_law_asked : Fn Ph := runF 5 m_u_law_asked

def m_u_law_differences : M Ph Fl :=
  (mSeq (mAsg 3 (mCall d_u_law_places (mCons (mIxV 1 (mV (.int 0))) mNil)))
    (mSeq (mAsg 4 (mIxV 3 (mV (.int 0))))
    (mSeq (mAsg 5 (mIxV 3 (mUn dNeg (mV (.int 1)))))
    (mSeq (mAsg 6 (mB (mCons (mB (mCons (mVar 4) (mCons (mVar 5) mNil)) dTup) (mCons (mB (mCons (mVar 5) (mCons (mVar 4) mNil)) dTup) (mCons (mB (mCons (mVar 4) (mCons (mIf (mTst (mUn dNotN (mVar 2))) (mVar 2) (mVar 5)) mNil)) dTup) (mCons (mB (mCons (mVar 5) (mCons (mVar 5) mNil)) dTup) mNil)))) dLst))
    (mSeq (mB (mRng (mCons (mV (.int 6)) mNil)) (mFor (.nm 7)
    (mSeq (mAsg 8 (mIxV 3 (mCall d_u_law_pick (mCons (mVar 0) (mCons (mLenV 3) mNil)))))
    (mSeq (mAsg 9 (mIxV 3 (mCall d_u_law_pick (mCons (mVar 0) (mCons (mLenV 3) mNil)))))
    (mSeq (mIfS (mTst (mBin dEq (mBin dAnd (mVar 7) (mV (.int 1))) (mV (.int 1))))
    (mSeq (mAsg 10 (mLc (.nm 11) [11] (mRng (mCons (mLenV 8) mNil)) mYes (mBin dMod (mB (mCons (mBin dAdd (mIxV 8 (mVar 11)) (mV (.int 1))) mNil) dInt) (mBin dIx (mIxV 1 (mV (.int 0))) (mVar 11)))))
    (mAsg 9 (mB (mCons (mVar 10) mNil) dTuple)))
    (mP .nx))
    (mSeq (mDrop (mApp 6 (mB (mCons (mVar 8) (mCons (mVar 9) mNil)) dTup)))
    (mDrop (mApp 6 (mB (mCons (mVar 9) (mCons (mVar 8) mNil)) dTup)))))))))
    (mSeq (mB (mRng (mCons (mLenV 6) mNil)) (mFor (.nm 7)
    (mSeq (mAsg 12 (mCall d_u_law_mixed (mCons (mVar 1) (mCons (mBin dIx (mIxV 6 (mVar 7)) (mV (.int 0))) (mCons (mBin dIx (mIxV 6 (mVar 7)) (mV (.int 1))) mNil)))))
    (mIfS (mNotT (mTst (mCall d_u_law_same (mCons (mCall d_u_law_asked (mCons (mVar 1) (mCons (mBin dIx (mIxV 6 (mVar 7)) (mV (.int 0))) (mCons (mBin dIx (mIxV 6 (mVar 7)) (mV (.int 1))) (mCons (mBin dEq (mBin dAnd (mVar 7) (mV (.int 3))) (mV (.int 2))) mNil))))) (mCons (mVar 12) mNil)))))
    (mRet (mV (.bl false)))
    (mP .nx)))))
    (mSeq (mAsg 13 (mCallK d_mixed_at [1, 2, 0] (mCons (mVar 4) (mCons (mVar 1) (mCons (mVar 5) mNil)))))
    (mRet (mCall d_u_law_same (mCons (mVar 13) (mCons (mCall d_u_law_mixed (mCons (mVar 1) (mCons (mVar 5) (mCons (mVar 4) mNil)))) mNil)))))))))))
def d_u_law_differences : Fn Ph := runF 14 m_u_law_differences

def m_u_law_refused : M Ph Fl :=
  (mSeq (mAsg 2 (mBin dIx (mCall d_u_law_places (mCons (mIxV 1 (mV (.int 0))) mNil)) (mUn dNeg (mV (.int 1)))))
    (mSeq (mAsg 3 (mCall d_u_law_pick (mCons (mVar 0) (mCons (mLenV 2) mNil))))
    (mSeq (mAsg 4 (mB (mCons (mB (mCons (mVar 2) mNil) dList) (mCons (mSl (mVar 2) (mPart (mV (.int 1))) mNoP) (mCons (mBin dAdd (mVar 2) (mB (mCons (mV (.int 0)) mNil) dTup)) (mCons (mB mNil dTup) (mCons (mV .non) (mCons (mV (.int 0)) (mCons (mV (.str "00")) mNil))))))) dLst))
    (mSeq (mB (mIt (mB (mCons (mBin dIx (mIxV 1 (mV (.int 0))) (mVar 3)) (mCons (mUn dNeg (mV (.int 1))) (mCons (mV (.bl true)) (mCons (mV (.bl false)) (mCons (mV .non) (mCons (mV (.str "0")) (mCons (mB (mCons (mV (.int 0)) mNil) dTup) mNil))))))) dTup)) (mFor (.nm 5)
    (mDrop (mApp 4 (mBin dAdd (mBin dAdd (mSl (mVar 2) mNoP (mPart (mVar 3))) (mB (mCons (mVar 5) mNil) dTup)) (mSl (mVar 2) (mPart (mBin dAdd (mVar 3) (mV (.int 1)))) mNoP))))))
    (mSeq (mB (mRng (mCons (mLenV 4) mNil)) (mFor (.nm 6)
    (mSeq (mAsg 7 (mBin dEq (mBin dAnd (mVar 6) (mV (.int 1))) (mV (.int 1))))
    (mSeq (mIfS (mNotT (mTst (mCall d_u_law_same (mCons (mCall d_u_law_asked (mCons (mVar 1) (mCons (mIxV 4 (mVar 6)) (mCons (mVar 2) (mCons (mVar 7) mNil))))) (mCons (mB (mCons (mV (.str "refused")) (mCons (mV (.str "here")) (mCons (mUn dNeg (mV (.int 1))) mNil))) dTup) mNil)))))
    (mRet (mV (.bl false)))
    (mP .nx))
    (mSeq (mIfS (mNotT (mTst (mCall d_u_law_same (mCons (mCall d_u_law_asked (mCons (mVar 1) (mCons (mVar 2) (mCons (mIxV 4 (mVar 6)) (mCons (mUn dNot (mVar 7)) mNil))))) (mCons (mB (mCons (mV (.str "refused")) (mCons (mV (.str "there")) (mCons (mUn dNeg (mV (.int 1))) mNil))) dTup) mNil)))))
    (mRet (mV (.bl false)))
    (mP .nx))
    (mIfS (mNotT (mTst (mCall d_u_law_same (mCons (mCall d_u_law_asked (mCons (mVar 1) (mCons (mIxV 4 (mVar 6)) (mCons (mIxV 4 (mBin dSub (mBin dSub (mLenV 4) (mV (.int 1))) (mVar 6))) (mCons (mV (.bl false)) mNil))))) (mCons (mB (mCons (mV (.str "refused")) (mCons (mV (.str "here")) (mCons (mUn dNeg (mV (.int 1))) mNil))) dTup) mNil)))))
    (mRet (mV (.bl false)))
    (mP .nx)))))))
    (mRet (mV (.bl true))))))))
def d_u_law_refused : Fn Ph := runF 8 m_u_law_refused

def m_Board_even : M Ph Fl :=
  (mRet (mUn dIsN (mCall d_uneven_place (mCons (mFld "Board" 0 (mVar 0)) mNil))))
def d_Board_even : Fn Ph := runF 1 m_Board_even

def m_u_law_is_quotient : M Ph Fl :=
  (mSeq (mIfS (mOrT (mNotT (mTst (mUn (dIsi "tuple") (mVar 0)))) (mTst (mBin dNe (mLenV 0) (mV (.int 2)))))
    (mRet (mV (.bl false)))
    (mP .nx))
    (mSeq (mIfS (mOrT (mNotT (mTst (mCall d_u_law_integer (mCons (mIxV 0 (mV (.int 0))) mNil)))) (mOrT (mNotT (mTst (mCall d_u_law_integer (mCons (mIxV 0 (mV (.int 1))) mNil)))) (mTst (mBin dLt (mIxV 0 (mV (.int 1))) (mV (.int 1))))))
    (mRet (mV (.bl false)))
    (mP .nx))
    (mSeq (mAsg 1 (mB (mCons (mIxV 0 (mV (.int 0))) mNil) dAbs))
    (mSeq (mAsg 2 (mIxV 0 (mV (.int 1))))
    (mSeq (mWh (mTst (mBin dGt (mVar 2) (mV (.int 0))))
    (mPar 1 2 (mCons (mVar 2) (mCons (mBin dMod (mB (mCons (mVar 1) mNil) dInt) (mVar 2)) mNil))))
    (mRet (mBin dEq (mVar 1) (mV (.int 1)))))))))
def d_u_law_is_quotient : Fn Ph := runF 3 m_u_law_is_quotient

def m_u_law_is_flat : M Ph Fl :=
  (mSeq (mAsg 2 (mIxV 0 (mV (.int 0))))
    (mSeq (mAsg 3 (mLenV 2))
    (mSeq (mIfS (mOrT (mNotT (mTst (mUn (dIsi "tuple") (mVar 1)))) (mTst (mBin dNe (mLenV 1) (mVar 3))))
    (mRet (mV (.bl false)))
    (mP .nx))
    (mSeq (mB (mRng (mCons (mVar 3) mNil)) (mFor (.nm 4)
    (mSeq (mAsg 5 (mB (mCons (mCall d_u_law_places (mCons (mBin dAdd (mSl (mVar 2) mNoP (mPart (mVar 4))) (mSl (mVar 2) (mPart (mBin dAdd (mVar 4) (mV (.int 1)))) mNoP)) mNil)) mNil) dLen))
    (mSeq (mIfS (mOrT (mNotT (mTst (mUn (dIsi "tuple") (mIxV 1 (mVar 4))))) (mTst (mBin dNe (mB (mCons (mIxV 1 (mVar 4)) mNil) dLen) (mVar 5))))
    (mRet (mV (.bl false)))
    (mP .nx))
    (mIfS (mTst (mBin dGt (mB (mCons (mLc (.nm 6) [6] (mIt (mIxV 1 (mVar 4))) (mNotT (mTst (mCall d_u_law_is_quotient (mCons (mVar 6) mNil)))) (mVar 6)) mNil) dLen) (mV (.int 0))))
    (mRet (mV (.bl false)))
    (mP .nx))))))
    (mSeq (mAsg 7 (mCall d_u_law_places (mCons (mVar 2) mNil)))
    (mSeq (mB (mRng (mCons (mLenV 7) mNil)) (mFor (.nm 8)
    (mSeq (mAsg 9 (mBin dMul (mBin dSub (mV (.int 1)) (mVar 3)) (mBin dIx (mIxV 0 (mV (.int 1))) (mVar 8))))
    (mSeq (mAsg 10 (mV (.int 1)))
    (mSeq (mB (mRng (mCons (mVar 3) mNil)) (mFor (.nm 4)
    (mSeq (mAsg 6 (mBin dIx (mIxV 1 (mVar 4)) (mCall d_u_law_choice (mCons (mVar 2) (mCons (mVar 4) (mCons (mIxV 7 (mVar 8)) mNil))))))
    (mSeq (mAsg 9 (mBin dAdd (mBin dMul (mVar 9) (mIxV 6 (mV (.int 1)))) (mBin dMul (mIxV 6 (mV (.int 0))) (mVar 10))))
    (mAsg 10 (mBin dMul (mVar 10) (mIxV 6 (mV (.int 1)))))))))
    (mIfS (mTst (mBin dNe (mVar 9) (mV (.int 0))))
    (mRet (mV (.bl false)))
    (mP .nx)))))))
    (mRet (mV (.bl true)))))))))
def d_u_law_is_flat : Fn Ph := runF 11 m_u_law_is_flat

def m_common_divisor : M Ph Fl :=
  (mSeq (mPar 0 1 (mCons (mB (mCons (mVar 0) mNil) dAbs) (mCons (mB (mCons (mVar 1) mNil) dAbs) mNil)))
    (mSeq (mWh (mTst (mBin dNe (mVar 1) (mV (.int 0))))
    (mPar 0 1 (mCons (mVar 1) (mCons (mBin dMod (mVar 0) (mVar 1)) mNil))))
    (mRet (mVar 0))))
def d_common_divisor : Fn Ph := runF 2 m_common_divisor

def m_is_quotient : M Ph Fl :=
  (mSeq (mIfS (mOrT (mNotT (mTst (mUn (dIsi "tuple") (mVar 0)))) (mTst (mBin dNe (mLenV 0) (mV (.int 2)))))
    (mRet (mV (.bl false)))
    (mP .nx))
    (mSeq (mAsgP (.tp [(.nm 1), (.nm 2)]) (mVar 0))
    (mSeq (mIfS (mOrT (mNotT (mTst (mCall d_is_integer (mCons (mVar 1) mNil)))) (mOrT (mNotT (mTst (mCall d_is_integer (mCons (mVar 2) mNil)))) (mTst (mBin dLt (mVar 2) (mV (.int 1))))))
    (mRet (mV (.bl false)))
    (mP .nx))
    (mRet (mBin dEq (mCall d_common_divisor (mCons (mVar 1) (mCons (mVar 2) mNil))) (mV (.int 1)))))))
def d_is_quotient : Fn Ph := runF 3 m_is_quotient

def m_are_quotients : M Ph Fl :=
  (mSeq (mIfS (mOrT (mNotT (mTst (mUn (dIsi "tuple") (mVar 1)))) (mTst (mBin dNe (mLenV 1) (mVar 0))))
    (mRet (mV (.bl false)))
    (mP .nx))
    (mSeq (mB (mIt (mVar 1)) (mFor (.nm 2)
    (mIfS (mNotT (mTst (mCall d_is_quotient (mCons (mVar 2) mNil))))
    (mRet (mV (.bl false)))
    (mP .nx))))
    (mRet (mV (.bl true)))))
def d_are_quotients : Fn Ph := runF 3 m_are_quotients

def m_others_counts : M Ph Fl :=
  (mRet (mBin dAdd (mSl (mVar 0) mNoP (mPart (mVar 1))) (mSl (mVar 0) (mPart (mBin dAdd (mVar 1) (mV (.int 1)))) mNoP)))
def d_others_counts : Fn Ph := runF 2 m_others_counts

def m_is_tables : M Ph Fl :=
  (mSeq (mAsg 2 (mIxV 0 (mV (.int 0))))
    (mSeq (mIfS (mOrT (mNotT (mTst (mUn (dIsi "tuple") (mVar 1)))) (mTst (mBin dNe (mLenV 1) (mLenV 2))))
    (mRet (mV (.bl false)))
    (mP .nx))
    (mSeq (mB (mEnum (mCons (mVar 1) mNil)) (mFor (.tp [(.nm 3), (.nm 4)])
    (mIfS (mNotT (mTst (mCall d_are_quotients (mCons (mCall d_board_size (mCons (mCall d_others_counts (mCons (mVar 2) (mCons (mVar 3) mNil))) mNil)) (mCons (mVar 4) mNil)))))
    (mRet (mV (.bl false)))
    (mP .nx))))
    (mRet (mV (.bl true))))))
def d_is_tables : Fn Ph := runF 5 m_is_tables

def m_choices_by_place : M Ph Fl :=
  (mSeq (mAsg 2 (mCall d_board_size (mCons (mSl (mVar 0) (mPart (mBin dAdd (mVar 1) (mV (.int 1)))) mNoP) mNil)))
    (mSeq (mAsg 3 (mBin dMul (mVar 2) (mIxV 0 (mVar 1))))
    (mRet (mLc (.nm 4) [4] (mRng (mCons (mCall d_board_size (mCons (mVar 0) mNil)) mNil)) mYes (mBin dAdd (mBin dMul (mBin dDiv (mVar 4) (mVar 3)) (mVar 2)) (mBin dMod (mVar 4) (mVar 2)))))))
def d_choices_by_place : Fn Ph := runF 5 m_choices_by_place

def m_u_lowest_terms : M Ph Fl :=
  (mSeq (mIfS (mTst (mBin dLt (mVar 1) (mV (.int 0))))
    (mPar 0 1 (mCons (mUn dNeg (mVar 0)) (mCons (mUn dNeg (mVar 1)) mNil)))
    (mP .nx))
    (mSeq (mAsg 2 (mCall d_common_divisor (mCons (mVar 0) (mCons (mVar 1) mNil))))
    (mRet (mB (mCons (mBin dDiv (mVar 0) (mVar 2)) (mCons (mBin dDiv (mVar 1) (mVar 2)) mNil)) dTup))))
def d_u_lowest_terms : Fn Ph := runF 3 m_u_lowest_terms

def m_quotient_of : M Ph Fl :=
  (mSeq (mIfS (mNotT (mTst (mCall d_is_integer (mCons (mVar 0) mNil))))
    (mRaise "NotUsable" (mCons (mV (.str "top")) (mCons (mUn dNeg (mV (.int 1))) mNil)))
    (mP .nx))
    (mSeq (mIfS (mOrT (mNotT (mTst (mCall d_is_integer (mCons (mVar 1) mNil)))) (mTst (mBin dEq (mVar 1) (mV (.int 0)))))
    (mRaise "NotUsable" (mCons (mV (.str "bottom")) (mCons (mUn dNeg (mV (.int 1))) mNil)))
    (mP .nx))
    (mRet (mCall d_u_lowest_terms (mCons (mVar 0) (mCons (mVar 1) mNil))))))
def d_quotient_of : Fn Ph := runF 2 m_quotient_of

def m_quotient_sum : M Ph Fl :=
  (mSeq (mAsgP (.tp [(.nm 1), (.nm 2)]) (mB (mCons (mV (.int 0)) (mCons (mV (.int 1)) mNil)) dTup))
    (mSeq (mB (mIt (mVar 0)) (mFor (.tp [(.nm 3), (.nm 4)])
    (mIfS (mTst (mBin dEq (mBin dMod (mVar 2) (mVar 4)) (mV (.int 0))))
    (mAsg 1 (mBin dAdd (mVar 1) (mBin dMul (mVar 3) (mBin dDiv (mVar 2) (mVar 4)))))
    (mAsgP (.tp [(.nm 1), (.nm 2)]) (mCall d_quotient_of (mCons (mBin dAdd (mBin dMul (mVar 1) (mVar 4)) (mBin dMul (mVar 3) (mVar 2))) (mCons (mBin dMul (mVar 2) (mVar 4)) mNil)))))))
    (mRet (mCall d_quotient_of (mCons (mVar 1) (mCons (mVar 2) mNil))))))
def d_quotient_sum : Fn Ph := runF 5 m_quotient_sum

def m_till_list : M Ph Fl :=
  (mSeq (mAsgP (.tp [(.nm 2), (.nm 3)]) (mVar 0))
    (mSeq (mAsg 4 (mLenV 2))
    (mSeq (mAsg 5 (mLc (.nm 6) [6] (mRng (mCons (mVar 4) mNil)) mYes (mCall d_choices_by_place (mCons (mVar 2) (mCons (mVar 6) mNil)))))
    (mSeq (mAsg 7 (mB mNil dLst))
    (mSeq (mB (mEnum (mCons (mVar 3) mNil)) (mFor (.tp [(.nm 8), (.nm 9)])
    (mSeq (mAsg 10 (mLc (.nm 6) [6] (mRng (mCons (mVar 4) mNil)) mYes (mBin dIx (mIxV 1 (mVar 6)) (mBin dIx (mIxV 5 (mVar 6)) (mVar 8)))))
    (mSeq (mDrop (mApp 10 (mB (mCons (mBin dMul (mVar 9) (mBin dSub (mV (.int 1)) (mVar 4))) (mCons (mV (.int 1)) mNil)) dTup)))
    (mDrop (mApp 7 (mCall d_quotient_sum (mCons (mVar 10) mNil))))))))
    (mRet (mVar 7)))))))
def d_till_list : Fn Ph := runF 11 m_till_list

def m_till_row : M Ph Fl :=
  (mSeq (mIfS (mNotT (mTst (mCall d_is_tables (mCons (mVar 0) (mCons (mVar 1) mNil)))))
    (mRaise "NotUsable" (mCons (mV (.str "tables")) (mCons (mUn dNeg (mV (.int 1))) mNil)))
    (mP .nx))
    (mRet (mB (mCons (mCall d_till_list (mCons (mVar 0) (mCons (mVar 1) mNil))) mNil) dTuple)))
def d_till_row : Fn Ph := runF 2 m_till_row

def m_is_under : M Ph Fl :=
  (mRet (mBin dLt (mBin dMul (mIxV 0 (mV (.int 0))) (mIxV 1 (mV (.int 1)))) (mBin dMul (mIxV 1 (mV (.int 0))) (mIxV 0 (mV (.int 1))))))
def d_is_under : Fn Ph := runF 2 m_is_under

def m_ends_of_quotients : M Ph Fl :=
  (mSeq (mPar 1 2 (mCons (mIxV 0 (mV (.int 0))) (mCons (mIxV 0 (mV (.int 0))) mNil)))
    (mSeq (mB (mIt (mVar 0)) (mFor (.nm 3)
    (mSeq (mIfS (mTst (mCall d_is_under (mCons (mVar 3) (mCons (mVar 1) mNil))))
    (mAsg 1 (mVar 3))
    (mP .nx))
    (mIfS (mTst (mCall d_is_under (mCons (mVar 2) (mCons (mVar 3) mNil))))
    (mAsg 2 (mVar 3))
    (mP .nx)))))
    (mRet (mB (mCons (mVar 1) (mCons (mVar 2) mNil)) dTup))))
def d_ends_of_quotients : Fn Ph := runF 4 m_ends_of_quotients

def m_u_need_quotients : M Ph Fl :=
  (mSeq (mIfS (mNotT (mTst (mCall d_is_quotient (mCons (mVar 0) mNil))))
    (mRaise "NotUsable" (mCons (mV (.str "one")) (mCons (mUn dNeg (mV (.int 1))) mNil)))
    (mP .nx))
    (mIfS (mNotT (mTst (mCall d_is_quotient (mCons (mVar 1) mNil))))
    (mRaise "NotUsable" (mCons (mV (.str "other")) (mCons (mUn dNeg (mV (.int 1))) mNil)))
    (mP .nx)))
def d_u_need_quotients : Fn Ph := runF 2 m_u_need_quotients

def m_minus : M Ph Fl :=
  (mSeq (mDrop (mCall d_u_need_quotients (mCons (mVar 0) (mCons (mVar 1) mNil))))
    (mRet (mCall d_u_lowest_terms (mCons (mBin dSub (mBin dMul (mIxV 0 (mV (.int 0))) (mIxV 1 (mV (.int 1)))) (mBin dMul (mIxV 1 (mV (.int 0))) (mIxV 0 (mV (.int 1))))) (mCons (mBin dMul (mIxV 0 (mV (.int 1))) (mIxV 1 (mV (.int 1)))) mNil)))))
def d_minus : Fn Ph := runF 2 m_minus

def m_till_span : M Ph Fl :=
  (mSeq (mIfS (mNotT (mTst (mCall d_is_tables (mCons (mVar 0) (mCons (mVar 1) mNil)))))
    (mRaise "NotUsable" (mCons (mV (.str "tables")) (mCons (mUn dNeg (mV (.int 1))) mNil)))
    (mP .nx))
    (mSeq (mAsgP (.tp [(.nm 2), (.nm 3)]) (mCall d_ends_of_quotients (mCons (mCall d_till_list (mCons (mVar 0) (mCons (mVar 1) mNil))) mNil)))
    (mRet (mCall d_minus (mCons (mVar 3) (mCons (mVar 2) mNil))))))
def d_till_span : Fn Ph := runF 4 m_till_span

def m_law : M Ph Fl :=
  (mSeq (mAsg 1 (mCall d_u_law_deal (mCons (mVar 0) mNil)))
    (mSeq (mAsg 2 (mCall d_u_law_board (mCons (mVar 1) mNil)))
    (mSeq (mAsg 3 (mCall d_u_law_uneven (mCons (mVar 2) mNil)))
    (mSeq (mIfS (mOrT (mNotT (mTst (mCall d_u_law_same (mCons (mCall d_uneven_place (mCons (mVar 2) mNil)) (mCons (mVar 3) mNil))))) (mNotT (mTst (mCall d_u_law_same (mCons (mCallK d_uneven_place [0] (mCons (mVar 2) mNil)) (mCons (mVar 3) mNil))))))
    (mRet (mV (.bl false)))
    (mP .nx))
    (mSeq (mIfS (mNotT (mTst (mCall d_u_law_same (mCons (mMeth "Board" d_Board_even [] (mCall (newF "Board" d_Board___init__) (mCons (mIxV 2 (mV (.int 0))) (mCons (mIxV 2 (mV (.int 1))) mNil))) mNil) (mCons (mUn dIsN (mVar 3)) mNil)))))
    (mRet (mV (.bl false)))
    (mP .nx))
    (mSeq (mAsg 4 (mCall d_u_law_flat (mCons (mVar 2) mNil)))
    (mSeq (mIfS (mTst (mUn dNotN (mVar 3)))
    (mIfS (mNotT (mTst (mCall d_u_law_same (mCons (mVar 4) (mCons (mB (mCons (mV (.str "uneven")) (mCons (mVar 3) mNil)) dTup) mNil)))))
    (mRet (mV (.bl false)))
    (mP .nx))
    (mSeq (mIfS (mOrT (mTst (mBin dNe (mIxV 4 (mV (.int 0))) (mV (.str "flat")))) (mNotT (mTst (mCall d_u_law_is_flat (mCons (mVar 2) (mCons (mIxV 4 (mV (.int 1))) mNil))))))
    (mRet (mV (.bl false)))
    (mP .nx))
    (mSeq (mAsg 5 (mB (mCons (mLc (.nm 6) [6] (mIt (mIxV 2 (mV (.int 1)))) mYes (mB (mCons (mV (.int 0)) (mCons (mV (.int 1)) mNil)) dTup)) mNil) dTuple))
    (mIfS (mOrT (mNotT (mTst (mCall d_u_law_same (mCons (mCall d_till_row (mCons (mVar 2) (mCons (mIxV 4 (mV (.int 1))) mNil))) (mCons (mVar 5) mNil))))) (mNotT (mTst (mCall d_u_law_same (mCons (mCall d_till_span (mCons (mVar 2) (mCons (mIxV 4 (mV (.int 1))) mNil))) (mCons (mB (mCons (mV (.int 0)) (mCons (mV (.int 1)) mNil)) dTup) mNil))))))
    (mRet (mV (.bl false)))
    (mP .nx)))))
    (mRet (mAnd (mCall d_u_law_differences (mCons (mVar 1) (mCons (mVar 2) (mCons (mVar 3) mNil)))) (mCall d_u_law_refused (mCons (mVar 1) (mCons (mVar 2) mNil))))))))))))
def d_law : Fn Ph := runF 7 m_law
end L26
namespace L26
open PySem PySem.Spec L2 DN
open PyProof.Rows hiding St
def top (i : Nat) : Stmt := PySem.Challenge.pw_someoneout_k26_whole_mixed_and_flat.main.body.getD i (.Pass ⟨0, 0, 0, 0⟩)
/-! ### the walks -/
abbrev st_u_law_deal : Stmt := top 42
abbrev st_u_law_pick : Stmt := top 43
abbrev st_u_law_counts : Stmt := top 49
abbrev st_u_law_places : Stmt := top 46
abbrev st_u_law_choice : Stmt := top 47
abbrev st_u_law_board : Stmt := top 50
abbrev st_u_law_at : Stmt := top 48
abbrev st_u_law_mixed : Stmt := top 51
abbrev st_u_law_uneven : Stmt := top 52
abbrev st_board_size : Stmt := top 17
abbrev st_firsts_by_place : Stmt := top 22
abbrev st_flattened : Stmt := top 23
abbrev st_row_tuples : Stmt := top 18
abbrev st_uneven_place : Stmt := top 32
abbrev st_flat_tables : Stmt := top 38
abbrev st_u_law_flat : Stmt := top 55
abbrev st_u_law_integer : Stmt := top 44
abbrev st_u_law_same : Stmt := top 45
abbrev st_is_integer : Stmt := top 8
abbrev st_are_rows : Stmt := top 19
abbrev st_mixed_at : Stmt := top 31
abbrev st_Board_mixed : Stmt := clsDef (top 40) 3
abbrev st_board_fault : Stmt := top 24
abbrev st_Board___init__ : Stmt := clsDef (top 40) 0
abbrev st_u_law_asked : Stmt := top 56
abbrev st_u_law_differences : Stmt := top 57
abbrev st_u_law_refused : Stmt := top 58
abbrev st_Board_even : Stmt := clsDef (top 40) 4
abbrev st_u_law_is_quotient : Stmt := top 53
abbrev st_u_law_is_flat : Stmt := top 54
abbrev st_common_divisor : Stmt := top 9
abbrev st_is_quotient : Stmt := top 10
abbrev st_are_quotients : Stmt := top 25
abbrev st_others_counts : Stmt := top 20
abbrev st_is_tables : Stmt := top 34
abbrev st_choices_by_place : Stmt := top 21
abbrev st_u_lowest_terms : Stmt := top 12
abbrev st_quotient_of : Stmt := top 14
abbrev st_quotient_sum : Stmt := top 26
abbrev st_till_list : Stmt := top 27
abbrev st_till_row : Stmt := top 35
abbrev st_is_under : Stmt := top 28
abbrev st_ends_of_quotients : Stmt := top 29
abbrev st_u_need_quotients : Stmt := top 13
abbrev st_minus : Stmt := top 15
abbrev st_till_span : Stmt := top 36
abbrev st_law : Stmt := top 59
abbrev st_NotUsable_init : Stmt := clsDef (top 5) 0
abbrev st_Uneven_init : Stmt := clsDef (top 6) 0
structure Tx (K : PySem.W.Frag) (mg : Str → Option Value) (ad : Str → Addr) (fdt : Str → FuncData) (C : Str → Addr) : Prop where
  f_u_law_deal : Fun K "_law_deal" "_law_deal" st_u_law_deal (ad "_law_deal") (fdt "_law_deal")
  g_u_law_deal : mg "_law_deal" = some (.ref (ad "_law_deal"))
  f_u_law_pick : Fun K "_law_pick" "_law_pick" st_u_law_pick (ad "_law_pick") (fdt "_law_pick")
  g_u_law_pick : mg "_law_pick" = some (.ref (ad "_law_pick"))
  f_u_law_counts : Fun K "_law_counts" "_law_counts" st_u_law_counts (ad "_law_counts") (fdt "_law_counts")
  g_u_law_counts : mg "_law_counts" = some (.ref (ad "_law_counts"))
  f_u_law_places : Fun K "_law_places" "_law_places" st_u_law_places (ad "_law_places") (fdt "_law_places")
  g_u_law_places : mg "_law_places" = some (.ref (ad "_law_places"))
  f_u_law_choice : Fun K "_law_choice" "_law_choice" st_u_law_choice (ad "_law_choice") (fdt "_law_choice")
  g_u_law_choice : mg "_law_choice" = some (.ref (ad "_law_choice"))
  f_u_law_board : Fun K "_law_board" "_law_board" st_u_law_board (ad "_law_board") (fdt "_law_board")
  g_u_law_board : mg "_law_board" = some (.ref (ad "_law_board"))
  f_u_law_at : Fun K "_law_at" "_law_at" st_u_law_at (ad "_law_at") (fdt "_law_at")
  g_u_law_at : mg "_law_at" = some (.ref (ad "_law_at"))
  f_u_law_mixed : Fun K "_law_mixed" "_law_mixed" st_u_law_mixed (ad "_law_mixed") (fdt "_law_mixed")
  g_u_law_mixed : mg "_law_mixed" = some (.ref (ad "_law_mixed"))
  f_u_law_uneven : Fun K "_law_uneven" "_law_uneven" st_u_law_uneven (ad "_law_uneven") (fdt "_law_uneven")
  g_u_law_uneven : mg "_law_uneven" = some (.ref (ad "_law_uneven"))
  f_board_size : Fun K "board_size" "board_size" st_board_size (ad "board_size") (fdt "board_size")
  g_board_size : mg "board_size" = some (.ref (ad "board_size"))
  f_firsts_by_place : Fun K "firsts_by_place" "firsts_by_place" st_firsts_by_place (ad "firsts_by_place") (fdt "firsts_by_place")
  g_firsts_by_place : mg "firsts_by_place" = some (.ref (ad "firsts_by_place"))
  f_flattened : Fun K "flattened" "flattened" st_flattened (ad "flattened") (fdt "flattened")
  g_flattened : mg "flattened" = some (.ref (ad "flattened"))
  f_row_tuples : Fun K "row_tuples" "row_tuples" st_row_tuples (ad "row_tuples") (fdt "row_tuples")
  g_row_tuples : mg "row_tuples" = some (.ref (ad "row_tuples"))
  f_uneven_place : Fun K "uneven_place" "uneven_place" st_uneven_place (ad "uneven_place") (fdt "uneven_place")
  g_uneven_place : mg "uneven_place" = some (.ref (ad "uneven_place"))
  f_flat_tables : Fun K "flat_tables" "flat_tables" st_flat_tables (ad "flat_tables") (fdt "flat_tables")
  g_flat_tables : mg "flat_tables" = some (.ref (ad "flat_tables"))
  f_u_law_flat : Fun K "_law_flat" "_law_flat" st_u_law_flat (ad "_law_flat") (fdt "_law_flat")
  g_u_law_flat : mg "_law_flat" = some (.ref (ad "_law_flat"))
  f_u_law_integer : Fun K "_law_integer" "_law_integer" st_u_law_integer (ad "_law_integer") (fdt "_law_integer")
  g_u_law_integer : mg "_law_integer" = some (.ref (ad "_law_integer"))
  f_u_law_same : Fun K "_law_same" "_law_same" st_u_law_same (ad "_law_same") (fdt "_law_same")
  g_u_law_same : mg "_law_same" = some (.ref (ad "_law_same"))
  f_is_integer : Fun K "is_integer" "is_integer" st_is_integer (ad "is_integer") (fdt "is_integer")
  g_is_integer : mg "is_integer" = some (.ref (ad "is_integer"))
  f_are_rows : Fun K "are_rows" "are_rows" st_are_rows (ad "are_rows") (fdt "are_rows")
  g_are_rows : mg "are_rows" = some (.ref (ad "are_rows"))
  f_mixed_at : Fun K "mixed_at" "mixed_at" st_mixed_at (ad "mixed_at") (fdt "mixed_at")
  g_mixed_at : mg "mixed_at" = some (.ref (ad "mixed_at"))
  f_Board_mixed : Fun K "mixed" "Board.mixed" st_Board_mixed (ad "Board.mixed") (fdt "Board.mixed")
  m_Board_mixed : Meth K (C "Board") "mixed" (ad "Board.mixed")
  f_board_fault : Fun K "board_fault" "board_fault" st_board_fault (ad "board_fault") (fdt "board_fault")
  g_board_fault : mg "board_fault" = some (.ref (ad "board_fault"))
  f_Board___init__ : Fun K "__init__" "Board.__init__" st_Board___init__ (ad "Board.__init__") (fdt "Board.__init__")
  f_u_law_asked : Fun K "_law_asked" "_law_asked" st_u_law_asked (ad "_law_asked") (fdt "_law_asked")
  g_u_law_asked : mg "_law_asked" = some (.ref (ad "_law_asked"))
  f_u_law_differences : Fun K "_law_differences" "_law_differences" st_u_law_differences (ad "_law_differences") (fdt "_law_differences")
  g_u_law_differences : mg "_law_differences" = some (.ref (ad "_law_differences"))
  f_u_law_refused : Fun K "_law_refused" "_law_refused" st_u_law_refused (ad "_law_refused") (fdt "_law_refused")
  g_u_law_refused : mg "_law_refused" = some (.ref (ad "_law_refused"))
  f_Board_even : Fun K "even" "Board.even" st_Board_even (ad "Board.even") (fdt "Board.even")
  m_Board_even : Meth K (C "Board") "even" (ad "Board.even")
  f_u_law_is_quotient : Fun K "_law_is_quotient" "_law_is_quotient" st_u_law_is_quotient (ad "_law_is_quotient") (fdt "_law_is_quotient")
  g_u_law_is_quotient : mg "_law_is_quotient" = some (.ref (ad "_law_is_quotient"))
  f_u_law_is_flat : Fun K "_law_is_flat" "_law_is_flat" st_u_law_is_flat (ad "_law_is_flat") (fdt "_law_is_flat")
  g_u_law_is_flat : mg "_law_is_flat" = some (.ref (ad "_law_is_flat"))
  f_common_divisor : Fun K "common_divisor" "common_divisor" st_common_divisor (ad "common_divisor") (fdt "common_divisor")
  g_common_divisor : mg "common_divisor" = some (.ref (ad "common_divisor"))
  f_is_quotient : Fun K "is_quotient" "is_quotient" st_is_quotient (ad "is_quotient") (fdt "is_quotient")
  g_is_quotient : mg "is_quotient" = some (.ref (ad "is_quotient"))
  f_are_quotients : Fun K "are_quotients" "are_quotients" st_are_quotients (ad "are_quotients") (fdt "are_quotients")
  g_are_quotients : mg "are_quotients" = some (.ref (ad "are_quotients"))
  f_others_counts : Fun K "others_counts" "others_counts" st_others_counts (ad "others_counts") (fdt "others_counts")
  g_others_counts : mg "others_counts" = some (.ref (ad "others_counts"))
  f_is_tables : Fun K "is_tables" "is_tables" st_is_tables (ad "is_tables") (fdt "is_tables")
  g_is_tables : mg "is_tables" = some (.ref (ad "is_tables"))
  f_choices_by_place : Fun K "choices_by_place" "choices_by_place" st_choices_by_place (ad "choices_by_place") (fdt "choices_by_place")
  g_choices_by_place : mg "choices_by_place" = some (.ref (ad "choices_by_place"))
  f_u_lowest_terms : Fun K "_lowest_terms" "_lowest_terms" st_u_lowest_terms (ad "_lowest_terms") (fdt "_lowest_terms")
  g_u_lowest_terms : mg "_lowest_terms" = some (.ref (ad "_lowest_terms"))
  f_quotient_of : Fun K "quotient_of" "quotient_of" st_quotient_of (ad "quotient_of") (fdt "quotient_of")
  g_quotient_of : mg "quotient_of" = some (.ref (ad "quotient_of"))
  f_quotient_sum : Fun K "quotient_sum" "quotient_sum" st_quotient_sum (ad "quotient_sum") (fdt "quotient_sum")
  g_quotient_sum : mg "quotient_sum" = some (.ref (ad "quotient_sum"))
  f_till_list : Fun K "till_list" "till_list" st_till_list (ad "till_list") (fdt "till_list")
  g_till_list : mg "till_list" = some (.ref (ad "till_list"))
  f_till_row : Fun K "till_row" "till_row" st_till_row (ad "till_row") (fdt "till_row")
  g_till_row : mg "till_row" = some (.ref (ad "till_row"))
  f_is_under : Fun K "is_under" "is_under" st_is_under (ad "is_under") (fdt "is_under")
  g_is_under : mg "is_under" = some (.ref (ad "is_under"))
  f_ends_of_quotients : Fun K "ends_of_quotients" "ends_of_quotients" st_ends_of_quotients (ad "ends_of_quotients") (fdt "ends_of_quotients")
  g_ends_of_quotients : mg "ends_of_quotients" = some (.ref (ad "ends_of_quotients"))
  f_u_need_quotients : Fun K "_need_quotients" "_need_quotients" st_u_need_quotients (ad "_need_quotients") (fdt "_need_quotients")
  g_u_need_quotients : mg "_need_quotients" = some (.ref (ad "_need_quotients"))
  f_minus : Fun K "minus" "minus" st_minus (ad "minus") (fdt "minus")
  g_minus : mg "minus" = some (.ref (ad "minus"))
  f_till_span : Fun K "till_span" "till_span" st_till_span (ad "till_span") (fdt "till_span")
  g_till_span : mg "till_span" = some (.ref (ad "till_span"))
  f_law : Fun K "law" "law" st_law (ad "law") (fdt "law")
  g_law : mg "law" = some (.ref (ad "law"))
  f_NotUsable_init : Fun K "__init__" "NotUsable.__init__" st_NotUsable_init (ad "NotUsable.__init__") (fdt "NotUsable.__init__")
  gx_NotUsable : mg "NotUsable" = some (.ref (C "NotUsable"))
  xC_NotUsable : OexC K (C "NotUsable")
  x_NotUsable_word : PySem.W.findIn K (.ref (C "NotUsable")) "word" = some none
  x_NotUsable_at : PySem.W.findIn K (.ref (C "NotUsable")) "at" = some none
  xi_NotUsable : PySem.W.findIn K (.ref (C "NotUsable")) "__init__" = some (some (.ref (ad "NotUsable.__init__")))
  xt_NotUsable : PySem.W.typeIn K (.ref (ad "NotUsable.__init__")) = some (.type "function")
  xf_NotUsable : XfC K (C "NotUsable")
  xm_NotUsable_NotUsable : PySem.W.exmOne K (.ref (C "NotUsable")) (.ref (C "NotUsable")) = some true
  xm_Uneven_NotUsable : PySem.W.exmOne K (.ref (C "Uneven")) (.ref (C "NotUsable")) = some false
  f_Uneven_init : Fun K "__init__" "Uneven.__init__" st_Uneven_init (ad "Uneven.__init__") (fdt "Uneven.__init__")
  gx_Uneven : mg "Uneven" = some (.ref (C "Uneven"))
  xC_Uneven : OexC K (C "Uneven")
  x_Uneven_place : PySem.W.findIn K (.ref (C "Uneven")) "place" = some none
  xi_Uneven : PySem.W.findIn K (.ref (C "Uneven")) "__init__" = some (some (.ref (ad "Uneven.__init__")))
  xt_Uneven : PySem.W.typeIn K (.ref (ad "Uneven.__init__")) = some (.type "function")
  xf_Uneven : XfC K (C "Uneven")
  xm_NotUsable_Uneven : PySem.W.exmOne K (.ref (C "NotUsable")) (.ref (C "Uneven")) = some false
  xm_Uneven_Uneven : PySem.W.exmOne K (.ref (C "Uneven")) (.ref (C "Uneven")) = some true
  gc_Board : mg "Board" = some (.ref (C "Board"))
  cl_Board : Cls K (C "Board")
  na_Board_u_pair : NoAttr K (C "Board") "_pair"
  mk_Board : Mk K (C "Board") (ad "Board.__init__")
  b_abs : mg "abs" = none
  b_bool : mg "bool" = none
  b_enumerate : mg "enumerate" = none
  b_int : mg "int" = none
  b_isinstance : mg "isinstance" = none
  b_len : mg "len" = none
  b_list : mg "list" = none
  b_range : mg "range" = none
  b_str : mg "str" = none
  b_sum : mg "sum" = none
  b_tuple : mg "tuple" = none
  b_zip : mg "zip" = none
section
variable {P : Program} {w : World} {K : PySem.W.Frag} {mg : Str → Option Value} {base : Heap} {ad : Str → Addr} {fdt : Str → FuncData} {C : Str → Addr}
theorem bd_u_law_deal (T : Tx K mg ad fdt C) : Binds K (fdt "_law_deal") ["_law_script"] [] := T.f_u_law_deal.binds fun _ _ _ _ _ _ us hl => match us, hl with | [_], _ => rfl
theorem bd_u_law_pick (T : Tx K mg ad fdt C) : Binds K (fdt "_law_pick") ["_law_deal_here", "_law_many"] [] := T.f_u_law_pick.binds fun _ _ _ _ _ _ us hl => match us, hl with | [_, _], _ => rfl
theorem bd_u_law_counts (T : Tx K mg ad fdt C) : Binds K (fdt "_law_counts") ["_law_deal_here"] [] := T.f_u_law_counts.binds fun _ _ _ _ _ _ us hl => match us, hl with | [_], _ => rfl
theorem bd_u_law_places (T : Tx K mg ad fdt C) : Binds K (fdt "_law_places") ["_law_counts_here"] [] := T.f_u_law_places.binds fun _ _ _ _ _ _ us hl => match us, hl with | [_], _ => rfl
theorem bd_u_law_choice (T : Tx K mg ad fdt C) : Binds K (fdt "_law_choice") ["_law_counts_here", "_law_person", "_law_place"] [] := T.f_u_law_choice.binds fun _ _ _ _ _ _ us hl => match us, hl with | [_, _, _], _ => rfl
theorem bd_u_law_board (T : Tx K mg ad fdt C) : Binds K (fdt "_law_board") ["_law_deal_here"] [] := T.f_u_law_board.binds fun _ _ _ _ _ _ us hl => match us, hl with | [_], _ => rfl
theorem bd_u_law_at (T : Tx K mg ad fdt C) : Binds K (fdt "_law_at") ["_law_counts_here", "_law_place"] [] := T.f_u_law_at.binds fun _ _ _ _ _ _ us hl => match us, hl with | [_, _], _ => rfl
theorem bd_u_law_mixed (T : Tx K mg ad fdt C) : Binds K (fdt "_law_mixed") ["_law_board_here", "_law_here", "_law_there"] [] := T.f_u_law_mixed.binds fun _ _ _ _ _ _ us hl => match us, hl with | [_, _, _], _ => rfl
theorem bd_u_law_uneven (T : Tx K mg ad fdt C) : Binds K (fdt "_law_uneven") ["_law_board_here"] [] := T.f_u_law_uneven.binds fun _ _ _ _ _ _ us hl => match us, hl with | [_], _ => rfl
theorem bd_board_size (T : Tx K mg ad fdt C) : Binds K (fdt "board_size") ["counts"] [] := T.f_board_size.binds fun _ _ _ _ _ _ us hl => match us, hl with | [_], _ => rfl
theorem bd_firsts_by_place (T : Tx K mg ad fdt C) : Binds K (fdt "firsts_by_place") ["counts", "person"] [] := T.f_firsts_by_place.binds fun _ _ _ _ _ _ us hl => match us, hl with | [_, _], _ => rfl
theorem bd_flattened (T : Tx K mg ad fdt C) : Binds K (fdt "flattened") ["counts", "worths"] [] := T.f_flattened.binds fun _ _ _ _ _ _ us hl => match us, hl with | [_, _], _ => rfl
theorem bd_row_tuples (T : Tx K mg ad fdt C) : Binds K (fdt "row_tuples") ["counts"] [] := T.f_row_tuples.binds fun _ _ _ _ _ _ us hl => match us, hl with | [_], _ => rfl
theorem bd_uneven_place (T : Tx K mg ad fdt C) : Binds K (fdt "uneven_place") ["board"] [] := T.f_uneven_place.binds fun _ _ _ _ _ _ us hl => match us, hl with | [_], _ => rfl
theorem bd_flat_tables (T : Tx K mg ad fdt C) : Binds K (fdt "flat_tables") ["board"] [] := T.f_flat_tables.binds fun _ _ _ _ _ _ us hl => match us, hl with | [_], _ => rfl
theorem bd_u_law_flat (T : Tx K mg ad fdt C) : Binds K (fdt "_law_flat") ["_law_board_here"] [] := T.f_u_law_flat.binds fun _ _ _ _ _ _ us hl => match us, hl with | [_], _ => rfl
theorem bd_u_law_integer (T : Tx K mg ad fdt C) : Binds K (fdt "_law_integer") ["_law_thing"] [] := T.f_u_law_integer.binds fun _ _ _ _ _ _ us hl => match us, hl with | [_], _ => rfl
theorem bd_u_law_same (T : Tx K mg ad fdt C) : Binds K (fdt "_law_same") ["_law_one", "_law_due"] [] := T.f_u_law_same.binds fun _ _ _ _ _ _ us hl => match us, hl with | [_, _], _ => rfl
theorem bd_is_integer (T : Tx K mg ad fdt C) : Binds K (fdt "is_integer") ["thing"] [] := T.f_is_integer.binds fun _ _ _ _ _ _ us hl => match us, hl with | [_], _ => rfl
theorem bd_are_rows (T : Tx K mg ad fdt C) : Binds K (fdt "are_rows") ["counts", "thing"] [] := T.f_are_rows.binds fun _ _ _ _ _ _ us hl => match us, hl with | [_, _], _ => rfl
theorem bd_mixed_at (T : Tx K mg ad fdt C) : Binds K (fdt "mixed_at") ["board", "here", "there"] [] := T.f_mixed_at.binds fun _ _ _ _ _ _ us hl => match us, hl with | [_, _, _], _ => rfl
theorem bd_Board_mixed (T : Tx K mg ad fdt C) : Binds K (fdt "Board.mixed") ["self", "here", "there"] [] := T.f_Board_mixed.binds fun _ _ _ _ _ _ us hl => match us, hl with | [_, _, _], _ => rfl
theorem bd_board_fault (T : Tx K mg ad fdt C) : Binds K (fdt "board_fault") ["thing"] [] := T.f_board_fault.binds fun _ _ _ _ _ _ us hl => match us, hl with | [_], _ => rfl
theorem bd_Board___init__ (T : Tx K mg ad fdt C) : Binds K (fdt "Board.__init__") ["self", "counts", "worths"] [] := T.f_Board___init__.binds fun _ _ _ _ _ _ us hl => match us, hl with | [_, _, _], _ => rfl
theorem bd_u_law_asked (T : Tx K mg ad fdt C) : Binds K (fdt "_law_asked") ["_law_board_here", "_law_here", "_law_there", "_law_objects"] [] := T.f_u_law_asked.binds fun _ _ _ _ _ _ us hl => match us, hl with | [_, _, _, _], _ => rfl
theorem bd_u_law_differences (T : Tx K mg ad fdt C) : Binds K (fdt "_law_differences") ["_law_deal_here", "_law_board_here", "_law_uneven_here"] [] := T.f_u_law_differences.binds fun _ _ _ _ _ _ us hl => match us, hl with | [_, _, _], _ => rfl
theorem bd_u_law_refused (T : Tx K mg ad fdt C) : Binds K (fdt "_law_refused") ["_law_deal_here", "_law_board_here"] [] := T.f_u_law_refused.binds fun _ _ _ _ _ _ us hl => match us, hl with | [_, _], _ => rfl
theorem bd_Board_even (T : Tx K mg ad fdt C) : Binds K (fdt "Board.even") ["self"] [] := T.f_Board_even.binds fun _ _ _ _ _ _ us hl => match us, hl with | [_], _ => rfl
theorem bd_u_law_is_quotient (T : Tx K mg ad fdt C) : Binds K (fdt "_law_is_quotient") ["_law_thing"] [] := T.f_u_law_is_quotient.binds fun _ _ _ _ _ _ us hl => match us, hl with | [_], _ => rfl
theorem bd_u_law_is_flat (T : Tx K mg ad fdt C) : Binds K (fdt "_law_is_flat") ["_law_board_here", "_law_tables"] [] := T.f_u_law_is_flat.binds fun _ _ _ _ _ _ us hl => match us, hl with | [_, _], _ => rfl
theorem bd_common_divisor (T : Tx K mg ad fdt C) : Binds K (fdt "common_divisor") ["one", "other"] [] := T.f_common_divisor.binds fun _ _ _ _ _ _ us hl => match us, hl with | [_, _], _ => rfl
theorem bd_is_quotient (T : Tx K mg ad fdt C) : Binds K (fdt "is_quotient") ["thing"] [] := T.f_is_quotient.binds fun _ _ _ _ _ _ us hl => match us, hl with | [_], _ => rfl
theorem bd_are_quotients (T : Tx K mg ad fdt C) : Binds K (fdt "are_quotients") ["many", "thing"] [] := T.f_are_quotients.binds fun _ _ _ _ _ _ us hl => match us, hl with | [_, _], _ => rfl
theorem bd_others_counts (T : Tx K mg ad fdt C) : Binds K (fdt "others_counts") ["counts", "person"] [] := T.f_others_counts.binds fun _ _ _ _ _ _ us hl => match us, hl with | [_, _], _ => rfl
theorem bd_is_tables (T : Tx K mg ad fdt C) : Binds K (fdt "is_tables") ["board", "thing"] [] := T.f_is_tables.binds fun _ _ _ _ _ _ us hl => match us, hl with | [_, _], _ => rfl
theorem bd_choices_by_place (T : Tx K mg ad fdt C) : Binds K (fdt "choices_by_place") ["counts", "person"] [] := T.f_choices_by_place.binds fun _ _ _ _ _ _ us hl => match us, hl with | [_, _], _ => rfl
theorem bd_u_lowest_terms (T : Tx K mg ad fdt C) : Binds K (fdt "_lowest_terms") ["top", "bottom"] [] := T.f_u_lowest_terms.binds fun _ _ _ _ _ _ us hl => match us, hl with | [_, _], _ => rfl
theorem bd_quotient_of (T : Tx K mg ad fdt C) : Binds K (fdt "quotient_of") ["top", "bottom"] [] := T.f_quotient_of.binds fun _ _ _ _ _ _ us hl => match us, hl with | [_, _], _ => rfl
theorem bd_quotient_sum (T : Tx K mg ad fdt C) : Binds K (fdt "quotient_sum") ["parts"] [] := T.f_quotient_sum.binds fun _ _ _ _ _ _ us hl => match us, hl with | [_], _ => rfl
theorem bd_till_list (T : Tx K mg ad fdt C) : Binds K (fdt "till_list") ["board", "tables"] [] := T.f_till_list.binds fun _ _ _ _ _ _ us hl => match us, hl with | [_, _], _ => rfl
theorem bd_till_row (T : Tx K mg ad fdt C) : Binds K (fdt "till_row") ["board", "tables"] [] := T.f_till_row.binds fun _ _ _ _ _ _ us hl => match us, hl with | [_, _], _ => rfl
theorem bd_is_under (T : Tx K mg ad fdt C) : Binds K (fdt "is_under") ["one", "other"] [] := T.f_is_under.binds fun _ _ _ _ _ _ us hl => match us, hl with | [_, _], _ => rfl
theorem bd_ends_of_quotients (T : Tx K mg ad fdt C) : Binds K (fdt "ends_of_quotients") ["parts"] [] := T.f_ends_of_quotients.binds fun _ _ _ _ _ _ us hl => match us, hl with | [_], _ => rfl
theorem bd_u_need_quotients (T : Tx K mg ad fdt C) : Binds K (fdt "_need_quotients") ["one", "other"] [] := T.f_u_need_quotients.binds fun _ _ _ _ _ _ us hl => match us, hl with | [_, _], _ => rfl
theorem bd_minus (T : Tx K mg ad fdt C) : Binds K (fdt "minus") ["one", "other"] [] := T.f_minus.binds fun _ _ _ _ _ _ us hl => match us, hl with | [_, _], _ => rfl
theorem bd_till_span (T : Tx K mg ad fdt C) : Binds K (fdt "till_span") ["board", "tables"] [] := T.f_till_span.binds fun _ _ _ _ _ _ us hl => match us, hl with | [_, _], _ => rfl
theorem bd_law (T : Tx K mg ad fdt C) : Binds K (fdt "law") ["_law_script"] [] := T.f_law.binds fun _ _ _ _ _ _ us hl => match us, hl with | [_], _ => rfl
theorem bd_NotUsable_init (T : Tx K mg ad fdt C) : Binds K (fdt "NotUsable.__init__") ["self", "word", "at"] [] := T.f_NotUsable_init.binds fun _ _ _ _ _ _ us hl => match us, hl with | [_, _, _], _ => rfl
theorem bd_Uneven_init (T : Tx K mg ad fdt C) : Binds K (fdt "Uneven.__init__") ["self", "place"] [] := T.f_Uneven_init.binds fun _ _ _ _ _ _ us hl => match us, hl with | [_, _], _ => rfl
theorem sc_NotUsable_init : FnScope ["self", "word", "at"] ["self", "word", "at"] (defScope st_NotUsable_init) := ⟨rfl, rfl, rfl, by decide +kernel, rfl, by decide +kernel, by decide +kernel⟩
theorem ok_NotUsable_init (T : Tx K mg ad fdt C) : FnOk P w K mg base CX0 1 (ad "NotUsable.__init__") (fdt "NotUsable.__init__") ["self", "word", "at"] (spInit K (C "NotUsable") "word" "at") :=
  T.f_NotUsable_init.ok sc_NotUsable_init (fun vs H Q E h => by
    obtain ⟨a, y0, y1, rfl, _⟩ := h
    rfl) fun cdv A outer s H vs Q E hr h => ⟨_, pss_cons (ps_ost (pv 0) (pv 1)) (pss_one (ps_ost (pv 0) (pv 2))), init_pure rfl vs H Q E h⟩
theorem hit_ok_NotUsable (T : Tx K mg ad fdt C) : ∀ (c : Str) (C' : Addr) (ns' : List Str), (GG K C).ex c = some (C', ns') → PySem.W.exmOne K (.ref C') (.ref (C "NotUsable")) = some (hit_NotUsable c) ∧ (hit_NotUsable c = true → C' = C "NotUsable" ∧ ns' = (["at", "word"] : List Str)) := fun c C' ns' h => by
  have h : (if c = "NotUsable" then some (C "NotUsable", (["at", "word"] : List Str)) else if c = "Uneven" then some (C "Uneven", (["place"] : List Str)) else none) = some (C', ns') := h
  by_cases hc : c = "NotUsable"
  · rw [if_pos hc] at h
    cases h
    rw [show hit_NotUsable c = true from decide_eq_true hc]
    exact ⟨T.xm_NotUsable_NotUsable, fun _ => ⟨rfl, rfl⟩⟩
  rw [if_neg hc] at h
  by_cases hc : c = "Uneven"
  · rw [if_pos hc] at h
    cases h
    rw [show hit_NotUsable c = false from decide_eq_false (by rw [hc]; decide)]
    exact ⟨T.xm_Uneven_NotUsable, fun z => Bool.noConfusion z⟩
  rw [if_neg hc] at h
  cases h
theorem sc_Uneven_init : FnScope ["self", "place"] ["self", "place"] (defScope st_Uneven_init) := ⟨rfl, rfl, rfl, by decide +kernel, rfl, by decide +kernel, by decide +kernel⟩
theorem ok_Uneven_init (T : Tx K mg ad fdt C) : FnOk P w K mg base CX0 1 (ad "Uneven.__init__") (fdt "Uneven.__init__") ["self", "place"] (spInit1 K (C "Uneven") "place") :=
  T.f_Uneven_init.ok sc_Uneven_init (fun vs H Q E h => by
    obtain ⟨a, y0, rfl, _⟩ := h
    rfl) fun cdv A outer s H vs Q E hr h => ⟨_, pss_one (ps_ost (pv 0) (pv 1)), init_pure1 rfl vs H Q E h⟩
theorem hit_ok_Uneven (T : Tx K mg ad fdt C) : ∀ (c : Str) (C' : Addr) (ns' : List Str), (GG K C).ex c = some (C', ns') → PySem.W.exmOne K (.ref C') (.ref (C "Uneven")) = some (hit_Uneven c) ∧ (hit_Uneven c = true → C' = C "Uneven" ∧ ns' = (["place"] : List Str)) := fun c C' ns' h => by
  have h : (if c = "NotUsable" then some (C "NotUsable", (["at", "word"] : List Str)) else if c = "Uneven" then some (C "Uneven", (["place"] : List Str)) else none) = some (C', ns') := h
  by_cases hc : c = "NotUsable"
  · rw [if_pos hc] at h
    cases h
    rw [show hit_Uneven c = false from decide_eq_false (by rw [hc]; decide)]
    exact ⟨T.xm_NotUsable_Uneven, fun z => Bool.noConfusion z⟩
  rw [if_neg hc] at h
  by_cases hc : c = "Uneven"
  · rw [if_pos hc] at h
    cases h
    rw [show hit_Uneven c = true from decide_eq_true hc]
    exact ⟨T.xm_Uneven_Uneven, fun _ => ⟨rfl, rfl⟩⟩
  rw [if_neg hc] at h
  cases h
theorem sc_u_law_deal : FnScope ["_law_script", "_law_state", "_law_great", "_law_cell"] ["_law_script"] (defScope st_u_law_deal) := ⟨rfl, rfl, rfl, by decide +kernel, rfl, by decide +kernel, by decide +kernel⟩
theorem ok0_u_law_deal (T : Tx K mg ad fdt C) : FnOk P w K mg base (L2.CX P w) 2 (ad "_law_deal") (fdt "_law_deal") ["_law_script"] (spD (GG K C) 1 d0_u_law_deal) :=
  have S := sc_u_law_deal
  fn_ok (G := GG K C) T.f_u_law_deal S fun cdv A outer s H E P (hr : Room 1 _) =>
    (ss_cons (s_set 1 S.nd q_int)
    (ss_cons (s_set 2 S.nd q_int)
    (ss_cons (s_for (passes_of rfl) rfl (i_scr (by exact rfl) (qv 0)) (g_nm 3 S.nd) (ss_cons (s_if (w_and (t_eq hr (qv 2) q_int) (w_and1 (t_ge (qv 3) (q_pow q_int q_int)))).pt (ss_one (s_set 2 S.nd (qv 3))) ss_nil)
    (ss_cons (s_set 1 S.nd (q_mod (q_intc (by exact rfl) (by exact T.b_int) (a_cons (q_add (q_add (q_mul (qv 1) q_int) (q_mod (q_intc (by exact rfl) (by exact T.b_int) (a_cons (qv 3) a_nil)) q_int)) q_int) a_nil)) q_int))
    (ss_one (s_set 1 S.nd (q_mod (q_intc (by exact rfl) (by exact T.b_int) (a_cons (q_add (q_mul (qv 1) (qv 1)) q_int) a_nil)) q_int))))))
    (ss_one (s_ret (q_lst (a_cons (qv 1) (a_cons (qv 2) (a_cons q_int a_nil)))))))))
theorem sc_u_law_counts : FnScope ["_law_deal_here", "_law_people", "_law_counts_here", "_law_many", "_law_person", "_law_count"] ["_law_deal_here"] (defScope st_u_law_counts) := ⟨rfl, rfl, rfl, by decide +kernel, rfl, by decide +kernel, by decide +kernel⟩
structure Ca_u_law_counts (P : Program) (w : World) (K : PySem.W.Frag) (mg : Str → Option Value) (base : Heap) (ad : Str → Addr) (fdt : Str → FuncData) (C : Str → Addr) : Prop where
  f_u_law_pick : FnOk P w K mg base (L2.CX P w) 2 (ad "_law_pick") (fdt "_law_pick") ["_law_deal_here", "_law_many"] (spD (GG K C) 2 d_u_law_pick)
theorem ok_u_law_counts (T : Tx K mg ad fdt C) (hF : Ca_u_law_counts P w K mg base ad fdt C) : FnOk P w K mg base (L2.CX P w) 3 (ad "_law_counts") (fdt "_law_counts") ["_law_deal_here"] (spD (GG K C) 1 d_u_law_counts) :=
  have S := sc_u_law_counts
  fn_ok (G := GG K C) T.f_u_law_counts S fun cdv A outer s H E P (hr : Room 2 _) =>
    (ss_cons (s_set 1 S.nd (q_ix (q_tup (a_cons q_int (a_cons q_int (a_cons q_int (a_cons q_int (a_cons q_int (a_cons q_int (a_cons q_int (a_cons q_int a_nil))))))))) (q_call (hF.f_u_law_pick) (hr.mono (by decide)) (by exact rfl) T.g_u_law_pick T.f_u_law_pick.kp (bd_u_law_pick T) (takes_of rfl rfl rfl rfl) (ar_cons (ar_cons ar_nil)) (a_cons (qv 0) (a_cons q_int a_nil)))))
    (ss_cons (s_set 2 S.nd (q_lst a_nil))
    (ss_cons (s_set 3 S.nd q_int)
    (ss_cons (s_for (passes_of rfl) rfl (i_rng1 (by exact rfl) (by exact T.b_range) (a_cons (qv 1) a_nil) (ar_cons ar_nil)) (g_nm 4 S.nd) (ss_cons (s_set 5 S.nd (q_ix (q_tup (a_cons q_int (a_cons q_int (a_cons q_int (a_cons q_int (a_cons q_int (a_cons q_int (a_cons q_int (a_cons q_int a_nil))))))))) (q_call (hF.f_u_law_pick) (hr.mono (by decide)) (by exact rfl) T.g_u_law_pick T.f_u_law_pick.kp (bd_u_law_pick T) (takes_of rfl rfl rfl rfl) (ar_cons (ar_cons ar_nil)) (a_cons (qv 0) (a_cons q_int a_nil)))))
    (ss_cons (s_if (t_gt (q_mul (qv 3) (qv 5)) q_int) (ss_one (s_set 5 S.nd (q_if (t_lt (qv 3) q_int) q_int q_int))) ss_nil)
    (ss_cons (s_expr (q_app 2 (qv 5)))
    (ss_one (s_set 3 S.nd (q_mul (qv 3) (qv 5))))))))
    (ss_one (s_ret (q_tuple (by exact rfl) (by exact T.b_tuple) (a_cons (qv 2) a_nil))))))))
theorem sc_u_law_places : FnScope ["_law_counts_here", "_law_places_here", "_law_many", "_law_wider", "_law_place", "_law_k"] ["_law_counts_here"] (defScope st_u_law_places) := ⟨rfl, rfl, rfl, by decide +kernel, rfl, by decide +kernel, by decide +kernel⟩
theorem ok_u_law_places (T : Tx K mg ad fdt C) : FnOk P w K mg base (L2.CX P w) 2 (ad "_law_places") (fdt "_law_places") ["_law_counts_here"] (spD (GG K C) 1 d_u_law_places) :=
  have S := sc_u_law_places
  fn_ok (G := GG K C) T.f_u_law_places S fun cdv A outer s H E P (hr : Room 1 _) =>
    (ss_cons (s_set 1 S.nd (q_lst (a_cons (q_tup a_nil) a_nil)))
    (ss_cons (s_for (passes_of rfl) rfl (i_it (by exact rfl) (qv 0)) (g_nm 2 S.nd) (ss_cons (s_set 3 S.nd (q_lst a_nil))
    (ss_cons (s_for (passes_of rfl) rfl (i_it (by exact rfl) (qv 1)) (g_nm 4 S.nd) (ss_one (s_set 3 S.nd (q_add (qv 3) (q_lc (by exact rfl) S.nd (i_rng1 (by exact rfl) (by exact T.b_range) (a_cons (qv 2) a_nil) (ar_cons ar_nil)) (blkOk_by (own := [("_law_k", 5)]) (by kernel_rfl)) (fun P s H C cl fp => (g_nm 5 S.nd)) (fun P s H C cl fp => q_yes) (fun P s H C cl fp => (q_add (qv 4) (q_tup (a_cons (qv 5) a_nil)))))))))
    (ss_one (s_set 1 S.nd (qv 3))))))
    (ss_one (s_ret (qv 1)))))
theorem sc_u_law_choice : FnScope ["_law_counts_here", "_law_person", "_law_place", "_law_at_here", "_law_j"] ["_law_counts_here", "_law_person", "_law_place"] (defScope st_u_law_choice) := ⟨rfl, rfl, rfl, by decide +kernel, rfl, by decide +kernel, by decide +kernel⟩
theorem ok_u_law_choice (T : Tx K mg ad fdt C) : FnOk P w K mg base (L2.CX P w) 2 (ad "_law_choice") (fdt "_law_choice") ["_law_counts_here", "_law_person", "_law_place"] (spD (GG K C) 3 d_u_law_choice) :=
  have S := sc_u_law_choice
  fn_ok (G := GG K C) T.f_u_law_choice S fun cdv A outer s H E P (hr : Room 1 _) =>
    (ss_cons (s_set 3 S.nd q_int)
    (ss_cons (s_for (passes_of rfl) rfl (i_rng1 (by exact rfl) (by exact T.b_range) (a_cons (q_lenv 0 (by exact rfl) (by exact T.b_len)) a_nil) (ar_cons ar_nil)) (g_nm 4 S.nd) (ss_one (s_if (t_ne hr (qv 4) (qv 1)) (ss_one (s_set 3 S.nd (q_add (q_mul (qv 3) (q_ixv 0 (qv 4))) (q_ixv 2 (qv 4))))) ss_nil)))
    (ss_one (s_ret (qv 3)))))
theorem sc_u_law_board : FnScope ["_law_deal_here", "_law_counts_here", "_law_places_here", "_law_worths", "_law_place", "_law_person", "_law_blind", "_law_k", "_law_way", "_law_at_here", "_law_marks", "_law_many", "_law_more", "_law_j", "_law_worth"] ["_law_deal_here"] (defScope st_u_law_board) := ⟨rfl, rfl, rfl, by decide +kernel, rfl, by decide +kernel, by decide +kernel⟩
structure Ca_u_law_board (P : Program) (w : World) (K : PySem.W.Frag) (mg : Str → Option Value) (base : Heap) (ad : Str → Addr) (fdt : Str → FuncData) (C : Str → Addr) : Prop where
  f_u_law_counts : FnOk P w K mg base (L2.CX P w) 3 (ad "_law_counts") (fdt "_law_counts") ["_law_deal_here"] (spD (GG K C) 1 d_u_law_counts)
  f_u_law_places : FnOk P w K mg base (L2.CX P w) 2 (ad "_law_places") (fdt "_law_places") ["_law_counts_here"] (spD (GG K C) 1 d_u_law_places)
  f_u_law_pick : FnOk P w K mg base (L2.CX P w) 2 (ad "_law_pick") (fdt "_law_pick") ["_law_deal_here", "_law_many"] (spD (GG K C) 2 d_u_law_pick)
  f_u_law_choice : FnOk P w K mg base (L2.CX P w) 2 (ad "_law_choice") (fdt "_law_choice") ["_law_counts_here", "_law_person", "_law_place"] (spD (GG K C) 3 d_u_law_choice)
theorem ok_u_law_board (T : Tx K mg ad fdt C) (hF : Ca_u_law_board P w K mg base ad fdt C) : FnOk P w K mg base (L2.CX P w) 4 (ad "_law_board") (fdt "_law_board") ["_law_deal_here"] (spD (GG K C) 1 d_u_law_board) :=
  have S := sc_u_law_board
  fn_ok (G := GG K C) T.f_u_law_board S fun cdv A outer s H E P (hr : Room 3 _) =>
    (ss_cons (s_set 1 S.nd (q_call (hF.f_u_law_counts) (hr.mono (by decide)) (by exact rfl) T.g_u_law_counts T.f_u_law_counts.kp (bd_u_law_counts T) (takes_of rfl rfl rfl rfl) (ar_cons ar_nil) (a_cons (qv 0) a_nil)))
    (ss_cons (s_set 2 S.nd (q_call (hF.f_u_law_places) (hr.mono (by decide)) (by exact rfl) T.g_u_law_places T.f_u_law_places.kp (bd_u_law_places T) (takes_of rfl rfl rfl rfl) (ar_cons ar_nil) (a_cons (qv 1) a_nil)))
    (ss_cons (s_setLc 3 (by exact rfl) S.nd (i_it (by exact rfl) (qv 2)) (blkOk_by (own := [("_law_place", 4)]) (by kernel_rfl)) (fun P s H C cl fp => (g_nm 4 S.nd)) (fun P s H C cl fp => q_yes) (fun P s H C cl fp => q_int))
    (ss_cons (s_for (passes_of rfl) rfl (i_rng1 (by exact rfl) (by exact T.b_range) (a_cons (q_lenv 1 (by exact rfl) (by exact T.b_len)) a_nil) (ar_cons ar_nil)) (g_nm 5 S.nd) (ss_cons (s_setLc 6 (by exact rfl) S.nd (i_it (by exact rfl) (qv 2)) (blkOk_by (own := [("_law_place", 4)]) (by kernel_rfl)) (fun P s H C cl fp => (g_nm 4 S.nd)) (fun P s H C cl fp => q_yes) (fun P s H C cl fp => (q_sub (q_call (hF.f_u_law_pick) (hr.mono (by decide)) (by exact rfl) T.g_u_law_pick T.f_u_law_pick.kp (bd_u_law_pick T) takes0 (ar_cons (ar_cons ar_nil)) (a_cons (qv 0) (a_cons q_int a_nil))) q_int)))
    (ss_one (s_for (passes_of rfl) rfl (i_rng1 (by exact rfl) (by exact T.b_range) (a_cons (q_lenv 2 (by exact rfl) (by exact T.b_len)) a_nil) (ar_cons ar_nil)) (g_nm 7 S.nd) (ss_one (s_setIx 3 (q_add (q_ixv 3 (qv 7)) (q_ixv 6 (q_call (hF.f_u_law_choice) (hr.mono (by decide)) (by exact rfl) T.g_u_law_choice T.f_u_law_choice.kp (bd_u_law_choice T) (takes_of rfl rfl rfl rfl) (ar_cons (ar_cons (ar_cons ar_nil))) (a_cons (qv 1) (a_cons (qv 5) (a_cons (q_ixv 2 (qv 7)) a_nil)))))) (qv 7)))))))
    (ss_cons (s_set 8 S.nd (q_call (hF.f_u_law_pick) (hr.mono (by decide)) (by exact rfl) T.g_u_law_pick T.f_u_law_pick.kp (bd_u_law_pick T) (takes_of rfl rfl rfl rfl) (ar_cons (ar_cons ar_nil)) (a_cons (qv 0) (a_cons q_int a_nil))))
    (ss_cons (s_if (t_eq hr (qv 8) q_int) (ss_cons (s_set 9 S.nd (q_if (t_eq hr (q_call (hF.f_u_law_pick) (hr.mono (by decide)) (by exact rfl) T.g_u_law_pick T.f_u_law_pick.kp (bd_u_law_pick T) (takes_of rfl rfl rfl rfl) (ar_cons (ar_cons ar_nil)) (a_cons (qv 0) (a_cons q_int a_nil))) q_int) (q_sub (q_lenv 2 (by exact rfl) (by exact T.b_len)) q_int) (q_call (hF.f_u_law_pick) (hr.mono (by decide)) (by exact rfl) T.g_u_law_pick T.f_u_law_pick.kp (bd_u_law_pick T) (takes_of rfl rfl rfl rfl) (ar_cons (ar_cons ar_nil)) (a_cons (qv 0) (a_cons (q_lenv 2 (by exact rfl) (by exact T.b_len)) a_nil)))))
    (ss_one (s_setIx 3 (q_add (q_ixv 3 (qv 9)) (q_ix (q_tup (a_cons q_int (a_cons (q_neg q_int) (a_cons q_int (a_cons (q_neg q_int) a_nil))))) (q_call (hF.f_u_law_pick) (hr.mono (by decide)) (by exact rfl) T.g_u_law_pick T.f_u_law_pick.kp (bd_u_law_pick T) (takes_of rfl rfl rfl rfl) (ar_cons (ar_cons ar_nil)) (a_cons (qv 0) (a_cons q_int a_nil))))) (qv 9)))) ss_nil)
    (ss_cons (s_if (t_eq hr (qv 8) q_int) (ss_cons (s_set 10 S.nd (q_lc (by exact rfl) S.nd (i_it (by exact rfl) (qv 1)) (blkOk_by (own := [("_law_many", 11)]) (by kernel_rfl)) (fun P s H C cl fp => (g_nm 11 S.nd)) (fun P s H C cl fp => q_yes) (fun P s H C cl fp => (q_call (hF.f_u_law_pick) (hr.mono (by decide)) (by exact rfl) T.g_u_law_pick T.f_u_law_pick.kp (bd_u_law_pick T) takes0 (ar_cons (ar_cons ar_nil)) (a_cons (qv 0) (a_cons (qv 11) a_nil))))))
    (ss_cons (s_set 12 S.nd (q_add q_int (q_call (hF.f_u_law_pick) (hr.mono (by decide)) (by exact rfl) T.g_u_law_pick T.f_u_law_pick.kp (bd_u_law_pick T) (takes_of rfl rfl rfl rfl) (ar_cons (ar_cons ar_nil)) (a_cons (qv 0) (a_cons q_int a_nil)))))
    (ss_one (s_for (passes_of rfl) rfl (i_rng1 (by exact rfl) (by exact T.b_range) (a_cons (q_lenv 2 (by exact rfl) (by exact T.b_len)) a_nil) (ar_cons ar_nil)) (g_nm 7 S.nd) (ss_one (s_if (t_eq hr (q_len (by exact rfl) (by exact T.b_len) (a_cons (q_lc (by exact rfl) S.nd (i_rng1 (by exact rfl) (by exact T.b_range) (a_cons (q_lenv 1 (by exact rfl) (by exact T.b_len)) a_nil) (ar_cons ar_nil)) (blkOk_by (own := [("_law_j", 13)]) (by kernel_rfl)) (fun P s H C cl fp => (g_nm 13 S.nd)) (fun P s H C cl fp => (q_ifs (w_and (t_ne hr (q_ix (q_ixv 2 (qv 7)) (qv 13)) q_int) (w_and1 (t_ne hr (q_ix (q_ixv 2 (qv 7)) (qv 13)) (q_ixv 10 (qv 13))))).pt)) (fun P s H C cl fp => (qv 13))) a_nil)) q_int) (ss_one (s_setIx 3 (q_add (q_ixv 3 (qv 7)) (q_mul (qv 12) (q_sub q_int (q_mul q_int (q_intc (by exact rfl) (by exact T.b_int) (a_cons (q_and (q_sum (by exact rfl) (by exact rfl) (by exact T.b_sum) (a_cons (q_ixv 2 (qv 7)) a_nil)) q_int) a_nil)))))) (qv 7))) ss_nil)))))) ss_nil)
    (ss_cons (s_if (t_eq hr (qv 8) q_int) (ss_one (s_setLc 3 (by exact rfl) S.nd (i_it (by exact rfl) (qv 2)) (blkOk_by (own := [("_law_place", 4)]) (by kernel_rfl)) (fun P s H C cl fp => (g_nm 4 S.nd)) (fun P s H C cl fp => q_yes) (fun P s H C cl fp => (q_sub (q_call (hF.f_u_law_pick) (hr.mono (by decide)) (by exact rfl) T.g_u_law_pick T.f_u_law_pick.kp (bd_u_law_pick T) takes0 (ar_cons (ar_cons ar_nil)) (a_cons (qv 0) (a_cons q_int a_nil))) q_int)))) ss_nil)
    (ss_cons (s_if (t_eq hr (q_call (hF.f_u_law_pick) (hr.mono (by decide)) (by exact rfl) T.g_u_law_pick T.f_u_law_pick.kp (bd_u_law_pick T) (takes_of rfl rfl rfl rfl) (ar_cons (ar_cons ar_nil)) (a_cons (qv 0) (a_cons q_int a_nil))) q_int) (ss_one (s_setLc 3 (by exact rfl) S.nd (i_it (by exact rfl) (qv 3)) (blkOk_by (own := [("_law_worth", 14)]) (by kernel_rfl)) (fun P s H C cl fp => (g_nm 14 S.nd)) (fun P s H C cl fp => q_yes) (fun P s H C cl fp => (q_mul (qv 14) (q_pow q_int q_int))))) ss_nil)
    (ss_one (s_ret (q_tup (a_cons (qv 1) (a_cons (q_tuple (by exact rfl) (by exact T.b_tuple) (a_cons (qv 3) a_nil)) a_nil))))))))))))))
theorem sc_u_law_at : FnScope ["_law_counts_here", "_law_place", "_law_at_here", "_law_j"] ["_law_counts_here", "_law_place"] (defScope st_u_law_at) := ⟨rfl, rfl, rfl, by decide +kernel, rfl, by decide +kernel, by decide +kernel⟩
theorem ok_u_law_at (T : Tx K mg ad fdt C) : FnOk P w K mg base (L2.CX P w) 2 (ad "_law_at") (fdt "_law_at") ["_law_counts_here", "_law_place"] (spD (GG K C) 2 d_u_law_at) :=
  have S := sc_u_law_at
  fn_ok (G := GG K C) T.f_u_law_at S fun cdv A outer s H E P (hr : Room 1 _) =>
    (ss_cons (s_set 2 S.nd q_int)
    (ss_cons (s_for (passes_of rfl) rfl (i_rng1 (by exact rfl) (by exact T.b_range) (a_cons (q_lenv 0 (by exact rfl) (by exact T.b_len)) a_nil) (ar_cons ar_nil)) (g_nm 3 S.nd) (ss_one (s_set 2 S.nd (q_add (q_mul (qv 2) (q_ixv 0 (qv 3))) (q_ixv 1 (qv 3))))))
    (ss_one (s_ret (qv 2)))))
theorem sc_u_law_mixed : FnScope ["_law_board_here", "_law_here", "_law_there", "_law_people", "_law_total", "_law_lot", "_law_place", "_law_sign", "_law_person", "_law_inside"] ["_law_board_here", "_law_here", "_law_there"] (defScope st_u_law_mixed) := ⟨rfl, rfl, rfl, by decide +kernel, rfl, by decide +kernel, by decide +kernel⟩
structure Ca_u_law_mixed (P : Program) (w : World) (K : PySem.W.Frag) (mg : Str → Option Value) (base : Heap) (ad : Str → Addr) (fdt : Str → FuncData) (C : Str → Addr) : Prop where
  f_u_law_at : FnOk P w K mg base (L2.CX P w) 2 (ad "_law_at") (fdt "_law_at") ["_law_counts_here", "_law_place"] (spD (GG K C) 2 d_u_law_at)
theorem ok_u_law_mixed (T : Tx K mg ad fdt C) (hF : Ca_u_law_mixed P w K mg base ad fdt C) : FnOk P w K mg base (L2.CX P w) 3 (ad "_law_mixed") (fdt "_law_mixed") ["_law_board_here", "_law_here", "_law_there"] (spD (GG K C) 3 d_u_law_mixed) :=
  have S := sc_u_law_mixed
  fn_ok (G := GG K C) T.f_u_law_mixed S fun cdv A outer s H E P (hr : Room 2 _) =>
    (ss_cons (s_set 3 S.nd (q_lenv 1 (by exact rfl) (by exact T.b_len)))
    (ss_cons (s_set 4 S.nd q_int)
    (ss_cons (s_for (passes_of rfl) rfl (i_rng1 (by exact rfl) (by exact T.b_range) (a_cons (q_shl q_int (qv 3)) a_nil) (ar_cons ar_nil)) (g_nm 5 S.nd) (ss_cons (s_set 6 S.nd (q_lst a_nil))
    (ss_cons (s_set 7 S.nd q_int)
    (ss_cons (s_for (passes_of rfl) rfl (i_rng1 (by exact rfl) (by exact T.b_range) (a_cons (qv 3) a_nil) (ar_cons ar_nil)) (g_nm 8 S.nd) (ss_cons (s_set 9 S.nd (q_gt (q_and (qv 5) (q_shl q_int (qv 8))) q_int))
    (ss_cons (s_expr (q_app 6 (q_if (q_val (qv 9)) (q_ixv 2 (qv 8)) (q_ixv 1 (qv 8)))))
    (ss_one (s_set 7 S.nd (q_if (q_val (qv 9)) (qv 7) (q_neg (qv 7))))))))
    (ss_one (s_set 4 S.nd (q_add (qv 4) (q_mul (qv 7) (q_ix (q_ixv 0 q_int) (q_call (hF.f_u_law_at) (hr.mono (by decide)) (by exact rfl) T.g_u_law_at T.f_u_law_at.kp (bd_u_law_at T) (takes_of rfl rfl rfl rfl) (ar_cons (ar_cons ar_nil)) (a_cons (q_ixv 0 q_int) (a_cons (qv 6) a_nil))))))))))))
    (ss_one (s_ret (qv 4))))))
theorem sc_u_law_uneven : FnScope ["_law_board_here", "_law_origin", "_law_count", "_law_place"] ["_law_board_here"] (defScope st_u_law_uneven) := ⟨rfl, rfl, rfl, by decide +kernel, rfl, by decide +kernel, by decide +kernel⟩
structure Ca_u_law_uneven (P : Program) (w : World) (K : PySem.W.Frag) (mg : Str → Option Value) (base : Heap) (ad : Str → Addr) (fdt : Str → FuncData) (C : Str → Addr) : Prop where
  f_u_law_places : FnOk P w K mg base (L2.CX P w) 2 (ad "_law_places") (fdt "_law_places") ["_law_counts_here"] (spD (GG K C) 1 d_u_law_places)
  f_u_law_mixed : FnOk P w K mg base (L2.CX P w) 3 (ad "_law_mixed") (fdt "_law_mixed") ["_law_board_here", "_law_here", "_law_there"] (spD (GG K C) 3 d_u_law_mixed)
theorem ok_u_law_uneven (T : Tx K mg ad fdt C) (hF : Ca_u_law_uneven P w K mg base ad fdt C) : FnOk P w K mg base (L2.CX P w) 4 (ad "_law_uneven") (fdt "_law_uneven") ["_law_board_here"] (spD (GG K C) 1 d_u_law_uneven) :=
  have S := sc_u_law_uneven
  fn_ok (G := GG K C) T.f_u_law_uneven S fun cdv A outer s H E P (hr : Room 3 _) =>
    (ss_cons (s_set 1 S.nd (q_tuple (by exact rfl) (by exact T.b_tuple) (a_cons (q_lc (by exact rfl) S.nd (i_it (by exact rfl) (q_ixv 0 q_int)) (blkOk_by (own := [("_law_count", 2)]) (by kernel_rfl)) (fun P s H C cl fp => (g_nm 2 S.nd)) (fun P s H C cl fp => q_yes) (fun P s H C cl fp => q_int)) a_nil)))
    (ss_cons (s_for (passes_of rfl) rfl (i_it (by exact rfl) (q_call (hF.f_u_law_places) (hr.mono (by decide)) (by exact rfl) T.g_u_law_places T.f_u_law_places.kp (bd_u_law_places T) (takes_of rfl rfl rfl rfl) (ar_cons ar_nil) (a_cons (q_ixv 0 q_int) a_nil))) (g_nm 3 S.nd) (ss_one (s_if (t_ne hr (q_call (hF.f_u_law_mixed) (hr.mono (by decide)) (by exact rfl) T.g_u_law_mixed T.f_u_law_mixed.kp (bd_u_law_mixed T) (takes_of rfl rfl rfl rfl) (ar_cons (ar_cons (ar_cons ar_nil))) (a_cons (qv 0) (a_cons (qv 1) (a_cons (qv 3) a_nil)))) q_int) (ss_one (s_ret (qv 3))) ss_nil)))
    (ss_one (s_ret q_non))))
theorem sc_board_size : FnScope ["counts", "many", "count"] ["counts"] (defScope st_board_size) := ⟨rfl, rfl, rfl, by decide +kernel, rfl, by decide +kernel, by decide +kernel⟩
theorem ok_board_size (T : Tx K mg ad fdt C) : FnOk P w K mg base (L2.CX P w) 2 (ad "board_size") (fdt "board_size") ["counts"] (spD (GG K C) 1 d_board_size) :=
  have S := sc_board_size
  fn_ok (G := GG K C) T.f_board_size S fun cdv A outer s H E P (hr : Room 1 _) =>
    (ss_cons (s_set 1 S.nd q_int)
    (ss_cons (s_for (passes_of rfl) rfl (i_it (by exact rfl) (qv 0)) (g_nm 2 S.nd) (ss_one (s_set 1 S.nd (q_mul (qv 1) (qv 2)))))
    (ss_one (s_ret (qv 1)))))
theorem sc_firsts_by_place : FnScope ["counts", "person", "below", "step", "k"] ["counts", "person"] (defScope st_firsts_by_place) := ⟨rfl, rfl, rfl, by decide +kernel, rfl, by decide +kernel, by decide +kernel⟩
structure Ca_firsts_by_place (P : Program) (w : World) (K : PySem.W.Frag) (mg : Str → Option Value) (base : Heap) (ad : Str → Addr) (fdt : Str → FuncData) (C : Str → Addr) : Prop where
  f_board_size : FnOk P w K mg base (L2.CX P w) 2 (ad "board_size") (fdt "board_size") ["counts"] (spD (GG K C) 1 d_board_size)
theorem ok_firsts_by_place (T : Tx K mg ad fdt C) (hF : Ca_firsts_by_place P w K mg base ad fdt C) : FnOk P w K mg base (L2.CX P w) 3 (ad "firsts_by_place") (fdt "firsts_by_place") ["counts", "person"] (spD (GG K C) 2 d_firsts_by_place) :=
  have S := sc_firsts_by_place
  fn_ok (G := GG K C) T.f_firsts_by_place S fun cdv A outer s H E P (hr : Room 2 _) =>
    (ss_cons (s_set 2 S.nd (q_call (hF.f_board_size) (hr.mono (by decide)) (by exact rfl) T.g_board_size T.f_board_size.kp (bd_board_size T) (takes_of rfl rfl rfl rfl) (ar_cons ar_nil) (a_cons (q_sl (qv 0) (o_some (q_add (qv 1) q_int)) o_none) a_nil)))
    (ss_cons (s_set 3 S.nd (q_mul (qv 2) (q_ixv 0 (qv 1))))
    (ss_one (s_ret (q_lc (by exact rfl) S.nd (i_rng1 (by exact rfl) (by exact T.b_range) (a_cons (q_call (hF.f_board_size) (hr.mono (by decide)) (by exact rfl) T.g_board_size T.f_board_size.kp (bd_board_size T) (takes_of rfl rfl rfl rfl) (ar_cons ar_nil) (a_cons (qv 0) a_nil)) a_nil) (ar_cons ar_nil)) (blkOk_by (own := [("k", 4)]) (by kernel_rfl)) (fun P s H C cl fp => (g_nm 4 S.nd)) (fun P s H C cl fp => q_yes) (fun P s H C cl fp => (q_add (q_mul (q_div (qv 4) (qv 3)) (qv 3)) (q_mod (qv 4) (qv 2)))))))))
theorem sc_flattened : FnScope ["counts", "worths", "left", "parts", "person", "firsts", "k", "first", "worth"] ["counts", "worths"] (defScope st_flattened) := ⟨rfl, rfl, rfl, by decide +kernel, rfl, by decide +kernel, by decide +kernel⟩
structure Ca_flattened (P : Program) (w : World) (K : PySem.W.Frag) (mg : Str → Option Value) (base : Heap) (ad : Str → Addr) (fdt : Str → FuncData) (C : Str → Addr) : Prop where
  f_firsts_by_place : FnOk P w K mg base (L2.CX P w) 3 (ad "firsts_by_place") (fdt "firsts_by_place") ["counts", "person"] (spD (GG K C) 2 d_firsts_by_place)
theorem ok_flattened (T : Tx K mg ad fdt C) (hF : Ca_flattened P w K mg base ad fdt C) : FnOk P w K mg base (L2.CX P w) 4 (ad "flattened") (fdt "flattened") ["counts", "worths"] (spD (GG K C) 2 d_flattened) :=
  have S := sc_flattened
  fn_ok (G := GG K C) T.f_flattened S fun cdv A outer s H E P (hr : Room 3 _) =>
    (ss_cons (s_set 2 S.nd (q_list (by exact rfl) (by exact T.b_list) (a_cons (qv 1) a_nil)))
    (ss_cons (s_set 3 S.nd (q_lst a_nil))
    (ss_cons (s_for (passes_of rfl) rfl (i_rng1 (by exact rfl) (by exact T.b_range) (a_cons (q_lenv 0 (by exact rfl) (by exact T.b_len)) a_nil) (ar_cons ar_nil)) (g_nm 4 S.nd) (ss_cons (s_set 5 S.nd (q_call (hF.f_firsts_by_place) (hr.mono (by decide)) (by exact rfl) T.g_firsts_by_place T.f_firsts_by_place.kp (bd_firsts_by_place T) (takes_of rfl rfl rfl rfl) (ar_cons (ar_cons ar_nil)) (a_cons (qv 0) (a_cons (qv 4) a_nil))))
    (ss_cons (s_expr (q_app 3 (q_lc (by exact rfl) S.nd (i_enum (by exact rfl) (by exact rfl) (by exact T.b_enumerate) (a_cons (qv 5) a_nil)) (blkOk_by (own := [("k", 6), ("first", 7)]) (by kernel_rfl)) (fun P s H C cl fp => (g_tp rfl (g_cons (g_nm 6 S.nd) (g_cons (g_nm 7 S.nd) g_nil)) rfl)) (fun P s H C cl fp => (q_ifs (t_eq hr (qv 6) (qv 7)))) (fun P s H C cl fp => (q_ixv 2 (qv 6))))))
    (ss_one (s_set 2 S.nd (q_lc (by exact rfl) S.nd (i_zip (by exact rfl) (by exact rfl) (by exact T.b_zip) (a_cons (qv 2) (a_cons (qv 5) a_nil))) (blkOk_by (own := [("worth", 8), ("first", 7)]) (by kernel_rfl)) (fun P s H C cl fp => (g_tp rfl (g_cons (g_nm 8 S.nd) (g_cons (g_nm 7 S.nd) g_nil)) rfl)) (fun P s H C cl fp => q_yes) (fun P s H C cl fp => (q_sub (qv 8) (q_ixv 2 (qv 7))))))))))
    (ss_one (s_ret (q_tup (a_cons (qv 3) (a_cons (qv 2) a_nil))))))))
theorem sc_row_tuples : FnScope ["counts", "found", "count", "rows", "row"] ["counts"] (defScope st_row_tuples) := ⟨rfl, rfl, rfl, by decide +kernel, rfl, by decide +kernel, by decide +kernel⟩
theorem ok_row_tuples (T : Tx K mg ad fdt C) : FnOk P w K mg base (L2.CX P w) 2 (ad "row_tuples") (fdt "row_tuples") ["counts"] (spD (GG K C) 1 d_row_tuples) :=
  have S := sc_row_tuples
  fn_ok (G := GG K C) T.f_row_tuples S fun cdv A outer s H E P (hr : Room 1 _) =>
    (ss_cons (s_set 1 S.nd (q_lst (a_cons (q_tup a_nil) a_nil)))
    (ss_cons (s_for (passes_of rfl) rfl (i_it (by exact rfl) (qv 0)) (g_nm 2 S.nd) (ss_one (s_setLc2 1 (by exact rfl) S.nd (i_it (by exact rfl) (qv 1)) (blkOk_by (own := [("rows", 3), ("row", 4)]) (by kernel_rfl)) (fun P s H C cl fp => (g_nm 3 S.nd)) (fun P s H C cl fp => q_yes) (fun P s H C cl fp => (i_rng1 (by exact rfl) (by exact T.b_range) (a_cons (qv 2) a_nil) (ar_cons ar_nil))) (fun P s H C cl fp => (g_nm 4 S.nd)) (fun P s H C cl fp => q_yes) (fun P s H C cl fp => (q_add (qv 3) (q_tup (a_cons (qv 4) a_nil)))))))
    (ss_one (s_ret (qv 1)))))
theorem sc_uneven_place : FnScope ["board", "counts", "worths", "left", "place", "difference"] ["board"] (defScope st_uneven_place) := ⟨rfl, rfl, rfl, by decide +kernel, rfl, by decide +kernel, by decide +kernel⟩
structure Ca_uneven_place (P : Program) (w : World) (K : PySem.W.Frag) (mg : Str → Option Value) (base : Heap) (ad : Str → Addr) (fdt : Str → FuncData) (C : Str → Addr) : Prop where
  f_flattened : FnOk P w K mg base (L2.CX P w) 4 (ad "flattened") (fdt "flattened") ["counts", "worths"] (spD (GG K C) 2 d_flattened)
  f_row_tuples : FnOk P w K mg base (L2.CX P w) 2 (ad "row_tuples") (fdt "row_tuples") ["counts"] (spD (GG K C) 1 d_row_tuples)
theorem ok_uneven_place (T : Tx K mg ad fdt C) (hF : Ca_uneven_place P w K mg base ad fdt C) : FnOk P w K mg base (L2.CX P w) 5 (ad "uneven_place") (fdt "uneven_place") ["board"] (spD (GG K C) 1 d_uneven_place) :=
  have S := sc_uneven_place
  fn_ok (G := GG K C) T.f_uneven_place S fun cdv A outer s H E P (hr : Room 4 _) =>
    (ss_cons (s_setP (qv 0) (g_tp rfl (g_cons (g_nm 1 S.nd) (g_cons (g_nm 2 S.nd) g_nil)) rfl))
    (ss_cons (s_set 3 S.nd (q_ix (q_call (hF.f_flattened) (hr.mono (by decide)) (by exact rfl) T.g_flattened T.f_flattened.kp (bd_flattened T) (takes_of rfl rfl rfl rfl) (ar_cons (ar_cons ar_nil)) (a_cons (qv 1) (a_cons (qv 2) a_nil))) q_int))
    (ss_cons (s_for (passes_of rfl) rfl (i_zip (by exact rfl) (by exact rfl) (by exact T.b_zip) (a_cons (q_call (hF.f_row_tuples) (hr.mono (by decide)) (by exact rfl) T.g_row_tuples T.f_row_tuples.kp (bd_row_tuples T) (takes_of rfl rfl rfl rfl) (ar_cons ar_nil) (a_cons (qv 1) a_nil)) (a_cons (qv 3) a_nil))) (g_tp rfl (g_cons (g_nm 4 S.nd) (g_cons (g_nm 5 S.nd) g_nil)) rfl) (ss_one (s_if (t_ne hr (qv 5) q_int) (ss_one (s_ret (qv 4))) ss_nil)))
    (ss_one (s_ret q_non)))))
theorem sc_flat_tables : FnScope ["board", "counts", "worths", "place", "parts", "factor", "part", "row"] ["board"] (defScope st_flat_tables) := ⟨rfl, rfl, rfl, by decide +kernel, rfl, by decide +kernel, by decide +kernel⟩
structure Ca_flat_tables (P : Program) (w : World) (K : PySem.W.Frag) (mg : Str → Option Value) (base : Heap) (ad : Str → Addr) (fdt : Str → FuncData) (C : Str → Addr) : Prop where
  f_uneven_place : FnOk P w K mg base (L2.CX P w) 5 (ad "uneven_place") (fdt "uneven_place") ["board"] (spD (GG K C) 1 d_uneven_place)
  f_flattened : FnOk P w K mg base (L2.CX P w) 4 (ad "flattened") (fdt "flattened") ["counts", "worths"] (spD (GG K C) 2 d_flattened)
theorem ok_flat_tables (T : Tx K mg ad fdt C) (hF : Ca_flat_tables P w K mg base ad fdt C) : FnOk P w K mg base (L2.CX P w) 6 (ad "flat_tables") (fdt "flat_tables") ["board"] (spD (GG K C) 1 d_flat_tables) :=
  have S := sc_flat_tables
  fn_ok (G := GG K C) T.f_flat_tables S fun cdv A outer s H E P (hr : Room 5 _) =>
    (ss_cons (s_setP (qv 0) (g_tp rfl (g_cons (g_nm 1 S.nd) (g_cons (g_nm 2 S.nd) g_nil)) rfl))
    (ss_cons (s_set 3 S.nd (q_call (hF.f_uneven_place) (hr.mono (by decide)) (by exact rfl) T.g_uneven_place T.f_uneven_place.kp (bd_uneven_place T) (takes_of rfl rfl rfl rfl) (ar_cons ar_nil) (a_cons (qv 0) a_nil)))
    (ss_cons (s_if (t_notN (qv 3)) (ss_one (s_raise1 rfl (takes_of rfl rfl rfl rfl) T.xC_Uneven T.x_Uneven_place T.xi_Uneven T.xt_Uneven (ok_Uneven_init T) (hr.mono (by decide)) (bd_Uneven_init T) rfl T.gx_Uneven rfl (ar_cons ar_nil) (a_cons (qv 3) a_nil))) ss_nil)
    (ss_cons (s_set 4 S.nd (q_ix (q_call (hF.f_flattened) (hr.mono (by decide)) (by exact rfl) T.g_flattened T.f_flattened.kp (bd_flattened T) (takes_of rfl rfl rfl rfl) (ar_cons (ar_cons ar_nil)) (a_cons (qv 1) (a_cons (qv 2) a_nil))) q_int))
    (ss_cons (s_set 5 S.nd (q_sub (q_lenv 1 (by exact rfl) (by exact T.b_len)) q_int))
    (ss_one (s_ret (q_tuple (by exact rfl) (by exact T.b_tuple) (a_cons (q_lc (by exact rfl) S.nd (i_it (by exact rfl) (qv 4)) (blkOk_by (own := [("row", 7)]) (by kernel_rfl)) (fun P s H C cl fp => (g_nm 7 S.nd)) (fun P s H C cl fp => q_yes) (fun P s H C cl fp => (q_tuple (by exact rfl) (by exact T.b_tuple) (a_cons (q_lc (by exact rfl) S.nd (i_it (by exact rfl) (qv 7)) (blkOk_by (own := [("part", 6)]) (by kernel_rfl)) (fun P s H C cl fp => (g_nm 6 S.nd)) (fun P s H C cl fp => q_yes) (fun P s H C cl fp => (q_tup (a_cons (q_mul (qv 5) (qv 6)) (a_cons q_int a_nil))))) a_nil)))) a_nil)))))))))
theorem sc_u_law_flat : FnScope ["_law_board_here", "e"] ["_law_board_here"] (defScope st_u_law_flat) := ⟨rfl, rfl, rfl, by decide +kernel, rfl, by decide +kernel, by decide +kernel⟩
structure Ca_u_law_flat (P : Program) (w : World) (K : PySem.W.Frag) (mg : Str → Option Value) (base : Heap) (ad : Str → Addr) (fdt : Str → FuncData) (C : Str → Addr) : Prop where
  f_flat_tables : FnOk P w K mg base (L2.CX P w) 6 (ad "flat_tables") (fdt "flat_tables") ["board"] (spD (GG K C) 1 d_flat_tables)
theorem ok_u_law_flat (T : Tx K mg ad fdt C) (hF : Ca_u_law_flat P w K mg base ad fdt C) : FnOk P w K mg base (L2.CX P w) 7 (ad "_law_flat") (fdt "_law_flat") ["_law_board_here"] (spD (GG K C) 1 d_u_law_flat) :=
  have S := sc_u_law_flat
  fn_ok (G := GG K C) T.f_u_law_flat S fun cdv A outer s H E P (hr : Room 6 _) =>
    (ss_one (s_try (c0 := "Uneven") rfl rfl S.nd rfl rfl ⟨rfl, by decide, Or.inl T.gx_Uneven⟩ (takes_of rfl rfl rfl rfl) rfl (hit_ok_Uneven T) (fun W pn xe tk hp => (ss_one (s_ret (q_tup (a_cons q_str (a_cons (q_callK (ks := ["board"]) (ix := [0]) (hF.f_flat_tables) (hr.mono (by decide)) (by exact rfl) T.g_flat_tables T.f_flat_tables.kp (fun_kw T.f_flat_tables fun _ _ _ _ _ _ ws hl => match ws, hl with | [_], _ => rfl) tk (ar_cons ar_nil) (k_cons (qv 0) k_nil)) a_nil)))))) (fun a oe cls d pn hz hv => (pa_cons pe_str (pa_cons (pe_xf T.xf_Uneven T.x_Uneven_place hz hv (pe_var (i := 1) rfl (Or.inl rfl))) pa_nil)))))
theorem sc_u_law_integer : FnScope ["_law_thing"] ["_law_thing"] (defScope st_u_law_integer) := ⟨rfl, rfl, rfl, by decide +kernel, rfl, by decide +kernel, by decide +kernel⟩
theorem ok_u_law_integer (T : Tx K mg ad fdt C) : FnOk P w K mg base (L2.CX P w) 2 (ad "_law_integer") (fdt "_law_integer") ["_law_thing"] (spD (GG K C) 1 d_u_law_integer) :=
  have S := sc_u_law_integer
  fn_ok (G := GG K C) T.f_u_law_integer S fun cdv A outer s H E P (hr : Room 1 _) =>
    (ss_one (s_ret (q_andv (q_isi "int" isi_int (by exact rfl) (by exact T.b_isinstance) (by exact rfl) (by exact T.b_int) (by decide +kernel) (qv 0)) (q_one (q_not (q_isi "bool" isi_bool (by exact rfl) (by exact T.b_isinstance) (by exact rfl) (by exact T.b_bool) (by decide +kernel) (qv 0)))))))
theorem sc_u_law_same : FnScope ["_law_one", "_law_due", "_law_k"] ["_law_one", "_law_due"] (defScope st_u_law_same) := ⟨rfl, rfl, rfl, by decide +kernel, rfl, by decide +kernel, by decide +kernel⟩
structure Ca_u_law_same (P : Program) (w : World) (K : PySem.W.Frag) (mg : Str → Option Value) (base : Heap) (ad : Str → Addr) (fdt : Str → FuncData) (C : Str → Addr) : Prop where
  f_u_law_integer : FnOk P w K mg base (L2.CX P w) 2 (ad "_law_integer") (fdt "_law_integer") ["_law_thing"] (spD (GG K C) 1 d_u_law_integer)
theorem ok_u_law_same1 (k : Nat) (hk : 2 ≤ k) (rc : FnOk P w K mg base (L2.CX P w) k (ad "_law_same") (fdt "_law_same") ["_law_one", "_law_due"] (spD (GG K C) 2 (d_u_law_sameN j))) (T : Tx K mg ad fdt C) (hF : Ca_u_law_same P w K mg base ad fdt C) : FnOk P w K mg base (L2.CX P w) (k + 1) (ad "_law_same") (fdt "_law_same") ["_law_one", "_law_due"] (spD (GG K C) 2 (d_u_law_sameN (j + 1))) :=
  have S := sc_u_law_same
  fn_ok (G := GG K C) T.f_u_law_same S fun cdv A outer s H E P hr =>
    (ss_cons (s_if (q_val (q_isi "tuple" isi_tuple (by exact rfl) (by exact T.b_isinstance) (by exact rfl) (by exact T.b_tuple) (by decide +kernel) (qv 1))) (ss_cons (s_if (w_or (t_not (q_val (q_isi "tuple" isi_tuple (by exact rfl) (by exact T.b_isinstance) (by exact rfl) (by exact T.b_tuple) (by decide +kernel) (qv 0)))) (w_or1 (t_ne hr (q_lenv 0 (by exact rfl) (by exact T.b_len)) (q_lenv 1 (by exact rfl) (by exact T.b_len))))).pt (ss_one (s_ret q_bl)) ss_nil)
    (ss_cons (s_for (passes_of rfl) rfl (i_rng1 (by exact rfl) (by exact T.b_range) (a_cons (q_lenv 1 (by exact rfl) (by exact T.b_len)) a_nil) (ar_cons ar_nil)) (g_nm 2 S.nd) (ss_one (s_if (t_not (q_val (q_call rc (hr.mono (Nat.le_refl _)) (by exact rfl) T.g_u_law_same T.f_u_law_same.kp (bd_u_law_same T) (takes_of rfl rfl rfl rfl) (ar_cons (ar_cons ar_nil)) (a_cons (q_ixv 0 (qv 2)) (a_cons (q_ixv 1 (qv 2)) a_nil))))) (ss_one (s_ret q_bl)) ss_nil)))
    (ss_one (s_ret q_bl)))) ss_nil)
    (ss_cons (s_if (t_isN (qv 1)) (ss_one (s_ret (q_isN (qv 0)))) ss_nil)
    (ss_cons (s_if (t_is (qv 1) q_bl) (ss_one (s_ret (q_is (qv 0) q_bl))) ss_nil)
    (ss_cons (s_if (t_is (qv 1) q_bl) (ss_one (s_ret (q_is (qv 0) q_bl))) ss_nil)
    (ss_cons (s_if (q_val (q_isi "str" isi_str (by exact rfl) (by exact T.b_isinstance) (by exact rfl) (by exact T.b_str) (by decide +kernel) (qv 1))) (ss_one (s_ret (q_andv (q_isi "str" isi_str (by exact rfl) (by exact T.b_isinstance) (by exact rfl) (by exact T.b_str) (by decide +kernel) (qv 0)) (q_one (q_eq hr (qv 0) (qv 1)))))) ss_nil)
    (ss_one (s_ret (q_andv (q_call (hF.f_u_law_integer) (hr.mono (by omega)) (by exact rfl) T.g_u_law_integer T.f_u_law_integer.kp (bd_u_law_integer T) (takes_of rfl rfl rfl rfl) (ar_cons ar_nil) (a_cons (qv 0) a_nil)) (q_one (q_eq hr (qv 0) (qv 1)))))))))))
theorem ok_u_law_sameN (T : Tx K mg ad fdt C) (hF : Ca_u_law_same P w K mg base ad fdt C) : ∀ j : Nat, FnOk P w K mg base (L2.CX P w) (2 + j) (ad "_law_same") (fdt "_law_same") ["_law_one", "_law_due"] (spD (GG K C) 2 (d_u_law_sameN j))
  | 0 => fn_stuck
  | j + 1 => ok_u_law_same1 (2 + j) (Nat.le_add_right _ _) (ok_u_law_sameN T hF j) T hF
theorem ok_u_law_same (T : Tx K mg ad fdt C) (hF : Ca_u_law_same P w K mg base ad fdt C) : FnOk P w K mg base (L2.CX P w) 7 (ad "_law_same") (fdt "_law_same") ["_law_one", "_law_due"] (spD (GG K C) 2 d_u_law_same) := (ok_u_law_sameN T hF 4).mono (by decide)
theorem sc_is_integer : FnScope ["thing"] ["thing"] (defScope st_is_integer) := ⟨rfl, rfl, rfl, by decide +kernel, rfl, by decide +kernel, by decide +kernel⟩
theorem ok_is_integer (T : Tx K mg ad fdt C) : FnOk P w K mg base (L2.CX P w) 2 (ad "is_integer") (fdt "is_integer") ["thing"] (spD (GG K C) 1 d_is_integer) :=
  have S := sc_is_integer
  fn_ok (G := GG K C) T.f_is_integer S fun cdv A outer s H E P (hr : Room 1 _) =>
    (ss_one (s_ret (q_andv (q_isi "int" isi_int (by exact rfl) (by exact T.b_isinstance) (by exact rfl) (by exact T.b_int) (by decide +kernel) (qv 0)) (q_one (q_not (q_isi "bool" isi_bool (by exact rfl) (by exact T.b_isinstance) (by exact rfl) (by exact T.b_bool) (by decide +kernel) (qv 0)))))))
theorem sc_are_rows : FnScope ["counts", "thing", "count", "row"] ["counts", "thing"] (defScope st_are_rows) := ⟨rfl, rfl, rfl, by decide +kernel, rfl, by decide +kernel, by decide +kernel⟩
structure Ca_are_rows (P : Program) (w : World) (K : PySem.W.Frag) (mg : Str → Option Value) (base : Heap) (ad : Str → Addr) (fdt : Str → FuncData) (C : Str → Addr) : Prop where
  f_is_integer : FnOk P w K mg base (L2.CX P w) 2 (ad "is_integer") (fdt "is_integer") ["thing"] (spD (GG K C) 1 d_is_integer)
theorem ok_are_rows (T : Tx K mg ad fdt C) (hF : Ca_are_rows P w K mg base ad fdt C) : FnOk P w K mg base (L2.CX P w) 3 (ad "are_rows") (fdt "are_rows") ["counts", "thing"] (spD (GG K C) 2 d_are_rows) :=
  have S := sc_are_rows
  fn_ok (G := GG K C) T.f_are_rows S fun cdv A outer s H E P (hr : Room 2 _) =>
    (ss_cons (s_if (w_or (t_not (q_val (q_isi "tuple" isi_tuple (by exact rfl) (by exact T.b_isinstance) (by exact rfl) (by exact T.b_tuple) (by decide +kernel) (qv 1)))) (w_or1 (t_ne hr (q_lenv 1 (by exact rfl) (by exact T.b_len)) (q_lenv 0 (by exact rfl) (by exact T.b_len))))).pt (ss_one (s_ret q_bl)) ss_nil)
    (ss_cons (s_for (passes_of rfl) rfl (i_zip (by exact rfl) (by exact rfl) (by exact T.b_zip) (a_cons (qv 0) (a_cons (qv 1) a_nil))) (g_tp rfl (g_cons (g_nm 2 S.nd) (g_cons (g_nm 3 S.nd) g_nil)) rfl) (ss_one (s_if (w_or (t_not (q_val (q_call (hF.f_is_integer) (hr.mono (by decide)) (by exact rfl) T.g_is_integer T.f_is_integer.kp (bd_is_integer T) (takes_of rfl rfl rfl rfl) (ar_cons ar_nil) (a_cons (qv 3) a_nil)))) (w_or (t_lt (qv 3) q_int) (w_or1 (t_ge (qv 3) (qv 2))))).pt (ss_one (s_ret q_bl)) ss_nil)))
    (ss_one (s_ret q_bl))))
theorem sc_mixed_at : FnScope ["board", "here", "there", "counts", "worths", "signed", "count", "near", "far", "kept", "before", "sign", "number"] ["board", "here", "there"] (defScope st_mixed_at) := ⟨rfl, rfl, rfl, by decide +kernel, rfl, by decide +kernel, by decide +kernel⟩
structure Ca_mixed_at (P : Program) (w : World) (K : PySem.W.Frag) (mg : Str → Option Value) (base : Heap) (ad : Str → Addr) (fdt : Str → FuncData) (C : Str → Addr) : Prop where
  f_are_rows : FnOk P w K mg base (L2.CX P w) 3 (ad "are_rows") (fdt "are_rows") ["counts", "thing"] (spD (GG K C) 2 d_are_rows)
theorem ok_mixed_at (T : Tx K mg ad fdt C) (hF : Ca_mixed_at P w K mg base ad fdt C) : FnOk P w K mg base (L2.CX P w) 4 (ad "mixed_at") (fdt "mixed_at") ["board", "here", "there"] (spD (GG K C) 3 d_mixed_at) :=
  have S := sc_mixed_at
  fn_ok (G := GG K C) T.f_mixed_at S fun cdv A outer s H E P (hr : Room 3 _) =>
    (ss_cons (s_setP (qv 0) (g_tp rfl (g_cons (g_nm 3 S.nd) (g_cons (g_nm 4 S.nd) g_nil)) rfl))
    (ss_cons (s_if (t_not (q_val (q_call (hF.f_are_rows) (hr.mono (by decide)) (by exact rfl) T.g_are_rows T.f_are_rows.kp (bd_are_rows T) (takes_of rfl rfl rfl rfl) (ar_cons (ar_cons ar_nil)) (a_cons (qv 3) (a_cons (qv 1) a_nil))))) (ss_one (s_raise rfl (takes_of rfl rfl rfl rfl) T.xC_NotUsable T.x_NotUsable_word T.x_NotUsable_at T.xi_NotUsable T.xt_NotUsable (ok_NotUsable_init T) (hr.mono (by decide)) (bd_NotUsable_init T) rfl T.gx_NotUsable rfl (ar_cons (ar_cons ar_nil)) (a_cons q_str (a_cons (q_neg q_int) a_nil)))) ss_nil)
    (ss_cons (s_if (t_not (q_val (q_call (hF.f_are_rows) (hr.mono (by decide)) (by exact rfl) T.g_are_rows T.f_are_rows.kp (bd_are_rows T) (takes_of rfl rfl rfl rfl) (ar_cons (ar_cons ar_nil)) (a_cons (qv 3) (a_cons (qv 2) a_nil))))) (ss_one (s_raise rfl (takes_of rfl rfl rfl rfl) T.xC_NotUsable T.x_NotUsable_word T.x_NotUsable_at T.xi_NotUsable T.xt_NotUsable (ok_NotUsable_init T) (hr.mono (by decide)) (bd_NotUsable_init T) rfl T.gx_NotUsable rfl (ar_cons (ar_cons ar_nil)) (a_cons q_str (a_cons (q_neg q_int) a_nil)))) ss_nil)
    (ss_cons (s_set 5 S.nd (q_lst (a_cons (q_tup (a_cons q_int (a_cons q_int a_nil))) a_nil)))
    (ss_cons (s_for (passes_of rfl) rfl (i_zip3 (by exact rfl) (by exact rfl) (by exact T.b_zip) (a_cons (qv 3) (a_cons (qv 1) (a_cons (qv 2) a_nil)))) (g_tp rfl (g_cons (g_nm 6 S.nd) (g_cons (g_nm 7 S.nd) (g_cons (g_nm 8 S.nd) g_nil))) rfl) (ss_cons (s_setLc 9 (by exact rfl) S.nd (i_it (by exact rfl) (qv 5)) (blkOk_by (own := [("before", 10), ("sign", 11)]) (by kernel_rfl)) (fun P s H C cl fp => (g_tp rfl (g_cons (g_nm 10 S.nd) (g_cons (g_nm 11 S.nd) g_nil)) rfl)) (fun P s H C cl fp => q_yes) (fun P s H C cl fp => (q_tup (a_cons (q_add (q_mul (qv 10) (qv 6)) (qv 7)) (a_cons (q_neg (qv 11)) a_nil)))))
    (ss_one (s_set 5 S.nd (q_add (qv 9) (q_lc (by exact rfl) S.nd (i_it (by exact rfl) (qv 5)) (blkOk_by (own := [("before", 10), ("sign", 11)]) (by kernel_rfl)) (fun P s H C cl fp => (g_tp rfl (g_cons (g_nm 10 S.nd) (g_cons (g_nm 11 S.nd) g_nil)) rfl)) (fun P s H C cl fp => q_yes) (fun P s H C cl fp => (q_tup (a_cons (q_add (q_mul (qv 10) (qv 6)) (qv 8)) (a_cons (qv 11) a_nil))))))))))
    (ss_one (s_ret (q_sum (by exact rfl) (by exact rfl) (by exact T.b_sum) (a_cons (q_lc (by exact rfl) S.nd (i_it (by exact rfl) (qv 5)) (blkOk_by (own := [("number", 12), ("sign", 11)]) (by kernel_rfl)) (fun P s H C cl fp => (g_tp rfl (g_cons (g_nm 12 S.nd) (g_cons (g_nm 11 S.nd) g_nil)) rfl)) (fun P s H C cl fp => q_yes) (fun P s H C cl fp => (q_mul (qv 11) (q_ixv 4 (qv 12))))) a_nil)))))))))
theorem sc_Board_mixed : FnScope ["self", "here", "there"] ["self", "here", "there"] (defScope st_Board_mixed) := ⟨rfl, rfl, rfl, by decide +kernel, rfl, by decide +kernel, by decide +kernel⟩
structure Ca_Board_mixed (P : Program) (w : World) (K : PySem.W.Frag) (mg : Str → Option Value) (base : Heap) (ad : Str → Addr) (fdt : Str → FuncData) (C : Str → Addr) : Prop where
  f_mixed_at : FnOk P w K mg base (L2.CX P w) 4 (ad "mixed_at") (fdt "mixed_at") ["board", "here", "there"] (spD (GG K C) 3 d_mixed_at)
theorem ok_Board_mixed (T : Tx K mg ad fdt C) (hF : Ca_Board_mixed P w K mg base ad fdt C) : FnOk P w K mg base (L2.CX P w) 5 (ad "Board.mixed") (fdt "Board.mixed") ["self", "here", "there"] (spD (GG K C) 3 d_Board_mixed) :=
  have S := sc_Board_mixed
  fn_ok (G := GG K C) T.f_Board_mixed S fun cdv A outer s H E P (hr : Room 4 _) =>
    (ss_one (s_ret (q_call (hF.f_mixed_at) (hr.mono (by decide)) (by exact rfl) T.g_mixed_at T.f_mixed_at.kp (bd_mixed_at T) (takes_of rfl rfl rfl rfl) (ar_cons (ar_cons (ar_cons ar_nil))) (a_cons (q_fld (ns := ["_pair"]) (i := 0) (by exact rfl) rfl (by decide) T.cl_Board T.na_Board_u_pair (qv 0)) (a_cons (qv 1) (a_cons (qv 2) a_nil))))))
theorem sc_board_fault : FnScope ["thing", "counts", "worths", "count", "many", "k", "worth"] ["thing"] (defScope st_board_fault) := ⟨rfl, rfl, rfl, by decide +kernel, rfl, by decide +kernel, by decide +kernel⟩
structure Ca_board_fault (P : Program) (w : World) (K : PySem.W.Frag) (mg : Str → Option Value) (base : Heap) (ad : Str → Addr) (fdt : Str → FuncData) (C : Str → Addr) : Prop where
  f_is_integer : FnOk P w K mg base (L2.CX P w) 2 (ad "is_integer") (fdt "is_integer") ["thing"] (spD (GG K C) 1 d_is_integer)
theorem ok_board_fault (T : Tx K mg ad fdt C) (hF : Ca_board_fault P w K mg base ad fdt C) : FnOk P w K mg base (L2.CX P w) 3 (ad "board_fault") (fdt "board_fault") ["thing"] (spD (GG K C) 1 d_board_fault) :=
  have S := sc_board_fault
  fn_ok (G := GG K C) T.f_board_fault S fun cdv A outer s H E P (hr : Room 2 _) =>
    (ss_cons (s_if (w_or (t_not (q_val (q_isi "tuple" isi_tuple (by exact rfl) (by exact T.b_isinstance) (by exact rfl) (by exact T.b_tuple) (by decide +kernel) (qv 0)))) (w_or1 (t_ne hr (q_lenv 0 (by exact rfl) (by exact T.b_len)) q_int))).pt (ss_one (s_ret (q_tup (a_cons q_str (a_cons (q_neg q_int) a_nil))))) ss_nil)
    (ss_cons (s_setP (qv 0) (g_tp rfl (g_cons (g_nm 1 S.nd) (g_cons (g_nm 2 S.nd) g_nil)) rfl))
    (ss_cons (s_if (w_or (t_not (q_val (q_isi "tuple" isi_tuple (by exact rfl) (by exact T.b_isinstance) (by exact rfl) (by exact T.b_tuple) (by decide +kernel) (qv 1)))) (w_or1 (t_lt (q_lenv 1 (by exact rfl) (by exact T.b_len)) q_int))).pt (ss_one (s_ret (q_tup (a_cons q_str (a_cons (q_neg q_int) a_nil))))) ss_nil)
    (ss_cons (s_for (passes_of rfl) rfl (i_it (by exact rfl) (qv 1)) (g_nm 3 S.nd) (ss_one (s_if (w_or (t_not (q_val (q_call (hF.f_is_integer) (hr.mono (by decide)) (by exact rfl) T.g_is_integer T.f_is_integer.kp (bd_is_integer T) (takes_of rfl rfl rfl rfl) (ar_cons ar_nil) (a_cons (qv 3) a_nil)))) (w_or1 (t_lt (qv 3) q_int))).pt (ss_one (s_ret (q_tup (a_cons q_str (a_cons (q_neg q_int) a_nil))))) ss_nil)))
    (ss_cons (s_if (t_not (q_val (q_isi "tuple" isi_tuple (by exact rfl) (by exact T.b_isinstance) (by exact rfl) (by exact T.b_tuple) (by decide +kernel) (qv 2)))) (ss_one (s_ret (q_tup (a_cons q_str (a_cons (q_neg q_int) a_nil))))) ss_nil)
    (ss_cons (s_set 4 S.nd q_int)
    (ss_cons (s_for (passes_of rfl) rfl (i_it (by exact rfl) (qv 1)) (g_nm 3 S.nd) (ss_cons (s_set 4 S.nd (q_mul (qv 4) (qv 3)))
    (ss_one (s_if (t_gt (qv 4) (q_lenv 2 (by exact rfl) (by exact T.b_len))) (ss_one (s_ret (q_tup (a_cons q_str (a_cons (q_neg q_int) a_nil))))) ss_nil))))
    (ss_cons (s_if (t_ne hr (qv 4) (q_lenv 2 (by exact rfl) (by exact T.b_len))) (ss_one (s_ret (q_tup (a_cons q_str (a_cons (q_neg q_int) a_nil))))) ss_nil)
    (ss_cons (s_for (passes_of rfl) rfl (i_enum (by exact rfl) (by exact rfl) (by exact T.b_enumerate) (a_cons (qv 2) a_nil)) (g_tp rfl (g_cons (g_nm 5 S.nd) (g_cons (g_nm 6 S.nd) g_nil)) rfl) (ss_one (s_if (t_not (q_val (q_call (hF.f_is_integer) (hr.mono (by decide)) (by exact rfl) T.g_is_integer T.f_is_integer.kp (bd_is_integer T) (takes_of rfl rfl rfl rfl) (ar_cons ar_nil) (a_cons (qv 6) a_nil)))) (ss_one (s_ret (q_tup (a_cons q_str (a_cons (qv 5) a_nil))))) ss_nil)))
    (ss_one (s_ret q_non)))))))))))
theorem sc_Board___init__ : FnScope ["self", "counts", "worths", "fault"] ["self", "counts", "worths"] (defScope st_Board___init__) := ⟨rfl, rfl, rfl, by decide +kernel, rfl, by decide +kernel, by decide +kernel⟩
structure Ca_Board___init__ (P : Program) (w : World) (K : PySem.W.Frag) (mg : Str → Option Value) (base : Heap) (ad : Str → Addr) (fdt : Str → FuncData) (C : Str → Addr) : Prop where
  f_board_fault : FnOk P w K mg base (L2.CX P w) 3 (ad "board_fault") (fdt "board_fault") ["thing"] (spD (GG K C) 1 d_board_fault)
theorem ok_Board___init__ (T : Tx K mg ad fdt C) (hF : Ca_Board___init__ P w K mg base ad fdt C) : FnOk P w K mg base (L2.CX P w) 4 (ad "Board.__init__") (fdt "Board.__init__") ["self", "counts", "worths"] (spNew1 (GG K C) (C "Board") "_pair" 2 d_Board___init__) :=
  have S := sc_Board___init__
  init_ok (G := GG K C) T.f_Board___init__ S rfl fun cdv A outer s H E P (hr : Room 3 _) =>
    init_pss (by decide) raise_no (ps_set (i := 3) S.nd rfl (Or.inl rfl) (q_call (hF.f_board_fault) (hr.mono (by decide)) (by exact rfl) T.g_board_fault T.f_board_fault.kp (bd_board_fault T) (takes_of rfl rfl rfl rfl) (ar_cons ar_nil) (a_cons (q_tup (a_cons (qv 1) (a_cons (qv 2) a_nil))) a_nil))) (ps_if (t_notN (qv 3)) (pss_one (s_raise rfl (takes_of rfl rfl rfl rfl) T.xC_NotUsable T.x_NotUsable_word T.x_NotUsable_at T.xi_NotUsable T.xt_NotUsable (ok_NotUsable_init T) (hr.mono (by decide)) (bd_NotUsable_init T) rfl T.gx_NotUsable rfl (ar_cons (ar_cons ar_nil)) (a_cons (q_if (t_eq hr (q_ixv 3 q_int) q_str) q_str q_str) (a_cons (q_neg q_int) a_nil)))) pss_nil) (ps_fld (pv 0) (q_tup (a_cons (qv 1) (a_cons (qv 2) a_nil))) rfl) T.cl_Board T.na_Board_u_pair
theorem sc_u_law_asked : FnScope ["_law_board_here", "_law_here", "_law_there", "_law_objects", "e"] ["_law_board_here", "_law_here", "_law_there", "_law_objects"] (defScope st_u_law_asked) := ⟨rfl, rfl, rfl, by decide +kernel, rfl, by decide +kernel, by decide +kernel⟩
structure Ca_u_law_asked (P : Program) (w : World) (K : PySem.W.Frag) (mg : Str → Option Value) (base : Heap) (ad : Str → Addr) (fdt : Str → FuncData) (C : Str → Addr) : Prop where
  f_mixed_at : FnOk P w K mg base (L2.CX P w) 4 (ad "mixed_at") (fdt "mixed_at") ["board", "here", "there"] (spD (GG K C) 3 d_mixed_at)
  f_Board_mixed : FnOk P w K mg base (L2.CX P w) 5 (ad "Board.mixed") (fdt "Board.mixed") ["self", "here", "there"] (spD (GG K C) 3 d_Board_mixed)
  f_Board___init__ : FnOk P w K mg base (L2.CX P w) 4 (ad "Board.__init__") (fdt "Board.__init__") ["self", "counts", "worths"] (spNew1 (GG K C) (C "Board") "_pair" 2 d_Board___init__)
theorem ok_u_law_asked (T : Tx K mg ad fdt C) (hF : Ca_u_law_asked P w K mg base ad fdt C) : FnOk P w K mg base (L2.CX P w) 6 (ad "_law_asked") (fdt "_law_asked") ["_law_board_here", "_law_here", "_law_there", "_law_objects"] (spD (GG K C) 4 d_u_law_asked) :=
  have S := sc_u_law_asked
  fn_ok (G := GG K C) T.f_u_law_asked S fun cdv A outer s H E P (hr : Room 5 _) =>
    (ss_one (s_try (c0 := "NotUsable") rfl rfl S.nd rfl rfl ⟨rfl, by decide, Or.inl T.gx_NotUsable⟩ (takes_of rfl rfl rfl rfl) rfl (hit_ok_NotUsable T) (fun W pn xe tk hp => (ss_cons (s_if (q_val (qv 3)) (ss_one (s_ret (q_meth (ks := ["there", "here"]) (ix := [1, 0]) (by exact rfl) T.cl_Board T.m_Board_mixed (hF.f_Board_mixed) (hr.mono (by decide)) (fun_kw1 T.f_Board_mixed fun _ _ _ _ _ _ u ws hl => match ws, hl with | [_, _], _ => rfl) tk (ar_cons (ar_cons ar_nil)) (q_make (by exact rfl) T.mk_Board (hF.f_Board___init__) (hr.mono (by decide)) (by exact rfl) T.gc_Board (bd_Board___init__ T) tk (ar_cons (ar_cons ar_nil)) (a_cons (q_ixv 0 q_int) (a_cons (q_ixv 0 q_int) a_nil))) (k_cons (qv 2) (k_cons (qv 1) k_nil))))) ss_nil)
    (ss_one (s_ret (q_call (hF.f_mixed_at) (hr.mono (by decide)) (by exact rfl) T.g_mixed_at T.f_mixed_at.kp (bd_mixed_at T) tk (ar_cons (ar_cons (ar_cons ar_nil))) (a_cons (qv 0) (a_cons (qv 1) (a_cons (qv 2) a_nil)))))))) (fun a oe cls d pn hz hv => (pa_cons pe_str (pa_cons (pe_xf T.xf_NotUsable T.x_NotUsable_word hz hv (pe_var (i := 4) rfl (Or.inl rfl))) (pa_cons (pe_xf T.xf_NotUsable T.x_NotUsable_at hz hv (pe_var (i := 4) rfl (Or.inl rfl))) pa_nil))))))
theorem sc_u_law_differences : FnScope ["_law_deal_here", "_law_board_here", "_law_uneven_here", "_law_places_here", "_law_origin", "_law_last", "_law_pairs", "_law_k", "_law_here", "_law_there", "_law_apart", "_law_j", "_law_due", "_law_back"] ["_law_deal_here", "_law_board_here", "_law_uneven_here"] (defScope st_u_law_differences) := ⟨rfl, rfl, rfl, by decide +kernel, rfl, by decide +kernel, by decide +kernel⟩
structure Ca_u_law_differences (P : Program) (w : World) (K : PySem.W.Frag) (mg : Str → Option Value) (base : Heap) (ad : Str → Addr) (fdt : Str → FuncData) (C : Str → Addr) : Prop where
  f_u_law_places : FnOk P w K mg base (L2.CX P w) 2 (ad "_law_places") (fdt "_law_places") ["_law_counts_here"] (spD (GG K C) 1 d_u_law_places)
  f_mixed_at : FnOk P w K mg base (L2.CX P w) 4 (ad "mixed_at") (fdt "mixed_at") ["board", "here", "there"] (spD (GG K C) 3 d_mixed_at)
  f_u_law_same : FnOk P w K mg base (L2.CX P w) 7 (ad "_law_same") (fdt "_law_same") ["_law_one", "_law_due"] (spD (GG K C) 2 d_u_law_same)
  f_u_law_mixed : FnOk P w K mg base (L2.CX P w) 3 (ad "_law_mixed") (fdt "_law_mixed") ["_law_board_here", "_law_here", "_law_there"] (spD (GG K C) 3 d_u_law_mixed)
  f_u_law_pick : FnOk P w K mg base (L2.CX P w) 2 (ad "_law_pick") (fdt "_law_pick") ["_law_deal_here", "_law_many"] (spD (GG K C) 2 d_u_law_pick)
  f_u_law_asked : FnOk P w K mg base (L2.CX P w) 6 (ad "_law_asked") (fdt "_law_asked") ["_law_board_here", "_law_here", "_law_there", "_law_objects"] (spD (GG K C) 4 d_u_law_asked)
theorem ok_u_law_differences (T : Tx K mg ad fdt C) (hF : Ca_u_law_differences P w K mg base ad fdt C) : FnOk P w K mg base (L2.CX P w) 8 (ad "_law_differences") (fdt "_law_differences") ["_law_deal_here", "_law_board_here", "_law_uneven_here"] (spD (GG K C) 3 d_u_law_differences) :=
  have S := sc_u_law_differences
  fn_ok (G := GG K C) T.f_u_law_differences S fun cdv A outer s H E P (hr : Room 7 _) =>
    (ss_cons (s_set 3 S.nd (q_call (hF.f_u_law_places) (hr.mono (by decide)) (by exact rfl) T.g_u_law_places T.f_u_law_places.kp (bd_u_law_places T) (takes_of rfl rfl rfl rfl) (ar_cons ar_nil) (a_cons (q_ixv 1 q_int) a_nil)))
    (ss_cons (s_set 4 S.nd (q_ixv 3 q_int))
    (ss_cons (s_set 5 S.nd (q_ixv 3 (q_neg q_int)))
    (ss_cons (s_set 6 S.nd (q_lst (a_cons (q_tup (a_cons (qv 4) (a_cons (qv 5) a_nil))) (a_cons (q_tup (a_cons (qv 5) (a_cons (qv 4) a_nil))) (a_cons (q_tup (a_cons (qv 4) (a_cons (q_if (t_notN (qv 2)) (qv 2) (qv 5)) a_nil))) (a_cons (q_tup (a_cons (qv 5) (a_cons (qv 5) a_nil))) a_nil))))))
    (ss_cons (s_for (passes_of rfl) rfl (i_rng1 (by exact rfl) (by exact T.b_range) (a_cons q_int a_nil) (ar_cons ar_nil)) (g_nm 7 S.nd) (ss_cons (s_set 8 S.nd (q_ixv 3 (q_call (hF.f_u_law_pick) (hr.mono (by decide)) (by exact rfl) T.g_u_law_pick T.f_u_law_pick.kp (bd_u_law_pick T) (takes_of rfl rfl rfl rfl) (ar_cons (ar_cons ar_nil)) (a_cons (qv 0) (a_cons (q_lenv 3 (by exact rfl) (by exact T.b_len)) a_nil)))))
    (ss_cons (s_set 9 S.nd (q_ixv 3 (q_call (hF.f_u_law_pick) (hr.mono (by decide)) (by exact rfl) T.g_u_law_pick T.f_u_law_pick.kp (bd_u_law_pick T) (takes_of rfl rfl rfl rfl) (ar_cons (ar_cons ar_nil)) (a_cons (qv 0) (a_cons (q_lenv 3 (by exact rfl) (by exact T.b_len)) a_nil)))))
    (ss_cons (s_if (t_eq hr (q_and (qv 7) q_int) q_int) (ss_cons (s_setLc 10 (by exact rfl) S.nd (i_rng1 (by exact rfl) (by exact T.b_range) (a_cons (q_lenv 8 (by exact rfl) (by exact T.b_len)) a_nil) (ar_cons ar_nil)) (blkOk_by (own := [("_law_j", 11)]) (by kernel_rfl)) (fun P s H C cl fp => (g_nm 11 S.nd)) (fun P s H C cl fp => q_yes) (fun P s H C cl fp => (q_mod (q_intc (by exact rfl) (by exact T.b_int) (a_cons (q_add (q_ixv 8 (qv 11)) q_int) a_nil)) (q_ix (q_ixv 1 q_int) (qv 11)))))
    (ss_one (s_set 9 S.nd (q_tuple (by exact rfl) (by exact T.b_tuple) (a_cons (qv 10) a_nil))))) ss_nil)
    (ss_cons (s_expr (q_app 6 (q_tup (a_cons (qv 8) (a_cons (qv 9) a_nil)))))
    (ss_one (s_expr (q_app 6 (q_tup (a_cons (qv 9) (a_cons (qv 8) a_nil)))))))))))
    (ss_cons (s_for (passes_of rfl) rfl (i_rng1 (by exact rfl) (by exact T.b_range) (a_cons (q_lenv 6 (by exact rfl) (by exact T.b_len)) a_nil) (ar_cons ar_nil)) (g_nm 7 S.nd) (ss_cons (s_set 12 S.nd (q_call (hF.f_u_law_mixed) (hr.mono (by decide)) (by exact rfl) T.g_u_law_mixed T.f_u_law_mixed.kp (bd_u_law_mixed T) (takes_of rfl rfl rfl rfl) (ar_cons (ar_cons (ar_cons ar_nil))) (a_cons (qv 1) (a_cons (q_ix (q_ixv 6 (qv 7)) q_int) (a_cons (q_ix (q_ixv 6 (qv 7)) q_int) a_nil)))))
    (ss_one (s_if (t_not (q_val (q_call (hF.f_u_law_same) (hr.mono (by decide)) (by exact rfl) T.g_u_law_same T.f_u_law_same.kp (bd_u_law_same T) (takes_of rfl rfl rfl rfl) (ar_cons (ar_cons ar_nil)) (a_cons (q_call (hF.f_u_law_asked) (hr.mono (by decide)) (by exact rfl) T.g_u_law_asked T.f_u_law_asked.kp (bd_u_law_asked T) (takes_of rfl rfl rfl rfl) (ar_cons (ar_cons (ar_cons (ar_cons ar_nil)))) (a_cons (qv 1) (a_cons (q_ix (q_ixv 6 (qv 7)) q_int) (a_cons (q_ix (q_ixv 6 (qv 7)) q_int) (a_cons (q_eq hr (q_and (qv 7) q_int) q_int) a_nil))))) (a_cons (qv 12) a_nil))))) (ss_one (s_ret q_bl)) ss_nil))))
    (ss_cons (s_set 13 S.nd (q_callK (ks := ["there", "board", "here"]) (ix := [1, 2, 0]) (hF.f_mixed_at) (hr.mono (by decide)) (by exact rfl) T.g_mixed_at T.f_mixed_at.kp (fun_kw T.f_mixed_at fun _ _ _ _ _ _ ws hl => match ws, hl with | [_, _, _], _ => rfl) (takes_of rfl rfl rfl rfl) (ar_cons (ar_cons (ar_cons ar_nil))) (k_cons (qv 4) (k_cons (qv 1) (k_cons (qv 5) k_nil)))))
    (ss_one (s_ret (q_call (hF.f_u_law_same) (hr.mono (by decide)) (by exact rfl) T.g_u_law_same T.f_u_law_same.kp (bd_u_law_same T) (takes_of rfl rfl rfl rfl) (ar_cons (ar_cons ar_nil)) (a_cons (qv 13) (a_cons (q_call (hF.f_u_law_mixed) (hr.mono (by decide)) (by exact rfl) T.g_u_law_mixed T.f_u_law_mixed.kp (bd_u_law_mixed T) (takes_of rfl rfl rfl rfl) (ar_cons (ar_cons (ar_cons ar_nil))) (a_cons (qv 1) (a_cons (qv 5) (a_cons (qv 4) a_nil)))) a_nil))))))))))))
theorem sc_u_law_refused : FnScope ["_law_deal_here", "_law_board_here", "_law_place", "_law_person", "_law_bad", "_law_odd", "_law_k", "_law_objects"] ["_law_deal_here", "_law_board_here"] (defScope st_u_law_refused) := ⟨rfl, rfl, rfl, by decide +kernel, rfl, by decide +kernel, by decide +kernel⟩
structure Ca_u_law_refused (P : Program) (w : World) (K : PySem.W.Frag) (mg : Str → Option Value) (base : Heap) (ad : Str → Addr) (fdt : Str → FuncData) (C : Str → Addr) : Prop where
  f_u_law_pick : FnOk P w K mg base (L2.CX P w) 2 (ad "_law_pick") (fdt "_law_pick") ["_law_deal_here", "_law_many"] (spD (GG K C) 2 d_u_law_pick)
  f_u_law_places : FnOk P w K mg base (L2.CX P w) 2 (ad "_law_places") (fdt "_law_places") ["_law_counts_here"] (spD (GG K C) 1 d_u_law_places)
  f_u_law_same : FnOk P w K mg base (L2.CX P w) 7 (ad "_law_same") (fdt "_law_same") ["_law_one", "_law_due"] (spD (GG K C) 2 d_u_law_same)
  f_u_law_asked : FnOk P w K mg base (L2.CX P w) 6 (ad "_law_asked") (fdt "_law_asked") ["_law_board_here", "_law_here", "_law_there", "_law_objects"] (spD (GG K C) 4 d_u_law_asked)
theorem ok_u_law_refused (T : Tx K mg ad fdt C) (hF : Ca_u_law_refused P w K mg base ad fdt C) : FnOk P w K mg base (L2.CX P w) 8 (ad "_law_refused") (fdt "_law_refused") ["_law_deal_here", "_law_board_here"] (spD (GG K C) 2 d_u_law_refused) :=
  have S := sc_u_law_refused
  fn_ok (G := GG K C) T.f_u_law_refused S fun cdv A outer s H E P (hr : Room 7 _) =>
    (ss_cons (s_set 2 S.nd (q_ix (q_call (hF.f_u_law_places) (hr.mono (by decide)) (by exact rfl) T.g_u_law_places T.f_u_law_places.kp (bd_u_law_places T) (takes_of rfl rfl rfl rfl) (ar_cons ar_nil) (a_cons (q_ixv 1 q_int) a_nil)) (q_neg q_int)))
    (ss_cons (s_set 3 S.nd (q_call (hF.f_u_law_pick) (hr.mono (by decide)) (by exact rfl) T.g_u_law_pick T.f_u_law_pick.kp (bd_u_law_pick T) (takes_of rfl rfl rfl rfl) (ar_cons (ar_cons ar_nil)) (a_cons (qv 0) (a_cons (q_lenv 2 (by exact rfl) (by exact T.b_len)) a_nil))))
    (ss_cons (s_set 4 S.nd (q_lst (a_cons (q_list (by exact rfl) (by exact T.b_list) (a_cons (qv 2) a_nil)) (a_cons (q_sl (qv 2) (o_some q_int) o_none) (a_cons (q_add (qv 2) (q_tup (a_cons q_int a_nil))) (a_cons (q_tup a_nil) (a_cons q_non (a_cons q_int (a_cons q_str a_nil)))))))))
    (ss_cons (s_for (passes_of rfl) rfl (i_it (by exact rfl) (q_tup (a_cons (q_ix (q_ixv 1 q_int) (qv 3)) (a_cons (q_neg q_int) (a_cons q_bl (a_cons q_bl (a_cons q_non (a_cons q_str (a_cons (q_tup (a_cons q_int a_nil)) a_nil))))))))) (g_nm 5 S.nd) (ss_one (s_expr (q_app 4 (q_add (q_add (q_sl (qv 2) o_none (o_some (qv 3))) (q_tup (a_cons (qv 5) a_nil))) (q_sl (qv 2) (o_some (q_add (qv 3) q_int)) o_none))))))
    (ss_cons (s_for (passes_of rfl) rfl (i_rng1 (by exact rfl) (by exact T.b_range) (a_cons (q_lenv 4 (by exact rfl) (by exact T.b_len)) a_nil) (ar_cons ar_nil)) (g_nm 6 S.nd) (ss_cons (s_set 7 S.nd (q_eq hr (q_and (qv 6) q_int) q_int))
    (ss_cons (s_if (t_not (q_val (q_call (hF.f_u_law_same) (hr.mono (by decide)) (by exact rfl) T.g_u_law_same T.f_u_law_same.kp (bd_u_law_same T) (takes_of rfl rfl rfl rfl) (ar_cons (ar_cons ar_nil)) (a_cons (q_call (hF.f_u_law_asked) (hr.mono (by decide)) (by exact rfl) T.g_u_law_asked T.f_u_law_asked.kp (bd_u_law_asked T) (takes_of rfl rfl rfl rfl) (ar_cons (ar_cons (ar_cons (ar_cons ar_nil)))) (a_cons (qv 1) (a_cons (q_ixv 4 (qv 6)) (a_cons (qv 2) (a_cons (qv 7) a_nil))))) (a_cons (q_tup (a_cons q_str (a_cons q_str (a_cons (q_neg q_int) a_nil)))) a_nil))))) (ss_one (s_ret q_bl)) ss_nil)
    (ss_cons (s_if (t_not (q_val (q_call (hF.f_u_law_same) (hr.mono (by decide)) (by exact rfl) T.g_u_law_same T.f_u_law_same.kp (bd_u_law_same T) (takes_of rfl rfl rfl rfl) (ar_cons (ar_cons ar_nil)) (a_cons (q_call (hF.f_u_law_asked) (hr.mono (by decide)) (by exact rfl) T.g_u_law_asked T.f_u_law_asked.kp (bd_u_law_asked T) (takes_of rfl rfl rfl rfl) (ar_cons (ar_cons (ar_cons (ar_cons ar_nil)))) (a_cons (qv 1) (a_cons (qv 2) (a_cons (q_ixv 4 (qv 6)) (a_cons (q_not (qv 7)) a_nil))))) (a_cons (q_tup (a_cons q_str (a_cons q_str (a_cons (q_neg q_int) a_nil)))) a_nil))))) (ss_one (s_ret q_bl)) ss_nil)
    (ss_one (s_if (t_not (q_val (q_call (hF.f_u_law_same) (hr.mono (by decide)) (by exact rfl) T.g_u_law_same T.f_u_law_same.kp (bd_u_law_same T) (takes_of rfl rfl rfl rfl) (ar_cons (ar_cons ar_nil)) (a_cons (q_call (hF.f_u_law_asked) (hr.mono (by decide)) (by exact rfl) T.g_u_law_asked T.f_u_law_asked.kp (bd_u_law_asked T) (takes_of rfl rfl rfl rfl) (ar_cons (ar_cons (ar_cons (ar_cons ar_nil)))) (a_cons (qv 1) (a_cons (q_ixv 4 (qv 6)) (a_cons (q_ixv 4 (q_sub (q_sub (q_lenv 4 (by exact rfl) (by exact T.b_len)) q_int) (qv 6))) (a_cons q_bl a_nil))))) (a_cons (q_tup (a_cons q_str (a_cons q_str (a_cons (q_neg q_int) a_nil)))) a_nil))))) (ss_one (s_ret q_bl)) ss_nil))))))
    (ss_one (s_ret q_bl)))))))
theorem sc_Board_even : FnScope ["self"] ["self"] (defScope st_Board_even) := ⟨rfl, rfl, rfl, by decide +kernel, rfl, by decide +kernel, by decide +kernel⟩
structure Ca_Board_even (P : Program) (w : World) (K : PySem.W.Frag) (mg : Str → Option Value) (base : Heap) (ad : Str → Addr) (fdt : Str → FuncData) (C : Str → Addr) : Prop where
  f_uneven_place : FnOk P w K mg base (L2.CX P w) 5 (ad "uneven_place") (fdt "uneven_place") ["board"] (spD (GG K C) 1 d_uneven_place)
theorem ok_Board_even (T : Tx K mg ad fdt C) (hF : Ca_Board_even P w K mg base ad fdt C) : FnOk P w K mg base (L2.CX P w) 6 (ad "Board.even") (fdt "Board.even") ["self"] (spD (GG K C) 1 d_Board_even) :=
  have S := sc_Board_even
  fn_ok (G := GG K C) T.f_Board_even S fun cdv A outer s H E P (hr : Room 5 _) =>
    (ss_one (s_ret (q_isN (q_call (hF.f_uneven_place) (hr.mono (by decide)) (by exact rfl) T.g_uneven_place T.f_uneven_place.kp (bd_uneven_place T) (takes_of rfl rfl rfl rfl) (ar_cons ar_nil) (a_cons (q_fld (ns := ["_pair"]) (i := 0) (by exact rfl) rfl (by decide) T.cl_Board T.na_Board_u_pair (qv 0)) a_nil)))))
theorem sc_u_law_is_quotient : FnScope ["_law_thing", "_law_one", "_law_other"] ["_law_thing"] (defScope st_u_law_is_quotient) := ⟨rfl, rfl, rfl, by decide +kernel, rfl, by decide +kernel, by decide +kernel⟩
structure Ca_u_law_is_quotient (P : Program) (w : World) (K : PySem.W.Frag) (mg : Str → Option Value) (base : Heap) (ad : Str → Addr) (fdt : Str → FuncData) (C : Str → Addr) : Prop where
  f_u_law_integer : FnOk P w K mg base (L2.CX P w) 2 (ad "_law_integer") (fdt "_law_integer") ["_law_thing"] (spD (GG K C) 1 d_u_law_integer)
theorem ok_u_law_is_quotient (T : Tx K mg ad fdt C) (hF : Ca_u_law_is_quotient P w K mg base ad fdt C) : FnOk P w K mg base (L2.CX P w) 3 (ad "_law_is_quotient") (fdt "_law_is_quotient") ["_law_thing"] (spD (GG K C) 1 d_u_law_is_quotient) :=
  have S := sc_u_law_is_quotient
  fn_ok (G := GG K C) T.f_u_law_is_quotient S fun cdv A outer s H E P (hr : Room 2 _) =>
    (ss_cons (s_if (w_or (t_not (q_val (q_isi "tuple" isi_tuple (by exact rfl) (by exact T.b_isinstance) (by exact rfl) (by exact T.b_tuple) (by decide +kernel) (qv 0)))) (w_or1 (t_ne hr (q_lenv 0 (by exact rfl) (by exact T.b_len)) q_int))).pt (ss_one (s_ret q_bl)) ss_nil)
    (ss_cons (s_if (w_or (t_not (q_val (q_call (hF.f_u_law_integer) (hr.mono (by decide)) (by exact rfl) T.g_u_law_integer T.f_u_law_integer.kp (bd_u_law_integer T) (takes_of rfl rfl rfl rfl) (ar_cons ar_nil) (a_cons (q_ixv 0 q_int) a_nil)))) (w_or (t_not (q_val (q_call (hF.f_u_law_integer) (hr.mono (by decide)) (by exact rfl) T.g_u_law_integer T.f_u_law_integer.kp (bd_u_law_integer T) (takes_of rfl rfl rfl rfl) (ar_cons ar_nil) (a_cons (q_ixv 0 q_int) a_nil)))) (w_or1 (t_lt (q_ixv 0 q_int) q_int)))).pt (ss_one (s_ret q_bl)) ss_nil)
    (ss_cons (s_set 1 S.nd (q_abs (by exact rfl) (by exact T.b_abs) (a_cons (q_ixv 0 q_int) a_nil)))
    (ss_cons (s_set 2 S.nd (q_ixv 0 q_int))
    (ss_cons (s_wh (passes_of rfl) (t_gt (qv 2) q_int) (ss_one (s_par 1 2 rfl S.nd (a_cons (qv 2) (a_cons (q_mod (q_intc (by exact rfl) (by exact T.b_int) (a_cons (qv 1) a_nil)) (qv 2)) a_nil)))))
    (ss_one (s_ret (q_eq hr (qv 1) q_int))))))))
theorem sc_u_law_is_flat : FnScope ["_law_board_here", "_law_tables", "_law_counts_here", "_law_people", "_law_person", "_law_many", "_law_due", "_law_places_here", "_law_k", "_law_top", "_law_bottom"] ["_law_board_here", "_law_tables"] (defScope st_u_law_is_flat) := ⟨rfl, rfl, rfl, by decide +kernel, rfl, by decide +kernel, by decide +kernel⟩
structure Ca_u_law_is_flat (P : Program) (w : World) (K : PySem.W.Frag) (mg : Str → Option Value) (base : Heap) (ad : Str → Addr) (fdt : Str → FuncData) (C : Str → Addr) : Prop where
  f_u_law_places : FnOk P w K mg base (L2.CX P w) 2 (ad "_law_places") (fdt "_law_places") ["_law_counts_here"] (spD (GG K C) 1 d_u_law_places)
  f_u_law_choice : FnOk P w K mg base (L2.CX P w) 2 (ad "_law_choice") (fdt "_law_choice") ["_law_counts_here", "_law_person", "_law_place"] (spD (GG K C) 3 d_u_law_choice)
  f_u_law_is_quotient : FnOk P w K mg base (L2.CX P w) 3 (ad "_law_is_quotient") (fdt "_law_is_quotient") ["_law_thing"] (spD (GG K C) 1 d_u_law_is_quotient)
theorem ok_u_law_is_flat (T : Tx K mg ad fdt C) (hF : Ca_u_law_is_flat P w K mg base ad fdt C) : FnOk P w K mg base (L2.CX P w) 4 (ad "_law_is_flat") (fdt "_law_is_flat") ["_law_board_here", "_law_tables"] (spD (GG K C) 2 d_u_law_is_flat) :=
  have S := sc_u_law_is_flat
  fn_ok (G := GG K C) T.f_u_law_is_flat S fun cdv A outer s H E P (hr : Room 3 _) =>
    (ss_cons (s_set 2 S.nd (q_ixv 0 q_int))
    (ss_cons (s_set 3 S.nd (q_lenv 2 (by exact rfl) (by exact T.b_len)))
    (ss_cons (s_if (w_or (t_not (q_val (q_isi "tuple" isi_tuple (by exact rfl) (by exact T.b_isinstance) (by exact rfl) (by exact T.b_tuple) (by decide +kernel) (qv 1)))) (w_or1 (t_ne hr (q_lenv 1 (by exact rfl) (by exact T.b_len)) (qv 3)))).pt (ss_one (s_ret q_bl)) ss_nil)
    (ss_cons (s_for (passes_of rfl) rfl (i_rng1 (by exact rfl) (by exact T.b_range) (a_cons (qv 3) a_nil) (ar_cons ar_nil)) (g_nm 4 S.nd) (ss_cons (s_set 5 S.nd (q_len (by exact rfl) (by exact T.b_len) (a_cons (q_call (hF.f_u_law_places) (hr.mono (by decide)) (by exact rfl) T.g_u_law_places T.f_u_law_places.kp (bd_u_law_places T) (takes_of rfl rfl rfl rfl) (ar_cons ar_nil) (a_cons (q_add (q_sl (qv 2) o_none (o_some (qv 4))) (q_sl (qv 2) (o_some (q_add (qv 4) q_int)) o_none)) a_nil)) a_nil)))
    (ss_cons (s_if (w_or (t_not (q_val (q_isi "tuple" isi_tuple (by exact rfl) (by exact T.b_isinstance) (by exact rfl) (by exact T.b_tuple) (by decide +kernel) (q_ixv 1 (qv 4))))) (w_or1 (t_ne hr (q_len (by exact rfl) (by exact T.b_len) (a_cons (q_ixv 1 (qv 4)) a_nil)) (qv 5)))).pt (ss_one (s_ret q_bl)) ss_nil)
    (ss_one (s_if (t_gt (q_len (by exact rfl) (by exact T.b_len) (a_cons (q_lc (by exact rfl) S.nd (i_it (by exact rfl) (q_ixv 1 (qv 4))) (blkOk_by (own := [("_law_due", 6)]) (by kernel_rfl)) (fun P s H C cl fp => (g_nm 6 S.nd)) (fun P s H C cl fp => (q_ifs (t_not (q_val (q_call (hF.f_u_law_is_quotient) (hr.mono (by decide)) (by exact rfl) T.g_u_law_is_quotient T.f_u_law_is_quotient.kp (bd_u_law_is_quotient T) takes0 (ar_cons ar_nil) (a_cons (qv 6) a_nil)))))) (fun P s H C cl fp => (qv 6))) a_nil)) q_int) (ss_one (s_ret q_bl)) ss_nil)))))
    (ss_cons (s_set 7 S.nd (q_call (hF.f_u_law_places) (hr.mono (by decide)) (by exact rfl) T.g_u_law_places T.f_u_law_places.kp (bd_u_law_places T) (takes_of rfl rfl rfl rfl) (ar_cons ar_nil) (a_cons (qv 2) a_nil)))
    (ss_cons (s_for (passes_of rfl) rfl (i_rng1 (by exact rfl) (by exact T.b_range) (a_cons (q_lenv 7 (by exact rfl) (by exact T.b_len)) a_nil) (ar_cons ar_nil)) (g_nm 8 S.nd) (ss_cons (s_set 9 S.nd (q_mul (q_sub q_int (qv 3)) (q_ix (q_ixv 0 q_int) (qv 8))))
    (ss_cons (s_set 10 S.nd q_int)
    (ss_cons (s_for (passes_of rfl) rfl (i_rng1 (by exact rfl) (by exact T.b_range) (a_cons (qv 3) a_nil) (ar_cons ar_nil)) (g_nm 4 S.nd) (ss_cons (s_set 6 S.nd (q_ix (q_ixv 1 (qv 4)) (q_call (hF.f_u_law_choice) (hr.mono (by decide)) (by exact rfl) T.g_u_law_choice T.f_u_law_choice.kp (bd_u_law_choice T) (takes_of rfl rfl rfl rfl) (ar_cons (ar_cons (ar_cons ar_nil))) (a_cons (qv 2) (a_cons (qv 4) (a_cons (q_ixv 7 (qv 8)) a_nil))))))
    (ss_cons (s_set 9 S.nd (q_add (q_mul (qv 9) (q_ixv 6 q_int)) (q_mul (q_ixv 6 q_int) (qv 10))))
    (ss_one (s_set 10 S.nd (q_mul (qv 10) (q_ixv 6 q_int)))))))
    (ss_one (s_if (t_ne hr (qv 9) q_int) (ss_one (s_ret q_bl)) ss_nil))))))
    (ss_one (s_ret q_bl))))))))
theorem sc_common_divisor : FnScope ["one", "other"] ["one", "other"] (defScope st_common_divisor) := ⟨rfl, rfl, rfl, by decide +kernel, rfl, by decide +kernel, by decide +kernel⟩
theorem ok_common_divisor (T : Tx K mg ad fdt C) : FnOk P w K mg base (L2.CX P w) 2 (ad "common_divisor") (fdt "common_divisor") ["one", "other"] (spD (GG K C) 2 d_common_divisor) :=
  have S := sc_common_divisor
  fn_ok (G := GG K C) T.f_common_divisor S fun cdv A outer s H E P (hr : Room 1 _) =>
    (ss_cons (s_par 0 1 rfl S.nd (a_cons (q_abs (by exact rfl) (by exact T.b_abs) (a_cons (qv 0) a_nil)) (a_cons (q_abs (by exact rfl) (by exact T.b_abs) (a_cons (qv 1) a_nil)) a_nil)))
    (ss_cons (s_wh (passes_of rfl) (t_ne hr (qv 1) q_int) (ss_one (s_par 0 1 rfl S.nd (a_cons (qv 1) (a_cons (q_mod (qv 0) (qv 1)) a_nil)))))
    (ss_one (s_ret (qv 0)))))
theorem sc_is_quotient : FnScope ["thing", "top", "bottom"] ["thing"] (defScope st_is_quotient) := ⟨rfl, rfl, rfl, by decide +kernel, rfl, by decide +kernel, by decide +kernel⟩
structure Ca_is_quotient (P : Program) (w : World) (K : PySem.W.Frag) (mg : Str → Option Value) (base : Heap) (ad : Str → Addr) (fdt : Str → FuncData) (C : Str → Addr) : Prop where
  f_common_divisor : FnOk P w K mg base (L2.CX P w) 2 (ad "common_divisor") (fdt "common_divisor") ["one", "other"] (spD (GG K C) 2 d_common_divisor)
  f_is_integer : FnOk P w K mg base (L2.CX P w) 2 (ad "is_integer") (fdt "is_integer") ["thing"] (spD (GG K C) 1 d_is_integer)
theorem ok_is_quotient (T : Tx K mg ad fdt C) (hF : Ca_is_quotient P w K mg base ad fdt C) : FnOk P w K mg base (L2.CX P w) 3 (ad "is_quotient") (fdt "is_quotient") ["thing"] (spD (GG K C) 1 d_is_quotient) :=
  have S := sc_is_quotient
  fn_ok (G := GG K C) T.f_is_quotient S fun cdv A outer s H E P (hr : Room 2 _) =>
    (ss_cons (s_if (w_or (t_not (q_val (q_isi "tuple" isi_tuple (by exact rfl) (by exact T.b_isinstance) (by exact rfl) (by exact T.b_tuple) (by decide +kernel) (qv 0)))) (w_or1 (t_ne hr (q_lenv 0 (by exact rfl) (by exact T.b_len)) q_int))).pt (ss_one (s_ret q_bl)) ss_nil)
    (ss_cons (s_setP (qv 0) (g_tp rfl (g_cons (g_nm 1 S.nd) (g_cons (g_nm 2 S.nd) g_nil)) rfl))
    (ss_cons (s_if (w_or (t_not (q_val (q_call (hF.f_is_integer) (hr.mono (by decide)) (by exact rfl) T.g_is_integer T.f_is_integer.kp (bd_is_integer T) (takes_of rfl rfl rfl rfl) (ar_cons ar_nil) (a_cons (qv 1) a_nil)))) (w_or (t_not (q_val (q_call (hF.f_is_integer) (hr.mono (by decide)) (by exact rfl) T.g_is_integer T.f_is_integer.kp (bd_is_integer T) (takes_of rfl rfl rfl rfl) (ar_cons ar_nil) (a_cons (qv 2) a_nil)))) (w_or1 (t_lt (qv 2) q_int)))).pt (ss_one (s_ret q_bl)) ss_nil)
    (ss_one (s_ret (q_eq hr (q_call (hF.f_common_divisor) (hr.mono (by decide)) (by exact rfl) T.g_common_divisor T.f_common_divisor.kp (bd_common_divisor T) (takes_of rfl rfl rfl rfl) (ar_cons (ar_cons ar_nil)) (a_cons (qv 1) (a_cons (qv 2) a_nil))) q_int))))))
theorem sc_are_quotients : FnScope ["many", "thing", "part"] ["many", "thing"] (defScope st_are_quotients) := ⟨rfl, rfl, rfl, by decide +kernel, rfl, by decide +kernel, by decide +kernel⟩
structure Ca_are_quotients (P : Program) (w : World) (K : PySem.W.Frag) (mg : Str → Option Value) (base : Heap) (ad : Str → Addr) (fdt : Str → FuncData) (C : Str → Addr) : Prop where
  f_is_quotient : FnOk P w K mg base (L2.CX P w) 3 (ad "is_quotient") (fdt "is_quotient") ["thing"] (spD (GG K C) 1 d_is_quotient)
theorem ok_are_quotients (T : Tx K mg ad fdt C) (hF : Ca_are_quotients P w K mg base ad fdt C) : FnOk P w K mg base (L2.CX P w) 4 (ad "are_quotients") (fdt "are_quotients") ["many", "thing"] (spD (GG K C) 2 d_are_quotients) :=
  have S := sc_are_quotients
  fn_ok (G := GG K C) T.f_are_quotients S fun cdv A outer s H E P (hr : Room 3 _) =>
    (ss_cons (s_if (w_or (t_not (q_val (q_isi "tuple" isi_tuple (by exact rfl) (by exact T.b_isinstance) (by exact rfl) (by exact T.b_tuple) (by decide +kernel) (qv 1)))) (w_or1 (t_ne hr (q_lenv 1 (by exact rfl) (by exact T.b_len)) (qv 0)))).pt (ss_one (s_ret q_bl)) ss_nil)
    (ss_cons (s_for (passes_of rfl) rfl (i_it (by exact rfl) (qv 1)) (g_nm 2 S.nd) (ss_one (s_if (t_not (q_val (q_call (hF.f_is_quotient) (hr.mono (by decide)) (by exact rfl) T.g_is_quotient T.f_is_quotient.kp (bd_is_quotient T) (takes_of rfl rfl rfl rfl) (ar_cons ar_nil) (a_cons (qv 2) a_nil)))) (ss_one (s_ret q_bl)) ss_nil)))
    (ss_one (s_ret q_bl))))
theorem sc_others_counts : FnScope ["counts", "person"] ["counts", "person"] (defScope st_others_counts) := ⟨rfl, rfl, rfl, by decide +kernel, rfl, by decide +kernel, by decide +kernel⟩
theorem ok_others_counts (T : Tx K mg ad fdt C) : FnOk P w K mg base (L2.CX P w) 2 (ad "others_counts") (fdt "others_counts") ["counts", "person"] (spD (GG K C) 2 d_others_counts) :=
  have S := sc_others_counts
  fn_ok (G := GG K C) T.f_others_counts S fun cdv A outer s H E P (hr : Room 1 _) =>
    (ss_one (s_ret (q_add (q_sl (qv 0) o_none (o_some (qv 1))) (q_sl (qv 0) (o_some (q_add (qv 1) q_int)) o_none))))
theorem sc_is_tables : FnScope ["board", "thing", "counts", "person", "table"] ["board", "thing"] (defScope st_is_tables) := ⟨rfl, rfl, rfl, by decide +kernel, rfl, by decide +kernel, by decide +kernel⟩
structure Ca_is_tables (P : Program) (w : World) (K : PySem.W.Frag) (mg : Str → Option Value) (base : Heap) (ad : Str → Addr) (fdt : Str → FuncData) (C : Str → Addr) : Prop where
  f_are_quotients : FnOk P w K mg base (L2.CX P w) 4 (ad "are_quotients") (fdt "are_quotients") ["many", "thing"] (spD (GG K C) 2 d_are_quotients)
  f_board_size : FnOk P w K mg base (L2.CX P w) 2 (ad "board_size") (fdt "board_size") ["counts"] (spD (GG K C) 1 d_board_size)
  f_others_counts : FnOk P w K mg base (L2.CX P w) 2 (ad "others_counts") (fdt "others_counts") ["counts", "person"] (spD (GG K C) 2 d_others_counts)
theorem ok_is_tables (T : Tx K mg ad fdt C) (hF : Ca_is_tables P w K mg base ad fdt C) : FnOk P w K mg base (L2.CX P w) 5 (ad "is_tables") (fdt "is_tables") ["board", "thing"] (spD (GG K C) 2 d_is_tables) :=
  have S := sc_is_tables
  fn_ok (G := GG K C) T.f_is_tables S fun cdv A outer s H E P (hr : Room 4 _) =>
    (ss_cons (s_set 2 S.nd (q_ixv 0 q_int))
    (ss_cons (s_if (w_or (t_not (q_val (q_isi "tuple" isi_tuple (by exact rfl) (by exact T.b_isinstance) (by exact rfl) (by exact T.b_tuple) (by decide +kernel) (qv 1)))) (w_or1 (t_ne hr (q_lenv 1 (by exact rfl) (by exact T.b_len)) (q_lenv 2 (by exact rfl) (by exact T.b_len))))).pt (ss_one (s_ret q_bl)) ss_nil)
    (ss_cons (s_for (passes_of rfl) rfl (i_enum (by exact rfl) (by exact rfl) (by exact T.b_enumerate) (a_cons (qv 1) a_nil)) (g_tp rfl (g_cons (g_nm 3 S.nd) (g_cons (g_nm 4 S.nd) g_nil)) rfl) (ss_one (s_if (t_not (q_val (q_call (hF.f_are_quotients) (hr.mono (by decide)) (by exact rfl) T.g_are_quotients T.f_are_quotients.kp (bd_are_quotients T) (takes_of rfl rfl rfl rfl) (ar_cons (ar_cons ar_nil)) (a_cons (q_call (hF.f_board_size) (hr.mono (by decide)) (by exact rfl) T.g_board_size T.f_board_size.kp (bd_board_size T) (takes_of rfl rfl rfl rfl) (ar_cons ar_nil) (a_cons (q_call (hF.f_others_counts) (hr.mono (by decide)) (by exact rfl) T.g_others_counts T.f_others_counts.kp (bd_others_counts T) (takes_of rfl rfl rfl rfl) (ar_cons (ar_cons ar_nil)) (a_cons (qv 2) (a_cons (qv 3) a_nil))) a_nil)) (a_cons (qv 4) a_nil))))) (ss_one (s_ret q_bl)) ss_nil)))
    (ss_one (s_ret q_bl)))))
theorem sc_choices_by_place : FnScope ["counts", "person", "below", "step", "k"] ["counts", "person"] (defScope st_choices_by_place) := ⟨rfl, rfl, rfl, by decide +kernel, rfl, by decide +kernel, by decide +kernel⟩
structure Ca_choices_by_place (P : Program) (w : World) (K : PySem.W.Frag) (mg : Str → Option Value) (base : Heap) (ad : Str → Addr) (fdt : Str → FuncData) (C : Str → Addr) : Prop where
  f_board_size : FnOk P w K mg base (L2.CX P w) 2 (ad "board_size") (fdt "board_size") ["counts"] (spD (GG K C) 1 d_board_size)
theorem ok_choices_by_place (T : Tx K mg ad fdt C) (hF : Ca_choices_by_place P w K mg base ad fdt C) : FnOk P w K mg base (L2.CX P w) 3 (ad "choices_by_place") (fdt "choices_by_place") ["counts", "person"] (spD (GG K C) 2 d_choices_by_place) :=
  have S := sc_choices_by_place
  fn_ok (G := GG K C) T.f_choices_by_place S fun cdv A outer s H E P (hr : Room 2 _) =>
    (ss_cons (s_set 2 S.nd (q_call (hF.f_board_size) (hr.mono (by decide)) (by exact rfl) T.g_board_size T.f_board_size.kp (bd_board_size T) (takes_of rfl rfl rfl rfl) (ar_cons ar_nil) (a_cons (q_sl (qv 0) (o_some (q_add (qv 1) q_int)) o_none) a_nil)))
    (ss_cons (s_set 3 S.nd (q_mul (qv 2) (q_ixv 0 (qv 1))))
    (ss_one (s_ret (q_lc (by exact rfl) S.nd (i_rng1 (by exact rfl) (by exact T.b_range) (a_cons (q_call (hF.f_board_size) (hr.mono (by decide)) (by exact rfl) T.g_board_size T.f_board_size.kp (bd_board_size T) (takes_of rfl rfl rfl rfl) (ar_cons ar_nil) (a_cons (qv 0) a_nil)) a_nil) (ar_cons ar_nil)) (blkOk_by (own := [("k", 4)]) (by kernel_rfl)) (fun P s H C cl fp => (g_nm 4 S.nd)) (fun P s H C cl fp => q_yes) (fun P s H C cl fp => (q_add (q_mul (q_div (qv 4) (qv 3)) (qv 2)) (q_mod (qv 4) (qv 2)))))))))
theorem sc_u_lowest_terms : FnScope ["top", "bottom", "part"] ["top", "bottom"] (defScope st_u_lowest_terms) := ⟨rfl, rfl, rfl, by decide +kernel, rfl, by decide +kernel, by decide +kernel⟩
structure Ca_u_lowest_terms (P : Program) (w : World) (K : PySem.W.Frag) (mg : Str → Option Value) (base : Heap) (ad : Str → Addr) (fdt : Str → FuncData) (C : Str → Addr) : Prop where
  f_common_divisor : FnOk P w K mg base (L2.CX P w) 2 (ad "common_divisor") (fdt "common_divisor") ["one", "other"] (spD (GG K C) 2 d_common_divisor)
theorem ok_u_lowest_terms (T : Tx K mg ad fdt C) (hF : Ca_u_lowest_terms P w K mg base ad fdt C) : FnOk P w K mg base (L2.CX P w) 3 (ad "_lowest_terms") (fdt "_lowest_terms") ["top", "bottom"] (spD (GG K C) 2 d_u_lowest_terms) :=
  have S := sc_u_lowest_terms
  fn_ok (G := GG K C) T.f_u_lowest_terms S fun cdv A outer s H E P (hr : Room 2 _) =>
    (ss_cons (s_if (t_lt (qv 1) q_int) (ss_one (s_par 0 1 rfl S.nd (a_cons (q_neg (qv 0)) (a_cons (q_neg (qv 1)) a_nil)))) ss_nil)
    (ss_cons (s_set 2 S.nd (q_call (hF.f_common_divisor) (hr.mono (by decide)) (by exact rfl) T.g_common_divisor T.f_common_divisor.kp (bd_common_divisor T) (takes_of rfl rfl rfl rfl) (ar_cons (ar_cons ar_nil)) (a_cons (qv 0) (a_cons (qv 1) a_nil))))
    (ss_one (s_ret (q_tup (a_cons (q_div (qv 0) (qv 2)) (a_cons (q_div (qv 1) (qv 2)) a_nil)))))))
theorem sc_quotient_of : FnScope ["top", "bottom"] ["top", "bottom"] (defScope st_quotient_of) := ⟨rfl, rfl, rfl, by decide +kernel, rfl, by decide +kernel, by decide +kernel⟩
structure Ca_quotient_of (P : Program) (w : World) (K : PySem.W.Frag) (mg : Str → Option Value) (base : Heap) (ad : Str → Addr) (fdt : Str → FuncData) (C : Str → Addr) : Prop where
  f_u_lowest_terms : FnOk P w K mg base (L2.CX P w) 3 (ad "_lowest_terms") (fdt "_lowest_terms") ["top", "bottom"] (spD (GG K C) 2 d_u_lowest_terms)
  f_is_integer : FnOk P w K mg base (L2.CX P w) 2 (ad "is_integer") (fdt "is_integer") ["thing"] (spD (GG K C) 1 d_is_integer)
theorem ok_quotient_of (T : Tx K mg ad fdt C) (hF : Ca_quotient_of P w K mg base ad fdt C) : FnOk P w K mg base (L2.CX P w) 4 (ad "quotient_of") (fdt "quotient_of") ["top", "bottom"] (spD (GG K C) 2 d_quotient_of) :=
  have S := sc_quotient_of
  fn_ok (G := GG K C) T.f_quotient_of S fun cdv A outer s H E P (hr : Room 3 _) =>
    (ss_cons (s_if (t_not (q_val (q_call (hF.f_is_integer) (hr.mono (by decide)) (by exact rfl) T.g_is_integer T.f_is_integer.kp (bd_is_integer T) (takes_of rfl rfl rfl rfl) (ar_cons ar_nil) (a_cons (qv 0) a_nil)))) (ss_one (s_raise rfl (takes_of rfl rfl rfl rfl) T.xC_NotUsable T.x_NotUsable_word T.x_NotUsable_at T.xi_NotUsable T.xt_NotUsable (ok_NotUsable_init T) (hr.mono (by decide)) (bd_NotUsable_init T) rfl T.gx_NotUsable rfl (ar_cons (ar_cons ar_nil)) (a_cons q_str (a_cons (q_neg q_int) a_nil)))) ss_nil)
    (ss_cons (s_if (w_or (t_not (q_val (q_call (hF.f_is_integer) (hr.mono (by decide)) (by exact rfl) T.g_is_integer T.f_is_integer.kp (bd_is_integer T) (takes_of rfl rfl rfl rfl) (ar_cons ar_nil) (a_cons (qv 1) a_nil)))) (w_or1 (t_eq hr (qv 1) q_int))).pt (ss_one (s_raise rfl (takes_of rfl rfl rfl rfl) T.xC_NotUsable T.x_NotUsable_word T.x_NotUsable_at T.xi_NotUsable T.xt_NotUsable (ok_NotUsable_init T) (hr.mono (by decide)) (bd_NotUsable_init T) rfl T.gx_NotUsable rfl (ar_cons (ar_cons ar_nil)) (a_cons q_str (a_cons (q_neg q_int) a_nil)))) ss_nil)
    (ss_one (s_ret (q_call (hF.f_u_lowest_terms) (hr.mono (by decide)) (by exact rfl) T.g_u_lowest_terms T.f_u_lowest_terms.kp (bd_u_lowest_terms T) (takes_of rfl rfl rfl rfl) (ar_cons (ar_cons ar_nil)) (a_cons (qv 0) (a_cons (qv 1) a_nil)))))))
theorem sc_quotient_sum : FnScope ["parts", "top", "bottom", "part", "whole"] ["parts"] (defScope st_quotient_sum) := ⟨rfl, rfl, rfl, by decide +kernel, rfl, by decide +kernel, by decide +kernel⟩
structure Ca_quotient_sum (P : Program) (w : World) (K : PySem.W.Frag) (mg : Str → Option Value) (base : Heap) (ad : Str → Addr) (fdt : Str → FuncData) (C : Str → Addr) : Prop where
  f_quotient_of : FnOk P w K mg base (L2.CX P w) 4 (ad "quotient_of") (fdt "quotient_of") ["top", "bottom"] (spD (GG K C) 2 d_quotient_of)
theorem ok_quotient_sum (T : Tx K mg ad fdt C) (hF : Ca_quotient_sum P w K mg base ad fdt C) : FnOk P w K mg base (L2.CX P w) 5 (ad "quotient_sum") (fdt "quotient_sum") ["parts"] (spD (GG K C) 1 d_quotient_sum) :=
  have S := sc_quotient_sum
  fn_ok (G := GG K C) T.f_quotient_sum S fun cdv A outer s H E P (hr : Room 4 _) =>
    (ss_cons (s_setP (q_tup (a_cons q_int (a_cons q_int a_nil))) (g_tp rfl (g_cons (g_nm 1 S.nd) (g_cons (g_nm 2 S.nd) g_nil)) rfl))
    (ss_cons (s_for (passes_of rfl) rfl (i_it (by exact rfl) (qv 0)) (g_tp rfl (g_cons (g_nm 3 S.nd) (g_cons (g_nm 4 S.nd) g_nil)) rfl) (ss_one (s_if (t_eq hr (q_mod (qv 2) (qv 4)) q_int) (ss_one (s_set 1 S.nd (q_add (qv 1) (q_mul (qv 3) (q_div (qv 2) (qv 4)))))) (ss_one (s_setP (q_call (hF.f_quotient_of) (hr.mono (by decide)) (by exact rfl) T.g_quotient_of T.f_quotient_of.kp (bd_quotient_of T) (takes_of rfl rfl rfl rfl) (ar_cons (ar_cons ar_nil)) (a_cons (q_add (q_mul (qv 1) (qv 4)) (q_mul (qv 3) (qv 2))) (a_cons (q_mul (qv 2) (qv 4)) a_nil))) (g_tp rfl (g_cons (g_nm 1 S.nd) (g_cons (g_nm 2 S.nd) g_nil)) rfl))))))
    (ss_one (s_ret (q_call (hF.f_quotient_of) (hr.mono (by decide)) (by exact rfl) T.g_quotient_of T.f_quotient_of.kp (bd_quotient_of T) (takes_of rfl rfl rfl rfl) (ar_cons (ar_cons ar_nil)) (a_cons (qv 1) (a_cons (qv 2) a_nil)))))))
theorem sc_till_list : FnScope ["board", "tables", "counts", "worths", "many", "choices", "person", "tills", "k", "worth", "dues"] ["board", "tables"] (defScope st_till_list) := ⟨rfl, rfl, rfl, by decide +kernel, rfl, by decide +kernel, by decide +kernel⟩
structure Ca_till_list (P : Program) (w : World) (K : PySem.W.Frag) (mg : Str → Option Value) (base : Heap) (ad : Str → Addr) (fdt : Str → FuncData) (C : Str → Addr) : Prop where
  f_choices_by_place : FnOk P w K mg base (L2.CX P w) 3 (ad "choices_by_place") (fdt "choices_by_place") ["counts", "person"] (spD (GG K C) 2 d_choices_by_place)
  f_quotient_sum : FnOk P w K mg base (L2.CX P w) 5 (ad "quotient_sum") (fdt "quotient_sum") ["parts"] (spD (GG K C) 1 d_quotient_sum)
theorem ok_till_list (T : Tx K mg ad fdt C) (hF : Ca_till_list P w K mg base ad fdt C) : FnOk P w K mg base (L2.CX P w) 6 (ad "till_list") (fdt "till_list") ["board", "tables"] (spD (GG K C) 2 d_till_list) :=
  have S := sc_till_list
  fn_ok (G := GG K C) T.f_till_list S fun cdv A outer s H E P (hr : Room 5 _) =>
    (ss_cons (s_setP (qv 0) (g_tp rfl (g_cons (g_nm 2 S.nd) (g_cons (g_nm 3 S.nd) g_nil)) rfl))
    (ss_cons (s_set 4 S.nd (q_lenv 2 (by exact rfl) (by exact T.b_len)))
    (ss_cons (s_set 5 S.nd (q_lc (by exact rfl) S.nd (i_rng1 (by exact rfl) (by exact T.b_range) (a_cons (qv 4) a_nil) (ar_cons ar_nil)) (blkOk_by (own := [("person", 6)]) (by kernel_rfl)) (fun P s H C cl fp => (g_nm 6 S.nd)) (fun P s H C cl fp => q_yes) (fun P s H C cl fp => (q_call (hF.f_choices_by_place) (hr.mono (by decide)) (by exact rfl) T.g_choices_by_place T.f_choices_by_place.kp (bd_choices_by_place T) takes0 (ar_cons (ar_cons ar_nil)) (a_cons (qv 2) (a_cons (qv 6) a_nil))))))
    (ss_cons (s_set 7 S.nd (q_lst a_nil))
    (ss_cons (s_for (passes_of rfl) rfl (i_enum (by exact rfl) (by exact rfl) (by exact T.b_enumerate) (a_cons (qv 3) a_nil)) (g_tp rfl (g_cons (g_nm 8 S.nd) (g_cons (g_nm 9 S.nd) g_nil)) rfl) (ss_cons (s_setLc 10 (by exact rfl) S.nd (i_rng1 (by exact rfl) (by exact T.b_range) (a_cons (qv 4) a_nil) (ar_cons ar_nil)) (blkOk_by (own := [("person", 6)]) (by kernel_rfl)) (fun P s H C cl fp => (g_nm 6 S.nd)) (fun P s H C cl fp => q_yes) (fun P s H C cl fp => (q_ix (q_ixv 1 (qv 6)) (q_ix (q_ixv 5 (qv 6)) (qv 8)))))
    (ss_cons (s_expr (q_app 10 (q_tup (a_cons (q_mul (qv 9) (q_sub q_int (qv 4))) (a_cons q_int a_nil)))))
    (ss_one (s_expr (q_app 7 (q_call (hF.f_quotient_sum) (hr.mono (by decide)) (by exact rfl) T.g_quotient_sum T.f_quotient_sum.kp (bd_quotient_sum T) (takes_of rfl rfl rfl rfl) (ar_cons ar_nil) (a_cons (qv 10) a_nil))))))))
    (ss_one (s_ret (qv 7))))))))
theorem sc_till_row : FnScope ["board", "tables"] ["board", "tables"] (defScope st_till_row) := ⟨rfl, rfl, rfl, by decide +kernel, rfl, by decide +kernel, by decide +kernel⟩
structure Ca_till_row (P : Program) (w : World) (K : PySem.W.Frag) (mg : Str → Option Value) (base : Heap) (ad : Str → Addr) (fdt : Str → FuncData) (C : Str → Addr) : Prop where
  f_is_tables : FnOk P w K mg base (L2.CX P w) 5 (ad "is_tables") (fdt "is_tables") ["board", "thing"] (spD (GG K C) 2 d_is_tables)
  f_till_list : FnOk P w K mg base (L2.CX P w) 6 (ad "till_list") (fdt "till_list") ["board", "tables"] (spD (GG K C) 2 d_till_list)
theorem ok_till_row (T : Tx K mg ad fdt C) (hF : Ca_till_row P w K mg base ad fdt C) : FnOk P w K mg base (L2.CX P w) 7 (ad "till_row") (fdt "till_row") ["board", "tables"] (spD (GG K C) 2 d_till_row) :=
  have S := sc_till_row
  fn_ok (G := GG K C) T.f_till_row S fun cdv A outer s H E P (hr : Room 6 _) =>
    (ss_cons (s_if (t_not (q_val (q_call (hF.f_is_tables) (hr.mono (by decide)) (by exact rfl) T.g_is_tables T.f_is_tables.kp (bd_is_tables T) (takes_of rfl rfl rfl rfl) (ar_cons (ar_cons ar_nil)) (a_cons (qv 0) (a_cons (qv 1) a_nil))))) (ss_one (s_raise rfl (takes_of rfl rfl rfl rfl) T.xC_NotUsable T.x_NotUsable_word T.x_NotUsable_at T.xi_NotUsable T.xt_NotUsable (ok_NotUsable_init T) (hr.mono (by decide)) (bd_NotUsable_init T) rfl T.gx_NotUsable rfl (ar_cons (ar_cons ar_nil)) (a_cons q_str (a_cons (q_neg q_int) a_nil)))) ss_nil)
    (ss_one (s_ret (q_tuple (by exact rfl) (by exact T.b_tuple) (a_cons (q_call (hF.f_till_list) (hr.mono (by decide)) (by exact rfl) T.g_till_list T.f_till_list.kp (bd_till_list T) (takes_of rfl rfl rfl rfl) (ar_cons (ar_cons ar_nil)) (a_cons (qv 0) (a_cons (qv 1) a_nil))) a_nil)))))
theorem sc_is_under : FnScope ["one", "other"] ["one", "other"] (defScope st_is_under) := ⟨rfl, rfl, rfl, by decide +kernel, rfl, by decide +kernel, by decide +kernel⟩
theorem ok_is_under (T : Tx K mg ad fdt C) : FnOk P w K mg base (L2.CX P w) 2 (ad "is_under") (fdt "is_under") ["one", "other"] (spD (GG K C) 2 d_is_under) :=
  have S := sc_is_under
  fn_ok (G := GG K C) T.f_is_under S fun cdv A outer s H E P (hr : Room 1 _) =>
    (ss_one (s_ret (q_lt (q_mul (q_ixv 0 q_int) (q_ixv 1 q_int)) (q_mul (q_ixv 1 q_int) (q_ixv 0 q_int)))))
theorem sc_ends_of_quotients : FnScope ["parts", "least", "greatest", "part"] ["parts"] (defScope st_ends_of_quotients) := ⟨rfl, rfl, rfl, by decide +kernel, rfl, by decide +kernel, by decide +kernel⟩
structure Ca_ends_of_quotients (P : Program) (w : World) (K : PySem.W.Frag) (mg : Str → Option Value) (base : Heap) (ad : Str → Addr) (fdt : Str → FuncData) (C : Str → Addr) : Prop where
  f_is_under : FnOk P w K mg base (L2.CX P w) 2 (ad "is_under") (fdt "is_under") ["one", "other"] (spD (GG K C) 2 d_is_under)
theorem ok_ends_of_quotients (T : Tx K mg ad fdt C) (hF : Ca_ends_of_quotients P w K mg base ad fdt C) : FnOk P w K mg base (L2.CX P w) 3 (ad "ends_of_quotients") (fdt "ends_of_quotients") ["parts"] (spD (GG K C) 1 d_ends_of_quotients) :=
  have S := sc_ends_of_quotients
  fn_ok (G := GG K C) T.f_ends_of_quotients S fun cdv A outer s H E P (hr : Room 2 _) =>
    (ss_cons (s_par 1 2 rfl S.nd (a_cons (q_ixv 0 q_int) (a_cons (q_ixv 0 q_int) a_nil)))
    (ss_cons (s_for (passes_of rfl) rfl (i_it (by exact rfl) (qv 0)) (g_nm 3 S.nd) (ss_cons (s_if (q_val (q_call (hF.f_is_under) (hr.mono (by decide)) (by exact rfl) T.g_is_under T.f_is_under.kp (bd_is_under T) (takes_of rfl rfl rfl rfl) (ar_cons (ar_cons ar_nil)) (a_cons (qv 3) (a_cons (qv 1) a_nil)))) (ss_one (s_set 1 S.nd (qv 3))) ss_nil)
    (ss_one (s_if (q_val (q_call (hF.f_is_under) (hr.mono (by decide)) (by exact rfl) T.g_is_under T.f_is_under.kp (bd_is_under T) (takes_of rfl rfl rfl rfl) (ar_cons (ar_cons ar_nil)) (a_cons (qv 2) (a_cons (qv 3) a_nil)))) (ss_one (s_set 2 S.nd (qv 3))) ss_nil))))
    (ss_one (s_ret (q_tup (a_cons (qv 1) (a_cons (qv 2) a_nil)))))))
theorem sc_u_need_quotients : FnScope ["one", "other"] ["one", "other"] (defScope st_u_need_quotients) := ⟨rfl, rfl, rfl, by decide +kernel, rfl, by decide +kernel, by decide +kernel⟩
structure Ca_u_need_quotients (P : Program) (w : World) (K : PySem.W.Frag) (mg : Str → Option Value) (base : Heap) (ad : Str → Addr) (fdt : Str → FuncData) (C : Str → Addr) : Prop where
  f_is_quotient : FnOk P w K mg base (L2.CX P w) 3 (ad "is_quotient") (fdt "is_quotient") ["thing"] (spD (GG K C) 1 d_is_quotient)
theorem ok_u_need_quotients (T : Tx K mg ad fdt C) (hF : Ca_u_need_quotients P w K mg base ad fdt C) : FnOk P w K mg base (L2.CX P w) 4 (ad "_need_quotients") (fdt "_need_quotients") ["one", "other"] (spD (GG K C) 2 d_u_need_quotients) :=
  have S := sc_u_need_quotients
  fn_ok (G := GG K C) T.f_u_need_quotients S fun cdv A outer s H E P (hr : Room 3 _) =>
    (ss_cons (s_if (t_not (q_val (q_call (hF.f_is_quotient) (hr.mono (by decide)) (by exact rfl) T.g_is_quotient T.f_is_quotient.kp (bd_is_quotient T) (takes_of rfl rfl rfl rfl) (ar_cons ar_nil) (a_cons (qv 0) a_nil)))) (ss_one (s_raise rfl (takes_of rfl rfl rfl rfl) T.xC_NotUsable T.x_NotUsable_word T.x_NotUsable_at T.xi_NotUsable T.xt_NotUsable (ok_NotUsable_init T) (hr.mono (by decide)) (bd_NotUsable_init T) rfl T.gx_NotUsable rfl (ar_cons (ar_cons ar_nil)) (a_cons q_str (a_cons (q_neg q_int) a_nil)))) ss_nil)
    (ss_one (s_if (t_not (q_val (q_call (hF.f_is_quotient) (hr.mono (by decide)) (by exact rfl) T.g_is_quotient T.f_is_quotient.kp (bd_is_quotient T) (takes_of rfl rfl rfl rfl) (ar_cons ar_nil) (a_cons (qv 1) a_nil)))) (ss_one (s_raise rfl (takes_of rfl rfl rfl rfl) T.xC_NotUsable T.x_NotUsable_word T.x_NotUsable_at T.xi_NotUsable T.xt_NotUsable (ok_NotUsable_init T) (hr.mono (by decide)) (bd_NotUsable_init T) rfl T.gx_NotUsable rfl (ar_cons (ar_cons ar_nil)) (a_cons q_str (a_cons (q_neg q_int) a_nil)))) ss_nil)))
theorem sc_minus : FnScope ["one", "other"] ["one", "other"] (defScope st_minus) := ⟨rfl, rfl, rfl, by decide +kernel, rfl, by decide +kernel, by decide +kernel⟩
structure Ca_minus (P : Program) (w : World) (K : PySem.W.Frag) (mg : Str → Option Value) (base : Heap) (ad : Str → Addr) (fdt : Str → FuncData) (C : Str → Addr) : Prop where
  f_u_need_quotients : FnOk P w K mg base (L2.CX P w) 4 (ad "_need_quotients") (fdt "_need_quotients") ["one", "other"] (spD (GG K C) 2 d_u_need_quotients)
  f_u_lowest_terms : FnOk P w K mg base (L2.CX P w) 3 (ad "_lowest_terms") (fdt "_lowest_terms") ["top", "bottom"] (spD (GG K C) 2 d_u_lowest_terms)
theorem ok_minus (T : Tx K mg ad fdt C) (hF : Ca_minus P w K mg base ad fdt C) : FnOk P w K mg base (L2.CX P w) 5 (ad "minus") (fdt "minus") ["one", "other"] (spD (GG K C) 2 d_minus) :=
  have S := sc_minus
  fn_ok (G := GG K C) T.f_minus S fun cdv A outer s H E P (hr : Room 4 _) =>
    (ss_cons (s_expr (q_call (hF.f_u_need_quotients) (hr.mono (by decide)) (by exact rfl) T.g_u_need_quotients T.f_u_need_quotients.kp (bd_u_need_quotients T) (takes_of rfl rfl rfl rfl) (ar_cons (ar_cons ar_nil)) (a_cons (qv 0) (a_cons (qv 1) a_nil))))
    (ss_one (s_ret (q_call (hF.f_u_lowest_terms) (hr.mono (by decide)) (by exact rfl) T.g_u_lowest_terms T.f_u_lowest_terms.kp (bd_u_lowest_terms T) (takes_of rfl rfl rfl rfl) (ar_cons (ar_cons ar_nil)) (a_cons (q_sub (q_mul (q_ixv 0 q_int) (q_ixv 1 q_int)) (q_mul (q_ixv 1 q_int) (q_ixv 0 q_int))) (a_cons (q_mul (q_ixv 0 q_int) (q_ixv 1 q_int)) a_nil))))))
theorem sc_till_span : FnScope ["board", "tables", "least", "greatest"] ["board", "tables"] (defScope st_till_span) := ⟨rfl, rfl, rfl, by decide +kernel, rfl, by decide +kernel, by decide +kernel⟩
structure Ca_till_span (P : Program) (w : World) (K : PySem.W.Frag) (mg : Str → Option Value) (base : Heap) (ad : Str → Addr) (fdt : Str → FuncData) (C : Str → Addr) : Prop where
  f_ends_of_quotients : FnOk P w K mg base (L2.CX P w) 3 (ad "ends_of_quotients") (fdt "ends_of_quotients") ["parts"] (spD (GG K C) 1 d_ends_of_quotients)
  f_minus : FnOk P w K mg base (L2.CX P w) 5 (ad "minus") (fdt "minus") ["one", "other"] (spD (GG K C) 2 d_minus)
  f_is_tables : FnOk P w K mg base (L2.CX P w) 5 (ad "is_tables") (fdt "is_tables") ["board", "thing"] (spD (GG K C) 2 d_is_tables)
  f_till_list : FnOk P w K mg base (L2.CX P w) 6 (ad "till_list") (fdt "till_list") ["board", "tables"] (spD (GG K C) 2 d_till_list)
theorem ok_till_span (T : Tx K mg ad fdt C) (hF : Ca_till_span P w K mg base ad fdt C) : FnOk P w K mg base (L2.CX P w) 7 (ad "till_span") (fdt "till_span") ["board", "tables"] (spD (GG K C) 2 d_till_span) :=
  have S := sc_till_span
  fn_ok (G := GG K C) T.f_till_span S fun cdv A outer s H E P (hr : Room 6 _) =>
    (ss_cons (s_if (t_not (q_val (q_call (hF.f_is_tables) (hr.mono (by decide)) (by exact rfl) T.g_is_tables T.f_is_tables.kp (bd_is_tables T) (takes_of rfl rfl rfl rfl) (ar_cons (ar_cons ar_nil)) (a_cons (qv 0) (a_cons (qv 1) a_nil))))) (ss_one (s_raise rfl (takes_of rfl rfl rfl rfl) T.xC_NotUsable T.x_NotUsable_word T.x_NotUsable_at T.xi_NotUsable T.xt_NotUsable (ok_NotUsable_init T) (hr.mono (by decide)) (bd_NotUsable_init T) rfl T.gx_NotUsable rfl (ar_cons (ar_cons ar_nil)) (a_cons q_str (a_cons (q_neg q_int) a_nil)))) ss_nil)
    (ss_cons (s_setP (q_call (hF.f_ends_of_quotients) (hr.mono (by decide)) (by exact rfl) T.g_ends_of_quotients T.f_ends_of_quotients.kp (bd_ends_of_quotients T) (takes_of rfl rfl rfl rfl) (ar_cons ar_nil) (a_cons (q_call (hF.f_till_list) (hr.mono (by decide)) (by exact rfl) T.g_till_list T.f_till_list.kp (bd_till_list T) (takes_of rfl rfl rfl rfl) (ar_cons (ar_cons ar_nil)) (a_cons (qv 0) (a_cons (qv 1) a_nil))) a_nil)) (g_tp rfl (g_cons (g_nm 2 S.nd) (g_cons (g_nm 3 S.nd) g_nil)) rfl))
    (ss_one (s_ret (q_call (hF.f_minus) (hr.mono (by decide)) (by exact rfl) T.g_minus T.f_minus.kp (bd_minus T) (takes_of rfl rfl rfl rfl) (ar_cons (ar_cons ar_nil)) (a_cons (qv 3) (a_cons (qv 2) a_nil)))))))
theorem sc_law : FnScope ["_law_script", "_law_deal_here", "_law_board_here", "_law_uneven_here", "_law_told", "_law_noughts", "_law_worth"] ["_law_script"] (defScope st_law) := ⟨rfl, rfl, rfl, by decide +kernel, rfl, by decide +kernel, by decide +kernel⟩
structure Ca_law (P : Program) (w : World) (K : PySem.W.Frag) (mg : Str → Option Value) (base : Heap) (ad : Str → Addr) (fdt : Str → FuncData) (C : Str → Addr) : Prop where
  f_u_law_deal : FnOk P w K mg base (L2.CX P w) 2 (ad "_law_deal") (fdt "_law_deal") ["_law_script"] (spD (GG K C) 1 d_u_law_deal)
  f_u_law_board : FnOk P w K mg base (L2.CX P w) 4 (ad "_law_board") (fdt "_law_board") ["_law_deal_here"] (spD (GG K C) 1 d_u_law_board)
  f_u_law_uneven : FnOk P w K mg base (L2.CX P w) 4 (ad "_law_uneven") (fdt "_law_uneven") ["_law_board_here"] (spD (GG K C) 1 d_u_law_uneven)
  f_u_law_flat : FnOk P w K mg base (L2.CX P w) 7 (ad "_law_flat") (fdt "_law_flat") ["_law_board_here"] (spD (GG K C) 1 d_u_law_flat)
  f_u_law_same : FnOk P w K mg base (L2.CX P w) 7 (ad "_law_same") (fdt "_law_same") ["_law_one", "_law_due"] (spD (GG K C) 2 d_u_law_same)
  f_u_law_differences : FnOk P w K mg base (L2.CX P w) 8 (ad "_law_differences") (fdt "_law_differences") ["_law_deal_here", "_law_board_here", "_law_uneven_here"] (spD (GG K C) 3 d_u_law_differences)
  f_u_law_refused : FnOk P w K mg base (L2.CX P w) 8 (ad "_law_refused") (fdt "_law_refused") ["_law_deal_here", "_law_board_here"] (spD (GG K C) 2 d_u_law_refused)
  f_Board_even : FnOk P w K mg base (L2.CX P w) 6 (ad "Board.even") (fdt "Board.even") ["self"] (spD (GG K C) 1 d_Board_even)
  f_uneven_place : FnOk P w K mg base (L2.CX P w) 5 (ad "uneven_place") (fdt "uneven_place") ["board"] (spD (GG K C) 1 d_uneven_place)
  f_u_law_is_flat : FnOk P w K mg base (L2.CX P w) 4 (ad "_law_is_flat") (fdt "_law_is_flat") ["_law_board_here", "_law_tables"] (spD (GG K C) 2 d_u_law_is_flat)
  f_Board___init__ : FnOk P w K mg base (L2.CX P w) 4 (ad "Board.__init__") (fdt "Board.__init__") ["self", "counts", "worths"] (spNew1 (GG K C) (C "Board") "_pair" 2 d_Board___init__)
  f_till_row : FnOk P w K mg base (L2.CX P w) 7 (ad "till_row") (fdt "till_row") ["board", "tables"] (spD (GG K C) 2 d_till_row)
  f_till_span : FnOk P w K mg base (L2.CX P w) 7 (ad "till_span") (fdt "till_span") ["board", "tables"] (spD (GG K C) 2 d_till_span)
theorem ok_law (T : Tx K mg ad fdt C) (hF : Ca_law P w K mg base ad fdt C) : FnOk P w K mg base (L2.CX P w) 9 (ad "law") (fdt "law") ["_law_script"] (spD (GG K C) 1 d_law) :=
  have S := sc_law
  fn_ok (G := GG K C) T.f_law S fun cdv A outer s H E P (hr : Room 8 _) =>
    (ss_cons (s_set 1 S.nd (q_call (hF.f_u_law_deal) (hr.mono (by decide)) (by exact rfl) T.g_u_law_deal T.f_u_law_deal.kp (bd_u_law_deal T) (takes_of rfl rfl rfl rfl) (ar_cons ar_nil) (a_cons (qv 0) a_nil)))
    (ss_cons (s_set 2 S.nd (q_call (hF.f_u_law_board) (hr.mono (by decide)) (by exact rfl) T.g_u_law_board T.f_u_law_board.kp (bd_u_law_board T) (takes_of rfl rfl rfl rfl) (ar_cons ar_nil) (a_cons (qv 1) a_nil)))
    (ss_cons (s_set 3 S.nd (q_call (hF.f_u_law_uneven) (hr.mono (by decide)) (by exact rfl) T.g_u_law_uneven T.f_u_law_uneven.kp (bd_u_law_uneven T) (takes_of rfl rfl rfl rfl) (ar_cons ar_nil) (a_cons (qv 2) a_nil)))
    (ss_cons (s_if (w_or (t_not (q_val (q_call (hF.f_u_law_same) (hr.mono (by decide)) (by exact rfl) T.g_u_law_same T.f_u_law_same.kp (bd_u_law_same T) (takes_of rfl rfl rfl rfl) (ar_cons (ar_cons ar_nil)) (a_cons (q_call (hF.f_uneven_place) (hr.mono (by decide)) (by exact rfl) T.g_uneven_place T.f_uneven_place.kp (bd_uneven_place T) (takes_of rfl rfl rfl rfl) (ar_cons ar_nil) (a_cons (qv 2) a_nil)) (a_cons (qv 3) a_nil))))) (w_or1 (t_not (q_val (q_call (hF.f_u_law_same) (hr.mono (by decide)) (by exact rfl) T.g_u_law_same T.f_u_law_same.kp (bd_u_law_same T) (takes_of rfl rfl rfl rfl) (ar_cons (ar_cons ar_nil)) (a_cons (q_callK (ks := ["board"]) (ix := [0]) (hF.f_uneven_place) (hr.mono (by decide)) (by exact rfl) T.g_uneven_place T.f_uneven_place.kp (fun_kw T.f_uneven_place fun _ _ _ _ _ _ ws hl => match ws, hl with | [_], _ => rfl) (takes_of rfl rfl rfl rfl) (ar_cons ar_nil) (k_cons (qv 2) k_nil)) (a_cons (qv 3) a_nil))))))).pt (ss_one (s_ret q_bl)) ss_nil)
    (ss_cons (s_if (t_not (q_val (q_call (hF.f_u_law_same) (hr.mono (by decide)) (by exact rfl) T.g_u_law_same T.f_u_law_same.kp (bd_u_law_same T) (takes_of rfl rfl rfl rfl) (ar_cons (ar_cons ar_nil)) (a_cons (q_meth (ks := []) (ix := []) (by exact rfl) T.cl_Board T.m_Board_even (hF.f_Board_even) (hr.mono (by decide)) (fun_kw1 T.f_Board_even fun _ _ _ _ _ _ u ws hl => match ws, hl with | [], _ => rfl) (takes_of rfl rfl rfl rfl) ar_nil (q_make (by exact rfl) T.mk_Board (hF.f_Board___init__) (hr.mono (by decide)) (by exact rfl) T.gc_Board (bd_Board___init__ T) (takes_of rfl rfl rfl rfl) (ar_cons (ar_cons ar_nil)) (a_cons (q_ixv 2 q_int) (a_cons (q_ixv 2 q_int) a_nil))) k_nil) (a_cons (q_isN (qv 3)) a_nil))))) (ss_one (s_ret q_bl)) ss_nil)
    (ss_cons (s_set 4 S.nd (q_call (hF.f_u_law_flat) (hr.mono (by decide)) (by exact rfl) T.g_u_law_flat T.f_u_law_flat.kp (bd_u_law_flat T) (takes_of rfl rfl rfl rfl) (ar_cons ar_nil) (a_cons (qv 2) a_nil)))
    (ss_cons (s_if (t_notN (qv 3)) (ss_one (s_if (t_not (q_val (q_call (hF.f_u_law_same) (hr.mono (by decide)) (by exact rfl) T.g_u_law_same T.f_u_law_same.kp (bd_u_law_same T) (takes_of rfl rfl rfl rfl) (ar_cons (ar_cons ar_nil)) (a_cons (qv 4) (a_cons (q_tup (a_cons q_str (a_cons (qv 3) a_nil))) a_nil))))) (ss_one (s_ret q_bl)) ss_nil)) (ss_cons (s_if (w_or (t_ne hr (q_ixv 4 q_int) q_str) (w_or1 (t_not (q_val (q_call (hF.f_u_law_is_flat) (hr.mono (by decide)) (by exact rfl) T.g_u_law_is_flat T.f_u_law_is_flat.kp (bd_u_law_is_flat T) (takes_of rfl rfl rfl rfl) (ar_cons (ar_cons ar_nil)) (a_cons (qv 2) (a_cons (q_ixv 4 q_int) a_nil))))))).pt (ss_one (s_ret q_bl)) ss_nil)
    (ss_cons (s_set 5 S.nd (q_tuple (by exact rfl) (by exact T.b_tuple) (a_cons (q_lc (by exact rfl) S.nd (i_it (by exact rfl) (q_ixv 2 q_int)) (blkOk_by (own := [("_law_worth", 6)]) (by kernel_rfl)) (fun P s H C cl fp => (g_nm 6 S.nd)) (fun P s H C cl fp => q_yes) (fun P s H C cl fp => (q_tup (a_cons q_int (a_cons q_int a_nil))))) a_nil)))
    (ss_one (s_if (w_or (t_not (q_val (q_call (hF.f_u_law_same) (hr.mono (by decide)) (by exact rfl) T.g_u_law_same T.f_u_law_same.kp (bd_u_law_same T) (takes_of rfl rfl rfl rfl) (ar_cons (ar_cons ar_nil)) (a_cons (q_call (hF.f_till_row) (hr.mono (by decide)) (by exact rfl) T.g_till_row T.f_till_row.kp (bd_till_row T) (takes_of rfl rfl rfl rfl) (ar_cons (ar_cons ar_nil)) (a_cons (qv 2) (a_cons (q_ixv 4 q_int) a_nil))) (a_cons (qv 5) a_nil))))) (w_or1 (t_not (q_val (q_call (hF.f_u_law_same) (hr.mono (by decide)) (by exact rfl) T.g_u_law_same T.f_u_law_same.kp (bd_u_law_same T) (takes_of rfl rfl rfl rfl) (ar_cons (ar_cons ar_nil)) (a_cons (q_call (hF.f_till_span) (hr.mono (by decide)) (by exact rfl) T.g_till_span T.f_till_span.kp (bd_till_span T) (takes_of rfl rfl rfl rfl) (ar_cons (ar_cons ar_nil)) (a_cons (qv 2) (a_cons (q_ixv 4 q_int) a_nil))) (a_cons (q_tup (a_cons q_int (a_cons q_int a_nil))) a_nil))))))).pt (ss_one (s_ret q_bl)) ss_nil)))))
    (ss_one (s_ret (q_andv (q_call (hF.f_u_law_differences) (hr.mono (by decide)) (by exact rfl) T.g_u_law_differences T.f_u_law_differences.kp (bd_u_law_differences T) (takes_of rfl rfl rfl rfl) (ar_cons (ar_cons (ar_cons ar_nil))) (a_cons (qv 1) (a_cons (qv 2) (a_cons (qv 3) a_nil)))) (q_one (q_call (hF.f_u_law_refused) (hr.mono (by decide)) (by exact rfl) T.g_u_law_refused T.f_u_law_refused.kp (bd_u_law_refused T) (takes_of rfl rfl rfl rfl) (ar_cons (ar_cons ar_nil)) (a_cons (qv 1) (a_cons (qv 2) a_nil))))))))))))))
end
end L26
namespace DN
open PySem PySem.Spec L2
open PyProof.Rows hiding St
/-! ### plain readings, for what is walked by hand -/
section
variable {K : PySem.W.Frag} {X : Cx}
def EvE (t : TE) (σ : L2.St) (H : Hp) (v : V) : Prop := ∀ Q : VK, Q v H → t σ H Q
variable {σ : L2.St} {H : Hp} {ta tb : TE} {x y v : V}
theorem ev_v {i : Nat} (h : σ[i]? = some (some v)) : EvE (tVar i) σ H v := fun Q q => ⟨v, h, q⟩
theorem ev_k : EvE (tC v) σ H v := fun Q q => q
theorem ev_o {r : R2} (ha : EvE ta σ H x) (hb : EvE tb σ H y) (h : ∀ Q : VK, Q v H → r x y H Q) : EvE (tOp r ta tb) σ H v := fun Q q => ha _ (hb _ (h Q q))
theorem ev_cb {r : List V → Hp → VK → Prop} (ha : EvE ta σ H x) (h : ∀ Q : VK, Q v H → r [x] H Q) : EvE (tCB r (tCons ta tNil)) σ H v := fun Q q => ha _ (h Q q)
abbrev ixE (K : PySem.W.Frag) (a b : TE) : TE := tOp (rIx K) a b
abbrev rLn (K : PySem.W.Frag) : List V → Hp → VK → Prop := fun xs H Q => ∃ x n, xs = [x] ∧ LenV K x H n ∧ Q (.int n) H
abbrev lnE (K : PySem.W.Frag) (a : TE) : TE := tCB (rLn K) (tCons a tNil)
abbrev rIn : List V → Hp → VK → Prop := fun xs H Q => (∃ i, xs = [V.int i] ∧ Q (V.int i) H) ∨ ∃ k, xs = [V.bl k] ∧ Q (V.int (if k then 1 else 0)) H
abbrev inE (a : TE) : TE := tCB rIn (tCons a tNil)
abbrev rMd : R2 := rI (fun _ j => 0 < j) fun i j => .int (i % j)
abbrev rDv : R2 := rI CDivW fun i j => .int (i / j)
abbrev rMl : R2 := rI CMulW fun i j => .int (i * j)
abbrev rPl : R2 := rI0 fun i j => .int (i + j)
abbrev rGr : R2 := rI0 fun i j => .bl (decide (j < i))
abbrev kI (i : Int) : TE := tC (.int i)
theorem ev_ix {a : Addr} {xs : List V} {i : Int} (ha : EvE ta σ H (.ref a)) (hb : EvE tb σ H (.int i)) (h : H a = some (.lst xs)) (e : atI xs i = some v) : EvE (ixE K ta tb) σ H v := ev_o ha hb fun Q q => .inl ⟨a, xs, i, v, rfl, rfl, SqL.of h, e, q⟩
theorem ev_ln {a : Addr} {xs : List V} (ha : EvE ta σ H (.ref a)) (h : H a = some (.lst xs)) : EvE (lnE K ta) σ H (.int xs.length) := ev_cb ha fun Q q => ⟨_, _, rfl, .inl ⟨xs, SqL.of h, rfl⟩, q⟩
theorem ev_in {i : Int} (ha : EvE ta σ H (.int i)) : EvE (inE ta) σ H (.int i) := ev_cb ha fun Q q => .inl ⟨i, rfl, q⟩
theorem ev_md {i j : Int} (ha : EvE ta σ H (.int i)) (hb : EvE tb σ H (.int j)) (h : 0 < j) : EvE (tOp rMd ta tb) σ H (.int (i % j)) := ev_o ha hb fun Q q => ⟨i, j, rfl, rfl, h, q⟩
theorem ev_dv {i j : Int} (ha : EvE ta σ H (.int i)) (hb : EvE tb σ H (.int j)) (h : CDivW i j) : EvE (tOp rDv ta tb) σ H (.int (i / j)) := ev_o ha hb fun Q q => ⟨i, j, rfl, rfl, h, q⟩
theorem ev_ml {i j : Int} (ha : EvE ta σ H (.int i)) (hb : EvE tb σ H (.int j)) (h : CMulW i j) : EvE (tOp rMl ta tb) σ H (.int (i * j)) := ev_o ha hb fun Q q => ⟨i, j, rfl, rfl, h, q⟩
theorem ev_pl {i j : Int} (ha : EvE ta σ H (.int i)) (hb : EvE tb σ H (.int j)) : EvE (tOp rPl ta tb) σ H (.int (i + j)) := ev_o ha hb fun Q q => ⟨i, j, rfl, rfl, q⟩
theorem ev_gr {i j : Int} (ha : EvE ta σ H (.int i)) (hb : EvE tb σ H (.int j)) : EvE (tOp rGr ta tb) σ H (.bl (decide (j < i))) := ev_o ha hb fun Q q => ⟨i, j, rfl, rfl, q⟩
theorem ev_qe {i j : Int} (ha : EvE ta σ H (.int i)) (hb : EvE tb σ H (.int j)) : EvE (tOp rEq ta tb) σ H (.bl (decide (V.int i = V.int j))) := ev_o ha hb fun Q q => ⟨rfl, q⟩
theorem ifT {k : Bool} {A B : Prop} (hk : k = true) (h : A) : if k = true then A else B := by rw [if_pos hk]; exact h
theorem ifF {k : Bool} {A B : Prop} (hk : k = false) (h : B) : if k = true then A else B := by rw [hk, if_neg Bool.false_ne_true]; exact h
theorem h_ix {a b : Expr} {pos : Pos} (ha : PE X a ta) (hb : PE X b tb) (hs : PlainIx b := by exact fun _ _ => rfl) : PE X (.Subscript a b pos) (ixE X.K ta tb) := pe_ix ix_seq ha hb hs
theorem h_ln {a : Expr} {p pos : Pos} (hg : Gl X "len") (hm : X.mg "len" = none) (ha : PE X a ta) (he : starEach [a] X.env = (false, eval a X.env) :: starEach [] X.env := by rfl) : PE X (.Call (.Name "len" p) [a] [] pos) (lnE X.K ta) := pe_callB call_len hg hm PySem.boot_len (pa_cons ha pa_nil he) (he := he) (hpl := rfl)
theorem h_in {a : Expr} {p pos : Pos} (hg : Gl X "int") (hm : X.mg "int" = none) (ha : PE X a ta) (he : starEach [a] X.env = (false, eval a X.env) :: starEach [] X.env := by rfl) : PE X (.Call (.Name "int" p) [a] [] pos) (inE ta) := pe_callTy call_int1 hg hm (by decide +kernel) (pa_cons ha pa_nil he) (he := he) (hpl := rfl)
theorem h_set {o k e : Expr} {to tk te : TE} {p1 pos : Pos} (he : PE X e te) (ho : PE X o to) (hk : PE X k tk)
    (ha : ∀ v, assign (.Subscript o k p1) X.env v = (do
      let ov ← holding [v] (eval o X.env)
      let iv ← holding [v, ov] (eval k X.env)
      standAt p1
      holding [v, ov, iv] (setItem ov iv v)
      release [v, ov, iv] []) := by intro _; rfl)
    (hs : swapsWithSole [.Subscript o k p1] e pos.line X.env = pure false := by rfl) (hw : swappedStores [.Subscript o k p1] e X.env = pure none := by rfl)
    (h1 : (assignEach [.Subscript o k p1] X.env).map (·.2) = [assign (.Subscript o k p1) X.env] := by rfl) : PS X (.Assign [.Subscript o k p1] e pos) (tAsg te (gSub to tk rSetL)) := ps_asg he (pg_sub ho hk set_list ha) hs hw h1
end
theorem same_on {F : List Addr} {H H' : Hp} (h : ∀ a, a ∉ F → H' a = H a) : Same (hide F H) (hide F H') := fun b o e => by
  obtain ⟨n, e⟩ := hide_some e
  exact hide_of n ((h b n).trans e)
theorem atI_0 {α : Type} {x : α} {xs : List α} : atI (x :: xs) 0 = some x := by
  unfold atI ixN
  simp
end DN
namespace L26
open PySem PySem.Spec L2 DN
open PyProof.Rows hiding St
section
variable {P : Program} {w : World} {K : PySem.W.Frag} {mg : Str → Option Value} {base : Heap} {ad : Str → Addr} {fdt : Str → FuncData} {C : Str → Addr}
/-! ### one drawing -/
def c_pick (K : PySem.W.Frag) : TT := tAnd (tTest (tOp rGr (ixE K (tVar 0) (kI 1)) (kI 0))) (tTest (tOp (rI0 fun i j => .bl (decide (i < j))) (ixE K (tVar 0) (kI 2)) (kI 60)))
def t_pick1 (K : PySem.W.Frag) : TS :=
  tSeq (tAsg (ixE K (tVar 0) (kI 1)) (gName 2))
  (tSeq (tAsg (tOp rDv (tVar 2) (tVar 1)) (gSub (tVar 0) (kI 1) rSetL))
  (tSeq (tAsg (tOp rPl (ixE K (tVar 0) (kI 2)) (kI 1)) (gSub (tVar 0) (kI 2) rSetL))
  (tRet (tOp rMd (inE (tVar 2)) (tVar 1)))))
def t_pick2 (K : PySem.W.Frag) : TS :=
  tSeq (tAsg (tOp rMd (inE (tOp rPl (tOp rMl (ixE K (tVar 0) (kI 0)) (kI 39373)) (kI 1787))) (kI 2147483647)) (gSub (tVar 0) (kI 0) rSetL))
  (tRet (tOp rMd (inE (tOp rDv (ixE K (tVar 0) (kI 0)) (kI 1019))) (tVar 1)))
def t_pick (K : PySem.W.Frag) : TS := tSeq (tIfS (c_pick K) (t_pick1 K) tNext) (t_pick2 K)
theorem sc_u_law_pick : FnScope ["_law_deal_here", "_law_many", "_law_cell"] ["_law_deal_here", "_law_many"] (defScope st_u_law_pick) := ⟨rfl, rfl, rfl, by decide +kernel, rfl, by decide +kernel, by decide +kernel⟩
theorem pick_cases (ds : List D) (φ : Ph) : d_u_law_pick ds φ = .stuck ∨ ∃ n st, ds = [.fd, .int n] ∧ φ = some st ∧ ((0 ≤ st.s ∧ st.s < 2147483647) ∧ 0 < n ∧ n < 1000000000000000000000000000000000000000000000000000000000000) ∧ d_u_law_pick ds φ = .ok (.val (.int (pickF st n).1)) (some (pickF st n).2) := by
  unfold d_u_law_pick
  split
  · split
    · rename_i h
      exact .inr ⟨_, _, rfl, rfl, h, rfl⟩
    · exact .inl rfl
  · exact .inl rfl
theorem ix3 {x y z : V} : atI [x, y, z] 0 = some x ∧ atI [x, y, z] 1 = some y ∧ atI [x, y, z] 2 = some z := by
  refine ⟨?_, ?_, ?_⟩ <;> (unfold atI ixN; rfl)
theorem lt_ev {σ : L2.St} {H : Hp} {ta tb : TE} {i j : Int} (ha : EvE ta σ H (.int i)) (hb : EvE tb σ H (.int j)) : EvE (tOp (rI0 fun i j => .bl (decide (i < j))) ta tb) σ H (.bl (decide (i < j))) := ev_o ha hb fun Q q => ⟨i, j, rfl, rfl, q⟩
theorem pure_pick (vs : List V) (H : Hp) (Q : VK) (E : XK) (h : spD (GG K C) 2 d_u_law_pick vs H Q E) : t_pick K { nx := fun _ H' => Q .non H', rt := Q } (L2.start ["_law_deal_here", "_law_many", "_law_cell"] vs) H := by
  obtain ⟨F, φ, ds, Pp, hl, hv, fi, hp, q⟩ := h
  rcases pick_cases ds φ with z | ⟨n, st, rfl, rfl, hc, z⟩
  · rw [z] at q; exact q.elim
  rw [z] at q
  obtain ⟨⟨c0, c1⟩, hn, hn2⟩ := hc
  dsimp only at q
  rcases fi with f | ⟨a, st', e1, e2, h1⟩
  · cases f.1
  cases e1
  obtain ⟨v, u, rfl, k1, k2⟩ := hv.two
  cases k2
  cases k1 with
  | fd k1 =>
  rw [e2] at k1
  cases k1
  have logn : n.natAbs.log2 < 9000 := by
    by_cases z : n.natAbs = 0
    · rw [z]; decide
    · have : n.natAbs.log2 < 200 := by
        rw [Nat.log2_lt z]
        have : (2 : Nat) ^ 200 = 1606938044258990275541962092341162602522202993782792835301376 := by decide
        omega
      omega
  have fin : ∀ H' r st2, (∀ x, x ∉ F → H' x = H x) → (GG K C).FI F H' (some st2) → pickF st n = (r, st2) → Q (.int r) H' := fun H' r st2 hh fi' e => by
    rw [e] at q
    exact q F H' (.int r) (.refl _) (same_on hh) fi' (RD.int r)
  have es : L2.start ["_law_deal_here", "_law_many", "_law_cell"] [.ref a, .int n] = [some (.ref a), some (.int n), none] := rfl
  rw [es]
  have ex0 : ∀ σ : L2.St, σ[0]? = some (some (.ref a)) → EvE (ixE K (tVar 0) (kI 0)) σ H (.int st.s) := fun σ hσ => ev_ix (ev_v hσ) ev_k h1 ix3.1
  have ex1 : ∀ σ : L2.St, σ[0]? = some (some (.ref a)) → EvE (ixE K (tVar 0) (kI 1)) σ H (.int st.g) := fun σ hσ => ev_ix (ev_v hσ) ev_k h1 ix3.2.1
  have ex2 : ∀ σ : L2.St, σ[0]? = some (some (.ref a)) → EvE (ixE K (tVar 0) (kI 2)) σ H (.int st.c) := fun σ hσ => ev_ix (ev_v hσ) ev_k h1 ix3.2.2
  have eC : ∀ (σ : L2.St) (R : Bool → Hp → Prop), σ[0]? = some (some (.ref a)) → R (decide (0 < st.g) && decide (st.c < 60)) H → c_pick K σ H R := fun σ R hσ r => by
    refine ev_gr (ex1 σ hσ) ev_k _ ⟨_, rfl, ?_⟩
    by_cases hg : 0 < st.g
    · refine ifT (decide_eq_true hg) ?_
      refine lt_ev (ex2 σ hσ) ev_k _ ⟨_, rfl, ?_⟩
      rw [decide_eq_true hg, Bool.true_and] at r
      exact r
    · refine ifF (decide_eq_false hg) ?_
      rw [decide_eq_false hg, Bool.false_and] at r
      exact r
  refine eC _ _ rfl ?_
  by_cases hb : 0 < st.g ∧ st.c < 60
  · refine ifT (by rw [decide_eq_true hb.1, decide_eq_true hb.2]; rfl) ?_
    refine ex1 _ rfl _ ?_
    show tSeq _ _ _ [some (.ref a), some (.int n), some (.int st.g)] H
    refine ev_dv (ev_v rfl) (ev_v rfl) ⟨hn, logn⟩ _ ?_
    refine ev_v rfl _ (ev_k _ ⟨a, _, 1, 1, rfl, rfl, h1, rfl, ?_⟩)
    show tSeq _ _ _ [some (.ref a), some (.int n), some (.int st.g)] (upd H a (.lst [.int st.s, .int (st.g / n), .int st.c]))
    refine ev_pl (ev_ix (K := K) (v := .int st.c) (ev_v rfl) ev_k upd_same ix3.2.2) ev_k _ ?_
    refine ev_v rfl _ (ev_k _ ⟨a, _, 2, 2, rfl, rfl, upd_same, rfl, ?_⟩)
    show tRet (tOp rMd (inE (tVar 2)) (tVar 1)) _ [some (.ref a), some (.int n), some (.int st.g)] (upd (upd H a (.lst [.int st.s, .int (st.g / n), .int st.c])) a (.lst [.int st.s, .int (st.g / n), .int (st.c + 1)]))
    refine ev_md (ev_in (ev_v rfl)) (ev_v rfl) hn _ (fin _ _ { st with g := st.g / n, c := st.c + 1 } (fun x hx => ?_) (.inr ⟨a, _, rfl, e2, upd_same⟩) ?_)
    · have nb : x ≠ a := fun z => hx (by rw [e2, z]; simp)
      rw [upd_ne nb, upd_ne nb]
    · unfold pickF; rw [if_pos hb]
  · refine ifF (by
      rw [Bool.and_eq_false_iff, decide_eq_false_iff_not, decide_eq_false_iff_not]
      by_cases hg : 0 < st.g
      · exact .inr fun z => hb ⟨hg, z⟩
      · exact .inl hg) ?_
    show t_pick2 K _ [some (.ref a), some (.int n), none] H
    refine ev_md (ev_in (ev_pl (ev_ml (ex0 _ rfl) ev_k (wide_mul (i := st.s) (j := 39373) (a := 60) (b := 20) (by
      have : (2 : Nat) ^ 60 = 1152921504606846976 := by decide
      omega) (by decide) (by decide) (by decide) (by decide))) ev_k)) ev_k (by decide) _ ?_
    refine ev_v rfl _ (ev_k _ ⟨a, _, 0, 0, rfl, rfl, h1, rfl, ?_⟩)
    generalize ez : (st.s * 39373 + 1787) % 2147483647 = z
    show tRet (tOp rMd (inE (tOp rDv (ixE K (tVar 0) (kI 0)) (kI 1019))) (tVar 1)) _ [some (.ref a), some (.int n), none] (upd H a (.lst [.int z, .int st.g, .int st.c]))
    refine ev_md (ev_in (ev_dv (ev_ix (K := K) (v := .int z) (ev_v rfl) ev_k upd_same ix3.1) ev_k ⟨by decide, by decide +kernel⟩)) (ev_v rfl) hn _ (fin _ _ { st with s := z } (fun x hx => ?_) (.inr ⟨a, _, rfl, e2, upd_same⟩) ?_)
    · have nb : x ≠ a := fun z => hx (by rw [e2, z]; simp)
      rw [upd_ne nb]
    · unfold pickF; rw [if_neg hb, ez]
theorem ok_u_law_pick (T : Tx K mg ad fdt C) : FnOk P w K mg base (L2.CX P w) 2 (ad "_law_pick") (fdt "_law_pick") ["_law_deal_here", "_law_many"] (spD (GG K C) 2 d_u_law_pick) := by
  have S := sc_u_law_pick
  refine T.f_u_law_pick.okX S (fun vs H Q E h => ?_) (fun cdv A outer s H vs Q E hr h => ⟨t_pick K, ?_, pure_pick vs H Q E h⟩)
  · obtain ⟨F, φ, ds, P, h, _⟩ := h
    exact h
  · exact pss_cons (ps_if (pw_and (pt_cmpR op_gt (h_ix (pv 0) pe_int) pe_int (nomark _)) (pw_and1 (pt_cmpR op_lt (h_ix (pv 0) pe_int) pe_int (nomark _)))).pt
        (pss_cons (ps_set (i := 2) S.nd rfl (Or.inl rfl) (h_ix (pv 0) pe_int))
        (pss_cons (h_set (pe_op op_fdivW (pv 2) (pv 1)) (pv 0) pe_int)
        (pss_cons (h_set (pe_op op_add (h_ix (pv 0) pe_int) pe_int) (pv 0) pe_int)
        (pss_one (ps_ret (pe_op op_mod (h_in (by exact rfl) (by exact T.b_int) (pv 2)) (pv 1))))))) pss_nil)
      (pss_cons (h_set (pe_op op_mod (h_in (by exact rfl) (by exact T.b_int) (pe_op op_add (pe_op op_mulW (h_ix (pv 0) pe_int) pe_int) pe_int)) pe_int) (pv 0) pe_int)
      (pss_one (ps_ret (pe_op op_mod (h_in (by exact rfl) (by exact T.b_int) (pe_op op_fdivW (h_ix (pv 0) pe_int) pe_int)) (pv 1)))))
end
end L26
namespace G26
/-! ### places of a board -/
def prod : List Nat → Nat
  | [] => 1
  | c :: cs => c * prod cs
theorem prod_append (A B : List Nat) : prod (A ++ B) = prod A * prod B := by
  induction A with
  | nil => simp [prod]
  | cons a A ih => simp [prod, ih, Nat.mul_assoc]
def Pos (cs : List Nat) : Prop := ∀ c, c ∈ cs → 0 < c
theorem prod_pos {cs : List Nat} (h : Pos cs) : 0 < prod cs := by
  induction cs with
  | nil => decide
  | cons c cs ih => exact Nat.mul_pos (h c List.mem_cons_self) (ih fun x hx => h x (List.mem_cons_of_mem _ hx))
/-- the many from p on -/
def B (cs : List Nat) (p : Nat) : Nat := prod (cs.drop p)
def cn (cs : List Nat) (p : Nat) : Nat := cs.getD p 1
theorem B_zero (cs : List Nat) : B cs 0 = prod cs := rfl
theorem B_end (cs : List Nat) : B cs cs.length = 1 := by unfold B; rw [List.drop_length]; rfl
theorem B_step {cs : List Nat} {p : Nat} (h : p < cs.length) : B cs p = cn cs p * B cs (p + 1) := by
  unfold B cn
  rw [List.drop_eq_getElem_cons h, List.getD_eq_getElem?_getD, List.getElem?_eq_getElem h]
  rfl
theorem B_pos {cs : List Nat} (h : Pos cs) (p : Nat) : 0 < B cs p := prod_pos fun c hc => h c (List.mem_of_mem_drop hc)
theorem cn_pos {cs : List Nat} (h : Pos cs) (p : Nat) : 0 < cn cs p := by
  unfold cn
  rw [List.getD_eq_getElem?_getD]
  cases e : cs[p]? with
  | none => decide
  | some c => exact h c (List.mem_of_getElem? e)
theorem prod_take {cs : List Nat} (p : Nat) : prod (cs.take p) * B cs p = prod cs := by
  unfold B
  rw [← prod_append, List.take_append_drop]
/-- the digits of a place's number -/
def dg (cs : List Nat) (k p : Nat) : Nat := k % B cs p / B cs (p + 1)
def pla (cs : List Nat) (k : Nat) : List Nat := (List.range cs.length).map (dg cs k)
theorem pla_len (cs : List Nat) (k : Nat) : (pla cs k).length = cs.length := by unfold pla; simp
theorem dg_lt {cs : List Nat} (hp : Pos cs) {p : Nat} (k : Nat) (h : p < cs.length) : dg cs k p < cn cs p := by
  unfold dg
  have := Nat.mod_lt k (B_pos hp p)
  exact Nat.div_lt_of_lt_mul (by rw [Nat.mul_comm, ← B_step h]; exact this)
/-- the number of a place, by its first digits -/
def hor (c x : Nat → Nat) : Nat → Nat
  | 0 => 0
  | n + 1 => hor c x n * c n + x n
theorem hor_ext {c x y : Nat → Nat} : ∀ {n : Nat}, (∀ p, p < n → x p = y p) → hor c x n = hor c y n
  | 0, _ => rfl
  | n + 1, h => by
    show hor c x n * c n + x n = hor c y n * c n + y n
    rw [hor_ext (n := n) fun p hp => h p (by omega), h n (by omega)]
theorem B_dvd {cs : List Nat} : ∀ {p q : Nat}, p ≤ q → q ≤ cs.length → B cs q ∣ B cs p := by
  intro p q h hq
  obtain ⟨d, rfl⟩ : ∃ d, q = p + d := ⟨q - p, by omega⟩
  induction d with
  | zero => exact Nat.dvd_refl _
  | succ d ih =>
    refine Nat.dvd_trans ?_ (ih (by omega) (by omega))
    rw [B_step (show p + d < cs.length by omega)]
    exact Nat.dvd_mul_left _ _
theorem hor_dg {cs : List Nat} (hp : Pos cs) {k : Nat} (hk : k < prod cs) : ∀ m, m ≤ cs.length → hor (cn cs) (dg cs k) m = k / B cs m
  | 0, _ => by
    show 0 = k / prod cs
    rw [Nat.div_eq_of_lt hk]
  | m + 1, h => by
    show hor (cn cs) (dg cs k) m * cn cs m + dg cs k m = _
    rw [hor_dg hp hk m (by omega)]
    unfold dg
    have e := B_step (show m < cs.length by omega)
    rw [e]
    generalize cn cs m = c
    generalize B cs (m + 1) = b
    have q1 : k / (c * b) = k / b / c := by rw [Nat.mul_comm, Nat.div_div_eq_div_mul]
    have q2 : k % (c * b) / b = k / b % c := by rw [Nat.mul_comm, Nat.mod_mul_right_div_self]
    rw [q1, q2, Nat.mul_comm, Nat.div_add_mod]
theorem idx_pla {cs : List Nat} (hp : Pos cs) {k : Nat} (hk : k < prod cs) : hor (cn cs) (dg cs k) cs.length = k := by
  rw [hor_dg hp hk _ (Nat.le_refl _), B_end, Nat.div_one]
/-- p's digit put to 0 -/
def fst (cs : List Nat) (p k : Nat) : Nat := k / B cs p * B cs p + k % B cs (p + 1)
/-- the place without p -/
def chc (cs : List Nat) (p k : Nat) : Nat := k / B cs p * B cs (p + 1) + k % B cs (p + 1)
theorem mod_mod_B {cs : List Nat} {p q : Nat} (k : Nat) (h : p ≤ q) (hq : q ≤ cs.length) : k % B cs p % B cs q = k % B cs q := Nat.mod_mod_of_dvd _ (B_dvd h hq)
theorem fst_le {cs : List Nat} {p : Nat} (h : p < cs.length) (k : Nat) : fst cs p k ≤ k := by
  unfold fst
  have e := Nat.div_add_mod k (B cs p)
  rw [Nat.mul_comm] at e
  have : k % B cs (p + 1) ≤ k % B cs p := by
    rw [← mod_mod_B k (Nat.le_succ p) (by omega)]
    exact Nat.mod_le _ _
  omega
theorem B_le {cs : List Nat} (hp : Pos cs) {p : Nat} (h : p < cs.length) : B cs (p + 1) ≤ B cs p := by
  rw [B_step h]
  exact Nat.le_mul_of_pos_left _ (cn_pos hp p)
theorem chc_le {cs : List Nat} (hp : Pos cs) {p : Nat} (h : p < cs.length) (k : Nat) : chc cs p k ≤ k := by
  have f := fst_le h k
  unfold fst at f
  unfold chc
  have := Nat.mul_le_mul_left (k / B cs p) (B_le hp h)
  omega
theorem fst_facts {cs : List Nat} (hp : Pos cs) {p : Nat} (h : p < cs.length) (k : Nat) : fst cs p k / B cs p = k / B cs p ∧ fst cs p k % B cs p = k % B cs (p + 1) := by
  have b := B_pos hp p
  have l : k % B cs (p + 1) < B cs p := Nat.lt_of_lt_of_le (Nat.mod_lt _ (B_pos hp (p + 1))) (B_le hp h)
  unfold fst
  rw [Nat.mul_comm (k / B cs p)]
  exact ⟨by rw [Nat.mul_add_div b, Nat.div_eq_of_lt l, Nat.add_zero], by rw [Nat.mul_add_mod, Nat.mod_eq_of_lt l]⟩
theorem chc_facts {cs : List Nat} (hp : Pos cs) (p k : Nat) : chc cs p k / B cs (p + 1) = k / B cs p ∧ chc cs p k % B cs (p + 1) = k % B cs (p + 1) := by
  have b := B_pos hp (p + 1)
  have l := Nat.mod_lt k b
  unfold chc
  rw [Nat.mul_comm (k / B cs p)]
  exact ⟨by rw [Nat.mul_add_div b, Nat.div_eq_of_lt l, Nat.add_zero], by rw [Nat.mul_add_mod, Nat.mod_mod]⟩
/-- the digits before p stay -/
theorem dg_fst {cs : List Nat} (hp : Pos cs) {p q : Nat} (h : p < cs.length) (k : Nat) (hq : q < p) : dg cs (fst cs p k) q = dg cs k q := by
  unfold dg
  obtain ⟨f1, f2⟩ := fst_facts hp h k
  -- both sides from k / B p
  have key : ∀ z : Nat, z % B cs q / B cs (q + 1) = z / B cs p % (B cs q / B cs p) / (B cs (q + 1) / B cs p) := fun z => by
    obtain ⟨u, hu⟩ := B_dvd (cs := cs) (p := q + 1) (q := p) (by omega) (by omega)
    have e := B_step (show q < cs.length by omega)
    have b := B_pos hp p
    rw [e, hu]
    have e1 : cn cs q * (B cs p * u) / B cs p = cn cs q * u := by rw [Nat.mul_left_comm, Nat.mul_div_cancel_left _ b]
    rw [e1, Nat.mul_div_cancel_left _ b]
    have e2 : cn cs q * (B cs p * u) = B cs p * (cn cs q * u) := Nat.mul_left_comm _ _ _
    rw [e2, ← Nat.div_div_eq_div_mul, Nat.mod_mul_right_div_self]
  rw [key, key, f1]
/-! ### the terms of a mixed difference -/
def SL (c h t : Nat → Nat) : Nat → List (Nat × Int)
  | 0 => [(0, 1)]
  | n + 1 => (SL c h t n).map (fun z => (z.1 * c n + h n, -z.2)) ++ (SL c h t n).map (fun z => (z.1 * c n + t n, z.2))
def bit (l p : Nat) : Bool := l / 2 ^ p % 2 == 1
def sgN (l : Nat) : Nat → Int
  | 0 => 1
  | n + 1 => if bit l n then sgN l n else -sgN l n
def sel (h t : Nat → Nat) (l p : Nat) : Nat := if bit l p then t p else h p
theorem bit_lo {n l p : Nat} (hp : p < n) : bit (l + 2 ^ n) p = bit l p := by
  unfold bit
  obtain ⟨d, rfl⟩ : ∃ d, n = p + (d + 1) := ⟨n - p - 1, by omega⟩
  have e : l + 2 ^ (p + (d + 1)) = 2 ^ p * (2 * 2 ^ d) + l := by
    rw [Nat.pow_add, Nat.pow_succ, Nat.mul_comm (2 ^ d) 2]; omega
  rw [e, Nat.mul_add_div (Nat.pow_pos (by decide)), Nat.add_comm, Nat.add_mul_mod_self_left]
theorem bit_hi {n l : Nat} (h : l < 2 ^ n) : bit l n = false ∧ bit (l + 2 ^ n) n = true := by
  unfold bit
  rw [Nat.div_eq_of_lt h, Nat.add_div_right _ (Nat.pow_pos (by decide)), Nat.div_eq_of_lt h]
  exact ⟨rfl, rfl⟩
theorem sgN_lo : ∀ {m n l : Nat}, m ≤ n → sgN (l + 2 ^ n) m = sgN l m
  | 0, _, _, _ => rfl
  | m + 1, n, l, h => by
    show (if bit (l + 2 ^ n) m then sgN (l + 2 ^ n) m else -sgN (l + 2 ^ n) m) = _
    rw [bit_lo (by omega), sgN_lo (by omega)]
    rfl
theorem SL_lots (c h t : Nat → Nat) : ∀ n, SL c h t n = (List.range (2 ^ n)).map fun l => (hor c (sel h t l) n, sgN l n)
  | 0 => rfl
  | n + 1 => by
    show _ ++ _ = _
    rw [SL_lots c h t n, Nat.pow_succ, Nat.mul_two, List.range_add, List.map_append, List.map_map, List.map_map, List.map_map]
    congr 1
    · refine List.map_congr_left fun l hl => ?_
      have b := (bit_hi (List.mem_range.mp hl)).1
      show (hor c (sel h t l) n * c n + h n, -sgN l n) = (hor c (sel h t l) n * c n + sel h t l n, if bit l n then sgN l n else -sgN l n)
      rw [b]
      unfold sel
      rw [b]
      rfl
    · refine List.map_congr_left fun l hl => ?_
      have b := (bit_hi (List.mem_range.mp hl)).2
      show (hor c (sel h t l) n * c n + t n, sgN l n) = (hor c (sel h t (2 ^ n + l)) n * c n + sel h t (2 ^ n + l) n, if bit (2 ^ n + l) n then sgN (2 ^ n + l) n else -sgN (2 ^ n + l) n)
      rw [Nat.add_comm (2 ^ n) l, b, sgN_lo (Nat.le_refl n), hor_ext (x := sel h t (l + 2 ^ n)) (y := sel h t l) fun p hp => by unfold sel; rw [bit_lo hp]]
      unfold sel
      rw [b]
      rfl
/-- the mixed difference -/
def mxv (ws : Nat → Int) (c h t : Nat → Nat) (n : Nat) : Int := ((SL c h t n).map fun z => z.2 * ws z.1).sum
theorem SL_ext {c h t t' : Nat → Nat} : ∀ {n : Nat}, (∀ p, p < n → t p = t' p) → SL c h t n = SL c h t' n
  | 0, _ => rfl
  | n + 1, e => by
    show _ ++ _ = _ ++ _
    rw [SL_ext (n := n) fun p hp => e p (by omega), e n (by omega)]
/-! ### what is left, person by person -/
def L (cs : List Nat) (ws : Nat → Int) : Nat → Nat → Int
  | 0, k => ws k
  | p + 1, k => L cs ws p k - L cs ws p (fst cs p k)
theorem sum_sub (l : List (Nat × Int)) (f g : Nat → Int) : (l.map fun z => z.2 * f z.1).sum - (l.map fun z => z.2 * g z.1).sum = (l.map fun z => -z.2 * g z.1).sum + (l.map fun z => z.2 * f z.1).sum := by
  induction l with
  | nil => rfl
  | cons z l ih =>
    simp only [List.map_cons, List.sum_cons]
    have : -z.2 * g z.1 = -(z.2 * g z.1) := Int.neg_mul _ _
    omega
theorem L_SL {cs : List Nat} (hp : Pos cs) (ws : Nat → Int) : ∀ (p : Nat) (k : Nat), p ≤ cs.length → k < prod cs → L cs ws p k = ((SL (cn cs) (fun _ => 0) (dg cs k) p).map fun z => z.2 * ws (z.1 * B cs p + k % B cs p)).sum
  | 0, k, _, hk => by
    show ws k = (1 * ws (0 * B cs 0 + k % prod cs)) + 0
    rw [Nat.mod_eq_of_lt hk]
    simp
  | p + 1, k, hl, hk => by
    have h : p < cs.length := by omega
    have hf := fst_le h k
    show L cs ws p k - L cs ws p (fst cs p k) = _
    rw [L_SL hp ws p k (by omega) hk, L_SL hp ws p (fst cs p k) (by omega) (by omega), SL_ext (t := dg cs (fst cs p k)) (t' := dg cs k) (n := p) fun q hq => dg_fst hp h k hq, (fst_facts hp h k).2]
    show _ = ((_ ++ _ : List (Nat × Int)).map _).sum
    rw [List.map_append, List.sum_append_int, List.map_map, List.map_map]
    rw [sum_sub (SL (cn cs) (fun _ => 0) (dg cs k) p) (fun b => ws (b * B cs p + k % B cs p)) (fun b => ws (b * B cs p + k % B cs (p + 1)))]
    congr 1
    · refine congrArg List.sum (List.map_congr_left fun z _ => ?_)
      show -z.2 * ws (z.1 * B cs p + k % B cs (p + 1)) = -z.2 * ws ((z.1 * cn cs p + 0) * B cs (p + 1) + k % B cs (p + 1))
      rw [B_step h, Nat.add_zero (z.1 * cn cs p), Nat.mul_assoc]
    · refine congrArg List.sum (List.map_congr_left fun z _ => ?_)
      show z.2 * ws (z.1 * B cs p + k % B cs p) = z.2 * ws ((z.1 * cn cs p + dg cs k p) * B cs (p + 1) + k % B cs (p + 1))
      have e : k % B cs p = dg cs k p * B cs (p + 1) + k % B cs (p + 1) := by
        unfold dg
        have := Nat.div_add_mod (k % B cs p) (B cs (p + 1))
        rw [mod_mod_B k (Nat.le_succ p) (by omega), Nat.mul_comm] at this
        exact this.symm
      rw [Nat.add_mul, Nat.mul_assoc, ← B_step h, Nat.add_assoc, ← e]
theorem L_end {cs : List Nat} (hp : Pos cs) (ws : Nat → Int) {k : Nat} (hk : k < prod cs) : L cs ws cs.length k = mxv ws (cn cs) (fun _ => 0) (dg cs k) cs.length := by
  rw [L_SL hp ws _ k (Nat.le_refl _) hk, B_end]
  unfold mxv
  refine congrArg List.sum (List.map_congr_left fun z _ => ?_)
  rw [Nat.mul_one, Nat.mod_one, Nat.add_zero]
/-- .. and the parts add up -/
theorem parts_sum {cs : List Nat} (ws : Nat → Int) (k : Nat) : ∀ n, ((List.range n).map fun p => L cs ws p (fst cs p k)).sum = ws k - L cs ws n k
  | 0 => by show (0 : Int) = ws k - ws k; omega
  | n + 1 => by
    rw [List.range_succ, List.map_append, List.sum_append_int, parts_sum ws k n]
    show _ + (L cs ws n (fst cs n k) + 0) = ws k - (L cs ws n k - L cs ws n (fst cs n k))
    omega
end G26
namespace G26
/-! ### places, one by one -/
theorem dg_key {cs : List Nat} (hp : Pos cs) {p q : Nat} (h : p ≤ cs.length) (hq : q < p) (z : Nat) : dg cs z q = z / B cs p % (B cs q / B cs p) / (B cs (q + 1) / B cs p) := by
  unfold dg
  obtain ⟨u, hu⟩ := B_dvd (cs := cs) (p := q + 1) (q := p) (by omega) (by omega)
  have e := B_step (show q < cs.length by omega)
  have b := B_pos hp p
  rw [e, hu]
  have e1 : cn cs q * (B cs p * u) / B cs p = cn cs q * u := by rw [Nat.mul_left_comm, Nat.mul_div_cancel_left _ b]
  rw [e1, Nat.mul_div_cancel_left _ b]
  have e2 : cn cs q * (B cs p * u) = B cs p * (cn cs q * u) := Nat.mul_left_comm _ _ _
  rw [e2, ← Nat.div_div_eq_div_mul, Nat.mod_mul_right_div_self]
theorem range_mul (P c : Nat) : List.range (P * c) = (List.range P).flatMap fun j => (List.range c).map fun d => j * c + d := by
  induction P with
  | zero => simp
  | succ P ih =>
    rw [Nat.add_mul, Nat.one_mul, List.range_add, ih, List.range_succ, List.flatMap_append]
    simp
/-- the first m rows of place j -/
def plm (cs : List Nat) (m j : Nat) : List Nat := (List.range m).map (dg cs (j * B cs m))
theorem plm_end (cs : List Nat) (j : Nat) : plm cs cs.length j = pla cs j := by unfold plm pla; rw [B_end, Nat.mul_one]
theorem plm_step {cs : List Nat} (hp : Pos cs) {m : Nat} (h : m < cs.length) (j : Nat) {d : Nat} (hd : d < cn cs m) : plm cs (m + 1) (j * cn cs m + d) = plm cs m j ++ [d] := by
  have b := B_pos hp m
  have b1 := B_pos hp (m + 1)
  have e := B_step h
  have z : (j * cn cs m + d) * B cs (m + 1) = B cs m * j + d * B cs (m + 1) := by
    rw [Nat.add_mul, Nat.mul_assoc, ← e, Nat.mul_comm j]
  have lt : d * B cs (m + 1) < B cs m := by
    rw [e]
    exact Nat.mul_lt_mul_of_pos_right hd b1
  unfold plm
  rw [List.range_succ, List.map_append, z]
  congr 1
  · refine List.map_congr_left fun q hq => ?_
    rw [dg_key hp (Nat.le_of_lt h) (List.mem_range.mp hq), dg_key hp (Nat.le_of_lt h) (List.mem_range.mp hq), Nat.mul_add_div b, Nat.div_eq_of_lt lt, Nat.add_zero, Nat.mul_div_cancel _ b]
  · show [dg cs (B cs m * j + d * B cs (m + 1)) m] = [d]
    unfold dg
    rw [Nat.mul_add_mod, Nat.mod_eq_of_lt lt, Nat.mul_div_cancel _ b1]
/-- how many the first m make -/
def Pm (cs : List Nat) (m : Nat) : Nat := prod (cs.take m)
theorem Pm_step {cs : List Nat} {m : Nat} (h : m < cs.length) : Pm cs (m + 1) = Pm cs m * cn cs m := by
  unfold Pm cn
  rw [List.take_succ, prod_append, List.getD_eq_getElem?_getD, List.getElem?_eq_getElem h]
  simp [prod]
theorem Pm_end (cs : List Nat) : Pm cs cs.length = prod cs := by unfold Pm; rw [List.take_length]
def PLm (cs : List Nat) (m : Nat) : List (List Nat) := (List.range (Pm cs m)).map (plm cs m)
theorem PLm_zero (cs : List Nat) : PLm cs 0 = [[]] := rfl
theorem PLm_step {cs : List Nat} (hp : Pos cs) {m : Nat} (h : m < cs.length) : PLm cs (m + 1) = (PLm cs m).flatMap fun p => (List.range (cn cs m)).map fun d => p ++ [d] := by
  unfold PLm
  rw [Pm_step h, range_mul, List.map_flatMap, List.flatMap_map]
  refine congrArg (fun f => List.flatMap f (List.range (Pm cs m))) (funext fun j => ?_)
  rw [List.map_map]
  exact List.map_congr_left fun d hd => plm_step hp h j (List.mem_range.mp hd)
theorem PLm_end (cs : List Nat) : PLm cs cs.length = (List.range (prod cs)).map (pla cs) := by
  unfold PLm
  rw [Pm_end]
  exact List.map_congr_left fun j _ => plm_end cs j
/-! ### without one person -/
def horS (c x : Nat → Nat) (p : Nat) : Nat → Nat
  | 0 => 0
  | n + 1 => if n = p then horS c x p n else horS c x p n * c n + x n
theorem horS_dg {cs : List Nat} (hp : Pos cs) {k p : Nat} (hk : k < prod cs) (h : p < cs.length) : ∀ m, m ≤ cs.length → horS (cn cs) (dg cs k) p m = if m ≤ p then k / B cs m else k / B cs p * (B cs (p + 1) / B cs m) + k % B cs (p + 1) / B cs m
  | 0, _ => by
    rw [if_pos (Nat.zero_le _)]
    show 0 = k / prod cs
    rw [Nat.div_eq_of_lt hk]
  | m + 1, hm => by
    have ih := horS_dg hp hk h m (by omega)
    show (if m = p then horS (cn cs) (dg cs k) p m else horS (cn cs) (dg cs k) p m * cn cs m + dg cs k m) = _
    rw [ih]
    have e := B_step (show m < cs.length by omega)
    have hb := B_pos hp (m + 1)
    by_cases hmp : m = p
    · subst hmp
      rw [if_pos rfl, if_pos (Nat.le_refl _), if_neg (by omega), Nat.div_self hb, Nat.mul_one, Nat.div_eq_of_lt (Nat.mod_lt _ hb), Nat.add_zero]
    · rw [if_neg hmp]
      by_cases hl : m ≤ p
      · rw [if_pos hl, if_pos (by omega)]
        unfold dg
        rw [e]
        generalize cn cs m = c
        generalize B cs (m + 1) = b
        have q1 : k / (c * b) = k / b / c := by rw [Nat.mul_comm, Nat.div_div_eq_div_mul]
        have q2 : k % (c * b) / b = k / b % c := by rw [Nat.mul_comm, Nat.mod_mul_right_div_self]
        rw [q1, q2, Nat.mul_comm, Nat.div_add_mod]
      · rw [if_neg hl, if_neg (by omega)]
        obtain ⟨u, hu⟩ := B_dvd (cs := cs) (p := p + 1) (q := m) (by omega) (by omega)
        have bm := B_pos hp m
        unfold dg
        rw [← mod_mod_B k (show p + 1 ≤ m by omega) (by omega)]
        generalize k % B cs (p + 1) = r
        rw [hu, Nat.mul_div_cancel_left _ bm, e]
        generalize k / B cs p = q
        generalize cn cs m = c
        generalize B cs (m + 1) = b at hb
        have q0 : c * b * u / b = u * c := by
          rw [Nat.mul_comm c b, Nat.mul_assoc, Nat.mul_div_cancel_left _ hb, Nat.mul_comm]
        have q1 : r / (c * b) = r / b / c := by rw [Nat.mul_comm, Nat.div_div_eq_div_mul]
        have q2 : r % (c * b) / b = r / b % c := by rw [Nat.mul_comm, Nat.mod_mul_right_div_self]
        rw [q0, q1, q2, Nat.add_mul, Nat.mul_assoc, Nat.add_assoc, Nat.mul_comm (r / b / c), Nat.div_add_mod]
theorem horS_chc {cs : List Nat} (hp : Pos cs) {k p : Nat} (hk : k < prod cs) (h : p < cs.length) : horS (cn cs) (dg cs k) p cs.length = chc cs p k := by
  rw [horS_dg hp hk h _ (Nat.le_refl _), if_neg (by omega), B_end, Nat.div_one, Nat.div_one]
  rfl
/-! ### the parts -/
/-- the many without p -/
def Np (cs : List Nat) (p : Nat) : Nat := Pm cs p * B cs (p + 1)
theorem chc_lt {cs : List Nat} (hp : Pos cs) {k p : Nat} (hk : k < prod cs) (h : p < cs.length) : chc cs p k < Np cs p := by
  unfold chc Np
  have b := B_pos hp (p + 1)
  have l := Nat.mod_lt k b
  have q : k / B cs p < Pm cs p := Nat.div_lt_of_lt_mul (by rw [Nat.mul_comm]; unfold Pm; rw [prod_take]; exact hk)
  calc k / B cs p * B cs (p + 1) + k % B cs (p + 1) < k / B cs p * B cs (p + 1) + B cs (p + 1) := by omega
    _ = (k / B cs p + 1) * B cs (p + 1) := by rw [Nat.add_mul, Nat.one_mul]
    _ ≤ Pm cs p * B cs (p + 1) := Nat.mul_le_mul_right _ q
theorem Np_others {cs : List Nat} (p : Nat) : prod (cs.take p ++ cs.drop (p + 1)) = Np cs p := prod_append _ _
/-- where the j-th of a part stands -/
def un (cs : List Nat) (p j : Nat) : Nat := j / B cs (p + 1) * B cs p + j % B cs (p + 1)
theorem un_chc {cs : List Nat} (hp : Pos cs) (p k : Nat) : un cs p (chc cs p k) = fst cs p k := by
  unfold un
  rw [(chc_facts hp p k).1, (chc_facts hp p k).2]
  rfl
theorem firsts_list {cs : List Nat} (hp : Pos cs) {p : Nat} (h : p < cs.length) : (List.range (prod cs)).filter (fun k => decide (k = fst cs p k)) = (List.range (Np cs p)).map (un cs p) := by
  have b := B_pos hp p
  have b1 := B_pos hp (p + 1)
  have le := B_le hp h
  rw [← prod_take p, show prod (cs.take p) = Pm cs p from rfl, range_mul, List.filter_flatMap]
  unfold Np
  rw [range_mul, List.map_flatMap]
  refine congrArg (fun f => List.flatMap f (List.range (Pm cs p))) (funext fun j => ?_)
  rw [List.filter_map, List.map_map]
  have e1 : (List.range (B cs p)).filter ((fun k => decide (k = fst cs p k)) ∘ fun d => j * B cs p + d) = List.range (B cs (p + 1)) := by
    obtain ⟨u, hu⟩ : ∃ u, B cs p = B cs (p + 1) + u := ⟨B cs p - B cs (p + 1), by omega⟩
    have pr : ∀ d, d < B cs p → (decide (j * B cs p + d = fst cs p (j * B cs p + d)) = decide (d < B cs (p + 1))) := fun d hd => by
      have f : fst cs p (j * B cs p + d) = j * B cs p + d % B cs (p + 1) := by
        unfold fst
        obtain ⟨v, hv⟩ := B_dvd (cs := cs) (p := p) (q := p + 1) (by omega) (by omega)
        have m : (j * B cs p + d) % B cs (p + 1) = d % B cs (p + 1) := by
          rw [hv, show j * (B cs (p + 1) * v) = B cs (p + 1) * (j * v) by rw [Nat.mul_left_comm], Nat.mul_add_mod]
        rw [m, Nat.mul_comm j, Nat.mul_add_div b, Nat.div_eq_of_lt hd, Nat.add_zero, Nat.mul_comm]
      rw [f, decide_eq_decide]
      constructor
      · intro e
        have : d = d % B cs (p + 1) := by omega
        rw [this]
        exact Nat.mod_lt _ b1
      · intro e
        rw [Nat.mod_eq_of_lt e]
    have step : (List.range (B cs p)).filter ((fun k => decide (k = fst cs p k)) ∘ fun d => j * B cs p + d) = (List.range (B cs p)).filter fun d => decide (d < B cs (p + 1)) := List.filter_congr fun d hd => pr d (List.mem_range.mp hd)
    rw [step, hu, List.range_add, List.filter_append]
    have x1 : (List.range (B cs (p + 1))).filter (fun d => decide (d < B cs (p + 1))) = List.range (B cs (p + 1)) := List.filter_eq_self.mpr fun d hd => decide_eq_true (List.mem_range.mp hd)
    have x2 : ((List.range u).map fun x => B cs (p + 1) + x).filter (fun d => decide (d < B cs (p + 1))) = [] := List.filter_eq_nil_iff.mpr fun d hd => by
      obtain ⟨x, _, rfl⟩ := List.mem_map.mp hd
      simp
    rw [x1, x2, List.append_nil]
  rw [e1]
  refine List.map_congr_left fun d hd => ?_
  have hd := List.mem_range.mp hd
  show j * B cs p + d = un cs p (j * B cs (p + 1) + d)
  unfold un
  rw [Nat.mul_comm j (B cs (p + 1)), Nat.mul_add_div b1, Nat.div_eq_of_lt hd, Nat.add_zero, Nat.mul_add_mod, Nat.mod_eq_of_lt hd]
end G26
namespace L26
open PySem PySem.Spec L2 DN G26
open PyProof.Rows hiding St
/-! ### the bodies of the loops, by name -/
abbrev b_u_law_deal_1 : M Ph Fl := (mSeq (mIfS (mAndT (mTst (mBin dEq (mVar 2) (mV (.int 0)))) (mTst (mBin dGe (mVar 3) (mBin dPow (mV (.int 10)) (mV (.int 18))))))
    (mAsg 2 (mVar 3))
    (mP .nx))
    (mSeq (mAsg 1 (mBin dMod (mB (mCons (mBin dAdd (mBin dAdd (mBin dMul (mVar 1) (mV (.int 52631))) (mBin dMod (mB (mCons (mVar 3) mNil) dInt) (mV (.int 1999841)))) (mV (.int 7))) mNil) dInt) (mV (.int 2147483543))))
    (mAsg 1 (mBin dMod (mB (mCons (mBin dAdd (mBin dMul (mVar 1) (mVar 1)) (mV (.int 101))) mNil) dInt) (mV (.int 2147483497))))))
abbrev b_u_law_counts_1 : M Ph Fl := (mSeq (mAsg 5 (mBin dIx (mB (mCons (mV (.int 2)) (mCons (mV (.int 3)) (mCons (mV (.int 2)) (mCons (mV (.int 4)) (mCons (mV (.int 2)) (mCons (mV (.int 3)) (mCons (mV (.int 2)) (mCons (mV (.int 1)) mNil)))))))) dTup) (mCall d_u_law_pick (mCons (mVar 0) (mCons (mV (.int 8)) mNil)))))
    (mSeq (mIfS (mTst (mBin dGt (mBin dMul (mVar 3) (mVar 5)) (mV (.int 40))))
    (mAsg 5 (mIf (mTst (mBin dLt (mVar 3) (mV (.int 21)))) (mV (.int 2)) (mV (.int 1))))
    (mP .nx))
    (mSeq (mDrop (mApp 2 (mVar 5)))
    (mAsg 3 (mBin dMul (mVar 3) (mVar 5))))))
abbrev b_u_law_places_1 : M Ph Fl := (mSeq (mAsg 3 (mB mNil dLst))
    (mSeq (mB (mIt (mVar 1)) (mFor (.nm 4)
    (mAsg 3 (mBin dAdd (mVar 3) (mLc (.nm 5) [5] (mRng (mCons (mVar 2) mNil)) mYes (mBin dAdd (mVar 4) (mB (mCons (mVar 5) mNil) dTup)))))))
    (mAsg 1 (mVar 3))))
abbrev b_u_law_places_2 : M Ph Fl := (mAsg 3 (mBin dAdd (mVar 3) (mLc (.nm 5) [5] (mRng (mCons (mVar 2) mNil)) mYes (mBin dAdd (mVar 4) (mB (mCons (mVar 5) mNil) dTup)))))
abbrev b_u_law_choice_1 : M Ph Fl := (mIfS (mTst (mBin dNe (mVar 4) (mVar 1)))
    (mAsg 3 (mBin dAdd (mBin dMul (mVar 3) (mIxV 0 (mVar 4))) (mIxV 2 (mVar 4))))
    (mP .nx))
abbrev b_u_law_board_1 : M Ph Fl := (mSeq (mAsg 6 (mLc (.nm 4) [4] (mIt (mVar 2)) mYes (mBin dSub (mCall d_u_law_pick (mCons (mVar 0) (mCons (mV (.int 9)) mNil))) (mV (.int 4)))))
    (mB (mRng (mCons (mLenV 2) mNil)) (mFor (.nm 7)
    (mSetIx 3 (mVar 7) (mBin dAdd (mIxV 3 (mVar 7)) (mIxV 6 (mCall d_u_law_choice (mCons (mVar 1) (mCons (mVar 5) (mCons (mIxV 2 (mVar 7)) mNil))))))))))
abbrev b_u_law_board_2 : M Ph Fl := (mSetIx 3 (mVar 7) (mBin dAdd (mIxV 3 (mVar 7)) (mIxV 6 (mCall d_u_law_choice (mCons (mVar 1) (mCons (mVar 5) (mCons (mIxV 2 (mVar 7)) mNil)))))))
abbrev b_u_law_board_3 : M Ph Fl := (mIfS (mTst (mBin dEq (mB (mCons (mLc (.nm 13) [13] (mRng (mCons (mLenV 1) mNil)) (mAndT (mTst (mBin dNe (mBin dIx (mIxV 2 (mVar 7)) (mVar 13)) (mV (.int 0)))) (mTst (mBin dNe (mBin dIx (mIxV 2 (mVar 7)) (mVar 13)) (mIxV 10 (mVar 13))))) (mVar 13)) mNil) dLen) (mV (.int 0))))
    (mSetIx 3 (mVar 7) (mBin dAdd (mIxV 3 (mVar 7)) (mBin dMul (mVar 12) (mBin dSub (mV (.int 1)) (mBin dMul (mV (.int 2)) (mB (mCons (mBin dAnd (mB (mCons (mIxV 2 (mVar 7)) mNil) dSum) (mV (.int 1))) mNil) dInt))))))
    (mP .nx))
abbrev b_u_law_at_1 : M Ph Fl := (mAsg 2 (mBin dAdd (mBin dMul (mVar 2) (mIxV 0 (mVar 3))) (mIxV 1 (mVar 3))))
abbrev b_u_law_mixed_1 : M Ph Fl := (mSeq (mAsg 6 (mB mNil dLst))
    (mSeq (mAsg 7 (mV (.int 1)))
    (mSeq (mB (mRng (mCons (mVar 3) mNil)) (mFor (.nm 8)
    (mSeq (mAsg 9 (mBin dGt (mBin dAnd (mVar 5) (mBin dShl (mV (.int 1)) (mVar 8))) (mV (.int 0))))
    (mSeq (mDrop (mApp 6 (mIf (mTst (mVar 9)) (mIxV 2 (mVar 8)) (mIxV 1 (mVar 8)))))
    (mAsg 7 (mIf (mTst (mVar 9)) (mVar 7) (mUn dNeg (mVar 7))))))))
    (mAsg 4 (mBin dAdd (mVar 4) (mBin dMul (mVar 7) (mBin dIx (mIxV 0 (mV (.int 1))) (mCall d_u_law_at (mCons (mIxV 0 (mV (.int 0))) (mCons (mVar 6) mNil))))))))))
abbrev b_u_law_mixed_2 : M Ph Fl := (mSeq (mAsg 9 (mBin dGt (mBin dAnd (mVar 5) (mBin dShl (mV (.int 1)) (mVar 8))) (mV (.int 0))))
    (mSeq (mDrop (mApp 6 (mIf (mTst (mVar 9)) (mIxV 2 (mVar 8)) (mIxV 1 (mVar 8)))))
    (mAsg 7 (mIf (mTst (mVar 9)) (mVar 7) (mUn dNeg (mVar 7))))))
abbrev b_u_law_uneven_1 : M Ph Fl := (mIfS (mTst (mBin dNe (mCall d_u_law_mixed (mCons (mVar 0) (mCons (mVar 1) (mCons (mVar 3) mNil)))) (mV (.int 0))))
    (mRet (mVar 3))
    (mP .nx))
abbrev b_board_size_1 : M Ph Fl := (mAsg 1 (mBin dMul (mVar 1) (mVar 2)))
abbrev b_flattened_1 : M Ph Fl := (mSeq (mAsg 5 (mCall d_firsts_by_place (mCons (mVar 0) (mCons (mVar 4) mNil))))
    (mSeq (mDrop (mApp 3 (mLc (.tp [(.nm 6), (.nm 7)]) [6, 7] (mEnum (mCons (mVar 5) mNil)) (mTst (mBin dEq (mVar 6) (mVar 7))) (mIxV 2 (mVar 6)))))
    (mAsg 2 (mLc (.tp [(.nm 8), (.nm 7)]) [8, 7] (mZip (mCons (mVar 2) (mCons (mVar 5) mNil))) mYes (mBin dSub (mVar 8) (mIxV 2 (mVar 7)))))))
abbrev b_row_tuples_1 : M Ph Fl := (mAsg 1 (mLc2 (.nm 3) [3, 4] (mIt (mVar 1)) mYes (.nm 4) [4] (mRng (mCons (mVar 2) mNil)) mYes (mBin dAdd (mVar 3) (mB (mCons (mVar 4) mNil) dTup))))
abbrev b_uneven_place_1 : M Ph Fl := (mIfS (mTst (mBin dNe (mVar 5) (mV (.int 0))))
    (mRet (mVar 4))
    (mP .nx))
abbrev b_u_law_same_1 (rec : Fn Ph) : M Ph Fl := (mIfS (mNotT (mTst (mCall rec (mCons (mIxV 0 (mVar 2)) (mCons (mIxV 1 (mVar 2)) mNil)))))
    (mRet (mV (.bl false)))
    (mP .nx))
abbrev b_are_rows_1 : M Ph Fl := (mIfS (mOrT (mNotT (mTst (mCall d_is_integer (mCons (mVar 3) mNil)))) (mOrT (mTst (mBin dLt (mVar 3) (mV (.int 0)))) (mTst (mBin dGe (mVar 3) (mVar 2)))))
    (mRet (mV (.bl false)))
    (mP .nx))
abbrev b_mixed_at_1 : M Ph Fl := (mSeq (mAsg 9 (mLc (.tp [(.nm 10), (.nm 11)]) [10, 11] (mIt (mVar 5)) mYes (mB (mCons (mBin dAdd (mBin dMul (mVar 10) (mVar 6)) (mVar 7)) (mCons (mUn dNeg (mVar 11)) mNil)) dTup)))
    (mAsg 5 (mBin dAdd (mVar 9) (mLc (.tp [(.nm 10), (.nm 11)]) [10, 11] (mIt (mVar 5)) mYes (mB (mCons (mBin dAdd (mBin dMul (mVar 10) (mVar 6)) (mVar 8)) (mCons (mVar 11) mNil)) dTup)))))
abbrev b_board_fault_1 : M Ph Fl := (mIfS (mOrT (mNotT (mTst (mCall d_is_integer (mCons (mVar 3) mNil)))) (mTst (mBin dLt (mVar 3) (mV (.int 1)))))
    (mRet (mB (mCons (mV (.str "counts")) (mCons (mUn dNeg (mV (.int 1))) mNil)) dTup))
    (mP .nx))
abbrev b_board_fault_2 : M Ph Fl := (mSeq (mAsg 4 (mBin dMul (mVar 4) (mVar 3)))
    (mIfS (mTst (mBin dGt (mVar 4) (mLenV 2)))
    (mRet (mB (mCons (mV (.str "worths")) (mCons (mUn dNeg (mV (.int 1))) mNil)) dTup))
    (mP .nx)))
abbrev b_board_fault_3 : M Ph Fl := (mIfS (mNotT (mTst (mCall d_is_integer (mCons (mVar 6) mNil))))
    (mRet (mB (mCons (mV (.str "worth")) (mCons (mVar 5) mNil)) dTup))
    (mP .nx))
abbrev b_u_law_differences_1 : M Ph Fl := (mSeq (mAsg 8 (mIxV 3 (mCall d_u_law_pick (mCons (mVar 0) (mCons (mLenV 3) mNil)))))
    (mSeq (mAsg 9 (mIxV 3 (mCall d_u_law_pick (mCons (mVar 0) (mCons (mLenV 3) mNil)))))
    (mSeq (mIfS (mTst (mBin dEq (mBin dAnd (mVar 7) (mV (.int 1))) (mV (.int 1))))
    (mSeq (mAsg 10 (mLc (.nm 11) [11] (mRng (mCons (mLenV 8) mNil)) mYes (mBin dMod (mB (mCons (mBin dAdd (mIxV 8 (mVar 11)) (mV (.int 1))) mNil) dInt) (mBin dIx (mIxV 1 (mV (.int 0))) (mVar 11)))))
    (mAsg 9 (mB (mCons (mVar 10) mNil) dTuple)))
    (mP .nx))
    (mSeq (mDrop (mApp 6 (mB (mCons (mVar 8) (mCons (mVar 9) mNil)) dTup)))
    (mDrop (mApp 6 (mB (mCons (mVar 9) (mCons (mVar 8) mNil)) dTup)))))))
abbrev b_u_law_differences_2 : M Ph Fl := (mSeq (mAsg 12 (mCall d_u_law_mixed (mCons (mVar 1) (mCons (mBin dIx (mIxV 6 (mVar 7)) (mV (.int 0))) (mCons (mBin dIx (mIxV 6 (mVar 7)) (mV (.int 1))) mNil)))))
    (mIfS (mNotT (mTst (mCall d_u_law_same (mCons (mCall d_u_law_asked (mCons (mVar 1) (mCons (mBin dIx (mIxV 6 (mVar 7)) (mV (.int 0))) (mCons (mBin dIx (mIxV 6 (mVar 7)) (mV (.int 1))) (mCons (mBin dEq (mBin dAnd (mVar 7) (mV (.int 3))) (mV (.int 2))) mNil))))) (mCons (mVar 12) mNil)))))
    (mRet (mV (.bl false)))
    (mP .nx)))
abbrev b_u_law_refused_1 : M Ph Fl := (mDrop (mApp 4 (mBin dAdd (mBin dAdd (mSl (mVar 2) mNoP (mPart (mVar 3))) (mB (mCons (mVar 5) mNil) dTup)) (mSl (mVar 2) (mPart (mBin dAdd (mVar 3) (mV (.int 1)))) mNoP))))
abbrev b_u_law_refused_2 : M Ph Fl := (mSeq (mAsg 7 (mBin dEq (mBin dAnd (mVar 6) (mV (.int 1))) (mV (.int 1))))
    (mSeq (mIfS (mNotT (mTst (mCall d_u_law_same (mCons (mCall d_u_law_asked (mCons (mVar 1) (mCons (mIxV 4 (mVar 6)) (mCons (mVar 2) (mCons (mVar 7) mNil))))) (mCons (mB (mCons (mV (.str "refused")) (mCons (mV (.str "here")) (mCons (mUn dNeg (mV (.int 1))) mNil))) dTup) mNil)))))
    (mRet (mV (.bl false)))
    (mP .nx))
    (mSeq (mIfS (mNotT (mTst (mCall d_u_law_same (mCons (mCall d_u_law_asked (mCons (mVar 1) (mCons (mVar 2) (mCons (mIxV 4 (mVar 6)) (mCons (mUn dNot (mVar 7)) mNil))))) (mCons (mB (mCons (mV (.str "refused")) (mCons (mV (.str "there")) (mCons (mUn dNeg (mV (.int 1))) mNil))) dTup) mNil)))))
    (mRet (mV (.bl false)))
    (mP .nx))
    (mIfS (mNotT (mTst (mCall d_u_law_same (mCons (mCall d_u_law_asked (mCons (mVar 1) (mCons (mIxV 4 (mVar 6)) (mCons (mIxV 4 (mBin dSub (mBin dSub (mLenV 4) (mV (.int 1))) (mVar 6))) (mCons (mV (.bl false)) mNil))))) (mCons (mB (mCons (mV (.str "refused")) (mCons (mV (.str "here")) (mCons (mUn dNeg (mV (.int 1))) mNil))) dTup) mNil)))))
    (mRet (mV (.bl false)))
    (mP .nx)))))
abbrev b_u_law_is_flat_1 : M Ph Fl := (mSeq (mAsg 5 (mB (mCons (mCall d_u_law_places (mCons (mBin dAdd (mSl (mVar 2) mNoP (mPart (mVar 4))) (mSl (mVar 2) (mPart (mBin dAdd (mVar 4) (mV (.int 1)))) mNoP)) mNil)) mNil) dLen))
    (mSeq (mIfS (mOrT (mNotT (mTst (mUn (dIsi "tuple") (mIxV 1 (mVar 4))))) (mTst (mBin dNe (mB (mCons (mIxV 1 (mVar 4)) mNil) dLen) (mVar 5))))
    (mRet (mV (.bl false)))
    (mP .nx))
    (mIfS (mTst (mBin dGt (mB (mCons (mLc (.nm 6) [6] (mIt (mIxV 1 (mVar 4))) (mNotT (mTst (mCall d_u_law_is_quotient (mCons (mVar 6) mNil)))) (mVar 6)) mNil) dLen) (mV (.int 0))))
    (mRet (mV (.bl false)))
    (mP .nx))))
abbrev b_u_law_is_flat_2 : M Ph Fl := (mSeq (mAsg 9 (mBin dMul (mBin dSub (mV (.int 1)) (mVar 3)) (mBin dIx (mIxV 0 (mV (.int 1))) (mVar 8))))
    (mSeq (mAsg 10 (mV (.int 1)))
    (mSeq (mB (mRng (mCons (mVar 3) mNil)) (mFor (.nm 4)
    (mSeq (mAsg 6 (mBin dIx (mIxV 1 (mVar 4)) (mCall d_u_law_choice (mCons (mVar 2) (mCons (mVar 4) (mCons (mIxV 7 (mVar 8)) mNil))))))
    (mSeq (mAsg 9 (mBin dAdd (mBin dMul (mVar 9) (mIxV 6 (mV (.int 1)))) (mBin dMul (mIxV 6 (mV (.int 0))) (mVar 10))))
    (mAsg 10 (mBin dMul (mVar 10) (mIxV 6 (mV (.int 1)))))))))
    (mIfS (mTst (mBin dNe (mVar 9) (mV (.int 0))))
    (mRet (mV (.bl false)))
    (mP .nx)))))
abbrev b_u_law_is_flat_3 : M Ph Fl := (mSeq (mAsg 6 (mBin dIx (mIxV 1 (mVar 4)) (mCall d_u_law_choice (mCons (mVar 2) (mCons (mVar 4) (mCons (mIxV 7 (mVar 8)) mNil))))))
    (mSeq (mAsg 9 (mBin dAdd (mBin dMul (mVar 9) (mIxV 6 (mV (.int 1)))) (mBin dMul (mIxV 6 (mV (.int 0))) (mVar 10))))
    (mAsg 10 (mBin dMul (mVar 10) (mIxV 6 (mV (.int 1)))))))
abbrev b_are_quotients_1 : M Ph Fl := (mIfS (mNotT (mTst (mCall d_is_quotient (mCons (mVar 2) mNil))))
    (mRet (mV (.bl false)))
    (mP .nx))
abbrev b_is_tables_1 : M Ph Fl := (mIfS (mNotT (mTst (mCall d_are_quotients (mCons (mCall d_board_size (mCons (mCall d_others_counts (mCons (mVar 2) (mCons (mVar 3) mNil))) mNil)) (mCons (mVar 4) mNil)))))
    (mRet (mV (.bl false)))
    (mP .nx))
abbrev b_quotient_sum_1 : M Ph Fl := (mIfS (mTst (mBin dEq (mBin dMod (mVar 2) (mVar 4)) (mV (.int 0))))
    (mAsg 1 (mBin dAdd (mVar 1) (mBin dMul (mVar 3) (mBin dDiv (mVar 2) (mVar 4)))))
    (mAsgP (.tp [(.nm 1), (.nm 2)]) (mCall d_quotient_of (mCons (mBin dAdd (mBin dMul (mVar 1) (mVar 4)) (mBin dMul (mVar 3) (mVar 2))) (mCons (mBin dMul (mVar 2) (mVar 4)) mNil)))))
abbrev b_till_list_1 : M Ph Fl := (mSeq (mAsg 10 (mLc (.nm 6) [6] (mRng (mCons (mVar 4) mNil)) mYes (mBin dIx (mIxV 1 (mVar 6)) (mBin dIx (mIxV 5 (mVar 6)) (mVar 8)))))
    (mSeq (mDrop (mApp 10 (mB (mCons (mBin dMul (mVar 9) (mBin dSub (mV (.int 1)) (mVar 4))) (mCons (mV (.int 1)) mNil)) dTup)))
    (mDrop (mApp 7 (mCall d_quotient_sum (mCons (mVar 10) mNil))))))
abbrev b_ends_of_quotients_1 : M Ph Fl := (mSeq (mIfS (mTst (mCall d_is_under (mCons (mVar 3) (mCons (mVar 1) mNil))))
    (mAsg 1 (mVar 3))
    (mP .nx))
    (mIfS (mTst (mCall d_is_under (mCons (mVar 2) (mCons (mVar 3) mNil))))
    (mAsg 2 (mVar 3))
    (mP .nx)))

end L26
namespace L26
open PySem PySem.Spec L2 DN G26
open PyProof.Rows hiding St
variable {φ : Ph} {ρ : List Sl}
/-! ### what is meant by what -/
abbrev nT (xs : List Nat) : D := .tup (xs.map nD)
abbrev iT (xs : List Int) : D := .tup (xs.map D.int)
abbrev bdT (cs : List Nat) (ws : List Int) : D := .tup [nT cs, iT ws]
structure Cs (cs : List Nat) : Prop where
  five : cs.length ≤ 5
  pos : Pos cs
  four : ∀ c, c ∈ cs → c ≤ 4
  many : prod cs ≤ 40
theorem cn_le {cs : List Nat} (C : Cs cs) (p : Nat) : cn cs p ≤ 4 := by
  unfold cn
  rw [List.getD_eq_getElem?_getD]
  cases e : cs[p]? with
  | none => decide
  | some c => exact C.four c (List.mem_of_getElem? e)
theorem cn_get {cs : List Nat} {p : Nat} (h : p < cs.length) : cs[p]? = some (cn cs p) := by
  unfold cn
  rw [List.getD_eq_getElem?_getD, List.getElem?_eq_getElem h]
  rfl
theorem at_n {cs : List Nat} {p : Nat} (h : p < cs.length) : L2.atI (cs.map nD) (p : Int) = some (.int (cn cs p : Nat)) := atN (by rw [List.getElem?_map, cn_get h]; rfl)
theorem at_pla {cs : List Nat} {p : Nat} (h : p < cs.length) (k : Nat) : L2.atI ((pla cs k).map nD) (p : Int) = some (.int (dg cs k p : Nat)) := by
  refine atN ?_
  unfold pla
  rw [List.getElem?_map, List.getElem?_map, List.getElem?_range h]
  rfl
def wf (ws : List Int) (k : Nat) : Int := ws.getD k 0
theorem at_i {ws : List Int} {k : Nat} (h : k < ws.length) : L2.atI (ws.map D.int) (k : Int) = some (.int (wf ws k)) := atInt h
theorem map_rng {cs : List Nat} (f : Nat → D) : cs.map f = (List.range cs.length).map fun p => f (cn cs p) := by
  refine List.ext_getElem? fun i => ?_
  rw [List.getElem?_map, List.getElem?_map]
  rcases Nat.lt_or_ge i cs.length with h | h
  · rw [cn_get h, List.getElem?_range h]; rfl
  · rw [List.getElem?_eq_none h, List.getElem?_eq_none (by simpa using h)]; rfl
theorem Pm_le {cs : List Nat} (h : Pos cs) (m : Nat) : Pm cs m ≤ prod cs := by
  have := prod_take (cs := cs) m
  unfold Pm
  rw [← this]
  exact Nat.le_mul_of_pos_right _ (B_pos h m)
theorem B_le0 {cs : List Nat} (h : Pos cs) (m : Nat) : B cs m ≤ prod cs := by
  have := prod_take (cs := cs) m
  rw [← this]
  exact Nat.le_mul_of_pos_left _ (prod_pos fun c hc => h c (List.mem_of_mem_take hc))
theorem dg_le {cs : List Nat} (C : Cs cs) {p : Nat} (h : p < cs.length) (k : Nat) : dg cs k p < 4 := Nat.lt_of_lt_of_le (dg_lt C.pos k h) (cn_le C p)
theorem natAbs_lt {n : Nat} (h : n < 1000000000) : ((n : Int)).natAbs < 2 ^ 60 := by
  rw [Int.natAbs_natCast]
  exact Nat.lt_of_lt_of_le h (by decide)
theorem cmN {i : Int} {n : Nat} (h : n < 1000000000) : cMul i (n : Int) := cm_r (natAbs_lt h)
theorem cdN {i : Int} {n : Nat} (h0 : 0 < n) (h : n < 1000000000) : cDiv i (n : Int) := cd_s (by omega) (by
  rw [Int.natAbs_natCast]
  exact Nat.lt_of_lt_of_le (Nat.lt_of_lt_of_le h (by decide : 1000000000 ≤ 2 ^ 60)) (Nat.pow_le_pow_right (by decide) (by decide)))
/-! ### the many -/
theorem size_run (cs : List Nat) (h : ∀ c, c ∈ cs → c < 1000000000) : d_board_size [nT cs] φ = .ok (.val (.int (prod cs : Nat))) φ := by
  have L : ∀ (l : List Nat) (a : Nat) (s : Sl), (∀ c, c ∈ l → c < 1000000000) → ∃ t, mFor (.nm 2) b_board_size_1 (l.map nD) [.val (nT cs), .val (.int (a : Nat)), s] φ = .ok .nx [.val (nT cs), .val (.int (a * prod l : Nat)), t] φ := by
    intro l
    induction l with
    | nil => intro a s _; exact ⟨s, by simp [prod, mFor_nil]⟩
    | cons c l ih =>
      intro a s hl
      obtain ⟨t, e⟩ := ih (a * c) (.val (nD c)) fun x hx => hl x (List.mem_cons_of_mem _ hx)
      refine ⟨t, ?_⟩
      rw [List.map_cons, mFor_cons (ρ1 := [.val (nT cs), .val (.int (a : Nat)), .val (nD c)]) (φ2 := φ) (ρ2 := [.val (nT cs), .val (.int (a * c : Nat)), .val (nD c)]) (by simp) (by simp [nD, x_mul (cmN (hl c List.mem_cons_self))]), e]
      simp [prod, Nat.mul_assoc]
  obtain ⟨t, e⟩ := L cs 1 .emp h
  unfold d_board_size m_board_size
  simp at e
  simp [e]
theorem size_cs {cs : List Nat} (C : Cs cs) : d_board_size [nT cs] φ = .ok (.val (.int (prod cs : Nat))) φ := size_run cs fun c hc => by have := C.four c hc; omega
theorem size_drop {cs : List Nat} (C : Cs cs) (p : Nat) : d_board_size [.tup ((cs.map nD).drop p)] φ = .ok (.val (.int (B cs p : Nat))) φ := by
  rw [← List.map_drop]
  exact size_run _ fun c hc => by have := C.four c (List.mem_of_mem_drop hc); omega
theorem drop_nD {cs : List Nat} {p : Nat} (h : p + 1 ≤ cs.length) : cutD (cs.map nD) (some ((p : Int) + 1)) none = (cs.map nD).drop (p + 1) := cut_from (xs := cs.map nD) (k := p + 1) (by simpa using h)
theorem take_nD {cs : List Nat} {p : Nat} (h : p ≤ cs.length) : cutD (cs.map nD) none (some (p : Int)) = (cs.map nD).take p := cut_to (by simpa using h)
/-! ### rows by person -/
theorem firsts_run {cs : List Nat} (C : Cs cs) {p : Nat} (h : p < cs.length) : d_firsts_by_place [nT cs, .int (p : Nat)] φ = .ok (.new ((List.range (prod cs)).map fun k => nD (fst cs p k))) φ := by
  have hB := B_le0 C.pos (p + 1)
  have hb := B_le0 C.pos p
  have m := C.many
  have b0 := B_pos C.pos p
  have b1 := B_pos C.pos (p + 1)
  have e := B_step h
  have e' : ((B cs (p + 1) : Nat) : Int) * ((cn cs p : Nat) : Int) = ((B cs p : Nat) : Int) := by rw [e, Nat.mul_comm]; rfl
  have q := lc_rng (φ := φ) (p := .nm 4) (vs := [4]) (ρ := [.val (nT cs), .val (.int (p : Nat)), .val (.int (B cs (p + 1) : Nat)), .val (.int (B cs p : Nat)), .emp]) (te := (mBin dAdd (mBin dMul (mBin dDiv (mVar 4) (mVar 3)) (mVar 3)) (mBin dMod (mVar 4) (mVar 2)))) (n := prod cs) (f := nD) (r := fun k => nD (fst cs p k)) (by omega) rfl (fun k hk => by
    refine ⟨_, pat_nm, rfl, .val (nD (fst cs p k)), ?_, rfl⟩
    simp [wipeR, nD, x_div (cdN (i := k) b0 (by omega)), x_mul (cmN (n := B cs p) (i := (k : Int) / (B cs p : Int)) (by omega)), x_mod (i := k) (show (0 : Int) < (B cs (p + 1) : Nat) by omega), fst])
  unfold d_firsts_by_place m_firsts_by_place
  have s1 := size_drop (φ := φ) C (p + 1)
  have s2 := size_cs (φ := φ) C
  simp [backR, wipeR] at q
  simp [drop_nD h, s1, s2, at_n h, x_mul (cmN (n := cn cs p) (i := (B cs (p + 1) : Int)) (by have := cn_le C p; omega)), e', x_rngN (show prod cs < 1000000000 by omega), q]
theorem choices_run {cs : List Nat} (C : Cs cs) {p : Nat} (h : p < cs.length) : d_choices_by_place [nT cs, .int (p : Nat)] φ = .ok (.new ((List.range (prod cs)).map fun k => nD (chc cs p k))) φ := by
  have hB := B_le0 C.pos (p + 1)
  have hb := B_le0 C.pos p
  have m := C.many
  have b0 := B_pos C.pos p
  have b1 := B_pos C.pos (p + 1)
  have e := B_step h
  have e' : ((B cs (p + 1) : Nat) : Int) * ((cn cs p : Nat) : Int) = ((B cs p : Nat) : Int) := by rw [e, Nat.mul_comm]; rfl
  have q := lc_rng (φ := φ) (p := .nm 4) (vs := [4]) (ρ := [.val (nT cs), .val (.int (p : Nat)), .val (.int (B cs (p + 1) : Nat)), .val (.int (B cs p : Nat)), .emp]) (te := (mBin dAdd (mBin dMul (mBin dDiv (mVar 4) (mVar 3)) (mVar 2)) (mBin dMod (mVar 4) (mVar 2)))) (n := prod cs) (f := nD) (r := fun k => nD (chc cs p k)) (by omega) rfl (fun k hk => by
    refine ⟨_, pat_nm, rfl, .val (nD (chc cs p k)), ?_, rfl⟩
    simp [wipeR, nD, x_div (cdN (i := k) b0 (by omega)), x_mul (cmN (n := B cs (p + 1)) (i := (k : Int) / (B cs p : Int)) (by omega)), x_mod (i := k) (show (0 : Int) < (B cs (p + 1) : Nat) by omega), chc])
  unfold d_choices_by_place m_choices_by_place
  have s1 := size_drop (φ := φ) C (p + 1)
  have s2 := size_cs (φ := φ) C
  simp [backR, wipeR] at q
  simp [drop_nD h, s1, s2, at_n h, x_mul (cmN (n := cn cs p) (i := (B cs (p + 1) : Int)) (by have := cn_le C p; omega)), e', x_rngN (show prod cs < 1000000000 by omega), q]
/-! ### the places -/
abbrev plD (cs : List Nat) (k : Nat) : D := nT (pla cs k)
def plsD (cs : List Nat) : List D := (List.range (prod cs)).map (plD cs)
def PLD (cs : List Nat) (m : Nat) : List D := (PLm cs m).map fun x => nT x
theorem PLD_end (cs : List Nat) : PLD cs cs.length = plsD cs := by
  unfold PLD plsD
  rw [PLm_end, List.map_map]
  rfl
theorem PLm_len (cs : List Nat) (m : Nat) : (PLm cs m).length = Pm cs m := by unfold PLm; simp
def wid (d : D) (c : Nat) : List D := match d with
  | .tup xs => (List.range c).map fun k => .tup (xs ++ [nD k])
  | _ => []
theorem PLD_step {cs : List Nat} (hp : Pos cs) {m : Nat} (h : m < cs.length) : PLD cs (m + 1) = (PLD cs m).flatMap fun d => wid d (cn cs m) := by
  unfold PLD
  rw [PLm_step hp h, List.map_flatMap, List.flatMap_map]
  refine congrArg (fun f => List.flatMap f (PLm cs m)) (funext fun x => ?_)
  rw [List.map_map]
  show _ = (List.range (cn cs m)).map fun k => D.tup (x.map nD ++ [nD k])
  exact List.map_congr_left fun k _ => by simp
theorem PLD_mem {cs : List Nat} {m : Nat} {d : D} (h : d ∈ PLD cs m) : ∃ x : List Nat, d = nT x ∧ x.length = m := by
  unfold PLD PLm at h
  rw [List.map_map] at h
  obtain ⟨j, _, rfl⟩ := List.mem_map.mp h
  exact ⟨plm cs m j, rfl, by unfold plm; simp⟩
theorem places_in {x y : Sl} {c : Nat} (hc : c ≤ 100) : ∀ (ds acc : List D) (s4 s5 : Sl), (∀ d, d ∈ ds → ∃ xs : List D, d = .tup xs ∧ xs.length < 1000) → (∀ a, s5 ≠ .own a) → acc.length + ds.length * c ≤ 1000000 →
    ∃ t4 t5, mFor (.nm 4) b_u_law_places_2 ds [x, y, .val (nD c), .own acc, s4, s5] φ = .ok .nx [x, y, .val (nD c), .own (acc ++ ds.flatMap fun d => wid d c), t4, t5] φ ∧ (∀ a, t5 ≠ .own a)
  | [], acc, s4, s5, _, h5, _ => ⟨s4, s5, by simp [mFor_nil], h5⟩
  | d :: ds, acc, s4, s5, h, h5, hl => by
    obtain ⟨xs, rfl, hx⟩ := h d List.mem_cons_self
    rw [List.length_cons, Nat.add_mul, Nat.one_mul] at hl
    have hn : noOwn [x, y, .val (nD c), .own acc, .val (.tup xs), s5] [5] = true := by
      cases s5 with
      | own a => exact absurd rfl (h5 a)
      | _ => rfl
    have hn' : noOwn [x, y, .val (nD c), .val (.lst acc), .val (.tup xs), s5] [5] = true := by
      cases s5 with
      | own a => exact absurd rfl (h5 a)
      | _ => rfl
    have q := lc_rng (φ := φ) (p := .nm 5) (vs := [5]) (ρ := [x, y, .val (nD c), .val (.lst acc), .val (.tup xs), s5]) (te := (mBin dAdd (mVar 4) (mB (mCons (mVar 5) mNil) dTup))) (n := c) (f := nD) (r := fun k => .tup (xs ++ [nD k])) (by omega) hn' (fun k hk => by
      refine ⟨_, pat_nm, rfl, .val (.tup (xs ++ [nD k])), ?_, rfl⟩
      simp [wipeR, x_tup (show [nD k].length ≤ 16777216 by simp), x_addT (xs := xs) (ys := [nD k]) (by simp; omega)])
    obtain ⟨t4, t5, ih, i5⟩ := places_in hc ds (acc ++ wid (.tup xs) c) (.val (.tup xs)) s5 (fun d hd => h d (List.mem_cons_of_mem _ hd)) h5 (by simp [wid]; omega)
    refine ⟨t4, t5, ?_, i5⟩
    rw [mFor_cons (ρ1 := [x, y, .val (nD c), .own acc, .val (.tup xs), s5]) (φ2 := φ) (ρ2 := [x, y, .val (nD c), .own (acc ++ wid (.tup xs) c), .val (.tup xs), s5]) (by simp) ?_, ih]
    · simp
    · simp [backR, wipeR] at q
      simp [x_rngN (show c < 1000000000 by omega), q, x_addL (xs := acc) (ys := (List.range c).map fun k => D.tup (xs ++ [nD k])) (by simp; omega), wid]
theorem places_run {cs : List Nat} (C : Cs cs) : d_u_law_places [nT cs] φ = .ok (.val (.lst (plsD cs))) φ := by
  obtain ⟨ρ', φ', e, s1, s2, s3, s4, s5, rfl, rfl, hh⟩ := for_all (ρ := [.val (nT cs), .own (PLD cs 0), .emp, .emp, .emp, .emp]) (φ := φ) (p := .nm 2) (m := b_u_law_places_1) (n := cs.length) (f := fun p => nD (cn cs p))
    (fun k ρ φ' => ∃ s1 s2 s3 s4 s5, ρ = [.val (nT cs), s1, s2, s3, s4, s5] ∧ φ' = φ ∧ (s1 = .own (PLD cs k) ∨ s1 = .val (.lst (PLD cs k))) ∧ (∀ a, s5 ≠ .own a)) ⟨_, _, _, _, _, rfl, rfl, .inl rfl, fun a h => by cases h⟩ (by
      rintro k ρ φ hk ⟨s1, s2, s3, s4, s5, rfl, rfl, h1, h5⟩
      have hm := C.many
      have hP := Pm_le C.pos k
      have hP1 := Pm_le C.pos (k + 1)
      rw [Pm_step hk] at hP1
      obtain ⟨t4, t5, q, q5⟩ := places_in (φ := φ) (x := .val (nT cs)) (y := .val (.lst (PLD cs k))) (c := cn cs k) (by have := cn_le C k; omega) (PLD cs k) [] s4 s5 (fun d hd => by
        obtain ⟨x, rfl, hx⟩ := PLD_mem hd
        exact ⟨x.map nD, rfl, by have := C.five; simp; omega⟩) h5 (by simp [PLD, PLm_len]; omega)
      rw [List.nil_append, ← PLD_step C.pos hk] at q
      refine ⟨_, [.val (nT cs), .val (.lst (PLD cs (k + 1))), .val (nD (cn cs k)), .val (.lst (PLD cs (k + 1))), t4, t5], _, pat_nm, ?_, _, _, _, _, _, rfl, rfl, .inr rfl, q5⟩
      rcases h1 with rfl | rfl
      · simp [x_lst, q]
      · simp [x_lst, q])
  rw [PLD_end] at hh
  rw [← map_rng] at e
  have hl := C.five
  unfold d_u_law_places m_u_law_places
  rcases hh with ⟨rfl | rfl, _⟩
  · simp [x_tup, x_lst] at e ⊢
    simp [show PLD cs 0 = [.tup []] from rfl] at e
    simp [e]
  · simp [x_tup, x_lst] at e ⊢
    simp [show PLD cs 0 = [.tup []] from rfl] at e
    simp [e]
/-! ### one person left out, or none -/
theorem at_run {cs : List Nat} (C : Cs cs) {xs : List Nat} (hx : xs.length = cs.length) (h4 : ∀ p, p < cs.length → cn xs p < 4) (k : Nat) : d_u_law_at [nT cs, .lst (xs.map nD)] φ = .ok (.val (.int (hor (cn cs) (cn xs) cs.length : Nat))) φ := by
  obtain ⟨ρ', φ', e, s3, rfl, rfl⟩ := for_rng (φ := φ) (i := 3) (m := b_u_law_at_1) (n := cs.length) (ρ := [.val (nT cs), .val (.lst (xs.map nD)), .val (.int 0), .emp])
    (fun k ρ φ' => ∃ s3, ρ = [.val (nT cs), .val (.lst (xs.map nD)), .val (.int (hor (cn cs) (cn xs) k : Nat)), s3] ∧ φ' = φ) ⟨_, rfl, rfl⟩ (by
      rintro k ρ φ hk ⟨s3, rfl, rfl⟩
      refine ⟨_, _, ?_, .val (.int k), rfl, rfl⟩
      simp [at_n hk, at_n (cs := xs) (p := k) (by omega), x_mul (cmN (n := cn cs k) (i := (hor (cn cs) (cn xs) k : Nat)) (by have := cn_le C k; omega)), hor])
  have hl := C.five
  unfold d_u_law_at m_u_law_at
  simp [x_rngN (show cs.length < 1000000000 by omega), e]
theorem choice_run {cs : List Nat} (C : Cs cs) {p k : Nat} (hp : p < cs.length) (hk : k < prod cs) : d_u_law_choice [nT cs, .int (p : Nat), plD cs k] φ = .ok (.val (.int (chc cs p k : Nat))) φ := by
  obtain ⟨ρ', φ', e, s3, rfl, rfl⟩ := for_rng (φ := φ) (i := 4) (m := b_u_law_choice_1) (n := cs.length) (ρ := [.val (nT cs), .val (.int (p : Nat)), .val (plD cs k), .val (.int 0), .emp])
    (fun j ρ φ' => ∃ s3, ρ = [.val (nT cs), .val (.int (p : Nat)), .val (plD cs k), .val (.int (horS (cn cs) (dg cs k) p j : Nat)), s3] ∧ φ' = φ) ⟨_, rfl, rfl⟩ (by
      rintro j ρ φ hj ⟨s3, rfl, rfl⟩
      refine ⟨_, _, ?_, .val (.int j), rfl, rfl⟩
      by_cases h : j = p
      · subst h
        simp [horS]
      · simp [at_n hj, at_pla hj k, x_mul (cmN (n := cn cs j) (i := (horS (cn cs) (dg cs k) p j : Nat)) (by have := cn_le C j; omega)), horS, h, Int.ofNat_inj, show ¬((j : Int) = (p : Int)) by omega])
  rw [horS_chc C.pos hk hp] at e
  have hl := C.five
  unfold d_u_law_choice m_u_law_choice
  simp [x_rngN (show cs.length < 1000000000 by omega), e]
end L26
namespace L26
open PySem PySem.Spec L2 DN G26
open PyProof.Rows hiding St
variable {φ : Ph} {ρ : List Sl}
/-! ### mixed differences, as the law has them -/
theorem hor_lt {cs : List Nat} {x : Nat → Nat} (h : ∀ p, p < cs.length → x p < cn cs p) : ∀ m, m ≤ cs.length → hor (cn cs) x m < Pm cs m
  | 0, _ => by show 0 < 1; decide
  | m + 1, hm => by
    have ih := hor_lt h m (by omega)
    have hx := h m (by omega)
    rw [Pm_step (by omega)]
    show hor (cn cs) x m * cn cs m + x m < _
    calc hor (cn cs) x m * cn cs m + x m < hor (cn cs) x m * cn cs m + cn cs m := by omega
      _ = (hor (cn cs) x m + 1) * cn cs m := by rw [Nat.add_mul, Nat.one_mul]
      _ ≤ Pm cs m * cn cs m := Nat.mul_le_mul_right _ ih
/-- a row of a board -/
structure Rw (cs xs : List Nat) : Prop where
  len : xs.length = cs.length
  lt : ∀ p, p < cs.length → cn xs p < cn cs p
theorem cn_map {n p : Nat} {f : Nat → Nat} (h : p < n) : cn ((List.range n).map f) p = f p := by
  unfold cn
  rw [List.getD_eq_getElem?_getD, List.getElem?_map, List.getElem?_range h]
  rfl
theorem cn_pla {cs : List Nat} {p : Nat} (h : p < cs.length) (k : Nat) : cn (pla cs k) p = dg cs k p := cn_map h
theorem rw_pla {cs : List Nat} (C : Cs cs) (k : Nat) : Rw cs (pla cs k) := ⟨pla_len cs k, fun p hp => by rw [cn_pla hp]; exact dg_lt C.pos k hp⟩
theorem bit_and (l p : Nat) : decide ((0 : Int) < ((l &&& 2 ^ p : Nat) : Int)) = bit l p := by
  have e : bit l p = l.testBit p := by
    unfold bit
    rw [Nat.testBit_eq_decide_div_mod_eq]
    by_cases h : l / 2 ^ p % 2 = 1 <;> simp [h]
  rw [e]
  cases h : l.testBit p with
  | true =>
    refine decide_eq_true ?_
    rcases Nat.eq_zero_or_pos (l &&& 2 ^ p) with z | z
    · have := Nat.testBit_and l (2 ^ p) p
      rw [z, h, Nat.testBit_two_pow_self] at this
      simp at this
    · exact_mod_cast z
  | false =>
    have z : l &&& 2 ^ p = 0 := by
      refine Nat.eq_of_testBit_eq fun i => ?_
      rw [Nat.testBit_and, Nat.testBit_two_pow, Nat.zero_testBit]
      by_cases k : p = i
      · subst k; rw [h]; rfl
      · rw [decide_eq_false k, Bool.and_false]
    rw [z]
    rfl
theorem bit_and' (l p : Nat) : decide ((0 : Int) < Builtin.bitAnd (l : Int) (2 ^ p)) = bit l p := by
  rw [← bit_and, ← band_nn]
  norm_cast
theorem sgN_one (l : Nat) : ∀ n, sgN l n = 1 ∨ sgN l n = -1
  | 0 => .inl rfl
  | n + 1 => by
    unfold sgN
    have := sgN_one l n
    split
    · exact this
    · rcases this with h | h <;> rw [h] <;> simp
abbrev rowS (h t : Nat → Nat) (l p : Nat) : List D := (List.range p).map fun q => nD (sel h t l q)
theorem mixed_in {b : Sl} {xs ys : List Nat} {tot : Sl} (hl : xs.length = ys.length) (h5 : xs.length ≤ 5) (l : Nat) (s8 s9 : Sl) :
    ∃ t8 t9, mFor (.nm 8) b_u_law_mixed_2 ((List.range xs.length).map nD) [b, .val (nT xs), .val (nT ys), .val (nD xs.length), tot, .val (nD l), .own [], .val (.int 1), s8, s9] φ = .ok .nx [b, .val (nT xs), .val (nT ys), .val (nD xs.length), tot, .val (nD l), .own (rowS (cn xs) (cn ys) l xs.length), .val (.int (sgN l xs.length)), t8, t9] φ := by
  obtain ⟨ρ', φ', e, t8, t9, rfl, rfl⟩ := for_rng (φ := φ) (i := 8) (m := b_u_law_mixed_2) (n := xs.length) (ρ := [b, .val (nT xs), .val (nT ys), .val (nD xs.length), tot, .val (nD l), .own [], .val (.int 1), s8, s9])
    (fun p ρ φ' => ∃ t8 t9, ρ = [b, .val (nT xs), .val (nT ys), .val (nD xs.length), tot, .val (nD l), .own (rowS (cn xs) (cn ys) l p), .val (.int (sgN l p)), t8, t9] ∧ φ' = φ) ⟨_, _, rfl, rfl⟩ (by
      rintro p ρ φ hp ⟨t8, t9, rfl, rfl⟩
      refine ⟨_, _, ?_, .val (.int p), .val (.bl (bit l p)), rfl, rfl⟩
      have e := bit_and' l p
      cases hb : bit l p
      · rw [hb] at e
        have hs : sel (cn xs) (cn ys) l p = cn xs p := by unfold sel; rw [hb]; rfl
        simp [x_shl1 (show p ≤ 1000000 by omega), e, hs, at_n (cs := xs) (p := p) hp, appO_own (ds := rowS (cn xs) (cn ys) l p) (by simp; omega), rowS, sgN, hb, List.range_succ]
      · rw [hb] at e
        have hs : sel (cn xs) (cn ys) l p = cn ys p := by unfold sel; rw [hb]; rfl
        simp [x_shl1 (show p ≤ 1000000 by omega), e, hs, at_n (cs := ys) (p := p) (by omega), appO_own (ds := rowS (cn xs) (cn ys) l p) (by simp; omega), rowS, sgN, hb, List.range_succ])
  exact ⟨t8, t9, e⟩
theorem sel_lt {cs xs ys : List Nat} (hx : Rw cs xs) (hy : Rw cs ys) (l : Nat) : ∀ p, p < cs.length → sel (cn xs) (cn ys) l p < cn cs p := fun p hp => by
  unfold sel
  split
  · exact hy.lt p hp
  · exact hx.lt p hp
def term (cs xs ys : List Nat) (ws : List Int) (l : Nat) : Int := sgN l cs.length * wf ws (hor (cn cs) (sel (cn xs) (cn ys) l) cs.length)
theorem mxv_sum (cs xs ys : List Nat) (ws : List Int) : mxv (wf ws) (cn cs) (cn xs) (cn ys) cs.length = ((List.range (2 ^ cs.length)).map (term cs xs ys ws)).sum := by
  unfold mxv
  rw [SL_lots, List.map_map]
  rfl
theorem law_mixed {cs xs ys : List Nat} {ws : List Int} (C : Cs cs) (hw : ws.length = prod cs) (hx : Rw cs xs) (hy : Rw cs ys) :
    d_u_law_mixed [bdT cs ws, nT xs, nT ys] φ = .ok (.val (.int (mxv (wf ws) (cn cs) (cn xs) (cn ys) cs.length))) φ := by
  have h5 := C.five
  have hl := hx.len
  have hl2 := hy.len
  have p5 : 2 ^ xs.length ≤ 2 ^ 5 := Nat.pow_le_pow_right (by decide) (by omega)
  obtain ⟨ρ', φ', e, s5, s6, s7, s8, s9, rfl, rfl⟩ := for_rng (φ := φ) (i := 5) (m := b_u_law_mixed_1) (n := 2 ^ xs.length) (ρ := [.val (bdT cs ws), .val (nT xs), .val (nT ys), .val (nD xs.length), .val (.int 0), .emp, .emp, .emp, .emp, .emp])
    (fun l ρ φ' => ∃ s5 s6 s7 s8 s9, ρ = [.val (bdT cs ws), .val (nT xs), .val (nT ys), .val (nD xs.length), .val (.int (((List.range l).map (term cs xs ys ws)).sum)), s5, s6, s7, s8, s9] ∧ φ' = φ) ⟨_, _, _, _, _, rfl, rfl⟩ (by
      rintro l ρ φ hp ⟨s5, s6, s7, s8, s9, rfl, rfl⟩
      obtain ⟨t8, t9, q⟩ := mixed_in (φ := φ) (b := .val (bdT cs ws)) (xs := xs) (ys := ys) (tot := .val (.int (((List.range l).map (term cs xs ys ws)).sum))) (by omega) (by omega) l s8 s9
      have a := at_run (φ := φ) C (xs := (List.range cs.length).map (sel (cn xs) (cn ys) l)) (by simp) (fun p hp => by rw [cn_map hp]; exact Nat.lt_of_lt_of_le (sel_lt hx hy l p hp) (cn_le C p)) 0
      have hh := hor_ext (c := cn cs) (x := cn ((List.range cs.length).map (sel (cn xs) (cn ys) l))) (y := sel (cn xs) (cn ys) l) (n := cs.length) fun p hp => cn_map hp
      have hlt := hor_lt (sel_lt hx hy l) cs.length (Nat.le_refl _)
      rw [Pm_end, ← hw] at hlt
      rw [hh, List.map_map] at a
      rw [← hl] at a
      refine ⟨_, _, ?_, .val (nD l), .val (.lst (rowS (cn xs) (cn ys) l xs.length)), .val (.int (sgN l xs.length)), t8, t9, rfl, rfl⟩
      have k1 : cMul (sgN l xs.length) (wf ws (hor (cn cs) (sel (cn xs) (cn ys) l) xs.length)) := cm_l (by rcases sgN_one l xs.length with z | z <;> rw [z] <;> decide)
      simp [x_lst, x_rngN (show xs.length < 1000000000 by omega)]
      try simp at q
      rw [← hl] at hlt
      simp [q]
      have a' : d_u_law_at [nT cs, .lst (rowS (cn xs) (cn ys) l xs.length)] φ = .ok (.val (.int (hor (cn cs) (sel (cn xs) (cn ys) l) xs.length : Nat))) φ := a
      simp [a', at_i hlt, x_mul k1, List.range_succ, term, ← hl])
  rw [mxv_sum, ← hl]
  unfold d_u_law_mixed m_u_law_mixed
  simp [x_shl1 (show xs.length ≤ 1000000 by omega), x_rng2 (show 2 ^ xs.length < 1000000000 by omega)]
  try simp at e
  simp [e]
end L26
namespace L26
open PySem PySem.Spec L2 DN G26
open PyProof.Rows hiding St
variable {φ : Ph} {ρ : List Sl}
/-! ### what is left -/
abbrev Lf (cs : List Nat) (ws : List Int) (p k : Nat) : Int := L cs (wf ws) p k
def partL (cs : List Nat) (ws : List Int) (p : Nat) : List D := (List.range (Np cs p)).map fun j => .int (Lf cs ws p (un cs p j))
abbrev partD (cs : List Nat) (ws : List Int) (p : Nat) : D := .lst (partL cs ws p)
def leftD (cs : List Nat) (ws : List Int) (p : Nat) : List D := (List.range (prod cs)).map fun k => .int (Lf cs ws p k)
theorem left0 {cs : List Nat} {ws : List Int} (h : ws.length = prod cs) : ws.map D.int = leftD cs ws 0 := by
  unfold leftD
  rw [← h]
  refine List.ext_getElem? fun i => ?_
  rw [List.getElem?_map, List.getElem?_map]
  rcases Nat.lt_or_ge i ws.length with q | q
  · rw [List.getElem?_range q, List.getElem?_eq_getElem q]
    show some (D.int ws[i]) = some (.int (wf ws i))
    unfold wf
    rw [List.getD_eq_getElem?_getD, List.getElem?_eq_getElem q]
    rfl
  · rw [List.getElem?_eq_none q, List.getElem?_eq_none (by simpa using q)]; rfl
theorem flattened_run {cs : List Nat} {ws : List Int} (C : Cs cs) (hw : ws.length = prod cs) :
    d_flattened [nT cs, iT ws] φ = .ok (.val (.tup [.lst ((List.range cs.length).map (partD cs ws)), .lst (leftD cs ws cs.length)])) φ := by
  have h5 := C.five
  have hm := C.many
  obtain ⟨ρ', φ', e, s1, s2, rfl, rfl⟩ := for_rng (φ := φ) (i := 4) (m := b_flattened_1) (n := cs.length) (ρ := [.val (nT cs), .val (iT ws), .own (leftD cs ws 0), .own [], .emp, .emp, .emp, .emp, .emp])
    (fun p ρ φ' => ∃ s4 s5, ρ = [.val (nT cs), .val (iT ws), .own (leftD cs ws p), .own ((List.range p).map (partD cs ws)), s4, s5, .emp, .emp, .emp] ∧ φ' = φ) ⟨_, _, rfl, rfl⟩ (by
      rintro p ρ φ hp ⟨s4, s5, rfl, rfl⟩
      refine ⟨_, _, ?_, .val (nD p), .val (.lst ((List.range (prod cs)).map fun k => nD (fst cs p k))), rfl, rfl⟩
      have q1 := lc_fil (φ := φ) (p := .tp [.nm 6, .nm 7]) (vs := [6, 7]) (ρ := [.val (nT cs), .val (iT ws), .own (leftD cs ws p), .own ((List.range p).map (partD cs ws)), .val (nD p), .val (.lst ((List.range (prod cs)).map fun k => nD (fst cs p k))), .emp, .emp, .emp]) (tt := mTst (mBin dEq (mVar 6) (mVar 7))) (te := mIxV 2 (mVar 6)) (l := List.range (prod cs)) (f := fun k => .tup [nD k, nD (fst cs p k)]) (r := fun k => .int (Lf cs ws p k)) (fun k => decide (k = fst cs p k)) (by simp; omega) rfl (fun k hk => by
        have hk := List.mem_range.mp hk
        refine ⟨_, pat_2, rfl, ?_, fun _ => ⟨.val (.int (Lf cs ws p k)), ?_, rfl⟩⟩
        · simp [wipeR]
          omega
        · simp [wipeR, leftD, at_rng hk])
      rw [firsts_list C.pos hp, List.map_map, show (List.range (Np cs p)).map ((fun k => D.int (Lf cs ws p k)) ∘ un cs p) = partL cs ws p from rfl] at q1
      have q2 := lc_rng (φ := φ) (p := .tp [.nm 8, .nm 7]) (vs := [8, 7]) (ρ := [.val (nT cs), .val (iT ws), .val (.lst (leftD cs ws p)), .own ((List.range (p + 1)).map (partD cs ws)), .val (nD p), .val (.lst ((List.range (prod cs)).map fun k => nD (fst cs p k))), .emp, .emp, .emp]) (te := mBin dSub (mVar 8) (mIxV 2 (mVar 7))) (n := prod cs) (f := fun k => .tup [.int (Lf cs ws p k), nD (fst cs p k)]) (r := fun k => .int (Lf cs ws (p + 1) k)) (by omega) rfl (fun k hk => by
        have hf := fst_le hp k
        refine ⟨_, pat_2, rfl, .val (.int (Lf cs ws (p + 1) k)), ?_, rfl⟩
        simp [wipeR, leftD, at_rng (show fst cs p k < prod cs by omega), L])
      have q0 := firsts_run (φ := φ) C hp
      simp [backR, wipeR] at q1 q2
      rw [show (List.range (prod cs)).map (fun k => D.int (Lf cs ws (p + 1) k)) = leftD cs ws (p + 1) from rfl] at q2
      simp [List.range_succ] at q2
      simp [q0, enD_rng, q1, appO_own (ds := (List.range p).map (partD cs ws)) (by simp; omega), List.range_succ]
      rw [show leftD cs ws p = (List.range (prod cs)).map fun k => D.int (Lf cs ws p k) from rfl, zpD_rng]
      rw [show leftD cs ws p = (List.range (prod cs)).map fun k => D.int (Lf cs ws p k) from rfl] at q2
      simp [q2])
  rw [← left0 hw] at e
  unfold d_flattened m_flattened
  simp [x_lst, x_rngN (show cs.length < 1000000000 by omega), e, x_tup]
theorem rows_run {cs : List Nat} (C : Cs cs) : d_row_tuples [nT cs] φ = .ok (.val (.lst (plsD cs))) φ := by
  have hl := C.five
  have hm := C.many
  obtain ⟨ρ', φ', e, s1, s2, rfl, rfl, hh⟩ := for_all (ρ := [.val (nT cs), .own (PLD cs 0), .emp, .emp, .emp]) (φ := φ) (p := .nm 2) (m := b_row_tuples_1) (n := cs.length) (f := fun p => nD (cn cs p))
    (fun k ρ φ' => ∃ s1 s2, ρ = [.val (nT cs), s1, s2, .emp, .emp] ∧ φ' = φ ∧ s1 = .own (PLD cs k)) ⟨_, _, rfl, rfl, rfl⟩ (by
      rintro k ρ φ hk ⟨s1, s2, rfl, rfl, rfl⟩
      have hP := Pm_le C.pos k
      have hP1 := Pm_le C.pos (k + 1)
      have hc := cn_le C k
      have q := lc2_map (φ := φ) (p := .nm 3) (vs := [3, 4]) (p1 := .nm 4) (vs1 := [4]) (ρ := [.val (nT cs), .val (.lst (PLD cs k)), .val (nD (cn cs k)), .emp, .emp]) (tt1 := mYes) (mi1 := mRng (mCons (mVar 2) mNil)) (te := mBin dAdd (mVar 3) (mB (mCons (mVar 4) mNil) dTup)) (l := PLD cs k) (f := fun d => d) (g := fun d => wid d (cn cs k)) (by
          rw [← PLD_step C.pos hk]
          unfold PLD
          rw [List.length_map, PLm_len]
          omega) rfl (fun d hd => by
        obtain ⟨x, rfl, hx⟩ := PLD_mem hd
        have q1 := lcl_map (φ := φ) (p := .nm 4) (vs := [4]) (ρ := [.val (nT cs), .val (.lst (PLD cs k)), .val (nD (cn cs k)), .val (nT x), .emp]) (te := mBin dAdd (mVar 3) (mB (mCons (mVar 4) mNil) dTup)) (l := List.range (cn cs k)) (f := nD) (r := fun j => .tup (x.map nD ++ [nD j])) (fun j hj => by
          refine ⟨_, pat_nm, rfl, .val (.tup (x.map nD ++ [nD j])), ?_, rfl⟩
          simp [wipeR, x_tup (show [nD j].length ≤ 16777216 by simp), x_addT (xs := x.map nD) (ys := [nD j]) (by simp; omega)])
        refine ⟨_, pat_nm, [.val (nT cs), .val (.lst (PLD cs k)), .val (nD (cn cs k)), .val (nT x), .emp], ?_, rfl⟩
        simp [wipeR] at q1
        simp [wipeR, x_rngN (show cn cs k < 1000000000 by omega), q1, wid])
      rw [← PLD_step C.pos hk, List.map_id'] at q
      refine ⟨_, [.val (nT cs), .own (PLD cs (k + 1)), .val (nD (cn cs k)), .emp, .emp], _, pat_nm, ?_, _, _, rfl, rfl, rfl⟩
      simp [backR, wipeR] at q
      simp [q])
  rw [← map_rng] at e
  subst hh
  rw [PLD_end] at e
  unfold d_row_tuples m_row_tuples
  simp [show PLD cs 0 = [.tup []] from rfl] at e
  simp [x_tup, x_lst, e]
/-! ### the first that is uneven -/
def uv (cs : List Nat) (ws : List Int) : Option Nat := (List.range (prod cs)).find? fun k => !decide (Lf cs ws cs.length k = 0)
abbrev uD (cs : List Nat) : Option Nat → D
  | none => .non
  | some k => plD cs k
theorem uneven_run {cs : List Nat} {ws : List Int} (C : Cs cs) (hw : ws.length = prod cs) : d_uneven_place [bdT cs ws] φ = .ok (.val (uD cs (uv cs ws))) φ := by
  obtain ⟨ρ', e⟩ := for_fst (φ := φ) (p := .tp [.nm 4, .nm 5]) (m := b_uneven_place_1) (f := fun k => .tup [plD cs k, .int (Lf cs ws cs.length k)]) (n := prod cs) (ρ := [.val (bdT cs ws), .val (nT cs), .val (iT ws), .val (.lst (leftD cs ws cs.length)), .emp, .emp])
    (fun k => !decide (Lf cs ws cs.length k = 0)) (fun k => .val (plD cs k)) (fun k ρ => ∃ s4 s5, ρ = [.val (bdT cs ws), .val (nT cs), .val (iT ws), .val (.lst (leftD cs ws cs.length)), s4, s5]) ⟨_, _, rfl⟩ (by
      rintro k ρ hk ⟨s4, s5, rfl⟩
      refine ⟨_, [.val (bdT cs ws), .val (nT cs), .val (iT ws), .val (.lst (leftD cs ws cs.length)), .val (plD cs k), .val (.int (Lf cs ws cs.length k))], pat_2, fun hb => ?_, fun hb => ⟨?_, _, _, rfl⟩⟩
      · simp at hb
        simp [hb]
      · simp at hb
        simp [hb])
  rw [← zpD_rng] at e
  have q := flattened_run (φ := φ) C hw
  have q2 := rows_run (φ := φ) C
  unfold d_uneven_place m_uneven_place
  rw [show (List.range (prod cs)).map (plD cs) = plsD cs from rfl, show (List.range (prod cs)).map (fun k => D.int (Lf cs ws cs.length k)) = leftD cs ws cs.length from rfl, show (List.range (prod cs)).find? (fun k => !decide (Lf cs ws cs.length k = 0)) = uv cs ws from rfl] at e
  simp [q, q2, e]
  cases uv cs ws <;> simp
end L26
namespace L26
open PySem PySem.Spec L2 DN G26
open PyProof.Rows hiding St
variable {φ : Ph} {ρ : List Sl}
/-! ### the law's own uneven place -/
def zs (cs : List Nat) : List Nat := (List.range cs.length).map fun _ => 0
theorem cn_zs {cs : List Nat} {p : Nat} (h : p < cs.length) : cn (zs cs) p = 0 := cn_map h
theorem rw_zs {cs : List Nat} (C : Cs cs) : Rw cs (zs cs) := ⟨by unfold zs; simp, fun p hp => by rw [cn_zs hp]; exact cn_pos C.pos p⟩
theorem SL_ext2 {c h h' t t' : Nat → Nat} : ∀ {n : Nat}, (∀ p, p < n → h p = h' p) → (∀ p, p < n → t p = t' p) → SL c h t n = SL c h' t' n
  | 0, _, _ => rfl
  | n + 1, e, f => by
    show _ ++ _ = _ ++ _
    rw [SL_ext2 (n := n) (fun p hp => e p (by omega)) (fun p hp => f p (by omega)), e n (by omega), f n (by omega)]
theorem mxv_left {cs : List Nat} {ws : List Int} (C : Cs cs) {k : Nat} (hk : k < prod cs) : mxv (wf ws) (cn cs) (cn (zs cs)) (cn (pla cs k)) cs.length = Lf cs ws cs.length k := by
  show _ = L cs (wf ws) cs.length k
  rw [L_end C.pos _ hk]
  unfold mxv
  rw [SL_ext2 (fun p hp => cn_zs hp) (fun p hp => cn_pla hp k)]
theorem law_uneven_run {cs : List Nat} {ws : List Int} (C : Cs cs) (hw : ws.length = prod cs) : d_u_law_uneven [bdT cs ws] φ = .ok (.val (uD cs (uv cs ws))) φ := by
  obtain ⟨ρ', e⟩ := for_fst (φ := φ) (p := .nm 3) (m := b_u_law_uneven_1) (f := plD cs) (n := prod cs) (ρ := [.val (bdT cs ws), .val (nT (zs cs)), .emp, .emp])
    (fun k => !decide (Lf cs ws cs.length k = 0)) (fun k => .val (plD cs k)) (fun k ρ => ∃ s3, ρ = [.val (bdT cs ws), .val (nT (zs cs)), .emp, s3]) ⟨_, rfl⟩ (by
      rintro k ρ hk ⟨s3, rfl⟩
      have q := law_mixed (φ := φ) C hw (rw_zs C) (rw_pla C k)
      rw [mxv_left C hk] at q
      refine ⟨_, [.val (bdT cs ws), .val (nT (zs cs)), .emp, .val (plD cs k)], pat_nm, fun hb => ?_, fun hb => ⟨?_, _, rfl⟩⟩
      · simp at hb
        simp [q, hb]
      · simp at hb
        simp [q, hb])
  have q0 := lc_map (φ := φ) (p := .nm 2) (vs := [2]) (ρ := [.val (bdT cs ws), .emp, .emp, .emp]) (te := mV (.int 0)) (l := cs) (f := nD) (r := fun _ => .int 0) (by have := C.five; omega) rfl (fun c hc => ⟨_, pat_nm, rfl, _, rfl, rfl⟩)
  rw [map_rng (f := fun _ => D.int 0), show (List.range cs.length).map (fun _ => D.int 0) = (zs cs).map nD by unfold zs; rw [List.map_map]; rfl] at q0
  have q := places_run (φ := φ) C
  rw [show (List.range (prod cs)).map (plD cs) = plsD cs from rfl, show (List.range (prod cs)).find? (fun k => !decide (Lf cs ws cs.length k = 0)) = uv cs ws from rfl] at e
  unfold d_u_law_uneven m_u_law_uneven
  simp [backR, wipeR] at q0
  simp [q, q0, e]
  cases uv cs ws <;> simp
/-! ### the mixed difference of the program -/
theorem isint_run (i : Int) : d_is_integer [.int i] φ = .ok (.val (.bl true)) φ := by unfold d_is_integer m_is_integer; simp
theorem are_rows_run {cs xs : List Nat} (C : Cs cs) (hx : Rw cs xs) : d_are_rows [nT cs, nT xs] φ = .ok (.val (.bl true)) φ := by
  have hl := hx.len
  obtain ⟨ρ', φ', e, s2, s3, rfl, rfl⟩ := for_all (ρ := [.val (nT cs), .val (nT xs), .emp, .emp]) (φ := φ) (p := .tp [.nm 2, .nm 3]) (m := b_are_rows_1) (n := cs.length) (f := fun p => .tup [nD (cn cs p), nD (cn xs p)])
    (fun k ρ φ' => ∃ s2 s3, ρ = [.val (nT cs), .val (nT xs), s2, s3] ∧ φ' = φ) ⟨_, _, rfl, rfl⟩ (by
      rintro p ρ φ hp ⟨s2, s3, rfl, rfl⟩
      refine ⟨_, _, _, pat_2, ?_, .val (nD (cn cs p)), .val (nD (cn xs p)), rfl, rfl⟩
      have := hx.lt p hp
      have q := isint_run (φ := φ) (cn xs p : Nat)
      have e1 : decide (((cn xs p : Nat) : Int) < 0) = false := decide_eq_false (by omega)
      have e2 : decide (cn cs p ≤ cn xs p) = false := decide_eq_false (by omega)
      simp only [b_are_rows_1]
      simp [q, e1, e2])
  rw [← zpD_rng, ← map_rng, ← hl, ← map_rng] at e
  unfold d_are_rows m_are_rows
  simp [hl, e]
abbrev slD (z : Nat × Int) : D := .tup [nD z.1, .int z.2]
theorem SL_bd {cs xs ys : List Nat} (C : Cs cs) (hx : Rw cs xs) (hy : Rw cs ys) {m : Nat} (hm : m ≤ cs.length) : (SL (cn cs) (cn xs) (cn ys) m).length = 2 ^ m ∧ ∀ z, z ∈ SL (cn cs) (cn xs) (cn ys) m → z.1 < Pm cs m ∧ (z.2 = 1 ∨ z.2 = -1) := by
  rw [SL_lots]
  refine ⟨by simp, fun z hz => ?_⟩
  obtain ⟨l, _, rfl⟩ := List.mem_map.mp hz
  exact ⟨hor_lt (sel_lt hx hy l) m hm, sgN_one l m⟩
theorem mixed_run {cs xs ys : List Nat} {ws : List Int} (C : Cs cs) (hw : ws.length = prod cs) (hx : Rw cs xs) (hy : Rw cs ys) :
    d_mixed_at [bdT cs ws, nT xs, nT ys] φ = .ok (.val (.int (mxv (wf ws) (cn cs) (cn xs) (cn ys) cs.length))) φ := by
  have h5 := C.five
  have hM := C.many
  have hl := hx.len
  have hl2 := hy.len
  obtain ⟨ρ', φ, e, s5, s6, s7, s8, s9, rfl, rfl, h⟩ := for_all (ρ := [.val (bdT cs ws), .val (nT xs), .val (nT ys), .val (nT cs), .val (iT ws), .own ((SL (cn cs) (cn xs) (cn ys) 0).map slD), .emp, .emp, .emp, .emp, .emp, .emp, .emp]) (φ := φ) (p := .tp [.nm 6, .nm 7, .nm 8]) (m := b_mixed_at_1) (n := cs.length) (f := fun p => .tup [nD (cn cs p), nD (cn xs p), nD (cn ys p)])
    (fun m ρ φ' => ∃ s5 s6 s7 s8 s9, ρ = [.val (bdT cs ws), .val (nT xs), .val (nT ys), .val (nT cs), .val (iT ws), s5, s6, s7, s8, s9, .emp, .emp, .emp] ∧ φ' = φ ∧ s5 = .own ((SL (cn cs) (cn xs) (cn ys) m).map slD)) ⟨_, _, _, _, _, rfl, rfl, rfl⟩ (by
      rintro m ρ φ hp ⟨s5, s6, s7, s8, s9, rfl, rfl, rfl⟩
      obtain ⟨b1, b2⟩ := SL_bd C hx hy (Nat.le_of_lt hp)
      have hc := cn_le C m
      have p5 : 2 ^ m ≤ 2 ^ 5 := Nat.pow_le_pow_right (by decide) (by omega)
      let K : Sl → List Sl := fun s9 => [.val (bdT cs ws), .val (nT xs), .val (nT ys), .val (nT cs), .val (iT ws), .val (.lst ((SL (cn cs) (cn xs) (cn ys) m).map slD)), .val (nD (cn cs m)), .val (nD (cn xs m)), .val (nD (cn ys m)), s9, .emp, .emp, .emp]
      have q1 := fun (s9 : Sl) => lc_map (φ := φ) (p := .tp [.nm 10, .nm 11]) (vs := [10, 11]) (ρ := K s9) (te := mB (mCons (mBin dAdd (mBin dMul (mVar 10) (mVar 6)) (mVar 7)) (mCons (mUn dNeg (mVar 11)) mNil)) dTup) (l := SL (cn cs) (cn xs) (cn ys) m) (f := slD) (r := fun z => slD (z.1 * cn cs m + cn xs m, -z.2)) (by omega) rfl (fun z hz => by
        refine ⟨_, pat_2, rfl, .val (slD (z.1 * cn cs m + cn xs m, -z.2)), ?_, rfl⟩
        simp [K, wipeR, x_mul (cmN (n := cn cs m) (i := (z.1 : Int)) (by omega)), x_tup])
      have q2 := fun (s9 : Sl) => lc_map (φ := φ) (p := .tp [.nm 10, .nm 11]) (vs := [10, 11]) (ρ := K s9) (te := mB (mCons (mBin dAdd (mBin dMul (mVar 10) (mVar 6)) (mVar 8)) (mCons (mVar 11) mNil)) dTup) (l := SL (cn cs) (cn xs) (cn ys) m) (f := slD) (r := fun z => slD (z.1 * cn cs m + cn ys m, z.2)) (by omega) rfl (fun z hz => by
        refine ⟨_, pat_2, rfl, .val (slD (z.1 * cn cs m + cn ys m, z.2)), ?_, rfl⟩
        simp [K, wipeR, x_mul (cmN (n := cn cs m) (i := (z.1 : Int)) (by omega)), x_tup])
      refine ⟨_, _, _, pat_3, ?_, .own ((SL (cn cs) (cn xs) (cn ys) (m + 1)).map slD), .val (nD (cn cs m)), .val (nD (cn xs m)), .val (nD (cn ys m)), .val (.lst ((SL (cn cs) (cn xs) (cn ys) m).map fun z => slD (z.1 * cn cs m + cn xs m, -z.2))), rfl, rfl, rfl⟩
      simp [K, backR, wipeR] at q1 q2
      simp [q1, q2, SL]
      rw [x_addL (by simp [b1]; omega)]
      rfl)
  rw [← zpD3_rng, ← map_rng, ← hl, ← map_rng, hl, ← hl2, ← map_rng] at e
  obtain ⟨b1, b2⟩ := SL_bd C hx hy (Nat.le_refl _)
  subst h
  have p5 : 2 ^ cs.length ≤ 2 ^ 5 := Nat.pow_le_pow_right (by decide) (by omega)
  have q1 := lc_map (φ := φ) (p := .tp [.nm 12, .nm 11]) (vs := [12, 11]) (ρ := [.val (bdT cs ws), .val (nT xs), .val (nT ys), .val (nT cs), .val (iT ws), .val (.lst ((SL (cn cs) (cn xs) (cn ys) cs.length).map slD)), s6, s7, s8, s9, .emp, .emp, .emp]) (te := mBin dMul (mVar 11) (mIxV 4 (mVar 12))) (l := SL (cn cs) (cn xs) (cn ys) cs.length) (f := slD) (r := fun z => .int (z.2 * wf ws z.1)) (by omega) rfl (fun z hz => by
    have hb := b2 z hz
    rw [Pm_end, ← hw] at hb
    refine ⟨_, pat_2, rfl, .val (.int (z.2 * wf ws z.1)), ?_, rfl⟩
    have k1 : cMul z.2 (wf ws z.1) := cm_l (by rcases hb.2 with q | q <;> rw [q] <;> decide)
    simp [wipeR, at_i hb.1, x_mul k1])
  have a1 := are_rows_run (φ := φ) C hx
  have a2 := are_rows_run (φ := φ) C hy
  have sm : (dSum [.lst ((SL (cn cs) (cn xs) (cn ys) cs.length).map fun z => .int (z.2 * wf ws z.1))] : M Ph DN.R) [.val (bdT cs ws), .val (nT xs), .val (nT ys), .val (nT cs), .val (iT ws), .val (.lst ((SL (cn cs) (cn xs) (cn ys) cs.length).map slD)), s6, s7, s8, s9, .emp, .emp, .emp] φ = .ok (.val (.int (mxv (wf ws) (cn cs) (cn xs) (cn ys) cs.length))) [.val (bdT cs ws), .val (nT xs), .val (nT ys), .val (nT cs), .val (iT ws), .val (.lst ((SL (cn cs) (cn xs) (cn ys) cs.length).map slD)), s6, s7, s8, s9, .emp, .emp, .emp] φ := by
    unfold mxv
    rw [← dSum_l, List.map_map]
    rfl
  unfold d_mixed_at m_mixed_at
  simp [backR, wipeR] at q1
  rw [show (SL (cn cs) (cn xs) (cn ys) 0).map slD = [.tup [.int 0, .int 1]] from rfl] at e
  simp [a1, a2, x_tup, x_lst, e, q1, sm]
end L26
namespace L26
open PySem PySem.Spec L2 DN G26
open PyProof.Rows hiding St
variable {φ : Ph} {ρ : List Sl}
/-! ### a board is made -/
structure Bo (cs : List Nat) (ws : List Int) : Prop extends Cs cs where
  two : 2 ≤ cs.length
  len : ws.length = prod cs
theorem fault_run {cs : List Nat} {ws : List Int} (Bb : Bo cs ws) : d_board_fault [bdT cs ws] φ = .ok (.val .non) φ := by
  have C := Bb.toCs
  have hw := Bb.len
  have h2 := Bb.two
  obtain ⟨ρ1, φ, e1, s3, rfl, rfl⟩ := for_all (ρ := [.val (bdT cs ws), .val (nT cs), .val (iT ws), .emp, .emp, .emp, .emp]) (φ := φ) (p := .nm 3) (m := b_board_fault_1) (n := cs.length) (f := fun p => nD (cn cs p))
    (fun k ρ φ' => ∃ s3, ρ = [.val (bdT cs ws), .val (nT cs), .val (iT ws), s3, .emp, .emp, .emp] ∧ φ' = φ) ⟨_, rfl, rfl⟩ (by
      rintro p ρ φ hp ⟨s3, rfl, rfl⟩
      refine ⟨_, _, _, pat_nm, ?_, .val (nD (cn cs p)), rfl, rfl⟩
      have q := isint_run (φ := φ) (cn cs p : Nat)
      have := cn_pos C.pos p
      have e1 : decide (((cn cs p : Nat) : Int) < 1) = false := decide_eq_false (by omega)
      simp only [b_board_fault_1]
      simp [q]
      simp [e1, show ¬ cn cs p = 0 by omega])
  obtain ⟨ρ2, φ, e2, t3, rfl, rfl⟩ := for_all (ρ := [.val (bdT cs ws), .val (nT cs), .val (iT ws), s3, .val (.int (Pm cs 0 : Nat)), .emp, .emp]) (φ := φ) (p := .nm 3) (m := b_board_fault_2) (n := cs.length) (f := fun p => nD (cn cs p))
    (fun k ρ φ' => ∃ s3, ρ = [.val (bdT cs ws), .val (nT cs), .val (iT ws), s3, .val (.int (Pm cs k : Nat)), .emp, .emp] ∧ φ' = φ) ⟨_, rfl, rfl⟩ (by
      rintro p ρ φ hp ⟨s3, rfl, rfl⟩
      refine ⟨_, _, _, pat_nm, ?_, .val (nD (cn cs p)), rfl, rfl⟩
      have := Pm_le C.pos (p + 1)
      rw [← hw] at this
      have e1 : decide (ws.length < Pm cs (p + 1)) = false := decide_eq_false (by omega)
      have e3 : ((Pm cs p : Nat) : Int) * ((cn cs p : Nat) : Int) = ((Pm cs (p + 1) : Nat) : Int) := by rw [Pm_step hp]; simp
      simp [x_mul (cmN (n := cn cs p) (i := (Pm cs p : Nat)) (by have := cn_le C p; omega)), e3, e1])
  obtain ⟨ρ3, φ, e3, s5, s6, rfl, rfl⟩ := for_all (ρ := [.val (bdT cs ws), .val (nT cs), .val (iT ws), t3, .val (.int (prod cs : Nat)), .emp, .emp]) (φ := φ) (p := .tp [.nm 5, .nm 6]) (m := b_board_fault_3) (n := prod cs) (f := fun k => .tup [nD k, .int (Lf cs ws 0 k)])
    (fun k ρ φ' => ∃ s5 s6, ρ = [.val (bdT cs ws), .val (nT cs), .val (iT ws), t3, .val (.int (prod cs : Nat)), s5, s6] ∧ φ' = φ) ⟨_, _, rfl, rfl⟩ (by
      rintro k ρ φ hk ⟨s5, s6, rfl, rfl⟩
      refine ⟨_, _, _, pat_2, ?_, .val (nD k), .val (.int (Lf cs ws 0 k)), rfl, rfl⟩
      have q := isint_run (φ := φ) (Lf cs ws 0 k)
      simp only [b_board_fault_3]
      simp [q])
  rw [← map_rng] at e1 e2
  rw [Pm_end] at e2
  rw [← enD_rng, show (List.range (prod cs)).map (fun k => D.int (Lf cs ws 0 k)) = leftD cs ws 0 from rfl, ← left0 hw] at e3
  rw [show ((Pm cs 0 : Nat) : Int) = 1 from rfl] at e2
  unfold d_board_fault m_board_fault
  have n2 : decide (cs.length < 2) = false := decide_eq_false (by omega)
  have n3 : decide ((cs.length : Int) < 2) = false := decide_eq_false (by omega)
  simp only [b_board_fault_1, b_board_fault_2, b_board_fault_3] at e1 e2 e3
  simp [n3, e1, e2, hw, e3]
end L26
namespace L26
open PySem PySem.Spec L2 DN G26
open PyProof.Rows hiding St
variable {φ : Ph} {ρ : List Sl}
/-! ### alike -/
def Dep : Nat → D → Prop
  | _, .int _ => True
  | _, .bl _ => True
  | _, .non => True
  | _, .str x => eqD (.str x) (.str x) = some true
  | k + 1, .tup xs => xs.length < 1000000 ∧ ∀ x, x ∈ xs → Dep k x
  | _, _ => False
theorem lint_run (i : Int) : d_u_law_integer [.int i] φ = .ok (.val (.bl true)) φ := by unfold d_u_law_integer m_u_law_integer; simp
theorem same_int (k : Nat) (a : Int) : d_u_law_sameN (k + 1) [.int a, .int a] φ = .ok (.val (.bl true)) φ := by
  unfold d_u_law_sameN m_u_law_same
  simp [lint_run]
theorem same_bl (k : Nat) (b : Bool) : d_u_law_sameN (k + 1) [.bl b, .bl b] φ = .ok (.val (.bl true)) φ := by
  unfold d_u_law_sameN m_u_law_same
  cases b <;> simp
theorem same_non (k : Nat) : d_u_law_sameN (k + 1) [.non, .non] φ = .ok (.val (.bl true)) φ := by
  unfold d_u_law_sameN m_u_law_same
  simp
theorem same_str (k : Nat) {a : Str} (h : eqD (.str a) (.str a) = some true) : d_u_law_sameN (k + 1) [.str a, .str a] φ = .ok (.val (.bl true)) φ := by
  unfold d_u_law_sameN m_u_law_same
  simp [x_dEqS h]
theorem same_tup (k : Nat) {xs : List D} (hl : xs.length < 1000000) (h : ∀ x, x ∈ xs → d_u_law_sameN k [x, x] φ = .ok (.val (.bl true)) φ) : d_u_law_sameN (k + 1) [.tup xs, .tup xs] φ = .ok (.val (.bl true)) φ := by
  obtain ⟨ρ1, φ, e1, s2, rfl, rfl⟩ := for_rng (ρ := [.val (.tup xs), .val (.tup xs), .emp]) (φ := φ) (i := 2) (m := b_u_law_same_1 (d_u_law_sameN k)) (n := xs.length)
    (fun j ρ φ' => ∃ s2, ρ = [.val (.tup xs), .val (.tup xs), s2] ∧ φ' = φ) ⟨_, rfl, rfl⟩ (by
      rintro p ρ φ hp ⟨s3, rfl, rfl⟩
      refine ⟨_, _, ?_, .val (nD p), rfl, rfl⟩
      have q := h xs[p] (List.getElem_mem hp)
      have a : L2.atI xs (p : Int) = some xs[p] := atN (List.getElem?_eq_getElem hp)
      simp [a, q])
  unfold d_u_law_sameN m_u_law_same
  simp [x_rngN (show xs.length < 1000000000 by omega), e1]
theorem same_refl : ∀ (k : Nat) (d : D), Dep k d → d_u_law_sameN (k + 1) [d, d] φ = .ok (.val (.bl true)) φ
  | k, .int a, _ => same_int k a
  | k, .bl b, _ => same_bl k b
  | k, .non, _ => same_non k
  | k, .str x, h => same_str k (by cases k <;> exact h)
  | 0, .tup xs, h => h.elim
  | k + 1, .tup xs, h => same_tup (k + 1) h.1 fun x hx => same_refl k x (h.2 x hx)
  | 0, .lst _, h => h.elim
  | 0, .obj _ _, h => h.elim
  | 0, .fd, h => h.elim
  | 0, .scr _, h => h.elim
  | k + 1, .lst _, h => h.elim
  | k + 1, .obj _ _, h => h.elim
  | k + 1, .fd, h => h.elim
  | k + 1, .scr _, h => h.elim
theorem same_run {d : D} (h : Dep 3 d) : d_u_law_same [d, d] φ = .ok (.val (.bl true)) φ := same_refl 3 d h
theorem dep_int {k : Nat} {a : Int} : Dep k (.int a) := by cases k <;> trivial
theorem dep_nT {xs : List Nat} (h : xs.length < 1000000) : Dep 3 (nT xs) := ⟨by simpa using h, fun x hx => by
  obtain ⟨n, _, rfl⟩ := List.mem_map.mp hx
  trivial⟩
/-! ### asked -/
abbrev refT (w : Str) : D := .tup [.str "refused", .str w, .int (-1)]
theorem s_ref : eqD (.str "refused") (.str "refused") = some true := by kernel_rfl
theorem s_here : eqD (.str "here") (.str "here") = some true := by kernel_rfl
theorem s_there : eqD (.str "there") (.str "there") = some true := by kernel_rfl
theorem s_uneven : eqD (.str "uneven") (.str "uneven") = some true := by kernel_rfl
theorem s_flat : eqD (.str "flat") (.str "flat") = some true := by kernel_rfl
theorem dep_here : Dep 3 (refT "here") := ⟨by decide, fun x hx => by
  simp only [List.mem_cons, List.not_mem_nil, or_false] at hx
  rcases hx with rfl | rfl | rfl
  · exact s_ref
  · exact s_here
  · trivial⟩
theorem dep_there : Dep 3 (refT "there") := ⟨by decide, fun x hx => by
  simp only [List.mem_cons, List.not_mem_nil, or_false] at hx
  rcases hx with rfl | rfl | rfl
  · exact s_ref
  · exact s_there
  · trivial⟩
/-- a board is made -/
theorem new_run {cs : List Nat} {ws : List Int} (Bb : Bo cs ws) : d_Board___init__ [nT cs, iT ws] φ = .ok (.val (bdT cs ws)) φ := by
  have q := fault_run (φ := φ) Bb
  unfold d_Board___init__ m_Board___init__ mInit
  simp [x_tup, q]
theorem even_run {cs : List Nat} {ws : List Int} (Bb : Bo cs ws) : d_Board_even [.obj "Board" [bdT cs ws]] φ = .ok (.val (.bl (isN (uD cs (uv cs ws))))) φ := by
  have q := uneven_run (φ := φ) Bb.toCs Bb.len
  unfold d_Board_even m_Board_even
  simp [q]
theorem asked_run {cs xs ys : List Nat} {ws : List Int} (Bb : Bo cs ws) (hx : Rw cs xs) (hy : Rw cs ys) (o : Bool) :
    d_u_law_asked [bdT cs ws, nT xs, nT ys, .bl o] φ = .ok (.val (.int (mxv (wf ws) (cn cs) (cn xs) (cn ys) cs.length))) φ := by
  have q := mixed_run (φ := φ) Bb.toCs Bb.len hx hy
  have n := new_run (φ := φ) Bb
  unfold d_u_law_asked m_u_law_asked
  cases o
  · simp [q]
  · unfold d_Board_mixed m_Board_mixed
    simp [q, n, perm]
/-- a bad row -/
def Bd26 (cs : List Nat) (d : D) : Prop := ∀ φ : Ph, d_are_rows [nT cs, d] φ = .ok (.val (.bl false)) φ
theorem mixed_bad {cs : List Nat} {ws : List Int} {d e : D} (h : Bd26 cs d) : d_mixed_at [bdT cs ws, d, e] φ = .err "NotUsable" [.int (-1), .str "here"] φ := by
  have q := h φ
  unfold d_mixed_at m_mixed_at
  simp [q]
theorem mixed_bad2 {cs xs : List Nat} {ws : List Int} {e : D} (C : Cs cs) (hx : Rw cs xs) (h : Bd26 cs e) : d_mixed_at [bdT cs ws, nT xs, e] φ = .err "NotUsable" [.int (-1), .str "there"] φ := by
  have q := h φ
  have q1 := are_rows_run (φ := φ) C hx
  unfold d_mixed_at m_mixed_at
  simp [q, q1]
theorem asked_of {cs : List Nat} {ws : List Int} {d e : D} {w : Str} (Bb : Bo cs ws) (q : d_mixed_at [bdT cs ws, d, e] φ = .err "NotUsable" [.int (-1), .str w] φ) (o : Bool) :
    d_u_law_asked [bdT cs ws, d, e, .bl o] φ = .ok (.val (refT w)) φ := by
  have n := new_run (φ := φ) Bb
  have t : ∀ ρ : List Sl, ρ.length = 5 → kTry 4 hit_NotUsable ["at", "word"] [.k "refused", .f "word", .f "at"] (.err "NotUsable" [.int (-1), .str w] ρ φ) = .ok (.rt (.val (refT w))) ρ φ := fun ρ h => kTry_err rfl rfl (by show 3 ≤ 16777216; decide) (by omega)
  unfold d_u_law_asked m_u_law_asked
  cases o
  · simp [q, t]
  · unfold d_Board_mixed m_Board_mixed
    simp [q, n, perm, t]
end L26
namespace L26
open PySem PySem.Spec L2 DN G26
open PyProof.Rows hiding St
variable {φ : Ph} {ρ : List Sl}
/-! ### drawings -/
def Fed (φ : Ph) : Prop := ∃ st : Fst, φ = some st ∧ 0 ≤ st.s ∧ st.s < 2147483647
theorem pick_run {j : Int} (h : Fed φ) (h0 : 0 < j) (h1 : j < 1000000000) : ∃ (v : Nat) (φ' : Ph), d_u_law_pick [.fd, .int j] φ = .ok (.val (.int (v : Nat))) φ' ∧ (v : Int) < j ∧ Fed φ' := by
  obtain ⟨st, rfl, a, b⟩ := h
  have hv : 0 ≤ (pickF st j).1 ∧ (pickF st j).1 < j := by
    unfold pickF
    split
    · exact ⟨Int.emod_nonneg _ (by omega), Int.emod_lt_of_pos _ h0⟩
    · exact ⟨Int.emod_nonneg _ (by omega), Int.emod_lt_of_pos _ h0⟩
  refine ⟨(pickF st j).1.toNat, some (pickF st j).2, ?_, ?_, ?_⟩
  · unfold d_u_law_pick
    dsimp only
    rw [if_pos ⟨⟨a, b⟩, h0, by omega⟩, Int.toNat_of_nonneg hv.1]
  · rw [Int.toNat_of_nonneg hv.1]; exact hv.2
  · refine ⟨(pickF st j).2, rfl, ?_⟩
    unfold pickF
    split
    · exact ⟨a, b⟩
    · dsimp only
      exact ⟨Int.emod_nonneg _ (by decide), Int.emod_lt_of_pos _ (by decide)⟩
/-! ### bad rows -/
theorem bad_lst {cs : List Nat} {ds : List D} : Bd26 cs (.lst ds) := fun φ => by unfold d_are_rows m_are_rows; simp
theorem bad_non {cs : List Nat} : Bd26 cs .non := fun φ => by unfold d_are_rows m_are_rows; simp
theorem bad_int {cs : List Nat} {i : Int} : Bd26 cs (.int i) := fun φ => by unfold d_are_rows m_are_rows; simp
theorem bad_str {cs : List Nat} {i : Str} : Bd26 cs (.str i) := fun φ => by unfold d_are_rows m_are_rows; simp
theorem bad_len {cs : List Nat} {ds : List D} (h : ds.length ≠ cs.length) : Bd26 cs (.tup ds) := fun φ => by
  have : ¬ ((ds.length : Int) = (cs.length : Int)) := by omega
  unfold d_are_rows m_are_rows; simp [this]
/-- what is no row's part, among c -/
def Odd (c : Nat) (d : D) : Prop := ∀ (φ : Ph) (x y : Sl), b_are_rows_1 [x, y, .val (nD c), .val d] φ = .ok (.rt (.val (.bl false))) [x, y, .val (nD c), .val d] φ
theorem odd_c {c : Nat} : Odd c (nD c) := fun φ x y => by
  have q := isint_run (φ := φ) (c : Nat)
  unfold b_are_rows_1
  have e : decide ((c : Int) < 0) = false := decide_eq_false (by omega)
  simp [q, e]
theorem odd_m {c : Nat} : Odd c (.int (-1)) := fun φ x y => by
  have q := isint_run (φ := φ) (-1)
  unfold b_are_rows_1
  simp [q]
theorem isint_not {d : D} (h : ∀ φ : Ph, d_is_integer [d] φ = .ok (.val (.bl false)) φ) {c : Nat} : Odd c d := fun φ x y => by
  unfold b_are_rows_1
  simp [h]
theorem odd_b {c : Nat} {b : Bool} : Odd c (.bl b) := isint_not fun φ => by unfold d_is_integer m_is_integer; simp
theorem odd_n {c : Nat} : Odd c .non := isint_not fun φ => by unfold d_is_integer m_is_integer; simp
theorem odd_s {c : Nat} {x : Str} : Odd c (.str x) := isint_not fun φ => by unfold d_is_integer m_is_integer; simp
theorem odd_t {c : Nat} {x : List D} : Odd c (.tup x) := isint_not fun φ => by unfold d_is_integer m_is_integer; simp
abbrev oddT (xs : List Nat) (p : Nat) (d : D) : D := .tup ((xs.map nD).take p ++ [d] ++ (xs.map nD).drop (p + 1))
theorem bad_odd {cs xs : List Nat} {p : Nat} {d : D} (hx : Rw cs xs) (hp : p < cs.length) (o : Odd (cn cs p) d) : Bd26 cs (oddT xs p d) := fun φ => by
  have hl := hx.len
  have e0 : (xs.map nD).take p ++ [d] ++ (xs.map nD).drop (p + 1) = (List.range cs.length).map fun q => if q = p then d else nD (cn xs q) := by
    refine List.ext_getElem? fun i => ?_
    have : (xs.map nD).take p ++ [d] ++ (xs.map nD).drop (p + 1) = (xs.map nD).set p d := by
      rw [List.set_eq_take_append_cons_drop, if_pos (by simp; omega)]
      simp
    rw [this, List.getElem?_set, List.getElem?_map, List.getElem?_map]
    by_cases h : p = i
    · subst h
      rw [List.getElem?_range hp]
      simp [hl, hp]
    · rw [if_neg h]
      rcases Nat.lt_or_ge i cs.length with q | q
      · rw [List.getElem?_range q, cn_get (cs := xs) (by omega)]
        simp [show ¬ i = p by omega]
      · rw [List.getElem?_eq_none (by omega), List.getElem?_eq_none (by simpa using q)]; rfl
  obtain ⟨ρ', e⟩ := for_fst (φ := φ) (p := .tp [.nm 2, .nm 3]) (m := b_are_rows_1) (f := fun q => .tup [nD (cn cs q), if q = p then d else nD (cn xs q)]) (n := cs.length) (ρ := [.val (nT cs), .val (oddT xs p d), .emp, .emp])
    (fun q => decide (q = p)) (fun _ => .val (.bl false)) (fun q ρ => ∃ s2 s3, ρ = [.val (nT cs), .val (oddT xs p d), s2, s3]) ⟨_, _, rfl⟩ (by
      rintro q ρ hq ⟨s2, s3, rfl⟩
      by_cases h : q = p
      · subst h
        refine ⟨_, [.val (nT cs), .val (oddT xs q d), .val (nD (cn cs q)), .val d], pat_2, fun _ => ?_, fun hb => by simp at hb⟩
        rw [if_pos rfl]
        exact o φ _ _
      · refine ⟨_, _, pat_2, fun hb => absurd (of_decide_eq_true hb) h, fun _ => ⟨?_, .val (nD (cn cs q)), .val (nD (cn xs q)), rfl⟩⟩
        have := hx.lt q hq
        have qi := isint_run (φ := φ) (cn xs q : Nat)
        have e1 : decide (((cn xs q : Nat) : Int) < 0) = false := decide_eq_false (by omega)
        have e2 : decide (cn cs q ≤ cn xs q) = false := decide_eq_false (by omega)
        rw [if_neg h]
        simp only [b_are_rows_1]
        simp [qi, e1, e2])
  have ef : (List.range cs.length).find? (fun q => decide (q = p)) = some p := by
    cases hf : (List.range cs.length).find? (fun q => decide (q = p)) with
    | none => exact absurd (List.find?_eq_none.mp hf p (List.mem_range.mpr hp)) (by simp)
    | some q =>
      have := List.find?_some hf
      rw [of_decide_eq_true this]
  rw [ef, ← zpD_rng, ← map_rng, ← e0] at e
  have hL : ((xs.map nD).take p ++ [d] ++ (xs.map nD).drop (p + 1)).length = cs.length := by rw [e0]; simp
  unfold d_are_rows m_are_rows
  simp only [oddT] at e ⊢
  generalize (xs.map nD).take p ++ [d] ++ (xs.map nD).drop (p + 1) = z at e hL
  simp [hL, e]
/-! ### refusals -/
def odds (c : Nat) : List D := [nD c, .int (-1), .bl true, .bl false, .non, .str "0", .tup [.int 0]]
theorem odds_odd {c : Nat} : ∀ d, d ∈ odds c → Odd c d := fun d hd => by
  unfold odds at hd
  simp only [List.mem_cons, List.not_mem_nil, or_false] at hd
  rcases hd with rfl | rfl | rfl | rfl | rfl | rfl | rfl
  · exact odd_c
  · exact odd_m
  · exact odd_b
  · exact odd_b
  · exact odd_n
  · exact odd_s
  · exact odd_t
def bad7 (xs : List Nat) : List D := [.lst (xs.map nD), .tup ((xs.map nD).drop 1), .tup (xs.map nD ++ [.int 0]), .tup [], .non, .int 0, .str "00"]
def bads (cs xs : List Nat) (p : Nat) : List D := bad7 xs ++ (odds (cn cs p)).map (oddT xs p)
theorem bads_bad {cs xs : List Nat} {p : Nat} (two : 2 ≤ cs.length) (hx : Rw cs xs) (hp : p < cs.length) : ∀ d, d ∈ bads cs xs p → Bd26 cs d := fun d hd => by
  have hl := hx.len
  rcases List.mem_append.mp hd with hd | hd
  · unfold bad7 at hd
    simp only [List.mem_cons, List.not_mem_nil, or_false] at hd
    rcases hd with rfl | rfl | rfl | rfl | rfl | rfl | rfl
    · exact bad_lst
    · exact bad_len (by simp; omega)
    · exact bad_len (by simp; omega)
    · exact bad_len (by simp; omega)
    · exact bad_non
    · exact bad_int
    · exact bad_str
  · obtain ⟨o, ho, rfl⟩ := List.mem_map.mp hd
    exact bad_odd hx hp (odds_odd o ho)
end L26
namespace L26
open PySem PySem.Spec L2 DN G26
open PyProof.Rows hiding St
variable {φ : Ph} {ρ : List Sl}
theorem prod_pos' {cs : List Nat} (C : Cs cs) : 0 < prod cs := prod_pos C.pos
theorem at_last {n : Nat} {f : Nat → D} (h : 0 < n) : L2.atI ((List.range n).map f) (-1) = some (f (n - 1)) := atLast (by
  rw [List.getLast?_map, List.getLast?_range, if_neg (by omega)]
  rfl)
theorem refused_run {cs : List Nat} {ws : List Int} (Bb : Bo cs ws) (h : Fed φ) : ∃ φ', d_u_law_refused [.fd, bdT cs ws] φ = .ok (.val (.bl true)) φ' := by
  have C := Bb.toCs
  have h2 := Bb.two
  have h5 := C.five
  have n0 := prod_pos' C
  obtain ⟨k1, hk1⟩ : ∃ k, k = prod cs - 1 := ⟨_, rfl⟩
  have hx := rw_pla C k1
  have hxl : (pla cs k1).length = cs.length := pla_len cs k1
  obtain ⟨p, φ1, ep, hp, f1⟩ := pick_run (j := (cs.length : Nat)) h (by omega) (by omega)
  have hp : p < cs.length := by omega
  have pl := places_run (φ := φ) C
  have hb := bads_bad h2 hx hp
  -- the odd ones
  have oddL : ∀ (ds acc : List D) (s5 : Sl), acc.length + ds.length ≤ 1000 → ∃ t5, mFor (.nm 5) b_u_law_refused_1 ds [.val .fd, .val (bdT cs ws), .val (plD cs k1), .val (nD p), .own acc, s5, .emp, .emp] φ1 = .ok .nx [.val .fd, .val (bdT cs ws), .val (plD cs k1), .val (nD p), .own (acc ++ ds.map (oddT (pla cs k1) p)), t5, .emp, .emp] φ1 := by
    intro ds
    induction ds with
    | nil => intro acc s5 _; exact ⟨s5, by simp [mFor_nil]⟩
    | cons d ds ih =>
      intro acc s5 hl
      rw [List.length_cons] at hl
      obtain ⟨t5, e⟩ := ih (acc ++ [oddT (pla cs k1) p d]) (.val d) (by simp; omega)
      refine ⟨t5, ?_⟩
      rw [mFor_cons (ρ1 := [.val .fd, .val (bdT cs ws), .val (plD cs k1), .val (nD p), .own acc, .val d, .emp, .emp]) (φ2 := φ1) (ρ2 := [.val .fd, .val (bdT cs ws), .val (plD cs k1), .val (nD p), .own (acc ++ [oddT (pla cs k1) p d]), .val d, .emp, .emp]) (by simp) ?_, e]
      · simp
      · simp [take_nD (cs := pla cs k1) (p := p) (by omega), drop_nD (cs := pla cs k1) (p := p) (by omega), x_tup, x_addT (xs := ((pla cs k1).map nD).take p) (ys := [d]) (by simp; omega), x_addT (xs := ((pla cs k1).map nD).take p ++ [d]) (ys := ((pla cs k1).map nD).drop (p + 1)) (by simp; omega), appO_own (ds := acc) (by omega), oddT]
        try (simp [x_addT (xs := ((pla cs k1).map nD).take p ++ [d]) (ys := ((pla cs k1).map nD).drop (p + 1)) (by simp; omega), appO_own (ds := acc) (by omega)])
  obtain ⟨t5, eo⟩ := oddL (odds (cn cs p)) (bad7 (pla cs k1)) .emp (by simp [odds, bad7])
  have hlen : (bads cs (pla cs k1) p).length = 14 := by simp [bads, bad7, odds]
  obtain ⟨ρ', φ2, e, t6, t7, rfl, rfl⟩ := for_rng (φ := φ1) (i := 6) (m := b_u_law_refused_2) (n := 14) (ρ := [.val .fd, .val (bdT cs ws), .val (plD cs k1), .val (nD p), .own (bads cs (pla cs k1) p), t5, .emp, .emp])
    (fun k ρ φ' => ∃ s6 s7, ρ = [.val .fd, .val (bdT cs ws), .val (plD cs k1), .val (nD p), .own (bads cs (pla cs k1) p), t5, s6, s7] ∧ φ' = φ1) ⟨_, _, rfl, rfl⟩ (by
      rintro k ρ φ hk ⟨s6, s7, rfl, rfl⟩
      have a1 : L2.atI (bads cs (pla cs k1) p) (k : Int) = some ((bads cs (pla cs k1) p)[k]'(by omega)) := atN (List.getElem?_eq_getElem (by omega))
      have a2 : L2.atI (bads cs (pla cs k1) p) ((13 - k : Nat) : Int) = some ((bads cs (pla cs k1) p)[13 - k]'(by omega)) := atN (List.getElem?_eq_getElem (by omega))
      have b1 := hb _ (List.getElem_mem (show k < (bads cs (pla cs k1) p).length by omega))
      have b2 := hb _ (List.getElem_mem (show 13 - k < (bads cs (pla cs k1) p).length by omega))
      generalize (bads cs (pla cs k1) p)[k]'(by omega) = d at a1 b1
      generalize (bads cs (pla cs k1) p)[13 - k]'(by omega) = d2 at a2 b2
      have q1 := fun o => asked_of (φ := φ) (e := plD cs k1) Bb (mixed_bad b1) o
      have q2 := fun o => asked_of (φ := φ) Bb (mixed_bad2 C hx b1) o
      have q3 := fun o => asked_of (φ := φ) (e := d2) Bb (mixed_bad b1) o
      have sh := same_run (φ := φ) dep_here
      have st := same_run (φ := φ) dep_there
      refine ⟨_, _, ?_, .val (nD k), .val (.bl (decide (((k % 2 : Nat) : Int) = 1))), rfl, rfl⟩
      rw [show ((13 - k : Nat) : Int) = 13 - (k : Int) by omega] at a2
      simp [band_1, a1, q1, q2, sh, st, hlen, x_tup, a2, q3])
  refine ⟨φ2, ?_⟩
  have lb : cutD ((pla cs k1).map nD) (some (1 : Int)) none = ((pla cs k1).map nD).drop 1 := cut_from (xs := (pla cs k1).map nD) (k := 1) (by simp; omega)
  have pa : L2.atI (plsD cs) (-1) = some (plD cs k1) := by rw [hk1]; exact at_last n0
  have lp : ((pla cs k1).map nD).length = cs.length := by simp [hxl]
  unfold bads at e
  have l7 : (bad7 (pla cs k1)).length ≤ 16777216 := by simp [bad7]
  simp only [bad7, odds] at eo
  unfold d_u_law_refused m_u_law_refused
  simp only [List.map_cons, List.map_nil, List.cons_append, List.nil_append, List.drop_one] at eo
  simp only [bad7, odds, List.drop_one, List.map_cons, List.map_nil, List.cons_append, List.nil_append] at e
  simp [pl, pa, hxl, ep, lb, x_tup, x_lst, x_addT (xs := (pla cs k1).map nD) (ys := [.int 0]) (by simp; omega), at_n hp]
  simp [eo]
  have r14 : ∀ (ρ : List Sl) (φ : Ph), (rngD [.int 14] : M Ph (List D)) ρ φ = .ok ((List.range 14).map nD) ρ φ := fun ρ φ => x_rngN (n := 14) (by decide)
  simp [r14, e]
end L26
namespace L26
open PySem PySem.Spec L2 DN G26
open PyProof.Rows hiding St
variable {φ : Ph} {ρ : List Sl}
/-! ### pairs of rows -/
abbrev pD (p : List Nat × List Nat) : D := .tup [nT p.1, nT p.2]
def PrsOk (cs : List Nat) (P : List (List Nat × List Nat)) : Prop := ∀ p, p ∈ P → Rw cs p.1 ∧ Rw cs p.2
theorem prs_app {cs : List Nat} {P : List (List Nat × List Nat)} {x y : List Nat} (h : PrsOk cs P) (hx : Rw cs x) (hy : Rw cs y) : PrsOk cs (P ++ [(x, y), (y, x)]) := fun p hp => by
  rcases List.mem_append.mp hp with hp | hp
  · exact h p hp
  · simp only [List.mem_cons, List.not_mem_nil, or_false] at hp
    rcases hp with rfl | rfl
    · exact ⟨hx, hy⟩
    · exact ⟨hy, hx⟩
/-- turned on by one -/
def trn (cs xs : List Nat) : List Nat := (List.range cs.length).map fun p => (cn xs p + 1) % cn cs p
theorem rw_trn {cs xs : List Nat} (C : Cs cs) : Rw cs (trn cs xs) := ⟨by unfold trn; simp, fun p hp => by
  unfold trn
  rw [cn_map hp]
  exact Nat.mod_lt _ (cn_pos C.pos p)⟩
def bodyP : M Ph Fl := b_u_law_differences_1
theorem pair_run {cs : List Nat} {ws : List Int} {P : List (List Nat × List Nat)} {u s8 s9 s10 : Sl} {A B : D} (Bb : Bo cs ws) (hP : PrsOk cs P) (hl : P.length < 100) (f : Fed φ) (k : Nat) (h10 : ∀ a, s10 ≠ .own a) :
    ∃ (P' : List (List Nat × List Nat)) (t8 t9 t10 : Sl) (φ' : Ph), b_u_law_differences_1 [.val .fd, .val (bdT cs ws), u, .val (.lst (plsD cs)), .val A, .val B, .own (P.map pD), .val (nD k), s8, s9, s10, .emp, .emp, .emp] φ =
      .ok .nx [.val .fd, .val (bdT cs ws), u, .val (.lst (plsD cs)), .val A, .val B, .own (P'.map pD), .val (nD k), t8, t9, t10, .emp, .emp, .emp] φ' ∧ PrsOk cs P' ∧ P'.length = P.length + 2 ∧ Fed φ' ∧ (∀ a, t10 ≠ .own a) := by
  have C := Bb.toCs
  have hm := C.many
  have h5 := C.five
  have n0 := prod_pos' C
  have hlen : (plsD cs).length = prod cs := by unfold plsD; simp
  obtain ⟨v1, φ1, e1, l1, f1⟩ := pick_run (j := (prod cs : Nat)) f (by omega) (by omega)
  obtain ⟨v2, φ2, e2, l2, f2⟩ := pick_run (j := (prod cs : Nat)) f1 (by omega) (by omega)
  have a1 : L2.atI (plsD cs) (v1 : Int) = some (plD cs v1) := at_rng (by omega)
  have a2 : L2.atI (plsD cs) (v2 : Int) = some (plD cs v2) := at_rng (by omega)
  have r1 := rw_pla C v1
  have r2 := rw_pla C v2
  have hr := pla_len cs v1
  by_cases hk : k % 2 = 1
  · refine ⟨P ++ [(pla cs v1, trn cs (pla cs v1)), (trn cs (pla cs v1), pla cs v1)], .val (plD cs v1), .val (nT (trn cs (pla cs v1))), .val (.lst ((trn cs (pla cs v1)).map nD)), φ2, ?_, prs_app hP r1 (rw_trn C), by simp, f2, fun a h => by cases h⟩
    have q := lc_rng (φ := φ2) (p := .nm 11) (vs := [11]) (ρ := [.val .fd, .val (bdT cs ws), u, .val (.lst (plsD cs)), .val A, .val B, .own (P.map pD), .val (nD k), .val (plD cs v1), .val (plD cs v2), s10, .emp, .emp, .emp]) (te := mBin dMod (mB (mCons (mBin dAdd (mIxV 8 (mVar 11)) (mV (.int 1))) mNil) dInt) (mBin dIx (mIxV 1 (mV (.int 0))) (mVar 11))) (n := cs.length) (f := nD) (r := fun p => nD ((cn (pla cs v1) p + 1) % cn cs p)) (by omega) rfl (fun p hp => by
      refine ⟨_, pat_nm, rfl, .val (nD ((cn (pla cs v1) p + 1) % cn cs p)), ?_, rfl⟩
      have := cn_pos C.pos p
      simp [wipeR, at_n hp, at_n (cs := pla cs v1) (p := p) (by omega), x_mod (show (0 : Int) < (cn cs p : Nat) by omega)])
    rw [show (List.range cs.length).map (fun p => nD ((cn (pla cs v1) p + 1) % cn cs p)) = (trn cs (pla cs v1)).map nD by unfold trn; rw [List.map_map]; rfl] at q
    simp [backR, wipeR] at q
    have hk' : (k : Int) % 2 = 1 := by omega
    simp [hlen, e1, e2, a1, a2, band_1, hk', hr, x_rngN (show cs.length < 1000000000 by omega), q, x_tup, appO_own (ds := P.map pD) (by simp; omega), appO_own (ds := P.map pD ++ [pD (pla cs v1, trn cs (pla cs v1))]) (by simp; omega)]
  · refine ⟨P ++ [(pla cs v1, pla cs v2), (pla cs v2, pla cs v1)], .val (plD cs v1), .val (plD cs v2), s10, φ2, ?_, prs_app hP r1 r2, by simp, f2, h10⟩
    have hk' : ¬ (k : Int) % 2 = 1 := by omega
    simp [hlen, e1, e2, a1, a2, band_1, hk', x_tup, appO_own (ds := P.map pD) (by simp; omega), appO_own (ds := P.map pD ++ [pD (pla cs v1, pla cs v2)]) (by simp; omega)]
theorem rw_some {cs : List Nat} (C : Cs cs) (k : Nat) : Rw cs (pla cs k) := rw_pla C k
theorem differences_run {cs : List Nat} {ws : List Int} (Bb : Bo cs ws) (f : Fed φ) : ∃ φ', d_u_law_differences [.fd, bdT cs ws, uD cs (uv cs ws)] φ = .ok (.val (.bl true)) φ' ∧ Fed φ' := by
  have C := Bb.toCs
  have h5 := C.five
  have n0 := prod_pos' C
  obtain ⟨k1, hk1⟩ : ∃ k, k = prod cs - 1 := ⟨_, rfl⟩
  have pl := places_run (φ := φ) C
  have p0 : L2.atI (plsD cs) 0 = some (plD cs 0) := at_rng (k := 0) n0
  have pa : L2.atI (plsD cs) (-1) = some (plD cs k1) := by rw [hk1]; exact at_last n0
  obtain ⟨z, hz, hzr⟩ : ∃ z, (∀ ρ : List Sl, mIf (mTst (mUn dNotN (mVar 2))) (mVar 2) (mVar 5) [.val .fd, .val (bdT cs ws), .val (uD cs (uv cs ws)), .val (.lst (plsD cs)), .val (plD cs 0), .val (plD cs k1), .emp, .emp, .emp, .emp, .emp, .emp, .emp, .emp] φ = .ok (.val (nT z)) [.val .fd, .val (bdT cs ws), .val (uD cs (uv cs ws)), .val (.lst (plsD cs)), .val (plD cs 0), .val (plD cs k1), .emp, .emp, .emp, .emp, .emp, .emp, .emp, .emp] φ) ∧ Rw cs z := by
    cases uv cs ws with
    | none => exact ⟨pla cs k1, fun _ => by simp, rw_pla C k1⟩
    | some k => exact ⟨pla cs k, fun _ => by simp, rw_pla C k⟩
  have hz := hz []
  obtain ⟨P0, hP0⟩ : ∃ P, P = [(pla cs 0, pla cs k1), (pla cs k1, pla cs 0), (pla cs 0, z), (pla cs k1, pla cs k1)] := ⟨_, rfl⟩
  have ok0 : PrsOk cs P0 := fun p hp => by
    rw [hP0] at hp
    simp only [List.mem_cons, List.not_mem_nil, or_false] at hp
    rcases hp with rfl | rfl | rfl | rfl
    · exact ⟨rw_pla C 0, rw_pla C k1⟩
    · exact ⟨rw_pla C k1, rw_pla C 0⟩
    · exact ⟨rw_pla C 0, hzr⟩
    · exact ⟨rw_pla C k1, rw_pla C k1⟩
  obtain ⟨ρ1, φ1, e1, P, s7, s8, s9, s10, rfl, okP, lP, f1, h10⟩ := for_rng (φ := φ) (i := 7) (m := b_u_law_differences_1) (n := 6) (ρ := [.val .fd, .val (bdT cs ws), .val (uD cs (uv cs ws)), .val (.lst (plsD cs)), .val (plD cs 0), .val (plD cs k1), .own (P0.map pD), .emp, .emp, .emp, .emp, .emp, .emp, .emp])
    (fun k ρ φ' => ∃ P s7 s8 s9 s10, ρ = [.val .fd, .val (bdT cs ws), .val (uD cs (uv cs ws)), .val (.lst (plsD cs)), .val (plD cs 0), .val (plD cs k1), .own (P.map pD), s7, s8, s9, s10, .emp, .emp, .emp] ∧ PrsOk cs P ∧ P.length = 4 + 2 * k ∧ Fed φ' ∧ (∀ a, s10 ≠ .own a)) ⟨P0, _, _, _, _, rfl, ok0, by rw [hP0]; rfl, f, fun a h => by cases h⟩ (by
      rintro k ρ φ hk ⟨P, s7, s8, s9, s10, rfl, okP, lP, f, h10⟩
      obtain ⟨P', t8, t9, t10, φ', q, a, b, c, d⟩ := pair_run (φ := φ) (u := .val (uD cs (uv cs ws))) (s8 := s8) (s9 := s9) (s10 := s10) (A := plD cs 0) (B := plD cs k1) Bb okP (by omega) f k h10
      exact ⟨_, φ', q, P', _, _, _, _, rfl, a, by omega, c, d⟩)
  obtain ⟨ρ2, φ2, e2, s7', s12, rfl, rfl⟩ := for_rng (φ := φ1) (i := 7) (m := b_u_law_differences_2) (n := P.length) (ρ := [.val .fd, .val (bdT cs ws), .val (uD cs (uv cs ws)), .val (.lst (plsD cs)), .val (plD cs 0), .val (plD cs k1), .own (P.map pD), s7, s8, s9, s10, .emp, .emp, .emp])
    (fun k ρ φ' => ∃ s7 s12, ρ = [.val .fd, .val (bdT cs ws), .val (uD cs (uv cs ws)), .val (.lst (plsD cs)), .val (plD cs 0), .val (plD cs k1), .own (P.map pD), s7, s8, s9, s10, .emp, s12, .emp] ∧ φ' = φ1) ⟨_, _, rfl, rfl⟩ (by
      rintro k ρ φ hk ⟨s7, s12, rfl, rfl⟩
      have a : L2.atI (P.map pD) (k : Int) = some (pD P[k]) := atN (by rw [List.getElem?_map, List.getElem?_eq_getElem hk]; rfl)
      obtain ⟨r1, r2⟩ := okP P[k] (List.getElem_mem hk)
      have q := law_mixed (φ := φ) C Bb.len r1 r2
      have qa := fun o => asked_run (φ := φ) Bb r1 r2 o
      have qs := same_run (φ := φ) (dep_int (k := 3) (a := mxv (wf ws) (cn cs) (cn P[k].1) (cn P[k].2) cs.length))
      refine ⟨_, _, ?_, .val (nD k), .val (.int (mxv (wf ws) (cn cs) (cn P[k].1) (cn P[k].2) cs.length)), rfl, rfl⟩
      simp [a, q, qa, qs])
  have b1 := mixed_run (φ := φ2) C Bb.len (rw_pla C k1) (rw_pla C 0)
  have b2 := law_mixed (φ := φ2) C Bb.len (rw_pla C k1) (rw_pla C 0)
  have bs := same_run (φ := φ2) (dep_int (k := 3) (a := mxv (wf ws) (cn cs) (cn (pla cs k1)) (cn (pla cs 0)) cs.length))
  refine ⟨φ2, ?_, f1⟩
  have r6 : ∀ (ρ : List Sl) (φ : Ph), (rngD [.int 6] : M Ph (List D)) ρ φ = .ok ((List.range 6).map nD) ρ φ := fun ρ φ => x_rngN (n := 6) (by decide)
  rw [hP0] at e1
  simp only [List.map_cons, List.map_nil] at e1
  unfold d_u_law_differences m_u_law_differences
  simp at hz
  simp [pl, p0, pa, x_tup, x_lst, hz, r6, e1, x_rngN (show P.length < 1000000000 by omega), e2, b1, b2, bs, perm]
  trace_state
end L26
namespace L26
open PySem PySem.Spec L2 DN G26
open PyProof.Rows hiding St
variable {φ : Ph} {ρ : List Sl}
/-! ### quotients by one -/
abbrev qD (x : Int) : D := .tup [.int x, .int 1]
abbrev ab (x : Int) : Int := if x < 0 then -x else x
theorem cm1 {i : Int} : cMul i 1 := cm_r (by decide)
theorem cm1' {i : Int} : cMul 1 i := cm_l (by decide)
theorem cm0 {i : Int} : cMul 0 i := cm_l (by decide)
theorem lq_run (x : Int) : d_u_law_is_quotient [qD x] φ = .ok (.val (.bl true)) φ := by
  obtain ⟨k, hk⟩ : ∃ k, sizeR [.val (qD x), .val (.int (ab x)), .val (.int 1)] = k + 2 := ⟨2 + (ab x).natAbs, by simp [sizeR, sizeD] <;> omega⟩
  unfold d_u_law_is_quotient m_u_law_is_quotient
  simp [lint_run]
  unfold mWh
  simp only [hk]
  simp [x_wh1, x_mod (show (0 : Int) < 1 by decide)]
theorem cd_run (x : Int) : d_common_divisor [.int x, .int 1] φ = .ok (.val (.int 1)) φ := by
  obtain ⟨k, hk⟩ : ∃ k, sizeR [.val (.int (ab x)), .val (.int 1)] = k + 2 := ⟨(ab x).natAbs, by simp [sizeR, sizeD] <;> omega⟩
  unfold d_common_divisor m_common_divisor
  simp
  unfold mWh
  simp only [hk]
  simp [x_wh1, x_mod (show (0 : Int) < 1 by decide)]
theorem isq_run (x : Int) : d_is_quotient [qD x] φ = .ok (.val (.bl true)) φ := by
  unfold d_is_quotient m_is_quotient
  simp [isint_run, cd_run]
theorem areq_run (l : List Int) : d_are_quotients [.int (l.length : Nat), .tup (l.map qD)] φ = .ok (.val (.bl true)) φ := by
  have lp : ∀ (l' : List Int) (s : Sl), ∃ t, mFor (.nm 2) b_are_quotients_1 (l'.map qD) [.val (.int (l.length : Nat)), .val (.tup (l.map qD)), s] φ = .ok .nx [.val (.int (l.length : Nat)), .val (.tup (l.map qD)), t] φ := by
    intro l'
    induction l' with
    | nil => intro s; exact ⟨s, rfl⟩
    | cons x l' ih =>
      intro s
      obtain ⟨t, e⟩ := ih (.val (qD x))
      refine ⟨t, ?_⟩
      rw [List.map_cons, mFor_cons (ρ1 := [.val (.int (l.length : Nat)), .val (.tup (l.map qD)), .val (qD x)]) (φ2 := φ) (ρ2 := [.val (.int (l.length : Nat)), .val (.tup (l.map qD)), .val (qD x)]) (by simp) (by simp [isq_run]), e]
  obtain ⟨t, e⟩ := lp l .emp
  unfold d_are_quotients m_are_quotients
  simp [e]
theorem low_run (x : Int) : d_u_lowest_terms [.int x, .int 1] φ = .ok (.val (qD x)) φ := by
  unfold d_u_lowest_terms m_u_lowest_terms
  simp [cd_run, x_div (cd_s (i := x) (show (0 : Int) < 1 by decide) (by decide +kernel)), x_div (cd_s (i := 1) (show (0 : Int) < 1 by decide) (by decide +kernel)), x_tup]
theorem qof_run (x : Int) : d_quotient_of [.int x, .int 1] φ = .ok (.val (qD x)) φ := by
  unfold d_quotient_of m_quotient_of
  simp [isint_run, low_run]
theorem qsum_run (l : List Int) : d_quotient_sum [.lst (l.map qD)] φ = .ok (.val (qD l.sum)) φ := by
  have lp : ∀ (l' : List Int) (a : Int) (s t : Sl), ∃ s' t', mFor (.tp [.nm 3, .nm 4]) b_quotient_sum_1 (l'.map qD) [.val (.lst (l.map qD)), .val (.int a), .val (.int 1), s, t] φ = .ok .nx [.val (.lst (l.map qD)), .val (.int (a + l'.sum)), .val (.int 1), s', t'] φ := by
    intro l'
    induction l' with
    | nil => intro a s t; exact ⟨s, t, by simp [mFor_nil]⟩
    | cons x l' ih =>
      intro a s t
      obtain ⟨s', t', e⟩ := ih (a + x) (.val (.int x)) (.val (.int 1))
      refine ⟨s', t', ?_⟩
      rw [List.map_cons, mFor_cons (ρ1 := [.val (.lst (l.map qD)), .val (.int a), .val (.int 1), .val (.int x), .val (.int 1)]) (φ2 := φ) (ρ2 := [.val (.lst (l.map qD)), .val (.int (a + x)), .val (.int 1), .val (.int x), .val (.int 1)]) (by simp) (by simp [x_mod (show (0 : Int) < 1 by decide), x_div (cd_s (i := 1) (show (0 : Int) < 1 by decide) (by decide +kernel)), x_mul cm1]), e, List.sum_cons]
      simp [Int.add_assoc]
  obtain ⟨s', t', e⟩ := lp l 0 .emp .emp
  unfold d_quotient_sum m_quotient_sum
  simp at e
  simp [x_tup, e, qof_run]
end L26
namespace L26
open PySem PySem.Spec L2 DN G26
open PyProof.Rows hiding St
variable {φ : Ph} {ρ : List Sl}
/-! ### flat tables -/
abbrev fac (cs : List Nat) : Int := (cs.length : Int) - 1
def tabL (cs : List Nat) (ws : List Int) (p : Nat) : List Int := (List.range (Np cs p)).map fun j => fac cs * Lf cs ws p (un cs p j)
abbrev tabP (cs : List Nat) (ws : List Int) (p : Nat) : D := .tup ((tabL cs ws p).map qD)
abbrev tab (cs : List Nat) (ws : List Int) : D := .tup ((List.range cs.length).map (tabP cs ws))
theorem tabL_len (cs : List Nat) (ws : List Int) (p : Nat) : (tabL cs ws p).length = Np cs p := by unfold tabL; simp
theorem Np_le {cs : List Nat} (h : Pos cs) {p : Nat} (hp : p < cs.length) : Np cs p ≤ prod cs := by
  calc Np cs p = Pm cs p * B cs (p + 1) := rfl
    _ ≤ Pm cs p * B cs p := Nat.mul_le_mul_left _ (B_le h hp)
    _ = prod cs := prod_take p
theorem cm_fac {cs : List Nat} (C : Cs cs) (x : Int) : cMul (fac cs) x := cm_l (by have := C.five; unfold fac; omega)
theorem cm_fac' {cs : List Nat} (C : Cs cs) (x : Int) : cMul x (1 - (cs.length : Int)) := cm_r (by have := C.five; omega)
theorem cm_fac2 {cs : List Nat} (C : Cs cs) (x : Int) : cMul (1 - (cs.length : Int)) x := cm_l (by have := C.five; omega)
theorem flat_none {cs : List Nat} {ws : List Int} (C : Cs cs) (hw : ws.length = prod cs) (h : uv cs ws = none) : d_flat_tables [bdT cs ws] φ = .ok (.val (tab cs ws)) φ := by
  have hm := C.many
  have h5 := C.five
  have q1 := uneven_run (φ := φ) C hw
  rw [h] at q1
  have q2 := flattened_run (φ := φ) C hw
  have q3 := lc_rng (φ := φ) (p := .nm 7) (vs := [7]) (ρ := [.val (bdT cs ws), .val (nT cs), .val (iT ws), .val .non, .val (.lst ((List.range cs.length).map (partD cs ws))), .val (.int (fac cs)), .emp, .emp]) (te := mB (mCons (mLc (.nm 6) [6] (mIt (mVar 7)) mYes (mB (mCons (mBin dMul (mVar 5) (mVar 6)) (mCons (mV (.int 1)) mNil)) dTup)) mNil) dTuple) (n := cs.length) (f := partD cs ws) (r := tabP cs ws) (by omega) rfl (fun p hp => by
    have hN := Np_le C.pos hp
    have q4 := lc_rng (φ := φ) (p := .nm 6) (vs := [6]) (ρ := [.val (bdT cs ws), .val (nT cs), .val (iT ws), .val .non, .val (.lst ((List.range cs.length).map (partD cs ws))), .val (.int (fac cs)), .emp, .val (partD cs ws p)]) (te := mB (mCons (mBin dMul (mVar 5) (mVar 6)) (mCons (mV (.int 1)) mNil)) dTup) (n := Np cs p) (f := fun j => .int (Lf cs ws p (un cs p j))) (r := fun j => qD (fac cs * Lf cs ws p (un cs p j))) (by omega) rfl (fun j hj => by
      refine ⟨_, pat_nm, rfl, .val (qD (fac cs * Lf cs ws p (un cs p j))), ?_, rfl⟩
      simp [wipeR, x_mul (cm_fac C _), x_tup])
    rw [show (List.range (Np cs p)).map (fun j => D.int (Lf cs ws p (un cs p j))) = partL cs ws p from rfl, show (List.range (Np cs p)).map (fun j => qD (fac cs * Lf cs ws p (un cs p j))) = (tabL cs ws p).map qD by unfold tabL; rw [List.map_map]; rfl] at q4
    refine ⟨_, pat_nm, rfl, .val (tabP cs ws p), ?_, rfl⟩
    simp [backR, wipeR] at q4
    simp [wipeR, q4])
  simp [backR, wipeR] at q3
  unfold d_flat_tables m_flat_tables
  simp [q1, q2, q3]
theorem flat_some {cs : List Nat} {ws : List Int} (C : Cs cs) (hw : ws.length = prod cs) {k : Nat} (h : uv cs ws = some k) : d_flat_tables [bdT cs ws] φ = .err "Uneven" [plD cs k] φ := by
  have q1 := uneven_run (φ := φ) C hw
  rw [h] at q1
  unfold d_flat_tables m_flat_tables
  simp [q1]
theorem lflat_none {cs : List Nat} {ws : List Int} (C : Cs cs) (hw : ws.length = prod cs) (h : uv cs ws = none) : d_u_law_flat [bdT cs ws] φ = .ok (.val (.tup [.str "flat", tab cs ws])) φ := by
  have q := flat_none (φ := φ) C hw h
  unfold d_u_law_flat m_u_law_flat
  simp [q, perm, x_tup]
theorem lflat_some {cs : List Nat} {ws : List Int} (C : Cs cs) (hw : ws.length = prod cs) {k : Nat} (h : uv cs ws = some k) : d_u_law_flat [bdT cs ws] φ = .ok (.val (.tup [.str "uneven", plD cs k])) φ := by
  have q := flat_some (φ := φ) C hw h
  have t : ∀ ρ : List Sl, ρ.length = 2 → kTry 1 hit_Uneven ["place"] [.k "uneven", .f "place"] (.err "Uneven" [plD cs k] ρ φ) = .ok (.rt (.val (.tup [.str "uneven", plD cs k]))) ρ φ := fun ρ h => kTry_err rfl rfl (by show 2 ≤ 16777216; decide) (by omega)
  unfold d_u_law_flat m_u_law_flat
  simp [q, perm, t]
theorem uv_none {cs : List Nat} {ws : List Int} (h : uv cs ws = none) {k : Nat} (hk : k < prod cs) : Lf cs ws cs.length k = 0 := by
  have := List.find?_eq_none.mp h k (List.mem_range.mpr hk)
  simpa using this
theorem sum_mul (c : Int) (f : Nat → Int) : ∀ l : List Nat, (l.map fun q => c * f q).sum = c * (l.map f).sum
  | [] => by simp
  | x :: l => by rw [List.map_cons, List.map_cons, List.sum_cons, List.sum_cons, sum_mul c f l, Int.mul_add]
/-- what is due at a place adds up -/
theorem dues_sum {cs : List Nat} {ws : List Int} (h : uv cs ws = none) {k : Nat} (hk : k < prod cs) : ((List.range cs.length).map fun q => fac cs * Lf cs ws q (fst cs q k)).sum = fac cs * wf ws k := by
  have z : L cs (wf ws) cs.length k = 0 := uv_none h hk
  rw [sum_mul (fac cs) (fun q => Lf cs ws q (fst cs q k)), parts_sum, z, Int.sub_zero]
/-! ### .. as the law looks at them -/
def others (cs : List Nat) (p : Nat) : List Nat := cs.take p ++ cs.drop (p + 1)
theorem cs_others {cs : List Nat} (C : Cs cs) {p : Nat} (hp : p < cs.length) : Cs (others cs p) where
  five := by have := C.five; unfold others; simp; omega
  pos c hc := by
    rcases List.mem_append.mp hc with h | h
    · exact C.pos c (List.mem_of_mem_take h)
    · exact C.pos c (List.mem_of_mem_drop h)
  four c hc := by
    rcases List.mem_append.mp hc with h | h
    · exact C.four c (List.mem_of_mem_take h)
    · exact C.four c (List.mem_of_mem_drop h)
  many := by
    have := Np_le C.pos hp
    have := C.many
    unfold others
    rw [Np_others]
    omega
theorem oth_nD {cs : List Nat} {p : Nat} : (cs.map nD).take p ++ (cs.map nD).drop (p + 1) = (others cs p).map nD := by unfold others; simp
def tp (cs : List Nat) (ws : List Int) (k p : Nat) : Int := (1 - (cs.length : Int)) * wf ws k + ((List.range p).map fun q => fac cs * Lf cs ws q (fst cs q k)).sum
theorem tp_end {cs : List Nat} {ws : List Int} (h : uv cs ws = none) {k : Nat} (hk : k < prod cs) : tp cs ws k cs.length = 0 := by
  unfold tp
  rw [dues_sum h hk, ← Int.add_mul]
  unfold fac
  rw [show 1 - (cs.length : Int) + ((cs.length : Int) - 1) = 0 by omega, Int.zero_mul]
theorem tabL_at {cs : List Nat} {ws : List Int} (C : Cs cs) {k p : Nat} (hk : k < prod cs) (hp : p < cs.length) : L2.atI ((tabL cs ws p).map qD) (chc cs p k : Int) = some (qD (fac cs * Lf cs ws p (fst cs p k))) := by
  unfold tabL
  rw [List.map_map]
  rw [at_rng (chc_lt C.pos hk hp)]
  show some (qD (fac cs * Lf cs ws p (un cs p (chc cs p k)))) = _
  rw [un_chc C.pos]
theorem isflat_run {cs : List Nat} {ws : List Int} (C : Cs cs) (hw : ws.length = prod cs) (h : uv cs ws = none) : d_u_law_is_flat [bdT cs ws, tab cs ws] φ = .ok (.val (.bl true)) φ := by
  have hm := C.many
  have h5 := C.five
  have plA := places_run (φ := φ) C
  obtain ⟨ρ1, φ, e1, s4, s5, rfl, rfl⟩ := for_rng (φ := φ) (i := 4) (m := b_u_law_is_flat_1) (n := cs.length) (ρ := [.val (bdT cs ws), .val (tab cs ws), .val (nT cs), .val (nD cs.length), .emp, .emp, .emp, .emp, .emp, .emp, .emp])
    (fun p ρ φ' => ∃ s4 s5, ρ = [.val (bdT cs ws), .val (tab cs ws), .val (nT cs), .val (nD cs.length), s4, s5, .emp, .emp, .emp, .emp, .emp] ∧ φ' = φ) ⟨_, _, rfl, rfl⟩ (by
      rintro p ρ φ hp ⟨s4, s5, rfl, rfl⟩
      have hN := Np_le C.pos hp
      have pl := places_run (φ := φ) (cs_others C hp)
      have lo : (plsD (others cs p)).length = Np cs p := by unfold plsD others; simp [Np_others]
      have q := lc_fil (φ := φ) (p := .nm 6) (vs := [6]) (ρ := [.val (bdT cs ws), .val (tab cs ws), .val (nT cs), .val (nD cs.length), .val (nD p), .val (nD (Np cs p)), .emp, .emp, .emp, .emp, .emp]) (tt := mNotT (mTst (mCall d_u_law_is_quotient (mCons (mVar 6) mNil)))) (te := mVar 6) (l := tabL cs ws p) (f := qD) (r := qD) (fun _ => false) (by rw [tabL_len]; omega) rfl (fun x hx => ⟨_, pat_nm, rfl, by simp [wipeR, lq_run], fun hb => by cases hb⟩)
      have at1 : L2.atI ((List.range cs.length).map (tabP cs ws)) (p : Int) = some (tabP cs ws p) := at_rng hp
      refine ⟨_, _, ?_, .val (nD p), .val (nD (Np cs p)), rfl, rfl⟩
      simp [backR, wipeR] at q
      simp [take_nD (cs := cs) (p := p) (by omega), drop_nD hp, x_addT (xs := (cs.map nD).take p) (ys := (cs.map nD).drop (p + 1)) (by simp; omega)]
      rw [oth_nD]
      simp [pl, lo, at1, tabL_len, q])
  obtain ⟨ρ2, φ, e2, t4, t6, t8, t9, t10, rfl, rfl⟩ := for_rng (φ := φ) (i := 8) (m := b_u_law_is_flat_2) (n := prod cs) (ρ := [.val (bdT cs ws), .val (tab cs ws), .val (nT cs), .val (nD cs.length), s4, s5, .emp, .val (.lst (plsD cs)), .emp, .emp, .emp])
    (fun k ρ φ' => ∃ s4 s6 s8 s9 s10, ρ = [.val (bdT cs ws), .val (tab cs ws), .val (nT cs), .val (nD cs.length), s4, s5, s6, .val (.lst (plsD cs)), s8, s9, s10] ∧ φ' = φ) ⟨_, _, _, _, _, rfl, rfl⟩ (by
      rintro k ρ φ hk ⟨s4, s6, s8, s9, s10, rfl, rfl⟩
      obtain ⟨ρ3, φ, e3, t4, t6, rfl, rfl⟩ := for_rng (φ := φ) (i := 4) (m := b_u_law_is_flat_3) (n := cs.length) (ρ := [.val (bdT cs ws), .val (tab cs ws), .val (nT cs), .val (nD cs.length), s4, s5, s6, .val (.lst (plsD cs)), .val (nD k), .val (.int (tp cs ws k 0)), .val (.int 1)])
        (fun p ρ φ' => ∃ s4 s6, ρ = [.val (bdT cs ws), .val (tab cs ws), .val (nT cs), .val (nD cs.length), s4, s5, s6, .val (.lst (plsD cs)), .val (nD k), .val (.int (tp cs ws k p)), .val (.int 1)] ∧ φ' = φ) ⟨_, _, rfl, rfl⟩ (by
          rintro p ρ φ hp ⟨s4, s6, rfl, rfl⟩
          have a7 : L2.atI (plsD cs) (k : Int) = some (plD cs k) := at_rng hk
          have at1 : L2.atI ((List.range cs.length).map (tabP cs ws)) (p : Int) = some (tabP cs ws p) := at_rng hp
          have ch := choice_run (φ := φ) C hp hk
          have at2 := tabL_at (ws := ws) C hk hp
          refine ⟨_, _, ?_, .val (nD p), .val (qD (fac cs * Lf cs ws p (fst cs p k))), rfl, rfl⟩
          simp [a7, at1, ch, at2, x_mul cm1, tp, List.range_succ, Int.add_assoc])
      have a5 : L2.atI (ws.map D.int) (k : Int) = some (.int (wf ws k)) := at_i (by omega)
      rw [tp_end h hk] at e3
      have e0 : tp cs ws k 0 = (1 - (cs.length : Int)) * wf ws k := by unfold tp; simp
      rw [e0] at e3
      refine ⟨_, _, ?_, t4, t6, .val (nD k), .val (.int 0), .val (.int 1), rfl, rfl⟩
      simp [a5, x_mul (cm_fac2 C _), x_rngN (show cs.length < 1000000000 by omega), e3])
  have hlen : (plsD cs).length = prod cs := by unfold plsD; simp
  unfold d_u_law_is_flat m_u_law_is_flat
  simp [x_rngN (show cs.length < 1000000000 by omega), e1, plA, hlen, x_rngN (show prod cs < 1000000000 by omega), e2]
end L26
namespace L26
open PySem PySem.Spec L2 DN G26
open PyProof.Rows hiding St
variable {φ : Ph} {ρ : List Sl}
/-! ### the till -/
theorem oth_run {cs : List Nat} {p : Nat} (C : Cs cs) (hp : p < cs.length) : d_others_counts [nT cs, .int (p : Nat)] φ = .ok (.val (nT (others cs p))) φ := by
  have h5 := C.five
  unfold d_others_counts m_others_counts
  simp [take_nD (cs := cs) (p := p) (by omega), drop_nD hp, x_addT (xs := (cs.map nD).take p) (ys := (cs.map nD).drop (p + 1)) (by simp; omega)]
  rw [oth_nD]
theorem istab_run {cs : List Nat} {ws : List Int} (C : Cs cs) : d_is_tables [bdT cs ws, tab cs ws] φ = .ok (.val (.bl true)) φ := by
  obtain ⟨ρ1, φ, e1, s3, s4, rfl, rfl⟩ := for_all (φ := φ) (p := .tp [.nm 3, .nm 4]) (m := b_is_tables_1) (n := cs.length) (f := fun p => .tup [nD p, tabP cs ws p]) (ρ := [.val (bdT cs ws), .val (tab cs ws), .val (nT cs), .emp, .emp])
    (fun p ρ φ' => ∃ s3 s4, ρ = [.val (bdT cs ws), .val (tab cs ws), .val (nT cs), s3, s4] ∧ φ' = φ) ⟨_, _, rfl, rfl⟩ (by
      rintro p ρ φ hp ⟨s3, s4, rfl, rfl⟩
      have a := oth_run (φ := φ) C hp
      have b := size_cs (φ := φ) (cs_others C hp)
      rw [show prod (others cs p) = (tabL cs ws p).length by rw [tabL_len]; exact Np_others p] at b
      have c := areq_run (φ := φ) (tabL cs ws p)
      exact ⟨_, _, _, pat_2, by simp [a, b, c], .val (nD p), .val (tabP cs ws p), rfl, rfl⟩)
  rw [← enD_rng] at e1
  unfold d_is_tables m_is_tables
  simp [e1]
theorem till_list_run {cs : List Nat} {ws : List Int} (C : Cs cs) (hw : ws.length = prod cs) (h : uv cs ws = none) : d_till_list [bdT cs ws, tab cs ws] φ = .ok (.val (.lst (List.replicate (prod cs) (qD 0)))) φ := by
  have hm := C.many
  have h5 := C.five
  let chD : Nat → D := fun p => .lst ((List.range (prod cs)).map fun k => nD (chc cs p k))
  have q1 := lc_rng (φ := φ) (p := .nm 6) (vs := [6]) (ρ := [.val (bdT cs ws), .val (tab cs ws), .val (nT cs), .val (iT ws), .val (nD cs.length), .emp, .emp, .emp, .emp, .emp, .emp]) (te := mCall d_choices_by_place (mCons (mVar 2) (mCons (mVar 6) mNil))) (n := cs.length) (f := nD) (r := fun p => .lst ((List.range (prod cs)).map fun k => nD (chc cs p k))) (by omega) rfl (fun p hp => by
    have c := choices_run (φ := φ) C hp
    refine ⟨_, pat_nm, rfl, .new ((List.range (prod cs)).map fun k => nD (chc cs p k)), ?_, rfl⟩
    simp [wipeR, c])
  obtain ⟨CH, hCH⟩ : ∃ CH, CH = (List.range cs.length).map fun p => D.lst ((List.range (prod cs)).map fun k => nD (chc cs p k)) := ⟨_, rfl⟩
  rw [← hCH] at q1
  obtain ⟨ρ1, φ, e1, s8, s9, s10, rfl, rfl⟩ := for_all (φ := φ) (p := .tp [.nm 8, .nm 9]) (m := b_till_list_1) (n := prod cs) (f := fun k => .tup [nD k, .int (Lf cs ws 0 k)]) (ρ := [.val (bdT cs ws), .val (tab cs ws), .val (nT cs), .val (iT ws), .val (nD cs.length), .own CH, .emp, .own (List.replicate 0 (qD 0)), .emp, .emp, .emp])
    (fun k ρ φ' => ∃ s8 s9 s10, ρ = [.val (bdT cs ws), .val (tab cs ws), .val (nT cs), .val (iT ws), .val (nD cs.length), .own CH, .emp, .own (List.replicate k (qD 0)), s8, s9, s10] ∧ φ' = φ) ⟨_, _, _, rfl, rfl⟩ (by
      rintro k ρ φ hk ⟨s8, s9, s10, rfl, rfl⟩
      have q2 := lc_rng (φ := φ) (p := .nm 6) (vs := [6]) (ρ := [.val (bdT cs ws), .val (tab cs ws), .val (nT cs), .val (iT ws), .val (nD cs.length), .own CH, .emp, .own (List.replicate k (qD 0)), .val (nD k), .val (.int (Lf cs ws 0 k)), s10]) (te := mBin dIx (mIxV 1 (mVar 6)) (mBin dIx (mIxV 5 (mVar 6)) (mVar 8))) (n := cs.length) (f := nD) (r := fun p => qD (fac cs * Lf cs ws p (fst cs p k))) (by omega) rfl (fun p hp => by
        have at1 : L2.atI ((List.range cs.length).map (tabP cs ws)) (p : Int) = some (tabP cs ws p) := at_rng hp
        have at2 := tabL_at (ws := ws) C hk hp
        have at3 : L2.atI CH (p : Int) = some (.lst ((List.range (prod cs)).map fun k => nD (chc cs p k))) := by rw [hCH]; exact at_rng hp
        have at4 : L2.atI ((List.range (prod cs)).map fun k => nD (chc cs p k)) (k : Int) = some (nD (chc cs p k)) := at_rng hk
        refine ⟨_, pat_nm, rfl, .val (qD (fac cs * Lf cs ws p (fst cs p k))), ?_, rfl⟩
        simp [wipeR, at1, at3, at4, at2])
      have q3 := qsum_run (φ := φ) ((List.range cs.length).map (fun p => fac cs * Lf cs ws p (fst cs p k)) ++ [Lf cs ws 0 k * (1 - (cs.length : Int))])
      have z : ((List.range cs.length).map (fun p => fac cs * Lf cs ws p (fst cs p k)) ++ [Lf cs ws 0 k * (1 - (cs.length : Int))]).sum = 0 := by
        rw [List.sum_append_int, dues_sum h hk]
        show fac cs * wf ws k + (wf ws k * (1 - (cs.length : Int)) + 0) = 0
        rw [Int.mul_comm (wf ws k), Int.add_zero, ← Int.add_mul]
        unfold fac
        rw [show (cs.length : Int) - 1 + (1 - (cs.length : Int)) = 0 by omega, Int.zero_mul]
      rw [z] at q3
      obtain ⟨DU, hDU⟩ : ∃ DU, DU = (List.range cs.length).map fun p => qD (fac cs * Lf cs ws p (fst cs p k)) := ⟨_, rfl⟩
      have hDUl : DU.length = cs.length := by rw [hDU]; simp
      rw [← hDU] at q2
      rw [List.map_append, List.map_map, show (List.range cs.length).map (qD ∘ fun p => fac cs * Lf cs ws p (fst cs p k)) = DU by rw [hDU]; rfl] at q3
      simp only [List.map_cons, List.map_nil] at q3
      refine ⟨_, _, _, pat_2, ?_, .val (nD k), .val (.int (Lf cs ws 0 k)), .val (.lst (DU ++ [qD (Lf cs ws 0 k * (1 - (cs.length : Int)))])), rfl, rfl⟩
      simp [backR, wipeR] at q2
      simp [x_rngN (show cs.length < 1000000000 by omega), q2, x_mul (cm_fac' C _), x_tup, appO_own (ds := DU) (by omega), q3, appO_own (ds := List.replicate k (qD 0)) (by simp; omega)]
      rw [List.replicate_succ'])
  rw [← enD_rng, show (List.range (prod cs)).map (fun k => D.int (Lf cs ws 0 k)) = leftD cs ws 0 from rfl, ← left0 hw] at e1
  simp [backR, wipeR] at q1
  simp at e1
  unfold d_till_list m_till_list
  simp [x_rngN (show cs.length < 1000000000 by omega), q1, x_lst, e1]
theorem till_row_run {cs : List Nat} {ws : List Int} (C : Cs cs) (hw : ws.length = prod cs) (h : uv cs ws = none) : d_till_row [bdT cs ws, tab cs ws] φ = .ok (.val (.tup (List.replicate (prod cs) (qD 0)))) φ := by
  unfold d_till_row m_till_row
  simp [istab_run (φ := φ) (ws := ws) C, till_list_run (φ := φ) C hw h]
theorem ends_run {n : Nat} (hn : 0 < n) : d_ends_of_quotients [.lst (List.replicate n (qD 0))] φ = .ok (.val (.tup [qD 0, qD 0])) φ := by
  have iu : ∀ φ : Ph, d_is_under [qD 0, qD 0] φ = .ok (.val (.bl false)) φ := fun φ => by
    unfold d_is_under m_is_under
    simp [x_mul cm1]
  have lp : ∀ (m : Nat) (s : Sl), ∃ t, mFor (.nm 3) b_ends_of_quotients_1 (List.replicate m (qD 0)) [.val (.lst (List.replicate n (qD 0))), .val (qD 0), .val (qD 0), s] φ = .ok .nx [.val (.lst (List.replicate n (qD 0))), .val (qD 0), .val (qD 0), t] φ := by
    intro m
    induction m with
    | zero => intro s; exact ⟨s, rfl⟩
    | succ m ih =>
      intro s
      obtain ⟨t, e⟩ := ih (.val (qD 0))
      refine ⟨t, ?_⟩
      rw [List.replicate_succ, mFor_cons (ρ1 := [.val (.lst (List.replicate n (qD 0))), .val (qD 0), .val (qD 0), .val (qD 0)]) (φ2 := φ) (ρ2 := [.val (.lst (List.replicate n (qD 0))), .val (qD 0), .val (qD 0), .val (qD 0)]) (by simp) (by simp [iu]), e]
  obtain ⟨t, e⟩ := lp n .emp
  have a0 : L2.atI (List.replicate n (qD 0)) 0 = some (qD 0) := by
    have := atN (xs := List.replicate n (qD 0)) (k := 0) (d := qD 0) (by rw [List.getElem?_replicate, if_pos hn])
    exact this
  unfold d_ends_of_quotients m_ends_of_quotients
  simp [a0, e, x_tup]
theorem minus_run : d_minus [qD 0, qD 0] φ = .ok (.val (qD 0)) φ := by
  unfold d_minus m_minus d_u_need_quotients m_u_need_quotients
  simp [isq_run, x_mul cm1, low_run]
theorem till_span_run {cs : List Nat} {ws : List Int} (C : Cs cs) (hw : ws.length = prod cs) (h : uv cs ws = none) : d_till_span [bdT cs ws, tab cs ws] φ = .ok (.val (qD 0)) φ := by
  unfold d_till_span m_till_span
  simp [istab_run (φ := φ) (ws := ws) C, till_list_run (φ := φ) C hw h, ends_run (φ := φ) (prod_pos' C), minus_run (φ := φ)]
end L26
namespace L26
open PySem PySem.Spec L2 DN G26
open PyProof.Rows hiding St
variable {φ : Ph} {ρ : List Sl}
/-! ### the counts that are drawn -/
theorem cn_mem {cs : List Nat} {p : Nat} (h : p < cs.length) : cn cs p ∈ cs := List.mem_of_getElem? (cn_get h)
structure Cz (m : Nat) (cs : List Nat) : Prop where
  len : cs.length = m
  pos : Pos cs
  four : ∀ c, c ∈ cs → c ≤ 4
  many : prod cs ≤ 40
theorem cz0 : Cz 0 [] := ⟨rfl, fun c h => (List.not_mem_nil h).elim, fun c h => (List.not_mem_nil h).elim, by decide⟩
theorem cz_app {m c : Nat} {cs : List Nat} (h : Cz m cs) (h1 : 0 < c) (h4 : c ≤ 4) (hm : prod cs * c ≤ 40) : Cz (m + 1) (cs ++ [c]) where
  len := by simp [h.len]
  pos x hx := by
    rcases List.mem_append.mp hx with q | q
    · exact h.pos x q
    · rw [List.mem_singleton.mp q]; exact h1
  four x hx := by
    rcases List.mem_append.mp hx with q | q
    · exact h.four x q
    · rw [List.mem_singleton.mp q]; exact h4
  many := by rw [prod_append]; simpa [prod] using hm
theorem app_prod {cs : List Nat} {c : Nat} : prod (cs ++ [c]) = prod cs * c := by rw [prod_append]; simp [prod]
theorem counts_run (f : Fed φ) : ∃ cs φ', d_u_law_counts [.fd] φ = .ok (.val (nT cs)) φ' ∧ Cs cs ∧ 2 ≤ cs.length ∧ Fed φ' := by
  obtain ⟨v, φ1, e1, hv, f1⟩ := pick_run (j := 8) f (by decide) (by decide)
  have a1 : L2.atI ([.int 2, .int 3, .int 2, .int 3, .int 4, .int 3, .int 2, .int 5] : List D) (v : Int) = some (.int (cn [2, 3, 2, 3, 4, 3, 2, 5] v : Nat)) := at_n (cs := [2, 3, 2, 3, 4, 3, 2, 5]) (by simp; omega)
  have b1 : ∀ c, c ∈ [2, 3, 2, 3, 4, 3, 2, 5] → 2 ≤ c ∧ c ≤ 5 := by decide
  have b1 := b1 _ (cn_mem (cs := [2, 3, 2, 3, 4, 3, 2, 5]) (p := v) (by simp; omega))
  generalize cn [2, 3, 2, 3, 4, 3, 2, 5] v = n at a1 b1
  obtain ⟨ρ1, φ2, e2, cs, s4, s5, rfl, hc, f2⟩ := for_rng (φ := φ1) (i := 4) (m := b_u_law_counts_1) (n := n) (ρ := [.val .fd, .val (nD n), .own (([] : List Nat).map nD), .val (nD (prod [])), .emp, .emp])
    (fun k ρ φ' => ∃ cs s4 s5, ρ = [.val .fd, .val (nD n), .own (cs.map nD), .val (nD (prod cs)), s4, s5] ∧ Cz k cs ∧ Fed φ') ⟨[], _, _, rfl, cz0, f1⟩ (by
      rintro k ρ φ hk ⟨cs, s4, s5, rfl, hc, f⟩
      obtain ⟨v, φ1, e1, hv, f1⟩ := pick_run (j := 8) f (by decide) (by decide)
      have a1 : L2.atI ([.int 2, .int 3, .int 2, .int 4, .int 2, .int 3, .int 2, .int 1] : List D) (v : Int) = some (.int (cn [2, 3, 2, 4, 2, 3, 2, 1] v : Nat)) := at_n (cs := [2, 3, 2, 4, 2, 3, 2, 1]) (by simp; omega)
      have b1 : ∀ c, c ∈ [2, 3, 2, 4, 2, 3, 2, 1] → 1 ≤ c ∧ c ≤ 4 := by decide
      have b1 := b1 _ (cn_mem (cs := [2, 3, 2, 4, 2, 3, 2, 1]) (p := v) (by simp; omega))
      generalize cn [2, 3, 2, 4, 2, 3, 2, 1] v = c at a1 b1
      have hm := hc.many
      have hl := hc.len
      have apl : (cs.map nD).length < 16777216 := by simp; omega
      have lt8 : [D.int 2, .int 3, .int 2, .int 4, .int 2, .int 3, .int 2, .int 1].length ≤ 16777216 := by decide
      by_cases h : prod cs * c ≤ 40
      · refine ⟨_, φ1, ?_, cs ++ [c], .val (nD k), .val (nD c), rfl, cz_app hc (by omega) (by omega) h, f1⟩
        have hh : ¬ (40 : Int) < (prod cs : Int) * (c : Int) := by exact_mod_cast (by omega : ¬ 40 < prod cs * c)
        simp [x_tup, e1, a1, x_mul (cmN (i := (prod cs : Int)) (n := c) (by omega)), hh, appO_own (ds := cs.map nD) apl, app_prod]
      · have hh : (40 : Int) < (prod cs : Int) * (c : Int) := by exact_mod_cast (by omega : 40 < prod cs * c)
        by_cases h2 : prod cs < 21
        · refine ⟨_, φ1, ?_, cs ++ [2], .val (nD k), .val (nD 2), rfl, cz_app hc (by omega) (by omega) (by omega), f1⟩
          have h2' : (prod cs : Int) < 21 := by omega
          simp [x_tup, e1, a1, x_mul (cmN (i := (prod cs : Int)) (n := c) (by omega)), hh, h2', appO_own (ds := cs.map nD) apl, app_prod, x_mul (cm_r (i := (prod cs : Int)) (j := 2) (by decide))]
        · refine ⟨_, φ1, ?_, cs ++ [1], .val (nD k), .val (nD 1), rfl, cz_app hc (by omega) (by omega) (by omega), f1⟩
          have h2' : ¬ (prod cs : Int) < 21 := by omega
          simp [x_tup, e1, a1, x_mul (cmN (i := (prod cs : Int)) (n := c) (by omega)), hh, h2', appO_own (ds := cs.map nD) apl, app_prod, x_mul (cm_r (i := (prod cs : Int)) (j := 1) (by decide))])
  have hl := hc.len
  refine ⟨cs, φ2, ?_, ⟨by omega, hc.pos, hc.four, hc.many⟩, by omega, f2⟩
  rw [show nD (prod []) = D.int 1 from rfl, List.map_nil] at e2
  unfold d_u_law_counts m_u_law_counts
  simp [x_tup, x_lst, e1, a1, x_rngN (show n < 1000000000 by omega), e2]
end L26
namespace L26
open PySem PySem.Spec L2 DN G26
open PyProof.Rows hiding St
variable {φ : Ph} {ρ : List Sl}
/-! ### the board that is drawn, part by part -/
abbrev w_0 : M Ph Fl := (mAsg 1 (mCall d_u_law_counts (mCons (mVar 0) mNil)))
abbrev w_1 : M Ph Fl := (mAsg 2 (mCall d_u_law_places (mCons (mVar 1) mNil)))
abbrev w_2 : M Ph Fl := (mAsg 3 (mLc (.nm 4) [4] (mIt (mVar 2)) mYes (mV (.int 0))))
abbrev w_3 : M Ph Fl := (mB (mRng (mCons (mLenV 1) mNil)) (mFor (.nm 5)
    (mSeq (mAsg 6 (mLc (.nm 4) [4] (mIt (mVar 2)) mYes (mBin dSub (mCall d_u_law_pick (mCons (mVar 0) (mCons (mV (.int 9)) mNil))) (mV (.int 4)))))
    (mB (mRng (mCons (mLenV 2) mNil)) (mFor (.nm 7)
    (mSetIx 3 (mVar 7) (mBin dAdd (mIxV 3 (mVar 7)) (mIxV 6 (mCall d_u_law_choice (mCons (mVar 1) (mCons (mVar 5) (mCons (mIxV 2 (mVar 7)) mNil))))))))))))
abbrev w_4 : M Ph Fl := (mAsg 8 (mCall d_u_law_pick (mCons (mVar 0) (mCons (mV (.int 6)) mNil))))
abbrev w_5 : M Ph Fl := (mIfS (mTst (mBin dEq (mVar 8) (mV (.int 3))))
    (mSeq (mAsg 9 (mIf (mTst (mBin dEq (mCall d_u_law_pick (mCons (mVar 0) (mCons (mV (.int 3)) mNil))) (mV (.int 0)))) (mBin dSub (mLenV 2) (mV (.int 1))) (mCall d_u_law_pick (mCons (mVar 0) (mCons (mLenV 2) mNil)))))
    (mSetIx 3 (mVar 9) (mBin dAdd (mIxV 3 (mVar 9)) (mBin dIx (mB (mCons (mV (.int 1)) (mCons (mUn dNeg (mV (.int 1))) (mCons (mV (.int 4)) (mCons (mUn dNeg (mV (.int 3))) mNil)))) dTup) (mCall d_u_law_pick (mCons (mVar 0) (mCons (mV (.int 4)) mNil)))))))
    (mP .nx))
abbrev w_6 : M Ph Fl := (mIfS (mTst (mBin dEq (mVar 8) (mV (.int 4))))
    (mSeq (mAsg 10 (mLc (.nm 11) [11] (mIt (mVar 1)) mYes (mCall d_u_law_pick (mCons (mVar 0) (mCons (mVar 11) mNil)))))
    (mSeq (mAsg 12 (mBin dAdd (mV (.int 1)) (mCall d_u_law_pick (mCons (mVar 0) (mCons (mV (.int 5)) mNil)))))
    (mB (mRng (mCons (mLenV 2) mNil)) (mFor (.nm 7)
    (mIfS (mTst (mBin dEq (mB (mCons (mLc (.nm 13) [13] (mRng (mCons (mLenV 1) mNil)) (mAndT (mTst (mBin dNe (mBin dIx (mIxV 2 (mVar 7)) (mVar 13)) (mV (.int 0)))) (mTst (mBin dNe (mBin dIx (mIxV 2 (mVar 7)) (mVar 13)) (mIxV 10 (mVar 13))))) (mVar 13)) mNil) dLen) (mV (.int 0))))
    (mSetIx 3 (mVar 7) (mBin dAdd (mIxV 3 (mVar 7)) (mBin dMul (mVar 12) (mBin dSub (mV (.int 1)) (mBin dMul (mV (.int 2)) (mB (mCons (mBin dAnd (mB (mCons (mIxV 2 (mVar 7)) mNil) dSum) (mV (.int 1))) mNil) dInt))))))
    (mP .nx))))))
    (mP .nx))
abbrev w_7 : M Ph Fl := (mIfS (mTst (mBin dEq (mVar 8) (mV (.int 5))))
    (mAsg 3 (mLc (.nm 4) [4] (mIt (mVar 2)) mYes (mBin dSub (mCall d_u_law_pick (mCons (mVar 0) (mCons (mV (.int 19)) mNil))) (mV (.int 9)))))
    (mP .nx))
abbrev w_8 : M Ph Fl := (mIfS (mTst (mBin dEq (mCall d_u_law_pick (mCons (mVar 0) (mCons (mV (.int 16)) mNil))) (mV (.int 7))))
    (mAsg 3 (mLc (.nm 14) [14] (mIt (mVar 3)) mYes (mBin dMul (mVar 14) (mBin dPow (mV (.int 10)) (mV (.int 28))))))
    (mP .nx))
abbrev w_9 : M Ph Fl := (mRet (mB (mCons (mVar 1) (mCons (mB (mCons (mVar 3) mNil) dTuple) mNil)) dTup))
structure Wk (N b : Nat) (W : List Int) : Prop where
  len : W.length = N
  bd : ∀ w, w ∈ W → w.natAbs ≤ b
theorem wk_mono {N b b' : Nat} {W : List Int} (h : Wk N b W) (k : b ≤ b') : Wk N b' W := ⟨h.len, fun w hw => Nat.le_trans (h.bd w hw) k⟩
theorem wk_set {N b b' : Nat} {W : List Int} (h : Wk N b W) (k : b ≤ b') {v : Int} (hv : v.natAbs ≤ b') (j : Nat) : Wk N b' (W.set j v) := ⟨by simp [h.len], fun w hw => by
  rcases List.mem_or_eq_of_mem_set hw with q | q
  · exact Nat.le_trans (h.bd w q) k
  · rw [q]; exact hv⟩
theorem wf_bd {N b : Nat} {W : List Int} (h : Wk N b W) {k : Nat} (hk : k < N) : (wf W k).natAbs ≤ b := by
  have hk' : k < W.length := by rw [h.len]; exact hk
  unfold wf
  rw [List.getD_eq_getElem?_getD, List.getElem?_eq_getElem hk']
  exact h.bd _ (List.getElem_mem hk')
theorem ints_pr {P : Int → Prop} : ∀ {l : List D}, (∀ d, d ∈ l → ∃ x, d = .int x ∧ P x) → ∃ xs : List Int, l = xs.map D.int ∧ ∀ x, x ∈ xs → P x
  | [], _ => ⟨[], rfl, fun _ h => (List.not_mem_nil h).elim⟩
  | d :: l, h => by
    obtain ⟨x, e, p⟩ := h d List.mem_cons_self
    obtain ⟨xs, e2, q⟩ := ints_pr fun d hd => h d (List.mem_cons_of_mem _ hd)
    refine ⟨x :: xs, by rw [e, e2]; rfl, fun y hy => ?_⟩
    rcases List.mem_cons.mp hy with rfl | hy
    · exact p
    · exact q y hy
abbrev SB (cs : List Nat) (W : List Int) (s5 s6 s7 s8 s9 s10 s12 : Sl) : List Sl := [.val .fd, .val (nT cs), .val (.lst (plsD cs)), .own (W.map D.int), .emp, s5, s6, s7, s8, s9, s10, .emp, s12, .emp, .emp]
theorem pls_len (cs : List Nat) : (plsD cs).length = prod cs := by unfold plsD; simp
/-- numbers drawn, one for each place -/
theorem draw_pls {cs : List Nat} {W : List Int} {s5 s6 s7 s8 s9 s10 s12 : Sl} (C : Cs cs) (f : Fed φ) (j c : Int) (b : Nat) (hj : 0 < j) (hj2 : j < 1000000000) (hb : ∀ v : Nat, (v : Int) < j → ((v : Int) - c).natAbs ≤ b) :
    ∃ (X : List Int) (φ' : Ph), mLcD (.nm 4) [4] mYes (mBin dSub (mCall d_u_law_pick (mCons (mVar 0) (mCons (mV (.int j)) mNil))) (mV (.int c))) (plsD cs) (SB cs W s5 s6 s7 s8 s9 s10 s12) φ = .ok (.new (X.map D.int)) (SB cs W s5 s6 s7 s8 s9 s10 s12) φ' ∧ Wk (prod cs) b X ∧ Fed φ' := by
  have hm := C.many
  obtain ⟨r, φ', e, hl, hp, f'⟩ := lc_inv (φ := φ) (p := .nm 4) (vs := [4]) (te := mBin dSub (mCall d_u_law_pick (mCons (mVar 0) (mCons (mV (.int j)) mNil))) (mV (.int c))) (ρ := SB cs W s5 s6 s7 s8 s9 s10 s12) (l := List.range (prod cs)) (f := plD cs) Fed (fun d => ∃ x, d = .int x ∧ x.natAbs ≤ b) (by simp; omega) rfl f (fun k φ hk f => by
    obtain ⟨v, φ1, e1, hv, f1⟩ := pick_run (j := j) f hj hj2
    refine ⟨_, pat_nm, rfl, .val (.int ((v : Int) - c)), φ1, ?_, ⟨_, rfl, hb v hv⟩, f1⟩
    simp [wipeR, e1])
  obtain ⟨X, rfl, hX⟩ := ints_pr hp
  exact ⟨X, φ', e, ⟨by simpa using hl, hX⟩, f'⟩
theorem w3_run {cs : List Nat} (C : Cs cs) (f : Fed φ) {W : List Int} (hW : Wk (prod cs) 0 W) : ∃ (W' : List Int) (s5 s6 s7 : Sl) (φ' : Ph), w_3 (SB cs W .emp .emp .emp .emp .emp .emp .emp) φ = .ok .nx (SB cs W' s5 s6 s7 .emp .emp .emp .emp) φ' ∧ Wk (prod cs) 800 W' ∧ Fed φ' := by
  have hm := C.many
  have h5 := C.five
  obtain ⟨ρ1, φ1, e1, W', s5, s6, s7, rfl, hW', f1⟩ := for_rng (φ := φ) (i := 5) (m := b_u_law_board_1) (n := cs.length) (ρ := SB cs W .emp .emp .emp .emp .emp .emp .emp)
    (fun p ρ φ' => ∃ W' s5 s6 s7, ρ = SB cs W' s5 s6 s7 .emp .emp .emp .emp ∧ Wk (prod cs) (160 * p) W' ∧ Fed φ') ⟨W, _, _, _, rfl, hW, f⟩ (by
      rintro p ρ φ hp ⟨W, s5, s6, s7, rfl, hW, f⟩
      obtain ⟨X, φ1, q, hX, f1⟩ := draw_pls (W := W) (s5 := .val (nD p)) (s6 := s6) (s7 := s7) (s8 := .emp) (s9 := .emp) (s10 := .emp) (s12 := .emp) C f 9 4 4 (by decide) (by decide) (fun v hv => by omega)
      obtain ⟨ρ2, φ2, e2, W', s7', rfl, hW', rfl⟩ := for_rng (φ := φ1) (i := 7) (m := b_u_law_board_2) (n := prod cs) (ρ := SB cs W (.val (nD p)) (.own (X.map D.int)) s7 .emp .emp .emp .emp)
        (fun k ρ φ' => ∃ W' s7, ρ = SB cs W' (.val (nD p)) (.own (X.map D.int)) s7 .emp .emp .emp .emp ∧ Wk (prod cs) (160 * p + 4 * k) W' ∧ φ' = φ1) ⟨W, _, rfl, hW, rfl⟩ (by
          rintro k ρ φ hk ⟨W, s7, rfl, hW, rfl⟩
          have ch := choice_run (φ := φ) C hp hk
          have a2 : L2.atI (plsD cs) (k : Int) = some (plD cs k) := at_rng hk
          have a3 := at_i (ws := W) (k := k) (by rw [hW.len]; exact hk)
          have hc := chc_le C.pos hp k
          have a6 := at_i (ws := X) (k := chc cs p k) (by rw [hX.len]; omega)
          have b1 := wf_bd hW hk
          have b2 := wf_bd hX (k := chc cs p k) (by omega)
          refine ⟨_, _, ?_, W.set k (wf W k + wf X (chc cs p k)), .val (nD k), rfl, wk_set hW (by omega) (by omega) k, rfl⟩
          simp [a2, ch, a3, a6, setP_own (ds := W.map D.int) (k := k) (by rw [List.length_map, hW.len]; exact hk)])
      refine ⟨_, _, ?_, W', .val (nD p), .own (X.map D.int), s7', rfl, wk_mono hW' (by omega), f1⟩
      simp [q, pls_len, x_rngN (show prod cs < 1000000000 by omega), e2])
  refine ⟨W', s5, s6, s7, φ1, ?_, wk_mono hW' (by omega), f1⟩
  simp [x_rngN (show cs.length < 1000000000 by omega), e1]
theorem w5_run {cs : List Nat} (C : Cs cs) (f : Fed φ) {W : List Int} {s5 s6 s7 : Sl} {v : Nat} (hW : Wk (prod cs) 800 W) : ∃ (W' : List Int) (s9 : Sl) (φ' : Ph), w_5 (SB cs W s5 s6 s7 (.val (nD v)) .emp .emp .emp) φ = .ok .nx (SB cs W' s5 s6 s7 (.val (nD v)) s9 .emp .emp) φ' ∧ Wk (prod cs) 804 W' ∧ Fed φ' := by
  have hm := C.many
  have h0 := prod_pos' C
  by_cases h : v = 3
  · subst h
    -- where
    obtain ⟨at_, φ1, e1, hat, f1⟩ : ∃ (k : Nat) (φ1 : Ph), mIf (mTst (mBin dEq (mCall d_u_law_pick (mCons (mVar 0) (mCons (mV (.int 3)) mNil))) (mV (.int 0)))) (mBin dSub (mLenV 2) (mV (.int 1))) (mCall d_u_law_pick (mCons (mVar 0) (mCons (mLenV 2) mNil))) (SB cs W s5 s6 s7 (.val (nD 3)) .emp .emp .emp) φ = .ok (.val (nD k)) (SB cs W s5 s6 s7 (.val (nD 3)) .emp .emp .emp) φ1 ∧ k < prod cs ∧ Fed φ1 := by
      obtain ⟨u, φ1, e1, hu, f1⟩ := pick_run (j := 3) f (by decide) (by decide)
      by_cases hz : u = 0
      · refine ⟨prod cs - 1, φ1, ?_, by omega, f1⟩
        subst hz
        simp [e1, pls_len]
        omega
      · obtain ⟨z, φ2, e2, hz2, f2⟩ := pick_run (j := (prod cs : Nat)) f1 (by omega) (by omega)
        refine ⟨z, φ2, ?_, by omega, f2⟩
        simp [e1, pls_len, hz, e2]
    obtain ⟨z, φ2, e2, hz, f2⟩ := pick_run (j := 4) f1 (by decide) (by decide)
    obtain ⟨x, ax, bx⟩ : ∃ x : Int, L2.atI ([.int 1, .int (-1), .int 4, .int (-3)] : List D) (z : Int) = some (.int x) ∧ x.natAbs ≤ 4 := by
      have : z = 0 ∨ z = 1 ∨ z = 2 ∨ z = 3 := by omega
      rcases this with rfl | rfl | rfl | rfl
      · exact ⟨1, rfl, by decide⟩
      · exact ⟨-1, rfl, by decide⟩
      · exact ⟨4, rfl, by decide⟩
      · exact ⟨-3, rfl, by decide⟩
    have a3 := at_i (ws := W) (k := at_) (by rw [hW.len]; exact hat)
    have b1 := wf_bd hW hat
    refine ⟨W.set at_ (wf W at_ + x), .val (nD at_), φ2, ?_, wk_set hW (by omega) (by omega) at_, f2⟩
    simp at e1
    simp [e1, a3, x_tup, e2, ax, setP_own (ds := W.map D.int) (k := at_) (by rw [List.length_map, hW.len]; exact hat)]
  · refine ⟨W, .emp, φ, ?_, wk_mono hW (by decide), f⟩
    have : ¬ ((v : Int) = 3) := by omega
    simp [this]
theorem w7_run {cs : List Nat} (C : Cs cs) (f : Fed φ) {W : List Int} {s5 s6 s7 s9 s10 s12 : Sl} {v b : Nat} (hW : Wk (prod cs) b W) (hb : 9 ≤ b) : ∃ (W' : List Int) (φ' : Ph), w_7 (SB cs W s5 s6 s7 (.val (nD v)) s9 s10 s12) φ = .ok .nx (SB cs W' s5 s6 s7 (.val (nD v)) s9 s10 s12) φ' ∧ Wk (prod cs) b W' ∧ Fed φ' := by
  by_cases h : v = 5
  · subst h
    obtain ⟨X, φ1, q, hX, f1⟩ := draw_pls (W := W) (s5 := s5) (s6 := s6) (s7 := s7) (s8 := .val (nD 5)) (s9 := s9) (s10 := s10) (s12 := s12) C f 19 9 b (by decide) (by decide) (fun v hv => by omega)
    refine ⟨X, φ1, ?_, hX, f1⟩
    rw [show (19 : Int) = 19 from rfl] at q
    simp [q]
  · refine ⟨W, φ, ?_, hW, f⟩
    have : ¬ ((v : Int) = 5) := by omega
    simp [this]
theorem w8_run {cs : List Nat} (C : Cs cs) (f : Fed φ) {W : List Int} {s5 s6 s7 s8 s9 s10 s12 : Sl} {b : Nat} (hW : Wk (prod cs) b W) (hb : b < 1000000000) : ∃ (W' : List Int) (φ' : Ph), w_8 (SB cs W s5 s6 s7 s8 s9 s10 s12) φ = .ok .nx (SB cs W' s5 s6 s7 s8 s9 s10 s12) φ' ∧ W'.length = prod cs ∧ Fed φ' := by
  have hm := C.many
  obtain ⟨u, φ1, e1, hu, f1⟩ := pick_run (j := 16) f (by decide) (by decide)
  by_cases h : u = 7
  · have q := lc_map (φ := φ1) (p := .nm 14) (vs := [14]) (ρ := [.val .fd, .val (nT cs), .val (.lst (plsD cs)), .val (.lst (W.map D.int)), .emp, s5, s6, s7, s8, s9, s10, .emp, s12, .emp, .emp]) (te := mBin dMul (mVar 14) (mBin dPow (mV (.int 10)) (mV (.int 28)))) (l := W) (f := D.int) (r := fun w => .int (w * 10000000000000000000000000000)) (by rw [hW.len]; omega) rfl (fun w hw => by
      have p28 : ∀ ρ : List Sl, (dPow (.int 10) (.int 28) : M Ph DN.R) ρ φ1 = .ok (.val (.int 10000000000000000000000000000)) ρ φ1 := fun ρ => by kernel_rfl
      have hw' := hW.bd w hw
      have k1 : cMul w 10000000000000000000000000000 := cm_l (Nat.lt_of_lt_of_le (show w.natAbs < 1000000000 by omega) (by decide))
      refine ⟨_, pat_nm, rfl, .val (.int (w * 10000000000000000000000000000)), ?_, rfl⟩
      simp [wipeR, p28, x_mul k1])
    refine ⟨W.map fun w => w * 10000000000000000000000000000, φ1, ?_, by simp [hW.len], f1⟩
    subst h
    simp [backR, wipeR] at q
    simp [e1, q]
  · refine ⟨W, φ1, ?_, hW.len, f1⟩
    have : ¬ ((u : Int) = 7) := by omega
    simp [e1, this]
theorem w6_run {cs : List Nat} (C : Cs cs) (f : Fed φ) {W : List Int} {s5 s6 s7 s9 : Sl} {v b : Nat} (hW : Wk (prod cs) b W) : ∃ (W' : List Int) (t7 s10 s12 : Sl) (φ' : Ph), w_6 (SB cs W s5 s6 s7 (.val (nD v)) s9 .emp .emp) φ = .ok .nx (SB cs W' s5 s6 t7 (.val (nD v)) s9 s10 s12) φ' ∧ Wk (prod cs) (b + 200) W' ∧ Fed φ' := by
  have hm := C.many
  have h5 := C.five
  by_cases h : v = 4
  · subst h
    obtain ⟨r, φ1, q, hl, hp, f1⟩ := lc_inv (φ := φ) (p := .nm 11) (vs := [11]) (te := mCall d_u_law_pick (mCons (mVar 0) (mCons (mVar 11) mNil))) (ρ := SB cs W s5 s6 s7 (.val (nD 4)) s9 .emp .emp) (l := List.range cs.length) (f := fun p => nD (cn cs p)) Fed (fun d => ∃ x, d = .int x ∧ True) (by simp; omega) rfl f (fun p φ hp f => by
      have hp := List.mem_range.mp hp
      have h1 := cn_pos C.pos p
      have h2 := cn_le C p
      obtain ⟨v, φ1, e1, hv, f1⟩ := pick_run (j := (cn cs p : Nat)) f (by omega) (by omega)
      refine ⟨_, pat_nm, rfl, .val (.int (v : Int)), φ1, ?_, ⟨_, rfl, trivial⟩, f1⟩
      simp [wipeR, e1])
    obtain ⟨Mk, rfl, _⟩ := ints_pr hp
    rw [← map_rng] at q
    have hl : Mk.length = cs.length := by simpa using hl
    obtain ⟨u, φ2, e2, hu, f2⟩ := pick_run (j := 5) f1 (by decide) (by decide)
    obtain ⟨ρ2, φ2, e3, W', s7', rfl, hW', rfl⟩ := for_rng (φ := φ2) (i := 7) (m := b_u_law_board_3) (n := prod cs) (ρ := SB cs W s5 s6 s7 (.val (nD 4)) s9 (.own (Mk.map D.int)) (.val (.int (1 + (u : Int)))))
      (fun k ρ φ' => ∃ W' s7, ρ = SB cs W' s5 s6 s7 (.val (nD 4)) s9 (.own (Mk.map D.int)) (.val (.int (1 + (u : Int)))) ∧ Wk (prod cs) (b + 5 * k) W' ∧ φ' = φ2) ⟨W, _, rfl, hW, rfl⟩ (by
        rintro k ρ φ hk ⟨W, s7, rfl, hW, rfl⟩
        have a2 : L2.atI (plsD cs) (k : Int) = some (plD cs k) := at_rng hk
        have a3 := at_i (ws := W) (k := k) (by rw [hW.len]; exact hk)
        have b1 := wf_bd hW hk
        let bt : Nat → Bool := fun j => !decide (dg cs k j = 0) && !decide ((dg cs k j : Int) = wf Mk j)
        have qf := lc_fil (φ := φ) (p := .nm 13) (vs := [13]) (ρ := SB cs W s5 s6 (.val (nD k)) (.val (nD 4)) s9 (.own (Mk.map D.int)) (.val (.int (1 + (u : Int))))) (tt := mAndT (mTst (mBin dNe (mBin dIx (mIxV 2 (mVar 7)) (mVar 13)) (mV (.int 0)))) (mTst (mBin dNe (mBin dIx (mIxV 2 (mVar 7)) (mVar 13)) (mIxV 10 (mVar 13))))) (te := mVar 13) (l := List.range cs.length) (f := nD) (r := nD) bt (by simp; omega) rfl (fun j hj => by
          have hj := List.mem_range.mp hj
          have a13 := at_pla hj k
          have a10 := at_i (ws := Mk) (k := j) (by omega)
          refine ⟨_, pat_nm, rfl, ?_, fun _ => ⟨.val (nD j), by simp [wipeR], rfl⟩⟩
          by_cases hz : dg cs k j = 0
          · simp [wipeR, a2, a13, hz, bt]
          · simp [wipeR, a2, a13, a10, hz, bt])
        have sm : (dSum [plD cs k] : M Ph DN.R) (SB cs W s5 s6 (.val (nD k)) (.val (nD 4)) s9 (.own (Mk.map D.int)) (.val (.int (1 + (u : Int))))) φ = .ok (.val (.int ((pla cs k).sum : Nat))) (SB cs W s5 s6 (.val (nD k)) (.val (nD 4)) s9 (.own (Mk.map D.int)) (.val (.int (1 + (u : Int))))) φ := by
          have e : ∀ l : List Nat, (l.map fun (n : Nat) => (n : Int)).sum = ((l.sum : Nat) : Int) := by
            intro l
            induction l with
            | nil => rfl
            | cons x l ih => rw [List.map_cons, List.sum_cons, List.sum_cons, ih]; simp
          rw [← e, ← dSum_t, List.map_map]
          rfl
        obtain ⟨z, hz⟩ : ∃ z, z = (pla cs k).sum := ⟨_, rfl⟩
        rw [← hz] at sm
        have zb : (1 - 2 * ((z : Int) % 2)).natAbs ≤ 1 := by omega
        have xb : ((1 + (u : Int)) * (1 - 2 * ((z : Int) % 2))).natAbs ≤ 5 := by
          rw [Int.natAbs_mul]
          calc (1 + (u : Int)).natAbs * (1 - 2 * ((z : Int) % 2)).natAbs ≤ 5 * 1 := Nat.mul_le_mul (by omega) zb
            _ = 5 := rfl
        have k1 : cMul 2 ((z : Int) % 2) := cm_l (by decide)
        have k2 : cMul (1 + (u : Int)) (1 - 2 * ((z : Int) % 2)) := cm_l (by omega)
        obtain ⟨FL, hFL⟩ : ∃ FL, FL = (List.range cs.length).filter bt := ⟨_, rfl⟩
        rw [← hFL] at qf
        simp [backR, wipeR] at qf
        by_cases hb : FL = []
        · refine ⟨_, _, ?_, W.set k (wf W k + (1 + (u : Int)) * (1 - 2 * ((z : Int) % 2))), .val (nD k), rfl, wk_set hW (by omega) (by omega) k, rfl⟩
          simp [x_rngN (show cs.length < 1000000000 by omega), qf, hb, a2, a3, sm, band_1, x_mul k1, x_mul k2, setP_own (ds := W.map D.int) (k := k) (by rw [List.length_map, hW.len]; exact hk)]
        · refine ⟨_, _, ?_, W, .val (nD k), rfl, wk_mono hW (by omega), rfl⟩
          simp [x_rngN (show cs.length < 1000000000 by omega), qf, hb])
    refine ⟨W', s7', .own (Mk.map D.int), .val (.int (1 + (u : Int))), φ2, ?_, wk_mono hW' (by omega), f2⟩
    simp [backR, wipeR] at q
    simp [q, e2, pls_len, x_rngN (show prod cs < 1000000000 by omega), e3]
  · refine ⟨W, s7, .emp, .emp, φ, ?_, wk_mono hW (by omega), f⟩
    have : ¬ ((v : Int) = 4) := by omega
    simp [this]
end L26
namespace L26
open PySem PySem.Spec L2 DN G26
open PyProof.Rows hiding St
variable {φ : Ph} {ρ : List Sl}
theorem board_run (f : Fed φ) : ∃ (cs : List Nat) (ws : List Int) (φ' : Ph), d_u_law_board [.fd] φ = .ok (.val (bdT cs ws)) φ' ∧ Bo cs ws ∧ Fed φ' := by
  obtain ⟨cs, φ1, e1, C, two, f1⟩ := counts_run f
  have hm := C.many
  have pl := places_run (φ := φ1) C
  obtain ⟨W0, hW0⟩ : ∃ W0 : List Int, W0 = (List.range (prod cs)).map fun _ => 0 := ⟨_, rfl⟩
  have k0 : Wk (prod cs) 0 W0 := ⟨by rw [hW0]; simp, fun w hw => by
    rw [hW0] at hw
    obtain ⟨_, _, rfl⟩ := List.mem_map.mp hw
    decide⟩
  have q := lc_rng (φ := φ1) (p := .nm 4) (vs := [4]) (ρ := [.val .fd, .val (nT cs), .val (.lst (plsD cs)), .emp, .emp, .emp, .emp, .emp, .emp, .emp, .emp, .emp, .emp, .emp, .emp]) (te := mV (.int 0)) (n := prod cs) (f := plD cs) (r := fun _ => .int 0) (by omega) rfl (fun k hk => ⟨_, pat_nm, rfl, _, rfl, rfl⟩)
  rw [show (List.range (prod cs)).map (fun _ => D.int 0) = W0.map D.int by rw [hW0, List.map_map]; rfl, show (List.range (prod cs)).map (plD cs) = plsD cs from rfl] at q
  obtain ⟨W1, s5, s6, s7, φ3, e3, k1, f3⟩ := w3_run C f1 k0
  obtain ⟨v, φ4, e4, hv, f4⟩ := pick_run (j := 6) f3 (by decide) (by decide)
  obtain ⟨W2, s9, φ5, e5, k2, f5⟩ := w5_run (s5 := s5) (s6 := s6) (s7 := s7) (v := v) C f4 k1
  obtain ⟨W3, t7, s10, s12, φ6, e6, k3, f6⟩ := w6_run (s5 := s5) (s6 := s6) (s7 := s7) (s9 := s9) (v := v) C f5 k2
  obtain ⟨W4, φ7, e7, k4, f7⟩ := w7_run (s5 := s5) (s6 := s6) (s7 := t7) (s9 := s9) (s10 := s10) (s12 := s12) (v := v) C f6 k3 (by decide)
  obtain ⟨W5, φ8, e8, k5, f8⟩ := w8_run (s5 := s5) (s6 := s6) (s7 := t7) (s8 := .val (nD v)) (s9 := s9) (s10 := s10) (s12 := s12) C f7 k4 (by decide)
  refine ⟨cs, W5, φ8, ?_, ⟨C, two, k5⟩, f8⟩
  unfold d_u_law_board m_u_law_board
  refine runF_rt (ρ1 := SB cs W5 s5 s6 t7 (.val (nD v)) s9 s10 s12 |>.set 3 (.val (.lst (W5.map D.int)))) ?_
  show mSeq w_0 _ [.val .fd, .emp, .emp, .emp, .emp, .emp, .emp, .emp, .emp, .emp, .emp, .emp, .emp, .emp, .emp] φ = _
  rw [mSeq_ok (ρ1 := [.val .fd, .val (nT cs), .emp, .emp, .emp, .emp, .emp, .emp, .emp, .emp, .emp, .emp, .emp, .emp, .emp]) (φ1 := φ1) (by simp [e1])]
  show mSeq w_1 _ _ _ = _
  rw [mSeq_ok (ρ1 := [.val .fd, .val (nT cs), .val (.lst (plsD cs)), .emp, .emp, .emp, .emp, .emp, .emp, .emp, .emp, .emp, .emp, .emp, .emp]) (φ1 := φ1) (by simp [pl])]
  show mSeq w_2 _ _ _ = _
  rw [mSeq_ok (ρ1 := SB cs W0 .emp .emp .emp .emp .emp .emp .emp) (φ1 := φ1) (by
    simp [backR, wipeR] at q
    simp [q])]
  rw [mSeq_ok e3]
  show mSeq w_4 _ _ _ = _
  rw [mSeq_ok (ρ1 := SB cs W1 s5 s6 s7 (.val (nD v)) .emp .emp .emp) (φ1 := φ4) (by simp [e4])]
  rw [mSeq_ok e5, mSeq_ok e6, mSeq_ok e7, mSeq_ok e8]
  simp [x_tup]
/-! ### the feed -/
theorem deal_fed : ∀ (ns : List Int) (s g : Int), 0 ≤ s → s < 2147483647 → 0 ≤ (dealF ns s g).1 ∧ (dealF ns s g).1 < 2147483647
  | [], s, g, h0, h1 => ⟨h0, h1⟩
  | c :: ns, s, g, h0, h1 => by
    unfold dealF
    exact deal_fed ns _ _ (Int.emod_nonneg _ (by decide)) (Int.lt_trans (Int.emod_lt_of_pos _ (by decide)) (by decide))
theorem deal_run {ns : List Int} (h : ns.length ≤ 63) : ∃ φ', d_u_law_deal [.scr ns] none = .ok (.val .fd) φ' ∧ Fed φ' := by
  refine ⟨some ⟨(dealF ns 88211 0).1, (dealF ns 88211 0).2, 0⟩, ?_, ⟨_, rfl, ?_⟩⟩
  · unfold d_u_law_deal
    dsimp only
    rw [if_pos (by omega)]
  · exact deal_fed ns 88211 0 (by decide) (by decide)
theorem dep_uD {cs : List Nat} (C : Cs cs) (o : Option Nat) : Dep 3 (uD cs o) := by
  cases o with
  | none => trivial
  | some k => exact dep_nT (by have := pla_len cs k; have := C.five; omega)
theorem dep_q {n : Nat} (h : n < 1000000) : Dep 3 (.tup (List.replicate n (qD 0))) := ⟨by simpa using h, fun x hx => by
  rw [List.eq_of_mem_replicate hx]
  refine ⟨by decide, fun y hy => ?_⟩
  simp only [List.mem_cons, List.not_mem_nil, or_false] at hy
  rcases hy with rfl | rfl
  · trivial
  · trivial⟩
theorem dep_q1 : Dep 3 (qD 0) := ⟨by decide, fun y hy => by
  simp only [List.mem_cons, List.not_mem_nil, or_false] at hy
  rcases hy with rfl | rfl
  · trivial
  · trivial⟩
theorem dep_un {cs : List Nat} (C : Cs cs) (k : Nat) : Dep 3 (.tup [.str "uneven", plD cs k]) := ⟨by show 2 < 1000000; decide, fun y hy => by
  simp only [List.mem_cons, List.not_mem_nil, or_false] at hy
  rcases hy with rfl | rfl
  · exact s_uneven
  · refine ⟨by have := pla_len cs k; have := C.five; simp; omega, fun x hx => ?_⟩
    obtain ⟨n, _, rfl⟩ := List.mem_map.mp hx
    trivial⟩
theorem ne_flat (ρ : List Sl) (φ : Ph) : (dNe (.str "flat") (.str "flat") : M Ph DN.R) ρ φ = .ok (.val (.bl false)) ρ φ := by
  unfold dNe
  rw [s_flat]
  rfl
theorem law_true (ns : List Int) (h : ns.length ≤ 63) : ∃ φ', d_law [.scr ns] none = .ok (.val (.bl true)) φ' := by
  obtain ⟨φ1, e1, f1⟩ := deal_run h
  obtain ⟨cs, ws, φ2, e2, Bb, f2⟩ := board_run f1
  have C := Bb.toCs
  have hw := Bb.len
  have hm := C.many
  have e3 := law_uneven_run (φ := φ2) C hw
  have u1 := uneven_run (φ := φ2) C hw
  have su := same_run (φ := φ2) (dep_uD C (uv cs ws))
  have nw := new_run (φ := φ2) Bb
  have ev := even_run (φ := φ2) Bb
  have sb := fun b => same_run (φ := φ2) (d := .bl b) (by trivial)
  obtain ⟨φ3, d1, f3⟩ := differences_run Bb f2
  obtain ⟨φ4, d2⟩ := refused_run Bb f3
  refine ⟨φ4, ?_⟩
  unfold d_law m_law
  cases hu : uv cs ws with
  | none =>
    rw [hu] at e3 u1 su ev d1
    have l1 := lflat_none (φ := φ2) C hw hu
    have l2 := isflat_run (φ := φ2) C hw hu
    have t1 := till_row_run (φ := φ2) C hw hu
    have t2 := till_span_run (φ := φ2) C hw hu
    have s1 := same_run (φ := φ2) (dep_q (n := prod cs) (by omega))
    have s2 := same_run (φ := φ2) dep_q1
    have q := lc_map (φ := φ2) (p := .nm 6) (vs := [6]) (ρ := [.val (.scr ns), .val .fd, .val (bdT cs ws), .val .non, .val (.tup [.str "flat", tab cs ws]), .emp, .emp]) (te := mB (mCons (mV (.int 0)) (mCons (mV (.int 1)) mNil)) dTup) (l := ws) (f := D.int) (r := fun _ => qD 0) (by omega) rfl (fun w hw => ⟨_, pat_nm, rfl, .val (qD 0), by simp [x_tup], rfl⟩)
    rw [List.map_const', hw] at q
    simp [backR, wipeR] at q
    simp [e1, e2, e3, u1, su, perm, nw, ev, sb, l1, ne_flat, l2, q, t1, t2, s1, s2, x_tup, d1, d2]
  | some k =>
    rw [hu] at e3 u1 su ev d1
    have l1 := lflat_some (φ := φ2) C hw hu
    have s1 := same_run (φ := φ2) (dep_un C k)
    simp [e1, e2, e3, u1, su, perm, nw, ev, sb, l1, s1, x_tup, d1, d2]
end L26
namespace L26
open PySem PySem.Spec L2 DN
open PyProof.Rows hiding St
section
variable {φ : Ph} {ρ : List Sl}
/-! ### the feed is made -/
theorem p18 {ρ : List Sl} {φ : Ph} : (dPow (.int 10) (.int 18) : M Ph DN.R) ρ φ = .ok (.val (.int 1000000000000000000)) ρ φ := by kernel_rfl
theorem dealB_run {X : Sl} {s g c : Int} (h0 : 0 ≤ s) (h1 : s < 2147483543) : b_u_law_deal_1 [X, .val (.int s), .val (.int g), .val (.int c)] φ = .ok .nx [X, .val (.int ((((s * 52631 + c % 1999841 + 7) % 2147483543) * ((s * 52631 + c % 1999841 + 7) % 2147483543) + 101) % 2147483497)), .val (.int (if g = 0 ∧ 1000000000000000000 ≤ c then c else g)), .val (.int c)] φ := by
  have h2 : cMul s 52631 := cm_r (by decide)
  generalize e : (s * 52631 + c % 1999841 + 7) % 2147483543 = z
  have z0 : 0 ≤ z := by omega
  have z1 : z < 2147483543 := by omega
  have h3 : cMul z z := cm_r (by omega)
  by_cases hg : g = 0
  · by_cases hc : 1000000000000000000 ≤ c
    · simp [p18, x_mul h2, x_mod, e, x_mul h3, hg, hc]
    · simp [p18, x_mul h2, x_mod, e, x_mul h3, hg, hc]
  · simp [p18, x_mul h2, x_mod, e, x_mul h3, hg]
theorem dealL {X : Sl} : ∀ (ns : List Int) (s g : Int) (t : Sl), 0 ≤ s → s < 2147483543 → ∃ t', mFor (.nm 3) b_u_law_deal_1 (ns.map D.int) [X, .val (.int s), .val (.int g), t] φ = .ok .nx [X, .val (.int (dealF ns s g).1), .val (.int (dealF ns s g).2), t'] φ
  | [], s, g, t, _, _ => ⟨t, rfl⟩
  | c :: ns, s, g, t, h0, h1 => by
    obtain ⟨t', e⟩ := dealL (X := X) ns ((((s * 52631 + c % 1999841 + 7) % 2147483543) * ((s * 52631 + c % 1999841 + 7) % 2147483543) + 101) % 2147483497) (if g = 0 ∧ 1000000000000000000 ≤ c then c else g) (.val (.int c)) (Int.emod_nonneg _ (by decide)) (Int.lt_trans (Int.emod_lt_of_pos _ (by decide)) (by decide))
    refine ⟨t', ?_⟩
    rw [List.map_cons, mFor_cons (ρ1 := [X, .val (.int s), .val (.int g), .val (.int c)]) (by simp) (dealB_run h0 h1), e]
    rfl
theorem deal0_run (ns : List Int) : d0_u_law_deal [.scr ns] φ = .ok (.new [.int (dealF ns 88211 0).1, .int (dealF ns 88211 0).2, .int 0]) φ := by
  obtain ⟨t', e⟩ := dealL (φ := φ) (X := .val (.scr ns)) ns 88211 0 .emp (by decide) (by decide)
  unfold d0_u_law_deal m_u_law_deal
  simp [e, x_lst]
end
section
variable {P : Program} {w : World} {K : PySem.W.Frag} {mg : Str → Option Value} {base : Heap} {ad : Str → Addr} {fdt : Str → FuncData} {C : Str → Addr}
theorem deal_cases (ds : List D) (φ : Ph) : d_u_law_deal ds φ = .stuck ∨ ∃ ns, ds = [.scr ns] ∧ φ = none ∧ d_u_law_deal ds φ = .ok (.val .fd) (some ⟨(dealF ns 88211 0).1, (dealF ns 88211 0).2, 0⟩) := by
  unfold d_u_law_deal
  split
  · split
    · exact .inr ⟨_, rfl, rfl, rfl⟩
    · exact .inl rfl
  · exact .inl rfl
theorem ok_u_law_deal (T : Tx K mg ad fdt C) : FnOk P w K mg base (L2.CX P w) 2 (ad "_law_deal") (fdt "_law_deal") ["_law_script"] (spD (GG K C) 1 d_u_law_deal) := (ok0_u_law_deal T).imp fun vs H Q E h => by
  obtain ⟨F, φ, ds, Pp, hl, hv, fi, hp, q⟩ := h
  rcases deal_cases ds φ with z | ⟨ns, rfl, rfl, z⟩
  · rw [z] at q; exact q.elim
  rw [z] at q
  rcases fi with f | ⟨a, st', e1, _⟩
  case inr => cases e1
  obtain ⟨_, rfl⟩ := f
  refine ⟨[], none, [.scr ns], Pp, hl, hv, .inl ⟨rfl, rfl⟩, hp, ?_⟩
  rw [deal0_run]
  intro F' H' v _ sm fi' rc
  obtain ⟨a, xs, rfl, ha, naF, hxs, hr⟩ := rc
  have F0 : F' = [] := by
    rcases fi' with f | ⟨_, _, e1, _⟩
    · exact f.2
    · cases e1
  subst F0
  have hx : xs = [V.int (dealF ns 88211 0).1, V.int (dealF ns 88211 0).2, V.int 0] := RDs.ints (ns := [(dealF ns 88211 0).1, (dealF ns 88211 0).2, 0]) hr
  rw [hx] at hxs
  refine q [a] H' (.ref a) (.inl rfl) (fun y o e => ?_) (.inr ⟨a, _, rfl, rfl, hxs⟩) (.fd rfl)
  have nya : y ≠ a := fun z => by
    have := (hide_some e).2
    rw [z, ha] at this
    cases this
  exact hide_of (by simpa using nya) (hide_some (sm y o e)).2
end
end L26
namespace L26
open PySem PySem.Spec L2 DN
open PyProof.Rows hiding St
theorem tx_mk {K : PySem.W.Frag} {h : Heap} {mg : Str → Option Value} (X : K.In h) (G : h.Ns mainGlobals mg)
    {C_NotUsable : Addr} {C_Uneven : Addr} {C_Board : Addr}
    {f_u_law_deal : Addr} {od_u_law_deal an_u_law_deal : Option Addr} {sl_u_law_deal : Array (Option Value)} {oc_u_law_deal kV_u_law_deal dc_u_law_deal pm_u_law_deal cd_u_law_deal ct_u_law_deal : Value}
    {f_u_law_pick : Addr} {od_u_law_pick an_u_law_pick : Option Addr} {sl_u_law_pick : Array (Option Value)} {oc_u_law_pick kV_u_law_pick dc_u_law_pick pm_u_law_pick cd_u_law_pick ct_u_law_pick : Value}
    {f_u_law_counts : Addr} {od_u_law_counts an_u_law_counts : Option Addr} {sl_u_law_counts : Array (Option Value)} {oc_u_law_counts kV_u_law_counts dc_u_law_counts pm_u_law_counts cd_u_law_counts ct_u_law_counts : Value}
    {f_u_law_places : Addr} {od_u_law_places an_u_law_places : Option Addr} {sl_u_law_places : Array (Option Value)} {oc_u_law_places kV_u_law_places dc_u_law_places pm_u_law_places cd_u_law_places ct_u_law_places : Value}
    {f_u_law_choice : Addr} {od_u_law_choice an_u_law_choice : Option Addr} {sl_u_law_choice : Array (Option Value)} {oc_u_law_choice kV_u_law_choice dc_u_law_choice pm_u_law_choice cd_u_law_choice ct_u_law_choice : Value}
    {f_u_law_board : Addr} {od_u_law_board an_u_law_board : Option Addr} {sl_u_law_board : Array (Option Value)} {oc_u_law_board kV_u_law_board dc_u_law_board pm_u_law_board cd_u_law_board ct_u_law_board : Value}
    {f_u_law_at : Addr} {od_u_law_at an_u_law_at : Option Addr} {sl_u_law_at : Array (Option Value)} {oc_u_law_at kV_u_law_at dc_u_law_at pm_u_law_at cd_u_law_at ct_u_law_at : Value}
    {f_u_law_mixed : Addr} {od_u_law_mixed an_u_law_mixed : Option Addr} {sl_u_law_mixed : Array (Option Value)} {oc_u_law_mixed kV_u_law_mixed dc_u_law_mixed pm_u_law_mixed cd_u_law_mixed ct_u_law_mixed : Value}
    {f_u_law_uneven : Addr} {od_u_law_uneven an_u_law_uneven : Option Addr} {sl_u_law_uneven : Array (Option Value)} {oc_u_law_uneven kV_u_law_uneven dc_u_law_uneven pm_u_law_uneven cd_u_law_uneven ct_u_law_uneven : Value}
    {f_board_size : Addr} {od_board_size an_board_size : Option Addr} {sl_board_size : Array (Option Value)} {oc_board_size kV_board_size dc_board_size pm_board_size cd_board_size ct_board_size : Value}
    {f_firsts_by_place : Addr} {od_firsts_by_place an_firsts_by_place : Option Addr} {sl_firsts_by_place : Array (Option Value)} {oc_firsts_by_place kV_firsts_by_place dc_firsts_by_place pm_firsts_by_place cd_firsts_by_place ct_firsts_by_place : Value}
    {f_flattened : Addr} {od_flattened an_flattened : Option Addr} {sl_flattened : Array (Option Value)} {oc_flattened kV_flattened dc_flattened pm_flattened cd_flattened ct_flattened : Value}
    {f_row_tuples : Addr} {od_row_tuples an_row_tuples : Option Addr} {sl_row_tuples : Array (Option Value)} {oc_row_tuples kV_row_tuples dc_row_tuples pm_row_tuples cd_row_tuples ct_row_tuples : Value}
    {f_uneven_place : Addr} {od_uneven_place an_uneven_place : Option Addr} {sl_uneven_place : Array (Option Value)} {oc_uneven_place kV_uneven_place dc_uneven_place pm_uneven_place cd_uneven_place ct_uneven_place : Value}
    {f_flat_tables : Addr} {od_flat_tables an_flat_tables : Option Addr} {sl_flat_tables : Array (Option Value)} {oc_flat_tables kV_flat_tables dc_flat_tables pm_flat_tables cd_flat_tables ct_flat_tables : Value}
    {f_u_law_flat : Addr} {od_u_law_flat an_u_law_flat : Option Addr} {sl_u_law_flat : Array (Option Value)} {oc_u_law_flat kV_u_law_flat dc_u_law_flat pm_u_law_flat cd_u_law_flat ct_u_law_flat : Value}
    {f_u_law_integer : Addr} {od_u_law_integer an_u_law_integer : Option Addr} {sl_u_law_integer : Array (Option Value)} {oc_u_law_integer kV_u_law_integer dc_u_law_integer pm_u_law_integer cd_u_law_integer ct_u_law_integer : Value}
    {f_u_law_same : Addr} {od_u_law_same an_u_law_same : Option Addr} {sl_u_law_same : Array (Option Value)} {oc_u_law_same kV_u_law_same dc_u_law_same pm_u_law_same cd_u_law_same ct_u_law_same : Value}
    {f_is_integer : Addr} {od_is_integer an_is_integer : Option Addr} {sl_is_integer : Array (Option Value)} {oc_is_integer kV_is_integer dc_is_integer pm_is_integer cd_is_integer ct_is_integer : Value}
    {f_are_rows : Addr} {od_are_rows an_are_rows : Option Addr} {sl_are_rows : Array (Option Value)} {oc_are_rows kV_are_rows dc_are_rows pm_are_rows cd_are_rows ct_are_rows : Value}
    {f_mixed_at : Addr} {od_mixed_at an_mixed_at : Option Addr} {sl_mixed_at : Array (Option Value)} {oc_mixed_at kV_mixed_at dc_mixed_at pm_mixed_at cd_mixed_at ct_mixed_at : Value}
    {f_Board_mixed : Addr} {od_Board_mixed an_Board_mixed : Option Addr} {sl_Board_mixed : Array (Option Value)} {oc_Board_mixed kV_Board_mixed dc_Board_mixed pm_Board_mixed cd_Board_mixed ct_Board_mixed : Value}
    {f_board_fault : Addr} {od_board_fault an_board_fault : Option Addr} {sl_board_fault : Array (Option Value)} {oc_board_fault kV_board_fault dc_board_fault pm_board_fault cd_board_fault ct_board_fault : Value}
    {f_Board___init__ : Addr} {od_Board___init__ an_Board___init__ : Option Addr} {sl_Board___init__ : Array (Option Value)} {oc_Board___init__ kV_Board___init__ dc_Board___init__ pm_Board___init__ cd_Board___init__ ct_Board___init__ : Value}
    {f_u_law_asked : Addr} {od_u_law_asked an_u_law_asked : Option Addr} {sl_u_law_asked : Array (Option Value)} {oc_u_law_asked kV_u_law_asked dc_u_law_asked pm_u_law_asked cd_u_law_asked ct_u_law_asked : Value}
    {f_u_law_differences : Addr} {od_u_law_differences an_u_law_differences : Option Addr} {sl_u_law_differences : Array (Option Value)} {oc_u_law_differences kV_u_law_differences dc_u_law_differences pm_u_law_differences cd_u_law_differences ct_u_law_differences : Value}
    {f_u_law_refused : Addr} {od_u_law_refused an_u_law_refused : Option Addr} {sl_u_law_refused : Array (Option Value)} {oc_u_law_refused kV_u_law_refused dc_u_law_refused pm_u_law_refused cd_u_law_refused ct_u_law_refused : Value}
    {f_Board_even : Addr} {od_Board_even an_Board_even : Option Addr} {sl_Board_even : Array (Option Value)} {oc_Board_even kV_Board_even dc_Board_even pm_Board_even cd_Board_even ct_Board_even : Value}
    {f_u_law_is_quotient : Addr} {od_u_law_is_quotient an_u_law_is_quotient : Option Addr} {sl_u_law_is_quotient : Array (Option Value)} {oc_u_law_is_quotient kV_u_law_is_quotient dc_u_law_is_quotient pm_u_law_is_quotient cd_u_law_is_quotient ct_u_law_is_quotient : Value}
    {f_u_law_is_flat : Addr} {od_u_law_is_flat an_u_law_is_flat : Option Addr} {sl_u_law_is_flat : Array (Option Value)} {oc_u_law_is_flat kV_u_law_is_flat dc_u_law_is_flat pm_u_law_is_flat cd_u_law_is_flat ct_u_law_is_flat : Value}
    {f_common_divisor : Addr} {od_common_divisor an_common_divisor : Option Addr} {sl_common_divisor : Array (Option Value)} {oc_common_divisor kV_common_divisor dc_common_divisor pm_common_divisor cd_common_divisor ct_common_divisor : Value}
    {f_is_quotient : Addr} {od_is_quotient an_is_quotient : Option Addr} {sl_is_quotient : Array (Option Value)} {oc_is_quotient kV_is_quotient dc_is_quotient pm_is_quotient cd_is_quotient ct_is_quotient : Value}
    {f_are_quotients : Addr} {od_are_quotients an_are_quotients : Option Addr} {sl_are_quotients : Array (Option Value)} {oc_are_quotients kV_are_quotients dc_are_quotients pm_are_quotients cd_are_quotients ct_are_quotients : Value}
    {f_others_counts : Addr} {od_others_counts an_others_counts : Option Addr} {sl_others_counts : Array (Option Value)} {oc_others_counts kV_others_counts dc_others_counts pm_others_counts cd_others_counts ct_others_counts : Value}
    {f_is_tables : Addr} {od_is_tables an_is_tables : Option Addr} {sl_is_tables : Array (Option Value)} {oc_is_tables kV_is_tables dc_is_tables pm_is_tables cd_is_tables ct_is_tables : Value}
    {f_choices_by_place : Addr} {od_choices_by_place an_choices_by_place : Option Addr} {sl_choices_by_place : Array (Option Value)} {oc_choices_by_place kV_choices_by_place dc_choices_by_place pm_choices_by_place cd_choices_by_place ct_choices_by_place : Value}
    {f_u_lowest_terms : Addr} {od_u_lowest_terms an_u_lowest_terms : Option Addr} {sl_u_lowest_terms : Array (Option Value)} {oc_u_lowest_terms kV_u_lowest_terms dc_u_lowest_terms pm_u_lowest_terms cd_u_lowest_terms ct_u_lowest_terms : Value}
    {f_quotient_of : Addr} {od_quotient_of an_quotient_of : Option Addr} {sl_quotient_of : Array (Option Value)} {oc_quotient_of kV_quotient_of dc_quotient_of pm_quotient_of cd_quotient_of ct_quotient_of : Value}
    {f_quotient_sum : Addr} {od_quotient_sum an_quotient_sum : Option Addr} {sl_quotient_sum : Array (Option Value)} {oc_quotient_sum kV_quotient_sum dc_quotient_sum pm_quotient_sum cd_quotient_sum ct_quotient_sum : Value}
    {f_till_list : Addr} {od_till_list an_till_list : Option Addr} {sl_till_list : Array (Option Value)} {oc_till_list kV_till_list dc_till_list pm_till_list cd_till_list ct_till_list : Value}
    {f_till_row : Addr} {od_till_row an_till_row : Option Addr} {sl_till_row : Array (Option Value)} {oc_till_row kV_till_row dc_till_row pm_till_row cd_till_row ct_till_row : Value}
    {f_is_under : Addr} {od_is_under an_is_under : Option Addr} {sl_is_under : Array (Option Value)} {oc_is_under kV_is_under dc_is_under pm_is_under cd_is_under ct_is_under : Value}
    {f_ends_of_quotients : Addr} {od_ends_of_quotients an_ends_of_quotients : Option Addr} {sl_ends_of_quotients : Array (Option Value)} {oc_ends_of_quotients kV_ends_of_quotients dc_ends_of_quotients pm_ends_of_quotients cd_ends_of_quotients ct_ends_of_quotients : Value}
    {f_u_need_quotients : Addr} {od_u_need_quotients an_u_need_quotients : Option Addr} {sl_u_need_quotients : Array (Option Value)} {oc_u_need_quotients kV_u_need_quotients dc_u_need_quotients pm_u_need_quotients cd_u_need_quotients ct_u_need_quotients : Value}
    {f_minus : Addr} {od_minus an_minus : Option Addr} {sl_minus : Array (Option Value)} {oc_minus kV_minus dc_minus pm_minus cd_minus ct_minus : Value}
    {f_till_span : Addr} {od_till_span an_till_span : Option Addr} {sl_till_span : Array (Option Value)} {oc_till_span kV_till_span dc_till_span pm_till_span cd_till_span ct_till_span : Value}
    {f_law : Addr} {od_law an_law : Option Addr} {sl_law : Array (Option Value)} {oc_law kV_law dc_law pm_law cd_law ct_law : Value}
    {f_NotUsable_init : Addr} {od_NotUsable_init an_NotUsable_init : Option Addr} {sl_NotUsable_init : Array (Option Value)} {oc_NotUsable_init kV_NotUsable_init dc_NotUsable_init pm_NotUsable_init cd_NotUsable_init ct_NotUsable_init : Value}
    {f_Uneven_init : Addr} {od_Uneven_init an_Uneven_init : Option Addr} {sl_Uneven_init : Array (Option Value)} {oc_Uneven_init kV_Uneven_init dc_Uneven_init pm_Uneven_init cd_Uneven_init ct_Uneven_init : Value}
    {nm_NotUsable q_NotUsable : Str} {N_NotUsable c0_NotUsable c1_NotUsable : Addr} {bs_NotUsable : List Value} {sn_NotUsable : List Str} {sub_NotUsable : List Value} {ab_NotUsable : Bool} {col_NotUsable : Option Bool} {dd_NotUsable : Option Addr} {m0_NotUsable m1_NotUsable m2_NotUsable m3_NotUsable m5_NotUsable : Option Value}
    {nm_Uneven q_Uneven : Str} {N_Uneven c0_Uneven c1_Uneven : Addr} {bs_Uneven : List Value} {sn_Uneven : List Str} {sub_Uneven : List Value} {ab_Uneven : Bool} {col_Uneven : Option Bool} {dd_Uneven : Option Addr} {m0_Uneven m1_Uneven m2_Uneven m3_Uneven m5_Uneven : Option Value}
    (aC_NotUsable : PySem.W.nsIn K mainGlobals "NotUsable" = some (some (.ref C_NotUsable)))
    (xL_NotUsable : K.lookup C_NotUsable = some (excClassObj nm_NotUsable q_NotUsable C_NotUsable N_NotUsable bs_NotUsable [.ref c0_NotUsable, .ref c1_NotUsable, .type "ValueError", .type "Exception", .type "BaseException", .type "object"] true sn_NotUsable sub_NotUsable ab_NotUsable col_NotUsable dd_NotUsable m0_NotUsable m1_NotUsable m2_NotUsable m3_NotUsable m5_NotUsable "ValueError.__new__"))
    (aC_Uneven : PySem.W.nsIn K mainGlobals "Uneven" = some (some (.ref C_Uneven)))
    (xL_Uneven : K.lookup C_Uneven = some (excClassObj nm_Uneven q_Uneven C_Uneven N_Uneven bs_Uneven [.ref c0_Uneven, .ref c1_Uneven, .type "ValueError", .type "Exception", .type "BaseException", .type "object"] true sn_Uneven sub_Uneven ab_Uneven col_Uneven dd_Uneven m0_Uneven m1_Uneven m2_Uneven m3_Uneven m5_Uneven "ValueError.__new__"))
    (aC_Board : PySem.W.nsIn K mainGlobals "Board" = some (some (.ref C_Board)))
    (a_u_law_deal : PySem.W.nsIn K mainGlobals "_law_deal" = some (some (.ref f_u_law_deal)))
    (l_u_law_deal : K.lookup f_u_law_deal = some ⟨oc_u_law_deal, od_u_law_deal, .func (PySem.W.fnOf "_law_deal" "_law_deal" (defArgs st_u_law_deal) (defBody st_u_law_deal) (defScope st_u_law_deal) .none kV_u_law_deal dc_u_law_deal pm_u_law_deal an_u_law_deal cd_u_law_deal ct_u_law_deal), sl_u_law_deal⟩)
    (c_u_law_deal : PySem.W.codeIn K cd_u_law_deal "_law_deal" = true)
    (k_u_law_deal : PySem.W.keepIn K (.ref f_u_law_deal) = true)
    (a_u_law_pick : PySem.W.nsIn K mainGlobals "_law_pick" = some (some (.ref f_u_law_pick)))
    (l_u_law_pick : K.lookup f_u_law_pick = some ⟨oc_u_law_pick, od_u_law_pick, .func (PySem.W.fnOf "_law_pick" "_law_pick" (defArgs st_u_law_pick) (defBody st_u_law_pick) (defScope st_u_law_pick) .none kV_u_law_pick dc_u_law_pick pm_u_law_pick an_u_law_pick cd_u_law_pick ct_u_law_pick), sl_u_law_pick⟩)
    (c_u_law_pick : PySem.W.codeIn K cd_u_law_pick "_law_pick" = true)
    (k_u_law_pick : PySem.W.keepIn K (.ref f_u_law_pick) = true)
    (a_u_law_counts : PySem.W.nsIn K mainGlobals "_law_counts" = some (some (.ref f_u_law_counts)))
    (l_u_law_counts : K.lookup f_u_law_counts = some ⟨oc_u_law_counts, od_u_law_counts, .func (PySem.W.fnOf "_law_counts" "_law_counts" (defArgs st_u_law_counts) (defBody st_u_law_counts) (defScope st_u_law_counts) .none kV_u_law_counts dc_u_law_counts pm_u_law_counts an_u_law_counts cd_u_law_counts ct_u_law_counts), sl_u_law_counts⟩)
    (c_u_law_counts : PySem.W.codeIn K cd_u_law_counts "_law_counts" = true)
    (k_u_law_counts : PySem.W.keepIn K (.ref f_u_law_counts) = true)
    (a_u_law_places : PySem.W.nsIn K mainGlobals "_law_places" = some (some (.ref f_u_law_places)))
    (l_u_law_places : K.lookup f_u_law_places = some ⟨oc_u_law_places, od_u_law_places, .func (PySem.W.fnOf "_law_places" "_law_places" (defArgs st_u_law_places) (defBody st_u_law_places) (defScope st_u_law_places) .none kV_u_law_places dc_u_law_places pm_u_law_places an_u_law_places cd_u_law_places ct_u_law_places), sl_u_law_places⟩)
    (c_u_law_places : PySem.W.codeIn K cd_u_law_places "_law_places" = true)
    (k_u_law_places : PySem.W.keepIn K (.ref f_u_law_places) = true)
    (a_u_law_choice : PySem.W.nsIn K mainGlobals "_law_choice" = some (some (.ref f_u_law_choice)))
    (l_u_law_choice : K.lookup f_u_law_choice = some ⟨oc_u_law_choice, od_u_law_choice, .func (PySem.W.fnOf "_law_choice" "_law_choice" (defArgs st_u_law_choice) (defBody st_u_law_choice) (defScope st_u_law_choice) .none kV_u_law_choice dc_u_law_choice pm_u_law_choice an_u_law_choice cd_u_law_choice ct_u_law_choice), sl_u_law_choice⟩)
    (c_u_law_choice : PySem.W.codeIn K cd_u_law_choice "_law_choice" = true)
    (k_u_law_choice : PySem.W.keepIn K (.ref f_u_law_choice) = true)
    (a_u_law_board : PySem.W.nsIn K mainGlobals "_law_board" = some (some (.ref f_u_law_board)))
    (l_u_law_board : K.lookup f_u_law_board = some ⟨oc_u_law_board, od_u_law_board, .func (PySem.W.fnOf "_law_board" "_law_board" (defArgs st_u_law_board) (defBody st_u_law_board) (defScope st_u_law_board) .none kV_u_law_board dc_u_law_board pm_u_law_board an_u_law_board cd_u_law_board ct_u_law_board), sl_u_law_board⟩)
    (c_u_law_board : PySem.W.codeIn K cd_u_law_board "_law_board" = true)
    (k_u_law_board : PySem.W.keepIn K (.ref f_u_law_board) = true)
    (a_u_law_at : PySem.W.nsIn K mainGlobals "_law_at" = some (some (.ref f_u_law_at)))
    (l_u_law_at : K.lookup f_u_law_at = some ⟨oc_u_law_at, od_u_law_at, .func (PySem.W.fnOf "_law_at" "_law_at" (defArgs st_u_law_at) (defBody st_u_law_at) (defScope st_u_law_at) .none kV_u_law_at dc_u_law_at pm_u_law_at an_u_law_at cd_u_law_at ct_u_law_at), sl_u_law_at⟩)
    (c_u_law_at : PySem.W.codeIn K cd_u_law_at "_law_at" = true)
    (k_u_law_at : PySem.W.keepIn K (.ref f_u_law_at) = true)
    (a_u_law_mixed : PySem.W.nsIn K mainGlobals "_law_mixed" = some (some (.ref f_u_law_mixed)))
    (l_u_law_mixed : K.lookup f_u_law_mixed = some ⟨oc_u_law_mixed, od_u_law_mixed, .func (PySem.W.fnOf "_law_mixed" "_law_mixed" (defArgs st_u_law_mixed) (defBody st_u_law_mixed) (defScope st_u_law_mixed) .none kV_u_law_mixed dc_u_law_mixed pm_u_law_mixed an_u_law_mixed cd_u_law_mixed ct_u_law_mixed), sl_u_law_mixed⟩)
    (c_u_law_mixed : PySem.W.codeIn K cd_u_law_mixed "_law_mixed" = true)
    (k_u_law_mixed : PySem.W.keepIn K (.ref f_u_law_mixed) = true)
    (a_u_law_uneven : PySem.W.nsIn K mainGlobals "_law_uneven" = some (some (.ref f_u_law_uneven)))
    (l_u_law_uneven : K.lookup f_u_law_uneven = some ⟨oc_u_law_uneven, od_u_law_uneven, .func (PySem.W.fnOf "_law_uneven" "_law_uneven" (defArgs st_u_law_uneven) (defBody st_u_law_uneven) (defScope st_u_law_uneven) .none kV_u_law_uneven dc_u_law_uneven pm_u_law_uneven an_u_law_uneven cd_u_law_uneven ct_u_law_uneven), sl_u_law_uneven⟩)
    (c_u_law_uneven : PySem.W.codeIn K cd_u_law_uneven "_law_uneven" = true)
    (k_u_law_uneven : PySem.W.keepIn K (.ref f_u_law_uneven) = true)
    (a_board_size : PySem.W.nsIn K mainGlobals "board_size" = some (some (.ref f_board_size)))
    (l_board_size : K.lookup f_board_size = some ⟨oc_board_size, od_board_size, .func (PySem.W.fnOf "board_size" "board_size" (defArgs st_board_size) (defBody st_board_size) (defScope st_board_size) .none kV_board_size dc_board_size pm_board_size an_board_size cd_board_size ct_board_size), sl_board_size⟩)
    (c_board_size : PySem.W.codeIn K cd_board_size "board_size" = true)
    (k_board_size : PySem.W.keepIn K (.ref f_board_size) = true)
    (a_firsts_by_place : PySem.W.nsIn K mainGlobals "firsts_by_place" = some (some (.ref f_firsts_by_place)))
    (l_firsts_by_place : K.lookup f_firsts_by_place = some ⟨oc_firsts_by_place, od_firsts_by_place, .func (PySem.W.fnOf "firsts_by_place" "firsts_by_place" (defArgs st_firsts_by_place) (defBody st_firsts_by_place) (defScope st_firsts_by_place) .none kV_firsts_by_place dc_firsts_by_place pm_firsts_by_place an_firsts_by_place cd_firsts_by_place ct_firsts_by_place), sl_firsts_by_place⟩)
    (c_firsts_by_place : PySem.W.codeIn K cd_firsts_by_place "firsts_by_place" = true)
    (k_firsts_by_place : PySem.W.keepIn K (.ref f_firsts_by_place) = true)
    (a_flattened : PySem.W.nsIn K mainGlobals "flattened" = some (some (.ref f_flattened)))
    (l_flattened : K.lookup f_flattened = some ⟨oc_flattened, od_flattened, .func (PySem.W.fnOf "flattened" "flattened" (defArgs st_flattened) (defBody st_flattened) (defScope st_flattened) .none kV_flattened dc_flattened pm_flattened an_flattened cd_flattened ct_flattened), sl_flattened⟩)
    (c_flattened : PySem.W.codeIn K cd_flattened "flattened" = true)
    (k_flattened : PySem.W.keepIn K (.ref f_flattened) = true)
    (a_row_tuples : PySem.W.nsIn K mainGlobals "row_tuples" = some (some (.ref f_row_tuples)))
    (l_row_tuples : K.lookup f_row_tuples = some ⟨oc_row_tuples, od_row_tuples, .func (PySem.W.fnOf "row_tuples" "row_tuples" (defArgs st_row_tuples) (defBody st_row_tuples) (defScope st_row_tuples) .none kV_row_tuples dc_row_tuples pm_row_tuples an_row_tuples cd_row_tuples ct_row_tuples), sl_row_tuples⟩)
    (c_row_tuples : PySem.W.codeIn K cd_row_tuples "row_tuples" = true)
    (k_row_tuples : PySem.W.keepIn K (.ref f_row_tuples) = true)
    (a_uneven_place : PySem.W.nsIn K mainGlobals "uneven_place" = some (some (.ref f_uneven_place)))
    (l_uneven_place : K.lookup f_uneven_place = some ⟨oc_uneven_place, od_uneven_place, .func (PySem.W.fnOf "uneven_place" "uneven_place" (defArgs st_uneven_place) (defBody st_uneven_place) (defScope st_uneven_place) .none kV_uneven_place dc_uneven_place pm_uneven_place an_uneven_place cd_uneven_place ct_uneven_place), sl_uneven_place⟩)
    (c_uneven_place : PySem.W.codeIn K cd_uneven_place "uneven_place" = true)
    (k_uneven_place : PySem.W.keepIn K (.ref f_uneven_place) = true)
    (a_flat_tables : PySem.W.nsIn K mainGlobals "flat_tables" = some (some (.ref f_flat_tables)))
    (l_flat_tables : K.lookup f_flat_tables = some ⟨oc_flat_tables, od_flat_tables, .func (PySem.W.fnOf "flat_tables" "flat_tables" (defArgs st_flat_tables) (defBody st_flat_tables) (defScope st_flat_tables) .none kV_flat_tables dc_flat_tables pm_flat_tables an_flat_tables cd_flat_tables ct_flat_tables), sl_flat_tables⟩)
    (c_flat_tables : PySem.W.codeIn K cd_flat_tables "flat_tables" = true)
    (k_flat_tables : PySem.W.keepIn K (.ref f_flat_tables) = true)
    (a_u_law_flat : PySem.W.nsIn K mainGlobals "_law_flat" = some (some (.ref f_u_law_flat)))
    (l_u_law_flat : K.lookup f_u_law_flat = some ⟨oc_u_law_flat, od_u_law_flat, .func (PySem.W.fnOf "_law_flat" "_law_flat" (defArgs st_u_law_flat) (defBody st_u_law_flat) (defScope st_u_law_flat) .none kV_u_law_flat dc_u_law_flat pm_u_law_flat an_u_law_flat cd_u_law_flat ct_u_law_flat), sl_u_law_flat⟩)
    (c_u_law_flat : PySem.W.codeIn K cd_u_law_flat "_law_flat" = true)
    (k_u_law_flat : PySem.W.keepIn K (.ref f_u_law_flat) = true)
    (a_u_law_integer : PySem.W.nsIn K mainGlobals "_law_integer" = some (some (.ref f_u_law_integer)))
    (l_u_law_integer : K.lookup f_u_law_integer = some ⟨oc_u_law_integer, od_u_law_integer, .func (PySem.W.fnOf "_law_integer" "_law_integer" (defArgs st_u_law_integer) (defBody st_u_law_integer) (defScope st_u_law_integer) .none kV_u_law_integer dc_u_law_integer pm_u_law_integer an_u_law_integer cd_u_law_integer ct_u_law_integer), sl_u_law_integer⟩)
    (c_u_law_integer : PySem.W.codeIn K cd_u_law_integer "_law_integer" = true)
    (k_u_law_integer : PySem.W.keepIn K (.ref f_u_law_integer) = true)
    (a_u_law_same : PySem.W.nsIn K mainGlobals "_law_same" = some (some (.ref f_u_law_same)))
    (l_u_law_same : K.lookup f_u_law_same = some ⟨oc_u_law_same, od_u_law_same, .func (PySem.W.fnOf "_law_same" "_law_same" (defArgs st_u_law_same) (defBody st_u_law_same) (defScope st_u_law_same) .none kV_u_law_same dc_u_law_same pm_u_law_same an_u_law_same cd_u_law_same ct_u_law_same), sl_u_law_same⟩)
    (c_u_law_same : PySem.W.codeIn K cd_u_law_same "_law_same" = true)
    (k_u_law_same : PySem.W.keepIn K (.ref f_u_law_same) = true)
    (a_is_integer : PySem.W.nsIn K mainGlobals "is_integer" = some (some (.ref f_is_integer)))
    (l_is_integer : K.lookup f_is_integer = some ⟨oc_is_integer, od_is_integer, .func (PySem.W.fnOf "is_integer" "is_integer" (defArgs st_is_integer) (defBody st_is_integer) (defScope st_is_integer) .none kV_is_integer dc_is_integer pm_is_integer an_is_integer cd_is_integer ct_is_integer), sl_is_integer⟩)
    (c_is_integer : PySem.W.codeIn K cd_is_integer "is_integer" = true)
    (k_is_integer : PySem.W.keepIn K (.ref f_is_integer) = true)
    (a_are_rows : PySem.W.nsIn K mainGlobals "are_rows" = some (some (.ref f_are_rows)))
    (l_are_rows : K.lookup f_are_rows = some ⟨oc_are_rows, od_are_rows, .func (PySem.W.fnOf "are_rows" "are_rows" (defArgs st_are_rows) (defBody st_are_rows) (defScope st_are_rows) .none kV_are_rows dc_are_rows pm_are_rows an_are_rows cd_are_rows ct_are_rows), sl_are_rows⟩)
    (c_are_rows : PySem.W.codeIn K cd_are_rows "are_rows" = true)
    (k_are_rows : PySem.W.keepIn K (.ref f_are_rows) = true)
    (a_mixed_at : PySem.W.nsIn K mainGlobals "mixed_at" = some (some (.ref f_mixed_at)))
    (l_mixed_at : K.lookup f_mixed_at = some ⟨oc_mixed_at, od_mixed_at, .func (PySem.W.fnOf "mixed_at" "mixed_at" (defArgs st_mixed_at) (defBody st_mixed_at) (defScope st_mixed_at) .none kV_mixed_at dc_mixed_at pm_mixed_at an_mixed_at cd_mixed_at ct_mixed_at), sl_mixed_at⟩)
    (c_mixed_at : PySem.W.codeIn K cd_mixed_at "mixed_at" = true)
    (k_mixed_at : PySem.W.keepIn K (.ref f_mixed_at) = true)
    (a_Board_mixed : PySem.W.findIn K (.ref C_Board) "mixed" = some (some (.ref f_Board_mixed)))
    (i_Board_mixed : PySem.W.isFn K (.ref f_Board_mixed) = true)
    (l_Board_mixed : K.lookup f_Board_mixed = some ⟨oc_Board_mixed, od_Board_mixed, .func (PySem.W.fnOf "mixed" "Board.mixed" (defArgs st_Board_mixed) (defBody st_Board_mixed) (defScope st_Board_mixed) .none kV_Board_mixed dc_Board_mixed pm_Board_mixed an_Board_mixed cd_Board_mixed ct_Board_mixed), sl_Board_mixed⟩)
    (c_Board_mixed : PySem.W.codeIn K cd_Board_mixed "Board.mixed" = true)
    (k_Board_mixed : PySem.W.keepIn K (.ref f_Board_mixed) = true)
    (a_board_fault : PySem.W.nsIn K mainGlobals "board_fault" = some (some (.ref f_board_fault)))
    (l_board_fault : K.lookup f_board_fault = some ⟨oc_board_fault, od_board_fault, .func (PySem.W.fnOf "board_fault" "board_fault" (defArgs st_board_fault) (defBody st_board_fault) (defScope st_board_fault) .none kV_board_fault dc_board_fault pm_board_fault an_board_fault cd_board_fault ct_board_fault), sl_board_fault⟩)
    (c_board_fault : PySem.W.codeIn K cd_board_fault "board_fault" = true)
    (k_board_fault : PySem.W.keepIn K (.ref f_board_fault) = true)
    (a_Board___init__ : PySem.W.findIn K (.ref C_Board) "__init__" = some (some (.ref f_Board___init__)))
    (i_Board___init__ : PySem.W.isFn K (.ref f_Board___init__) = true)
    (l_Board___init__ : K.lookup f_Board___init__ = some ⟨oc_Board___init__, od_Board___init__, .func (PySem.W.fnOf "__init__" "Board.__init__" (defArgs st_Board___init__) (defBody st_Board___init__) (defScope st_Board___init__) .none kV_Board___init__ dc_Board___init__ pm_Board___init__ an_Board___init__ cd_Board___init__ ct_Board___init__), sl_Board___init__⟩)
    (c_Board___init__ : PySem.W.codeIn K cd_Board___init__ "Board.__init__" = true)
    (k_Board___init__ : PySem.W.keepIn K (.ref f_Board___init__) = true)
    (a_u_law_asked : PySem.W.nsIn K mainGlobals "_law_asked" = some (some (.ref f_u_law_asked)))
    (l_u_law_asked : K.lookup f_u_law_asked = some ⟨oc_u_law_asked, od_u_law_asked, .func (PySem.W.fnOf "_law_asked" "_law_asked" (defArgs st_u_law_asked) (defBody st_u_law_asked) (defScope st_u_law_asked) .none kV_u_law_asked dc_u_law_asked pm_u_law_asked an_u_law_asked cd_u_law_asked ct_u_law_asked), sl_u_law_asked⟩)
    (c_u_law_asked : PySem.W.codeIn K cd_u_law_asked "_law_asked" = true)
    (k_u_law_asked : PySem.W.keepIn K (.ref f_u_law_asked) = true)
    (a_u_law_differences : PySem.W.nsIn K mainGlobals "_law_differences" = some (some (.ref f_u_law_differences)))
    (l_u_law_differences : K.lookup f_u_law_differences = some ⟨oc_u_law_differences, od_u_law_differences, .func (PySem.W.fnOf "_law_differences" "_law_differences" (defArgs st_u_law_differences) (defBody st_u_law_differences) (defScope st_u_law_differences) .none kV_u_law_differences dc_u_law_differences pm_u_law_differences an_u_law_differences cd_u_law_differences ct_u_law_differences), sl_u_law_differences⟩)
    (c_u_law_differences : PySem.W.codeIn K cd_u_law_differences "_law_differences" = true)
    (k_u_law_differences : PySem.W.keepIn K (.ref f_u_law_differences) = true)
    (a_u_law_refused : PySem.W.nsIn K mainGlobals "_law_refused" = some (some (.ref f_u_law_refused)))
    (l_u_law_refused : K.lookup f_u_law_refused = some ⟨oc_u_law_refused, od_u_law_refused, .func (PySem.W.fnOf "_law_refused" "_law_refused" (defArgs st_u_law_refused) (defBody st_u_law_refused) (defScope st_u_law_refused) .none kV_u_law_refused dc_u_law_refused pm_u_law_refused an_u_law_refused cd_u_law_refused ct_u_law_refused), sl_u_law_refused⟩)
    (c_u_law_refused : PySem.W.codeIn K cd_u_law_refused "_law_refused" = true)
    (k_u_law_refused : PySem.W.keepIn K (.ref f_u_law_refused) = true)
    (a_Board_even : PySem.W.findIn K (.ref C_Board) "even" = some (some (.ref f_Board_even)))
    (i_Board_even : PySem.W.isFn K (.ref f_Board_even) = true)
    (l_Board_even : K.lookup f_Board_even = some ⟨oc_Board_even, od_Board_even, .func (PySem.W.fnOf "even" "Board.even" (defArgs st_Board_even) (defBody st_Board_even) (defScope st_Board_even) .none kV_Board_even dc_Board_even pm_Board_even an_Board_even cd_Board_even ct_Board_even), sl_Board_even⟩)
    (c_Board_even : PySem.W.codeIn K cd_Board_even "Board.even" = true)
    (k_Board_even : PySem.W.keepIn K (.ref f_Board_even) = true)
    (a_u_law_is_quotient : PySem.W.nsIn K mainGlobals "_law_is_quotient" = some (some (.ref f_u_law_is_quotient)))
    (l_u_law_is_quotient : K.lookup f_u_law_is_quotient = some ⟨oc_u_law_is_quotient, od_u_law_is_quotient, .func (PySem.W.fnOf "_law_is_quotient" "_law_is_quotient" (defArgs st_u_law_is_quotient) (defBody st_u_law_is_quotient) (defScope st_u_law_is_quotient) .none kV_u_law_is_quotient dc_u_law_is_quotient pm_u_law_is_quotient an_u_law_is_quotient cd_u_law_is_quotient ct_u_law_is_quotient), sl_u_law_is_quotient⟩)
    (c_u_law_is_quotient : PySem.W.codeIn K cd_u_law_is_quotient "_law_is_quotient" = true)
    (k_u_law_is_quotient : PySem.W.keepIn K (.ref f_u_law_is_quotient) = true)
    (a_u_law_is_flat : PySem.W.nsIn K mainGlobals "_law_is_flat" = some (some (.ref f_u_law_is_flat)))
    (l_u_law_is_flat : K.lookup f_u_law_is_flat = some ⟨oc_u_law_is_flat, od_u_law_is_flat, .func (PySem.W.fnOf "_law_is_flat" "_law_is_flat" (defArgs st_u_law_is_flat) (defBody st_u_law_is_flat) (defScope st_u_law_is_flat) .none kV_u_law_is_flat dc_u_law_is_flat pm_u_law_is_flat an_u_law_is_flat cd_u_law_is_flat ct_u_law_is_flat), sl_u_law_is_flat⟩)
    (c_u_law_is_flat : PySem.W.codeIn K cd_u_law_is_flat "_law_is_flat" = true)
    (k_u_law_is_flat : PySem.W.keepIn K (.ref f_u_law_is_flat) = true)
    (a_common_divisor : PySem.W.nsIn K mainGlobals "common_divisor" = some (some (.ref f_common_divisor)))
    (l_common_divisor : K.lookup f_common_divisor = some ⟨oc_common_divisor, od_common_divisor, .func (PySem.W.fnOf "common_divisor" "common_divisor" (defArgs st_common_divisor) (defBody st_common_divisor) (defScope st_common_divisor) .none kV_common_divisor dc_common_divisor pm_common_divisor an_common_divisor cd_common_divisor ct_common_divisor), sl_common_divisor⟩)
    (c_common_divisor : PySem.W.codeIn K cd_common_divisor "common_divisor" = true)
    (k_common_divisor : PySem.W.keepIn K (.ref f_common_divisor) = true)
    (a_is_quotient : PySem.W.nsIn K mainGlobals "is_quotient" = some (some (.ref f_is_quotient)))
    (l_is_quotient : K.lookup f_is_quotient = some ⟨oc_is_quotient, od_is_quotient, .func (PySem.W.fnOf "is_quotient" "is_quotient" (defArgs st_is_quotient) (defBody st_is_quotient) (defScope st_is_quotient) .none kV_is_quotient dc_is_quotient pm_is_quotient an_is_quotient cd_is_quotient ct_is_quotient), sl_is_quotient⟩)
    (c_is_quotient : PySem.W.codeIn K cd_is_quotient "is_quotient" = true)
    (k_is_quotient : PySem.W.keepIn K (.ref f_is_quotient) = true)
    (a_are_quotients : PySem.W.nsIn K mainGlobals "are_quotients" = some (some (.ref f_are_quotients)))
    (l_are_quotients : K.lookup f_are_quotients = some ⟨oc_are_quotients, od_are_quotients, .func (PySem.W.fnOf "are_quotients" "are_quotients" (defArgs st_are_quotients) (defBody st_are_quotients) (defScope st_are_quotients) .none kV_are_quotients dc_are_quotients pm_are_quotients an_are_quotients cd_are_quotients ct_are_quotients), sl_are_quotients⟩)
    (c_are_quotients : PySem.W.codeIn K cd_are_quotients "are_quotients" = true)
    (k_are_quotients : PySem.W.keepIn K (.ref f_are_quotients) = true)
    (a_others_counts : PySem.W.nsIn K mainGlobals "others_counts" = some (some (.ref f_others_counts)))
    (l_others_counts : K.lookup f_others_counts = some ⟨oc_others_counts, od_others_counts, .func (PySem.W.fnOf "others_counts" "others_counts" (defArgs st_others_counts) (defBody st_others_counts) (defScope st_others_counts) .none kV_others_counts dc_others_counts pm_others_counts an_others_counts cd_others_counts ct_others_counts), sl_others_counts⟩)
    (c_others_counts : PySem.W.codeIn K cd_others_counts "others_counts" = true)
    (k_others_counts : PySem.W.keepIn K (.ref f_others_counts) = true)
    (a_is_tables : PySem.W.nsIn K mainGlobals "is_tables" = some (some (.ref f_is_tables)))
    (l_is_tables : K.lookup f_is_tables = some ⟨oc_is_tables, od_is_tables, .func (PySem.W.fnOf "is_tables" "is_tables" (defArgs st_is_tables) (defBody st_is_tables) (defScope st_is_tables) .none kV_is_tables dc_is_tables pm_is_tables an_is_tables cd_is_tables ct_is_tables), sl_is_tables⟩)
    (c_is_tables : PySem.W.codeIn K cd_is_tables "is_tables" = true)
    (k_is_tables : PySem.W.keepIn K (.ref f_is_tables) = true)
    (a_choices_by_place : PySem.W.nsIn K mainGlobals "choices_by_place" = some (some (.ref f_choices_by_place)))
    (l_choices_by_place : K.lookup f_choices_by_place = some ⟨oc_choices_by_place, od_choices_by_place, .func (PySem.W.fnOf "choices_by_place" "choices_by_place" (defArgs st_choices_by_place) (defBody st_choices_by_place) (defScope st_choices_by_place) .none kV_choices_by_place dc_choices_by_place pm_choices_by_place an_choices_by_place cd_choices_by_place ct_choices_by_place), sl_choices_by_place⟩)
    (c_choices_by_place : PySem.W.codeIn K cd_choices_by_place "choices_by_place" = true)
    (k_choices_by_place : PySem.W.keepIn K (.ref f_choices_by_place) = true)
    (a_u_lowest_terms : PySem.W.nsIn K mainGlobals "_lowest_terms" = some (some (.ref f_u_lowest_terms)))
    (l_u_lowest_terms : K.lookup f_u_lowest_terms = some ⟨oc_u_lowest_terms, od_u_lowest_terms, .func (PySem.W.fnOf "_lowest_terms" "_lowest_terms" (defArgs st_u_lowest_terms) (defBody st_u_lowest_terms) (defScope st_u_lowest_terms) .none kV_u_lowest_terms dc_u_lowest_terms pm_u_lowest_terms an_u_lowest_terms cd_u_lowest_terms ct_u_lowest_terms), sl_u_lowest_terms⟩)
    (c_u_lowest_terms : PySem.W.codeIn K cd_u_lowest_terms "_lowest_terms" = true)
    (k_u_lowest_terms : PySem.W.keepIn K (.ref f_u_lowest_terms) = true)
    (a_quotient_of : PySem.W.nsIn K mainGlobals "quotient_of" = some (some (.ref f_quotient_of)))
    (l_quotient_of : K.lookup f_quotient_of = some ⟨oc_quotient_of, od_quotient_of, .func (PySem.W.fnOf "quotient_of" "quotient_of" (defArgs st_quotient_of) (defBody st_quotient_of) (defScope st_quotient_of) .none kV_quotient_of dc_quotient_of pm_quotient_of an_quotient_of cd_quotient_of ct_quotient_of), sl_quotient_of⟩)
    (c_quotient_of : PySem.W.codeIn K cd_quotient_of "quotient_of" = true)
    (k_quotient_of : PySem.W.keepIn K (.ref f_quotient_of) = true)
    (a_quotient_sum : PySem.W.nsIn K mainGlobals "quotient_sum" = some (some (.ref f_quotient_sum)))
    (l_quotient_sum : K.lookup f_quotient_sum = some ⟨oc_quotient_sum, od_quotient_sum, .func (PySem.W.fnOf "quotient_sum" "quotient_sum" (defArgs st_quotient_sum) (defBody st_quotient_sum) (defScope st_quotient_sum) .none kV_quotient_sum dc_quotient_sum pm_quotient_sum an_quotient_sum cd_quotient_sum ct_quotient_sum), sl_quotient_sum⟩)
    (c_quotient_sum : PySem.W.codeIn K cd_quotient_sum "quotient_sum" = true)
    (k_quotient_sum : PySem.W.keepIn K (.ref f_quotient_sum) = true)
    (a_till_list : PySem.W.nsIn K mainGlobals "till_list" = some (some (.ref f_till_list)))
    (l_till_list : K.lookup f_till_list = some ⟨oc_till_list, od_till_list, .func (PySem.W.fnOf "till_list" "till_list" (defArgs st_till_list) (defBody st_till_list) (defScope st_till_list) .none kV_till_list dc_till_list pm_till_list an_till_list cd_till_list ct_till_list), sl_till_list⟩)
    (c_till_list : PySem.W.codeIn K cd_till_list "till_list" = true)
    (k_till_list : PySem.W.keepIn K (.ref f_till_list) = true)
    (a_till_row : PySem.W.nsIn K mainGlobals "till_row" = some (some (.ref f_till_row)))
    (l_till_row : K.lookup f_till_row = some ⟨oc_till_row, od_till_row, .func (PySem.W.fnOf "till_row" "till_row" (defArgs st_till_row) (defBody st_till_row) (defScope st_till_row) .none kV_till_row dc_till_row pm_till_row an_till_row cd_till_row ct_till_row), sl_till_row⟩)
    (c_till_row : PySem.W.codeIn K cd_till_row "till_row" = true)
    (k_till_row : PySem.W.keepIn K (.ref f_till_row) = true)
    (a_is_under : PySem.W.nsIn K mainGlobals "is_under" = some (some (.ref f_is_under)))
    (l_is_under : K.lookup f_is_under = some ⟨oc_is_under, od_is_under, .func (PySem.W.fnOf "is_under" "is_under" (defArgs st_is_under) (defBody st_is_under) (defScope st_is_under) .none kV_is_under dc_is_under pm_is_under an_is_under cd_is_under ct_is_under), sl_is_under⟩)
    (c_is_under : PySem.W.codeIn K cd_is_under "is_under" = true)
    (k_is_under : PySem.W.keepIn K (.ref f_is_under) = true)
    (a_ends_of_quotients : PySem.W.nsIn K mainGlobals "ends_of_quotients" = some (some (.ref f_ends_of_quotients)))
    (l_ends_of_quotients : K.lookup f_ends_of_quotients = some ⟨oc_ends_of_quotients, od_ends_of_quotients, .func (PySem.W.fnOf "ends_of_quotients" "ends_of_quotients" (defArgs st_ends_of_quotients) (defBody st_ends_of_quotients) (defScope st_ends_of_quotients) .none kV_ends_of_quotients dc_ends_of_quotients pm_ends_of_quotients an_ends_of_quotients cd_ends_of_quotients ct_ends_of_quotients), sl_ends_of_quotients⟩)
    (c_ends_of_quotients : PySem.W.codeIn K cd_ends_of_quotients "ends_of_quotients" = true)
    (k_ends_of_quotients : PySem.W.keepIn K (.ref f_ends_of_quotients) = true)
    (a_u_need_quotients : PySem.W.nsIn K mainGlobals "_need_quotients" = some (some (.ref f_u_need_quotients)))
    (l_u_need_quotients : K.lookup f_u_need_quotients = some ⟨oc_u_need_quotients, od_u_need_quotients, .func (PySem.W.fnOf "_need_quotients" "_need_quotients" (defArgs st_u_need_quotients) (defBody st_u_need_quotients) (defScope st_u_need_quotients) .none kV_u_need_quotients dc_u_need_quotients pm_u_need_quotients an_u_need_quotients cd_u_need_quotients ct_u_need_quotients), sl_u_need_quotients⟩)
    (c_u_need_quotients : PySem.W.codeIn K cd_u_need_quotients "_need_quotients" = true)
    (k_u_need_quotients : PySem.W.keepIn K (.ref f_u_need_quotients) = true)
    (a_minus : PySem.W.nsIn K mainGlobals "minus" = some (some (.ref f_minus)))
    (l_minus : K.lookup f_minus = some ⟨oc_minus, od_minus, .func (PySem.W.fnOf "minus" "minus" (defArgs st_minus) (defBody st_minus) (defScope st_minus) .none kV_minus dc_minus pm_minus an_minus cd_minus ct_minus), sl_minus⟩)
    (c_minus : PySem.W.codeIn K cd_minus "minus" = true)
    (k_minus : PySem.W.keepIn K (.ref f_minus) = true)
    (a_till_span : PySem.W.nsIn K mainGlobals "till_span" = some (some (.ref f_till_span)))
    (l_till_span : K.lookup f_till_span = some ⟨oc_till_span, od_till_span, .func (PySem.W.fnOf "till_span" "till_span" (defArgs st_till_span) (defBody st_till_span) (defScope st_till_span) .none kV_till_span dc_till_span pm_till_span an_till_span cd_till_span ct_till_span), sl_till_span⟩)
    (c_till_span : PySem.W.codeIn K cd_till_span "till_span" = true)
    (k_till_span : PySem.W.keepIn K (.ref f_till_span) = true)
    (a_law : PySem.W.nsIn K mainGlobals "law" = some (some (.ref f_law)))
    (l_law : K.lookup f_law = some ⟨oc_law, od_law, .func (PySem.W.fnOf "law" "law" (defArgs st_law) (defBody st_law) (defScope st_law) .none kV_law dc_law pm_law an_law cd_law ct_law), sl_law⟩)
    (c_law : PySem.W.codeIn K cd_law "law" = true)
    (k_law : PySem.W.keepIn K (.ref f_law) = true)
    (a_NotUsable_init : PySem.W.findIn K (.ref C_NotUsable) "__init__" = some (some (.ref f_NotUsable_init)))
    (t_NotUsable_init : PySem.W.typeIn K (.ref f_NotUsable_init) = some (.type "function"))
    (l_NotUsable_init : K.lookup f_NotUsable_init = some ⟨oc_NotUsable_init, od_NotUsable_init, .func (PySem.W.fnOf "__init__" "NotUsable.__init__" (defArgs st_NotUsable_init) (defBody st_NotUsable_init) (defScope st_NotUsable_init) .none kV_NotUsable_init dc_NotUsable_init pm_NotUsable_init an_NotUsable_init cd_NotUsable_init ct_NotUsable_init), sl_NotUsable_init⟩)
    (c_NotUsable_init : PySem.W.codeIn K cd_NotUsable_init "NotUsable.__init__" = true)
    (k_NotUsable_init : PySem.W.keepIn K (.ref f_NotUsable_init) = true)
    (a_Uneven_init : PySem.W.findIn K (.ref C_Uneven) "__init__" = some (some (.ref f_Uneven_init)))
    (t_Uneven_init : PySem.W.typeIn K (.ref f_Uneven_init) = some (.type "function"))
    (l_Uneven_init : K.lookup f_Uneven_init = some ⟨oc_Uneven_init, od_Uneven_init, .func (PySem.W.fnOf "__init__" "Uneven.__init__" (defArgs st_Uneven_init) (defBody st_Uneven_init) (defScope st_Uneven_init) .none kV_Uneven_init dc_Uneven_init pm_Uneven_init an_Uneven_init cd_Uneven_init ct_Uneven_init), sl_Uneven_init⟩)
    (c_Uneven_init : PySem.W.codeIn K cd_Uneven_init "Uneven.__init__" = true)
    (k_Uneven_init : PySem.W.keepIn K (.ref f_Uneven_init) = true)
    (sa_NotUsable : PySem.W.findIn K (.ref C_NotUsable) "__setattr__" = some (some (.builtin "object.__setattr__")))
    (ga_NotUsable : PySem.W.findIn K (.ref C_NotUsable) "__getattribute__" = some (some (.builtin "BaseException.__getattribute__")))
    (gg_NotUsable : PySem.W.findIn K (.ref C_NotUsable) "__getattr__" = some none)
    (n_NotUsable_word : PySem.W.findIn K (.ref C_NotUsable) "word" = some none)
    (n_NotUsable_at : PySem.W.findIn K (.ref C_NotUsable) "at" = some none)
    (kC_NotUsable : PySem.W.keepIn K (.ref C_NotUsable) = true)
    (eC_NotUsable : PySem.W.subIn K (.ref C_NotUsable) (.type "BaseException") = some true)
    (tC_NotUsable : PySem.W.typeIn K (.ref C_NotUsable) = some (.type "type"))
    (hC_NotUsable : PySem.W.hasDictIn K C_NotUsable = true)
    (iC_NotUsable : PySem.W.isClsIn K C_NotUsable = true)
    (s_NotUsable_NotUsable : PySem.W.subIn K (.ref C_NotUsable) (.ref C_NotUsable) = some true)
    (s_Uneven_NotUsable : PySem.W.subIn K (.ref C_Uneven) (.ref C_NotUsable) = some false)
    (sa_Uneven : PySem.W.findIn K (.ref C_Uneven) "__setattr__" = some (some (.builtin "object.__setattr__")))
    (ga_Uneven : PySem.W.findIn K (.ref C_Uneven) "__getattribute__" = some (some (.builtin "BaseException.__getattribute__")))
    (gg_Uneven : PySem.W.findIn K (.ref C_Uneven) "__getattr__" = some none)
    (n_Uneven_place : PySem.W.findIn K (.ref C_Uneven) "place" = some none)
    (kC_Uneven : PySem.W.keepIn K (.ref C_Uneven) = true)
    (eC_Uneven : PySem.W.subIn K (.ref C_Uneven) (.type "BaseException") = some true)
    (tC_Uneven : PySem.W.typeIn K (.ref C_Uneven) = some (.type "type"))
    (hC_Uneven : PySem.W.hasDictIn K C_Uneven = true)
    (iC_Uneven : PySem.W.isClsIn K C_Uneven = true)
    (s_NotUsable_Uneven : PySem.W.subIn K (.ref C_NotUsable) (.ref C_Uneven) = some false)
    (s_Uneven_Uneven : PySem.W.subIn K (.ref C_Uneven) (.ref C_Uneven) = some true)
    (pg_Board : PySem.W.plainGet K C_Board Str.empty = true)
    (hd_Board : PySem.W.hasDictIn K C_Board = true)
    (po_Board : PySem.W.plainOver K C_Board = true)
    (sa_Board : PySem.W.findIn K (.ref C_Board) "__setattr__" = some (some (.builtin "object.__setattr__")))
    (mk_Board : PySem.W.makesIn K C_Board = true)
    (kc_Board : PySem.W.keepIn K (.ref C_Board) = true)
    (n_Board_u_pair : PySem.W.findIn K (.ref C_Board) "_pair" = some none)
    (z_abs : PySem.W.nsIn K mainGlobals "abs" = some none)
    (z_bool : PySem.W.nsIn K mainGlobals "bool" = some none)
    (z_enumerate : PySem.W.nsIn K mainGlobals "enumerate" = some none)
    (z_int : PySem.W.nsIn K mainGlobals "int" = some none)
    (z_isinstance : PySem.W.nsIn K mainGlobals "isinstance" = some none)
    (z_len : PySem.W.nsIn K mainGlobals "len" = some none)
    (z_list : PySem.W.nsIn K mainGlobals "list" = some none)
    (z_range : PySem.W.nsIn K mainGlobals "range" = some none)
    (z_str : PySem.W.nsIn K mainGlobals "str" = some none)
    (z_sum : PySem.W.nsIn K mainGlobals "sum" = some none)
    (z_tuple : PySem.W.nsIn K mainGlobals "tuple" = some none)
    (z_zip : PySem.W.nsIn K mainGlobals "zip" = some none) :
    ∃ (ad : Str → Addr) (fdt : Str → FuncData) (cx : Str → Addr), ad "law" = f_law ∧ fdt "law" = PySem.W.fnOf "law" "law" (defArgs st_law) (defBody st_law) (defScope st_law) .none kV_law dc_law pm_law an_law cd_law ct_law ∧ Tx K mg ad fdt cx := by
  let ad : Str → Addr := fun x => (([(("_law_deal" : Str), f_u_law_deal), (("_law_pick" : Str), f_u_law_pick), (("_law_counts" : Str), f_u_law_counts), (("_law_places" : Str), f_u_law_places), (("_law_choice" : Str), f_u_law_choice), (("_law_board" : Str), f_u_law_board), (("_law_at" : Str), f_u_law_at), (("_law_mixed" : Str), f_u_law_mixed), (("_law_uneven" : Str), f_u_law_uneven), (("board_size" : Str), f_board_size), (("firsts_by_place" : Str), f_firsts_by_place), (("flattened" : Str), f_flattened), (("row_tuples" : Str), f_row_tuples), (("uneven_place" : Str), f_uneven_place), (("flat_tables" : Str), f_flat_tables), (("_law_flat" : Str), f_u_law_flat), (("_law_integer" : Str), f_u_law_integer), (("_law_same" : Str), f_u_law_same), (("is_integer" : Str), f_is_integer), (("are_rows" : Str), f_are_rows), (("mixed_at" : Str), f_mixed_at), (("Board.mixed" : Str), f_Board_mixed), (("board_fault" : Str), f_board_fault), (("Board.__init__" : Str), f_Board___init__), (("_law_asked" : Str), f_u_law_asked), (("_law_differences" : Str), f_u_law_differences), (("_law_refused" : Str), f_u_law_refused), (("Board.even" : Str), f_Board_even), (("_law_is_quotient" : Str), f_u_law_is_quotient), (("_law_is_flat" : Str), f_u_law_is_flat), (("common_divisor" : Str), f_common_divisor), (("is_quotient" : Str), f_is_quotient), (("are_quotients" : Str), f_are_quotients), (("others_counts" : Str), f_others_counts), (("is_tables" : Str), f_is_tables), (("choices_by_place" : Str), f_choices_by_place), (("_lowest_terms" : Str), f_u_lowest_terms), (("quotient_of" : Str), f_quotient_of), (("quotient_sum" : Str), f_quotient_sum), (("till_list" : Str), f_till_list), (("till_row" : Str), f_till_row), (("is_under" : Str), f_is_under), (("ends_of_quotients" : Str), f_ends_of_quotients), (("_need_quotients" : Str), f_u_need_quotients), (("minus" : Str), f_minus), (("till_span" : Str), f_till_span), (("law" : Str), f_law), (("NotUsable.__init__" : Str), f_NotUsable_init), (("Uneven.__init__" : Str), f_Uneven_init)] : List (Str × Addr)).lookup x).getD 0
  let cx : Str → Addr := fun x => (([(("NotUsable" : Str), C_NotUsable), (("Uneven" : Str), C_Uneven), (("Board" : Str), C_Board)] : List (Str × Addr)).lookup x).getD 0
  let fdt : Str → FuncData := fun x => (([(("_law_deal" : Str), PySem.W.fnOf "_law_deal" "_law_deal" (defArgs st_u_law_deal) (defBody st_u_law_deal) (defScope st_u_law_deal) .none kV_u_law_deal dc_u_law_deal pm_u_law_deal an_u_law_deal cd_u_law_deal ct_u_law_deal),
    (("_law_pick" : Str), PySem.W.fnOf "_law_pick" "_law_pick" (defArgs st_u_law_pick) (defBody st_u_law_pick) (defScope st_u_law_pick) .none kV_u_law_pick dc_u_law_pick pm_u_law_pick an_u_law_pick cd_u_law_pick ct_u_law_pick),
    (("_law_counts" : Str), PySem.W.fnOf "_law_counts" "_law_counts" (defArgs st_u_law_counts) (defBody st_u_law_counts) (defScope st_u_law_counts) .none kV_u_law_counts dc_u_law_counts pm_u_law_counts an_u_law_counts cd_u_law_counts ct_u_law_counts),
    (("_law_places" : Str), PySem.W.fnOf "_law_places" "_law_places" (defArgs st_u_law_places) (defBody st_u_law_places) (defScope st_u_law_places) .none kV_u_law_places dc_u_law_places pm_u_law_places an_u_law_places cd_u_law_places ct_u_law_places),
    (("_law_choice" : Str), PySem.W.fnOf "_law_choice" "_law_choice" (defArgs st_u_law_choice) (defBody st_u_law_choice) (defScope st_u_law_choice) .none kV_u_law_choice dc_u_law_choice pm_u_law_choice an_u_law_choice cd_u_law_choice ct_u_law_choice),
    (("_law_board" : Str), PySem.W.fnOf "_law_board" "_law_board" (defArgs st_u_law_board) (defBody st_u_law_board) (defScope st_u_law_board) .none kV_u_law_board dc_u_law_board pm_u_law_board an_u_law_board cd_u_law_board ct_u_law_board),
    (("_law_at" : Str), PySem.W.fnOf "_law_at" "_law_at" (defArgs st_u_law_at) (defBody st_u_law_at) (defScope st_u_law_at) .none kV_u_law_at dc_u_law_at pm_u_law_at an_u_law_at cd_u_law_at ct_u_law_at),
    (("_law_mixed" : Str), PySem.W.fnOf "_law_mixed" "_law_mixed" (defArgs st_u_law_mixed) (defBody st_u_law_mixed) (defScope st_u_law_mixed) .none kV_u_law_mixed dc_u_law_mixed pm_u_law_mixed an_u_law_mixed cd_u_law_mixed ct_u_law_mixed),
    (("_law_uneven" : Str), PySem.W.fnOf "_law_uneven" "_law_uneven" (defArgs st_u_law_uneven) (defBody st_u_law_uneven) (defScope st_u_law_uneven) .none kV_u_law_uneven dc_u_law_uneven pm_u_law_uneven an_u_law_uneven cd_u_law_uneven ct_u_law_uneven),
    (("board_size" : Str), PySem.W.fnOf "board_size" "board_size" (defArgs st_board_size) (defBody st_board_size) (defScope st_board_size) .none kV_board_size dc_board_size pm_board_size an_board_size cd_board_size ct_board_size),
    (("firsts_by_place" : Str), PySem.W.fnOf "firsts_by_place" "firsts_by_place" (defArgs st_firsts_by_place) (defBody st_firsts_by_place) (defScope st_firsts_by_place) .none kV_firsts_by_place dc_firsts_by_place pm_firsts_by_place an_firsts_by_place cd_firsts_by_place ct_firsts_by_place),
    (("flattened" : Str), PySem.W.fnOf "flattened" "flattened" (defArgs st_flattened) (defBody st_flattened) (defScope st_flattened) .none kV_flattened dc_flattened pm_flattened an_flattened cd_flattened ct_flattened),
    (("row_tuples" : Str), PySem.W.fnOf "row_tuples" "row_tuples" (defArgs st_row_tuples) (defBody st_row_tuples) (defScope st_row_tuples) .none kV_row_tuples dc_row_tuples pm_row_tuples an_row_tuples cd_row_tuples ct_row_tuples),
    (("uneven_place" : Str), PySem.W.fnOf "uneven_place" "uneven_place" (defArgs st_uneven_place) (defBody st_uneven_place) (defScope st_uneven_place) .none kV_uneven_place dc_uneven_place pm_uneven_place an_uneven_place cd_uneven_place ct_uneven_place),
    (("flat_tables" : Str), PySem.W.fnOf "flat_tables" "flat_tables" (defArgs st_flat_tables) (defBody st_flat_tables) (defScope st_flat_tables) .none kV_flat_tables dc_flat_tables pm_flat_tables an_flat_tables cd_flat_tables ct_flat_tables),
    (("_law_flat" : Str), PySem.W.fnOf "_law_flat" "_law_flat" (defArgs st_u_law_flat) (defBody st_u_law_flat) (defScope st_u_law_flat) .none kV_u_law_flat dc_u_law_flat pm_u_law_flat an_u_law_flat cd_u_law_flat ct_u_law_flat),
    (("_law_integer" : Str), PySem.W.fnOf "_law_integer" "_law_integer" (defArgs st_u_law_integer) (defBody st_u_law_integer) (defScope st_u_law_integer) .none kV_u_law_integer dc_u_law_integer pm_u_law_integer an_u_law_integer cd_u_law_integer ct_u_law_integer),
    (("_law_same" : Str), PySem.W.fnOf "_law_same" "_law_same" (defArgs st_u_law_same) (defBody st_u_law_same) (defScope st_u_law_same) .none kV_u_law_same dc_u_law_same pm_u_law_same an_u_law_same cd_u_law_same ct_u_law_same),
    (("is_integer" : Str), PySem.W.fnOf "is_integer" "is_integer" (defArgs st_is_integer) (defBody st_is_integer) (defScope st_is_integer) .none kV_is_integer dc_is_integer pm_is_integer an_is_integer cd_is_integer ct_is_integer),
    (("are_rows" : Str), PySem.W.fnOf "are_rows" "are_rows" (defArgs st_are_rows) (defBody st_are_rows) (defScope st_are_rows) .none kV_are_rows dc_are_rows pm_are_rows an_are_rows cd_are_rows ct_are_rows),
    (("mixed_at" : Str), PySem.W.fnOf "mixed_at" "mixed_at" (defArgs st_mixed_at) (defBody st_mixed_at) (defScope st_mixed_at) .none kV_mixed_at dc_mixed_at pm_mixed_at an_mixed_at cd_mixed_at ct_mixed_at),
    (("Board.mixed" : Str), PySem.W.fnOf "mixed" "Board.mixed" (defArgs st_Board_mixed) (defBody st_Board_mixed) (defScope st_Board_mixed) .none kV_Board_mixed dc_Board_mixed pm_Board_mixed an_Board_mixed cd_Board_mixed ct_Board_mixed),
    (("board_fault" : Str), PySem.W.fnOf "board_fault" "board_fault" (defArgs st_board_fault) (defBody st_board_fault) (defScope st_board_fault) .none kV_board_fault dc_board_fault pm_board_fault an_board_fault cd_board_fault ct_board_fault),
    (("Board.__init__" : Str), PySem.W.fnOf "__init__" "Board.__init__" (defArgs st_Board___init__) (defBody st_Board___init__) (defScope st_Board___init__) .none kV_Board___init__ dc_Board___init__ pm_Board___init__ an_Board___init__ cd_Board___init__ ct_Board___init__),
    (("_law_asked" : Str), PySem.W.fnOf "_law_asked" "_law_asked" (defArgs st_u_law_asked) (defBody st_u_law_asked) (defScope st_u_law_asked) .none kV_u_law_asked dc_u_law_asked pm_u_law_asked an_u_law_asked cd_u_law_asked ct_u_law_asked),
    (("_law_differences" : Str), PySem.W.fnOf "_law_differences" "_law_differences" (defArgs st_u_law_differences) (defBody st_u_law_differences) (defScope st_u_law_differences) .none kV_u_law_differences dc_u_law_differences pm_u_law_differences an_u_law_differences cd_u_law_differences ct_u_law_differences),
    (("_law_refused" : Str), PySem.W.fnOf "_law_refused" "_law_refused" (defArgs st_u_law_refused) (defBody st_u_law_refused) (defScope st_u_law_refused) .none kV_u_law_refused dc_u_law_refused pm_u_law_refused an_u_law_refused cd_u_law_refused ct_u_law_refused),
    (("Board.even" : Str), PySem.W.fnOf "even" "Board.even" (defArgs st_Board_even) (defBody st_Board_even) (defScope st_Board_even) .none kV_Board_even dc_Board_even pm_Board_even an_Board_even cd_Board_even ct_Board_even),
    (("_law_is_quotient" : Str), PySem.W.fnOf "_law_is_quotient" "_law_is_quotient" (defArgs st_u_law_is_quotient) (defBody st_u_law_is_quotient) (defScope st_u_law_is_quotient) .none kV_u_law_is_quotient dc_u_law_is_quotient pm_u_law_is_quotient an_u_law_is_quotient cd_u_law_is_quotient ct_u_law_is_quotient),
    (("_law_is_flat" : Str), PySem.W.fnOf "_law_is_flat" "_law_is_flat" (defArgs st_u_law_is_flat) (defBody st_u_law_is_flat) (defScope st_u_law_is_flat) .none kV_u_law_is_flat dc_u_law_is_flat pm_u_law_is_flat an_u_law_is_flat cd_u_law_is_flat ct_u_law_is_flat),
    (("common_divisor" : Str), PySem.W.fnOf "common_divisor" "common_divisor" (defArgs st_common_divisor) (defBody st_common_divisor) (defScope st_common_divisor) .none kV_common_divisor dc_common_divisor pm_common_divisor an_common_divisor cd_common_divisor ct_common_divisor),
    (("is_quotient" : Str), PySem.W.fnOf "is_quotient" "is_quotient" (defArgs st_is_quotient) (defBody st_is_quotient) (defScope st_is_quotient) .none kV_is_quotient dc_is_quotient pm_is_quotient an_is_quotient cd_is_quotient ct_is_quotient),
    (("are_quotients" : Str), PySem.W.fnOf "are_quotients" "are_quotients" (defArgs st_are_quotients) (defBody st_are_quotients) (defScope st_are_quotients) .none kV_are_quotients dc_are_quotients pm_are_quotients an_are_quotients cd_are_quotients ct_are_quotients),
    (("others_counts" : Str), PySem.W.fnOf "others_counts" "others_counts" (defArgs st_others_counts) (defBody st_others_counts) (defScope st_others_counts) .none kV_others_counts dc_others_counts pm_others_counts an_others_counts cd_others_counts ct_others_counts),
    (("is_tables" : Str), PySem.W.fnOf "is_tables" "is_tables" (defArgs st_is_tables) (defBody st_is_tables) (defScope st_is_tables) .none kV_is_tables dc_is_tables pm_is_tables an_is_tables cd_is_tables ct_is_tables),
    (("choices_by_place" : Str), PySem.W.fnOf "choices_by_place" "choices_by_place" (defArgs st_choices_by_place) (defBody st_choices_by_place) (defScope st_choices_by_place) .none kV_choices_by_place dc_choices_by_place pm_choices_by_place an_choices_by_place cd_choices_by_place ct_choices_by_place),
    (("_lowest_terms" : Str), PySem.W.fnOf "_lowest_terms" "_lowest_terms" (defArgs st_u_lowest_terms) (defBody st_u_lowest_terms) (defScope st_u_lowest_terms) .none kV_u_lowest_terms dc_u_lowest_terms pm_u_lowest_terms an_u_lowest_terms cd_u_lowest_terms ct_u_lowest_terms),
    (("quotient_of" : Str), PySem.W.fnOf "quotient_of" "quotient_of" (defArgs st_quotient_of) (defBody st_quotient_of) (defScope st_quotient_of) .none kV_quotient_of dc_quotient_of pm_quotient_of an_quotient_of cd_quotient_of ct_quotient_of),
    (("quotient_sum" : Str), PySem.W.fnOf "quotient_sum" "quotient_sum" (defArgs st_quotient_sum) (defBody st_quotient_sum) (defScope st_quotient_sum) .none kV_quotient_sum dc_quotient_sum pm_quotient_sum an_quotient_sum cd_quotient_sum ct_quotient_sum),
    (("till_list" : Str), PySem.W.fnOf "till_list" "till_list" (defArgs st_till_list) (defBody st_till_list) (defScope st_till_list) .none kV_till_list dc_till_list pm_till_list an_till_list cd_till_list ct_till_list),
    (("till_row" : Str), PySem.W.fnOf "till_row" "till_row" (defArgs st_till_row) (defBody st_till_row) (defScope st_till_row) .none kV_till_row dc_till_row pm_till_row an_till_row cd_till_row ct_till_row),
    (("is_under" : Str), PySem.W.fnOf "is_under" "is_under" (defArgs st_is_under) (defBody st_is_under) (defScope st_is_under) .none kV_is_under dc_is_under pm_is_under an_is_under cd_is_under ct_is_under),
    (("ends_of_quotients" : Str), PySem.W.fnOf "ends_of_quotients" "ends_of_quotients" (defArgs st_ends_of_quotients) (defBody st_ends_of_quotients) (defScope st_ends_of_quotients) .none kV_ends_of_quotients dc_ends_of_quotients pm_ends_of_quotients an_ends_of_quotients cd_ends_of_quotients ct_ends_of_quotients),
    (("_need_quotients" : Str), PySem.W.fnOf "_need_quotients" "_need_quotients" (defArgs st_u_need_quotients) (defBody st_u_need_quotients) (defScope st_u_need_quotients) .none kV_u_need_quotients dc_u_need_quotients pm_u_need_quotients an_u_need_quotients cd_u_need_quotients ct_u_need_quotients),
    (("minus" : Str), PySem.W.fnOf "minus" "minus" (defArgs st_minus) (defBody st_minus) (defScope st_minus) .none kV_minus dc_minus pm_minus an_minus cd_minus ct_minus),
    (("till_span" : Str), PySem.W.fnOf "till_span" "till_span" (defArgs st_till_span) (defBody st_till_span) (defScope st_till_span) .none kV_till_span dc_till_span pm_till_span an_till_span cd_till_span ct_till_span),
    (("law" : Str), PySem.W.fnOf "law" "law" (defArgs st_law) (defBody st_law) (defScope st_law) .none kV_law dc_law pm_law an_law cd_law ct_law),
    (("NotUsable.__init__" : Str), PySem.W.fnOf "__init__" "NotUsable.__init__" (defArgs st_NotUsable_init) (defBody st_NotUsable_init) (defScope st_NotUsable_init) .none kV_NotUsable_init dc_NotUsable_init pm_NotUsable_init an_NotUsable_init cd_NotUsable_init ct_NotUsable_init),
    (("Uneven.__init__" : Str), PySem.W.fnOf "__init__" "Uneven.__init__" (defArgs st_Uneven_init) (defBody st_Uneven_init) (defScope st_Uneven_init) .none kV_Uneven_init dc_Uneven_init pm_Uneven_init an_Uneven_init cd_Uneven_init ct_Uneven_init)] : List (Str × FuncData)).lookup x).getD (PySem.W.fnOf "law" "law" (defArgs st_law) (defBody st_law) (defScope st_law) .none kV_law dc_law pm_law an_law cd_law ct_law)
  have e_u_law_deal : ad "_law_deal" = f_u_law_deal := by kernel_rfl
  have g_u_law_deal : fdt "_law_deal" = PySem.W.fnOf "_law_deal" "_law_deal" (defArgs st_u_law_deal) (defBody st_u_law_deal) (defScope st_u_law_deal) .none kV_u_law_deal dc_u_law_deal pm_u_law_deal an_u_law_deal cd_u_law_deal ct_u_law_deal := by kernel_rfl
  have e_u_law_pick : ad "_law_pick" = f_u_law_pick := by kernel_rfl
  have g_u_law_pick : fdt "_law_pick" = PySem.W.fnOf "_law_pick" "_law_pick" (defArgs st_u_law_pick) (defBody st_u_law_pick) (defScope st_u_law_pick) .none kV_u_law_pick dc_u_law_pick pm_u_law_pick an_u_law_pick cd_u_law_pick ct_u_law_pick := by kernel_rfl
  have e_u_law_counts : ad "_law_counts" = f_u_law_counts := by kernel_rfl
  have g_u_law_counts : fdt "_law_counts" = PySem.W.fnOf "_law_counts" "_law_counts" (defArgs st_u_law_counts) (defBody st_u_law_counts) (defScope st_u_law_counts) .none kV_u_law_counts dc_u_law_counts pm_u_law_counts an_u_law_counts cd_u_law_counts ct_u_law_counts := by kernel_rfl
  have e_u_law_places : ad "_law_places" = f_u_law_places := by kernel_rfl
  have g_u_law_places : fdt "_law_places" = PySem.W.fnOf "_law_places" "_law_places" (defArgs st_u_law_places) (defBody st_u_law_places) (defScope st_u_law_places) .none kV_u_law_places dc_u_law_places pm_u_law_places an_u_law_places cd_u_law_places ct_u_law_places := by kernel_rfl
  have e_u_law_choice : ad "_law_choice" = f_u_law_choice := by kernel_rfl
  have g_u_law_choice : fdt "_law_choice" = PySem.W.fnOf "_law_choice" "_law_choice" (defArgs st_u_law_choice) (defBody st_u_law_choice) (defScope st_u_law_choice) .none kV_u_law_choice dc_u_law_choice pm_u_law_choice an_u_law_choice cd_u_law_choice ct_u_law_choice := by kernel_rfl
  have e_u_law_board : ad "_law_board" = f_u_law_board := by kernel_rfl
  have g_u_law_board : fdt "_law_board" = PySem.W.fnOf "_law_board" "_law_board" (defArgs st_u_law_board) (defBody st_u_law_board) (defScope st_u_law_board) .none kV_u_law_board dc_u_law_board pm_u_law_board an_u_law_board cd_u_law_board ct_u_law_board := by kernel_rfl
  have e_u_law_at : ad "_law_at" = f_u_law_at := by kernel_rfl
  have g_u_law_at : fdt "_law_at" = PySem.W.fnOf "_law_at" "_law_at" (defArgs st_u_law_at) (defBody st_u_law_at) (defScope st_u_law_at) .none kV_u_law_at dc_u_law_at pm_u_law_at an_u_law_at cd_u_law_at ct_u_law_at := by kernel_rfl
  have e_u_law_mixed : ad "_law_mixed" = f_u_law_mixed := by kernel_rfl
  have g_u_law_mixed : fdt "_law_mixed" = PySem.W.fnOf "_law_mixed" "_law_mixed" (defArgs st_u_law_mixed) (defBody st_u_law_mixed) (defScope st_u_law_mixed) .none kV_u_law_mixed dc_u_law_mixed pm_u_law_mixed an_u_law_mixed cd_u_law_mixed ct_u_law_mixed := by kernel_rfl
  have e_u_law_uneven : ad "_law_uneven" = f_u_law_uneven := by kernel_rfl
  have g_u_law_uneven : fdt "_law_uneven" = PySem.W.fnOf "_law_uneven" "_law_uneven" (defArgs st_u_law_uneven) (defBody st_u_law_uneven) (defScope st_u_law_uneven) .none kV_u_law_uneven dc_u_law_uneven pm_u_law_uneven an_u_law_uneven cd_u_law_uneven ct_u_law_uneven := by kernel_rfl
  have e_board_size : ad "board_size" = f_board_size := by kernel_rfl
  have g_board_size : fdt "board_size" = PySem.W.fnOf "board_size" "board_size" (defArgs st_board_size) (defBody st_board_size) (defScope st_board_size) .none kV_board_size dc_board_size pm_board_size an_board_size cd_board_size ct_board_size := by kernel_rfl
  have e_firsts_by_place : ad "firsts_by_place" = f_firsts_by_place := by kernel_rfl
  have g_firsts_by_place : fdt "firsts_by_place" = PySem.W.fnOf "firsts_by_place" "firsts_by_place" (defArgs st_firsts_by_place) (defBody st_firsts_by_place) (defScope st_firsts_by_place) .none kV_firsts_by_place dc_firsts_by_place pm_firsts_by_place an_firsts_by_place cd_firsts_by_place ct_firsts_by_place := by kernel_rfl
  have e_flattened : ad "flattened" = f_flattened := by kernel_rfl
  have g_flattened : fdt "flattened" = PySem.W.fnOf "flattened" "flattened" (defArgs st_flattened) (defBody st_flattened) (defScope st_flattened) .none kV_flattened dc_flattened pm_flattened an_flattened cd_flattened ct_flattened := by kernel_rfl
  have e_row_tuples : ad "row_tuples" = f_row_tuples := by kernel_rfl
  have g_row_tuples : fdt "row_tuples" = PySem.W.fnOf "row_tuples" "row_tuples" (defArgs st_row_tuples) (defBody st_row_tuples) (defScope st_row_tuples) .none kV_row_tuples dc_row_tuples pm_row_tuples an_row_tuples cd_row_tuples ct_row_tuples := by kernel_rfl
  have e_uneven_place : ad "uneven_place" = f_uneven_place := by kernel_rfl
  have g_uneven_place : fdt "uneven_place" = PySem.W.fnOf "uneven_place" "uneven_place" (defArgs st_uneven_place) (defBody st_uneven_place) (defScope st_uneven_place) .none kV_uneven_place dc_uneven_place pm_uneven_place an_uneven_place cd_uneven_place ct_uneven_place := by kernel_rfl
  have e_flat_tables : ad "flat_tables" = f_flat_tables := by kernel_rfl
  have g_flat_tables : fdt "flat_tables" = PySem.W.fnOf "flat_tables" "flat_tables" (defArgs st_flat_tables) (defBody st_flat_tables) (defScope st_flat_tables) .none kV_flat_tables dc_flat_tables pm_flat_tables an_flat_tables cd_flat_tables ct_flat_tables := by kernel_rfl
  have e_u_law_flat : ad "_law_flat" = f_u_law_flat := by kernel_rfl
  have g_u_law_flat : fdt "_law_flat" = PySem.W.fnOf "_law_flat" "_law_flat" (defArgs st_u_law_flat) (defBody st_u_law_flat) (defScope st_u_law_flat) .none kV_u_law_flat dc_u_law_flat pm_u_law_flat an_u_law_flat cd_u_law_flat ct_u_law_flat := by kernel_rfl
  have e_u_law_integer : ad "_law_integer" = f_u_law_integer := by kernel_rfl
  have g_u_law_integer : fdt "_law_integer" = PySem.W.fnOf "_law_integer" "_law_integer" (defArgs st_u_law_integer) (defBody st_u_law_integer) (defScope st_u_law_integer) .none kV_u_law_integer dc_u_law_integer pm_u_law_integer an_u_law_integer cd_u_law_integer ct_u_law_integer := by kernel_rfl
  have e_u_law_same : ad "_law_same" = f_u_law_same := by kernel_rfl
  have g_u_law_same : fdt "_law_same" = PySem.W.fnOf "_law_same" "_law_same" (defArgs st_u_law_same) (defBody st_u_law_same) (defScope st_u_law_same) .none kV_u_law_same dc_u_law_same pm_u_law_same an_u_law_same cd_u_law_same ct_u_law_same := by kernel_rfl
  have e_is_integer : ad "is_integer" = f_is_integer := by kernel_rfl
  have g_is_integer : fdt "is_integer" = PySem.W.fnOf "is_integer" "is_integer" (defArgs st_is_integer) (defBody st_is_integer) (defScope st_is_integer) .none kV_is_integer dc_is_integer pm_is_integer an_is_integer cd_is_integer ct_is_integer := by kernel_rfl
  have e_are_rows : ad "are_rows" = f_are_rows := by kernel_rfl
  have g_are_rows : fdt "are_rows" = PySem.W.fnOf "are_rows" "are_rows" (defArgs st_are_rows) (defBody st_are_rows) (defScope st_are_rows) .none kV_are_rows dc_are_rows pm_are_rows an_are_rows cd_are_rows ct_are_rows := by kernel_rfl
  have e_mixed_at : ad "mixed_at" = f_mixed_at := by kernel_rfl
  have g_mixed_at : fdt "mixed_at" = PySem.W.fnOf "mixed_at" "mixed_at" (defArgs st_mixed_at) (defBody st_mixed_at) (defScope st_mixed_at) .none kV_mixed_at dc_mixed_at pm_mixed_at an_mixed_at cd_mixed_at ct_mixed_at := by kernel_rfl
  have e_Board_mixed : ad "Board.mixed" = f_Board_mixed := by kernel_rfl
  have g_Board_mixed : fdt "Board.mixed" = PySem.W.fnOf "mixed" "Board.mixed" (defArgs st_Board_mixed) (defBody st_Board_mixed) (defScope st_Board_mixed) .none kV_Board_mixed dc_Board_mixed pm_Board_mixed an_Board_mixed cd_Board_mixed ct_Board_mixed := by kernel_rfl
  have e_board_fault : ad "board_fault" = f_board_fault := by kernel_rfl
  have g_board_fault : fdt "board_fault" = PySem.W.fnOf "board_fault" "board_fault" (defArgs st_board_fault) (defBody st_board_fault) (defScope st_board_fault) .none kV_board_fault dc_board_fault pm_board_fault an_board_fault cd_board_fault ct_board_fault := by kernel_rfl
  have e_Board___init__ : ad "Board.__init__" = f_Board___init__ := by kernel_rfl
  have g_Board___init__ : fdt "Board.__init__" = PySem.W.fnOf "__init__" "Board.__init__" (defArgs st_Board___init__) (defBody st_Board___init__) (defScope st_Board___init__) .none kV_Board___init__ dc_Board___init__ pm_Board___init__ an_Board___init__ cd_Board___init__ ct_Board___init__ := by kernel_rfl
  have e_u_law_asked : ad "_law_asked" = f_u_law_asked := by kernel_rfl
  have g_u_law_asked : fdt "_law_asked" = PySem.W.fnOf "_law_asked" "_law_asked" (defArgs st_u_law_asked) (defBody st_u_law_asked) (defScope st_u_law_asked) .none kV_u_law_asked dc_u_law_asked pm_u_law_asked an_u_law_asked cd_u_law_asked ct_u_law_asked := by kernel_rfl
  have e_u_law_differences : ad "_law_differences" = f_u_law_differences := by kernel_rfl
  have g_u_law_differences : fdt "_law_differences" = PySem.W.fnOf "_law_differences" "_law_differences" (defArgs st_u_law_differences) (defBody st_u_law_differences) (defScope st_u_law_differences) .none kV_u_law_differences dc_u_law_differences pm_u_law_differences an_u_law_differences cd_u_law_differences ct_u_law_differences := by kernel_rfl
  have e_u_law_refused : ad "_law_refused" = f_u_law_refused := by kernel_rfl
  have g_u_law_refused : fdt "_law_refused" = PySem.W.fnOf "_law_refused" "_law_refused" (defArgs st_u_law_refused) (defBody st_u_law_refused) (defScope st_u_law_refused) .none kV_u_law_refused dc_u_law_refused pm_u_law_refused an_u_law_refused cd_u_law_refused ct_u_law_refused := by kernel_rfl
  have e_Board_even : ad "Board.even" = f_Board_even := by kernel_rfl
  have g_Board_even : fdt "Board.even" = PySem.W.fnOf "even" "Board.even" (defArgs st_Board_even) (defBody st_Board_even) (defScope st_Board_even) .none kV_Board_even dc_Board_even pm_Board_even an_Board_even cd_Board_even ct_Board_even := by kernel_rfl
  have e_u_law_is_quotient : ad "_law_is_quotient" = f_u_law_is_quotient := by kernel_rfl
  have g_u_law_is_quotient : fdt "_law_is_quotient" = PySem.W.fnOf "_law_is_quotient" "_law_is_quotient" (defArgs st_u_law_is_quotient) (defBody st_u_law_is_quotient) (defScope st_u_law_is_quotient) .none kV_u_law_is_quotient dc_u_law_is_quotient pm_u_law_is_quotient an_u_law_is_quotient cd_u_law_is_quotient ct_u_law_is_quotient := by kernel_rfl
  have e_u_law_is_flat : ad "_law_is_flat" = f_u_law_is_flat := by kernel_rfl
  have g_u_law_is_flat : fdt "_law_is_flat" = PySem.W.fnOf "_law_is_flat" "_law_is_flat" (defArgs st_u_law_is_flat) (defBody st_u_law_is_flat) (defScope st_u_law_is_flat) .none kV_u_law_is_flat dc_u_law_is_flat pm_u_law_is_flat an_u_law_is_flat cd_u_law_is_flat ct_u_law_is_flat := by kernel_rfl
  have e_common_divisor : ad "common_divisor" = f_common_divisor := by kernel_rfl
  have g_common_divisor : fdt "common_divisor" = PySem.W.fnOf "common_divisor" "common_divisor" (defArgs st_common_divisor) (defBody st_common_divisor) (defScope st_common_divisor) .none kV_common_divisor dc_common_divisor pm_common_divisor an_common_divisor cd_common_divisor ct_common_divisor := by kernel_rfl
  have e_is_quotient : ad "is_quotient" = f_is_quotient := by kernel_rfl
  have g_is_quotient : fdt "is_quotient" = PySem.W.fnOf "is_quotient" "is_quotient" (defArgs st_is_quotient) (defBody st_is_quotient) (defScope st_is_quotient) .none kV_is_quotient dc_is_quotient pm_is_quotient an_is_quotient cd_is_quotient ct_is_quotient := by kernel_rfl
  have e_are_quotients : ad "are_quotients" = f_are_quotients := by kernel_rfl
  have g_are_quotients : fdt "are_quotients" = PySem.W.fnOf "are_quotients" "are_quotients" (defArgs st_are_quotients) (defBody st_are_quotients) (defScope st_are_quotients) .none kV_are_quotients dc_are_quotients pm_are_quotients an_are_quotients cd_are_quotients ct_are_quotients := by kernel_rfl
  have e_others_counts : ad "others_counts" = f_others_counts := by kernel_rfl
  have g_others_counts : fdt "others_counts" = PySem.W.fnOf "others_counts" "others_counts" (defArgs st_others_counts) (defBody st_others_counts) (defScope st_others_counts) .none kV_others_counts dc_others_counts pm_others_counts an_others_counts cd_others_counts ct_others_counts := by kernel_rfl
  have e_is_tables : ad "is_tables" = f_is_tables := by kernel_rfl
  have g_is_tables : fdt "is_tables" = PySem.W.fnOf "is_tables" "is_tables" (defArgs st_is_tables) (defBody st_is_tables) (defScope st_is_tables) .none kV_is_tables dc_is_tables pm_is_tables an_is_tables cd_is_tables ct_is_tables := by kernel_rfl
  have e_choices_by_place : ad "choices_by_place" = f_choices_by_place := by kernel_rfl
  have g_choices_by_place : fdt "choices_by_place" = PySem.W.fnOf "choices_by_place" "choices_by_place" (defArgs st_choices_by_place) (defBody st_choices_by_place) (defScope st_choices_by_place) .none kV_choices_by_place dc_choices_by_place pm_choices_by_place an_choices_by_place cd_choices_by_place ct_choices_by_place := by kernel_rfl
  have e_u_lowest_terms : ad "_lowest_terms" = f_u_lowest_terms := by kernel_rfl
  have g_u_lowest_terms : fdt "_lowest_terms" = PySem.W.fnOf "_lowest_terms" "_lowest_terms" (defArgs st_u_lowest_terms) (defBody st_u_lowest_terms) (defScope st_u_lowest_terms) .none kV_u_lowest_terms dc_u_lowest_terms pm_u_lowest_terms an_u_lowest_terms cd_u_lowest_terms ct_u_lowest_terms := by kernel_rfl
  have e_quotient_of : ad "quotient_of" = f_quotient_of := by kernel_rfl
  have g_quotient_of : fdt "quotient_of" = PySem.W.fnOf "quotient_of" "quotient_of" (defArgs st_quotient_of) (defBody st_quotient_of) (defScope st_quotient_of) .none kV_quotient_of dc_quotient_of pm_quotient_of an_quotient_of cd_quotient_of ct_quotient_of := by kernel_rfl
  have e_quotient_sum : ad "quotient_sum" = f_quotient_sum := by kernel_rfl
  have g_quotient_sum : fdt "quotient_sum" = PySem.W.fnOf "quotient_sum" "quotient_sum" (defArgs st_quotient_sum) (defBody st_quotient_sum) (defScope st_quotient_sum) .none kV_quotient_sum dc_quotient_sum pm_quotient_sum an_quotient_sum cd_quotient_sum ct_quotient_sum := by kernel_rfl
  have e_till_list : ad "till_list" = f_till_list := by kernel_rfl
  have g_till_list : fdt "till_list" = PySem.W.fnOf "till_list" "till_list" (defArgs st_till_list) (defBody st_till_list) (defScope st_till_list) .none kV_till_list dc_till_list pm_till_list an_till_list cd_till_list ct_till_list := by kernel_rfl
  have e_till_row : ad "till_row" = f_till_row := by kernel_rfl
  have g_till_row : fdt "till_row" = PySem.W.fnOf "till_row" "till_row" (defArgs st_till_row) (defBody st_till_row) (defScope st_till_row) .none kV_till_row dc_till_row pm_till_row an_till_row cd_till_row ct_till_row := by kernel_rfl
  have e_is_under : ad "is_under" = f_is_under := by kernel_rfl
  have g_is_under : fdt "is_under" = PySem.W.fnOf "is_under" "is_under" (defArgs st_is_under) (defBody st_is_under) (defScope st_is_under) .none kV_is_under dc_is_under pm_is_under an_is_under cd_is_under ct_is_under := by kernel_rfl
  have e_ends_of_quotients : ad "ends_of_quotients" = f_ends_of_quotients := by kernel_rfl
  have g_ends_of_quotients : fdt "ends_of_quotients" = PySem.W.fnOf "ends_of_quotients" "ends_of_quotients" (defArgs st_ends_of_quotients) (defBody st_ends_of_quotients) (defScope st_ends_of_quotients) .none kV_ends_of_quotients dc_ends_of_quotients pm_ends_of_quotients an_ends_of_quotients cd_ends_of_quotients ct_ends_of_quotients := by kernel_rfl
  have e_u_need_quotients : ad "_need_quotients" = f_u_need_quotients := by kernel_rfl
  have g_u_need_quotients : fdt "_need_quotients" = PySem.W.fnOf "_need_quotients" "_need_quotients" (defArgs st_u_need_quotients) (defBody st_u_need_quotients) (defScope st_u_need_quotients) .none kV_u_need_quotients dc_u_need_quotients pm_u_need_quotients an_u_need_quotients cd_u_need_quotients ct_u_need_quotients := by kernel_rfl
  have e_minus : ad "minus" = f_minus := by kernel_rfl
  have g_minus : fdt "minus" = PySem.W.fnOf "minus" "minus" (defArgs st_minus) (defBody st_minus) (defScope st_minus) .none kV_minus dc_minus pm_minus an_minus cd_minus ct_minus := by kernel_rfl
  have e_till_span : ad "till_span" = f_till_span := by kernel_rfl
  have g_till_span : fdt "till_span" = PySem.W.fnOf "till_span" "till_span" (defArgs st_till_span) (defBody st_till_span) (defScope st_till_span) .none kV_till_span dc_till_span pm_till_span an_till_span cd_till_span ct_till_span := by kernel_rfl
  have e_law : ad "law" = f_law := by kernel_rfl
  have g_law : fdt "law" = PySem.W.fnOf "law" "law" (defArgs st_law) (defBody st_law) (defScope st_law) .none kV_law dc_law pm_law an_law cd_law ct_law := by kernel_rfl
  have e_NotUsable_init : ad "NotUsable.__init__" = f_NotUsable_init := by kernel_rfl
  have g_NotUsable_init : fdt "NotUsable.__init__" = PySem.W.fnOf "__init__" "NotUsable.__init__" (defArgs st_NotUsable_init) (defBody st_NotUsable_init) (defScope st_NotUsable_init) .none kV_NotUsable_init dc_NotUsable_init pm_NotUsable_init an_NotUsable_init cd_NotUsable_init ct_NotUsable_init := by kernel_rfl
  have e_Uneven_init : ad "Uneven.__init__" = f_Uneven_init := by kernel_rfl
  have g_Uneven_init : fdt "Uneven.__init__" = PySem.W.fnOf "__init__" "Uneven.__init__" (defArgs st_Uneven_init) (defBody st_Uneven_init) (defScope st_Uneven_init) .none kV_Uneven_init dc_Uneven_init pm_Uneven_init an_Uneven_init cd_Uneven_init ct_Uneven_init := by kernel_rfl
  have eX_NotUsable : cx "NotUsable" = C_NotUsable := by kernel_rfl
  have eX_Uneven : cx "Uneven" = C_Uneven := by kernel_rfl
  have eC_Board : cx "Board" = C_Board := by kernel_rfl
  exact ⟨ad, fdt, cx, e_law, g_law, {
    f_u_law_deal := by rw [e_u_law_deal, g_u_law_deal]; exact fun_mk (st := st_u_law_deal) l_u_law_deal c_u_law_deal k_u_law_deal,
    g_u_law_deal := by rw [e_u_law_deal]; exact PySem.W.mg_of X G a_u_law_deal,
    f_u_law_pick := by rw [e_u_law_pick, g_u_law_pick]; exact fun_mk (st := st_u_law_pick) l_u_law_pick c_u_law_pick k_u_law_pick,
    g_u_law_pick := by rw [e_u_law_pick]; exact PySem.W.mg_of X G a_u_law_pick,
    f_u_law_counts := by rw [e_u_law_counts, g_u_law_counts]; exact fun_mk (st := st_u_law_counts) l_u_law_counts c_u_law_counts k_u_law_counts,
    g_u_law_counts := by rw [e_u_law_counts]; exact PySem.W.mg_of X G a_u_law_counts,
    f_u_law_places := by rw [e_u_law_places, g_u_law_places]; exact fun_mk (st := st_u_law_places) l_u_law_places c_u_law_places k_u_law_places,
    g_u_law_places := by rw [e_u_law_places]; exact PySem.W.mg_of X G a_u_law_places,
    f_u_law_choice := by rw [e_u_law_choice, g_u_law_choice]; exact fun_mk (st := st_u_law_choice) l_u_law_choice c_u_law_choice k_u_law_choice,
    g_u_law_choice := by rw [e_u_law_choice]; exact PySem.W.mg_of X G a_u_law_choice,
    f_u_law_board := by rw [e_u_law_board, g_u_law_board]; exact fun_mk (st := st_u_law_board) l_u_law_board c_u_law_board k_u_law_board,
    g_u_law_board := by rw [e_u_law_board]; exact PySem.W.mg_of X G a_u_law_board,
    f_u_law_at := by rw [e_u_law_at, g_u_law_at]; exact fun_mk (st := st_u_law_at) l_u_law_at c_u_law_at k_u_law_at,
    g_u_law_at := by rw [e_u_law_at]; exact PySem.W.mg_of X G a_u_law_at,
    f_u_law_mixed := by rw [e_u_law_mixed, g_u_law_mixed]; exact fun_mk (st := st_u_law_mixed) l_u_law_mixed c_u_law_mixed k_u_law_mixed,
    g_u_law_mixed := by rw [e_u_law_mixed]; exact PySem.W.mg_of X G a_u_law_mixed,
    f_u_law_uneven := by rw [e_u_law_uneven, g_u_law_uneven]; exact fun_mk (st := st_u_law_uneven) l_u_law_uneven c_u_law_uneven k_u_law_uneven,
    g_u_law_uneven := by rw [e_u_law_uneven]; exact PySem.W.mg_of X G a_u_law_uneven,
    f_board_size := by rw [e_board_size, g_board_size]; exact fun_mk (st := st_board_size) l_board_size c_board_size k_board_size,
    g_board_size := by rw [e_board_size]; exact PySem.W.mg_of X G a_board_size,
    f_firsts_by_place := by rw [e_firsts_by_place, g_firsts_by_place]; exact fun_mk (st := st_firsts_by_place) l_firsts_by_place c_firsts_by_place k_firsts_by_place,
    g_firsts_by_place := by rw [e_firsts_by_place]; exact PySem.W.mg_of X G a_firsts_by_place,
    f_flattened := by rw [e_flattened, g_flattened]; exact fun_mk (st := st_flattened) l_flattened c_flattened k_flattened,
    g_flattened := by rw [e_flattened]; exact PySem.W.mg_of X G a_flattened,
    f_row_tuples := by rw [e_row_tuples, g_row_tuples]; exact fun_mk (st := st_row_tuples) l_row_tuples c_row_tuples k_row_tuples,
    g_row_tuples := by rw [e_row_tuples]; exact PySem.W.mg_of X G a_row_tuples,
    f_uneven_place := by rw [e_uneven_place, g_uneven_place]; exact fun_mk (st := st_uneven_place) l_uneven_place c_uneven_place k_uneven_place,
    g_uneven_place := by rw [e_uneven_place]; exact PySem.W.mg_of X G a_uneven_place,
    f_flat_tables := by rw [e_flat_tables, g_flat_tables]; exact fun_mk (st := st_flat_tables) l_flat_tables c_flat_tables k_flat_tables,
    g_flat_tables := by rw [e_flat_tables]; exact PySem.W.mg_of X G a_flat_tables,
    f_u_law_flat := by rw [e_u_law_flat, g_u_law_flat]; exact fun_mk (st := st_u_law_flat) l_u_law_flat c_u_law_flat k_u_law_flat,
    g_u_law_flat := by rw [e_u_law_flat]; exact PySem.W.mg_of X G a_u_law_flat,
    f_u_law_integer := by rw [e_u_law_integer, g_u_law_integer]; exact fun_mk (st := st_u_law_integer) l_u_law_integer c_u_law_integer k_u_law_integer,
    g_u_law_integer := by rw [e_u_law_integer]; exact PySem.W.mg_of X G a_u_law_integer,
    f_u_law_same := by rw [e_u_law_same, g_u_law_same]; exact fun_mk (st := st_u_law_same) l_u_law_same c_u_law_same k_u_law_same,
    g_u_law_same := by rw [e_u_law_same]; exact PySem.W.mg_of X G a_u_law_same,
    f_is_integer := by rw [e_is_integer, g_is_integer]; exact fun_mk (st := st_is_integer) l_is_integer c_is_integer k_is_integer,
    g_is_integer := by rw [e_is_integer]; exact PySem.W.mg_of X G a_is_integer,
    f_are_rows := by rw [e_are_rows, g_are_rows]; exact fun_mk (st := st_are_rows) l_are_rows c_are_rows k_are_rows,
    g_are_rows := by rw [e_are_rows]; exact PySem.W.mg_of X G a_are_rows,
    f_mixed_at := by rw [e_mixed_at, g_mixed_at]; exact fun_mk (st := st_mixed_at) l_mixed_at c_mixed_at k_mixed_at,
    g_mixed_at := by rw [e_mixed_at]; exact PySem.W.mg_of X G a_mixed_at,
    f_Board_mixed := by rw [e_Board_mixed, g_Board_mixed]; exact fun_mk (st := st_Board_mixed) l_Board_mixed c_Board_mixed k_Board_mixed,
    m_Board_mixed := by rw [e_Board_mixed, eC_Board]; exact ⟨a_Board_mixed, i_Board_mixed, k_Board_mixed⟩,
    f_board_fault := by rw [e_board_fault, g_board_fault]; exact fun_mk (st := st_board_fault) l_board_fault c_board_fault k_board_fault,
    g_board_fault := by rw [e_board_fault]; exact PySem.W.mg_of X G a_board_fault,
    f_Board___init__ := by rw [e_Board___init__, g_Board___init__]; exact fun_mk (st := st_Board___init__) l_Board___init__ c_Board___init__ k_Board___init__,
    f_u_law_asked := by rw [e_u_law_asked, g_u_law_asked]; exact fun_mk (st := st_u_law_asked) l_u_law_asked c_u_law_asked k_u_law_asked,
    g_u_law_asked := by rw [e_u_law_asked]; exact PySem.W.mg_of X G a_u_law_asked,
    f_u_law_differences := by rw [e_u_law_differences, g_u_law_differences]; exact fun_mk (st := st_u_law_differences) l_u_law_differences c_u_law_differences k_u_law_differences,
    g_u_law_differences := by rw [e_u_law_differences]; exact PySem.W.mg_of X G a_u_law_differences,
    f_u_law_refused := by rw [e_u_law_refused, g_u_law_refused]; exact fun_mk (st := st_u_law_refused) l_u_law_refused c_u_law_refused k_u_law_refused,
    g_u_law_refused := by rw [e_u_law_refused]; exact PySem.W.mg_of X G a_u_law_refused,
    f_Board_even := by rw [e_Board_even, g_Board_even]; exact fun_mk (st := st_Board_even) l_Board_even c_Board_even k_Board_even,
    m_Board_even := by rw [e_Board_even, eC_Board]; exact ⟨a_Board_even, i_Board_even, k_Board_even⟩,
    f_u_law_is_quotient := by rw [e_u_law_is_quotient, g_u_law_is_quotient]; exact fun_mk (st := st_u_law_is_quotient) l_u_law_is_quotient c_u_law_is_quotient k_u_law_is_quotient,
    g_u_law_is_quotient := by rw [e_u_law_is_quotient]; exact PySem.W.mg_of X G a_u_law_is_quotient,
    f_u_law_is_flat := by rw [e_u_law_is_flat, g_u_law_is_flat]; exact fun_mk (st := st_u_law_is_flat) l_u_law_is_flat c_u_law_is_flat k_u_law_is_flat,
    g_u_law_is_flat := by rw [e_u_law_is_flat]; exact PySem.W.mg_of X G a_u_law_is_flat,
    f_common_divisor := by rw [e_common_divisor, g_common_divisor]; exact fun_mk (st := st_common_divisor) l_common_divisor c_common_divisor k_common_divisor,
    g_common_divisor := by rw [e_common_divisor]; exact PySem.W.mg_of X G a_common_divisor,
    f_is_quotient := by rw [e_is_quotient, g_is_quotient]; exact fun_mk (st := st_is_quotient) l_is_quotient c_is_quotient k_is_quotient,
    g_is_quotient := by rw [e_is_quotient]; exact PySem.W.mg_of X G a_is_quotient,
    f_are_quotients := by rw [e_are_quotients, g_are_quotients]; exact fun_mk (st := st_are_quotients) l_are_quotients c_are_quotients k_are_quotients,
    g_are_quotients := by rw [e_are_quotients]; exact PySem.W.mg_of X G a_are_quotients,
    f_others_counts := by rw [e_others_counts, g_others_counts]; exact fun_mk (st := st_others_counts) l_others_counts c_others_counts k_others_counts,
    g_others_counts := by rw [e_others_counts]; exact PySem.W.mg_of X G a_others_counts,
    f_is_tables := by rw [e_is_tables, g_is_tables]; exact fun_mk (st := st_is_tables) l_is_tables c_is_tables k_is_tables,
    g_is_tables := by rw [e_is_tables]; exact PySem.W.mg_of X G a_is_tables,
    f_choices_by_place := by rw [e_choices_by_place, g_choices_by_place]; exact fun_mk (st := st_choices_by_place) l_choices_by_place c_choices_by_place k_choices_by_place,
    g_choices_by_place := by rw [e_choices_by_place]; exact PySem.W.mg_of X G a_choices_by_place,
    f_u_lowest_terms := by rw [e_u_lowest_terms, g_u_lowest_terms]; exact fun_mk (st := st_u_lowest_terms) l_u_lowest_terms c_u_lowest_terms k_u_lowest_terms,
    g_u_lowest_terms := by rw [e_u_lowest_terms]; exact PySem.W.mg_of X G a_u_lowest_terms,
    f_quotient_of := by rw [e_quotient_of, g_quotient_of]; exact fun_mk (st := st_quotient_of) l_quotient_of c_quotient_of k_quotient_of,
    g_quotient_of := by rw [e_quotient_of]; exact PySem.W.mg_of X G a_quotient_of,
    f_quotient_sum := by rw [e_quotient_sum, g_quotient_sum]; exact fun_mk (st := st_quotient_sum) l_quotient_sum c_quotient_sum k_quotient_sum,
    g_quotient_sum := by rw [e_quotient_sum]; exact PySem.W.mg_of X G a_quotient_sum,
    f_till_list := by rw [e_till_list, g_till_list]; exact fun_mk (st := st_till_list) l_till_list c_till_list k_till_list,
    g_till_list := by rw [e_till_list]; exact PySem.W.mg_of X G a_till_list,
    f_till_row := by rw [e_till_row, g_till_row]; exact fun_mk (st := st_till_row) l_till_row c_till_row k_till_row,
    g_till_row := by rw [e_till_row]; exact PySem.W.mg_of X G a_till_row,
    f_is_under := by rw [e_is_under, g_is_under]; exact fun_mk (st := st_is_under) l_is_under c_is_under k_is_under,
    g_is_under := by rw [e_is_under]; exact PySem.W.mg_of X G a_is_under,
    f_ends_of_quotients := by rw [e_ends_of_quotients, g_ends_of_quotients]; exact fun_mk (st := st_ends_of_quotients) l_ends_of_quotients c_ends_of_quotients k_ends_of_quotients,
    g_ends_of_quotients := by rw [e_ends_of_quotients]; exact PySem.W.mg_of X G a_ends_of_quotients,
    f_u_need_quotients := by rw [e_u_need_quotients, g_u_need_quotients]; exact fun_mk (st := st_u_need_quotients) l_u_need_quotients c_u_need_quotients k_u_need_quotients,
    g_u_need_quotients := by rw [e_u_need_quotients]; exact PySem.W.mg_of X G a_u_need_quotients,
    f_minus := by rw [e_minus, g_minus]; exact fun_mk (st := st_minus) l_minus c_minus k_minus,
    g_minus := by rw [e_minus]; exact PySem.W.mg_of X G a_minus,
    f_till_span := by rw [e_till_span, g_till_span]; exact fun_mk (st := st_till_span) l_till_span c_till_span k_till_span,
    g_till_span := by rw [e_till_span]; exact PySem.W.mg_of X G a_till_span,
    f_law := by rw [e_law, g_law]; exact fun_mk (st := st_law) l_law c_law k_law,
    g_law := by rw [e_law]; exact PySem.W.mg_of X G a_law,
    f_NotUsable_init := by rw [e_NotUsable_init, g_NotUsable_init]; exact fun_mk (st := st_NotUsable_init) l_NotUsable_init c_NotUsable_init k_NotUsable_init,
    gx_NotUsable := by rw [eX_NotUsable]; exact PySem.W.mg_of X G aC_NotUsable,
    xC_NotUsable := by rw [eX_NotUsable]; exact ⟨⟨nm_NotUsable, q_NotUsable, N_NotUsable, bs_NotUsable, _, sn_NotUsable, sub_NotUsable, ab_NotUsable, col_NotUsable, dd_NotUsable, m0_NotUsable, m1_NotUsable, m2_NotUsable, m3_NotUsable, m5_NotUsable, xL_NotUsable, rfl⟩, sa_NotUsable, eC_NotUsable, tC_NotUsable, kC_NotUsable⟩,
    x_NotUsable_word := by rw [eX_NotUsable]; exact n_NotUsable_word,
    x_NotUsable_at := by rw [eX_NotUsable]; exact n_NotUsable_at,
    xi_NotUsable := by rw [eX_NotUsable, e_NotUsable_init]; exact a_NotUsable_init,
    xt_NotUsable := by rw [e_NotUsable_init]; exact t_NotUsable_init,
    xf_NotUsable := by rw [eX_NotUsable]; exact ⟨ga_NotUsable, gg_NotUsable, eC_NotUsable, hC_NotUsable⟩,
    xm_NotUsable_NotUsable := by rw [eX_NotUsable]; exact exm_two eC_NotUsable iC_NotUsable tC_NotUsable s_NotUsable_NotUsable,
    xm_Uneven_NotUsable := by rw [eX_Uneven, eX_NotUsable]; exact exm_two eC_NotUsable iC_NotUsable tC_NotUsable s_Uneven_NotUsable,
    f_Uneven_init := by rw [e_Uneven_init, g_Uneven_init]; exact fun_mk (st := st_Uneven_init) l_Uneven_init c_Uneven_init k_Uneven_init,
    gx_Uneven := by rw [eX_Uneven]; exact PySem.W.mg_of X G aC_Uneven,
    xC_Uneven := by rw [eX_Uneven]; exact ⟨⟨nm_Uneven, q_Uneven, N_Uneven, bs_Uneven, _, sn_Uneven, sub_Uneven, ab_Uneven, col_Uneven, dd_Uneven, m0_Uneven, m1_Uneven, m2_Uneven, m3_Uneven, m5_Uneven, xL_Uneven, rfl⟩, sa_Uneven, eC_Uneven, tC_Uneven, kC_Uneven⟩,
    x_Uneven_place := by rw [eX_Uneven]; exact n_Uneven_place,
    xi_Uneven := by rw [eX_Uneven, e_Uneven_init]; exact a_Uneven_init,
    xt_Uneven := by rw [e_Uneven_init]; exact t_Uneven_init,
    xf_Uneven := by rw [eX_Uneven]; exact ⟨ga_Uneven, gg_Uneven, eC_Uneven, hC_Uneven⟩,
    xm_NotUsable_Uneven := by rw [eX_NotUsable, eX_Uneven]; exact exm_two eC_Uneven iC_Uneven tC_Uneven s_NotUsable_Uneven,
    xm_Uneven_Uneven := by rw [eX_Uneven]; exact exm_two eC_Uneven iC_Uneven tC_Uneven s_Uneven_Uneven,
    gc_Board := by rw [eC_Board]; exact PySem.W.mg_of X G aC_Board,
    cl_Board := by rw [eC_Board]; exact ⟨pg_Board, hd_Board, po_Board, sa_Board⟩,
    na_Board_u_pair := by rw [eC_Board]; exact n_Board_u_pair,
    mk_Board := by rw [eC_Board, e_Board___init__]; exact ⟨mk_Board, a_Board___init__, i_Board___init__, kc_Board⟩,
    b_abs := PySem.W.mg_none_of X G z_abs,
    b_bool := PySem.W.mg_none_of X G z_bool,
    b_enumerate := PySem.W.mg_none_of X G z_enumerate,
    b_int := PySem.W.mg_none_of X G z_int,
    b_isinstance := PySem.W.mg_none_of X G z_isinstance,
    b_len := PySem.W.mg_none_of X G z_len,
    b_list := PySem.W.mg_none_of X G z_list,
    b_range := PySem.W.mg_none_of X G z_range,
    b_str := PySem.W.mg_none_of X G z_str,
    b_sum := PySem.W.mg_none_of X G z_sum,
    b_tuple := PySem.W.mg_none_of X G z_tuple,
    b_zip := PySem.W.mg_none_of X G z_zip }⟩
section
variable {P : Program} {w : World} {K : PySem.W.Frag} {mg : Str → Option Value} {base : Heap} {ad : Str → Addr} {fdt : Str → FuncData} {C : Str → Addr}
theorem law_ok (T : Tx K mg ad fdt C) : FnOk P w K mg base (L2.CX P w) 9 (ad "law") (fdt "law") ["_law_script"] (spD (GG K C) 1 d_law) := by
  have o_u_law_deal : FnOk P w K mg base (L2.CX P w) 2 (ad "_law_deal") (fdt "_law_deal") ["_law_script"] (spD (GG K C) 1 d_u_law_deal) := ok_u_law_deal T
  have o_u_law_pick : FnOk P w K mg base (L2.CX P w) 2 (ad "_law_pick") (fdt "_law_pick") ["_law_deal_here", "_law_many"] (spD (GG K C) 2 d_u_law_pick) := ok_u_law_pick T
  have o_u_law_counts : FnOk P w K mg base (L2.CX P w) 3 (ad "_law_counts") (fdt "_law_counts") ["_law_deal_here"] (spD (GG K C) 1 d_u_law_counts) := ok_u_law_counts T ⟨o_u_law_pick⟩
  have o_u_law_places : FnOk P w K mg base (L2.CX P w) 2 (ad "_law_places") (fdt "_law_places") ["_law_counts_here"] (spD (GG K C) 1 d_u_law_places) := ok_u_law_places T
  have o_u_law_choice : FnOk P w K mg base (L2.CX P w) 2 (ad "_law_choice") (fdt "_law_choice") ["_law_counts_here", "_law_person", "_law_place"] (spD (GG K C) 3 d_u_law_choice) := ok_u_law_choice T
  have o_u_law_board : FnOk P w K mg base (L2.CX P w) 4 (ad "_law_board") (fdt "_law_board") ["_law_deal_here"] (spD (GG K C) 1 d_u_law_board) := ok_u_law_board T ⟨o_u_law_counts, o_u_law_places, o_u_law_pick, o_u_law_choice⟩
  have o_u_law_at : FnOk P w K mg base (L2.CX P w) 2 (ad "_law_at") (fdt "_law_at") ["_law_counts_here", "_law_place"] (spD (GG K C) 2 d_u_law_at) := ok_u_law_at T
  have o_u_law_mixed : FnOk P w K mg base (L2.CX P w) 3 (ad "_law_mixed") (fdt "_law_mixed") ["_law_board_here", "_law_here", "_law_there"] (spD (GG K C) 3 d_u_law_mixed) := ok_u_law_mixed T ⟨o_u_law_at⟩
  have o_u_law_uneven : FnOk P w K mg base (L2.CX P w) 4 (ad "_law_uneven") (fdt "_law_uneven") ["_law_board_here"] (spD (GG K C) 1 d_u_law_uneven) := ok_u_law_uneven T ⟨o_u_law_places, o_u_law_mixed⟩
  have o_board_size : FnOk P w K mg base (L2.CX P w) 2 (ad "board_size") (fdt "board_size") ["counts"] (spD (GG K C) 1 d_board_size) := ok_board_size T
  have o_firsts_by_place : FnOk P w K mg base (L2.CX P w) 3 (ad "firsts_by_place") (fdt "firsts_by_place") ["counts", "person"] (spD (GG K C) 2 d_firsts_by_place) := ok_firsts_by_place T ⟨o_board_size⟩
  have o_flattened : FnOk P w K mg base (L2.CX P w) 4 (ad "flattened") (fdt "flattened") ["counts", "worths"] (spD (GG K C) 2 d_flattened) := ok_flattened T ⟨o_firsts_by_place⟩
  have o_row_tuples : FnOk P w K mg base (L2.CX P w) 2 (ad "row_tuples") (fdt "row_tuples") ["counts"] (spD (GG K C) 1 d_row_tuples) := ok_row_tuples T
  have o_uneven_place : FnOk P w K mg base (L2.CX P w) 5 (ad "uneven_place") (fdt "uneven_place") ["board"] (spD (GG K C) 1 d_uneven_place) := ok_uneven_place T ⟨o_flattened, o_row_tuples⟩
  have o_flat_tables : FnOk P w K mg base (L2.CX P w) 6 (ad "flat_tables") (fdt "flat_tables") ["board"] (spD (GG K C) 1 d_flat_tables) := ok_flat_tables T ⟨o_uneven_place, o_flattened⟩
  have o_u_law_flat : FnOk P w K mg base (L2.CX P w) 7 (ad "_law_flat") (fdt "_law_flat") ["_law_board_here"] (spD (GG K C) 1 d_u_law_flat) := ok_u_law_flat T ⟨o_flat_tables⟩
  have o_u_law_integer : FnOk P w K mg base (L2.CX P w) 2 (ad "_law_integer") (fdt "_law_integer") ["_law_thing"] (spD (GG K C) 1 d_u_law_integer) := ok_u_law_integer T
  have o_u_law_same : FnOk P w K mg base (L2.CX P w) 7 (ad "_law_same") (fdt "_law_same") ["_law_one", "_law_due"] (spD (GG K C) 2 d_u_law_same) := ok_u_law_same T ⟨o_u_law_integer⟩
  have o_is_integer : FnOk P w K mg base (L2.CX P w) 2 (ad "is_integer") (fdt "is_integer") ["thing"] (spD (GG K C) 1 d_is_integer) := ok_is_integer T
  have o_are_rows : FnOk P w K mg base (L2.CX P w) 3 (ad "are_rows") (fdt "are_rows") ["counts", "thing"] (spD (GG K C) 2 d_are_rows) := ok_are_rows T ⟨o_is_integer⟩
  have o_mixed_at : FnOk P w K mg base (L2.CX P w) 4 (ad "mixed_at") (fdt "mixed_at") ["board", "here", "there"] (spD (GG K C) 3 d_mixed_at) := ok_mixed_at T ⟨o_are_rows⟩
  have o_Board_mixed : FnOk P w K mg base (L2.CX P w) 5 (ad "Board.mixed") (fdt "Board.mixed") ["self", "here", "there"] (spD (GG K C) 3 d_Board_mixed) := ok_Board_mixed T ⟨o_mixed_at⟩
  have o_board_fault : FnOk P w K mg base (L2.CX P w) 3 (ad "board_fault") (fdt "board_fault") ["thing"] (spD (GG K C) 1 d_board_fault) := ok_board_fault T ⟨o_is_integer⟩
  have o_Board___init__ : FnOk P w K mg base (L2.CX P w) 4 (ad "Board.__init__") (fdt "Board.__init__") ["self", "counts", "worths"] (spNew1 (GG K C) (C "Board") "_pair" 2 d_Board___init__) := ok_Board___init__ T ⟨o_board_fault⟩
  have o_u_law_asked : FnOk P w K mg base (L2.CX P w) 6 (ad "_law_asked") (fdt "_law_asked") ["_law_board_here", "_law_here", "_law_there", "_law_objects"] (spD (GG K C) 4 d_u_law_asked) := ok_u_law_asked T ⟨o_mixed_at, o_Board_mixed, o_Board___init__⟩
  have o_u_law_differences : FnOk P w K mg base (L2.CX P w) 8 (ad "_law_differences") (fdt "_law_differences") ["_law_deal_here", "_law_board_here", "_law_uneven_here"] (spD (GG K C) 3 d_u_law_differences) := ok_u_law_differences T ⟨o_u_law_places, o_mixed_at, o_u_law_same, o_u_law_mixed, o_u_law_pick, o_u_law_asked⟩
  have o_u_law_refused : FnOk P w K mg base (L2.CX P w) 8 (ad "_law_refused") (fdt "_law_refused") ["_law_deal_here", "_law_board_here"] (spD (GG K C) 2 d_u_law_refused) := ok_u_law_refused T ⟨o_u_law_pick, o_u_law_places, o_u_law_same, o_u_law_asked⟩
  have o_Board_even : FnOk P w K mg base (L2.CX P w) 6 (ad "Board.even") (fdt "Board.even") ["self"] (spD (GG K C) 1 d_Board_even) := ok_Board_even T ⟨o_uneven_place⟩
  have o_u_law_is_quotient : FnOk P w K mg base (L2.CX P w) 3 (ad "_law_is_quotient") (fdt "_law_is_quotient") ["_law_thing"] (spD (GG K C) 1 d_u_law_is_quotient) := ok_u_law_is_quotient T ⟨o_u_law_integer⟩
  have o_u_law_is_flat : FnOk P w K mg base (L2.CX P w) 4 (ad "_law_is_flat") (fdt "_law_is_flat") ["_law_board_here", "_law_tables"] (spD (GG K C) 2 d_u_law_is_flat) := ok_u_law_is_flat T ⟨o_u_law_places, o_u_law_choice, o_u_law_is_quotient⟩
  have o_common_divisor : FnOk P w K mg base (L2.CX P w) 2 (ad "common_divisor") (fdt "common_divisor") ["one", "other"] (spD (GG K C) 2 d_common_divisor) := ok_common_divisor T
  have o_is_quotient : FnOk P w K mg base (L2.CX P w) 3 (ad "is_quotient") (fdt "is_quotient") ["thing"] (spD (GG K C) 1 d_is_quotient) := ok_is_quotient T ⟨o_common_divisor, o_is_integer⟩
  have o_are_quotients : FnOk P w K mg base (L2.CX P w) 4 (ad "are_quotients") (fdt "are_quotients") ["many", "thing"] (spD (GG K C) 2 d_are_quotients) := ok_are_quotients T ⟨o_is_quotient⟩
  have o_others_counts : FnOk P w K mg base (L2.CX P w) 2 (ad "others_counts") (fdt "others_counts") ["counts", "person"] (spD (GG K C) 2 d_others_counts) := ok_others_counts T
  have o_is_tables : FnOk P w K mg base (L2.CX P w) 5 (ad "is_tables") (fdt "is_tables") ["board", "thing"] (spD (GG K C) 2 d_is_tables) := ok_is_tables T ⟨o_are_quotients, o_board_size, o_others_counts⟩
  have o_choices_by_place : FnOk P w K mg base (L2.CX P w) 3 (ad "choices_by_place") (fdt "choices_by_place") ["counts", "person"] (spD (GG K C) 2 d_choices_by_place) := ok_choices_by_place T ⟨o_board_size⟩
  have o_u_lowest_terms : FnOk P w K mg base (L2.CX P w) 3 (ad "_lowest_terms") (fdt "_lowest_terms") ["top", "bottom"] (spD (GG K C) 2 d_u_lowest_terms) := ok_u_lowest_terms T ⟨o_common_divisor⟩
  have o_quotient_of : FnOk P w K mg base (L2.CX P w) 4 (ad "quotient_of") (fdt "quotient_of") ["top", "bottom"] (spD (GG K C) 2 d_quotient_of) := ok_quotient_of T ⟨o_u_lowest_terms, o_is_integer⟩
  have o_quotient_sum : FnOk P w K mg base (L2.CX P w) 5 (ad "quotient_sum") (fdt "quotient_sum") ["parts"] (spD (GG K C) 1 d_quotient_sum) := ok_quotient_sum T ⟨o_quotient_of⟩
  have o_till_list : FnOk P w K mg base (L2.CX P w) 6 (ad "till_list") (fdt "till_list") ["board", "tables"] (spD (GG K C) 2 d_till_list) := ok_till_list T ⟨o_choices_by_place, o_quotient_sum⟩
  have o_till_row : FnOk P w K mg base (L2.CX P w) 7 (ad "till_row") (fdt "till_row") ["board", "tables"] (spD (GG K C) 2 d_till_row) := ok_till_row T ⟨o_is_tables, o_till_list⟩
  have o_is_under : FnOk P w K mg base (L2.CX P w) 2 (ad "is_under") (fdt "is_under") ["one", "other"] (spD (GG K C) 2 d_is_under) := ok_is_under T
  have o_ends_of_quotients : FnOk P w K mg base (L2.CX P w) 3 (ad "ends_of_quotients") (fdt "ends_of_quotients") ["parts"] (spD (GG K C) 1 d_ends_of_quotients) := ok_ends_of_quotients T ⟨o_is_under⟩
  have o_u_need_quotients : FnOk P w K mg base (L2.CX P w) 4 (ad "_need_quotients") (fdt "_need_quotients") ["one", "other"] (spD (GG K C) 2 d_u_need_quotients) := ok_u_need_quotients T ⟨o_is_quotient⟩
  have o_minus : FnOk P w K mg base (L2.CX P w) 5 (ad "minus") (fdt "minus") ["one", "other"] (spD (GG K C) 2 d_minus) := ok_minus T ⟨o_u_need_quotients, o_u_lowest_terms⟩
  have o_till_span : FnOk P w K mg base (L2.CX P w) 7 (ad "till_span") (fdt "till_span") ["board", "tables"] (spD (GG K C) 2 d_till_span) := ok_till_span T ⟨o_ends_of_quotients, o_minus, o_is_tables, o_till_list⟩
  have o_law : FnOk P w K mg base (L2.CX P w) 9 (ad "law") (fdt "law") ["_law_script"] (spD (GG K C) 1 d_law) := ok_law T ⟨o_u_law_deal, o_u_law_board, o_u_law_uneven, o_u_law_flat, o_u_law_same, o_u_law_differences, o_u_law_refused, o_Board_even, o_uneven_place, o_u_law_is_flat, o_Board___init__, o_till_row, o_till_span⟩
  exact o_law
def spLaw (K : PySem.W.Frag) : Sp := fun vs H Q _ => ∃ (a : Addr) (ns : List Int), vs = [.ref a] ∧ SqL K H a (ns.map V.int) ∧ ns.length ≤ 63 ∧ ∀ H', Q (.bl true) H'
theorem law_sp (T : Tx K mg ad fdt C) : FnOk P w K mg base (L2.CX P w) 9 (ad "law") (fdt "law") ["_law_script"] (spLaw K) := (law_ok T).imp fun vs H Q E h => by
  obtain ⟨a, ns, rfl, hs, hl, q⟩ := h
  obtain ⟨φ', e⟩ := law_true ns hl
  refine ⟨[], none, [.scr ns], [], rfl, .cons (.scr ?_) .nil, .inl ⟨rfl, rfl⟩, fun a ha => (List.not_mem_nil ha).elim, ?_⟩
  · have : hide ([] ++ []) H = H := funext fun b => if_neg (by simp)
    rw [this]; exact hs
  · rw [e]
    intro F' H' v _ _ _ rc
    cases rc
    exact q H'
end
theorem fin_of {P : Program} {w : World} {K : PySem.W.Frag} {h : Heap} {mg : Str → Option Value} {fa : Addr} (X : K.In h) (G : h.Ns mainGlobals mg) (hfa : mg "law" = some (.ref fa))
    {C_NotUsable : Addr} {C_Uneven : Addr} {C_Board : Addr}
    {f_u_law_deal : Addr} {od_u_law_deal an_u_law_deal : Option Addr} {sl_u_law_deal : Array (Option Value)} {oc_u_law_deal kV_u_law_deal dc_u_law_deal pm_u_law_deal cd_u_law_deal ct_u_law_deal : Value}
    {f_u_law_pick : Addr} {od_u_law_pick an_u_law_pick : Option Addr} {sl_u_law_pick : Array (Option Value)} {oc_u_law_pick kV_u_law_pick dc_u_law_pick pm_u_law_pick cd_u_law_pick ct_u_law_pick : Value}
    {f_u_law_counts : Addr} {od_u_law_counts an_u_law_counts : Option Addr} {sl_u_law_counts : Array (Option Value)} {oc_u_law_counts kV_u_law_counts dc_u_law_counts pm_u_law_counts cd_u_law_counts ct_u_law_counts : Value}
    {f_u_law_places : Addr} {od_u_law_places an_u_law_places : Option Addr} {sl_u_law_places : Array (Option Value)} {oc_u_law_places kV_u_law_places dc_u_law_places pm_u_law_places cd_u_law_places ct_u_law_places : Value}
    {f_u_law_choice : Addr} {od_u_law_choice an_u_law_choice : Option Addr} {sl_u_law_choice : Array (Option Value)} {oc_u_law_choice kV_u_law_choice dc_u_law_choice pm_u_law_choice cd_u_law_choice ct_u_law_choice : Value}
    {f_u_law_board : Addr} {od_u_law_board an_u_law_board : Option Addr} {sl_u_law_board : Array (Option Value)} {oc_u_law_board kV_u_law_board dc_u_law_board pm_u_law_board cd_u_law_board ct_u_law_board : Value}
    {f_u_law_at : Addr} {od_u_law_at an_u_law_at : Option Addr} {sl_u_law_at : Array (Option Value)} {oc_u_law_at kV_u_law_at dc_u_law_at pm_u_law_at cd_u_law_at ct_u_law_at : Value}
    {f_u_law_mixed : Addr} {od_u_law_mixed an_u_law_mixed : Option Addr} {sl_u_law_mixed : Array (Option Value)} {oc_u_law_mixed kV_u_law_mixed dc_u_law_mixed pm_u_law_mixed cd_u_law_mixed ct_u_law_mixed : Value}
    {f_u_law_uneven : Addr} {od_u_law_uneven an_u_law_uneven : Option Addr} {sl_u_law_uneven : Array (Option Value)} {oc_u_law_uneven kV_u_law_uneven dc_u_law_uneven pm_u_law_uneven cd_u_law_uneven ct_u_law_uneven : Value}
    {f_board_size : Addr} {od_board_size an_board_size : Option Addr} {sl_board_size : Array (Option Value)} {oc_board_size kV_board_size dc_board_size pm_board_size cd_board_size ct_board_size : Value}
    {f_firsts_by_place : Addr} {od_firsts_by_place an_firsts_by_place : Option Addr} {sl_firsts_by_place : Array (Option Value)} {oc_firsts_by_place kV_firsts_by_place dc_firsts_by_place pm_firsts_by_place cd_firsts_by_place ct_firsts_by_place : Value}
    {f_flattened : Addr} {od_flattened an_flattened : Option Addr} {sl_flattened : Array (Option Value)} {oc_flattened kV_flattened dc_flattened pm_flattened cd_flattened ct_flattened : Value}
    {f_row_tuples : Addr} {od_row_tuples an_row_tuples : Option Addr} {sl_row_tuples : Array (Option Value)} {oc_row_tuples kV_row_tuples dc_row_tuples pm_row_tuples cd_row_tuples ct_row_tuples : Value}
    {f_uneven_place : Addr} {od_uneven_place an_uneven_place : Option Addr} {sl_uneven_place : Array (Option Value)} {oc_uneven_place kV_uneven_place dc_uneven_place pm_uneven_place cd_uneven_place ct_uneven_place : Value}
    {f_flat_tables : Addr} {od_flat_tables an_flat_tables : Option Addr} {sl_flat_tables : Array (Option Value)} {oc_flat_tables kV_flat_tables dc_flat_tables pm_flat_tables cd_flat_tables ct_flat_tables : Value}
    {f_u_law_flat : Addr} {od_u_law_flat an_u_law_flat : Option Addr} {sl_u_law_flat : Array (Option Value)} {oc_u_law_flat kV_u_law_flat dc_u_law_flat pm_u_law_flat cd_u_law_flat ct_u_law_flat : Value}
    {f_u_law_integer : Addr} {od_u_law_integer an_u_law_integer : Option Addr} {sl_u_law_integer : Array (Option Value)} {oc_u_law_integer kV_u_law_integer dc_u_law_integer pm_u_law_integer cd_u_law_integer ct_u_law_integer : Value}
    {f_u_law_same : Addr} {od_u_law_same an_u_law_same : Option Addr} {sl_u_law_same : Array (Option Value)} {oc_u_law_same kV_u_law_same dc_u_law_same pm_u_law_same cd_u_law_same ct_u_law_same : Value}
    {f_is_integer : Addr} {od_is_integer an_is_integer : Option Addr} {sl_is_integer : Array (Option Value)} {oc_is_integer kV_is_integer dc_is_integer pm_is_integer cd_is_integer ct_is_integer : Value}
    {f_are_rows : Addr} {od_are_rows an_are_rows : Option Addr} {sl_are_rows : Array (Option Value)} {oc_are_rows kV_are_rows dc_are_rows pm_are_rows cd_are_rows ct_are_rows : Value}
    {f_mixed_at : Addr} {od_mixed_at an_mixed_at : Option Addr} {sl_mixed_at : Array (Option Value)} {oc_mixed_at kV_mixed_at dc_mixed_at pm_mixed_at cd_mixed_at ct_mixed_at : Value}
    {f_Board_mixed : Addr} {od_Board_mixed an_Board_mixed : Option Addr} {sl_Board_mixed : Array (Option Value)} {oc_Board_mixed kV_Board_mixed dc_Board_mixed pm_Board_mixed cd_Board_mixed ct_Board_mixed : Value}
    {f_board_fault : Addr} {od_board_fault an_board_fault : Option Addr} {sl_board_fault : Array (Option Value)} {oc_board_fault kV_board_fault dc_board_fault pm_board_fault cd_board_fault ct_board_fault : Value}
    {f_Board___init__ : Addr} {od_Board___init__ an_Board___init__ : Option Addr} {sl_Board___init__ : Array (Option Value)} {oc_Board___init__ kV_Board___init__ dc_Board___init__ pm_Board___init__ cd_Board___init__ ct_Board___init__ : Value}
    {f_u_law_asked : Addr} {od_u_law_asked an_u_law_asked : Option Addr} {sl_u_law_asked : Array (Option Value)} {oc_u_law_asked kV_u_law_asked dc_u_law_asked pm_u_law_asked cd_u_law_asked ct_u_law_asked : Value}
    {f_u_law_differences : Addr} {od_u_law_differences an_u_law_differences : Option Addr} {sl_u_law_differences : Array (Option Value)} {oc_u_law_differences kV_u_law_differences dc_u_law_differences pm_u_law_differences cd_u_law_differences ct_u_law_differences : Value}
    {f_u_law_refused : Addr} {od_u_law_refused an_u_law_refused : Option Addr} {sl_u_law_refused : Array (Option Value)} {oc_u_law_refused kV_u_law_refused dc_u_law_refused pm_u_law_refused cd_u_law_refused ct_u_law_refused : Value}
    {f_Board_even : Addr} {od_Board_even an_Board_even : Option Addr} {sl_Board_even : Array (Option Value)} {oc_Board_even kV_Board_even dc_Board_even pm_Board_even cd_Board_even ct_Board_even : Value}
    {f_u_law_is_quotient : Addr} {od_u_law_is_quotient an_u_law_is_quotient : Option Addr} {sl_u_law_is_quotient : Array (Option Value)} {oc_u_law_is_quotient kV_u_law_is_quotient dc_u_law_is_quotient pm_u_law_is_quotient cd_u_law_is_quotient ct_u_law_is_quotient : Value}
    {f_u_law_is_flat : Addr} {od_u_law_is_flat an_u_law_is_flat : Option Addr} {sl_u_law_is_flat : Array (Option Value)} {oc_u_law_is_flat kV_u_law_is_flat dc_u_law_is_flat pm_u_law_is_flat cd_u_law_is_flat ct_u_law_is_flat : Value}
    {f_common_divisor : Addr} {od_common_divisor an_common_divisor : Option Addr} {sl_common_divisor : Array (Option Value)} {oc_common_divisor kV_common_divisor dc_common_divisor pm_common_divisor cd_common_divisor ct_common_divisor : Value}
    {f_is_quotient : Addr} {od_is_quotient an_is_quotient : Option Addr} {sl_is_quotient : Array (Option Value)} {oc_is_quotient kV_is_quotient dc_is_quotient pm_is_quotient cd_is_quotient ct_is_quotient : Value}
    {f_are_quotients : Addr} {od_are_quotients an_are_quotients : Option Addr} {sl_are_quotients : Array (Option Value)} {oc_are_quotients kV_are_quotients dc_are_quotients pm_are_quotients cd_are_quotients ct_are_quotients : Value}
    {f_others_counts : Addr} {od_others_counts an_others_counts : Option Addr} {sl_others_counts : Array (Option Value)} {oc_others_counts kV_others_counts dc_others_counts pm_others_counts cd_others_counts ct_others_counts : Value}
    {f_is_tables : Addr} {od_is_tables an_is_tables : Option Addr} {sl_is_tables : Array (Option Value)} {oc_is_tables kV_is_tables dc_is_tables pm_is_tables cd_is_tables ct_is_tables : Value}
    {f_choices_by_place : Addr} {od_choices_by_place an_choices_by_place : Option Addr} {sl_choices_by_place : Array (Option Value)} {oc_choices_by_place kV_choices_by_place dc_choices_by_place pm_choices_by_place cd_choices_by_place ct_choices_by_place : Value}
    {f_u_lowest_terms : Addr} {od_u_lowest_terms an_u_lowest_terms : Option Addr} {sl_u_lowest_terms : Array (Option Value)} {oc_u_lowest_terms kV_u_lowest_terms dc_u_lowest_terms pm_u_lowest_terms cd_u_lowest_terms ct_u_lowest_terms : Value}
    {f_quotient_of : Addr} {od_quotient_of an_quotient_of : Option Addr} {sl_quotient_of : Array (Option Value)} {oc_quotient_of kV_quotient_of dc_quotient_of pm_quotient_of cd_quotient_of ct_quotient_of : Value}
    {f_quotient_sum : Addr} {od_quotient_sum an_quotient_sum : Option Addr} {sl_quotient_sum : Array (Option Value)} {oc_quotient_sum kV_quotient_sum dc_quotient_sum pm_quotient_sum cd_quotient_sum ct_quotient_sum : Value}
    {f_till_list : Addr} {od_till_list an_till_list : Option Addr} {sl_till_list : Array (Option Value)} {oc_till_list kV_till_list dc_till_list pm_till_list cd_till_list ct_till_list : Value}
    {f_till_row : Addr} {od_till_row an_till_row : Option Addr} {sl_till_row : Array (Option Value)} {oc_till_row kV_till_row dc_till_row pm_till_row cd_till_row ct_till_row : Value}
    {f_is_under : Addr} {od_is_under an_is_under : Option Addr} {sl_is_under : Array (Option Value)} {oc_is_under kV_is_under dc_is_under pm_is_under cd_is_under ct_is_under : Value}
    {f_ends_of_quotients : Addr} {od_ends_of_quotients an_ends_of_quotients : Option Addr} {sl_ends_of_quotients : Array (Option Value)} {oc_ends_of_quotients kV_ends_of_quotients dc_ends_of_quotients pm_ends_of_quotients cd_ends_of_quotients ct_ends_of_quotients : Value}
    {f_u_need_quotients : Addr} {od_u_need_quotients an_u_need_quotients : Option Addr} {sl_u_need_quotients : Array (Option Value)} {oc_u_need_quotients kV_u_need_quotients dc_u_need_quotients pm_u_need_quotients cd_u_need_quotients ct_u_need_quotients : Value}
    {f_minus : Addr} {od_minus an_minus : Option Addr} {sl_minus : Array (Option Value)} {oc_minus kV_minus dc_minus pm_minus cd_minus ct_minus : Value}
    {f_till_span : Addr} {od_till_span an_till_span : Option Addr} {sl_till_span : Array (Option Value)} {oc_till_span kV_till_span dc_till_span pm_till_span cd_till_span ct_till_span : Value}
    {f_law : Addr} {od_law an_law : Option Addr} {sl_law : Array (Option Value)} {oc_law kV_law dc_law pm_law cd_law ct_law : Value}
    {f_NotUsable_init : Addr} {od_NotUsable_init an_NotUsable_init : Option Addr} {sl_NotUsable_init : Array (Option Value)} {oc_NotUsable_init kV_NotUsable_init dc_NotUsable_init pm_NotUsable_init cd_NotUsable_init ct_NotUsable_init : Value}
    {f_Uneven_init : Addr} {od_Uneven_init an_Uneven_init : Option Addr} {sl_Uneven_init : Array (Option Value)} {oc_Uneven_init kV_Uneven_init dc_Uneven_init pm_Uneven_init cd_Uneven_init ct_Uneven_init : Value}
    {nm_NotUsable q_NotUsable : Str} {N_NotUsable c0_NotUsable c1_NotUsable : Addr} {bs_NotUsable : List Value} {sn_NotUsable : List Str} {sub_NotUsable : List Value} {ab_NotUsable : Bool} {col_NotUsable : Option Bool} {dd_NotUsable : Option Addr} {m0_NotUsable m1_NotUsable m2_NotUsable m3_NotUsable m5_NotUsable : Option Value}
    {nm_Uneven q_Uneven : Str} {N_Uneven c0_Uneven c1_Uneven : Addr} {bs_Uneven : List Value} {sn_Uneven : List Str} {sub_Uneven : List Value} {ab_Uneven : Bool} {col_Uneven : Option Bool} {dd_Uneven : Option Addr} {m0_Uneven m1_Uneven m2_Uneven m3_Uneven m5_Uneven : Option Value}
    (aC_NotUsable : PySem.W.nsIn K mainGlobals "NotUsable" = some (some (.ref C_NotUsable)))
    (xL_NotUsable : K.lookup C_NotUsable = some (excClassObj nm_NotUsable q_NotUsable C_NotUsable N_NotUsable bs_NotUsable [.ref c0_NotUsable, .ref c1_NotUsable, .type "ValueError", .type "Exception", .type "BaseException", .type "object"] true sn_NotUsable sub_NotUsable ab_NotUsable col_NotUsable dd_NotUsable m0_NotUsable m1_NotUsable m2_NotUsable m3_NotUsable m5_NotUsable "ValueError.__new__"))
    (aC_Uneven : PySem.W.nsIn K mainGlobals "Uneven" = some (some (.ref C_Uneven)))
    (xL_Uneven : K.lookup C_Uneven = some (excClassObj nm_Uneven q_Uneven C_Uneven N_Uneven bs_Uneven [.ref c0_Uneven, .ref c1_Uneven, .type "ValueError", .type "Exception", .type "BaseException", .type "object"] true sn_Uneven sub_Uneven ab_Uneven col_Uneven dd_Uneven m0_Uneven m1_Uneven m2_Uneven m3_Uneven m5_Uneven "ValueError.__new__"))
    (aC_Board : PySem.W.nsIn K mainGlobals "Board" = some (some (.ref C_Board)))
    (a_u_law_deal : PySem.W.nsIn K mainGlobals "_law_deal" = some (some (.ref f_u_law_deal)))
    (l_u_law_deal : K.lookup f_u_law_deal = some ⟨oc_u_law_deal, od_u_law_deal, .func (PySem.W.fnOf "_law_deal" "_law_deal" (defArgs st_u_law_deal) (defBody st_u_law_deal) (defScope st_u_law_deal) .none kV_u_law_deal dc_u_law_deal pm_u_law_deal an_u_law_deal cd_u_law_deal ct_u_law_deal), sl_u_law_deal⟩)
    (c_u_law_deal : PySem.W.codeIn K cd_u_law_deal "_law_deal" = true)
    (k_u_law_deal : PySem.W.keepIn K (.ref f_u_law_deal) = true)
    (a_u_law_pick : PySem.W.nsIn K mainGlobals "_law_pick" = some (some (.ref f_u_law_pick)))
    (l_u_law_pick : K.lookup f_u_law_pick = some ⟨oc_u_law_pick, od_u_law_pick, .func (PySem.W.fnOf "_law_pick" "_law_pick" (defArgs st_u_law_pick) (defBody st_u_law_pick) (defScope st_u_law_pick) .none kV_u_law_pick dc_u_law_pick pm_u_law_pick an_u_law_pick cd_u_law_pick ct_u_law_pick), sl_u_law_pick⟩)
    (c_u_law_pick : PySem.W.codeIn K cd_u_law_pick "_law_pick" = true)
    (k_u_law_pick : PySem.W.keepIn K (.ref f_u_law_pick) = true)
    (a_u_law_counts : PySem.W.nsIn K mainGlobals "_law_counts" = some (some (.ref f_u_law_counts)))
    (l_u_law_counts : K.lookup f_u_law_counts = some ⟨oc_u_law_counts, od_u_law_counts, .func (PySem.W.fnOf "_law_counts" "_law_counts" (defArgs st_u_law_counts) (defBody st_u_law_counts) (defScope st_u_law_counts) .none kV_u_law_counts dc_u_law_counts pm_u_law_counts an_u_law_counts cd_u_law_counts ct_u_law_counts), sl_u_law_counts⟩)
    (c_u_law_counts : PySem.W.codeIn K cd_u_law_counts "_law_counts" = true)
    (k_u_law_counts : PySem.W.keepIn K (.ref f_u_law_counts) = true)
    (a_u_law_places : PySem.W.nsIn K mainGlobals "_law_places" = some (some (.ref f_u_law_places)))
    (l_u_law_places : K.lookup f_u_law_places = some ⟨oc_u_law_places, od_u_law_places, .func (PySem.W.fnOf "_law_places" "_law_places" (defArgs st_u_law_places) (defBody st_u_law_places) (defScope st_u_law_places) .none kV_u_law_places dc_u_law_places pm_u_law_places an_u_law_places cd_u_law_places ct_u_law_places), sl_u_law_places⟩)
    (c_u_law_places : PySem.W.codeIn K cd_u_law_places "_law_places" = true)
    (k_u_law_places : PySem.W.keepIn K (.ref f_u_law_places) = true)
    (a_u_law_choice : PySem.W.nsIn K mainGlobals "_law_choice" = some (some (.ref f_u_law_choice)))
    (l_u_law_choice : K.lookup f_u_law_choice = some ⟨oc_u_law_choice, od_u_law_choice, .func (PySem.W.fnOf "_law_choice" "_law_choice" (defArgs st_u_law_choice) (defBody st_u_law_choice) (defScope st_u_law_choice) .none kV_u_law_choice dc_u_law_choice pm_u_law_choice an_u_law_choice cd_u_law_choice ct_u_law_choice), sl_u_law_choice⟩)
    (c_u_law_choice : PySem.W.codeIn K cd_u_law_choice "_law_choice" = true)
    (k_u_law_choice : PySem.W.keepIn K (.ref f_u_law_choice) = true)
    (a_u_law_board : PySem.W.nsIn K mainGlobals "_law_board" = some (some (.ref f_u_law_board)))
    (l_u_law_board : K.lookup f_u_law_board = some ⟨oc_u_law_board, od_u_law_board, .func (PySem.W.fnOf "_law_board" "_law_board" (defArgs st_u_law_board) (defBody st_u_law_board) (defScope st_u_law_board) .none kV_u_law_board dc_u_law_board pm_u_law_board an_u_law_board cd_u_law_board ct_u_law_board), sl_u_law_board⟩)
    (c_u_law_board : PySem.W.codeIn K cd_u_law_board "_law_board" = true)
    (k_u_law_board : PySem.W.keepIn K (.ref f_u_law_board) = true)
    (a_u_law_at : PySem.W.nsIn K mainGlobals "_law_at" = some (some (.ref f_u_law_at)))
    (l_u_law_at : K.lookup f_u_law_at = some ⟨oc_u_law_at, od_u_law_at, .func (PySem.W.fnOf "_law_at" "_law_at" (defArgs st_u_law_at) (defBody st_u_law_at) (defScope st_u_law_at) .none kV_u_law_at dc_u_law_at pm_u_law_at an_u_law_at cd_u_law_at ct_u_law_at), sl_u_law_at⟩)
    (c_u_law_at : PySem.W.codeIn K cd_u_law_at "_law_at" = true)
    (k_u_law_at : PySem.W.keepIn K (.ref f_u_law_at) = true)
    (a_u_law_mixed : PySem.W.nsIn K mainGlobals "_law_mixed" = some (some (.ref f_u_law_mixed)))
    (l_u_law_mixed : K.lookup f_u_law_mixed = some ⟨oc_u_law_mixed, od_u_law_mixed, .func (PySem.W.fnOf "_law_mixed" "_law_mixed" (defArgs st_u_law_mixed) (defBody st_u_law_mixed) (defScope st_u_law_mixed) .none kV_u_law_mixed dc_u_law_mixed pm_u_law_mixed an_u_law_mixed cd_u_law_mixed ct_u_law_mixed), sl_u_law_mixed⟩)
    (c_u_law_mixed : PySem.W.codeIn K cd_u_law_mixed "_law_mixed" = true)
    (k_u_law_mixed : PySem.W.keepIn K (.ref f_u_law_mixed) = true)
    (a_u_law_uneven : PySem.W.nsIn K mainGlobals "_law_uneven" = some (some (.ref f_u_law_uneven)))
    (l_u_law_uneven : K.lookup f_u_law_uneven = some ⟨oc_u_law_uneven, od_u_law_uneven, .func (PySem.W.fnOf "_law_uneven" "_law_uneven" (defArgs st_u_law_uneven) (defBody st_u_law_uneven) (defScope st_u_law_uneven) .none kV_u_law_uneven dc_u_law_uneven pm_u_law_uneven an_u_law_uneven cd_u_law_uneven ct_u_law_uneven), sl_u_law_uneven⟩)
    (c_u_law_uneven : PySem.W.codeIn K cd_u_law_uneven "_law_uneven" = true)
    (k_u_law_uneven : PySem.W.keepIn K (.ref f_u_law_uneven) = true)
    (a_board_size : PySem.W.nsIn K mainGlobals "board_size" = some (some (.ref f_board_size)))
    (l_board_size : K.lookup f_board_size = some ⟨oc_board_size, od_board_size, .func (PySem.W.fnOf "board_size" "board_size" (defArgs st_board_size) (defBody st_board_size) (defScope st_board_size) .none kV_board_size dc_board_size pm_board_size an_board_size cd_board_size ct_board_size), sl_board_size⟩)
    (c_board_size : PySem.W.codeIn K cd_board_size "board_size" = true)
    (k_board_size : PySem.W.keepIn K (.ref f_board_size) = true)
    (a_firsts_by_place : PySem.W.nsIn K mainGlobals "firsts_by_place" = some (some (.ref f_firsts_by_place)))
    (l_firsts_by_place : K.lookup f_firsts_by_place = some ⟨oc_firsts_by_place, od_firsts_by_place, .func (PySem.W.fnOf "firsts_by_place" "firsts_by_place" (defArgs st_firsts_by_place) (defBody st_firsts_by_place) (defScope st_firsts_by_place) .none kV_firsts_by_place dc_firsts_by_place pm_firsts_by_place an_firsts_by_place cd_firsts_by_place ct_firsts_by_place), sl_firsts_by_place⟩)
    (c_firsts_by_place : PySem.W.codeIn K cd_firsts_by_place "firsts_by_place" = true)
    (k_firsts_by_place : PySem.W.keepIn K (.ref f_firsts_by_place) = true)
    (a_flattened : PySem.W.nsIn K mainGlobals "flattened" = some (some (.ref f_flattened)))
    (l_flattened : K.lookup f_flattened = some ⟨oc_flattened, od_flattened, .func (PySem.W.fnOf "flattened" "flattened" (defArgs st_flattened) (defBody st_flattened) (defScope st_flattened) .none kV_flattened dc_flattened pm_flattened an_flattened cd_flattened ct_flattened), sl_flattened⟩)
    (c_flattened : PySem.W.codeIn K cd_flattened "flattened" = true)
    (k_flattened : PySem.W.keepIn K (.ref f_flattened) = true)
    (a_row_tuples : PySem.W.nsIn K mainGlobals "row_tuples" = some (some (.ref f_row_tuples)))
    (l_row_tuples : K.lookup f_row_tuples = some ⟨oc_row_tuples, od_row_tuples, .func (PySem.W.fnOf "row_tuples" "row_tuples" (defArgs st_row_tuples) (defBody st_row_tuples) (defScope st_row_tuples) .none kV_row_tuples dc_row_tuples pm_row_tuples an_row_tuples cd_row_tuples ct_row_tuples), sl_row_tuples⟩)
    (c_row_tuples : PySem.W.codeIn K cd_row_tuples "row_tuples" = true)
    (k_row_tuples : PySem.W.keepIn K (.ref f_row_tuples) = true)
    (a_uneven_place : PySem.W.nsIn K mainGlobals "uneven_place" = some (some (.ref f_uneven_place)))
    (l_uneven_place : K.lookup f_uneven_place = some ⟨oc_uneven_place, od_uneven_place, .func (PySem.W.fnOf "uneven_place" "uneven_place" (defArgs st_uneven_place) (defBody st_uneven_place) (defScope st_uneven_place) .none kV_uneven_place dc_uneven_place pm_uneven_place an_uneven_place cd_uneven_place ct_uneven_place), sl_uneven_place⟩)
    (c_uneven_place : PySem.W.codeIn K cd_uneven_place "uneven_place" = true)
    (k_uneven_place : PySem.W.keepIn K (.ref f_uneven_place) = true)
    (a_flat_tables : PySem.W.nsIn K mainGlobals "flat_tables" = some (some (.ref f_flat_tables)))
    (l_flat_tables : K.lookup f_flat_tables = some ⟨oc_flat_tables, od_flat_tables, .func (PySem.W.fnOf "flat_tables" "flat_tables" (defArgs st_flat_tables) (defBody st_flat_tables) (defScope st_flat_tables) .none kV_flat_tables dc_flat_tables pm_flat_tables an_flat_tables cd_flat_tables ct_flat_tables), sl_flat_tables⟩)
    (c_flat_tables : PySem.W.codeIn K cd_flat_tables "flat_tables" = true)
    (k_flat_tables : PySem.W.keepIn K (.ref f_flat_tables) = true)
    (a_u_law_flat : PySem.W.nsIn K mainGlobals "_law_flat" = some (some (.ref f_u_law_flat)))
    (l_u_law_flat : K.lookup f_u_law_flat = some ⟨oc_u_law_flat, od_u_law_flat, .func (PySem.W.fnOf "_law_flat" "_law_flat" (defArgs st_u_law_flat) (defBody st_u_law_flat) (defScope st_u_law_flat) .none kV_u_law_flat dc_u_law_flat pm_u_law_flat an_u_law_flat cd_u_law_flat ct_u_law_flat), sl_u_law_flat⟩)
    (c_u_law_flat : PySem.W.codeIn K cd_u_law_flat "_law_flat" = true)
    (k_u_law_flat : PySem.W.keepIn K (.ref f_u_law_flat) = true)
    (a_u_law_integer : PySem.W.nsIn K mainGlobals "_law_integer" = some (some (.ref f_u_law_integer)))
    (l_u_law_integer : K.lookup f_u_law_integer = some ⟨oc_u_law_integer, od_u_law_integer, .func (PySem.W.fnOf "_law_integer" "_law_integer" (defArgs st_u_law_integer) (defBody st_u_law_integer) (defScope st_u_law_integer) .none kV_u_law_integer dc_u_law_integer pm_u_law_integer an_u_law_integer cd_u_law_integer ct_u_law_integer), sl_u_law_integer⟩)
    (c_u_law_integer : PySem.W.codeIn K cd_u_law_integer "_law_integer" = true)
    (k_u_law_integer : PySem.W.keepIn K (.ref f_u_law_integer) = true)
    (a_u_law_same : PySem.W.nsIn K mainGlobals "_law_same" = some (some (.ref f_u_law_same)))
    (l_u_law_same : K.lookup f_u_law_same = some ⟨oc_u_law_same, od_u_law_same, .func (PySem.W.fnOf "_law_same" "_law_same" (defArgs st_u_law_same) (defBody st_u_law_same) (defScope st_u_law_same) .none kV_u_law_same dc_u_law_same pm_u_law_same an_u_law_same cd_u_law_same ct_u_law_same), sl_u_law_same⟩)
    (c_u_law_same : PySem.W.codeIn K cd_u_law_same "_law_same" = true)
    (k_u_law_same : PySem.W.keepIn K (.ref f_u_law_same) = true)
    (a_is_integer : PySem.W.nsIn K mainGlobals "is_integer" = some (some (.ref f_is_integer)))
    (l_is_integer : K.lookup f_is_integer = some ⟨oc_is_integer, od_is_integer, .func (PySem.W.fnOf "is_integer" "is_integer" (defArgs st_is_integer) (defBody st_is_integer) (defScope st_is_integer) .none kV_is_integer dc_is_integer pm_is_integer an_is_integer cd_is_integer ct_is_integer), sl_is_integer⟩)
    (c_is_integer : PySem.W.codeIn K cd_is_integer "is_integer" = true)
    (k_is_integer : PySem.W.keepIn K (.ref f_is_integer) = true)
    (a_are_rows : PySem.W.nsIn K mainGlobals "are_rows" = some (some (.ref f_are_rows)))
    (l_are_rows : K.lookup f_are_rows = some ⟨oc_are_rows, od_are_rows, .func (PySem.W.fnOf "are_rows" "are_rows" (defArgs st_are_rows) (defBody st_are_rows) (defScope st_are_rows) .none kV_are_rows dc_are_rows pm_are_rows an_are_rows cd_are_rows ct_are_rows), sl_are_rows⟩)
    (c_are_rows : PySem.W.codeIn K cd_are_rows "are_rows" = true)
    (k_are_rows : PySem.W.keepIn K (.ref f_are_rows) = true)
    (a_mixed_at : PySem.W.nsIn K mainGlobals "mixed_at" = some (some (.ref f_mixed_at)))
    (l_mixed_at : K.lookup f_mixed_at = some ⟨oc_mixed_at, od_mixed_at, .func (PySem.W.fnOf "mixed_at" "mixed_at" (defArgs st_mixed_at) (defBody st_mixed_at) (defScope st_mixed_at) .none kV_mixed_at dc_mixed_at pm_mixed_at an_mixed_at cd_mixed_at ct_mixed_at), sl_mixed_at⟩)
    (c_mixed_at : PySem.W.codeIn K cd_mixed_at "mixed_at" = true)
    (k_mixed_at : PySem.W.keepIn K (.ref f_mixed_at) = true)
    (a_Board_mixed : PySem.W.findIn K (.ref C_Board) "mixed" = some (some (.ref f_Board_mixed)))
    (i_Board_mixed : PySem.W.isFn K (.ref f_Board_mixed) = true)
    (l_Board_mixed : K.lookup f_Board_mixed = some ⟨oc_Board_mixed, od_Board_mixed, .func (PySem.W.fnOf "mixed" "Board.mixed" (defArgs st_Board_mixed) (defBody st_Board_mixed) (defScope st_Board_mixed) .none kV_Board_mixed dc_Board_mixed pm_Board_mixed an_Board_mixed cd_Board_mixed ct_Board_mixed), sl_Board_mixed⟩)
    (c_Board_mixed : PySem.W.codeIn K cd_Board_mixed "Board.mixed" = true)
    (k_Board_mixed : PySem.W.keepIn K (.ref f_Board_mixed) = true)
    (a_board_fault : PySem.W.nsIn K mainGlobals "board_fault" = some (some (.ref f_board_fault)))
    (l_board_fault : K.lookup f_board_fault = some ⟨oc_board_fault, od_board_fault, .func (PySem.W.fnOf "board_fault" "board_fault" (defArgs st_board_fault) (defBody st_board_fault) (defScope st_board_fault) .none kV_board_fault dc_board_fault pm_board_fault an_board_fault cd_board_fault ct_board_fault), sl_board_fault⟩)
    (c_board_fault : PySem.W.codeIn K cd_board_fault "board_fault" = true)
    (k_board_fault : PySem.W.keepIn K (.ref f_board_fault) = true)
    (a_Board___init__ : PySem.W.findIn K (.ref C_Board) "__init__" = some (some (.ref f_Board___init__)))
    (i_Board___init__ : PySem.W.isFn K (.ref f_Board___init__) = true)
    (l_Board___init__ : K.lookup f_Board___init__ = some ⟨oc_Board___init__, od_Board___init__, .func (PySem.W.fnOf "__init__" "Board.__init__" (defArgs st_Board___init__) (defBody st_Board___init__) (defScope st_Board___init__) .none kV_Board___init__ dc_Board___init__ pm_Board___init__ an_Board___init__ cd_Board___init__ ct_Board___init__), sl_Board___init__⟩)
    (c_Board___init__ : PySem.W.codeIn K cd_Board___init__ "Board.__init__" = true)
    (k_Board___init__ : PySem.W.keepIn K (.ref f_Board___init__) = true)
    (a_u_law_asked : PySem.W.nsIn K mainGlobals "_law_asked" = some (some (.ref f_u_law_asked)))
    (l_u_law_asked : K.lookup f_u_law_asked = some ⟨oc_u_law_asked, od_u_law_asked, .func (PySem.W.fnOf "_law_asked" "_law_asked" (defArgs st_u_law_asked) (defBody st_u_law_asked) (defScope st_u_law_asked) .none kV_u_law_asked dc_u_law_asked pm_u_law_asked an_u_law_asked cd_u_law_asked ct_u_law_asked), sl_u_law_asked⟩)
    (c_u_law_asked : PySem.W.codeIn K cd_u_law_asked "_law_asked" = true)
    (k_u_law_asked : PySem.W.keepIn K (.ref f_u_law_asked) = true)
    (a_u_law_differences : PySem.W.nsIn K mainGlobals "_law_differences" = some (some (.ref f_u_law_differences)))
    (l_u_law_differences : K.lookup f_u_law_differences = some ⟨oc_u_law_differences, od_u_law_differences, .func (PySem.W.fnOf "_law_differences" "_law_differences" (defArgs st_u_law_differences) (defBody st_u_law_differences) (defScope st_u_law_differences) .none kV_u_law_differences dc_u_law_differences pm_u_law_differences an_u_law_differences cd_u_law_differences ct_u_law_differences), sl_u_law_differences⟩)
    (c_u_law_differences : PySem.W.codeIn K cd_u_law_differences "_law_differences" = true)
    (k_u_law_differences : PySem.W.keepIn K (.ref f_u_law_differences) = true)
    (a_u_law_refused : PySem.W.nsIn K mainGlobals "_law_refused" = some (some (.ref f_u_law_refused)))
    (l_u_law_refused : K.lookup f_u_law_refused = some ⟨oc_u_law_refused, od_u_law_refused, .func (PySem.W.fnOf "_law_refused" "_law_refused" (defArgs st_u_law_refused) (defBody st_u_law_refused) (defScope st_u_law_refused) .none kV_u_law_refused dc_u_law_refused pm_u_law_refused an_u_law_refused cd_u_law_refused ct_u_law_refused), sl_u_law_refused⟩)
    (c_u_law_refused : PySem.W.codeIn K cd_u_law_refused "_law_refused" = true)
    (k_u_law_refused : PySem.W.keepIn K (.ref f_u_law_refused) = true)
    (a_Board_even : PySem.W.findIn K (.ref C_Board) "even" = some (some (.ref f_Board_even)))
    (i_Board_even : PySem.W.isFn K (.ref f_Board_even) = true)
    (l_Board_even : K.lookup f_Board_even = some ⟨oc_Board_even, od_Board_even, .func (PySem.W.fnOf "even" "Board.even" (defArgs st_Board_even) (defBody st_Board_even) (defScope st_Board_even) .none kV_Board_even dc_Board_even pm_Board_even an_Board_even cd_Board_even ct_Board_even), sl_Board_even⟩)
    (c_Board_even : PySem.W.codeIn K cd_Board_even "Board.even" = true)
    (k_Board_even : PySem.W.keepIn K (.ref f_Board_even) = true)
    (a_u_law_is_quotient : PySem.W.nsIn K mainGlobals "_law_is_quotient" = some (some (.ref f_u_law_is_quotient)))
    (l_u_law_is_quotient : K.lookup f_u_law_is_quotient = some ⟨oc_u_law_is_quotient, od_u_law_is_quotient, .func (PySem.W.fnOf "_law_is_quotient" "_law_is_quotient" (defArgs st_u_law_is_quotient) (defBody st_u_law_is_quotient) (defScope st_u_law_is_quotient) .none kV_u_law_is_quotient dc_u_law_is_quotient pm_u_law_is_quotient an_u_law_is_quotient cd_u_law_is_quotient ct_u_law_is_quotient), sl_u_law_is_quotient⟩)
    (c_u_law_is_quotient : PySem.W.codeIn K cd_u_law_is_quotient "_law_is_quotient" = true)
    (k_u_law_is_quotient : PySem.W.keepIn K (.ref f_u_law_is_quotient) = true)
    (a_u_law_is_flat : PySem.W.nsIn K mainGlobals "_law_is_flat" = some (some (.ref f_u_law_is_flat)))
    (l_u_law_is_flat : K.lookup f_u_law_is_flat = some ⟨oc_u_law_is_flat, od_u_law_is_flat, .func (PySem.W.fnOf "_law_is_flat" "_law_is_flat" (defArgs st_u_law_is_flat) (defBody st_u_law_is_flat) (defScope st_u_law_is_flat) .none kV_u_law_is_flat dc_u_law_is_flat pm_u_law_is_flat an_u_law_is_flat cd_u_law_is_flat ct_u_law_is_flat), sl_u_law_is_flat⟩)
    (c_u_law_is_flat : PySem.W.codeIn K cd_u_law_is_flat "_law_is_flat" = true)
    (k_u_law_is_flat : PySem.W.keepIn K (.ref f_u_law_is_flat) = true)
    (a_common_divisor : PySem.W.nsIn K mainGlobals "common_divisor" = some (some (.ref f_common_divisor)))
    (l_common_divisor : K.lookup f_common_divisor = some ⟨oc_common_divisor, od_common_divisor, .func (PySem.W.fnOf "common_divisor" "common_divisor" (defArgs st_common_divisor) (defBody st_common_divisor) (defScope st_common_divisor) .none kV_common_divisor dc_common_divisor pm_common_divisor an_common_divisor cd_common_divisor ct_common_divisor), sl_common_divisor⟩)
    (c_common_divisor : PySem.W.codeIn K cd_common_divisor "common_divisor" = true)
    (k_common_divisor : PySem.W.keepIn K (.ref f_common_divisor) = true)
    (a_is_quotient : PySem.W.nsIn K mainGlobals "is_quotient" = some (some (.ref f_is_quotient)))
    (l_is_quotient : K.lookup f_is_quotient = some ⟨oc_is_quotient, od_is_quotient, .func (PySem.W.fnOf "is_quotient" "is_quotient" (defArgs st_is_quotient) (defBody st_is_quotient) (defScope st_is_quotient) .none kV_is_quotient dc_is_quotient pm_is_quotient an_is_quotient cd_is_quotient ct_is_quotient), sl_is_quotient⟩)
    (c_is_quotient : PySem.W.codeIn K cd_is_quotient "is_quotient" = true)
    (k_is_quotient : PySem.W.keepIn K (.ref f_is_quotient) = true)
    (a_are_quotients : PySem.W.nsIn K mainGlobals "are_quotients" = some (some (.ref f_are_quotients)))
    (l_are_quotients : K.lookup f_are_quotients = some ⟨oc_are_quotients, od_are_quotients, .func (PySem.W.fnOf "are_quotients" "are_quotients" (defArgs st_are_quotients) (defBody st_are_quotients) (defScope st_are_quotients) .none kV_are_quotients dc_are_quotients pm_are_quotients an_are_quotients cd_are_quotients ct_are_quotients), sl_are_quotients⟩)
    (c_are_quotients : PySem.W.codeIn K cd_are_quotients "are_quotients" = true)
    (k_are_quotients : PySem.W.keepIn K (.ref f_are_quotients) = true)
    (a_others_counts : PySem.W.nsIn K mainGlobals "others_counts" = some (some (.ref f_others_counts)))
    (l_others_counts : K.lookup f_others_counts = some ⟨oc_others_counts, od_others_counts, .func (PySem.W.fnOf "others_counts" "others_counts" (defArgs st_others_counts) (defBody st_others_counts) (defScope st_others_counts) .none kV_others_counts dc_others_counts pm_others_counts an_others_counts cd_others_counts ct_others_counts), sl_others_counts⟩)
    (c_others_counts : PySem.W.codeIn K cd_others_counts "others_counts" = true)
    (k_others_counts : PySem.W.keepIn K (.ref f_others_counts) = true)
    (a_is_tables : PySem.W.nsIn K mainGlobals "is_tables" = some (some (.ref f_is_tables)))
    (l_is_tables : K.lookup f_is_tables = some ⟨oc_is_tables, od_is_tables, .func (PySem.W.fnOf "is_tables" "is_tables" (defArgs st_is_tables) (defBody st_is_tables) (defScope st_is_tables) .none kV_is_tables dc_is_tables pm_is_tables an_is_tables cd_is_tables ct_is_tables), sl_is_tables⟩)
    (c_is_tables : PySem.W.codeIn K cd_is_tables "is_tables" = true)
    (k_is_tables : PySem.W.keepIn K (.ref f_is_tables) = true)
    (a_choices_by_place : PySem.W.nsIn K mainGlobals "choices_by_place" = some (some (.ref f_choices_by_place)))
    (l_choices_by_place : K.lookup f_choices_by_place = some ⟨oc_choices_by_place, od_choices_by_place, .func (PySem.W.fnOf "choices_by_place" "choices_by_place" (defArgs st_choices_by_place) (defBody st_choices_by_place) (defScope st_choices_by_place) .none kV_choices_by_place dc_choices_by_place pm_choices_by_place an_choices_by_place cd_choices_by_place ct_choices_by_place), sl_choices_by_place⟩)
    (c_choices_by_place : PySem.W.codeIn K cd_choices_by_place "choices_by_place" = true)
    (k_choices_by_place : PySem.W.keepIn K (.ref f_choices_by_place) = true)
    (a_u_lowest_terms : PySem.W.nsIn K mainGlobals "_lowest_terms" = some (some (.ref f_u_lowest_terms)))
    (l_u_lowest_terms : K.lookup f_u_lowest_terms = some ⟨oc_u_lowest_terms, od_u_lowest_terms, .func (PySem.W.fnOf "_lowest_terms" "_lowest_terms" (defArgs st_u_lowest_terms) (defBody st_u_lowest_terms) (defScope st_u_lowest_terms) .none kV_u_lowest_terms dc_u_lowest_terms pm_u_lowest_terms an_u_lowest_terms cd_u_lowest_terms ct_u_lowest_terms), sl_u_lowest_terms⟩)
    (c_u_lowest_terms : PySem.W.codeIn K cd_u_lowest_terms "_lowest_terms" = true)
    (k_u_lowest_terms : PySem.W.keepIn K (.ref f_u_lowest_terms) = true)
    (a_quotient_of : PySem.W.nsIn K mainGlobals "quotient_of" = some (some (.ref f_quotient_of)))
    (l_quotient_of : K.lookup f_quotient_of = some ⟨oc_quotient_of, od_quotient_of, .func (PySem.W.fnOf "quotient_of" "quotient_of" (defArgs st_quotient_of) (defBody st_quotient_of) (defScope st_quotient_of) .none kV_quotient_of dc_quotient_of pm_quotient_of an_quotient_of cd_quotient_of ct_quotient_of), sl_quotient_of⟩)
    (c_quotient_of : PySem.W.codeIn K cd_quotient_of "quotient_of" = true)
    (k_quotient_of : PySem.W.keepIn K (.ref f_quotient_of) = true)
    (a_quotient_sum : PySem.W.nsIn K mainGlobals "quotient_sum" = some (some (.ref f_quotient_sum)))
    (l_quotient_sum : K.lookup f_quotient_sum = some ⟨oc_quotient_sum, od_quotient_sum, .func (PySem.W.fnOf "quotient_sum" "quotient_sum" (defArgs st_quotient_sum) (defBody st_quotient_sum) (defScope st_quotient_sum) .none kV_quotient_sum dc_quotient_sum pm_quotient_sum an_quotient_sum cd_quotient_sum ct_quotient_sum), sl_quotient_sum⟩)
    (c_quotient_sum : PySem.W.codeIn K cd_quotient_sum "quotient_sum" = true)
    (k_quotient_sum : PySem.W.keepIn K (.ref f_quotient_sum) = true)
    (a_till_list : PySem.W.nsIn K mainGlobals "till_list" = some (some (.ref f_till_list)))
    (l_till_list : K.lookup f_till_list = some ⟨oc_till_list, od_till_list, .func (PySem.W.fnOf "till_list" "till_list" (defArgs st_till_list) (defBody st_till_list) (defScope st_till_list) .none kV_till_list dc_till_list pm_till_list an_till_list cd_till_list ct_till_list), sl_till_list⟩)
    (c_till_list : PySem.W.codeIn K cd_till_list "till_list" = true)
    (k_till_list : PySem.W.keepIn K (.ref f_till_list) = true)
    (a_till_row : PySem.W.nsIn K mainGlobals "till_row" = some (some (.ref f_till_row)))
    (l_till_row : K.lookup f_till_row = some ⟨oc_till_row, od_till_row, .func (PySem.W.fnOf "till_row" "till_row" (defArgs st_till_row) (defBody st_till_row) (defScope st_till_row) .none kV_till_row dc_till_row pm_till_row an_till_row cd_till_row ct_till_row), sl_till_row⟩)
    (c_till_row : PySem.W.codeIn K cd_till_row "till_row" = true)
    (k_till_row : PySem.W.keepIn K (.ref f_till_row) = true)
    (a_is_under : PySem.W.nsIn K mainGlobals "is_under" = some (some (.ref f_is_under)))
    (l_is_under : K.lookup f_is_under = some ⟨oc_is_under, od_is_under, .func (PySem.W.fnOf "is_under" "is_under" (defArgs st_is_under) (defBody st_is_under) (defScope st_is_under) .none kV_is_under dc_is_under pm_is_under an_is_under cd_is_under ct_is_under), sl_is_under⟩)
    (c_is_under : PySem.W.codeIn K cd_is_under "is_under" = true)
    (k_is_under : PySem.W.keepIn K (.ref f_is_under) = true)
    (a_ends_of_quotients : PySem.W.nsIn K mainGlobals "ends_of_quotients" = some (some (.ref f_ends_of_quotients)))
    (l_ends_of_quotients : K.lookup f_ends_of_quotients = some ⟨oc_ends_of_quotients, od_ends_of_quotients, .func (PySem.W.fnOf "ends_of_quotients" "ends_of_quotients" (defArgs st_ends_of_quotients) (defBody st_ends_of_quotients) (defScope st_ends_of_quotients) .none kV_ends_of_quotients dc_ends_of_quotients pm_ends_of_quotients an_ends_of_quotients cd_ends_of_quotients ct_ends_of_quotients), sl_ends_of_quotients⟩)
    (c_ends_of_quotients : PySem.W.codeIn K cd_ends_of_quotients "ends_of_quotients" = true)
    (k_ends_of_quotients : PySem.W.keepIn K (.ref f_ends_of_quotients) = true)
    (a_u_need_quotients : PySem.W.nsIn K mainGlobals "_need_quotients" = some (some (.ref f_u_need_quotients)))
    (l_u_need_quotients : K.lookup f_u_need_quotients = some ⟨oc_u_need_quotients, od_u_need_quotients, .func (PySem.W.fnOf "_need_quotients" "_need_quotients" (defArgs st_u_need_quotients) (defBody st_u_need_quotients) (defScope st_u_need_quotients) .none kV_u_need_quotients dc_u_need_quotients pm_u_need_quotients an_u_need_quotients cd_u_need_quotients ct_u_need_quotients), sl_u_need_quotients⟩)
    (c_u_need_quotients : PySem.W.codeIn K cd_u_need_quotients "_need_quotients" = true)
    (k_u_need_quotients : PySem.W.keepIn K (.ref f_u_need_quotients) = true)
    (a_minus : PySem.W.nsIn K mainGlobals "minus" = some (some (.ref f_minus)))
    (l_minus : K.lookup f_minus = some ⟨oc_minus, od_minus, .func (PySem.W.fnOf "minus" "minus" (defArgs st_minus) (defBody st_minus) (defScope st_minus) .none kV_minus dc_minus pm_minus an_minus cd_minus ct_minus), sl_minus⟩)
    (c_minus : PySem.W.codeIn K cd_minus "minus" = true)
    (k_minus : PySem.W.keepIn K (.ref f_minus) = true)
    (a_till_span : PySem.W.nsIn K mainGlobals "till_span" = some (some (.ref f_till_span)))
    (l_till_span : K.lookup f_till_span = some ⟨oc_till_span, od_till_span, .func (PySem.W.fnOf "till_span" "till_span" (defArgs st_till_span) (defBody st_till_span) (defScope st_till_span) .none kV_till_span dc_till_span pm_till_span an_till_span cd_till_span ct_till_span), sl_till_span⟩)
    (c_till_span : PySem.W.codeIn K cd_till_span "till_span" = true)
    (k_till_span : PySem.W.keepIn K (.ref f_till_span) = true)
    (a_law : PySem.W.nsIn K mainGlobals "law" = some (some (.ref f_law)))
    (l_law : K.lookup f_law = some ⟨oc_law, od_law, .func (PySem.W.fnOf "law" "law" (defArgs st_law) (defBody st_law) (defScope st_law) .none kV_law dc_law pm_law an_law cd_law ct_law), sl_law⟩)
    (c_law : PySem.W.codeIn K cd_law "law" = true)
    (k_law : PySem.W.keepIn K (.ref f_law) = true)
    (a_NotUsable_init : PySem.W.findIn K (.ref C_NotUsable) "__init__" = some (some (.ref f_NotUsable_init)))
    (t_NotUsable_init : PySem.W.typeIn K (.ref f_NotUsable_init) = some (.type "function"))
    (l_NotUsable_init : K.lookup f_NotUsable_init = some ⟨oc_NotUsable_init, od_NotUsable_init, .func (PySem.W.fnOf "__init__" "NotUsable.__init__" (defArgs st_NotUsable_init) (defBody st_NotUsable_init) (defScope st_NotUsable_init) .none kV_NotUsable_init dc_NotUsable_init pm_NotUsable_init an_NotUsable_init cd_NotUsable_init ct_NotUsable_init), sl_NotUsable_init⟩)
    (c_NotUsable_init : PySem.W.codeIn K cd_NotUsable_init "NotUsable.__init__" = true)
    (k_NotUsable_init : PySem.W.keepIn K (.ref f_NotUsable_init) = true)
    (a_Uneven_init : PySem.W.findIn K (.ref C_Uneven) "__init__" = some (some (.ref f_Uneven_init)))
    (t_Uneven_init : PySem.W.typeIn K (.ref f_Uneven_init) = some (.type "function"))
    (l_Uneven_init : K.lookup f_Uneven_init = some ⟨oc_Uneven_init, od_Uneven_init, .func (PySem.W.fnOf "__init__" "Uneven.__init__" (defArgs st_Uneven_init) (defBody st_Uneven_init) (defScope st_Uneven_init) .none kV_Uneven_init dc_Uneven_init pm_Uneven_init an_Uneven_init cd_Uneven_init ct_Uneven_init), sl_Uneven_init⟩)
    (c_Uneven_init : PySem.W.codeIn K cd_Uneven_init "Uneven.__init__" = true)
    (k_Uneven_init : PySem.W.keepIn K (.ref f_Uneven_init) = true)
    (sa_NotUsable : PySem.W.findIn K (.ref C_NotUsable) "__setattr__" = some (some (.builtin "object.__setattr__")))
    (ga_NotUsable : PySem.W.findIn K (.ref C_NotUsable) "__getattribute__" = some (some (.builtin "BaseException.__getattribute__")))
    (gg_NotUsable : PySem.W.findIn K (.ref C_NotUsable) "__getattr__" = some none)
    (n_NotUsable_word : PySem.W.findIn K (.ref C_NotUsable) "word" = some none)
    (n_NotUsable_at : PySem.W.findIn K (.ref C_NotUsable) "at" = some none)
    (kC_NotUsable : PySem.W.keepIn K (.ref C_NotUsable) = true)
    (eC_NotUsable : PySem.W.subIn K (.ref C_NotUsable) (.type "BaseException") = some true)
    (tC_NotUsable : PySem.W.typeIn K (.ref C_NotUsable) = some (.type "type"))
    (hC_NotUsable : PySem.W.hasDictIn K C_NotUsable = true)
    (iC_NotUsable : PySem.W.isClsIn K C_NotUsable = true)
    (s_NotUsable_NotUsable : PySem.W.subIn K (.ref C_NotUsable) (.ref C_NotUsable) = some true)
    (s_Uneven_NotUsable : PySem.W.subIn K (.ref C_Uneven) (.ref C_NotUsable) = some false)
    (sa_Uneven : PySem.W.findIn K (.ref C_Uneven) "__setattr__" = some (some (.builtin "object.__setattr__")))
    (ga_Uneven : PySem.W.findIn K (.ref C_Uneven) "__getattribute__" = some (some (.builtin "BaseException.__getattribute__")))
    (gg_Uneven : PySem.W.findIn K (.ref C_Uneven) "__getattr__" = some none)
    (n_Uneven_place : PySem.W.findIn K (.ref C_Uneven) "place" = some none)
    (kC_Uneven : PySem.W.keepIn K (.ref C_Uneven) = true)
    (eC_Uneven : PySem.W.subIn K (.ref C_Uneven) (.type "BaseException") = some true)
    (tC_Uneven : PySem.W.typeIn K (.ref C_Uneven) = some (.type "type"))
    (hC_Uneven : PySem.W.hasDictIn K C_Uneven = true)
    (iC_Uneven : PySem.W.isClsIn K C_Uneven = true)
    (s_NotUsable_Uneven : PySem.W.subIn K (.ref C_NotUsable) (.ref C_Uneven) = some false)
    (s_Uneven_Uneven : PySem.W.subIn K (.ref C_Uneven) (.ref C_Uneven) = some true)
    (pg_Board : PySem.W.plainGet K C_Board Str.empty = true)
    (hd_Board : PySem.W.hasDictIn K C_Board = true)
    (po_Board : PySem.W.plainOver K C_Board = true)
    (sa_Board : PySem.W.findIn K (.ref C_Board) "__setattr__" = some (some (.builtin "object.__setattr__")))
    (mk_Board : PySem.W.makesIn K C_Board = true)
    (kc_Board : PySem.W.keepIn K (.ref C_Board) = true)
    (n_Board_u_pair : PySem.W.findIn K (.ref C_Board) "_pair" = some none)
    (z_abs : PySem.W.nsIn K mainGlobals "abs" = some none)
    (z_bool : PySem.W.nsIn K mainGlobals "bool" = some none)
    (z_enumerate : PySem.W.nsIn K mainGlobals "enumerate" = some none)
    (z_int : PySem.W.nsIn K mainGlobals "int" = some none)
    (z_isinstance : PySem.W.nsIn K mainGlobals "isinstance" = some none)
    (z_len : PySem.W.nsIn K mainGlobals "len" = some none)
    (z_list : PySem.W.nsIn K mainGlobals "list" = some none)
    (z_range : PySem.W.nsIn K mainGlobals "range" = some none)
    (z_str : PySem.W.nsIn K mainGlobals "str" = some none)
    (z_sum : PySem.W.nsIn K mainGlobals "sum" = some none)
    (z_tuple : PySem.W.nsIn K mainGlobals "tuple" = some none)
    (z_zip : PySem.W.nsIn K mainGlobals "zip" = some none) :
    ∃ fd : FuncData, (∀ (s : Shared) (u : Value), BindsTo s fd ⟨[u], []⟩ [("_law_script", u)]) ∧ ∀ base : Heap, K.In base → base.Ns mainGlobals mg → FnOk P w K mg base (L2.CX P w) 9 fa fd ["_law_script"] (spLaw K) := by
  have e := hfa.symm.trans (PySem.W.mg_of X G a_law)
  cases e
  obtain ⟨ad, fdt, cx, e1, e2, T⟩ := tx_mk X G aC_NotUsable xL_NotUsable aC_Uneven xL_Uneven aC_Board a_u_law_deal l_u_law_deal c_u_law_deal k_u_law_deal a_u_law_pick l_u_law_pick c_u_law_pick k_u_law_pick a_u_law_counts l_u_law_counts c_u_law_counts k_u_law_counts a_u_law_places l_u_law_places c_u_law_places k_u_law_places a_u_law_choice l_u_law_choice c_u_law_choice k_u_law_choice a_u_law_board l_u_law_board c_u_law_board k_u_law_board a_u_law_at l_u_law_at c_u_law_at k_u_law_at a_u_law_mixed l_u_law_mixed c_u_law_mixed k_u_law_mixed a_u_law_uneven l_u_law_uneven c_u_law_uneven k_u_law_uneven a_board_size l_board_size c_board_size k_board_size a_firsts_by_place l_firsts_by_place c_firsts_by_place k_firsts_by_place a_flattened l_flattened c_flattened k_flattened a_row_tuples l_row_tuples c_row_tuples k_row_tuples a_uneven_place l_uneven_place c_uneven_place k_uneven_place a_flat_tables l_flat_tables c_flat_tables k_flat_tables a_u_law_flat l_u_law_flat c_u_law_flat k_u_law_flat a_u_law_integer l_u_law_integer c_u_law_integer k_u_law_integer a_u_law_same l_u_law_same c_u_law_same k_u_law_same a_is_integer l_is_integer c_is_integer k_is_integer a_are_rows l_are_rows c_are_rows k_are_rows a_mixed_at l_mixed_at c_mixed_at k_mixed_at a_Board_mixed i_Board_mixed l_Board_mixed c_Board_mixed k_Board_mixed a_board_fault l_board_fault c_board_fault k_board_fault a_Board___init__ i_Board___init__ l_Board___init__ c_Board___init__ k_Board___init__ a_u_law_asked l_u_law_asked c_u_law_asked k_u_law_asked a_u_law_differences l_u_law_differences c_u_law_differences k_u_law_differences a_u_law_refused l_u_law_refused c_u_law_refused k_u_law_refused a_Board_even i_Board_even l_Board_even c_Board_even k_Board_even a_u_law_is_quotient l_u_law_is_quotient c_u_law_is_quotient k_u_law_is_quotient a_u_law_is_flat l_u_law_is_flat c_u_law_is_flat k_u_law_is_flat a_common_divisor l_common_divisor c_common_divisor k_common_divisor a_is_quotient l_is_quotient c_is_quotient k_is_quotient a_are_quotients l_are_quotients c_are_quotients k_are_quotients a_others_counts l_others_counts c_others_counts k_others_counts a_is_tables l_is_tables c_is_tables k_is_tables a_choices_by_place l_choices_by_place c_choices_by_place k_choices_by_place a_u_lowest_terms l_u_lowest_terms c_u_lowest_terms k_u_lowest_terms a_quotient_of l_quotient_of c_quotient_of k_quotient_of a_quotient_sum l_quotient_sum c_quotient_sum k_quotient_sum a_till_list l_till_list c_till_list k_till_list a_till_row l_till_row c_till_row k_till_row a_is_under l_is_under c_is_under k_is_under a_ends_of_quotients l_ends_of_quotients c_ends_of_quotients k_ends_of_quotients a_u_need_quotients l_u_need_quotients c_u_need_quotients k_u_need_quotients a_minus l_minus c_minus k_minus a_till_span l_till_span c_till_span k_till_span a_law l_law c_law k_law a_NotUsable_init t_NotUsable_init l_NotUsable_init c_NotUsable_init k_NotUsable_init a_Uneven_init t_Uneven_init l_Uneven_init c_Uneven_init k_Uneven_init sa_NotUsable ga_NotUsable gg_NotUsable n_NotUsable_word n_NotUsable_at kC_NotUsable eC_NotUsable tC_NotUsable hC_NotUsable iC_NotUsable s_NotUsable_NotUsable s_Uneven_NotUsable sa_Uneven ga_Uneven gg_Uneven n_Uneven_place kC_Uneven eC_Uneven tC_Uneven hC_Uneven iC_Uneven s_NotUsable_Uneven s_Uneven_Uneven pg_Board hd_Board po_Board sa_Board mk_Board kc_Board n_Board_u_pair z_abs z_bool z_enumerate z_int z_isinstance z_len z_list z_range z_str z_sum z_tuple z_zip
  have S := fun base : Heap => law_sp (P := P) (w := w) (base := base) T
  rw [e1, e2] at S
  exact ⟨_, fun s u => .of_eq rfl, fun base _ _ => S base⟩
theorem walk {l : PySem.W.OpenLaw} {q : Program} {loose : List Str} {XP : (Str → Option Value) → Heap → Prop} {YP : World → Heap → Prop} {d : DefRec} {K : Params → PySem.W.Frag} (hn : l.most = some 63) (hdf : d.params.defaults = [])
    (hY : ∀ (w : World) (h : Heap), YP w h → (K w.params).In h)
    (F : ∀ (w : World) (mg : Str → Option Value) (fa : Addr) (h : Heap), (K w.params).In h → h.Ns mainGlobals mg → mg d.name = some (.ref fa) →
      ∃ fd : FuncData, (∀ (s : Shared) (u : Value), BindsTo s fd ⟨[u], []⟩ [("_law_script", u)]) ∧ ∀ base : Heap, (K w.params).In base → base.Ns mainGlobals mg → FnOk l.prog w (K w.params) mg base (L2.CX l.prog w) 9 fa fd ["_law_script"] (spLaw (K w.params))) :
    PySem.W.WalkO q loose XP YP l.row.toRowW d [] (fun f vs => PySem.call f vs) :=
  L2.walk_of (n := 63) (k := 9) (x := "_law_script") (CX := fun w => L2.CX l.prog w) (sp := fun w => spLaw (K w.params)) hn (by decide) hdf ⟨rfl, by decide, by decide⟩ hY F (fun _ _ a ns hl _ hS => ⟨a, ns, rfl, hS, hl, fun _ => rfl⟩) fun _ _ _ _ _ z => by
    obtain ⟨_, _, _, _, _, _, _, _, _, _, _, _, z⟩ := z
    exact z
end L26
open PySem PySem.W PyProof.Rows L2 DN L26 in
set_option maxRecDepth 100000 in
set_option maxHeartbeats 0 in
theorem PySem.Challenge.cw_someoneout_k26_whole_mixed_and_flat_holds : PySem.Challenge.rw_someoneout_k26_whole_mixed_and_flat.Holds := by
  w_on; o_law; k_head; (case hw => w_witness2)
  k_fill
  refine L26.walk (l := PySem.Challenge.rw_someoneout_k26_whole_mixed_and_flat) rfl rfl (fun w h Y => PySem.W.kIn_of Y) ?F
  case F =>
    intro w mg fa h KX G hmg
    refine' L26.fin_of KX G hmg ?aC_NotUsable ?xL_NotUsable ?aC_Uneven ?xL_Uneven ?aC_Board ?a_u_law_deal ?l_u_law_deal ?c_u_law_deal ?k_u_law_deal ?a_u_law_pick ?l_u_law_pick ?c_u_law_pick ?k_u_law_pick ?a_u_law_counts ?l_u_law_counts ?c_u_law_counts ?k_u_law_counts ?a_u_law_places ?l_u_law_places ?c_u_law_places ?k_u_law_places ?a_u_law_choice ?l_u_law_choice ?c_u_law_choice ?k_u_law_choice ?a_u_law_board ?l_u_law_board ?c_u_law_board ?k_u_law_board ?a_u_law_at ?l_u_law_at ?c_u_law_at ?k_u_law_at ?a_u_law_mixed ?l_u_law_mixed ?c_u_law_mixed ?k_u_law_mixed ?a_u_law_uneven ?l_u_law_uneven ?c_u_law_uneven ?k_u_law_uneven ?a_board_size ?l_board_size ?c_board_size ?k_board_size ?a_firsts_by_place ?l_firsts_by_place ?c_firsts_by_place ?k_firsts_by_place ?a_flattened ?l_flattened ?c_flattened ?k_flattened ?a_row_tuples ?l_row_tuples ?c_row_tuples ?k_row_tuples ?a_uneven_place ?l_uneven_place ?c_uneven_place ?k_uneven_place ?a_flat_tables ?l_flat_tables ?c_flat_tables ?k_flat_tables ?a_u_law_flat ?l_u_law_flat ?c_u_law_flat ?k_u_law_flat ?a_u_law_integer ?l_u_law_integer ?c_u_law_integer ?k_u_law_integer ?a_u_law_same ?l_u_law_same ?c_u_law_same ?k_u_law_same ?a_is_integer ?l_is_integer ?c_is_integer ?k_is_integer ?a_are_rows ?l_are_rows ?c_are_rows ?k_are_rows ?a_mixed_at ?l_mixed_at ?c_mixed_at ?k_mixed_at ?a_Board_mixed ?i_Board_mixed ?l_Board_mixed ?c_Board_mixed ?k_Board_mixed ?a_board_fault ?l_board_fault ?c_board_fault ?k_board_fault ?a_Board___init__ ?i_Board___init__ ?l_Board___init__ ?c_Board___init__ ?k_Board___init__ ?a_u_law_asked ?l_u_law_asked ?c_u_law_asked ?k_u_law_asked ?a_u_law_differences ?l_u_law_differences ?c_u_law_differences ?k_u_law_differences ?a_u_law_refused ?l_u_law_refused ?c_u_law_refused ?k_u_law_refused ?a_Board_even ?i_Board_even ?l_Board_even ?c_Board_even ?k_Board_even ?a_u_law_is_quotient ?l_u_law_is_quotient ?c_u_law_is_quotient ?k_u_law_is_quotient ?a_u_law_is_flat ?l_u_law_is_flat ?c_u_law_is_flat ?k_u_law_is_flat ?a_common_divisor ?l_common_divisor ?c_common_divisor ?k_common_divisor ?a_is_quotient ?l_is_quotient ?c_is_quotient ?k_is_quotient ?a_are_quotients ?l_are_quotients ?c_are_quotients ?k_are_quotients ?a_others_counts ?l_others_counts ?c_others_counts ?k_others_counts ?a_is_tables ?l_is_tables ?c_is_tables ?k_is_tables ?a_choices_by_place ?l_choices_by_place ?c_choices_by_place ?k_choices_by_place ?a_u_lowest_terms ?l_u_lowest_terms ?c_u_lowest_terms ?k_u_lowest_terms ?a_quotient_of ?l_quotient_of ?c_quotient_of ?k_quotient_of ?a_quotient_sum ?l_quotient_sum ?c_quotient_sum ?k_quotient_sum ?a_till_list ?l_till_list ?c_till_list ?k_till_list ?a_till_row ?l_till_row ?c_till_row ?k_till_row ?a_is_under ?l_is_under ?c_is_under ?k_is_under ?a_ends_of_quotients ?l_ends_of_quotients ?c_ends_of_quotients ?k_ends_of_quotients ?a_u_need_quotients ?l_u_need_quotients ?c_u_need_quotients ?k_u_need_quotients ?a_minus ?l_minus ?c_minus ?k_minus ?a_till_span ?l_till_span ?c_till_span ?k_till_span ?a_law ?l_law ?c_law ?k_law ?a_NotUsable_init ?t_NotUsable_init ?l_NotUsable_init ?c_NotUsable_init ?k_NotUsable_init ?a_Uneven_init ?t_Uneven_init ?l_Uneven_init ?c_Uneven_init ?k_Uneven_init ?sa_NotUsable ?ga_NotUsable ?gg_NotUsable ?n_NotUsable_word ?n_NotUsable_at ?kC_NotUsable ?eC_NotUsable ?tC_NotUsable ?hC_NotUsable ?iC_NotUsable ?s_NotUsable_NotUsable ?s_Uneven_NotUsable ?sa_Uneven ?ga_Uneven ?gg_Uneven ?n_Uneven_place ?kC_Uneven ?eC_Uneven ?tC_Uneven ?hC_Uneven ?iC_Uneven ?s_NotUsable_Uneven ?s_Uneven_Uneven ?pg_Board ?hd_Board ?po_Board ?sa_Board ?mk_Board ?kc_Board ?n_Board_u_pair ?z_abs ?z_bool ?z_enumerate ?z_int ?z_isinstance ?z_len ?z_list ?z_range ?z_str ?z_sum ?z_tuple ?z_zip
    (case aC_NotUsable => k_is)
    (case xL_NotUsable => k_is)
    (case aC_Uneven => k_is)
    (case xL_Uneven => k_is)
    (case aC_Board => k_is)
    (case a_u_law_deal => k_is)
    (case l_u_law_deal => k_is)
    (case c_u_law_deal => k_is)
    (case k_u_law_deal => k_is)
    (case a_u_law_pick => k_is)
    (case l_u_law_pick => k_is)
    (case c_u_law_pick => k_is)
    (case k_u_law_pick => k_is)
    (case a_u_law_counts => k_is)
    (case l_u_law_counts => k_is)
    (case c_u_law_counts => k_is)
    (case k_u_law_counts => k_is)
    (case a_u_law_places => k_is)
    (case l_u_law_places => k_is)
    (case c_u_law_places => k_is)
    (case k_u_law_places => k_is)
    (case a_u_law_choice => k_is)
    (case l_u_law_choice => k_is)
    (case c_u_law_choice => k_is)
    (case k_u_law_choice => k_is)
    (case a_u_law_board => k_is)
    (case l_u_law_board => k_is)
    (case c_u_law_board => k_is)
    (case k_u_law_board => k_is)
    (case a_u_law_at => k_is)
    (case l_u_law_at => k_is)
    (case c_u_law_at => k_is)
    (case k_u_law_at => k_is)
    (case a_u_law_mixed => k_is)
    (case l_u_law_mixed => k_is)
    (case c_u_law_mixed => k_is)
    (case k_u_law_mixed => k_is)
    (case a_u_law_uneven => k_is)
    (case l_u_law_uneven => k_is)
    (case c_u_law_uneven => k_is)
    (case k_u_law_uneven => k_is)
    (case a_board_size => k_is)
    (case l_board_size => k_is)
    (case c_board_size => k_is)
    (case k_board_size => k_is)
    (case a_firsts_by_place => k_is)
    (case l_firsts_by_place => k_is)
    (case c_firsts_by_place => k_is)
    (case k_firsts_by_place => k_is)
    (case a_flattened => k_is)
    (case l_flattened => k_is)
    (case c_flattened => k_is)
    (case k_flattened => k_is)
    (case a_row_tuples => k_is)
    (case l_row_tuples => k_is)
    (case c_row_tuples => k_is)
    (case k_row_tuples => k_is)
    (case a_uneven_place => k_is)
    (case l_uneven_place => k_is)
    (case c_uneven_place => k_is)
    (case k_uneven_place => k_is)
    (case a_flat_tables => k_is)
    (case l_flat_tables => k_is)
    (case c_flat_tables => k_is)
    (case k_flat_tables => k_is)
    (case a_u_law_flat => k_is)
    (case l_u_law_flat => k_is)
    (case c_u_law_flat => k_is)
    (case k_u_law_flat => k_is)
    (case a_u_law_integer => k_is)
    (case l_u_law_integer => k_is)
    (case c_u_law_integer => k_is)
    (case k_u_law_integer => k_is)
    (case a_u_law_same => k_is)
    (case l_u_law_same => k_is)
    (case c_u_law_same => k_is)
    (case k_u_law_same => k_is)
    (case a_is_integer => k_is)
    (case l_is_integer => k_is)
    (case c_is_integer => k_is)
    (case k_is_integer => k_is)
    (case a_are_rows => k_is)
    (case l_are_rows => k_is)
    (case c_are_rows => k_is)
    (case k_are_rows => k_is)
    (case a_mixed_at => k_is)
    (case l_mixed_at => k_is)
    (case c_mixed_at => k_is)
    (case k_mixed_at => k_is)
    (case a_Board_mixed => k_is)
    (case i_Board_mixed => k_is)
    (case l_Board_mixed => k_is)
    (case c_Board_mixed => k_is)
    (case k_Board_mixed => k_is)
    (case a_board_fault => k_is)
    (case l_board_fault => k_is)
    (case c_board_fault => k_is)
    (case k_board_fault => k_is)
    (case a_Board___init__ => k_is)
    (case i_Board___init__ => k_is)
    (case l_Board___init__ => k_is)
    (case c_Board___init__ => k_is)
    (case k_Board___init__ => k_is)
    (case a_u_law_asked => k_is)
    (case l_u_law_asked => k_is)
    (case c_u_law_asked => k_is)
    (case k_u_law_asked => k_is)
    (case a_u_law_differences => k_is)
    (case l_u_law_differences => k_is)
    (case c_u_law_differences => k_is)
    (case k_u_law_differences => k_is)
    (case a_u_law_refused => k_is)
    (case l_u_law_refused => k_is)
    (case c_u_law_refused => k_is)
    (case k_u_law_refused => k_is)
    (case a_Board_even => k_is)
    (case i_Board_even => k_is)
    (case l_Board_even => k_is)
    (case c_Board_even => k_is)
    (case k_Board_even => k_is)
    (case a_u_law_is_quotient => k_is)
    (case l_u_law_is_quotient => k_is)
    (case c_u_law_is_quotient => k_is)
    (case k_u_law_is_quotient => k_is)
    (case a_u_law_is_flat => k_is)
    (case l_u_law_is_flat => k_is)
    (case c_u_law_is_flat => k_is)
    (case k_u_law_is_flat => k_is)
    (case a_common_divisor => k_is)
    (case l_common_divisor => k_is)
    (case c_common_divisor => k_is)
    (case k_common_divisor => k_is)
    (case a_is_quotient => k_is)
    (case l_is_quotient => k_is)
    (case c_is_quotient => k_is)
    (case k_is_quotient => k_is)
    (case a_are_quotients => k_is)
    (case l_are_quotients => k_is)
    (case c_are_quotients => k_is)
    (case k_are_quotients => k_is)
    (case a_others_counts => k_is)
    (case l_others_counts => k_is)
    (case c_others_counts => k_is)
    (case k_others_counts => k_is)
    (case a_is_tables => k_is)
    (case l_is_tables => k_is)
    (case c_is_tables => k_is)
    (case k_is_tables => k_is)
    (case a_choices_by_place => k_is)
    (case l_choices_by_place => k_is)
    (case c_choices_by_place => k_is)
    (case k_choices_by_place => k_is)
    (case a_u_lowest_terms => k_is)
    (case l_u_lowest_terms => k_is)
    (case c_u_lowest_terms => k_is)
    (case k_u_lowest_terms => k_is)
    (case a_quotient_of => k_is)
    (case l_quotient_of => k_is)
    (case c_quotient_of => k_is)
    (case k_quotient_of => k_is)
    (case a_quotient_sum => k_is)
    (case l_quotient_sum => k_is)
    (case c_quotient_sum => k_is)
    (case k_quotient_sum => k_is)
    (case a_till_list => k_is)
    (case l_till_list => k_is)
    (case c_till_list => k_is)
    (case k_till_list => k_is)
    (case a_till_row => k_is)
    (case l_till_row => k_is)
    (case c_till_row => k_is)
    (case k_till_row => k_is)
    (case a_is_under => k_is)
    (case l_is_under => k_is)
    (case c_is_under => k_is)
    (case k_is_under => k_is)
    (case a_ends_of_quotients => k_is)
    (case l_ends_of_quotients => k_is)
    (case c_ends_of_quotients => k_is)
    (case k_ends_of_quotients => k_is)
    (case a_u_need_quotients => k_is)
    (case l_u_need_quotients => k_is)
    (case c_u_need_quotients => k_is)
    (case k_u_need_quotients => k_is)
    (case a_minus => k_is)
    (case l_minus => k_is)
    (case c_minus => k_is)
    (case k_minus => k_is)
    (case a_till_span => k_is)
    (case l_till_span => k_is)
    (case c_till_span => k_is)
    (case k_till_span => k_is)
    (case a_law => k_is)
    (case l_law => k_is)
    (case c_law => k_is)
    (case k_law => k_is)
    (case a_NotUsable_init => k_is)
    (case t_NotUsable_init => k_is)
    (case l_NotUsable_init => k_is)
    (case c_NotUsable_init => k_is)
    (case k_NotUsable_init => k_is)
    (case a_Uneven_init => k_is)
    (case t_Uneven_init => k_is)
    (case l_Uneven_init => k_is)
    (case c_Uneven_init => k_is)
    (case k_Uneven_init => k_is)
    (case sa_NotUsable => k_is)
    (case ga_NotUsable => k_is)
    (case gg_NotUsable => k_is)
    (case n_NotUsable_word => k_is)
    (case n_NotUsable_at => k_is)
    (case kC_NotUsable => k_is)
    (case eC_NotUsable => k_is)
    (case tC_NotUsable => k_is)
    (case hC_NotUsable => k_is)
    (case iC_NotUsable => k_is)
    (case s_NotUsable_NotUsable => k_is)
    (case s_Uneven_NotUsable => k_is)
    (case sa_Uneven => k_is)
    (case ga_Uneven => k_is)
    (case gg_Uneven => k_is)
    (case n_Uneven_place => k_is)
    (case kC_Uneven => k_is)
    (case eC_Uneven => k_is)
    (case tC_Uneven => k_is)
    (case hC_Uneven => k_is)
    (case iC_Uneven => k_is)
    (case s_NotUsable_Uneven => k_is)
    (case s_Uneven_Uneven => k_is)
    (case pg_Board => k_is)
    (case hd_Board => k_is)
    (case po_Board => k_is)
    (case sa_Board => k_is)
    (case mk_Board => k_is)
    (case kc_Board => k_is)
    (case n_Board_u_pair => k_is)
    (case z_abs => k_is)
    (case z_bool => k_is)
    (case z_enumerate => k_is)
    (case z_int => k_is)
    (case z_isinstance => k_is)
    (case z_len => k_is)
    (case z_list => k_is)
    (case z_range => k_is)
    (case z_str => k_is)
    (case z_sum => k_is)
    (case z_tuple => k_is)
    (case z_zip => k_is)
#print axioms PySem.Challenge.cw_someoneout_k26_whole_mixed_and_flat_holds
