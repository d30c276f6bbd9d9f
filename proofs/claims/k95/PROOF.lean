import PyProof.Rows.All
import Wide.All
import OpenK.AllK
import Wide.FinOn
import HandS.ForMost
import HandS.ForExc
import HandS.CallSlots
import HandS.TryMany
import HandS.Walk
import HandS.Evl
import HandS.TupAny
import HandS.Zip
import HandS.Deep
import HandS.Wide
import HandS.SortInts
import HandS.IsInst
import HandS.TupMul
import HandS.ExcIs
import HandS.Style
import KE.KDictSum
import HandS.ExcValue
import HandS.Iter
import HandS.SetFor
import PySem.Challenge.RW_sandwright_k95_whole_siphons
set_option Elab.async false
set_option linter.all false
set_option maxRecDepth 100000
set_option maxHeartbeats 4100000
/-! DLa -/
namespace DL
open PySem L2 PySem.Spec PyProof.Rows
open Evl (Ex ex_l ex_t ex_rd)

abbrev D := PyData
/-- a key as data -/
def kD : Key → D
  | .inl i => .int i
  | .inr x => .str x
mutual
inductive Da (K : PySem.W.Frag) (H : Hp) : V → D → Prop
  | non : Da K H .non .none
  | bl (b : Bool) : Da K H (.bl b) (.bool b)
  | int (i : Int) : Da K H (.int i) (.int i)
  | str (x : Str) : Da K H (.str x) (.str x)
  | lst {a : Addr} {xs : List V} {ds : List D} : H a = some (.lst xs) → DaAll K H xs ds → Da K H (.ref a) (.list ds)
  | tup {a : Addr} {xs : List V} {ds : List D} : SqT K H a xs → DaAll K H xs ds → Da K H (.ref a) (.tuple ds)
  /-- the script -/
  | scr {a : Addr} {ns : List Int} : SqL K H a (ns.map V.int) → Da K H (.ref a) (.dict (ns.map fun n => (.int n, .none)))
  /-- a dict: its row begins with a mark -/
  | dct {a : Addr} {kvs : List (Key × V)} {ks : List (Key × D)} {rs : List (D × D)} : H a = some (.dK kvs) → DKs K H kvs ks → rs = (.none, .none) :: ks.map (fun q => (kD q.1, q.2)) → Da K H (.ref a) (.dict rs)
inductive DaAll (K : PySem.W.Frag) (H : Hp) : List V → List D → Prop
  | nil : DaAll K H [] []
  | cons {v : V} {vs : List V} {d : D} {ds : List D} : Da K H v d → DaAll K H vs ds → DaAll K H (v :: vs) (d :: ds)
inductive DKs (K : PySem.W.Frag) (H : Hp) : List (Key × V) → List (Key × D) → Prop
  | nil : DKs K H [] []
  | cons {k : Key} {v : V} {vs : List (Key × V)} {d : D} {ds : List (Key × D)} : Da K H v d → DKs K H vs ds → DKs K H ((k, v) :: vs) ((k, d) :: ds)
end
abbrev dcD (ks : List (Key × D)) : D := .dict ((.none, .none) :: ks.map fun q => (kD q.1, q.2))
abbrev scrD (ns : List Int) : D := .dict (ns.map fun n => (.int n, .none))
/-! ### data on an abstract heap stays -/
section
variable {K : PySem.W.Frag} {H H' : Hp} {v : V} {d : D} {vs : List V} {ds : List D}
theorem Da.up (h : Da K H v d) (e : Ex H H') : Da K H' v d :=
  Da.rec (motive_1 := fun v d _ => Da K H' v d) (motive_2 := fun vs ds _ => DaAll K H' vs ds) (motive_3 := fun vs ds _ => DKs K H' vs ds)
    .non .bl .int .str (fun a _ i => .lst (e _ _ a) i) (fun a _ i => .tup (ex_t e a) i) (fun a => .scr (ex_l e a)) (fun a _ c i => .dct (e _ _ a) i c) .nil (fun _ _ i j => .cons i j) .nil (fun _ _ i j => .cons i j) h
theorem DaAll.up (h : DaAll K H vs ds) (e : Ex H H') : DaAll K H' vs ds :=
  DaAll.rec (motive_1 := fun v d _ => Da K H' v d) (motive_2 := fun vs ds _ => DaAll K H' vs ds) (motive_3 := fun vs ds _ => DKs K H' vs ds)
    .non .bl .int .str (fun a _ i => .lst (e _ _ a) i) (fun a _ i => .tup (ex_t e a) i) (fun a => .scr (ex_l e a)) (fun a _ c i => .dct (e _ _ a) i c) .nil (fun _ _ i j => .cons i j) .nil (fun _ _ i j => .cons i j) h
theorem DKs.up {vs : List (Key × V)} {ds : List (Key × D)} (h : DKs K H vs ds) (e : Ex H H') : DKs K H' vs ds :=
  DKs.rec (motive_1 := fun v d _ => Da K H' v d) (motive_2 := fun vs ds _ => DaAll K H' vs ds) (motive_3 := fun vs ds _ => DKs K H' vs ds)
    .non .bl .int .str (fun a _ i => .lst (e _ _ a) i) (fun a _ i => .tup (ex_t e a) i) (fun a => .scr (ex_l e a)) (fun a _ c i => .dct (e _ _ a) i c) .nil (fun _ _ i j => .cons i j) .nil (fun _ _ i j => .cons i j) h
theorem dpa_len : ∀ {ds : List D} {vs : List V}, DaAll K H vs ds → vs.length = ds.length
  | [], _, h => by cases h; rfl
  | _ :: _, _, h => by
    cases h with
    | cons h1 h2 => simp [dpa_len h2]
theorem dpa_get : ∀ {ds : List D} {vs : List V} {i : Nat} {d : D}, DaAll K H vs ds → ds[i]? = some d → ∃ v, vs[i]? = some v ∧ Da K H v d
  | [], _, i, d, h, e => by simp at e
  | x :: xs, _, 0, d, h, e => by
    cases h with
    | cons h1 h2 => simp at e; subst e; exact ⟨_, rfl, h1⟩
  | x :: xs, _, i + 1, d, h, e => by
    cases h with
    | cons h1 h2 =>
      obtain ⟨v, e1, e2⟩ := dpa_get (i := i) h2 (by simpa using e)
      exact ⟨v, by simpa using e1, e2⟩
theorem dpa_getV : ∀ {ds : List D} {vs : List V} {i : Nat} {v : V}, DaAll K H vs ds → vs[i]? = some v → ∃ d, ds[i]? = some d ∧ Da K H v d
  | [], _, i, d, h, e => by cases h; simp at e
  | x :: xs, _, 0, d, h, e => by
    cases h with
    | cons h1 h2 => simp at e; subst e; exact ⟨_, rfl, h1⟩
  | x :: xs, _, i + 1, d, h, e => by
    cases h with
    | cons h1 h2 =>
      obtain ⟨v, e1, e2⟩ := dpa_getV (i := i) h2 (by simpa using e)
      exact ⟨v, by simpa using e1, e2⟩
theorem dpa_app {vs' : List V} {ds' : List D} : ∀ {ds : List D} {vs : List V}, DaAll K H vs ds → DaAll K H vs' ds' → DaAll K H (vs ++ vs') (ds ++ ds')
  | [], _, h, h' => by cases h; exact h'
  | _ :: _, _, h, h' => by
    cases h with
    | cons h1 h2 => exact .cons h1 (dpa_app h2 h')
theorem DaAll.one (h : Da K H v d) : DaAll K H [v] [d] := .cons h .nil
theorem dpa_take : ∀ {ds : List D} {vs : List V} (n : Nat), DaAll K H vs ds → DaAll K H (vs.take n) (ds.take n)
  | _, _, 0, _ => by simp; exact .nil
  | [], _, n + 1, h => by cases h; exact .nil
  | _ :: _, _, n + 1, h => by
    cases h with
    | cons h1 h2 => exact .cons h1 (dpa_take n h2)
theorem dpa_drop : ∀ {ds : List D} {vs : List V} (n : Nat), DaAll K H vs ds → DaAll K H (vs.drop n) (ds.drop n)
  | _, _, 0, h => by simpa using h
  | [], _, n + 1, h => by cases h; exact .nil
  | _ :: _, _, n + 1, h => by
    cases h with
    | cons h1 h2 => simpa using dpa_drop n h2
theorem dpa_set : ∀ {ds : List D} {vs : List V} (n : Nat), DaAll K H vs ds → Da K H v d → DaAll K H (vs.set n v) (ds.set n d)
  | [], _, n, h, _ => by cases h; exact .nil
  | _ :: _, _, 0, h, q => by
    cases h with
    | cons h1 h2 => exact .cons q h2
  | _ :: _, _, n + 1, h, q => by
    cases h with
    | cons h1 h2 => exact .cons h1 (dpa_set n h2 q)
theorem dpa_rev : ∀ {ds : List D} {vs : List V}, DaAll K H vs ds → DaAll K H vs.reverse ds.reverse
  | [], _, h => by cases h; exact .nil
  | _ :: _, _, h => by
    cases h with
    | cons h1 h2 => simp only [List.reverse_cons]; exact dpa_app (dpa_rev h2) (.one h1)
theorem dpa_ints : ∀ {ns : List Int}, DaAll K H (ns.map V.int) (ns.map PyData.int)
  | [] => .nil
  | n :: ns => .cons (.int n) dpa_ints
theorem dpa_toInts : ∀ {ns : List Int} {vs : List V}, DaAll K H vs (ns.map PyData.int) → vs = ns.map V.int
  | [], _, h => by cases h; rfl
  | n :: ns, _, h => by
    cases h with
    | cons h1 h2 => cases h1; simp [dpa_toInts h2]
theorem dpa_toBls : ∀ {ns : List Bool} {vs : List V}, DaAll K H vs (ns.map PyData.bool) → vs = ns.map V.bl
  | [], _, h => by cases h; rfl
  | n :: ns, _, h => by
    cases h with
    | cons h1 h2 => cases h1; simp [dpa_toBls h2]
theorem dpa_toStrs : ∀ {ns : List Str} {vs : List V}, DaAll K H vs (ns.map PyData.str) → vs = ns.map V.str
  | [], _, h => by cases h; rfl
  | n :: ns, _, h => by
    cases h with
    | cons h1 h2 => cases h1; simp [dpa_toStrs h2]
theorem dpa_ofStrs : ∀ {ns : List Str}, DaAll K H (ns.map V.str) (ns.map PyData.str)
  | [] => .nil
  | n :: ns => .cons (.str n) dpa_ofStrs
end

/-! ### the library's data -/
mutual
theorem da_dp {K : PySem.W.Frag} {H : Hp} : ∀ (d : D) (v : V), d.canLay0 = true → Da K H v d → Dp K H v d
  | .none, _, _, h => by cases h; exact .non
  | .bool b, _, _, h => by cases h; exact .bl b
  | .int i, _, _, h => by cases h; exact .int i
  | .str x, _, _, h => by cases h; exact .str x
  | .list ds, _, c, h => by
    cases h with
    | lst hs ha => exact .lst (Or.inl (Or.inl hs)) (da_dpa ds _ (by simpa [PyData.canLay0] using c) ha)
  | .tuple ds, _, c, h => by
    cases h with
    | tup hs ha => exact .tup hs (da_dpa ds _ (by simpa [PyData.canLay0] using c) ha)
  | .dict _, _, c, _ => by simp [PyData.canLay0] at c
theorem da_dpa {K : PySem.W.Frag} {H : Hp} : ∀ (ds : List D) (vs : List V), PyData.canLayAll0 ds = true → DaAll K H vs ds → DpAll K H vs ds
  | [], _, _, h => by cases h; exact .nil
  | d :: ds, _, c, h => by
    have c' : d.canLay0 = true ∧ PyData.canLayAll0 ds = true := by simpa [PyData.canLayAll0] using c
    cases h with
    | cons h1 h2 => exact .cons (da_dp d _ c'.1 h1) (da_dpa ds _ c'.2 h2)
end

/-! ### the frozen part F of the heap H, growing -/
structure Grow (F H F' H' : Hp) : Prop where
  f : Ex F F'
  h : Ex H H'
  in_ : Ex F' H'
  new : ∀ p o, F' p = some o → F p = none → H p = none
section
variable {K : PySem.W.Frag} {F H F' H' F2 H2 : Hp} {p : Addr} {o : HO}
theorem Grow.refl (e : Ex F H) : Grow F H F H := ⟨.refl F, .refl H, e, fun _ _ a b => by rw [a] at b; cases b⟩
theorem Grow.trans (a : Grow F H F' H') (b : Grow F' H' F2 H2) : Grow F H F2 H2 := ⟨a.f.trans b.f, a.h.trans b.h, b.in_, fun p o e n => by
  cases q : F' p with
  | some u => exact a.new p u q n
  | none =>
    have z := b.new p o e q
    cases y : H p with
    | none => rfl
    | some w => rw [a.h p w y] at z; cases z⟩
/-- a new object, frozen at once -/
theorem Grow.made (e : Ex F H) (hp : H p = none) : Grow F H (upd F p o) (upd H p o) := by
  have fp : F p = none := Evl.fresh_back e hp
  refine ⟨Ex.new fp, Ex.new hp, fun a u q => ?_, fun a u q n => ?_⟩
  · by_cases z : a = p
    · subst z; rw [upd_same] at q ⊢; exact q
    · rw [upd_ne z] at q ⊢; exact e a u q
  · by_cases z : a = p
    · subst z; exact hp
    · rw [upd_ne z] at q; rw [q] at n; cases n
/-- a new object, not frozen -/
theorem Grow.held (e : Ex F H) (hp : H p = none) : Grow F H F (upd H p o) := by
  refine ⟨.refl F, Ex.new hp, e.trans (Ex.new hp), fun a u q n => by rw [q] at n; cases n⟩
theorem Grow.freeze (e : Ex F H) (hp : H p = some o) (fp : F p = none) : Ex F (upd F p o) ∧ Ex (upd F p o) H := by
  refine ⟨Ex.new fp, fun a u q => ?_⟩
  by_cases z : a = p
  · subst z; rw [upd_same] at q; rw [hp]; exact q
  · rw [upd_ne z] at q; exact e a u q
end

/-! ### slots -/
inductive SV where
  | no
  | val (d : D)
  | own (ds : List D)
  | dic (ks : List (Key × D))
abbrev Env := List SV

structure Rep (K : PySem.W.Frag) (F0 H0 F H : Hp) (ρ : Env) (σ : L2.St) : Prop where
  g : Grow F0 H0 F H
  len : ρ.length = σ.length
  val : ∀ (i : Nat) d, ρ[i]? = some (.val d) → ∃ v, σ[i]? = some (some v) ∧ Da K F v d
  own : ∀ (i : Nat) ds, ρ[i]? = some (.own ds) → ∃ p vs, σ[i]? = some (some (.ref p)) ∧ H0 p = none ∧ F p = none ∧ H p = some (.lst vs) ∧ DaAll K F vs ds
  inj : ∀ (i j : Nat) ds es p, i ≠ j → ρ[i]? = some (.own ds) → ρ[j]? = some (.own es) → σ[i]? = some (some (.ref p)) → σ[j]? = some (some (.ref p)) → False
  dic : ∀ (i : Nat) ks, ρ[i]? = some (.dic ks) → ∃ p kvs, σ[i]? = some (some (.ref p)) ∧ H0 p = none ∧ F p = none ∧ H p = some (.dK kvs) ∧ DKs K F kvs ks
  injd : ∀ (i j : Nat) ds es p, i ≠ j → ρ[i]? = some (.dic ds) → ρ[j]? = some (.dic es) → σ[i]? = some (some (.ref p)) → σ[j]? = some (some (.ref p)) → False

/-- a value read where it may be a list of the frame's own -/
inductive Bw (K : PySem.W.Frag) (F H : Hp) : V → D → Prop
  | fr {v : V} {d : D} (h : Da K F v d) : Bw K F H v d
  | ow {p : Addr} {vs : List V} {ds : List D} (h : H p = some (.lst vs)) (n : F p = none) (a : DaAll K F vs ds) : Bw K F H (.ref p) (.list ds)
  | od {p : Addr} {kvs : List (Key × V)} {ks : List (Key × D)} {rs : List (D × D)} (h : H p = some (.dK kvs)) (n : F p = none) (a : DKs K F kvs ks) (q : rs = (.none, .none) :: ks.map (fun q => (kD q.1, q.2))) : Bw K F H (.ref p) (.dict rs)
section
variable {K : PySem.W.Frag} {F0 H0 F H F' H' : Hp} {ρ : Env} {σ : L2.St} {v : V} {d : D} {ds : List D}
theorem Rep.grow (r : Rep K F0 H0 F H ρ σ) (g : Grow F H F' H') : Rep K F0 H0 F' H' ρ σ := by
  refine ⟨r.g.trans g, r.len, fun i d e => ?_, fun i ds e => ?_, r.inj, fun i ds e => ?_, r.injd⟩
  · obtain ⟨v, e1, e2⟩ := r.val i d e
    exact ⟨v, e1, e2.up g.f⟩
  · obtain ⟨p, vs, e1, e2, e3, e4, e5⟩ := r.own i ds e
    refine ⟨p, vs, e1, e2, ?_, g.h _ _ e4, e5.up g.f⟩
    cases q : F' p with
    | none => rfl
    | some o =>
      have z := g.new p o q e3
      rw [e4] at z; cases z
  · obtain ⟨p, vs, e1, e2, e3, e4, e5⟩ := r.dic i ds e
    refine ⟨p, vs, e1, e2, ?_, g.h _ _ e4, e5.up g.f⟩
    cases q : F' p with
    | none => rfl
    | some o =>
      have z := g.new p o q e3
      rw [e4] at z; cases z
theorem Bw.grow (b : Bw K F H v d) (g : Grow F H F' H') : Bw K F' H' v d := by
  cases b with
  | fr h => exact .fr (h.up g.f)
  | ow h n a =>
    refine .ow (g.h _ _ h) ?_ (a.up g.f)
    rename_i p vs ds
    cases q : F' p with
    | none => rfl
    | some o =>
      have z := g.new p o q n
      rw [h] at z; cases z
  | od h n a q0 =>
    refine .od (g.h _ _ h) ?_ (a.up g.f) q0
    rename_i p kvs ks rs
    cases q : F' p with
    | none => rfl
    | some o =>
      have z := g.new p o q n
      rw [h] at z; cases z
theorem Bw.da (b : Bw K F H v d) (e : Ex F H) : Da K H v d := by
  cases b with
  | fr h => exact h.up e
  | ow h n a => exact .lst h (a.up e)
  | od h n a q => exact .dct h (a.up e) q
/-- a list, its items frozen -/
theorem Bw.list (b : Bw K F H v (.list ds)) (e : Ex F H) : ∃ p vs, v = .ref p ∧ H p = some (.lst vs) ∧ DaAll K F vs ds := by
  cases b with
  | fr h =>
    cases h with
    | lst h1 h2 => exact ⟨_, _, rfl, e _ _ h1, h2⟩
  | ow h n a => exact ⟨_, _, rfl, h, a⟩
theorem Bw.tuple (b : Bw K F H v (.tuple ds)) (e : Ex F H) : ∃ p vs, v = .ref p ∧ SqT K H p vs ∧ DaAll K F vs ds := by
  cases b with
  | fr h =>
    cases h with
    | tup h1 h2 => exact ⟨_, _, rfl, ex_t e h1, h2⟩
theorem Bw.int {i : Int} (b : Bw K F H v (.int i)) : v = .int i := by
  cases b with
  | fr h => cases h; rfl
theorem Bw.bool {i : Bool} (b : Bw K F H v (.bool i)) : v = .bl i := by
  cases b with
  | fr h => cases h; rfl
theorem Bw.str {i : Str} (b : Bw K F H v (.str i)) : v = .str i := by
  cases b with
  | fr h => cases h; rfl
theorem Bw.none (b : Bw K F H v .none) : v = .non := by
  cases b with
  | fr h => cases h; rfl
theorem DaAll.bw (a : DaAll K F [v] [d]) : Bw K F H v d := by
  cases a with
  | cons h _ => exact .fr h
end

/-! ### results -/
structure Exc where
  cls : Str
  args : List (Str × D)
inductive R (α : Type) where
  | ok (a : α)
  | exc (x : Exc)
  | bad
inductive Out where
  | nx (ρ : Env)
  | rt (d : D)
  | ex (x : Exc) (ρ : Env)
  | bk (ρ : Env)
  | ct (ρ : Env)
  | bad
@[inline] def R.bind {α β : Type} (r : R α) (f : α → R β) : R β := match r with
  | .ok a => f a
  | .exc x => .exc x
  | .bad => .bad
instance : Monad R where
  pure := .ok
  bind := R.bind

/-- an exception's class and fields on the heap -/
def XRep (K : PySem.W.Frag) (mg : Str → Option Value) (F : Hp) (x : Exc) (cls : Value) (dd : Option Addr) : Prop :=
  ∃ C, mg x.cls = some (.ref C) ∧ cls = .ref C ∧ ((x.args = [] ∧ dd = none) ∨ ∃ (dx : Addr) (fs : List (Str × V)), x.args ≠ [] ∧ dd = some dx ∧ F dx = some (.xd fs) ∧ fs.map (·.1) = x.args.map (·.1) ∧ DaAll K F (fs.map (·.2)) (x.args.map (·.2)))
theorem XRep.up {K : PySem.W.Frag} {mg : Str → Option Value} {F F' : Hp} {x : Exc} {cls : Value} {dd : Option Addr} (h : XRep K mg F x cls dd) (e : Ex F F') : XRep K mg F' x cls dd := by
  obtain ⟨C, h1, h2, h3⟩ := h
  refine ⟨C, h1, h2, ?_⟩
  rcases h3 with h3 | ⟨dx, fs, n, a, b, c, d⟩
  · exact .inl h3
  · exact .inr ⟨dx, fs, n, a, e _ _ b, c, d.up e⟩

/-- what is asked of a result -/
def ROk {α : Type} (K : PySem.W.Frag) (mg : Str → Option Value) (W : XK) (F H : Hp) (P : α → Hp → Hp → Prop) : R α → Prop
  | .ok a => ∀ F' H', Grow F H F' H' → P a F' H'
  | .exc x => ∀ cls dd F' H', Grow F H F' H' → XRep K mg F' x cls dd → W cls dd H'
  | .bad => False
section
variable {α β : Type} {K : PySem.W.Frag} {mg : Str → Option Value} {W : XK} {F H F' H' : Hp}
theorem ROk.grow {P : α → Hp → Hp → Prop} {r : R α} (h : ROk K mg W F H P r) (g : Grow F H F' H') : ROk K mg W F' H' P r := by
  cases r with
  | ok a => exact fun F2 H2 g2 => h F2 H2 (g.trans g2)
  | exc x => exact fun cls dd F2 H2 g2 q => h cls dd F2 H2 (g.trans g2) q
  | bad => exact h
/-- the first of two -/
theorem ROk.step {P : β → Hp → Hp → Prop} {r : R α} {f : α → R β} (h : ROk K mg W F H P (r.bind f)) : ROk K mg W F H (fun a F' H' => ROk K mg W F' H' P (f a)) r := by
  cases r with
  | ok a => exact fun F2 H2 g2 => ROk.grow (r := f a) h g2
  | exc x => exact h
  | bad => exact h
theorem ROk.imp {P P' : α → Hp → Hp → Prop} {r : R α} (h : ROk K mg W F H P r) (q : ∀ a F' H', r = .ok a → Grow F H F' H' → P a F' H' → P' a F' H') : ROk K mg W F H P' r := by
  cases r with
  | ok a => exact fun F2 H2 g2 => q a F2 H2 rfl g2 (h F2 H2 g2)
  | exc x => exact h
  | bad => exact h
end
end DL

/-! DLb -/
namespace DL
open PySem L2 PySem.Spec PyProof.Rows
open Evl (Ex ex_l ex_t ex_rd)

inductive BwAll (K : PySem.W.Frag) (F H : Hp) : List V → List D → Prop
  | nil : BwAll K F H [] []
  | cons {v : V} {vs : List V} {d : D} {ds : List D} : Bw K F H v d → BwAll K F H vs ds → BwAll K F H (v :: vs) (d :: ds)

/-! ### readings by data -/
def tE (K : PySem.W.Frag) (mg : Str → Option Value) (W : WX) (f : Env → R D) : TE := fun σ H Q => ∃ F0 H0 F ρ, Rep K F0 H0 F H ρ σ ∧ ROk K mg (fun c d H' => W c d σ H') F H (fun a F' H' => ∀ v, Da K F' v a → Q v H') (f ρ)
def tB (K : PySem.W.Frag) (mg : Str → Option Value) (W : WX) (f : Env → R D) : TE := fun σ H Q => ∃ F0 H0 F ρ, Rep K F0 H0 F H ρ σ ∧ ROk K mg (fun c d H' => W c d σ H') F H (fun a F' H' => ∀ v, Bw K F' H' v a → Q v H') (f ρ)
/-- a new list, nobody's yet -/
def tN (K : PySem.W.Frag) (mg : Str → Option Value) (W : WX) (f : Env → R (List D)) : TE := fun σ H Q => ∃ F0 H0 F ρ, Rep K F0 H0 F H ρ σ ∧
  ROk K mg (fun c d H' => W c d σ H') F H (fun a F' H' => ∀ p vs, H p = none → F' p = none → H' p = some (.lst vs) → DaAll K F' vs a → Q (.ref p) H') (f ρ)
def tD (K : PySem.W.Frag) (mg : Str → Option Value) (W : WX) (f : Env → R Bool) : TT := fun σ H Q => ∃ F0 H0 F ρ, Rep K F0 H0 F H ρ σ ∧ ROk K mg (fun c d H' => W c d σ H') F H (fun b F' H' => Q b H') (f ρ)
def tAD (K : PySem.W.Frag) (mg : Str → Option Value) (W : WX) (f : Env → R (List D)) : TA := fun σ H Q => ∃ F0 H0 F ρ, Rep K F0 H0 F H ρ σ ∧ ROk K mg (fun c d H' => W c d σ H') F H (fun a F' H' => ∀ vs, DaAll K F' vs a → Q vs H') (f ρ)
def tAB (K : PySem.W.Frag) (mg : Str → Option Value) (W : WX) (f : Env → R (List D)) : TA := fun σ H Q => ∃ F0 H0 F ρ, Rep K F0 H0 F H ρ σ ∧ ROk K mg (fun c d H' => W c d σ H') F H (fun a F' H' => ∀ vs, BwAll K F' H' vs a → Q vs H') (f ρ)

structure DE (X : Cx) (W : WX) (e : Expr) (f : Env → R D) : Prop where
  pe : PE X e (tE X.K X.mg W f)
structure DB (X : Cx) (W : WX) (e : Expr) (f : Env → R D) : Prop where
  pe : PE X e (tB X.K X.mg W f)
structure DN (X : Cx) (W : WX) (e : Expr) (f : Env → R (List D)) : Prop where
  pe : PE X e (tN X.K X.mg W f)
structure DT (X : Cx) (W : WX) (e : Expr) (f : Env → R Bool) : Prop where
  pt : PT X e (tD X.K X.mg W f)
structure DW (X : Cx) (W : WX) (e : Expr) (f : Env → R Bool) : Prop where
  pw : PW X e (tD X.K X.mg W f)
structure DA (X : Cx) (W : WX) (es : List Expr) (f : Env → R (List D)) : Prop where
  pa : PA X es (tAD X.K X.mg W f)
structure DAB (X : Cx) (W : WX) (es : List Expr) (f : Env → R (List D)) : Prop where
  pa : PA X es (tAB X.K X.mg W f)

section
variable {X : Cx} {W : WX} {e e1 e2 e3 : Expr} {es : List Expr} {pos : Pos} {f g h : Env → R D}
theorem pe_imp {t t' : TE} (q : PE X e t) (i : ∀ σ H Q, t' σ H Q → t σ H Q) : PE X e t' := ⟨fun pins s σ H Q I z => q.run pins s σ H Q I (i σ H Q z)⟩
theorem pt_imp {t t' : TT} (q : PT X e t) (i : ∀ σ H Q, t' σ H Q → t σ H Q) : PT X e t' := ⟨fun pins s σ H Q I z => q.run pins s σ H Q I (i σ H Q z)⟩
theorem pw_imp {t t' : TT} (q : PW X e t) (i : ∀ σ H Q, t' σ H Q → t σ H Q) : PW X e t' := ⟨fun whole pins s σ H Q I z => q.run whole pins s σ H Q I (i σ H Q z)⟩
theorem pa_imp {t t' : TA} (q : PA X es t) (i : ∀ σ H Q, t' σ H Q → t σ H Q) : PA X es t' := ⟨fun p pins s σ H Q I z => q.run p pins s σ H Q I (i σ H Q z)⟩
theorem ps_imp {st : Stmt} {t t' : TS} (q : PS X st t) (i : ∀ D σ H, t' D σ H → t D σ H) : PS X st t' := ⟨fun pins s σ H D I z => q.run pins s σ H D I (i D σ H z)⟩
theorem pss_imp {st : List Stmt} {t t' : TS} (q : PSs X st t) (i : ∀ D σ H, t' D σ H → t D σ H) : PSs X st t' := ⟨fun pins s σ H D I z => q.run pins s σ H D I (i D σ H z)⟩

/-- frozen is borrowed -/
theorem DE.bor (q : DE X W e f) : DB X W e f := ⟨pe_imp q.pe fun σ H Q ⟨F0, H0, F, ρ, r, k⟩ => ⟨F0, H0, F, ρ, r, k.imp fun a F' H' _ _ z v hv => z v (.fr hv)⟩⟩
/-- a new list, frozen -/
def asList (f : Env → R (List D)) : Env → R D := fun ρ => (f ρ).bind fun ds => .ok (.list ds)
theorem grow_lay {K : PySem.W.Frag} {F H F' H' : Hp} {p : Addr} {o : HO} (g : Grow F H F' H') (hp : H p = none) (fp : F' p = none) (h' : H' p = some o) : Grow F H (upd F' p o) H' := by
  have fz := Grow.freeze g.in_ h' fp
  refine ⟨g.f.trans fz.1, g.h, fz.2, fun a u q n => ?_⟩
  by_cases y : a = p
  · subst y; exact hp
  · rw [upd_ne y] at q; exact g.new a u q n
theorem DN.val {f : Env → R (List D)} (q : DN X W e f) : DE X W e (asList f) := ⟨pe_imp q.pe fun σ H Q ⟨F0, H0, F, ρ, r, k⟩ => ⟨F0, H0, F, ρ, r, by
  unfold asList at k
  cases hf : f ρ with
  | ok ds =>
    rw [hf] at k
    intro F' H' gr p vs hp fp h' ha
    have k : ∀ F2 H2, Grow F H F2 H2 → ∀ v, Da X.K F2 v (.list ds) → Q v H2 := k
    exact k _ _ (grow_lay (K := X.K) gr hp fp h') (.ref p) (.lst upd_same (ha.up (Grow.freeze gr.in_ h' fp).1))
  | exc x => rw [hf] at k; exact k
  | bad => rw [hf] at k; exact k⟩⟩

/-! ### two in a row -/
theorem two {K : PySem.W.Frag} {mg : Str → Option Value} {σ : L2.St} {F0 H0 F H : Hp} {ρ : Env} {α : Type} {P : α → Hp → Hp → Prop} {k : D → D → R α} {T : V → V → Hp → Prop} (r : Rep K F0 H0 F H ρ σ)
    (q : ROk K mg (fun c d H' => W c d σ H') F H P ((f ρ).bind fun x => (g ρ).bind fun y => k x y))
    (hT : ∀ F' H' x y a b, Grow F H F' H' → Bw K F' H' x a → Bw K F' H' y b → ROk K mg (fun c d H' => W c d σ H') F' H' P (k a b) → T x y H') :
    tB K mg W f σ H fun x H1 => tB K mg W g σ H1 fun y H2 => T x y H2 :=
  ⟨F0, H0, F, ρ, r, (ROk.step q).imp fun a F1 H1 _ g1 q1 x hx => ⟨F0, H0, F1, ρ, r.grow g1, (ROk.step q1).imp fun b F2 H2 _ g2 q2 y hy => hT F2 H2 x y a b (g1.trans g2) (hx.grow g2) hy q2⟩⟩
theorem one {K : PySem.W.Frag} {mg : Str → Option Value} {σ : L2.St} {F0 H0 F H : Hp} {ρ : Env} {α : Type} {P : α → Hp → Hp → Prop} {k : D → R α} {T : V → Hp → Prop} (r : Rep K F0 H0 F H ρ σ)
    (q : ROk K mg (fun c d H' => W c d σ H') F H P ((f ρ).bind fun x => k x))
    (hT : ∀ F' H' x a, Grow F H F' H' → Bw K F' H' x a → ROk K mg (fun c d H' => W c d σ H') F' H' P (k a) → T x H') : tB K mg W f σ H T :=
  ⟨F0, H0, F, ρ, r, (ROk.step q).imp fun a F1 H1 _ g1 q1 x hx => hT F1 H1 x a g1 hx q1⟩

def ofO {α : Type} : Option α → R α
  | some a => .ok a
  | none => .bad
theorem ROk.ofO {α : Type} {K : PySem.W.Frag} {mg : Str → Option Value} {W : XK} {F H : Hp} {P : α → Hp → Hp → Prop} {o : Option α} (h : ROk K mg W F H P (DL.ofO o)) : ∃ a, o = some a ∧ ∀ F' H', Grow F H F' H' → P a F' H' := by
  cases o with
  | some a => exact ⟨a, rfl, h⟩
  | none => exact h.elim

/-! ### names, constants -/
def cVar (i : Nat) : Env → R D := fun ρ => match ρ[i]? with
  | some (.val d) => .ok d
  | _ => .bad
def cBor (i : Nat) : Env → R D := fun ρ => match ρ[i]? with
  | some (.val d) => .ok d
  | some (.own ds) => .ok (.list ds)
  | some (.dic ks) => .ok (dcD ks)
  | _ => .bad
def cC (d : D) : Env → R D := fun _ => .ok d
theorem de_var (i : Nat) {x : Str} (hN : X.N[i]? = some x := by rfl) (hv : Vis X.env.scope x := by first | exact Or.inl rfl | exact Or.inr (Or.inl rfl) | exact Or.inr (Or.inr rfl)) (hd : (x == ("__debug__" : Str)) = false := by decide)
    (hcd : (x == ("__classdict__" : Str)) = false := by decide) : DE X W (.Name x pos) (cVar i) := ⟨pe_imp (pe_var hN hv hd hcd) fun σ H Q ⟨F0, H0, F, ρ, r, k⟩ => by
  unfold cVar at k
  split at k
  · rename_i d e
    obtain ⟨v, e1, e2⟩ := r.val i d e
    exact ⟨v, e1, k F H (.refl r.g.in_) v e2⟩
  · exact k.elim⟩
theorem db_var (i : Nat) {x : Str} (hN : X.N[i]? = some x := by rfl) (hv : Vis X.env.scope x := by first | exact Or.inl rfl | exact Or.inr (Or.inl rfl) | exact Or.inr (Or.inr rfl)) (hd : (x == ("__debug__" : Str)) = false := by decide)
    (hcd : (x == ("__classdict__" : Str)) = false := by decide) : DB X W (.Name x pos) (cBor i) := ⟨pe_imp (pe_var hN hv hd hcd) fun σ H Q ⟨F0, H0, F, ρ, r, k⟩ => by
  unfold cBor at k
  split at k
  · rename_i d e
    obtain ⟨v, e1, e2⟩ := r.val i d e
    exact ⟨v, e1, k F H (.refl r.g.in_) v (.fr e2)⟩
  · rename_i ds e
    obtain ⟨p, vs, e1, e2, e3, e4, e5⟩ := r.own i ds e
    exact ⟨_, e1, k F H (.refl r.g.in_) _ (.ow e4 e3 e5)⟩
  · rename_i ks e
    obtain ⟨p, vs, e1, e2, e3, e4, e5⟩ := r.dic i ks e
    exact ⟨_, e1, k F H (.refl r.g.in_) _ (.od e4 e3 e5 rfl)⟩
  · exact k.elim⟩
theorem de_c {v : V} {d : D} (q : PE X e (tC v)) (hd : ∀ F, Da X.K F v d) : DE X W e (cC d) := ⟨pe_imp q fun σ H Q ⟨F0, H0, F, ρ, r, k⟩ => k F H (.refl r.g.in_) v (hd F)⟩
theorem de_int {i : Int} {j : Nat} : DE X W (.Constant (.int i) j pos) (cC (.int i)) := de_c pe_int fun _ => .int i
theorem de_bl {i : Bool} {j : Nat} : DE X W (.Constant (.bool i) j pos) (cC (.bool i)) := de_c pe_bl fun _ => .bl i
theorem de_non {j : Nat} : DE X W (.Constant .none j pos) (cC .none) := de_c pe_non fun _ => .non
theorem de_str {x : Str} {j : Nat} : DE X W (.Constant (.str x) j pos) (cC (.str x)) := de_c pe_str fun _ => .str x
theorem de_gint {x : Str} {i : Int} {t : Tok} (hg : Gl X x) (hm : X.mg x = some (.int i t)) (hd : (x == ("__debug__" : Str)) = false := by decide) : DE X W (.Name x pos) (cC (.int i)) := de_c (v := .int i) (pe_glob hg hm ⟨t, rfl⟩ hd) fun _ => .int i
theorem de_gstr {x : Str} {i : Str} {t : Tok} (hg : Gl X x) (hm : X.mg x = some (.str i t)) (hd : (x == ("__debug__" : Str)) = false := by decide) : DE X W (.Name x pos) (cC (.str i)) := de_c (v := .str i) (pe_glob hg hm ⟨t, rfl⟩ hd) fun _ => .str i

/-! ### operators -/
/-- a reading of an operation on values does what o says -/
def RdO (K : PySem.W.Frag) (r : R2) (o : D → D → Option D) : Prop := ∀ (F H : Hp) (x y : V) (a b c : D), Ex F H → Bw K F H x a → Bw K F H y b → o a b = some c → ∀ Q : VK, (∀ F' H', Grow F H F' H' → ∀ v, Da K F' v c → Q v H') → r x y H Q
def cOp (o : D → D → Option D) (f g : Env → R D) : Env → R D := fun ρ => (f ρ).bind fun a => (g ρ).bind fun b => ofO (o a b)
theorem de_op {op : Operator} {o : D → D → Option D} {r : R2} (ho : OpR X (binaryOp op) r) (hr : RdO X.K r o) (ha : DB X W e1 f) (hb : DB X W e2 g) : DE X W (.BinOp e1 op e2 pos) (cOp o f g) :=
  ⟨pe_imp (pe_op ho ha.pe hb.pe) fun σ H Q ⟨F0, H0, F, ρ, r', k⟩ => two (T := fun x y H2 => r x y H2 Q) r' k fun F' H' x y a b gr hx hy kk => by
    obtain ⟨c, e, q⟩ := kk.ofO
    exact hr F' H' x y a b c gr.in_ hx hy e Q fun F2 H2 g2 v hv => q F2 H2 g2 v hv⟩
theorem de_cmp {op : CmpOp} {o : D → D → Option D} {r : R2} (ho : OpR X (compareOp op) r) (hr : RdO X.K r o) (ha : DB X W e1 f) (hb : DB X W e2 g) (hm : behindInMarks op e2 = false) : DE X W (.Compare e1 [op] [e2] pos) (cOp o f g) :=
  ⟨pe_imp (pe_cmpR ho ha.pe hb.pe hm) fun σ H Q ⟨F0, H0, F, ρ, r', k⟩ => two (T := fun x y H2 => r x y H2 Q) r' k fun F' H' x y a b gr hx hy kk => by
    obtain ⟨c, e, q⟩ := kk.ofO
    exact hr F' H' x y a b c gr.in_ hx hy e Q fun F2 H2 g2 v hv => q F2 H2 g2 v hv⟩
theorem de_ix {o : D → D → Option D} {r : R2} (ho : IxR X r) (hr : RdO X.K r o) (ha : DB X W e1 f) (hb : DB X W e2 g) (hs : PlainIx e2 := by exact fun _ _ => rfl) : DE X W (.Subscript e1 e2 pos) (cOp o f g) :=
  ⟨pe_imp (pe_ix ho ha.pe hb.pe hs) fun σ H Q ⟨F0, H0, F, ρ, r', k⟩ => two (T := fun x y H2 => r x y H2 Q) r' k fun F' H' x y a b gr hx hy kk => by
    obtain ⟨c, e, q⟩ := kk.ofO
    exact hr F' H' x y a b c gr.in_ hx hy e Q fun F2 H2 g2 v hv => q F2 H2 g2 v hv⟩
/-- two rules for two disjoint parts -/
theorem RdO.or {K : PySem.W.Frag} {r r' : R2} {o o' o2 : D → D → Option D} (h : RdO K r o) (h' : RdO K r' o') (q : ∀ a b c, o2 a b = some c → o a b = some c ∨ o' a b = some c) : RdO K (fun x y H Q => r x y H Q ∨ r' x y H Q) o2 :=
  fun F H x y a b c e hx hy hc Q k => by
    rcases q a b c hc with z | z
    · exact .inl (h F H x y a b c e hx hy z Q k)
    · exact .inr (h' F H x y a b c e hx hy z Q k)

/-! ### tests -/
def truB : D → Option Bool
  | .bool b => some b
  | _ => none
theorem truB_some {a : D} {b : Bool} (h : truB a = some b) : a = .bool b := by
  cases a <;> simp [truB] at h
  subst h; rfl
def cTest (f : Env → R D) : Env → R Bool := fun ρ => (f ρ).bind fun a => ofO (truB a)
theorem test_ok {σ : L2.St} {H : Hp} {Q : Bool → Hp → Prop} {K : PySem.W.Frag} {mg : Str → Option Value} (q : tD K mg W (cTest f) σ H Q) : tE K mg W f σ H fun x H' => ∃ k, x = .bl k ∧ Q k H' := by
  obtain ⟨F0, H0, F, ρ, r, k⟩ := q
  refine ⟨F0, H0, F, ρ, r, (ROk.step (r := f ρ) k).imp fun a F' H' _ gr z v hv => ?_⟩
  obtain ⟨b, e, q⟩ := z.ofO
  have e' := truB_some e
  subst e'
  cases hv
  exact ⟨b, rfl, q F' H' (.refl gr.in_)⟩
/-- a value that is a bool, as a test -/
theorem dt_val (ha : DE X W e f) (he : ∀ whole, isTrue e X.env whole = (do let v ← whole; standAt e.pos; holding [v] (truthy v)) := by intro _; rfl) : DT X W e (cTest f) :=
  ⟨pt_imp (pt_val ha.pe he) fun σ H Q q => test_ok q⟩
theorem dt_cmp {op : CmpOp} {o : D → D → Option D} {r : R2} (ho : OpR X (compareOp op) r) (hr : RdO X.K r o) (ha : DB X W e1 f) (hb : DB X W e2 g) (hm : behindInMarks op e2 = false) : DT X W (.Compare e1 [op] [e2] pos) (cTest (cOp o f g)) :=
  ⟨pt_imp (pt_cmpR ho ha.pe hb.pe hm) fun σ H Q q => by
    obtain ⟨F0, H0, F, ρ, r', k⟩ := test_ok q
    exact two (T := fun x y H2 => r x y H2 fun x H' => ∃ k, x = .bl k ∧ Q k H') r' k fun F' H' x y a b gr hx hy kk => by
      obtain ⟨c, e, q⟩ := kk.ofO
      exact hr F' H' x y a b c gr.in_ hx hy e _ fun F2 H2 g2 v hv => q F2 H2 g2 v hv⟩
/-- a op b op' c: both comparisons give bools -/
def cChain (o o' : D → D → Option D) (f g h : Env → R D) : Env → R D := fun ρ => (f ρ).bind fun a => (g ρ).bind fun b => (ofO ((o a b).bind truB)).bind fun k => if k = true then (h ρ).bind fun c => ofO (o' b c) else .ok (.bool false)
theorem chain_ok {o o' : D → D → Option D} {r r' : R2} {σ : L2.St} {H : Hp} {Q : VK} {K : PySem.W.Frag} {mg : Str → Option Value} (hr : RdO K r o) (hr' : RdO K r' o') (q : tE K mg W (cChain o o' f g h) σ H Q) :
    tChain r r' (tB K mg W f) (tB K mg W g) (tB K mg W h) σ H Q := by
  obtain ⟨F0, H0, F, ρ, rp, k⟩ := q
  refine two (T := fun x y H2 => r x y H2 fun z H3 => ∃ k, z = .bl k ∧ (if k = true then tB K mg W h σ H3 fun w' H4 => r' y w' H4 Q else Q (.bl false) H3)) rp k fun F' H' x y a b gr hx hy kk => ?_
  have z := ROk.step kk
  obtain ⟨kb, e, q⟩ := z.ofO
  cases hc : o a b with
  | none => rw [hc] at e; cases e
  | some c =>
    rw [hc] at e
    have ec := truB_some (show truB c = some kb from e)
    subst ec
    refine hr F' H' x y a b _ gr.in_ hx hy hc _ fun F2 H2 g2 v hv => ?_
    cases hv
    refine ⟨kb, rfl, ?_⟩
    have q2 := q F2 H2 g2
    cases kb with
    | true =>
      rw [if_pos rfl] at q2 ⊢
      exact one ((rp.grow gr).grow g2) q2 fun F3 H3 w' d g3 hw k3 => by
        obtain ⟨c', e', q'⟩ := k3.ofO
        exact hr' F3 H3 y w' b d c' g3.in_ ((hy.grow g2).grow g3) hw e' Q fun F4 H4 g4 v hv => q' F4 H4 g4 v hv
    | false =>
      rw [if_neg Bool.false_ne_true] at q2 ⊢
      exact q2 F2 H2 (.refl g2.in_) _ (.bl false)
theorem de_chain {op op' : CmpOp} {o o' : D → D → Option D} {r r' : R2} (ho : OpR X (compareOp op) r) (hr : RdO X.K r o) (ho' : OpR X (compareOp op') r') (hr' : RdO X.K r' o') (ha : DB X W e1 f) (hb : DB X W e2 g) (hc : DB X W e3 h)
    (hm : lastMarks [op, op'] [e2, e3] = false := by with_unfolding_all rfl) : DE X W (.Compare e1 [op, op'] [e2, e3] pos) (cChain o o' f g h) :=
  ⟨pe_imp (pe_chain ho ho' ha.pe hb.pe hc.pe hm) fun σ H Q q => chain_ok hr hr' q⟩
theorem dt_chain {op op' : CmpOp} {o o' : D → D → Option D} {r r' : R2} (ho : OpR X (compareOp op) r) (hr : RdO X.K r o) (ho' : OpR X (compareOp op') r') (hr' : RdO X.K r' o') (ha : DB X W e1 f) (hb : DB X W e2 g) (hc : DB X W e3 h)
    (hm : lastMarks [op, op'] [e2, e3] = false := by with_unfolding_all rfl) : DT X W (.Compare e1 [op, op'] [e2, e3] pos) (cTest (cChain o o' f g h)) :=
  ⟨pt_imp (pt_chain ho ho' ha.pe hb.pe hc.pe hm) fun σ H Q q => chain_ok hr hr' (test_ok q)⟩

def cAnd (f g : Env → R Bool) : Env → R Bool := fun ρ => (f ρ).bind fun k => if k = true then g ρ else .ok false
def cOr (f g : Env → R Bool) : Env → R Bool := fun ρ => (f ρ).bind fun k => if k = true then .ok true else g ρ
def cNot (f : Env → R Bool) : Env → R Bool := fun ρ => (f ρ).bind fun k => .ok (!k)
theorem DW.dt {f : Env → R Bool} (q : DW X W e f) : DT X W e f := ⟨q.pw.pt⟩
theorem dw_and1 {f : Env → R Bool} (ha : DT X W e f) : DW X W (.BoolOp .And [e] pos) f := ⟨pw_and1 ha.pt⟩
theorem dw_or1 {f : Env → R Bool} (ha : DT X W e f) : DW X W (.BoolOp .Or [e] pos) f := ⟨pw_or1 ha.pt⟩
theorem dw_and {f g : Env → R Bool} (ha : DT X W e f) (hb : DW X W (.BoolOp .And (e1 :: es) pos) g) : DW X W (.BoolOp .And (e :: e1 :: es) pos) (cAnd f g) :=
  ⟨pw_imp (pw_and ha.pt hb.pw) fun σ H Q ⟨F0, H0, F, ρ, r, k⟩ => ⟨F0, H0, F, ρ, r, (ROk.step (r := f ρ) k).imp fun b F' H' _ gr z => by
    cases b with
    | true => exact ⟨F0, H0, F', ρ, r.grow gr, z⟩
    | false => exact z F' H' (.refl gr.in_)⟩⟩
theorem dw_or {f g : Env → R Bool} (ha : DT X W e f) (hb : DW X W (.BoolOp .Or (e1 :: es) pos) g) : DW X W (.BoolOp .Or (e :: e1 :: es) pos) (cOr f g) :=
  ⟨pw_imp (pw_or ha.pt hb.pw) fun σ H Q ⟨F0, H0, F, ρ, r, k⟩ => ⟨F0, H0, F, ρ, r, (ROk.step (r := f ρ) k).imp fun b F' H' _ gr z => by
    cases b with
    | true => exact z F' H' (.refl gr.in_)
    | false => exact ⟨F0, H0, F', ρ, r.grow gr, z⟩⟩⟩
theorem dt_not {f : Env → R Bool} (ha : DT X W e f) : DT X W (.UnaryOp .Not e pos) (cNot f) :=
  ⟨pt_imp (pt_not ha.pt) fun σ H Q ⟨F0, H0, F, ρ, r, k⟩ => ⟨F0, H0, F, ρ, r, (ROk.step (r := f ρ) k).imp fun b F' H' _ gr z => z F' H' (.refl gr.in_)⟩⟩
/-! as values, the first a bool -/
def cAndV (f g : Env → R D) : Env → R D := fun ρ => (cTest f ρ).bind fun k => if k = true then g ρ else .ok (.bool false)
def cOrV (f g : Env → R D) : Env → R D := fun ρ => (cTest f ρ).bind fun k => if k = true then .ok (.bool true) else g ρ
def cNotV (f : Env → R D) : Env → R D := fun ρ => (cTest f ρ).bind fun k => .ok (.bool (!k))
theorem de_one {op : BoolOp} (ha : DE X W e f) : DE X W (.BoolOp op [e] pos) f := ⟨pe_one ha.pe⟩
theorem bool_step {α : Type} {K : PySem.W.Frag} {mg : Str → Option Value} {σ : L2.St} {F0 H0 F H : Hp} {ρ : Env} {P : α → Hp → Hp → Prop} {k : Bool → R α} {T : V → Hp → Prop} (r : Rep K F0 H0 F H ρ σ)
    (q : ROk K mg (fun c d H' => W c d σ H') F H P ((cTest f ρ).bind k)) (hT : ∀ F' H' b, Grow F H F' H' → ROk K mg (fun c d H' => W c d σ H') F' H' P (k b) → T (.bl b) H') : tE K mg W f σ H T := by
  have q1 := ROk.step q
  refine ⟨F0, H0, F, ρ, r, (ROk.step (r := f ρ) q1).imp fun a F' H' _ gr z v hv => ?_⟩
  obtain ⟨b, e, q⟩ := z.ofO
  have e' := truB_some e
  subst e'
  cases hv
  exact hT F' H' b gr (q F' H' (.refl gr.in_))
theorem de_and (ha : DE X W e f) (hb : DE X W (.BoolOp .And (e1 :: es) pos) g) : DE X W (.BoolOp .And (e :: e1 :: es) pos) (cAndV f g) :=
  ⟨pe_imp (pe_and ha.pe hb.pe) fun σ H Q ⟨F0, H0, F, ρ, r, k⟩ => bool_step r k fun F' H' b gr z => ⟨b, rfl, by
    cases b with
    | true => exact ⟨F0, H0, F', ρ, r.grow gr, z⟩
    | false => exact z F' H' (.refl gr.in_) _ (.bl false)⟩⟩
theorem de_or (ha : DE X W e f) (hb : DE X W (.BoolOp .Or (e1 :: es) pos) g) : DE X W (.BoolOp .Or (e :: e1 :: es) pos) (cOrV f g) :=
  ⟨pe_imp (pe_or ha.pe hb.pe) fun σ H Q ⟨F0, H0, F, ρ, r, k⟩ => bool_step r k fun F' H' b gr z => ⟨b, rfl, by
    cases b with
    | true => exact z F' H' (.refl gr.in_) _ (.bl true)
    | false => exact ⟨F0, H0, F', ρ, r.grow gr, z⟩⟩⟩
theorem de_not (ha : DE X W e f) : DE X W (.UnaryOp .Not e pos) (cNotV f) :=
  ⟨pe_imp (pe_not ha.pe) fun σ H Q ⟨F0, H0, F, ρ, r, k⟩ => bool_step r k fun F' H' b gr z => ⟨b, rfl, z F' H' (.refl gr.in_) _ (.bl (!b))⟩⟩
def cIf (t : Env → R Bool) (f g : Env → R D) : Env → R D := fun ρ => (t ρ).bind fun k => if k = true then f ρ else g ρ
theorem de_if {t : Env → R Bool} (hc : DT X W e t) (ha : DE X W e1 f) (hb : DE X W e2 g) : DE X W (.IfExp e e1 e2 pos) (cIf t f g) :=
  ⟨pe_imp (pe_ifExp hc.pt ha.pe hb.pe) fun σ H Q ⟨F0, H0, F, ρ, r, k⟩ => ⟨F0, H0, F, ρ, r, (ROk.step (r := t ρ) k).imp fun b F' H' _ gr z => by
    cases b with
    | true => exact ⟨F0, H0, F', ρ, r.grow gr, z⟩
    | false => exact ⟨F0, H0, F', ρ, r.grow gr, z⟩⟩⟩

/-! ### rows of expressions -/
def aNil : Env → R (List D) := fun _ => .ok []
def aCons (f : Env → R D) (g : Env → R (List D)) : Env → R (List D) := fun ρ => (f ρ).bind fun x => (g ρ).bind fun xs => .ok (x :: xs)
theorem da_nil : DA X W [] aNil := ⟨pa_imp pa_nil fun σ H Q ⟨F0, H0, F, ρ, r, k⟩ => k F H (.refl r.g.in_) [] .nil⟩
theorem da_cons {q : Env → R (List D)} (ha : DE X W e f) (hr : DA X W es q) (hs : starEach (e :: es) X.env = (false, eval e X.env) :: starEach es X.env := by rfl) : DA X W (e :: es) (aCons f q) :=
  ⟨pa_imp (pa_cons ha.pe hr.pa hs) fun σ H Q ⟨F0, H0, F, ρ, r, k⟩ => ⟨F0, H0, F, ρ, r, (ROk.step (r := f ρ) k).imp fun a F1 H1 _ g1 q1 v hv => ⟨F0, H0, F1, ρ, r.grow g1, (ROk.step (r := q ρ) q1).imp fun xs F2 H2 _ g2 q2 vs hvs =>
    q2 F2 H2 (.refl g2.in_) (v :: vs) (.cons (hv.up g2.f) hvs)⟩⟩⟩
theorem dab_nil : DAB X W [] aNil := ⟨pa_imp pa_nil fun σ H Q ⟨F0, H0, F, ρ, r, k⟩ => k F H (.refl r.g.in_) [] .nil⟩
theorem dab_cons {q : Env → R (List D)} (ha : DB X W e f) (hr : DAB X W es q) (hs : starEach (e :: es) X.env = (false, eval e X.env) :: starEach es X.env := by rfl) : DAB X W (e :: es) (aCons f q) :=
  ⟨pa_imp (pa_cons ha.pe hr.pa hs) fun σ H Q ⟨F0, H0, F, ρ, r, k⟩ => ⟨F0, H0, F, ρ, r, (ROk.step (r := f ρ) k).imp fun a F1 H1 _ g1 q1 v hv => ⟨F0, H0, F1, ρ, r.grow g1, (ROk.step (r := q ρ) q1).imp fun xs F2 H2 _ g2 q2 vs hvs =>
    q2 F2 H2 (.refl g2.in_) (v :: vs) (.cons (hv.grow g2) hvs)⟩⟩⟩
def cTup (q : Env → R (List D)) : Env → R D := fun ρ => (q ρ).bind fun ds => if ds.length ≤ 100000 then .ok (.tuple ds) else .bad
def cLst (q : Env → R (List D)) : Env → R (List D) := fun ρ => (q ρ).bind fun ds => if ds.length ≤ 100000 then .ok ds else .bad
theorem de_tup {q : Env → R (List D)} {k : Nat} (ha : DA X W es q) : DE X W (.Tuple es k pos) (cTup q) :=
  ⟨pe_imp (pe_tup ha.pa) fun σ H Q ⟨F0, H0, F, ρ, r, kk⟩ => ⟨F0, H0, F, ρ, r, (ROk.step (r := q ρ) kk).imp fun ds F1 H1 _ g1 q1 vs hv => by
    split at q1
    · rename_i hl
      have hl' := dpa_len hv
      exact ⟨Evl.sz_of (by omega), fun p hp => q1 _ _ (Grow.made g1.in_ hp) (.ref p) (.tup (Or.inl (Or.inl upd_same)) (hv.up (Ex.new (Evl.fresh_back g1.in_ hp))))⟩
    · exact q1.elim⟩⟩
theorem dn_lst {q : Env → R (List D)} (ha : DA X W es q) : DN X W (.List es pos) (cLst q) :=
  ⟨pe_imp (pe_lst ha.pa) fun σ H Q ⟨F0, H0, F, ρ, r, kk⟩ => ⟨F0, H0, F, ρ, r, by
    unfold cLst at kk
    cases hq : q ρ with
    | ok ds =>
      rw [hq] at kk
      intro F1 H1 g1 vs hv
      by_cases hl : ds.length ≤ 100000
      · have kk : ROk X.K X.mg (fun c d H' => W c d σ H') F H (fun a F' H' => ∀ p vs, H p = none → F' p = none → H' p = some (.lst vs) → DaAll X.K F' vs a → Q (.ref p) H') (if ds.length ≤ 100000 then .ok ds else .bad) := kk
        rw [if_pos hl] at kk
        have hl' := dpa_len hv
        exact ⟨Evl.sz_of (by omega), fun p hp => kk F1 _ (g1.trans (Grow.held g1.in_ hp)) p vs (Evl.fresh_back g1.h hp) (Evl.fresh_back g1.in_ hp) upd_same hv⟩
      · have kk : ROk X.K X.mg (fun c d H' => W c d σ H') F H (fun a F' H' => ∀ p vs, H p = none → F' p = none → H' p = some (.lst vs) → DaAll X.K F' vs a → Q (.ref p) H') (if ds.length ≤ 100000 then .ok ds else .bad) := kk
        rw [if_neg hl] at kk
        exact kk.elim
    | exc x => rw [hq] at kk; exact kk
    | bad => rw [hq] at kk; exact kk⟩⟩
end
end DL

/-! DLc -/
namespace DL
open PySem L2 PySem.Spec PyProof.Rows
open Evl (Ex ex_l ex_t ex_rd)

/-! ### operations on data -/
instance {i j : Int} : Decidable (CMul i j) := by unfold CMul; infer_instance
instance {i j : Int} : Decidable (CDivW i j) := by unfold CDivW; infer_instance
instance {i j : Int} : Decidable (CPow i j) := by unfold CPow; infer_instance
def oAdd : D → D → Option D
  | .int i, .int j => some (.int (i + j))
  | .str x, .str y => if x.length + y.length ≤ 100000 then some (.str (x ++ y)) else none
  | .tuple xs, .tuple ys => if xs.length + ys.length ≤ 100000 then some (.tuple (xs ++ ys)) else none
  | .list xs, .list ys => if xs.length + ys.length ≤ 100000 then some (.list (xs ++ ys)) else none
  | _, _ => none
def oSub : D → D → Option D
  | .int i, .int j => some (.int (i - j))
  | _, _ => none
def oMul : D → D → Option D
  | .int i, .int j => if CMul i j then some (.int (i * j)) else none
  | .list xs, .int j => if 0 ≤ j ∧ j ≤ 100000 ∧ xs.length * j.toNat ≤ 100000 then some (.list (List.replicate j.toNat xs).flatten) else none
  | .tuple xs, .int j => if xs ≠ [] ∧ 2 ≤ j ∧ j ≤ 1000 ∧ xs.length ≤ 1000 then some (.tuple (List.replicate j.toNat xs).flatten) else none
  | _, _ => none
def oMod : D → D → Option D
  | .int i, .int j => if 0 < j then some (.int (i % j)) else none
  | _, _ => none
def oDiv : D → D → Option D
  | .int i, .int j => if CDivW i j then some (.int (i / j)) else none
  | _, _ => none
def oPow : D → D → Option D
  | .int i, .int j => if CPow i j then some (.int (i ^ j.toNat)) else none
  | _, _ => none
def oLt : D → D → Option D
  | .int i, .int j => some (.bool (decide (i < j)))
  | .str x, .str y => some (.bool (decide (x.cps.toList < y.cps.toList)))
  | _, _ => none
def oLe : D → D → Option D
  | .int i, .int j => some (.bool (decide (i ≤ j)))
  | _, _ => none
def oGt : D → D → Option D
  | .int i, .int j => some (.bool (decide (j < i)))
  | _, _ => none
def oGe : D → D → Option D
  | .int i, .int j => some (.bool (decide (j ≤ i)))
  | _, _ => none
def oEq (a b : D) : Option D := if SeqAt.shaped a = true ∧ SeqAt.shaped b = true then some (.bool (PyData.eqv a b)) else none
def oNe (a b : D) : Option D := if SeqAt.shaped a = true ∧ SeqAt.shaped b = true then some (.bool (!PyData.eqv a b)) else none
def isNone : D → Bool
  | .none => true
  | _ => false
def oIs (a b : D) : Option D := if isNone b = true then some (.bool (isNone a)) else none
def oIsNot (a b : D) : Option D := if isNone b = true then some (.bool (!isNone a)) else none
def oIn : D → D → Option D
  | a, .list ds => if SeqAt.shaped a = true ∧ SeqAt.shaped (.list ds) = true then some (.bool (ds.any fun z => PyData.eqv z a)) else none
  | .str x, .str y => some (.bool (!(Builtin.Str.occurrences y x 0 y.length 1).isEmpty))
  | _, _ => none
def oNotIn : D → D → Option D
  | a, .list ds => if SeqAt.shaped a = true ∧ SeqAt.shaped (.list ds) = true then some (.bool (!ds.any fun z => PyData.eqv z a)) else none
  | .str x, .str y => some (.bool (!(!(Builtin.Str.occurrences y x 0 y.length 1).isEmpty)))
  | _, _ => none
def flatD : D → Bool
  | .none => true | .bool _ => true | .int _ => true | .str _ => true
  | _ => false
/-- in, of a tuple -/
def oInT : D → D → Option D
  | a, .tuple ds => if flatD a = true ∧ ds.all flatD = true then some (.bool (ds.any fun z => PyData.eqv z a)) else none
  | _, _ => none
def oNotInT : D → D → Option D
  | a, .tuple ds => if flatD a = true ∧ ds.all flatD = true then some (.bool (!ds.any fun z => PyData.eqv z a)) else none
  | _, _ => none
def oIx : D → D → Option D
  | .list xs, .int i => atI xs i
  | .tuple xs, .int i => atI xs i
  | .str z, .int i => if z.length ≤ 100000 then (atI z.cps.toList i).map fun c => .str ⟨#[c]⟩ else none
  | _, _ => none

section
variable {X : Cx} {K : PySem.W.Frag}
/-- a flat result needs no growth -/
theorem flat_q {K : PySem.W.Frag} {F H : Hp} {c : D} {v : V} {Q : VK} (e : Ex F H) (hv : Da K F v c) (k : ∀ F' H', Grow F H F' H' → ∀ v, Da K F' v c → Q v H') : Q v H := k F H (.refl e) v hv
theorem rd_intB {g : Int → Int → Bool} {o : D → D → Option D} (h : ∀ a b c, o a b = some c → ∃ i j, a = .int i ∧ b = .int j ∧ c = .bool (g i j)) : RdO K (rI0 fun i j => .bl (g i j)) o :=
  fun F H x y a b c e hx hy hc Q k => by
    obtain ⟨i, j, rfl, rfl, rfl⟩ := h a b c hc
    exact ⟨i, j, hx.int, hy.int, flat_q e (.bl _) k⟩
theorem rd_intI {g : Int → Int → Int} {C : Int → Int → Prop} {o : D → D → Option D} (h : ∀ a b c, o a b = some c → ∃ i j, a = .int i ∧ b = .int j ∧ C i j ∧ c = .int (g i j)) : RdO K (rI C fun i j => .int (g i j)) o :=
  fun F H x y a b c e hx hy hc Q k => by
    obtain ⟨i, j, rfl, rfl, h1, rfl⟩ := h a b c hc
    exact ⟨i, j, hx.int, hy.int, h1, flat_q e (.int _) k⟩
theorem rd_intI0 {g : Int → Int → Int} {o : D → D → Option D} (h : ∀ a b c, o a b = some c → ∃ i j, a = .int i ∧ b = .int j ∧ c = .int (g i j)) : RdO K (rI0 fun i j => .int (g i j)) o :=
  fun F H x y a b c e hx hy hc Q k => by
    obtain ⟨i, j, rfl, rfl, rfl⟩ := h a b c hc
    exact ⟨i, j, hx.int, hy.int, flat_q e (.int _) k⟩
theorem rd_sub : RdO K (rI0 fun i j => .int (i - j)) oSub := rd_intI0 fun a b c h => by
  cases a <;> cases b <;> simp [oSub] at h
  exact ⟨_, _, rfl, rfl, h.symm⟩
theorem rd_mod : RdO K (rI (fun _ j => 0 < j) fun i j => .int (i % j)) oMod := rd_intI fun a b c h => by
  cases a <;> cases b <;> simp [oMod] at h
  exact ⟨_, _, rfl, rfl, h.1, h.2.symm⟩
theorem rd_div : RdO K (rI CDivW fun i j => .int (i / j)) oDiv := rd_intI fun a b c h => by
  cases a <;> cases b <;> simp [oDiv] at h
  exact ⟨_, _, rfl, rfl, h.1, h.2.symm⟩
theorem rd_pow : RdO K (rI CPow fun i j => .int (i ^ j.toNat)) oPow := rd_intI fun a b c h => by
  cases a <;> cases b <;> simp [oPow] at h
  exact ⟨_, _, rfl, rfl, h.1, h.2.symm⟩
theorem rd_le : RdO K (rI0 fun i j => .bl (decide (i ≤ j))) oLe := rd_intB fun a b c h => by
  cases a <;> cases b <;> simp [oLe] at h
  exact ⟨_, _, rfl, rfl, h.symm⟩
theorem rd_gt : RdO K (rI0 fun i j => .bl (decide (j < i))) oGt := rd_intB fun a b c h => by
  cases a <;> cases b <;> simp [oGt] at h
  exact ⟨_, _, rfl, rfl, h.symm⟩
theorem rd_ge : RdO K (rI0 fun i j => .bl (decide (j ≤ i))) oGe := rd_intB fun a b c h => by
  cases a <;> cases b <;> simp [oGe] at h
  exact ⟨_, _, rfl, rfl, h.symm⟩
/-- +: ints, texts, tuples, lists -/
def rAddD (K : PySem.W.Frag) : R2 := fun x y H Q => (((rI0 fun i j => .int (i + j)) x y H Q ∨ (∃ i j, x = .str i ∧ y = .str j ∧ i.length + j.length ≤ sizeLine ∧ Q (.str (i ++ j)) H)) ∨ rCatA K x y H Q) ∨ rCat x y H Q
theorem op_addD : OpR X (binaryOp .Add) (rAddD X.K) := ((op_add.or op_add_str).or op_catA).or op_cat
theorem rd_add : RdO K (rAddD K) oAdd := fun F H x y a b c e hx hy hc Q k => by
  cases a <;> cases b <;> simp [oAdd] at hc
  · subst hc; exact .inl (.inl (.inl ⟨_, _, hx.int, hy.int, flat_q e (.int _) k⟩))
  · obtain ⟨h1, rfl⟩ := hc
    exact .inl (.inl (.inr ⟨_, _, hx.str, hy.str, Evl.sz_of h1, flat_q e (.str _) k⟩))
  · obtain ⟨h1, rfl⟩ := hc
    obtain ⟨p, vs, rfl, h2, h3⟩ := hx.list e
    obtain ⟨q, us, rfl, h4, h5⟩ := hy.list e
    have l1 := dpa_len h3
    have l2 := dpa_len h5
    exact .inr ⟨p, q, vs, us, rfl, rfl, h2, h4, Evl.sz_of (by omega), fun z hz => k _ _ (Grow.made e hz) _ (.lst upd_same (dpa_app (h3.up (Ex.new (Evl.fresh_back e hz))) (h5.up (Ex.new (Evl.fresh_back e hz)))))⟩
  · obtain ⟨h1, rfl⟩ := hc
    obtain ⟨p, vs, rfl, h2, h3⟩ := hx.tuple e
    obtain ⟨q, us, rfl, h4, h5⟩ := hy.tuple e
    have l1 := dpa_len h3
    have l2 := dpa_len h5
    refine .inl (.inr ⟨p, q, vs, us, rfl, rfl, h2, h4, Evl.sz_of (by omega), fun z => ?_, fun _ z => ?_, fun _ _ z hz => k _ _ (Grow.made e hz) _ (.tup (Or.inl (Or.inl upd_same)) (dpa_app (h3.up (Ex.new (Evl.fresh_back e hz))) (h5.up (Ex.new (Evl.fresh_back e hz)))))⟩)
    · subst z
      cases h3
      cases hy with
      | fr h => exact k F H (.refl e) _ h
    · subst z
      cases h5
      cases hx with
      | fr h => rw [List.append_nil] at k; exact k F H (.refl e) _ h
theorem rep_flat {F : Hp} {vs : List V} {ds : List D} (h : DaAll K F vs ds) : ∀ n : Nat, DaAll K F (List.replicate n vs).flatten (List.replicate n ds).flatten
  | 0 => by simp; exact .nil
  | n + 1 => by rw [List.replicate_succ, List.replicate_succ, List.flatten_cons, List.flatten_cons]; exact dpa_app h (rep_flat h n)
def rMulD (K : PySem.W.Frag) : R2 := fun x y H Q => ((rI CMul fun i j => .int (i * j)) x y H Q ∨ rRep x y H Q) ∨ rRepT K x y H Q
theorem op_mulD : OpR X (binaryOp .Mult) (rMulD X.K) := (op_mul.or op_rep).or op_repT
def oMul1 : D → D → Option D
  | .int i, .int j => if CMul i j then some (.int (i * j)) else none
  | .list xs, .int j => if 0 ≤ j ∧ j ≤ 100000 ∧ xs.length * j.toNat ≤ 100000 then some (.list (List.replicate j.toNat xs).flatten) else none
  | .tuple xs, .int j => if xs ≠ [] ∧ 2 ≤ j ∧ j ≤ 1000 ∧ xs.length ≤ 1000 then some (.tuple (List.replicate j.toNat xs).flatten) else none
  | _, _ => none
theorem rd_mul : RdO K (rMulD K) oMul1 := fun F H x y a b c e hx hy hc Q k => by
  cases a <;> cases b <;> simp only [oMul1] at hc <;> try (cases hc; done)
  · split at hc
    · rename_i h1
      cases hc
      exact .inl (.inl ⟨_, _, hx.int, hy.int, h1, flat_q e (.int _) k⟩)
    · cases hc
  · split at hc
    · rename_i h1
      cases hc
      obtain ⟨p, vs, rfl, h2, h3⟩ := hx.list e
      have l1 := dpa_len h3
      refine .inl (.inr ⟨p, _, vs, rfl, hy.int, h2, by omega, by omega, Evl.sz_of (by rw [l1]; exact h1.2.2), fun z hz => k _ _ (Grow.made e hz) _ (.lst upd_same (rep_flat (h3.up (Ex.new (Evl.fresh_back e hz))) _))⟩)
    · cases hc
  · split at hc
    · rename_i h1
      cases hc
      obtain ⟨p, vs, rfl, h2, h3⟩ := hx.tuple e
      have l1 := dpa_len h3
      refine .inr ⟨p, _, vs, rfl, hy.int, h2, ?_, by omega, by omega, by omega, fun z hz => k _ _ (Grow.made e hz) _ (.tup (Or.inl (Or.inl upd_same)) (rep_flat (h3.up (Ex.new (Evl.fresh_back e hz))) _))⟩
      intro z
      subst z
      cases h3
      exact h1.1 rfl
    · cases hc
/-- <: ints, texts -/
def rLtD : R2 := fun x y H Q => (rI0 fun i j => .bl (decide (i < j))) x y H Q ∨ (∃ i j, x = .str i ∧ y = .str j ∧ Q (.bl (decide (i.cps.toList < j.cps.toList))) H)
theorem op_ltD : OpR X (compareOp .Lt) rLtD := op_lt.or op_lt_str
theorem rd_lt : RdO K rLtD oLt := fun F H x y a b c e hx hy hc Q k => by
  cases a <;> cases b <;> simp only [oLt] at hc <;> try (cases hc; done)
  · cases hc; exact .inl ⟨_, _, hx.int, hy.int, flat_q e (.bl _) k⟩
  · cases hc; exact .inr ⟨_, _, hx.str, hy.str, flat_q e (.bl _) k⟩
theorem rd_eq : RdO K (rEqD K) oEq := fun F H x y a b c e hx hy hc Q k => by
  unfold oEq at hc
  split at hc
  · rename_i h
    cases hc
    exact ⟨a, b, da_dp _ _ (SeqAt.canLay_of_shaped h.1) (hx.da e), da_dp _ _ (SeqAt.canLay_of_shaped h.2) (hy.da e), h.1, h.2, flat_q e (.bl _) k⟩
  · cases hc
theorem rd_ne : RdO K (rNeD K) oNe := fun F H x y a b c e hx hy hc Q k => by
  unfold oNe at hc
  split at hc
  · rename_i h
    cases hc
    exact ⟨a, b, da_dp _ _ (SeqAt.canLay_of_shaped h.1) (hx.da e), da_dp _ _ (SeqAt.canLay_of_shaped h.2) (hy.da e), h.1, h.2, flat_q e (.bl _) k⟩
  · cases hc
theorem non_iff {F H : Hp} {x : V} {a : D} (h : Bw K F H x a) : decide (x = .non) = isNone a := by
  cases h with
  | fr h => cases h <;> simp [isNone]
  | ow => simp [isNone]
  | od => simp [isNone]
theorem isNone_eq {a : D} (h : isNone a = true) : a = .none := by cases a <;> simp [isNone] at h; rfl
theorem rd_is : RdO K (fun x y H Q => y = .non ∧ Q (.bl (decide (x = .non))) H) oIs := fun F H x y a b c e hx hy hc Q k => by
  unfold oIs at hc
  split at hc
  · rename_i h
    cases hc
    have hb := isNone_eq h
    subst hb
    refine ⟨hy.none, ?_⟩
    rw [non_iff hx]
    exact flat_q e (.bl _) k
  · cases hc
theorem rd_isnot : RdO K (fun x y H Q => y = .non ∧ Q (.bl (!decide (x = .non))) H) oIsNot := fun F H x y a b c e hx hy hc Q k => by
  unfold oIsNot at hc
  split at hc
  · rename_i h
    cases hc
    have hb := isNone_eq h
    subst hb
    refine ⟨hy.none, ?_⟩
    rw [non_iff hx]
    exact flat_q e (.bl _) k
  · cases hc
/-- in: lists of any data, texts -/
def rInDD (K : PySem.W.Frag) : R2 := fun x y H Q => rInD K x y H Q ∨ (∃ i j, x = .str i ∧ y = .str j ∧ Q (.bl (!(Builtin.Str.occurrences j i 0 j.length 1).isEmpty)) H)
theorem op_inDD (hu : X.A.units + 65 < cLine) : OpR X (compareOp .In) (rInDD X.K) := (op_inD hu).or op_in_str
theorem in_list {F H : Hp} {x y : V} {a : D} {ds : List D} (e : Ex F H) (hx : Bw K F H x a) (hy : Bw K F H y (.list ds)) (h1 : SeqAt.shaped a = true) (h2 : SeqAt.shaped (.list ds) = true) : Dp K H x a ∧ Dp K H y (.list ds) :=
  ⟨da_dp _ _ (SeqAt.canLay_of_shaped h1) (hx.da e), da_dp _ _ (SeqAt.canLay_of_shaped h2) (hy.da e)⟩
theorem oIn_cases {a b c : D} (h : oIn a b = some c) : (∃ ds, b = .list ds ∧ SeqAt.shaped a = true ∧ SeqAt.shaped (.list ds) = true ∧ c = .bool (ds.any fun z => PyData.eqv z a)) ∨
    ∃ x y, a = .str x ∧ b = .str y ∧ c = .bool (!(Builtin.Str.occurrences y x 0 y.length 1).isEmpty) := by
  unfold oIn at h
  split at h
  · split at h
    · rename_i ds z
      cases h
      exact .inl ⟨_, rfl, z.1, z.2, rfl⟩
    · cases h
  · cases h; exact .inr ⟨_, _, rfl, rfl, rfl⟩
  · cases h
theorem rd_in : RdO K (rInDD K) oIn := fun F H x y a b c e hx hy hc Q k => by
  rcases oIn_cases hc with ⟨ds, rfl, h1, h2, rfl⟩ | ⟨i, j, rfl, rfl, rfl⟩
  · obtain ⟨d1, d2⟩ := in_list e hx hy h1 h2
    exact .inl ⟨a, ds, d1, d2, h1, h2, flat_q e (.bl _) k⟩
  · exact .inr ⟨i, j, hx.str, hy.str, flat_q e (.bl _) k⟩
def rNotInDD (K : PySem.W.Frag) : R2 := fun x y H Q => rNotInD K x y H Q ∨ (∃ i j, x = .str i ∧ y = .str j ∧ Q (.bl (!(!(Builtin.Str.occurrences j i 0 j.length 1).isEmpty))) H)
theorem op_notinDD (hu : X.A.units + 65 < cLine) : OpR X (compareOp .NotIn) (rNotInDD X.K) := (op_notInD hu).or op_notin_str
theorem oNotIn_cases {a b c : D} (h : oNotIn a b = some c) : (∃ ds, b = .list ds ∧ SeqAt.shaped a = true ∧ SeqAt.shaped (.list ds) = true ∧ c = .bool (!ds.any fun z => PyData.eqv z a)) ∨
    ∃ x y, a = .str x ∧ b = .str y ∧ c = .bool (!(!(Builtin.Str.occurrences y x 0 y.length 1).isEmpty)) := by
  unfold oNotIn at h
  split at h
  · split at h
    · rename_i ds z
      cases h
      exact .inl ⟨_, rfl, z.1, z.2, rfl⟩
    · cases h
  · cases h; exact .inr ⟨_, _, rfl, rfl, rfl⟩
  · cases h
theorem rd_notin : RdO K (rNotInDD K) oNotIn := fun F H x y a b c e hx hy hc Q k => by
  rcases oNotIn_cases hc with ⟨ds, rfl, h1, h2, rfl⟩ | ⟨i, j, rfl, rfl, rfl⟩
  · obtain ⟨d1, d2⟩ := in_list e hx hy h1 h2
    exact .inl ⟨a, ds, d1, d2, h1, h2, flat_q e (.bl _) k⟩
  · exact .inr ⟨i, j, hx.str, hy.str, flat_q e (.bl _) k⟩
/-- in, of a tuple of flat things -/
theorem flat_v {F : Hp} {x : V} {a : D} (h : Da K F x a) (f : flatD a = true) : flatV x = true := by cases h <;> first | rfl | (simp [flatD] at f)
theorem flat_eq {F : Hp} {x y : V} {a b : D} (h : Da K F x a) (h' : Da K F y b) (f : flatD a = true) (f' : flatD b = true) : eqV x y = PyData.eqv a b := by
  cases h <;> first | (simp [flatD] at f; done) | (cases h' <;> first | (simp [flatD] at f'; done) | (simp only [eqV, PyData.eqv]))
theorem flat_all {F : Hp} {vs : List V} {ds : List D} (h : DaAll K F vs ds) (f : ds.all flatD = true) : vs.all flatV = true := by
  induction ds generalizing vs with
  | nil => cases h; rfl
  | cons d ds ih =>
    cases h with
    | cons h1 h2 =>
      simp only [List.all_cons, Bool.and_eq_true] at f ⊢
      exact ⟨flat_v h1 f.1, ih h2 f.2⟩
theorem flat_any {F : Hp} {x : V} {a : D} {vs : List V} {ds : List D} (h : Da K F x a) (fa : flatD a = true) (q : DaAll K F vs ds) (f : ds.all flatD = true) : inV x vs = ds.any fun z => PyData.eqv z a := by
  induction ds generalizing vs with
  | nil => cases q; rfl
  | cons d ds ih =>
    cases q with
    | cons h1 h2 =>
      simp only [List.all_cons, Bool.and_eq_true] at f
      have := ih h2 f.2
      unfold inV at this ⊢
      simp only [List.any_cons, this, flat_eq h1 h f.1 fa]
theorem flat_da {F H : Hp} {x : V} {a : D} (h : Bw K F H x a) (f : flatD a = true) : Da K F x a := by
  cases h with
  | fr h => exact h
  | ow => simp [flatD] at f
  | od => simp [flatD] at f
theorem rd_inT : RdO K (rIn K false) oInT := fun F H x y a b c e hx hy hc Q k => by
  cases b <;> simp only [oInT] at hc <;> try (cases hc; done)
  split at hc
  · rename_i z
    cases hc
    obtain ⟨p, vs, rfl, h2, h3⟩ := hy.tuple e
    have hx' := flat_da hx z.1
    refine ⟨p, vs, rfl, .inr h2, flat_v hx' z.1, flat_all h3 z.2, ?_⟩
    rw [flat_any hx' z.1 h3 z.2]
    exact flat_q e (.bl _) k
  · cases hc
theorem rd_notinT : RdO K (rIn K true) oNotInT := fun F H x y a b c e hx hy hc Q k => by
  cases b <;> simp only [oNotInT] at hc <;> try (cases hc; done)
  split at hc
  · rename_i z
    cases hc
    obtain ⟨p, vs, rfl, h2, h3⟩ := hy.tuple e
    have hx' := flat_da hx z.1
    refine ⟨p, vs, rfl, .inr h2, flat_v hx' z.1, flat_all h3 z.2, ?_⟩
    rw [flat_any hx' z.1 h3 z.2]
    exact flat_q e (.bl _) k
  · cases hc
/-- x[i] -/
theorem ixD : IxR X (rIx X.K) := ix_list.or (ix_tup.or ix_str)
theorem atI_da {F : Hp} {vs : List V} {ds : List D} {i : Int} {d : D} (h : DaAll K F vs ds) (e : atI ds i = some d) : ∃ v, atI vs i = some v ∧ Da K F v d := by
  unfold atI at e ⊢
  rw [dpa_len h]
  cases z : ixN ds.length i with
  | none => rw [z] at e; cases e
  | some j =>
    rw [z] at e
    obtain ⟨v, e1, e2⟩ := dpa_get h (show ds[j]? = some d from e)
    exact ⟨v, e1, e2⟩
theorem rd_ix : RdO K (rIx K) oIx := fun F H x y a b c e hx hy hc Q k => by
  cases a <;> cases b <;> simp only [oIx] at hc <;> try (cases hc; done)
  · split at hc
    · rename_i z
      obtain ⟨w, h1, h2⟩ := Option.map_eq_some_iff.mp hc
      subst h2
      exact .inr (.inr ⟨_, _, w, hx.str, hy.int, Evl.sz_of z, h1, flat_q e (.str _) k⟩)
    · cases hc
  · obtain ⟨p, vs, rfl, h2, h3⟩ := hx.list e
    obtain ⟨v, e1, e2⟩ := atI_da h3 hc
    exact .inl ⟨p, vs, _, v, rfl, hy.int, Or.inl (Or.inl h2), e1, k F H (.refl e) v e2⟩
  · obtain ⟨p, vs, rfl, h2, h3⟩ := hx.tuple e
    obtain ⟨v, e1, e2⟩ := atI_da h3 hc
    exact .inr (.inl ⟨p, vs, _, v, rfl, hy.int, h2, e1, k F H (.refl e) v e2⟩)
end

/-! ### slices -/
def intD : D → Option Int
  | .int i => some i
  | _ => none
theorem intD_some {a : D} {i : Int} (h : intD a = some i) : a = .int i := by
  cases a <;> simp [intD] at h
  subst h; rfl
def tOD (K : PySem.W.Frag) (mg : Str → Option Value) (W : WX) (f : Env → R (Option Int)) : TO := fun σ H Q => ∃ F0 H0 F ρ, Rep K F0 H0 F H ρ σ ∧ ROk K mg (fun c d H' => W c d σ H') F H (fun b F' H' => Q b H') (f ρ)
structure DO (X : Cx) (W : WX) (e : Option Expr) (f : Env → R (Option Int)) : Prop where
  po : PO X e (tOD X.K X.mg W f)
def pNone : Env → R (Option Int) := fun _ => .ok none
def pSome (f : Env → R D) : Env → R (Option Int) := fun ρ => (f ρ).bind fun a => (ofO (intD a)).bind fun i => .ok (some i)
def cut {α : Type} (xs : List α) (lo hi : Option Int) : List α := (xs.drop (HT.sIx xs.length 0 lo)).take (HT.sIx xs.length xs.length hi - HT.sIx xs.length 0 lo)
/-- a row of the script's, not of a dict -/
def isScr : List (D × D) → Bool
  | (.none, _) :: _ => false
  | _ => true
def oSl : D → Option Int → Option Int → Option D
  | .list xs, lo, hi => some (.list (cut xs lo hi))
  | .tuple xs, lo, hi => some (.tuple (cut xs lo hi))
  | .str z, lo, hi => if z.length ≤ 100000 then some (.str (cutS z lo hi)) else none
  | .dict kvs, lo, hi => if isScr kvs = true then some (.list (cut (kvs.map (fun p => p.1)) lo hi)) else none
  | _, _, _ => none
def cSl (f : Env → R D) (lo hi : Env → R (Option Int)) : Env → R D := fun ρ => (f ρ).bind fun a => (lo ρ).bind fun l => (hi ρ).bind fun h => ofO (oSl a l h)
section
variable {X : Cx} {W : WX} {e e1 e2 e3 : Expr} {lo hi : Option Expr} {es : List Expr} {pos p2 : Pos} {f g h : Env → R D} {fl fh : Env → R (Option Int)}
theorem do_none : DO X W none pNone := ⟨⟨fun pins s σ H Q I ⟨F0, H0, F, ρ, r, k⟩ => po_none.run pins s σ H Q I (k F H (.refl r.g.in_))⟩⟩
theorem do_some (ha : DE X W e f) : DO X W (some e) (pSome f) := ⟨⟨fun pins s σ H Q I ⟨F0, H0, F, ρ, r, k⟩ => (po_some ha.pe).run pins s σ H Q I ⟨F0, H0, F, ρ, r, (ROk.step (r := f ρ) k).imp fun a F' H' _ gr z v hv => by
  obtain ⟨i, e, q⟩ := (ROk.step z).ofO
  have e' := intD_some e
  subst e'
  cases hv
  exact ⟨i, rfl, q F' H' (.refl gr.in_) F' H' (.refl gr.in_)⟩⟩⟩⟩
theorem slD : SlR X (fun x lo hi H Q => (rSlL X.K x lo hi H Q ∨ rSlA X.K x lo hi H Q) ∨ rSlS x lo hi H Q) := (sl_list.or sl_tupA).or sl_str
theorem cut_da {K : PySem.W.Frag} {F : Hp} {vs : List V} {ds : List D} (h : DaAll K F vs ds) (lo hi : Option Int) : DaAll K F (cutV vs lo hi) (cut ds lo hi) := by
  unfold cut cutV
  rw [dpa_len h]
  exact dpa_take _ (dpa_drop _ h)
theorem fst_ints (ns : List Int) : (ns.map fun n => (PyData.int n, PyData.none)).map (fun p => p.1) = ns.map PyData.int := by simp
theorem bw_scr {K : PySem.W.Frag} {F H : Hp} {x : V} {kvs : List (D × D)} (e : Ex F H) (g : isScr kvs = true) (h : Bw K F H x (.dict kvs)) : ∃ (a : Addr) (ns : List Int), x = V.ref a ∧ SqL K H a (ns.map V.int) ∧ kvs.map (fun p => p.1) = ns.map PyData.int := by
  cases h with
  | fr h =>
    cases h with
    | scr hs => exact ⟨_, _, rfl, ex_l e hs, fst_ints _⟩
    | dct _ _ q => rw [q] at g; cases g
  | od _ _ _ q => rw [q] at g; cases g
theorem rd_sl {K : PySem.W.Frag} {F H : Hp} {x : V} {a c : D} {l u : Option Int} {Q : VK} (e : Ex F H) (hx : Bw K F H x a) (hc : oSl a l u = some c) (k : ∀ F' H', Grow F H F' H' → ∀ v, Da K F' v c → Q v H') :
    (rSlL K x l u H Q ∨ rSlA K x l u H Q) ∨ rSlS x l u H Q := by
  cases a <;> simp only [oSl] at hc <;> try (cases hc; done)
  · split at hc
    · rename_i z
      cases hc
      exact .inr ⟨_, hx.str, Evl.sz_of z, flat_q e (.str _) k⟩
    · cases hc
  · cases hc
    obtain ⟨p, vs, rfl, h2, h3⟩ := hx.list e
    exact .inl (.inl ⟨p, vs, rfl, Or.inl (Or.inl h2), fun z hz => k _ _ (Grow.made e hz) _ (.lst upd_same (cut_da (h3.up (Ex.new (Evl.fresh_back e hz))) _ _))⟩)
  · cases hc
    obtain ⟨p, vs, rfl, h2, h3⟩ := hx.tuple e
    refine .inl (.inr ⟨p, vs, rfl, h2, fun w => ?_, fun _ z hz => k _ _ (Grow.made e hz) _ (.tup (Or.inl (Or.inl upd_same)) (cut_da (h3.up (Ex.new (Evl.fresh_back e hz))) _ _))⟩)
    have el := dpa_len h3
    rename_i xs
    have ec : cut xs l u = xs := by
      unfold cut
      rw [← el, w.1, w.2, List.drop_zero, Nat.sub_zero, el]
      exact List.take_length
    rw [ec] at k
    cases hx with
    | fr h => exact k F H (.refl e) _ h
  · split at hc
    · rename_i z
      cases hc
      obtain ⟨p, ns, rfl, h2, h3⟩ := bw_scr e z hx
      rw [h3] at k
      exact .inl (.inl ⟨p, _, rfl, h2, fun z hz => k _ _ (Grow.made e hz) _ (.lst upd_same (cut_da dpa_ints _ _))⟩)
    · cases hc
theorem de_sl (ha : DB X W e f) (hl : DO X W lo fl) (hh : DO X W hi fh) : DE X W (.Subscript e (.Slice lo hi none p2) pos) (cSl f fl fh) :=
  ⟨pe_imp (pe_slice slD ha.pe hl.po hh.po) fun σ H Q ⟨F0, H0, F, ρ, r, k⟩ => ⟨F0, H0, F, ρ, r, (ROk.step (r := f ρ) k).imp fun a F1 H1 _ g1 q1 x hx =>
    ⟨F0, H0, F1, ρ, r.grow g1, (ROk.step (r := fl ρ) q1).imp fun l F2 H2 _ g2 q2 => ⟨F0, H0, F2, ρ, (r.grow g1).grow g2, (ROk.step (r := fh ρ) q2).imp fun u F3 H3 _ g3 q3 => by
      obtain ⟨c, e, q⟩ := q3.ofO
      exact rd_sl g3.in_ ((hx.grow g2).grow g3) e fun F4 H4 g4 v hv => q F4 H4 g4 v hv⟩⟩⟩⟩

/-! ### built-ins called by name -/
/-- a call's reading on borrowed values does what o says -/
def RdC (K : PySem.W.Frag) (r : List V → Hp → VK → Prop) (o : List D → Option D) : Prop := ∀ (F H : Hp) (xs : List V) (as : List D) (c : D), Ex F H → BwAll K F H xs as → o as = some c → ∀ Q : VK, (∀ F' H', Grow F H F' H' → ∀ v, Da K F' v c → Q v H') → r xs H Q
def cBt (o : List D → Option D) (q : Env → R (List D)) : Env → R D := fun ρ => (q ρ).bind fun as => ofO (o as)
theorem de_callB {id : String} {x : Str} {p : Pos} {r : List V → Hp → VK → Prop} {o : List D → Option D} {q : Env → R (List D)} (hr : RdC X.K r o) (hc : CallR X (.builtin id) r) (hg : Gl X x) (hm : X.mg x = none) (hv : bootBuiltins x = some (.builtin id)) (ha : DAB X W (e :: es) q)
    (hn : x ≠ "__name__" := by decide) (hdb : (x == ("__debug__" : Str)) = false := by decide) (he : starEach (e :: es) X.env = (false, eval e X.env) :: starEach es X.env := by rfl) (hpl : (backTo pos (starEach es X.env)).any (·.1) = false := by rfl) :
    DE X W (.Call (.Name x p) (e :: es) [] pos) (cBt o q) :=
  ⟨pe_imp (pe_callB hc hg hm hv ha.pa hn hdb he hpl) fun σ H Q ⟨F0, H0, F, ρ, rp, k⟩ => ⟨F0, H0, F, ρ, rp, (ROk.step (r := q ρ) k).imp fun as F1 H1 _ g1 q1 vs hvs => by
    obtain ⟨c, e, z⟩ := q1.ofO
    exact hr F1 H1 vs as c g1.in_ hvs e Q fun F2 H2 g2 v hv => z F2 H2 g2 v hv⟩⟩
theorem de_callTy {T : String} {x : Str} {p : Pos} {r : List V → Hp → VK → Prop} {o : List D → Option D} {q : Env → R (List D)} (hr : RdC X.K r o) (hc : CallR X (.type T) r) (hg : Gl X x) (hm : X.mg x = none) (hv : bootBuiltins x = some (.type T)) (ha : DAB X W (e :: es) q)
    (hn : x ≠ "__name__" := by decide) (hdb : (x == ("__debug__" : Str)) = false := by decide) (he : starEach (e :: es) X.env = (false, eval e X.env) :: starEach es X.env := by rfl) (hpl : (backTo pos (starEach es X.env)).any (·.1) = false := by rfl) :
    DE X W (.Call (.Name x p) (e :: es) [] pos) (cBt o q) :=
  ⟨pe_imp (pe_callTy hc hg hm hv ha.pa hn hdb he hpl) fun σ H Q ⟨F0, H0, F, ρ, rp, k⟩ => ⟨F0, H0, F, ρ, rp, (ROk.step (r := q ρ) k).imp fun as F1 H1 _ g1 q1 vs hvs => by
    obtain ⟨c, e, z⟩ := q1.ofO
    exact hr F1 H1 vs as c g1.in_ hvs e Q fun F2 H2 g2 v hv => z F2 H2 g2 v hv⟩⟩
end
section
variable {X : Cx} {K : PySem.W.Frag}
def bLen : List D → Option D
  | [.list xs] => some (.int xs.length)
  | [.tuple xs] => some (.int xs.length)
  | [.str z] => if z.length ≤ 100000 then some (.int z.length) else none
  | _ => none
theorem bw1 {F H : Hp} {xs : List V} {a : D} (h : BwAll K F H xs [a]) : ∃ x, xs = [x] ∧ Bw K F H x a := by
  cases h with
  | cons h1 h2 => cases h2; exact ⟨_, rfl, h1⟩
theorem bw2 {F H : Hp} {xs : List V} {a b : D} (h : BwAll K F H xs [a, b]) : ∃ x y, xs = [x, y] ∧ Bw K F H x a ∧ Bw K F H y b := by
  cases h with
  | cons h1 h2 =>
    cases h2 with
    | cons h3 h4 => cases h4; exact ⟨_, _, rfl, h1, h3⟩
theorem rc_len : RdC K (fun xs H Q => ∃ x n, xs = [x] ∧ LenV K x H n ∧ Q (.int n) H) bLen := fun F H xs as c e hx hc Q k => by
  unfold bLen at hc
  split at hc
  · cases hc
    obtain ⟨x, rfl, b⟩ := bw1 hx
    obtain ⟨p, vs, rfl, h2, h3⟩ := b.list e
    refine ⟨_, vs.length, rfl, .inl ⟨vs, Or.inl (Or.inl h2), rfl⟩, ?_⟩
    rw [dpa_len h3]
    exact flat_q e (.int _) k
  · cases hc
    obtain ⟨x, rfl, b⟩ := bw1 hx
    obtain ⟨p, vs, rfl, h2, h3⟩ := b.tuple e
    refine ⟨_, vs.length, rfl, .inr ⟨vs, h2, rfl⟩, ?_⟩
    rw [dpa_len h3]
    exact flat_q e (.int _) k
  · split at hc
    · rename_i z hz
      cases hc
      obtain ⟨x, rfl, b⟩ := bw1 hx
      exact ⟨x, z.length, rfl, by rw [b.str]; exact ⟨Evl.sz_of hz, rfl⟩, flat_q e (.int _) k⟩
    · cases hc
  · cases hc
def bAbs : List D → Option D
  | [.int i] => some (.int (if i < 0 then -i else i))
  | _ => none
theorem rc_abs : RdC K (fun xs H Q => ∃ i, xs = [.int i] ∧ Q (.int (if i < 0 then -i else i)) H) bAbs := fun F H xs as c e hx hc Q k => by
  unfold bAbs at hc
  split at hc
  · cases hc
    obtain ⟨x, rfl, b⟩ := bw1 hx
    exact ⟨_, by rw [b.int], flat_q e (.int _) k⟩
  · cases hc
def bMax2 : List D → Option D
  | [.int i, .int j] => some (.int (if j > i then j else i))
  | _ => none
theorem rc_max2 : RdC K (fun xs H Q => ∃ i j, xs = [.int i, .int j] ∧ Q (.int (if j > i then j else i)) H) bMax2 := fun F H xs as c e hx hc Q k => by
  unfold bMax2 at hc
  split at hc
  · cases hc
    obtain ⟨x, y, rfl, b, b'⟩ := bw2 hx
    exact ⟨_, _, by rw [b.int, b'.int], flat_q e (.int _) k⟩
  · cases hc
def bMin2 : List D → Option D
  | [.int i, .int j] => some (.int (if j < i then j else i))
  | _ => none
theorem rc_min2 : RdC K (fun xs H Q => ∃ i j, xs = [.int i, .int j] ∧ Q (.int (if j < i then j else i)) H) bMin2 := fun F H xs as c e hx hc Q k => by
  unfold bMin2 at hc
  split at hc
  · cases hc
    obtain ⟨x, y, rfl, b, b'⟩ := bw2 hx
    exact ⟨_, _, by rw [b.int, b'.int], flat_q e (.int _) k⟩
  · cases hc
def bInt : List D → Option D
  | [.int i] => some (.int i)
  | [.bool b] => some (.int (if b then 1 else 0))
  | [.str s] => if s.length ≤ 640 then (PySem.intText? s).map fun n => .int n else none
  | _ => none
theorem call_intD : CallR X (.type "int") (fun xs H Q => ((∃ i, xs = [.int i] ∧ Q (.int i) H) ∨ ∃ k, xs = [.bl k] ∧ Q (.int (if k then 1 else 0)) H) ∨ ∃ a n, xs = [.str a] ∧ PySem.intText? a = some n ∧ a.length ≤ 640 ∧ Q (.int n) H) := by
  refine CallR.or call_int1 ?_
  intro pins
  intro s σ H xs us Q I r h
  obtain ⟨a, n, rfl, h1, h2, q⟩ := h
  exact call_int_str pins s σ H _ us Q I r ⟨a, n, rfl, h1, h2, q⟩
theorem rc_int : RdC K (fun xs H Q => ((∃ i, xs = [.int i] ∧ Q (.int i) H) ∨ ∃ k, xs = [.bl k] ∧ Q (.int (if k then 1 else 0)) H) ∨ ∃ a n, xs = [.str a] ∧ PySem.intText? a = some n ∧ a.length ≤ 640 ∧ Q (.int n) H) bInt := fun F H xs as c e hx hc Q k => by
  unfold bInt at hc
  split at hc
  · cases hc
    obtain ⟨x, rfl, b⟩ := bw1 hx
    exact .inl (.inl ⟨_, by rw [b.int], flat_q e (.int _) k⟩)
  · cases hc
    obtain ⟨x, rfl, b⟩ := bw1 hx
    exact .inl (.inr ⟨_, by rw [b.bool], flat_q e (.int _) k⟩)
  · split at hc
    · rename_i hz
      obtain ⟨n, h1, h2⟩ := Option.map_eq_some_iff.mp hc
      subst h2
      obtain ⟨x, rfl, b⟩ := bw1 hx
      exact .inr ⟨_, n, by rw [b.str], h1, hz, flat_q e (.int _) k⟩
    · cases hc
  · cases hc
def bStr : List D → Option D
  | [.int i] => if i.natAbs.log2 < 1920 then some (.str (toString i)) else none
  | _ => none
theorem rc_str : RdC K (fun xs H Q => ∃ i, xs = [.int i] ∧ i.natAbs.log2 < 1920 ∧ Q (.str (toString i)) H) bStr := fun F H xs as c e hx hc Q k => by
  unfold bStr at hc
  split at hc
  · split at hc
    · rename_i hz
      cases hc
      obtain ⟨x, rfl, b⟩ := bw1 hx
      exact ⟨_, by rw [b.int], hz, flat_q e (.str _) k⟩
    · cases hc
  · cases hc
def bTuple : List D → Option D
  | [.list xs] => some (.tuple xs)
  | [.tuple xs] => some (.tuple xs)
  | _ => none
theorem rc_tuple : RdC K (fun xs H Q => ∃ p ys, xs = [.ref p] ∧ ((SqL K H p ys ∧ ∀ l, H l = none → Q (.ref l) (upd H l (.tup ys))) ∨ (SqT K H p ys ∧ Q (.ref p) H))) bTuple := fun F H xs as c e hx hc Q k => by
  unfold bTuple at hc
  split at hc
  · cases hc
    obtain ⟨x, rfl, b⟩ := bw1 hx
    obtain ⟨p, vs, rfl, h2, h3⟩ := b.list e
    exact ⟨p, vs, rfl, .inl ⟨Or.inl (Or.inl h2), fun z hz => k _ _ (Grow.made e hz) _ (.tup (Or.inl (Or.inl upd_same)) (h3.up (Ex.new (Evl.fresh_back e hz))))⟩⟩
  · cases hc
    obtain ⟨x, rfl, b⟩ := bw1 hx
    obtain ⟨p, vs, rfl, h2, h3⟩ := b.tuple e
    cases b with
    | fr h => exact ⟨p, vs, rfl, .inr ⟨h2, k F H (.refl e) _ h⟩⟩
  · cases hc
def bList : List D → Option D
  | [.list xs] => some (.list xs)
  | [.tuple xs] => some (.list xs)
  | _ => none
theorem rc_list : RdC K (fun xs H Q => ∃ p ys, xs = [.ref p] ∧ (SqL K H p ys ∨ SqT K H p ys) ∧ ∀ l, H l = none → Q (.ref l) (upd H l (.lst ys))) bList := fun F H xs as c e hx hc Q k => by
  unfold bList at hc
  split at hc
  · cases hc
    obtain ⟨x, rfl, b⟩ := bw1 hx
    obtain ⟨p, vs, rfl, h2, h3⟩ := b.list e
    exact ⟨p, vs, rfl, .inl (Or.inl (Or.inl h2)), fun z hz => k _ _ (Grow.made e hz) _ (.lst upd_same (h3.up (Ex.new (Evl.fresh_back e hz))))⟩
  · cases hc
    obtain ⟨x, rfl, b⟩ := bw1 hx
    obtain ⟨p, vs, rfl, h2, h3⟩ := b.tuple e
    exact ⟨p, vs, rfl, .inr h2, fun z hz => k _ _ (Grow.made e hz) _ (.lst upd_same (h3.up (Ex.new (Evl.fresh_back e hz))))⟩
  · cases hc
/-- rows of ints, of bools -/
def intsD : List D → Option (List Int)
  | [] => some []
  | .int i :: r => (intsD r).map (i :: ·)
  | _ => none
theorem intsD_some : ∀ {ds : List D} {ns : List Int}, intsD ds = some ns → ds = ns.map PyData.int
  | [], ns, h => by simp [intsD] at h; subst h; rfl
  | d :: ds, ns, h => by
    cases d <;> simp only [intsD] at h <;> try (cases h; done)
    obtain ⟨m, h1, h2⟩ := Option.map_eq_some_iff.mp h
    subst h2
    rw [List.map_cons, ← intsD_some h1]
theorem intsD_map : ∀ ns : List Int, intsD (ns.map PyData.int) = some ns
  | [] => rfl
  | n :: ns => by simp [intsD, intsD_map ns]
def blsD : List D → Option (List Bool)
  | [] => some []
  | .bool i :: r => (blsD r).map (i :: ·)
  | _ => none
theorem blsD_some : ∀ {ds : List D} {ns : List Bool}, blsD ds = some ns → ds = ns.map PyData.bool
  | [], ns, h => by simp [blsD] at h; subst h; rfl
  | d :: ds, ns, h => by
    cases d <;> simp only [blsD] at h <;> try (cases h; done)
    obtain ⟨m, h1, h2⟩ := Option.map_eq_some_iff.mp h
    subst h2
    rw [List.map_cons, ← blsD_some h1]
theorem blsD_map : ∀ ns : List Bool, blsD (ns.map PyData.bool) = some ns
  | [] => rfl
  | n :: ns => by simp [blsD, blsD_map ns]
def bSum : List D → Option D
  | [.list xs] => (intsD xs).map fun ns => .int ns.sum
  | _ => none
theorem rc_sum : RdC K (rSum K) bSum := fun F H xs as c e hx hc Q k => by
  unfold bSum at hc
  split at hc
  · obtain ⟨ns, h1, h2⟩ := Option.map_eq_some_iff.mp hc
    subst h2
    obtain ⟨x, rfl, b⟩ := bw1 hx
    obtain ⟨p, vs, rfl, h2, h3⟩ := b.list e
    rw [intsD_some h1] at h3
    have e3 := dpa_toInts h3
    subst e3
    exact ⟨p, ns, rfl, Or.inl (Or.inl h2), flat_q e (.int _) k⟩
  · cases hc
def bAll : List D → Option D
  | [.list xs] => (blsD xs).map fun ns => .bool (ns.all id)
  | _ => none
theorem rc_all : RdC K (rAll K) bAll := fun F H xs as c e hx hc Q k => by
  unfold bAll at hc
  split at hc
  · obtain ⟨ns, h1, h2⟩ := Option.map_eq_some_iff.mp hc
    subst h2
    obtain ⟨x, rfl, b⟩ := bw1 hx
    obtain ⟨p, vs, rfl, h2, h3⟩ := b.list e
    rw [blsD_some h1] at h3
    have e3 := dpa_toBls h3
    subst e3
    exact ⟨p, ns, rfl, Or.inl (Or.inl h2), flat_q e (.bl _) k⟩
  · cases hc
def bAny : List D → Option D
  | [.list xs] => (blsD xs).map fun ns => .bool (ns.any id)
  | _ => none
theorem rc_any : RdC K (rAny K) bAny := fun F H xs as c e hx hc Q k => by
  unfold bAny at hc
  split at hc
  · obtain ⟨ns, h1, h2⟩ := Option.map_eq_some_iff.mp hc
    subst h2
    obtain ⟨x, rfl, b⟩ := bw1 hx
    obtain ⟨p, vs, rfl, h2, h3⟩ := b.list e
    rw [blsD_some h1] at h3
    have e3 := dpa_toBls h3
    subst e3
    exact ⟨p, ns, rfl, Or.inl (Or.inl h2), flat_q e (.bl _) k⟩
  · cases hc
/-! isinstance of a built-in class -/
def tyN : D → String
  | .none => "NoneType"
  | .bool _ => "bool"
  | .int _ => "int"
  | .str _ => "str"
  | .list _ => "list"
  | .tuple _ => "tuple"
  | .dict r => if isScr r = true then "list" else "dict"
theorem tyX_of {F H : Hp} {x : V} {a : D} (e : Ex F H) (h : Bw K F H x a) : TyX K H x (.type (tyN a)) := by
  have lst : ∀ {p : Addr} {vs : List V}, SqL K H p vs → TyX K H (.ref p) (.type "list") := fun {p vs} h => by
    rcases h with (h | ⟨o, h⟩) | ⟨o, its, n, h1, h2, _⟩
    · exact .base (.lst h)
    · exact .base (.frz h)
    · exact .kList h1 h2
  cases h with
  | fr h =>
    cases h with
    | non => exact .base .non
    | bl b => exact .base (.bl b)
    | int b => exact .base (.int b)
    | str b => exact .base (.str b)
    | lst hs _ => exact lst (Or.inl (Or.inl (e _ _ hs)))
    | tup hs _ =>
      rcases ex_t e hs with (h | ⟨o, h⟩) | ⟨o, its, n, h1, h2, _⟩
      · exact .base (.tup h)
      · exact .fTuple h
      · exact .kTuple h1 h2
    | scr hs =>
      rename_i a ns
      have g : isScr (ns.map fun n => (PyData.int n, PyData.none)) = true := by cases ns <;> rfl
      rw [show tyN (.dict (ns.map fun n => (PyData.int n, PyData.none))) = "list" by simp only [tyN, g, if_true]]
      exact lst (ex_l e hs)
    | dct hs _ q =>
      subst q
      exact .base (.dK (e _ _ hs))
  | ow h n a => exact lst (Or.inl (Or.inl h))
  | od h n a q =>
    subst q
    exact .base (.dK h)
def isIntD : D → Bool
  | .int _ => true
  | .bool _ => true
  | _ => false
def isBoolD : D → Bool
  | .bool _ => true
  | _ => false
def isStrD : D → Bool
  | .str _ => true
  | _ => false
def isTupleD : D → Bool
  | .tuple _ => true
  | _ => false
def isListD : D → Bool
  | .list _ => true
  | .dict r => isScr r
  | _ => false
structure IsTy (T : String) (p : D → Bool) : Prop where
  hv : bootBuiltins (Str.ofString T) = some (.type T)
  hp : ∀ d : D, kitB (tyN d) T = some (p d)
theorem is_int : IsTy "int" isIntD := ⟨by decide +kernel, fun d => by cases d <;> simp only [tyN, isIntD] <;> first | decide +kernel | (rename_i r; cases isScr r <;> decide +kernel)⟩
theorem is_bool : IsTy "bool" isBoolD := ⟨by decide +kernel, fun d => by cases d <;> simp only [tyN, isBoolD] <;> first | decide +kernel | (rename_i r; cases isScr r <;> decide +kernel)⟩
theorem is_str : IsTy "str" isStrD := ⟨by decide +kernel, fun d => by cases d <;> simp only [tyN, isStrD] <;> first | decide +kernel | (rename_i r; cases isScr r <;> decide +kernel)⟩
theorem is_tuple : IsTy "tuple" isTupleD := ⟨by decide +kernel, fun d => by cases d <;> simp only [tyN, isTupleD] <;> first | decide +kernel | (rename_i r; cases isScr r <;> decide +kernel)⟩
theorem is_list : IsTy "list" isListD := ⟨by decide +kernel, fun d => by cases d <;> simp only [tyN, isListD] <;> first | decide +kernel | (rename_i r; cases isScr r <;> decide +kernel)⟩
def cIs (p : D → Bool) (f : Env → R D) : Env → R D := fun ρ => (f ρ).bind fun a => .ok (.bool (p a))
theorem de_isinst {W : WX} {T : String} {pr : D → Bool} {e : Expr} {f : Env → R D} {p p2 pos : Pos} (t : IsTy T pr) (hg : Gl X "isinstance") (hm : X.mg "isinstance" = none) (hg2 : Gl X (Str.ofString T)) (hm2 : X.mg (Str.ofString T) = none) (ha : DB X W e f)
    (hn : Str.ofString T ≠ "__name__" := by decide) (hdb : (Str.ofString T == ("__debug__" : Str)) = false := by decide)
    (he : starEach [e, .Name (Str.ofString T) p2] X.env = (false, eval e X.env) :: starEach [.Name (Str.ofString T) p2] X.env := by rfl) (hpl : (backTo pos (starEach [.Name (Str.ofString T) p2] X.env)).any (·.1) = false := by rfl) :
    DE X W (.Call (.Name "isinstance" p) [e, .Name (Str.ofString T) p2] [] pos) (cIs pr f) := by
  have pt : PE X (.Name (Str.ofString T) p2) (tC (.ty T)) := pe_bltn hg2 hm2 t.hv rfl hn hdb
  exact ⟨pe_imp (pe_callB call_isi hg hm PyProof.Rows.boot_isinstance (pa_cons ha.pe (pa_cons pt pa_nil) he) (by decide) (by decide) he hpl) fun σ H Q ⟨F0, H0, F, ρ, r, k⟩ => ⟨F0, H0, F, ρ, r, (ROk.step (r := f ρ) k).imp fun a F1 H1 _ g1 q1 x hx =>
    ⟨x, .ty T, .type (tyN a), .type T, pr a, rfl, .ty T, tyX_of g1.in_ hx, kit_ty (t.hp a), q1 F1 H1 (.refl g1.in_) _ (.bl _)⟩⟩⟩
end
end DL

/-! DLd -/
namespace DL
open PySem L2 PySem.Spec PyProof.Rows
open Evl (Ex ex_l ex_t ex_rd)

/-! ### expressions for slots: frozen data, or a list of the frame's own -/
def SVal (K : PySem.W.Frag) (H F' H' : Hp) (v : V) : SV → Prop
  | .no => False
  | .val d => Da K F' v d
  | .own ds => ∃ p vs, v = .ref p ∧ H p = none ∧ F' p = none ∧ H' p = some (.lst vs) ∧ DaAll K F' vs ds
  | .dic ds => ∃ p vs, v = .ref p ∧ H p = none ∧ F' p = none ∧ H' p = some (.dK vs) ∧ DKs K F' vs ds
def tX (K : PySem.W.Frag) (mg : Str → Option Value) (W : WX) (f : Env → R SV) : TE := fun σ H Q => ∃ F0 H0 F ρ, Rep K F0 H0 F H ρ σ ∧ ROk K mg (fun c d H' => W c d σ H') F H (fun a F' H' => ∀ v, SVal K H F' H' v a → Q v H') (f ρ)
structure DX (X : Cx) (W : WX) (e : Expr) (f : Env → R SV) : Prop where
  pe : PE X e (tX X.K X.mg W f)
def asVal (f : Env → R D) : Env → R SV := fun ρ => (f ρ).bind fun d => .ok (.val d)
def asOwn (f : Env → R (List D)) : Env → R SV := fun ρ => (f ρ).bind fun d => .ok (.own d)
theorem map_ok {α β : Type} {K : PySem.W.Frag} {mg : Str → Option Value} {W : XK} {F H : Hp} {P : β → Hp → Hp → Prop} {r : R α} {k : α → β} (h : ROk K mg W F H P (r.bind fun a => .ok (k a))) : ROk K mg W F H (fun a F' H' => P (k a) F' H') r := by
  cases r with
  | ok a => exact h
  | exc x => exact h
  | bad => exact h
section
variable {X : Cx} {W : WX} {e e1 e2 e3 : Expr} {es : List Expr} {pos : Pos} {f g h : Env → R D}
theorem DE.x (q : DE X W e f) : DX X W e (asVal f) := ⟨pe_imp q.pe fun σ H Q ⟨F0, H0, F, ρ, r, k⟩ => ⟨F0, H0, F, ρ, r, (map_ok (k := fun d => SV.val d) k).imp fun d F' H' _ _ z v hv => z v hv⟩⟩
theorem DN.x {f : Env → R (List D)} (q : DN X W e f) : DX X W e (asOwn f) := ⟨pe_imp q.pe fun σ H Q ⟨F0, H0, F, ρ, r, k⟩ => ⟨F0, H0, F, ρ, r, (map_ok (k := fun d => SV.own d) k).imp fun d F' H' _ _ z p vs h1 h2 h3 h4 => z _ ⟨p, vs, rfl, h1, h2, h3, h4⟩⟩⟩
end
section
variable {K : PySem.W.Frag} {F0 H0 F H F' H' : Hp} {ρ : Env} {σ : L2.St} {v : V} {sv : SV}
theorem lset_get {α : Type} {l : List α} {i j : Nat} {a b : α} (h : (l.set i a)[j]? = some b) : (i = j ∧ b = a) ∨ (i ≠ j ∧ l[j]? = some b) := by
  rw [List.getElem?_set] at h
  split at h
  · split at h
    · exact .inl ⟨by assumption, (Option.some.inj h).symm⟩
    · cases h
  · exact .inr ⟨by assumption, h⟩
theorem lset_lt {α : Type} {l : List α} {i : Nat} {a b : α} (h : (l.set i a)[i]? = some b) : i < l.length := by
  have := (List.getElem?_eq_some_iff.mp h).1
  rw [List.length_set] at this
  exact this
theorem Rep.setSV (r : Rep K F0 H0 F H ρ σ) (g : Grow F H F' H') (hv : SVal K H F' H' v sv) (i : Nat) : Rep K F0 H0 F' H' (ρ.set i sv) (σ.set i (some v)) := by
  have r' := r.grow g
  have at_i : ∀ {b : SV}, (ρ.set i sv)[i]? = some b → (σ.set i (some v))[i]? = some (some v) := fun h => by
    have := lset_lt h
    rw [List.getElem?_set_self (by rw [← r.len]; exact this)]
  have off : ∀ {j : Nat}, i ≠ j → (σ.set i (some v))[j]? = σ[j]? := fun h => List.getElem?_set_ne h
  refine ⟨r'.g, by simp [r'.len], fun j d e => ?_, fun j ds e => ?_, fun j k ds es p ne e1 e2 e3 e4 => ?_, fun j ds e => ?_, fun j k ds es p ne e1 e2 e3 e4 => ?_⟩
  · rcases lset_get e with ⟨rfl, e'⟩ | ⟨ne, e'⟩
    · subst e'
      exact ⟨v, at_i e, hv⟩
    · rw [off ne]
      exact r'.val j d e'
  · rcases lset_get e with ⟨rfl, e'⟩ | ⟨ne, e'⟩
    · subst e'
      obtain ⟨p, vs, rfl, h1, h2, h3, h4⟩ := hv
      exact ⟨p, vs, at_i e, Evl.fresh_back r.g.h h1, h2, h3, h4⟩
    · rw [off ne]
      exact r'.own j ds e'
  · have sep : ∀ {a b : Nat} {xs ys : List D}, i = a → i ≠ b → (ρ.set i sv)[a]? = some (.own xs) → ρ[b]? = some (.own ys) → (σ.set i (some v))[a]? = some (some (.ref p)) → σ[b]? = some (some (.ref p)) → False := fun {a b xs ys} ea nb q1 q2 q3 q4 => by
      subst ea
      rcases lset_get q1 with ⟨_, z⟩ | ⟨ne, _⟩
      · subst z
        obtain ⟨p', vs, rfl, h1, h2, h3, h4⟩ := hv
        rw [at_i q1] at q3
        have : p' = p := by injection (Option.some.inj q3) with q5; injection q5
        subst this
        obtain ⟨q, vs', e5, _, _, e6, _⟩ := r.own b ys q2
        rw [q4] at e5
        have : p' = q := by injection (Option.some.inj e5) with q5; injection q5
        subst this
        rw [h1] at e6; cases e6
      · exact ne rfl
    rcases lset_get e1 with ⟨h1, z1⟩ | ⟨h1, z1⟩
    · rcases lset_get e2 with ⟨h2, z2⟩ | ⟨h2, z2⟩
      · exact ne (h1.symm.trans h2)
      · rw [off h2] at e4
        exact sep h1 h2 e1 z2 e3 e4
    · rcases lset_get e2 with ⟨h2, z2⟩ | ⟨h2, z2⟩
      · rw [off h1] at e3
        exact sep h2 h1 e2 z1 e4 e3
      · rw [off h1] at e3
        rw [off h2] at e4
        exact r'.inj j k ds es p ne z1 z2 e3 e4
  · rcases lset_get e with ⟨rfl, e'⟩ | ⟨ne, e'⟩
    · subst e'
      obtain ⟨p, vs, rfl, h1, h2, h3, h4⟩ := hv
      exact ⟨p, vs, at_i e, Evl.fresh_back r.g.h h1, h2, h3, h4⟩
    · rw [off ne]
      exact r'.dic j ds e'
  · have sep : ∀ {a b : Nat} {xs ys : List (Key × D)}, i = a → i ≠ b → (ρ.set i sv)[a]? = some (.dic xs) → ρ[b]? = some (.dic ys) → (σ.set i (some v))[a]? = some (some (.ref p)) → σ[b]? = some (some (.ref p)) → False := fun {a b xs ys} ea nb q1 q2 q3 q4 => by
      subst ea
      rcases lset_get q1 with ⟨_, z⟩ | ⟨ne, _⟩
      · subst z
        obtain ⟨p', vs, rfl, h1, h2, h3, h4⟩ := hv
        rw [at_i q1] at q3
        have : p' = p := by injection (Option.some.inj q3) with q5; injection q5
        subst this
        obtain ⟨q, vs', e5, _, _, e6, _⟩ := r.dic b ys q2
        rw [q4] at e5
        have : p' = q := by injection (Option.some.inj e5) with q5; injection q5
        subst this
        rw [h1] at e6; cases e6
      · exact ne rfl
    rcases lset_get e1 with ⟨h1, z1⟩ | ⟨h1, z1⟩
    · rcases lset_get e2 with ⟨h2, z2⟩ | ⟨h2, z2⟩
      · exact ne (h1.symm.trans h2)
      · rw [off h2] at e4
        exact sep h1 h2 e1 z2 e3 e4
    · rcases lset_get e2 with ⟨h2, z2⟩ | ⟨h2, z2⟩
      · rw [off h1] at e3
        exact sep h2 h1 e2 z1 e4 e3
      · rw [off h1] at e3
        rw [off h2] at e4
        exact r'.injd j k ds es p ne z1 z2 e3 e4
theorem Rep.setVal {d : D} (r : Rep K F0 H0 F H ρ σ) (hv : Da K F v d) (i : Nat) : Rep K F0 H0 F H (ρ.set i (.val d)) (σ.set i (some v)) := r.setSV (.refl r.g.in_) (sv := .val d) hv i
/-- a slot forgotten -/
theorem Rep.drop (r : Rep K F0 H0 F H ρ σ) (i : Nat) (x : Option V) : Rep K F0 H0 F H (ρ.set i .no) (σ.set i x) := by
  have off : ∀ {j : Nat}, i ≠ j → (σ.set i x)[j]? = σ[j]? := fun h => List.getElem?_set_ne h
  refine ⟨r.g, by simp [r.len], fun j d e => ?_, fun j ds e => ?_, fun j k ds es p ne e1 e2 e3 e4 => ?_, fun j ds e => ?_, fun j k ds es p ne e1 e2 e3 e4 => ?_⟩
  · rcases lset_get e with ⟨rfl, e'⟩ | ⟨ne, e'⟩
    · cases e'
    · rw [off ne]; exact r.val j d e'
  · rcases lset_get e with ⟨rfl, e'⟩ | ⟨ne, e'⟩
    · cases e'
    · rw [off ne]; exact r.own j ds e'
  · rcases lset_get e1 with ⟨_, z⟩ | ⟨h1, z1⟩
    · cases z
    · rcases lset_get e2 with ⟨_, z⟩ | ⟨h2, z2⟩
      · cases z
      · rw [off h1] at e3
        rw [off h2] at e4
        exact r.inj j k ds es p ne z1 z2 e3 e4
  · rcases lset_get e with ⟨rfl, e'⟩ | ⟨ne, e'⟩
    · cases e'
    · rw [off ne]; exact r.dic j ds e'
  · rcases lset_get e1 with ⟨_, z⟩ | ⟨h1, z1⟩
    · cases z
    · rcases lset_get e2 with ⟨_, z⟩ | ⟨h2, z2⟩
      · cases z
      · rw [off h1] at e3
        rw [off h2] at e4
        exact r.injd j k ds es p ne z1 z2 e3 e4
/-- an own list, from now on frozen -/
def frz (i : Nat) (ρ : Env) : Env := match ρ[i]? with
  | some (.own ds) => ρ.set i (.val (.list ds))
  | some (.dic ds) => ρ.set i (.val (dcD ds))
  | _ => ρ
theorem lset_id {α : Type} {l : List α} {i : Nat} {a : α} (h : l[i]? = some a) : l.set i a = l := by
  apply List.ext_getElem?
  intro j
  rw [List.getElem?_set]
  split
  · rename_i e
    subst e
    have := (List.getElem?_eq_some_iff.mp h).1
    rw [if_pos this, h]
  · rfl
theorem Rep.frz (r : Rep K F0 H0 F H ρ σ) (i : Nat) : ∃ F', Ex F F' ∧ Rep K F0 H0 F' H (frz i ρ) σ := by
  unfold DL.frz
  split
  · rename_i ds e
    obtain ⟨p, vs, e1, e2, e3, e4, e5⟩ := r.own i ds e
    have fz := Grow.freeze r.g.in_ e4 e3
    have up : Rep K F0 H0 (upd F p (.lst vs)) H (ρ.set i .no) σ := by
      have r1 := r.drop i (some (.ref p))
      rw [lset_id e1] at r1
      refine ⟨⟨r1.g.f.trans fz.1, r1.g.h, fz.2, fun a o q n => ?_⟩, r1.len, fun j d q => ?_, fun j es q => ?_, r1.inj, fun j es q => ?_, r1.injd⟩
      · by_cases y : a = p
        · subst y; exact e2
        · rw [upd_ne y] at q; exact r.g.new a o q n
      · obtain ⟨v, q1, q2⟩ := r1.val j d q
        exact ⟨v, q1, q2.up fz.1⟩
      · obtain ⟨p', vs', q1, q2, q3, q4, q5⟩ := r1.own j es q
        have ne : i ≠ j := fun z => by
          subst z
          rcases lset_get q with ⟨_, z⟩ | ⟨z, _⟩
          · cases z
          · exact z rfl
        have pne : p' ≠ p := fun z => by
          subst z
          rcases lset_get q with ⟨z, _⟩ | ⟨_, z⟩
          · exact ne z
          · exact r.inj i j ds es p' ne e z e1 q1
        exact ⟨p', vs', q1, q2, by rw [upd_ne pne]; exact q3, q4, q5.up fz.1⟩
      · obtain ⟨p', vs', q1, q2, q3, q4, q5⟩ := r1.dic j es q
        have pne : p' ≠ p := fun z => by
          subst z
          rw [e4] at q4
          cases q4
        exact ⟨p', vs', q1, q2, by rw [upd_ne pne]; exact q3, q4, q5.up fz.1⟩
    refine ⟨_, fz.1, ?_⟩
    have z := up.setVal (v := .ref p) (d := .list ds) (.lst upd_same (e5.up fz.1)) i
    rw [List.set_set, lset_id e1] at z
    exact z
  · rename_i ds e
    obtain ⟨p, vs, e1, e2, e3, e4, e5⟩ := r.dic i ds e
    have fz := Grow.freeze r.g.in_ e4 e3
    have up : Rep K F0 H0 (upd F p (.dK vs)) H (ρ.set i .no) σ := by
      have r1 := r.drop i (some (.ref p))
      rw [lset_id e1] at r1
      refine ⟨⟨r1.g.f.trans fz.1, r1.g.h, fz.2, fun a o q n => ?_⟩, r1.len, fun j d q => ?_, fun j es q => ?_, r1.inj, fun j es q => ?_, r1.injd⟩
      · by_cases y : a = p
        · subst y; exact e2
        · rw [upd_ne y] at q; exact r.g.new a o q n
      · obtain ⟨v, q1, q2⟩ := r1.val j d q
        exact ⟨v, q1, q2.up fz.1⟩
      · obtain ⟨p', vs', q1, q2, q3, q4, q5⟩ := r1.own j es q
        have pne : p' ≠ p := fun z => by
          subst z
          rw [e4] at q4
          cases q4
        exact ⟨p', vs', q1, q2, by rw [upd_ne pne]; exact q3, q4, q5.up fz.1⟩
      · obtain ⟨p', vs', q1, q2, q3, q4, q5⟩ := r1.dic j es q
        have ne : i ≠ j := fun z => by
          subst z
          rcases lset_get q with ⟨_, z⟩ | ⟨z, _⟩
          · cases z
          · exact z rfl
        have pne : p' ≠ p := fun z => by
          subst z
          rcases lset_get q with ⟨z, _⟩ | ⟨_, z⟩
          · exact ne z
          · exact r.injd i j ds es p' ne e z e1 q1
        exact ⟨p', vs', q1, q2, by rw [upd_ne pne]; exact q3, q4, q5.up fz.1⟩
    refine ⟨_, fz.1, ?_⟩
    have z := up.setVal (v := .ref p) (d := dcD ds) (.dct upd_same (e5.up fz.1) rfl) i
    rw [List.set_set, lset_id e1] at z
    exact z
  · exact ⟨F, .refl F, r⟩
end

/-! ### targets -/
def Out2 (σ σ' : L2.St) (ts : List Nat) : Prop := σ'.length = σ.length ∧ ∀ j, j ∉ ts → σ'[j]? = σ[j]?
def tG (K : PySem.W.Frag) (ts : List Nat) (s : D → Env → Option Env) : TG := fun v σ H Q => ∃ F0 H0 F ρ d ρ', Rep K F0 H0 F H ρ σ ∧ Da K F v d ∧ s d ρ = some ρ' ∧ ∀ σ', Rep K F0 H0 F H ρ' σ' → Out2 σ σ' ts → Q σ' H
def tGs (K : PySem.W.Frag) (ts : List Nat) (s : List D → Env → Option Env) : TGs := fun vs σ H Q => ∃ F0 H0 F ρ ds ρ', Rep K F0 H0 F H ρ σ ∧ DaAll K F vs ds ∧ s ds ρ = some ρ' ∧ ∀ σ', Rep K F0 H0 F H ρ' σ' → Out2 σ σ' ts → Q σ' H
structure DG (X : Cx) (ts : List Nat) (tg : Expr) (s : D → Env → Option Env) : Prop where
  pg : PG X tg (tG X.K ts s)
structure DGs (X : Cx) (ts : List Nat) (tgs : List Expr) (s : List D → Env → Option Env) : Prop where
  pgs : PGs X tgs (tGs X.K ts s)
theorem pg_imp {X : Cx} {e : Expr} {t t' : TG} (q : PG X e t) (i : ∀ v σ H Q, t' v σ H Q → t v σ H Q) : PG X e t' := ⟨fun pins s σ H v u Q I r z => q.run pins s σ H v u Q I r (i v σ H Q z)⟩
theorem pgs_imp {X : Cx} {es : List Expr} {t t' : TGs} (q : PGs X es t) (i : ∀ v σ H Q, t' v σ H Q → t v σ H Q) : PGs X es t' := ⟨fun pins s σ H v u Q I r z => q.run pins s σ H v u Q I r (i v σ H Q z)⟩
def sName (i : Nat) : D → Env → Option Env := fun d ρ => some (ρ.set i (.val d))
def sNil : List D → Env → Option Env := fun ds ρ => match ds with
  | [] => some ρ
  | _ => none
def sCons (s : D → Env → Option Env) (q : List D → Env → Option Env) : List D → Env → Option Env := fun ds ρ => match ds with
  | d :: r => (s d ρ).bind fun ρ' => q r ρ'
  | [] => none
def sTup (q : List D → Env → Option Env) : D → Env → Option Env := fun d ρ => match d with
  | .tuple ds => q ds ρ
  | _ => none
section
variable {X : Cx} {pos : Pos}
theorem out2_set (σ : L2.St) (i : Nat) (x : Option V) : Out2 σ (σ.set i x) [i] := ⟨List.length_set, fun j hj => List.getElem?_set_ne fun e => hj (by simp [e])⟩
theorem dg_name {i : Nat} {x : Str} (hN : X.N.Nodup) (hi : X.N[i]? = some x) (hx : Loc X.env.scope x) (hf : X.fn x = true ∨ X.env.scope.names.lookup x = some .local := by first | exact .inl rfl | exact .inr rfl | assumption) : DG X [i] (.Name x pos) (sName i) :=
  ⟨pg_imp (pg_name hN hi hx hf) fun v σ H Q ⟨F0, H0, F, ρ, d, ρ', r, hd, e, k⟩ => by
    cases e
    exact k _ (r.setVal hd i) (out2_set σ i _)⟩
theorem dgs_nil : DGs X [] [] sNil := ⟨pgs_imp pgs_nil fun vs σ H Q ⟨F0, H0, F, ρ, ds, ρ', r, hd, e, k⟩ => by
  cases ds with
  | nil => cases hd; cases e; exact ⟨rfl, k σ r ⟨rfl, fun _ _ => rfl⟩⟩
  | cons => cases e⟩
theorem dgs_cons {e : Expr} {es : List Expr} {ts us : List Nat} {s : D → Env → Option Env} {q : List D → Env → Option Env} (h1 : DG X ts e s) (h2 : DGs X us es q)
    (hs : (assignEach (e :: es) X.env).map (·.2) = assign e X.env :: (assignEach es X.env).map (·.2) := by rfl) : DGs X (ts ++ us) (e :: es) (sCons s q) :=
  ⟨pgs_imp (pgs_cons h1.pg h2.pgs hs) fun vs σ H Q ⟨F0, H0, F, ρ, ds, ρ', r, hd, e, k⟩ => by
    cases ds with
    | nil => cases e
    | cons d ds =>
      cases hd with
      | cons d1 d2 =>
        obtain ⟨ρ1, e1, e2⟩ := Option.bind_eq_some_iff.mp e
        exact ⟨_, _, rfl, F0, H0, F, ρ, d, ρ1, r, d1, e1, fun σ1 r1 o1 => ⟨F0, H0, F, ρ1, ds, ρ', r1, d2, e2, fun σ2 r2 o2 => k σ2 r2 ⟨o2.1.trans o1.1, fun j hj => by
          rw [List.mem_append, not_or] at hj
          rw [o2.2 j hj.2, o1.2 j hj.1]⟩⟩⟩⟩
theorem dg_tup {es : List Expr} {k n : Nat} {ts : List Nat} {q : List D → Env → Option Env} (hc : X.calm = true) (h : DGs X ts es q) (hq : ∀ ds ρ ρ', q ds ρ = some ρ' → ds.length = n)
    (hn : (assignEach es X.env).length = n := by rfl) (hst : (assignEach es X.env).findIdx? (·.1) = none := by rfl) : DG X ts (.Tuple es k pos) (sTup q) :=
  ⟨pg_imp (pg_tup hc h.pgs hn hst) fun v σ H Q ⟨F0, H0, F, ρ, d, ρ', r, hd, e, k⟩ => by
    cases hd with
    | tup h1 h2 => exact ⟨_, _, rfl, ex_t r.g.in_ h1, by rw [dpa_len h2]; exact hq _ ρ ρ' e, F0, H0, F, ρ, _, ρ', r, h2, e, k⟩
    | _ => cases e⟩
end
theorem sNil_len (ds : List D) (ρ ρ' : Env) (h : sNil ds ρ = some ρ') : ds.length = 0 := by
  cases ds with
  | nil => rfl
  | cons => cases h
theorem sCons_len {s : D → Env → Option Env} {q : List D → Env → Option Env} {n : Nat} (hq : ∀ ds ρ ρ', q ds ρ = some ρ' → ds.length = n) (ds : List D) (ρ ρ' : Env) (h : sCons s q ds ρ = some ρ') : ds.length = n + 1 := by
  cases ds with
  | nil => cases h
  | cons d ds =>
    obtain ⟨ρ1, e1, e2⟩ := Option.bind_eq_some_iff.mp h
    rw [List.length_cons, hq ds ρ1 ρ' e2]

/-! ### what is walked -/
structure ItD (K : PySem.W.Frag) (J : It) (S : Hp → Hp → Prop) (ds : List D) : Prop where
  goes : ∀ (i : Nat) F1 H1, S F1 H1 → i < ds.length → J.go i H1
  stops : ∀ F1 H1, S F1 H1 → J.stop ds.length H1
  yields : ∀ (i : Nat) F1 H1 x H2 d, S F1 H1 → Ex F1 H1 → ds[i]? = some d → J.yld i H1 x H2 → ∃ F2, Grow F1 H1 F2 H2 ∧ Da K F2 x d
def tI (K : PySem.W.Frag) (mg : Str → Option Value) (W : WX) (f : Env → R (List D)) : TI := fun σ H R' => ∃ F0 H0 F ρ, Rep K F0 H0 F H ρ σ ∧
  ROk K mg (fun c d H' => W c d σ H') F H (fun ds F' H' => ∀ J, ItD K J (fun F1 H1 => Ex F' F1 ∧ Ex F1 H1) ds → R' J H') (f ρ)
/-- .. while nothing but new objects come -/
def tIB (K : PySem.W.Frag) (mg : Str → Option Value) (W : WX) (f : Env → R (List D)) : TI := fun σ H R' => ∃ F0 H0 F ρ, Rep K F0 H0 F H ρ σ ∧
  ROk K mg (fun c d H' => W c d σ H') F H (fun ds F' H' => ∀ J, ItD K J (Grow F' H') ds → R' J H') (f ρ)
structure DI (X : Cx) (W : WX) (tg e : Expr) (f : Env → R (List D)) : Prop where
  pi : PI X tg e (tI X.K X.mg W f)
structure DIB (X : Cx) (W : WX) (tg e : Expr) (f : Env → R (List D)) : Prop where
  pi : PI X tg e (tIB X.K X.mg W f)
theorem pi_imp {X : Cx} {tg e : Expr} {t t' : TI} (q : PI X tg e t) (i : ∀ σ H R', t' σ H R' → t σ H R') : PI X tg e t' := ⟨fun pins s σ H R' I z => q.run pins s σ H R' I (i σ H R' z)⟩
theorem pi_or {X : Cx} {tg e : Expr} {t t' : TI} (q : PI X tg e t) (q' : PI X tg e t') : PI X tg e (fun σ H R' => t σ H R' ∨ t' σ H R') := ⟨fun pins s σ H R' I z => z.elim (q.run pins s σ H R' I) (q'.run pins s σ H R' I)⟩
theorem DI.b {X : Cx} {W : WX} {tg e : Expr} {f : Env → R (List D)} (q : DI X W tg e f) : DIB X W tg e f :=
  ⟨pi_imp q.pi fun σ H R' ⟨F0, H0, F, ρ, r, k⟩ => ⟨F0, H0, F, ρ, r, k.imp fun ds F' H' _ gr z J it => z J ⟨fun i F1 H1 s hi => it.goes i F1 H1 ⟨s.f, s.in_⟩ hi, fun F1 H1 s => it.stops F1 H1 ⟨s.f, s.in_⟩, fun i F1 H1 x H2 d s e h1 h2 => it.yields i F1 H1 x H2 d ⟨s.f, s.in_⟩ e h1 h2⟩⟩⟩
section
variable {K : PySem.W.Frag} {S : Hp → Hp → Prop} {p q : Addr} {ds es : List D}
theorem itd_list (hs : ∀ F1 H1, S F1 H1 → Ex F1 H1 ∧ Bw K F1 H1 (.ref p) (.list ds)) : ItD K (Itl K p) S ds where
  goes := fun i F1 H1 s hi => by
    obtain ⟨e, b⟩ := hs F1 H1 s
    obtain ⟨p', vs, h0, h1, h2⟩ := b.list e
    cases h0
    obtain ⟨v, h3, h4⟩ := dpa_get h2 (List.getElem?_eq_getElem hi)
    exact ⟨vs, v, Or.inl (Or.inl h1), h3⟩
  stops := fun F1 H1 s => by
    obtain ⟨e, b⟩ := hs F1 H1 s
    obtain ⟨p', vs, h0, h1, h2⟩ := b.list e
    cases h0
    exact ⟨vs, Or.inl (Or.inl h1), by rw [dpa_len h2]; exact Nat.le_refl _⟩
  yields := fun i F1 H1 x H2 d s _ hd y => by
    obtain ⟨e, b⟩ := hs F1 H1 s
    obtain ⟨p', vs, h0, h1, h2⟩ := b.list e
    cases h0
    obtain ⟨rfl, y⟩ := y
    obtain ⟨d', h3, h4⟩ := dpa_getV h2 (y vs (Or.inl (Or.inl h1)))
    rw [hd] at h3
    cases h3
    exact ⟨F1, .refl e, h4⟩
theorem itd_tup (hs : ∀ F1 H1, S F1 H1 → Ex F1 H1 ∧ Bw K F1 H1 (.ref p) (.tuple ds)) : ItD K (Itt K p) S ds where
  goes := fun i F1 H1 s hi => by
    obtain ⟨e, b⟩ := hs F1 H1 s
    obtain ⟨p', vs, h0, h1, h2⟩ := b.tuple e
    cases h0
    obtain ⟨v, h3, h4⟩ := dpa_get h2 (List.getElem?_eq_getElem hi)
    exact ⟨vs, v, h1, h3⟩
  stops := fun F1 H1 s => by
    obtain ⟨e, b⟩ := hs F1 H1 s
    obtain ⟨p', vs, h0, h1, h2⟩ := b.tuple e
    cases h0
    exact ⟨vs, h1, by rw [dpa_len h2]; exact Nat.le_refl _⟩
  yields := fun i F1 H1 x H2 d s _ hd y => by
    obtain ⟨e, b⟩ := hs F1 H1 s
    obtain ⟨p', vs, h0, h1, h2⟩ := b.tuple e
    cases h0
    obtain ⟨rfl, y⟩ := y
    obtain ⟨d', h3, h4⟩ := dpa_getV h2 (y vs h1)
    rw [hd] at h3
    cases h3
    exact ⟨F1, .refl e, h4⟩
def rangeD (lo : Int) (n : Nat) : List D := (List.range n).map fun i => .int (lo + (i : Nat))
theorem rangeD_len (lo : Int) (n : Nat) : (rangeD lo n).length = n := by simp [rangeD]
theorem itd_range {lo : Int} {n : Nat} : ItD K (Itr lo n) S (rangeD lo n) where
  goes := fun i F1 H1 s hi => by rw [rangeD_len] at hi; exact hi
  stops := fun F1 H1 s => by rw [rangeD_len]; exact Nat.le_refl _
  yields := fun i F1 H1 x H2 d s e hd y => by
    obtain ⟨rfl, rfl⟩ := y
    refine ⟨F1, .refl e, ?_⟩
    unfold rangeD at hd
    rw [List.getElem?_map] at hd
    obtain ⟨j, h1, h2⟩ := Option.map_eq_some_iff.mp hd
    have : i = j := by
      have := List.getElem?_eq_some_iff.mp h1
      obtain ⟨_, h3⟩ := this
      simpa using h3
    subst this; subst h2
    exact .int _
def enumD : Nat → List D → List D
  | _, [] => []
  | k, d :: ds => .tuple [.int (k : Nat), d] :: enumD (k + 1) ds
theorem enumD_len : ∀ (ds : List D) (k : Nat), (enumD k ds).length = ds.length
  | [], _ => rfl
  | d :: ds, k => by simp [enumD, enumD_len ds]
theorem enumD_get : ∀ (ds : List D) (k i : Nat) (d : D), (enumD k ds)[i]? = some d → ∃ x, ds[i]? = some x ∧ d = .tuple [.int ((k + i : Nat)), x]
  | [], _, i, d, h => by simp [enumD] at h
  | x :: xs, k, 0, d, h => by simp [enumD] at h; exact ⟨x, rfl, h.symm⟩
  | x :: xs, k, i + 1, d, h => by
    simp only [enumD, List.getElem?_cons_succ] at h
    obtain ⟨y, h1, h2⟩ := enumD_get xs (k + 1) i d h
    exact ⟨y, by simpa using h1, by rw [h2, show k + 1 + i = k + (i + 1) by omega]⟩
theorem pair_new {F1 H1 : Hp} {T : Addr} {x y : V} {a b : D} (e : Ex F1 H1) (hT : H1 T = none) (hx : Da K F1 x a) (hy : Da K F1 y b) : ∃ F2, Grow F1 H1 F2 (upd H1 T (.tup [x, y])) ∧ Da K F2 (.ref T) (.tuple [a, b]) :=
  ⟨_, Grow.made e hT, .tup (Or.inl (Or.inl upd_same)) (.cons (hx.up (Ex.new (Evl.fresh_back e hT))) (.cons (hy.up (Ex.new (Evl.fresh_back e hT))) .nil))⟩
theorem itd_enum (hs : ∀ F1 H1, S F1 H1 → Ex F1 H1 ∧ Bw K F1 H1 (.ref p) (.list ds)) : ItD K (Ite K p) S (enumD 0 ds) where
  goes := fun i F1 H1 s hi => by
    rw [enumD_len] at hi
    obtain ⟨e, b⟩ := hs F1 H1 s
    obtain ⟨p', vs, h0, h1, h2⟩ := b.list e
    cases h0
    obtain ⟨v, h3, h4⟩ := dpa_get h2 (List.getElem?_eq_getElem hi)
    exact ⟨vs, v, Or.inl (Or.inl h1), h3⟩
  stops := fun F1 H1 s => by
    obtain ⟨e, b⟩ := hs F1 H1 s
    obtain ⟨p', vs, h0, h1, h2⟩ := b.list e
    cases h0
    exact ⟨vs, Or.inl (Or.inl h1), by rw [dpa_len h2, enumD_len]; exact Nat.le_refl _⟩
  yields := fun i F1 H1 x H2 d s _ hd y => by
    obtain ⟨e, b⟩ := hs F1 H1 s
    obtain ⟨p', vs, h0, h1, h2⟩ := b.list e
    cases h0
    obtain ⟨T, x', rfl, hT, rfl, y⟩ := y
    obtain ⟨d', h3, h4⟩ := dpa_getV h2 (y vs (Or.inl (Or.inl h1)))
    obtain ⟨z, h5, rfl⟩ := enumD_get ds 0 i d hd
    rw [h3] at h5
    cases h5
    rw [Nat.zero_add]
    exact pair_new e hT (.int _) h4
def zipD : List D → List D → List D
  | x :: xs, y :: ys => .tuple [x, y] :: zipD xs ys
  | _, _ => []
theorem zipD_len : ∀ (xs ys : List D), (zipD xs ys).length = min xs.length ys.length
  | [], ys => by simp [zipD]
  | x :: xs, [] => by simp [zipD]
  | x :: xs, y :: ys => by simp [zipD, zipD_len xs ys]
theorem zipD_get : ∀ (xs ys : List D) (i : Nat) (d : D), (zipD xs ys)[i]? = some d → ∃ x y, xs[i]? = some x ∧ ys[i]? = some y ∧ d = .tuple [x, y]
  | [], ys, i, d, h => by simp [zipD] at h
  | x :: xs, [], i, d, h => by simp [zipD] at h
  | x :: xs, y :: ys, 0, d, h => by simp [zipD] at h; exact ⟨x, y, rfl, rfl, h.symm⟩
  | x :: xs, y :: ys, i + 1, d, h => by
    simp only [zipD, List.getElem?_cons_succ] at h
    obtain ⟨a, b, h1, h2, h3⟩ := zipD_get xs ys i d h
    exact ⟨a, b, by simpa using h1, by simpa using h2, h3⟩
theorem itd_zipL (hs : ∀ F1 H1, S F1 H1 → Ex F1 H1 ∧ Bw K F1 H1 (.ref p) (.list ds) ∧ Bw K F1 H1 (.ref q) (.list es)) : ItD K (Itz K p q) S (zipD ds es) where
  goes := fun i F1 H1 s hi => by
    rw [zipD_len] at hi
    obtain ⟨e, b, c⟩ := hs F1 H1 s
    obtain ⟨_, vs, h0, h1, h2⟩ := b.list e
    cases h0
    obtain ⟨_, us, h0, h1', h2'⟩ := c.list e
    cases h0
    obtain ⟨v, h3, h4⟩ := dpa_get h2 (List.getElem?_eq_getElem (by omega : i < ds.length))
    obtain ⟨u, h3', h4'⟩ := dpa_get h2' (List.getElem?_eq_getElem (by omega : i < es.length))
    exact ⟨vs, us, v, u, Or.inl (Or.inl h1), Or.inl (Or.inl h1'), h3, h3'⟩
  stops := fun F1 H1 s => by
    obtain ⟨e, b, c⟩ := hs F1 H1 s
    obtain ⟨_, vs, h0, h1, h2⟩ := b.list e
    cases h0
    obtain ⟨_, us, h0, h1', h2'⟩ := c.list e
    cases h0
    have l1 := dpa_len h2
    have l2 := dpa_len h2'
    exact ⟨vs, us, Or.inl (Or.inl h1), Or.inl (Or.inl h1'), by rw [zipD_len]; omega⟩
  yields := fun i F1 H1 x H2 d s _ hd y => by
    obtain ⟨e, b, c⟩ := hs F1 H1 s
    obtain ⟨_, vs, h0, h1, h2⟩ := b.list e
    cases h0
    obtain ⟨_, us, h0, h1', h2'⟩ := c.list e
    cases h0
    obtain ⟨T, x', y', rfl, hT, rfl, y, y2⟩ := y
    obtain ⟨d1, h3, h4⟩ := dpa_getV h2 (y vs (Or.inl (Or.inl h1)))
    obtain ⟨d2, h3', h4'⟩ := dpa_getV h2' (y2 us (Or.inl (Or.inl h1')))
    obtain ⟨a, b', h5, h6, rfl⟩ := zipD_get ds es i d hd
    rw [h3] at h5
    rw [h3'] at h6
    cases h5; cases h6
    exact pair_new e hT h4 h4'
theorem itd_zipT (hs : ∀ F1 H1, S F1 H1 → Ex F1 H1 ∧ Bw K F1 H1 (.ref p) (.tuple ds) ∧ Bw K F1 H1 (.ref q) (.tuple es)) : ItD K (RZ.ItzT K p q) S (zipD ds es) where
  goes := fun i F1 H1 s hi => by
    rw [zipD_len] at hi
    obtain ⟨e, b, c⟩ := hs F1 H1 s
    obtain ⟨_, vs, h0, h1, h2⟩ := b.tuple e
    cases h0
    obtain ⟨_, us, h0, h1', h2'⟩ := c.tuple e
    cases h0
    obtain ⟨v, h3, h4⟩ := dpa_get h2 (List.getElem?_eq_getElem (by omega : i < ds.length))
    obtain ⟨u, h3', h4'⟩ := dpa_get h2' (List.getElem?_eq_getElem (by omega : i < es.length))
    exact ⟨vs, us, v, u, h1, h1', h3, h3'⟩
  stops := fun F1 H1 s => by
    obtain ⟨e, b, c⟩ := hs F1 H1 s
    obtain ⟨_, vs, h0, h1, h2⟩ := b.tuple e
    cases h0
    obtain ⟨_, us, h0, h1', h2'⟩ := c.tuple e
    cases h0
    have l1 := dpa_len h2
    have l2 := dpa_len h2'
    exact ⟨vs, us, h1, h1', by rw [zipD_len]; omega⟩
  yields := fun i F1 H1 x H2 d s _ hd y => by
    obtain ⟨e, b, c⟩ := hs F1 H1 s
    obtain ⟨_, vs, h0, h1, h2⟩ := b.tuple e
    cases h0
    obtain ⟨_, us, h0, h1', h2'⟩ := c.tuple e
    cases h0
    obtain ⟨T, x', y', rfl, hT, rfl, y, y2⟩ := y
    obtain ⟨d1, h3, h4⟩ := dpa_getV h2 (y vs h1)
    obtain ⟨d2, h3', h4'⟩ := dpa_getV h2' (y2 us h1')
    obtain ⟨a, b', h5, h6, rfl⟩ := zipD_get ds es i d hd
    rw [h3] at h5
    rw [h3'] at h6
    cases h5; cases h6
    exact pair_new e hT h4 h4'
end

/-! the iterables by their texts -/
def itemsD : D → Option (List D)
  | .list ds => some ds
  | .tuple ds => some ds
  | _ => none
def cItems (f : Env → R D) : Env → R (List D) := fun ρ => (f ρ).bind fun a => ofO (itemsD a)
def range1D : List D → Option (List D)
  | [.int n] => if -1000000 < n ∧ n < 1000000 then some (rangeD 0 n.toNat) else none
  | _ => none
def range2D : List D → Option (List D)
  | [.int a, .int b] => if -1000000 < a ∧ a < 1000000 ∧ -1000000 < b ∧ b < 1000000 then some (rangeD a (b - a).toNat) else none
  | _ => none
def enum1D : List D → Option (List D)
  | [.list ds] => some (enumD 0 ds)
  | _ => none
def zip2D : List D → Option (List D)
  | [.list xs, .list ys] => some (zipD xs ys)
  | [.tuple xs, .tuple ys] => some (zipD xs ys)
  | _ => none
def cIt (o : List D → Option (List D)) (q : Env → R (List D)) : Env → R (List D) := fun ρ => (q ρ).bind fun as => ofO (o as)
section
variable {X : Cx} {W : WX} {tg e e1 e2 : Expr} {es : List Expr} {pos p : Pos} {f g : Env → R D} {q : Env → R (List D)}
theorem stay_bw {K : PySem.W.Frag} {F' H' : Hp} {v : V} {d : D} (h : Bw K F' H' v d) : ∀ F1 H1, Grow F' H' F1 H1 → Ex F1 H1 ∧ Bw K F1 H1 v d := fun _ _ g => ⟨g.in_, h.grow g⟩
theorem stay_da {K : PySem.W.Frag} {F' : Hp} {v : V} {d : D} (h : Da K F' v d) : ∀ F1 H1, Ex F' F1 ∧ Ex F1 H1 → Ex F1 H1 ∧ Bw K F1 H1 v d := fun _ _ g => ⟨g.2, .fr (h.up g.1)⟩
/-- a list, a tuple: frozen | borrowed -/
theorem di_seq (ha : DE X W e f) : DI X W tg e (cItems f) :=
  ⟨pi_imp (pi_or (pi_list ha.pe) (pi_tup ha.pe)) fun σ H R' ⟨F0, H0, F, ρ, r, k⟩ => by
    cases hf : f ρ with
    | ok a =>
      have k : ROk X.K X.mg (fun c d H' => W c d σ H') F H (fun ds F' H' => ∀ J, ItD X.K J (fun F1 H1 => Ex F' F1 ∧ Ex F1 H1) ds → R' J H') ((f ρ).bind fun a => ofO (itemsD a)) := k
      rw [hf] at k
      obtain ⟨ds, e, k⟩ := ROk.ofO (o := itemsD a) k
      cases a <;> simp only [itemsD] at e <;> try (cases e; done)
      · cases e
        refine .inl ⟨F0, H0, F, ρ, r, ?_⟩
        rw [hf]
        intro F' H' g v hv
        cases hv with
        | lst h1 h2 => exact ⟨_, rfl, ⟨_, Or.inl (Or.inl (g.in_ _ _ h1))⟩, k F' H' g _ (itd_list (stay_da (.lst h1 h2)))⟩
      · cases e
        refine .inr ⟨F0, H0, F, ρ, r, ?_⟩
        rw [hf]
        intro F' H' g v hv
        cases hv with
        | tup h1 h2 => exact ⟨_, rfl, ⟨_, ex_t g.in_ h1⟩, k F' H' g _ (itd_tup (stay_da (.tup h1 h2)))⟩
    | exc x =>
      have k : ROk X.K X.mg (fun c d H' => W c d σ H') F H (fun ds F' H' => ∀ J, ItD X.K J (fun F1 H1 => Ex F' F1 ∧ Ex F1 H1) ds → R' J H') ((f ρ).bind fun a => ofO (itemsD a)) := k
      rw [hf] at k
      refine .inl ⟨F0, H0, F, ρ, r, ?_⟩
      rw [hf]
      exact k
    | bad =>
      have k : ROk X.K X.mg (fun c d H' => W c d σ H') F H (fun ds F' H' => ∀ J, ItD X.K J (fun F1 H1 => Ex F' F1 ∧ Ex F1 H1) ds → R' J H') ((f ρ).bind fun a => ofO (itemsD a)) := k
      rw [hf] at k
      exact k.elim⟩
theorem dib_seq (ha : DB X W e f) : DIB X W tg e (cItems f) :=
  ⟨pi_imp (pi_or (pi_list ha.pe) (pi_tup ha.pe)) fun σ H R' ⟨F0, H0, F, ρ, r, k⟩ => by
    have k : ROk X.K X.mg (fun c d H' => W c d σ H') F H (fun ds F' H' => ∀ J, ItD X.K J (Grow F' H') ds → R' J H') ((f ρ).bind fun a => ofO (itemsD a)) := k
    cases hf : f ρ with
    | ok a =>
      rw [hf] at k
      obtain ⟨ds, e, k⟩ := ROk.ofO (o := itemsD a) k
      cases a <;> simp only [itemsD] at e <;> try (cases e; done)
      · cases e
        refine .inl ⟨F0, H0, F, ρ, r, ?_⟩
        rw [hf]
        intro F' H' g v hv
        obtain ⟨p, vs, rfl, h1, h2⟩ := hv.list g.in_
        exact ⟨_, rfl, ⟨_, Or.inl (Or.inl h1)⟩, k F' H' g _ (itd_list (stay_bw hv))⟩
      · cases e
        refine .inr ⟨F0, H0, F, ρ, r, ?_⟩
        rw [hf]
        intro F' H' g v hv
        obtain ⟨p, vs, rfl, h1, h2⟩ := hv.tuple g.in_
        exact ⟨_, rfl, ⟨_, h1⟩, k F' H' g _ (itd_tup (stay_bw hv))⟩
    | exc x =>
      rw [hf] at k
      refine .inl ⟨F0, H0, F, ρ, r, ?_⟩
      rw [hf]
      exact k
    | bad =>
      rw [hf] at k
      exact k.elim⟩
theorem da_bwAll {K : PySem.W.Frag} {F : Hp} {vs : List V} {H : Hp} : ∀ {ds : List D} {vs : List V}, DaAll K F vs ds → BwAll K F H vs ds
  | [], _, h => by cases h; exact .nil
  | _ :: _, _, h => by
    cases h with
    | cons h1 h2 => exact .cons (.fr h1) (da_bwAll (vs := []) h2)
theorem di_range1 (hg : Gl X "range") (hm : X.mg "range" = none) (ha : DA X W [e] q) (hs : starEach [e] X.env = [(false, eval e X.env)] := by rfl) : DI X W tg (.Call (.Name "range" p) [e] [] pos) (cIt range1D q) :=
  ⟨pi_imp (pi_range1 hg hm ha.pa hs) fun σ H R' ⟨F0, H0, F, ρ, r, k⟩ => ⟨F0, H0, F, ρ, r, (ROk.step (r := q ρ) k).imp fun as F1 H1 _ g1 q1 vs hvs => by
    obtain ⟨ds, e, z⟩ := q1.ofO
    unfold range1D at e
    split at e
    · split at e
      · rename_i hn
        cases e
        cases hvs with
        | cons h1 h2 =>
          cases h2; cases h1
          exact ⟨_, rfl, by omega, by omega, z F1 H1 (.refl g1.in_) _ itd_range⟩
      · cases e
    · cases e⟩⟩
theorem di_range2 (hg : Gl X "range") (hm : X.mg "range" = none) (ha : DA X W [e1, e2] q) (hs : starEach [e1, e2] X.env = [(false, eval e1 X.env), (false, eval e2 X.env)] := by rfl) (hs2 : starEach [e2] X.env = [(false, eval e2 X.env)] := by rfl) :
    DI X W tg (.Call (.Name "range" p) [e1, e2] [] pos) (cIt range2D q) :=
  ⟨pi_imp (pi_range2 hg hm ha.pa hs hs2) fun σ H R' ⟨F0, H0, F, ρ, r, k⟩ => ⟨F0, H0, F, ρ, r, (ROk.step (r := q ρ) k).imp fun as F1 H1 _ g1 q1 vs hvs => by
    obtain ⟨ds, e, z⟩ := q1.ofO
    unfold range2D at e
    split at e
    · split at e
      · rename_i hn
        cases e
        cases hvs with
        | cons h1 h2 =>
          cases h2 with
          | cons h3 h4 =>
            cases h4; cases h1; cases h3
            exact ⟨_, _, rfl, by omega, z F1 H1 (.refl g1.in_) _ itd_range⟩
      · cases e
    · cases e⟩⟩
theorem dib_enum {k : Nat} {tpos : Pos} (hg : Gl X "enumerate") (hm : X.mg "enumerate" = none) (ha : DAB X W [e] q) (hs : starEach [e] X.env = [(false, eval e X.env)] := by rfl) : DIB X W (.Tuple es k tpos) (.Call (.Name "enumerate" p) [e] [] pos) (cIt enum1D q) :=
  ⟨pi_imp (pi_enum hg hm ha.pa hs) fun σ H R' ⟨F0, H0, F, ρ, r, k⟩ => ⟨F0, H0, F, ρ, r, (ROk.step (r := q ρ) k).imp fun as F1 H1 _ g1 q1 vs hvs => by
    obtain ⟨ds, e, z⟩ := q1.ofO
    unfold enum1D at e
    split at e
    · cases e
      obtain ⟨x, rfl, b⟩ := bw1 hvs
      obtain ⟨p', vs, rfl, h1, h2⟩ := b.list g1.in_
      exact ⟨p', vs, rfl, Or.inl (Or.inl h1), z F1 H1 (.refl g1.in_) _ (itd_enum (stay_bw b))⟩
    · cases e⟩⟩
theorem di_enum {k : Nat} {tpos : Pos} (hg : Gl X "enumerate") (hm : X.mg "enumerate" = none) (ha : DA X W [e] q) (hs : starEach [e] X.env = [(false, eval e X.env)] := by rfl) : DI X W (.Tuple es k tpos) (.Call (.Name "enumerate" p) [e] [] pos) (cIt enum1D q) :=
  ⟨pi_imp (pi_enum hg hm ha.pa hs) fun σ H R' ⟨F0, H0, F, ρ, r, k⟩ => ⟨F0, H0, F, ρ, r, (ROk.step (r := q ρ) k).imp fun as F1 H1 _ g1 q1 vs hvs => by
    obtain ⟨ds, e, z⟩ := q1.ofO
    unfold enum1D at e
    split at e
    · cases e
      cases hvs with
      | cons h1 h2 =>
        cases h2
        cases h1 with
        | lst h3 h4 => exact ⟨_, _, rfl, Or.inl (Or.inl (g1.in_ _ _ h3)), z F1 H1 (.refl g1.in_) _ (itd_enum (stay_da (.lst h3 h4)))⟩
    · cases e⟩⟩
theorem dib_zip {k : Nat} {tpos : Pos} (hg : Gl X "zip") (hm : X.mg "zip" = none) (ha : DAB X W [e1, e2] q) (hs : starEach [e1, e2] X.env = (false, eval e1 X.env) :: starEach [e2] X.env := by rfl) (hpl : (backTo pos (starEach [e2] X.env)).any (·.1) = false := by rfl) :
    DIB X W (.Tuple es k tpos) (.Call (.Name "zip" p) [e1, e2] [] pos) (cIt zip2D q) :=
  ⟨pi_imp (RZ.pi_zipA hg hm ha.pa hs hpl) fun σ H R' ⟨F0, H0, F, ρ, r, k⟩ => ⟨F0, H0, F, ρ, r, (ROk.step (r := q ρ) k).imp fun as F1 H1 _ g1 q1 vs hvs => by
    obtain ⟨ds, e, z⟩ := q1.ofO
    unfold zip2D at e
    split at e
    · cases e
      obtain ⟨x, y, rfl, b, c⟩ := bw2 hvs
      obtain ⟨p1, vs, rfl, h1, h2⟩ := b.list g1.in_
      obtain ⟨p2, us, rfl, h3, h4⟩ := c.list g1.in_
      exact ⟨p1, p2, vs, us, rfl, .inl ⟨Or.inl (Or.inl h1), Or.inl (Or.inl h3), z F1 H1 (.refl g1.in_) _ (itd_zipL fun F2 H2 g => ⟨g.in_, b.grow g, c.grow g⟩)⟩⟩
    · cases e
      obtain ⟨x, y, rfl, b, c⟩ := bw2 hvs
      obtain ⟨p1, vs, rfl, h1, h2⟩ := b.tuple g1.in_
      obtain ⟨p2, us, rfl, h3, h4⟩ := c.tuple g1.in_
      exact ⟨p1, p2, vs, us, rfl, .inr ⟨h1, h3, z F1 H1 (.refl g1.in_) _ (itd_zipT fun F2 H2 g => ⟨g.in_, b.grow g, c.grow g⟩)⟩⟩
    · cases e⟩⟩
theorem di_zip {k : Nat} {tpos : Pos} (hg : Gl X "zip") (hm : X.mg "zip" = none) (ha : DA X W [e1, e2] q) (hs : starEach [e1, e2] X.env = (false, eval e1 X.env) :: starEach [e2] X.env := by rfl) (hpl : (backTo pos (starEach [e2] X.env)).any (·.1) = false := by rfl) :
    DI X W (.Tuple es k tpos) (.Call (.Name "zip" p) [e1, e2] [] pos) (cIt zip2D q) :=
  ⟨pi_imp (RZ.pi_zipA hg hm ha.pa hs hpl) fun σ H R' ⟨F0, H0, F, ρ, r, k⟩ => ⟨F0, H0, F, ρ, r, (ROk.step (r := q ρ) k).imp fun as F1 H1 _ g1 q1 vs hvs => by
    obtain ⟨ds, e, z⟩ := q1.ofO
    unfold zip2D at e
    split at e
    · cases e
      cases hvs with
      | cons a1 a2 =>
        cases a2 with
        | cons a2 a3 =>
          cases a3
          obtain ⟨p1, vs, rfl, h1, h2⟩ := (Bw.fr a1).list g1.in_
          obtain ⟨p2, us, rfl, h3, h4⟩ := (Bw.fr a2).list g1.in_
          exact ⟨p1, p2, vs, us, rfl, .inl ⟨Or.inl (Or.inl h1), Or.inl (Or.inl h3), z F1 H1 (.refl g1.in_) _ (itd_zipL fun F2 H2 g => ⟨g.2, .fr (a1.up g.1), .fr (a2.up g.1)⟩)⟩⟩
    · cases e
      cases hvs with
      | cons a1 a2 =>
        cases a2 with
        | cons a2 a3 =>
          cases a3
          obtain ⟨p1, vs, rfl, h1, h2⟩ := (Bw.fr a1).tuple g1.in_
          obtain ⟨p2, us, rfl, h3, h4⟩ := (Bw.fr a2).tuple g1.in_
          exact ⟨p1, p2, vs, us, rfl, .inr ⟨h1, h3, z F1 H1 (.refl g1.in_) _ (itd_zipT fun F2 H2 g => ⟨g.2, .fr (a1.up g.1), .fr (a2.up g.1)⟩)⟩⟩
    · cases e⟩⟩
end

/-! ### list comprehensions -/
def wipeR (ρ : Env) : List Nat → Env
  | [] => ρ
  | v :: vs => (wipeR ρ vs).set v .no
theorem Rep.wipe {K : PySem.W.Frag} {F0 H0 F H : Hp} {ρ : Env} {σ : L2.St} (r : Rep K F0 H0 F H ρ σ) : ∀ vs : List Nat, Rep K F0 H0 F H (wipeR ρ vs) (wipe σ vs)
  | [] => r
  | v :: vs => (r.wipe vs).drop v none
theorem wipe_at {σ : L2.St} {i : Nat} : ∀ {vs : List Nat}, i ∈ vs → i < σ.length → (wipe σ vs)[i]? = some none
  | v :: vs, h, hl => by
    unfold wipe
    by_cases e : v = i
    · subst e
      rw [List.getElem?_set_self (by rw [wipe_length]; exact hl)]
    · rw [List.getElem?_set_ne e]
      exact wipe_at (by
        rcases (List.mem_cons.mp h) with z | z
        · exact absurd z.symm e
        · exact z) hl
theorem wipe_out2 {σ σ' : L2.St} {ts vs : List Nat} (o : Out2 (wipe σ vs) σ' ts) (h : ∀ j ∈ ts, j ∈ vs) : wipe σ' vs = wipe σ vs := by
  apply List.ext_getElem?
  intro j
  have len : σ'.length = σ.length := o.1.trans (wipe_length σ vs)
  by_cases hj : j ∈ vs
  · by_cases hl : j < σ.length
    · rw [wipe_at hj hl, wipe_at hj (by rw [len]; exact hl)]
    · rw [List.getElem?_eq_none (by rw [wipe_length]; omega), List.getElem?_eq_none (by rw [wipe_length]; omega)]
  · rw [wipe_out hj]
    exact o.2 j fun z => hj (h j z)
def lcGo (s : D → Env → Option Env) (t : Env → R Bool) (el : Env → R D) (ρ : Env) : List D → R (List D)
  | [] => .ok []
  | d :: ds => (ofO (s d ρ)).bind fun ρ' => (t ρ').bind fun b => if b = true then (el ρ').bind fun y => (lcGo s t el ρ ds).bind fun ys => .ok (y :: ys) else lcGo s t el ρ ds
/-- the parts of a comprehension raise nothing -/
def noX {α : Type} : R α → R α
  | .ok a => .ok a
  | _ => .bad
def cLc (it : Env → R (List D)) (s : D → Env → Option Env) (t : Env → R Bool) (el : Env → R D) (vs : List Nat) : Env → R (List D) := fun ρ => (it ρ).bind fun ds => if ds.length ≤ 100000 then noX (lcGo s t el (wipeR ρ vs) ds) else .bad
abbrev W0 : WX := fun _ _ _ _ => False
def cYes : Env → R Bool := fun _ => .ok true
structure DTs (X : Cx) (W : WX) (ifs : List Expr) (f : Env → R Bool) : Prop where
  pts : PTs X ifs (tD X.K X.mg W f)
theorem dts_nil {X : Cx} {W : WX} : DTs X W [] cYes := ⟨⟨fun pins s σ H Q I ⟨F0, H0, F, ρ, r, k⟩ => pts_nil.run pins s σ H Q I (k F H (.refl r.g.in_))⟩⟩
theorem dts_one {X : Cx} {W : WX} {c : Expr} {f : Env → R Bool} (h : DT X W c f) : DTs X W [c] f := ⟨pts_one h.pt⟩
section
variable {K : PySem.W.Frag} {mg : Str → Option Value} {W : WX} {σ : L2.St} {s : D → Env → Option Env} {t : Env → R Bool} {el : Env → R D} {vs ts : List Nat}
theorem bind_ok {α β : Type} {r : R α} {k : α → R β} {b : β} (h : r.bind k = .ok b) : ∃ a, r = .ok a ∧ k a = .ok b := by
  cases r with
  | ok a => exact ⟨a, rfl, h⟩
  | exc x => cases h
  | bad => cases h
theorem ofO_ok {α : Type} {o : Option α} {a : α} (h : ofO o = .ok a) : o = some a := by
  cases o with
  | some b => cases h; rfl
  | none => cases h
theorem noX_ok {α : Type} {r : R α} {a : α} (h : noX r = .ok a) : r = .ok a := by
  cases r with
  | ok b => exact h
  | exc x => cases h
  | bad => cases h
theorem noX_ROk {α : Type} {W : XK} {F H : Hp} {P : α → Hp → Hp → Prop} {r : R α} (h : ROk K mg W F H P (noX r)) : ∃ a, r = .ok a ∧ ∀ F' H', Grow F H F' H' → P a F' H' := by
  cases r with
  | ok a => exact ⟨a, rfl, h⟩
  | exc x => exact h.elim
  | bad => exact h.elim
theorem lcGo_inv {ρ : Env} {d : D} {ds ys : List D} (h : lcGo s t el ρ (d :: ds) = .ok ys) : ∃ ρ' b, s d ρ = some ρ' ∧ t ρ' = .ok b ∧
    ((b = true ∧ ∃ y zs, el ρ' = .ok y ∧ lcGo s t el ρ ds = .ok zs ∧ ys = y :: zs) ∨ (b = false ∧ lcGo s t el ρ ds = .ok ys)) := by
  unfold lcGo at h
  obtain ⟨ρ', h1, h⟩ := bind_ok h
  obtain ⟨b, h2, h⟩ := bind_ok h
  refine ⟨ρ', b, ofO_ok h1, h2, ?_⟩
  cases b with
  | true =>
    rw [if_pos rfl] at h
    obtain ⟨y, h3, h⟩ := bind_ok h
    obtain ⟨zs, h4, h⟩ := bind_ok h
    cases h
    exact .inl ⟨rfl, y, zs, h3, h4, rfl⟩
  | false =>
    rw [if_neg (by exact Bool.false_ne_true)] at h
    exact .inr ⟨rfl, h⟩
theorem lcGo_len {ρ : Env} : ∀ {ds ys : List D}, lcGo s t el ρ ds = .ok ys → ys.length ≤ ds.length
  | [], ys, h => by cases h; exact Nat.le_refl _
  | d :: ds, ys, h => by
    obtain ⟨ρ', b, _, _, i⟩ := lcGo_inv h
    rcases i with ⟨_, y, zs, _, i, rfl⟩ | ⟨_, i⟩
    · exact Nat.succ_le_succ (lcGo_len i)
    · exact Nat.le_succ_of_le (lcGo_len i)
theorem ex_mut {F H : Hp} {p : Addr} {o : HO} (e : Ex F H) (n : F p = none) : Ex F (upd H p o) := Ex.mut e n
theorem lc_read {it : Env → R (List D)} {H : Hp} {Q : VK} (hts : ∀ j ∈ ts, j ∈ vs) (k : tN K mg W (cLc it s t el vs) σ H Q) :
    tLc (tIB K mg W it) (tG K ts s) (tD K mg W0 t) (tE K mg W0 el) vs σ H Q := by
  obtain ⟨F0, H0, F, ρ, r, k⟩ := k
  refine ⟨F0, H0, F, ρ, r, (ROk.step (r := it ρ) k).imp fun ds F1 H1 _ g1 q1 J itd Dl hD => ?_⟩
  split at q1
  · rename_i hlen
    obtain ⟨ys, hys, q⟩ := noX_ROk q1
    have fD : ∀ {F' : Hp} {H' : Hp}, Grow F1 H1 F' H' → F' Dl = none ∨ F' Dl ≠ none := fun _ => Classical.em _
    refine ⟨fun i m H2 => m = ds.length - i ∧ i ≤ ds.length ∧ ∃ F2 acc us zs, Ex F1 F2 ∧ Ex H1 H2 ∧ Ex F2 H2 ∧ (∀ p o, F2 p = some o → F1 p = none → H1 p = none) ∧ F2 Dl = none ∧ H2 Dl = some (.lst us) ∧ DaAll K F2 us acc ∧ acc.length ≤ i ∧
      lcGo s t el (wipeR ρ vs) (ds.drop i) = .ok zs ∧ ys = acc ++ zs, ⟨ds.length, by simp, Nat.zero_le _, F1, [], [], ys, .refl _, Ex.new hD, g1.in_.trans (Ex.new hD), fun p o a b => (by rw [a] at b; cases b), Evl.fresh_back g1.in_ hD, upd_same, .nil, Nat.zero_le _, hys, rfl⟩, ?_⟩
    rintro i m H2 ⟨rfl, hi, F2, acc, us, zs, f1, f2, f3, f4, f5, f6, f7, f8, f9, f10⟩
    have gr : Grow F1 H1 F2 H2 := ⟨f1, f2, f3, f4⟩
    by_cases hlt : i < ds.length
    · have hdrop : ds.drop i = ds[i] :: ds.drop (i + 1) := List.drop_eq_getElem_cons hlt
      rw [hdrop] at f9
      obtain ⟨ρ', b, i1, i2, i3⟩ := lcGo_inv f9
      refine .inr ⟨itd.goes i F2 H2 gr hlt, fun H' => ∃ F3 acc us zs, Ex F1 F3 ∧ Ex H1 H' ∧ Ex F3 H' ∧ (∀ p o, F3 p = some o → F1 p = none → H1 p = none) ∧ F3 Dl = none ∧ H' Dl = some (.lst us) ∧ DaAll K F3 us acc ∧ acc.length ≤ i + 1 ∧
        lcGo s t el (wipeR ρ vs) (ds.drop (i + 1)) = .ok zs ∧ ys = acc ++ zs, fun H' n => ⟨ds.length - (i + 1), by omega, rfl, hlt, n⟩, fun x H3 hy => ?_⟩
      obtain ⟨F3, g3, hx⟩ := itd.yields i F2 H2 x H3 ds[i] gr f3 (List.getElem?_eq_getElem hlt) hy
      have gr3 := gr.trans g3
      refine ⟨F0, H0, F3, wipeR ρ vs, ds[i], ρ', ((r.grow g1).grow gr3).wipe vs, hx, i1, fun σ2 r2 o2 => ⟨wipe_out2 o2 hts, F0, H0, F3, ρ', r2, ?_⟩⟩
      rw [i2]
      intro F4 H4 g4
      have r4 := r2.grow g4
      have gr4 := gr3.trans g4
      have noF : ∀ {F' H' : Hp}, Grow F2 H2 F' H' → F' Dl = none := fun {F' H'} g => by
        cases q : F' Dl with
        | none => rfl
        | some o =>
          have z := g.new Dl o q f5
          rw [f6] at z; cases z
      rcases i3 with ⟨rfl, y, zs', j1, j2, rfl⟩ | ⟨rfl, j2⟩
      · refine iteT ?_
        refine ⟨F0, H0, F4, ρ', r4, ?_⟩
        rw [j1]
        intro F5 H5 g5 v hv
        have gr5 := gr4.trans g5
        have g25 := (g3.trans g4).trans g5
        refine ⟨us, g25.h _ _ f6, ?_, F5, acc ++ [y], us ++ [v], zs', gr5.f, Ex.mut gr5.h hD, Ex.mut gr5.in_ (noF g25), gr5.new, noF g25, upd_same, dpa_app (f7.up g25.f) (.one hv), by rw [List.length_append]; simp; omega, j2, by rw [f10]; simp⟩
        rw [dpa_len f7]
        exact Evl.sz_lt (by omega)
      · refine iteF ?_
        have g24 := g3.trans g4
        exact ⟨F4, acc, us, zs, gr4.f, gr4.h, gr4.in_, gr4.new, noF g24, g24.h _ _ f6, f7.up g24.f, by omega, j2, f10⟩
    · have e : i = ds.length := by omega
      subst e
      rw [List.drop_length] at f9
      cases f9
      rw [List.append_nil] at f10
      subst f10
      exact .inl ⟨itd.stops F2 H2 gr, q F2 H2 gr Dl us (Evl.fresh_back g1.h hD) f5 f6 f7⟩
  · exact q1.elim
end
section
variable {X : Cx} {W : WX} {tg iter elt : Expr} {ifs : List Expr} {scope : Scope} {own : List (Str × Nat)} {pos spos py : Pos} {it : Env → R (List D)} {s : D → Env → Option Env} {t : Env → R Bool} {el : Env → R D} {ts vs : List Nat}
theorem dn_lc (hc : X.calm = true) (hN : X.N.Nodup) (hi : DIB X W tg iter it) (ok : BlkOk X.N X.env.scope scope own)
    (hg : ∀ (s' : Shared) (H : Hp) (C : Addr) (cl : List (Str × Addr)) (fp : List Addr), DG (X.blk s' H scope (compEnvC scope cl C X.env) fp) ts tg s)
    (ht : ∀ (s' : Shared) (H : Hp) (C : Addr) (cl : List (Str × Addr)) (fp : List Addr), DTs (X.blk s' H scope (compEnvC scope cl C X.env) fp) W0 ifs t)
    (he : ∀ (s' : Shared) (H : Hp) (C : Addr) (cl : List (Str × Addr)) (fp : List Addr), DE (X.blk s' H scope (compEnvC scope cl C X.env) fp) W0 elt el)
    (hvs : own.map (·.2) = vs) (hts : ∀ j ∈ ts, j ∈ vs) (hs : ∀ x, foldedSetIterable iter X.env x = pure x := by intro _; rfl) :
    DN X W (.ListComp elt [⟨tg, iter, ifs, 0⟩] scope pos) (cLc it s t el vs) := by
  subst hvs
  exact
  ⟨pe_imp (pe_lc hc hN hi.pi ok (fun a b c d e => (hg a b c d e).pg) (fun a b c d e => (ht a b c d e).pts) (fun a b c d e => (he a b c d e).pe) hs) fun σ H Q k => lc_read hts k⟩
end
end DL

/-! DLe -/
namespace DL
open PySem L2 PySem.Spec PyProof.Rows
open Evl (Ex ex_l ex_t ex_rd)

/-! ### statements -/
/-- what is asked behind a statement that comes out so -/
def OOk (K : PySem.W.Frag) (mg : Str → Option Value) (W : WX) (F0 H0 F : Hp) (Z : Ends) : Out → Prop
  | .nx ρ => ∀ F' H' σ', Ex F F' → Rep K F0 H0 F' H' ρ σ' → Z.nx σ' H'
  | .rt d => ∀ v F' H', Ex F F' → Grow F0 H0 F' H' → Da K F' v d → Z.rt v H'
  | .ex x ρ => ∀ cls dd F' H' σ', Ex F F' → Rep K F0 H0 F' H' ρ σ' → XRep K mg F' x cls dd → W cls dd σ' H'
  | .bk ρ => ∀ F' H' σ', Ex F F' → Rep K F0 H0 F' H' ρ σ' → Z.bk σ' H'
  | .ct ρ => ∀ F' H' σ', Ex F F' → Rep K F0 H0 F' H' ρ σ' → Z.ct σ' H'
  | .bad => False
theorem OOk.up {K : PySem.W.Frag} {mg : Str → Option Value} {W : WX} {F0 H0 F F' : Hp} {Z : Ends} {o : Out} (h : OOk K mg W F0 H0 F Z o) (e : Ex F F') : OOk K mg W F0 H0 F' Z o := by
  cases o with
  | nx ρ => exact fun F2 H2 σ2 e2 r => h F2 H2 σ2 (e.trans e2) r
  | rt d => exact fun v F2 H2 e2 r => h v F2 H2 (e.trans e2) r
  | ex x ρ => exact fun c d F2 H2 σ2 e2 r => h c d F2 H2 σ2 (e.trans e2) r
  | bk ρ => exact fun F2 H2 σ2 e2 r => h F2 H2 σ2 (e.trans e2) r
  | ct ρ => exact fun F2 H2 σ2 e2 r => h F2 H2 σ2 (e.trans e2) r
  | bad => exact h
def tS (K : PySem.W.Frag) (mg : Str → Option Value) (W : WX) (g : Env → Out) : TS := fun Z σ H => ∃ F0 H0 F ρ, Rep K F0 H0 F H ρ σ ∧ OOk K mg W F0 H0 F Z (g ρ)
structure DS (X : Cx) (W : WX) (st : Stmt) (g : Env → Out) : Prop where
  ps : PS X st (tS X.K X.mg W g)
structure DSs (X : Cx) (W : WX) (st : List Stmt) (g : Env → Out) : Prop where
  pss : PSs X st (tS X.K X.mg W g)
/-- an expression's result, then what is done -/
def exB {α : Type} (ρ : Env) (r : R α) (k : α → Out) : Out := match r with
  | .ok a => k a
  | .exc x => .ex x ρ
  | .bad => .bad
theorem exB_ok {α : Type} {K : PySem.W.Frag} {mg : Str → Option Value} {W : WX} {F0 H0 F H : Hp} {Z : Ends} {ρ : Env} {σ : L2.St} {r : R α} {k : α → Out} {P : α → Hp → Hp → Prop} (rp : Rep K F0 H0 F H ρ σ) (h : OOk K mg W F0 H0 F Z (exB ρ r k))
    (q : ∀ a F' H', Grow F H F' H' → OOk K mg W F0 H0 F' Z (k a) → P a F' H') : ROk K mg (fun c d H' => W c d σ H') F H P r := by
  cases r with
  | ok a => exact fun F' H' g => q a F' H' g (h.up g.f)
  | exc x => exact fun c d F' H' g xr => h c d F' H' σ g.f (rp.grow g) xr
  | bad => exact h
def sNx : Env → Out := fun ρ => .nx ρ
def sSeq (g h : Env → Out) : Env → Out := fun ρ => match g ρ with
  | .nx ρ' => h ρ'
  | o => o
section
variable {X : Cx} {W : WX} {st : Stmt} {sts : List Stmt} {e e1 e2 : Expr} {pos : Pos} {g h : Env → Out} {f : Env → R D}
theorem dss_nil : DSs X W [] sNx := ⟨pss_imp pss_nil fun Z σ H ⟨F0, H0, F, ρ, r, k⟩ => k F H σ (.refl F) r⟩
theorem dss_cons (h1 : DS X W st g) (h2 : DSs X W sts h) : DSs X W (st :: sts) (sSeq g h) := ⟨pss_imp (pss_cons h1.ps h2.pss) fun Z σ H ⟨F0, H0, F, ρ, r, k⟩ => by
  have k : OOk X.K X.mg W F0 H0 F Z (match g ρ with | .nx ρ' => h ρ' | o => o) := k
  refine ⟨F0, H0, F, ρ, r, ?_⟩
  cases hg : g ρ with
  | nx ρ' =>
    rw [hg] at k
    exact fun F' H' σ' e r' => ⟨F0, H0, F', ρ', r', k.up e⟩
  | rt d => rw [hg] at k; exact k
  | ex x ρ' => rw [hg] at k; exact k
  | bk ρ' => rw [hg] at k; exact k
  | ct ρ' => rw [hg] at k; exact k
  | bad => rw [hg] at k; exact k⟩
theorem dss_one (h1 : DS X W st g) : DSs X W [st] g := ⟨pss_one h1.ps⟩
theorem ds_pass : DS X W (.Pass pos) sNx := ⟨ps_imp ps_pass fun Z σ H ⟨F0, H0, F, ρ, r, k⟩ => k F H σ (.refl F) r⟩
def sBk : Env → Out := fun ρ => .bk ρ
def sCt : Env → Out := fun ρ => .ct ρ
theorem ds_break : DS X W (.Break pos) sBk := ⟨ps_imp ps_break fun Z σ H ⟨F0, H0, F, ρ, r, k⟩ => k F H σ (.refl F) r⟩
theorem ds_cont : DS X W (.Continue pos) sCt := ⟨ps_imp ps_continue fun Z σ H ⟨F0, H0, F, ρ, r, k⟩ => k F H σ (.refl F) r⟩
def sRet (f : Env → R D) : Env → Out := fun ρ => exB ρ (f ρ) fun d => .rt d
theorem ds_ret (ha : DE X W e f) : DS X W (.Return (some e) pos) (sRet f) := ⟨ps_imp (ps_ret ha.pe) fun Z σ H ⟨F0, H0, F, ρ, r, k⟩ => ⟨F0, H0, F, ρ, r, exB_ok r k fun d F' H' gr q v hv => q v F' H' (.refl _) (r.g.trans gr) hv⟩⟩
def sRetN : Env → Out := fun _ => .rt .none
theorem ds_retN : DS X W (.Return none pos) sRetN := ⟨ps_imp ps_retN fun Z σ H ⟨F0, H0, F, ρ, r, k⟩ => k .non F H (.refl F) r.g .non⟩
def sIf (t : Env → R Bool) (g h : Env → Out) : Env → Out := fun ρ => exB ρ (t ρ) fun b => if b = true then g ρ else h ρ
theorem ds_if {t : Env → R Bool} {s1 s2 : List Stmt} (hc : DT X W e t) (h1 : DSs X W s1 g) (h2 : DSs X W s2 h) : DS X W (.If e s1 s2 pos) (sIf t g h) :=
  ⟨ps_imp (ps_if hc.pt h1.pss h2.pss) fun Z σ H ⟨F0, H0, F, ρ, r, k⟩ => ⟨F0, H0, F, ρ, r, exB_ok r k fun b F' H' gr q => by
    cases b with
    | true => exact ⟨F0, H0, F', ρ, r.grow gr, q⟩
    | false => exact ⟨F0, H0, F', ρ, r.grow gr, q⟩⟩⟩
def sDrop (f : Env → R D) : Env → Out := fun ρ => exB ρ (f ρ) fun _ => .nx ρ
theorem ds_drop (ha : DE X W e f) (hs : swapsWith e none pos.line X.env = pure false := by rfl) : DS X W (.Expr e pos) (sDrop f) :=
  ⟨ps_imp (ps_expr ha.pe hs) fun Z σ H ⟨F0, H0, F, ρ, r, k⟩ => ⟨F0, H0, F, ρ, r, exB_ok r k fun d F' H' gr q v hv => q F' H' σ (.refl _) (r.grow gr)⟩⟩
/-- x = e -/
def sAsg (i : Nat) (f : Env → R SV) : Env → Out := fun ρ => exB ρ (f ρ) fun sv => .nx (ρ.set i sv)
theorem ds_asg {i : Nat} {x : Str} {f : Env → R SV} {pos' : Pos} (hN : X.N.Nodup) (hi : X.N[i]? = some x) (hx : Loc X.env.scope x) (ha : DX X W e f) (hs : swapsWith e (some (.Name x pos')) pos.line X.env = pure false := by rfl)
    (hf : X.fn x = true ∨ X.env.scope.names.lookup x = some .local := by first | exact .inl rfl | exact .inr rfl | assumption) : DS X W (.Assign [.Name x pos'] e pos) (sAsg i f) :=
  ⟨ps_imp (ps_set hN hi hx ha.pe hs hf) fun Z σ H ⟨F0, H0, F, ρ, r, k⟩ => ⟨F0, H0, F, ρ, r, exB_ok r k fun sv F' H' gr q v hv => q F' H' _ (.refl _) (r.setSV gr hv i)⟩⟩
/-- x = [.. for ..] on one line, x a plain local -/
theorem ds_setLc {i : Nat} {y : Str} {py : Pos} {tg iter elt : Expr} {ifs : List Expr} {scope : Scope} {own : List (Str × Nat)} {p : Pos} {it : Env → R (List D)} {s : D → Env → Option Env} {t : Env → R Bool} {el : Env → R D} {ts vs : List Nat}
    (hc : X.calm = true) (hN : X.N.Nodup) (hy : X.N[i]? = some y) (hyl : X.env.scope.names.lookup y = some .local)
    (hsw : swapsWith (.ListComp elt [⟨tg, iter, ifs, 0⟩] scope p) (some (.Name y py)) pos.line X.env = pure true) (hi : DIB X W tg iter it) (ok : BlkOk X.N X.env.scope scope own)
    (hg : ∀ (s' : Shared) (H : Hp) (C : Addr) (cl : List (Str × Addr)) (fp : List Addr), DG (X.blk s' H scope (compEnvC scope cl C X.env) fp) ts tg s)
    (ht : ∀ (s' : Shared) (H : Hp) (C : Addr) (cl : List (Str × Addr)) (fp : List Addr), DTs (X.blk s' H scope (compEnvC scope cl C X.env) fp) W0 ifs t)
    (he : ∀ (s' : Shared) (H : Hp) (C : Addr) (cl : List (Str × Addr)) (fp : List Addr), DE (X.blk s' H scope (compEnvC scope cl C X.env) fp) W0 elt el)
    (hvs : own.map (·.2) = vs) (hts : ∀ j ∈ ts, j ∈ vs) (hs : ∀ x, foldedSetIterable iter X.env x = pure x := by intro _; rfl) :
    DS X W (.Assign [.Name y py] (.ListComp elt [⟨tg, iter, ifs, 0⟩] scope p) pos) (sAsg i (asOwn (cLc it s t el vs))) := by
  subst hvs
  exact
  ⟨ps_imp (ps_setLc (wi := tIB X.K X.mg W it) (g := tG X.K ts s) (tt := tD X.K X.mg W0 t) (te := tE X.K X.mg W0 el) hc hN hy hyl hsw hi.pi ok (fun a b c d e => (hg a b c d e).pg) (fun a b c d e => (ht a b c d e).pts) (fun a b c d e => (he a b c d e).pe) hs) fun Z σ H ⟨F0, H0, F, ρ, r, k⟩ => by
    refine lc_read hts ⟨F0, H0, F, ρ, r, ?_⟩
    have k : OOk X.K X.mg W F0 H0 F Z (exB ρ ((cLc it s t el (own.map (·.2)) ρ).bind fun d => .ok (.own d)) fun sv => .nx (ρ.set i sv)) := k
    have q := exB_ok (P := fun (sv : SV) F' H' => ∀ v, SVal X.K H F' H' v sv → Z.nx (σ.set i (some v)) H') r k fun sv F' H' gr q v hv => q F' H' _ (.refl _) (r.setSV gr hv i)
    exact (map_ok (k := fun d => SV.own d) q).imp fun ds F' H' _ gr z p vs h1 h2 h3 h4 => z _ ⟨p, vs, rfl, h1, h2, h3, h4⟩⟩
/-- targets of any form = frozen data -/
def sTo (s : D → Env → Option Env) (f : Env → R D) : Env → Out := fun ρ => exB ρ (f ρ) fun d => match s d ρ with
  | some ρ' => .nx ρ'
  | none => .bad
theorem ds_to {tg : Expr} {ts : List Nat} {s : D → Env → Option Env} (ha : DE X W e f) (hg : DG X ts tg s) (hs : swapsWithSole [tg] e pos.line X.env = pure false := by rfl) (hw : swappedStores [tg] e X.env = pure none := by rfl)
    (h1 : (assignEach [tg] X.env).map (·.2) = [assign tg X.env] := by rfl) : DS X W (.Assign [tg] e pos) (sTo s f) :=
  ⟨ps_imp (ps_asg ha.pe hg.pg hs hw h1) fun Z σ H ⟨F0, H0, F, ρ, r, k⟩ => ⟨F0, H0, F, ρ, r, exB_ok r k fun d F' H' gr q v hv => by
    cases hd : s d ρ with
    | none => rw [hd] at q; exact q.elim
    | some ρ' =>
      rw [hd] at q
      exact ⟨F0, H0, F', ρ, d, ρ', r.grow gr, hv, hd, fun σ' r' _ => q F' H' σ' (.refl _) r'⟩⟩⟩
/-- a, b = e1, e2 -/
def sPar (i j : Nat) (f g : Env → R SV) : Env → Out := fun ρ => exB ρ (f ρ) fun x => exB ρ (g ρ) fun y => .nx ((ρ.set i x).set j y)
theorem ds_par {i j : Nat} {x y : Str} {px py pt : Pos} {kt k2 pt2} {f g : Env → R SV} (hc : X.calm = true) (hN : X.N.Nodup) (hi : X.N[i]? = some x) (hj : X.N[j]? = some y) (hij : i ≠ j)
    (hx : X.env.scope.names.lookup x = some .local) (hy : X.env.scope.names.lookup y = some .local) (ha : DX X W e1 f) (hb : DX X W e2 g)
    (hw : swappedStores [.Tuple [.Name x px, .Name y py] kt pt] (.Tuple [e1, e2] k2 pt2) X.env = pure (some [x, y]))
    (hs : swapsWithSole [.Tuple [.Name x px, .Name y py] kt pt] (.Tuple [e1, e2] k2 pt2) pos.line X.env = pure false := by rfl)
    (he1 : starEach [e1, e2] X.env = (false, eval e1 X.env) :: starEach [e2] X.env := by rfl) (he2 : starEach [e2] X.env = (false, eval e2 X.env) :: starEach [] X.env := by rfl) :
    DS X W (.Assign [.Tuple [.Name x px, .Name y py] kt pt] (.Tuple [e1, e2] k2 pt2) pos) (sPar i j f g) :=
  ⟨ps_imp (ps_par hc hN hi hj hij hx hy (pa_cons ha.pe (pa_cons hb.pe pa_nil he2) he1) hw hs) fun Z σ H ⟨F0, H0, F, ρ, r, k⟩ => ⟨F0, H0, F, ρ, r, exB_ok r k fun a F1 H1 g1 q1 v hv => by
    refine ⟨F0, H0, F1, ρ, r.grow g1, exB_ok (r.grow g1) q1 fun b F2 H2 g2 q2 u hu => ⟨v, u, rfl, ?_⟩⟩
    have hv2 : SVal X.K H F2 H2 v a := by
      cases a with
      | no => exact hv
      | val d => exact Da.up hv g2.f
      | own ds =>
        obtain ⟨p, vs, rfl, h1, h2, h3, h4⟩ := hv
        refine ⟨p, vs, rfl, h1, ?_, g2.h _ _ h3, h4.up g2.f⟩
        cases z : F2 p with
        | none => rfl
        | some o =>
          have w := g2.new p o z h2
          rw [h3] at w; cases w
      | dic ds =>
        obtain ⟨p, vs, rfl, h1, h2, h3, h4⟩ := hv
        refine ⟨p, vs, rfl, h1, ?_, g2.h _ _ h3, h4.up g2.f⟩
        cases z : F2 p with
        | none => rfl
        | some o =>
          have w := g2.new p o z h2
          rw [h3] at w; cases w
    have r1 := r.setSV (g1.trans g2) hv2 i
    exact q2 F2 H2 _ (.refl _) (by
      have r0 := (r.grow g1)
      have rr : Rep X.K F0 H0 F1 H1 (ρ.set i a) (σ.set i (some v)) := r.setSV g1 hv i
      exact rr.setSV g2 hu j)⟩⟩
/-- an own list given away at this statement: frozen ahead of it -/
def sFrz (i : Nat) (g : Env → Out) : Env → Out := fun ρ => g (frz i ρ)
theorem ds_frz (i : Nat) (h1 : DS X W st g) : DS X W st (sFrz i g) := ⟨ps_imp h1.ps fun Z σ H ⟨F0, H0, F, ρ, r, k⟩ => by
  obtain ⟨F', e, r'⟩ := r.frz i
  exact ⟨F0, H0, F', _, r', k.up e⟩⟩
/-- x += e, x -= e -/
def sAug (i : Nat) (o : D → D → Option D) (f : Env → R D) : Env → Out := fun ρ => match cVar i ρ with
  | .ok a => exB ρ (f ρ) fun b => match o a b with
    | some c => .nx (ρ.set i (.val c))
    | none => .bad
  | _ => .bad
theorem ds_aug {i : Nat} {x : Str} {op : Operator} {ti : TIp} {o : D → D → Option D} {pos' : Pos} (hN : X.N.Nodup) (hi : X.N[i]? = some x) (hx : Loc X.env.scope x) (ho : PIp X op ti) (hr : RdO X.K ti o) (ha : DE X W e f)
    (hf : X.fn x = true ∨ X.env.scope.names.lookup x = some .local := by first | exact .inl rfl | exact .inr rfl | assumption) : DS X W (.AugAssign (.Name x pos') op e pos) (sAug i o f) :=
  ⟨ps_imp (ps_aug hN hi hx ha.pe ho hf) fun Z σ H ⟨F0, H0, F, ρ, r, k⟩ => by
    have k : OOk X.K X.mg W F0 H0 F Z (match cVar i ρ with | .ok a => exB ρ (f ρ) fun b => (match o a b with | some c => .nx (ρ.set i (.val c)) | none => .bad) | _ => .bad) := k
    cases hc : cVar i ρ with
    | ok a =>
      rw [hc] at k
      have hρ : ρ[i]? = some (.val a) := by
        unfold cVar at hc
        split at hc
        · rename_i d e; cases hc; exact e
        · cases hc
      obtain ⟨v, e1, e2⟩ := r.val i a hρ
      refine ⟨v, e1, F0, H0, F, ρ, r, exB_ok r k fun b F' H' gr q u hu => ?_⟩
      cases hq : o a b with
      | none => rw [hq] at q; exact q.elim
      | some c =>
        rw [hq] at q
        exact hr F' H' v u a b c gr.in_ (.fr (e2.up gr.f)) (.fr hu) hq _ fun F2 H2 g2 w hw => q F2 H2 _ g2.f (((r.grow gr).grow g2).setVal hw i)
    | exc x => rw [hc] at k; exact k.elim
    | bad => rw [hc] at k; exact k.elim⟩
/-- + of ints, texts in place -/
def oAugAdd : D → D → Option D
  | .int i, .int j => some (.int (i + j))
  | .str x, .str y => if x.length + y.length ≤ 100000 then some (.str (x ++ y)) else none
  | _, _ => none
theorem ip_addD : PIp X .Add (fun x y H Q => (rI0 fun i j => .int (i + j)) x y H Q ∨ (∃ i j, x = .str i ∧ y = .str j ∧ i.length + j.length ≤ sizeLine ∧ Q (.str (i ++ j)) H)) := fun pins s σ H x y v u Q I r1 r2 h => by
  rcases h with h | h
  · exact iop_add pins s σ H x y v u Q I r1 r2 h
  · exact iop_add_str pins s σ H x y v u Q I r1 r2 h
theorem rd_augadd {K : PySem.W.Frag} : RdO K (fun x y H Q => (rI0 fun i j => .int (i + j)) x y H Q ∨ (∃ i j, x = .str i ∧ y = .str j ∧ i.length + j.length ≤ sizeLine ∧ Q (.str (i ++ j)) H)) oAugAdd := fun F H x y a b c e hx hy hc Q k => by
  cases a <;> cases b <;> simp only [oAugAdd] at hc <;> try (cases hc; done)
  · cases hc; exact .inl ⟨_, _, hx.int, hy.int, flat_q e (.int _) k⟩
  · split at hc
    · rename_i z
      cases hc
      exact .inr ⟨_, _, hx.str, hy.str, Evl.sz_of z, flat_q e (.str _) k⟩
    · cases hc
theorem ip_subD : PIp X .Sub (rI0 fun i j => .int (i - j)) := fun pins s σ H x y v u Q I r1 r2 h => iop_sub pins s σ H x y v u Q I r1 r2 h

/-- x.append(e), x an own list -/
def sApp (i : Nat) (f : Env → R D) : Env → Out := fun ρ => match ρ[i]? with
  | some (.own ds) => exB ρ (f ρ) fun d => if ds.length < 100000 then .nx (ρ.set i (.own (ds ++ [d]))) else .bad
  | _ => .bad
theorem Rep.mut {K : PySem.W.Frag} {F0 H0 F H : Hp} {ρ : Env} {σ : L2.St} {i : Nat} {ds es : List D} {p : Addr} {us : List V} (r : Rep K F0 H0 F H ρ σ) (hi : ρ[i]? = some (.own ds)) (hp : σ[i]? = some (some (.ref p))) (hH : ∃ ws, H p = some (.lst ws)) (h0 : H0 p = none) (hF : F p = none) (ha : DaAll K F us es) :
    Rep K F0 H0 F (upd H p (.lst us)) (ρ.set i (.own es)) σ := by
  have hl : i < ρ.length := (List.getElem?_eq_some_iff.mp hi).1
  have pn : ∀ {j : Nat} {xs : List D} {p' : Addr}, i ≠ j → ρ[j]? = some (.own xs) → σ[j]? = some (some (.ref p')) → p' ≠ p := fun {j xs p'} ne e1 e2 z => by
    subst z
    exact r.inj i j _ _ p' ne hi e1 hp e2
  refine ⟨⟨r.g.f, Ex.mut r.g.h h0, Ex.mut r.g.in_ hF, r.g.new⟩, by simp [r.len], fun j d e => ?_, fun j xs e => ?_, fun j k xs ys q ne e1 e2 e3 e4 => ?_, fun j xs e => ?_, fun j k xs ys q ne e1 e2 e3 e4 => ?_⟩
  · rcases lset_get e with ⟨_, z⟩ | ⟨_, z⟩
    · cases z
    · exact r.val j d z
  · rcases lset_get e with ⟨rfl, z⟩ | ⟨ne, z⟩
    · cases z
      exact ⟨p, us, hp, h0, hF, upd_same, ha⟩
    · obtain ⟨p', vs, q1, q2, q3, q4, q5⟩ := r.own j xs z
      exact ⟨p', vs, q1, q2, q3, by rw [upd_ne (pn ne z q1)]; exact q4, q5⟩
  · rcases lset_get e1 with ⟨z1, _⟩ | ⟨_, z1⟩
    · rcases lset_get e2 with ⟨z2, _⟩ | ⟨n2, z2⟩
      · exact ne (z1.symm.trans z2)
      · subst z1
        exact r.inj i k ds ys q ne hi z2 e3 e4
    · rcases lset_get e2 with ⟨z2, _⟩ | ⟨_, z2⟩
      · subst z2
        exact r.inj j i xs ds q ne z1 hi e3 e4
      · exact r.inj j k xs ys q ne z1 z2 e3 e4
  · rcases lset_get e with ⟨_, z⟩ | ⟨_, z⟩
    · cases z
    · obtain ⟨p', vs, q1, q2, q3, q4, q5⟩ := r.dic j xs z
      refine ⟨p', vs, q1, q2, q3, ?_, q5⟩
      rw [upd_ne fun e => ?_]
      · exact q4
      · obtain ⟨ws, hw⟩ := hH
        rw [e, hw] at q4
        cases q4
  · rcases lset_get e1 with ⟨_, z⟩ | ⟨_, z1⟩
    · cases z
    · rcases lset_get e2 with ⟨_, z⟩ | ⟨_, z2⟩
      · cases z
      · exact r.injd j k xs ys q ne z1 z2 e3 e4
/-- an own dict written -/
theorem Rep.mutD {K : PySem.W.Frag} {F0 H0 F H : Hp} {ρ : Env} {σ : L2.St} {i : Nat} {ds es : List (Key × D)} {p : Addr} {us : List (Key × V)} (r : Rep K F0 H0 F H ρ σ) (hi : ρ[i]? = some (.dic ds)) (hp : σ[i]? = some (some (.ref p))) (hH : ∃ ws, H p = some (.dK ws))
    (h0 : H0 p = none) (hF : F p = none) (ha : DKs K F us es) : Rep K F0 H0 F (upd H p (.dK us)) (ρ.set i (.dic es)) σ := by
  have hl : i < ρ.length := (List.getElem?_eq_some_iff.mp hi).1
  have pn : ∀ {j : Nat} {xs : List (Key × D)} {p' : Addr}, i ≠ j → ρ[j]? = some (.dic xs) → σ[j]? = some (some (.ref p')) → p' ≠ p := fun {j xs p'} ne e1 e2 z => by
    subst z
    exact r.injd i j _ _ p' ne hi e1 hp e2
  refine ⟨⟨r.g.f, Ex.mut r.g.h h0, Ex.mut r.g.in_ hF, r.g.new⟩, by simp [r.len], fun j d e => ?_, fun j xs e => ?_, fun j k xs ys q ne e1 e2 e3 e4 => ?_, fun j xs e => ?_, fun j k xs ys q ne e1 e2 e3 e4 => ?_⟩
  · rcases lset_get e with ⟨_, z⟩ | ⟨_, z⟩
    · cases z
    · exact r.val j d z
  · rcases lset_get e with ⟨_, z⟩ | ⟨_, z⟩
    · cases z
    · obtain ⟨p', vs, q1, q2, q3, q4, q5⟩ := r.own j xs z
      refine ⟨p', vs, q1, q2, q3, ?_, q5⟩
      rw [upd_ne fun e => ?_]
      · exact q4
      · obtain ⟨ws, hw⟩ := hH
        rw [e, hw] at q4
        cases q4
  · rcases lset_get e1 with ⟨_, z⟩ | ⟨_, z1⟩
    · cases z
    · rcases lset_get e2 with ⟨_, z⟩ | ⟨_, z2⟩
      · cases z
      · exact r.inj j k xs ys q ne z1 z2 e3 e4
  · rcases lset_get e with ⟨rfl, z⟩ | ⟨ne, z⟩
    · cases z
      exact ⟨p, us, hp, h0, hF, upd_same, ha⟩
    · obtain ⟨p', vs, q1, q2, q3, q4, q5⟩ := r.dic j xs z
      exact ⟨p', vs, q1, q2, q3, by rw [upd_ne (pn ne z q1)]; exact q4, q5⟩
  · rcases lset_get e1 with ⟨z1, _⟩ | ⟨_, z1⟩
    · rcases lset_get e2 with ⟨z2, _⟩ | ⟨n2, z2⟩
      · exact ne (z1.symm.trans z2)
      · subst z1
        exact r.injd i k ds ys q ne hi z2 e3 e4
    · rcases lset_get e2 with ⟨z2, _⟩ | ⟨_, z2⟩
      · subst z2
        exact r.injd j i xs ds q ne z1 hi e3 e4
      · exact r.injd j k xs ys q ne z1 z2 e3 e4
theorem ds_app {i : Nat} {x : Str} {p1 p2 p3 : Pos} (hN : X.N[i]? = some x) (hv : Vis X.env.scope x) (ha : DE X W e f) (hd : (x == ("__debug__" : Str)) = false := by decide) (hcd : (x == ("__classdict__" : Str)) = false := by decide)
    (hbase : attributeBase (.Name x p1) "append" X.env (eval (.Name x p1) X.env) = eval (.Name x p1) X.env := by rfl)
    (hfew : ((backTo p3 (starEach [e] X.env)).all (fun x => !x.1) && (backToKw p3 (keywordEach [] X.env)).all (fun x => x.1.isSome)
      && decide ([e].length + ([] : List Keyword).length + (if ([] : List Keyword).isEmpty then 0 else 1) < 30)) = true := by rfl)
    (hline : (p2.endLine == p3.line) = true := by rfl) (hs : starEach [e] X.env = (false, eval e X.env) :: starEach [] X.env := by rfl) (hplain : (backTo p3 (starEach [] X.env)).any (·.1) = false := by rfl)
    (hsw : swapsWith (.Call (.Attribute (.Name x p1) "append" p2) [e] [] p3) none pos.line X.env = pure false := by rfl) :
    DS X W (.Expr (.Call (.Attribute (.Name x p1) "append" p2) [e] [] p3) pos) (sApp i f) :=
  ⟨ps_imp (ps_expr (pe_bm PySem.F.plainAttrs_list PySem.F.slot_list_append PySem.F.type_list_append mt_append (pe_var hN hv hd hcd) (pa_cons ha.pe pa_nil hs) hbase hfew hline hs hplain) hsw) fun Z σ H ⟨F0, H0, F, ρ, r, k⟩ => by
    have k : OOk X.K X.mg W F0 H0 F Z (match ρ[i]? with | some (.own ds) => exB ρ (f ρ) fun d => (if ds.length < 100000 then .nx (ρ.set i (.own (ds ++ [d]))) else .bad) | _ => .bad) := k
    split at k
    · rename_i ds hi
      obtain ⟨p, vs, e1, e2, e3, e4, e5⟩ := r.own i ds hi
      refine ⟨.ref p, e1, .inl ⟨rfl, _, Or.inl (Or.inl e4)⟩, F0, H0, F, ρ, r, exB_ok r k fun d F' H' gr q v hv => ?_⟩
      split at q
      · rename_i hlen
        have r' := r.grow gr
        have fp : F' p = none := by
          cases z : F' p with
          | none => rfl
          | some o =>
            have w := gr.new p o z e3
            rw [e4] at w; cases w
        have l5 := dpa_len e5
        refine ⟨p, vs, v, rfl, rfl, gr.h _ _ e4, Evl.sz_lt (by omega), ?_⟩
        exact q F' _ σ (.refl _) (r'.mut hi e1 ⟨_, gr.h _ _ e4⟩ e2 fp (dpa_app (e5.up gr.f) (.one hv)))
      · exact q.elim
    · exact k.elim⟩

/-! ### loops -/
def forLoop (s : D → Env → Option Env) (body : Env → Out) : List D → Env → Out
  | [], ρ => .nx ρ
  | d :: ds, ρ => match s d ρ with
    | none => .bad
    | some ρ1 => match body ρ1 with
      | .nx ρ2 => forLoop s body ds ρ2
      | .ct ρ2 => forLoop s body ds ρ2
      | .bk ρ2 => .nx ρ2
      | o => o
def sFor (it : Env → R (List D)) (s : D → Env → Option Env) (body : Env → Out) : Env → Out := fun ρ => exB ρ (it ρ) fun ds => forLoop s body ds ρ
theorem ds_for {tg iter : Expr} {body : List Stmt} {it : Env → R (List D)} {s : D → Env → Option Env} {ts : List Nat} (hp : PassesOwn (model X.prog X.w) X.A X.env X.xe) (hc : X.calm = true) (hi : DI X W tg iter it) (hg : DG X ts tg s) (hb : DSs X W body g)
    (hs : ∀ x, foldedSetIterable iter X.env x = pure x := by intro _; rfl) : DS X W (.For tg iter body [] pos) (sFor it s g) :=
  ⟨ps_imp (ps_for hp hc hi.pi hg.pg hb.pss hs) fun Z σ H ⟨F0, H0, F, ρ, r, k⟩ => ⟨F0, H0, F, ρ, r, exB_ok r k fun ds F1 H1 g1 q1 J itd => by
    refine ⟨fun i m σ2 H2 => m = ds.length - i ∧ i ≤ ds.length ∧ ∃ F2 ρ2, Ex F1 F2 ∧ Rep X.K F0 H0 F2 H2 ρ2 σ2 ∧ OOk X.K X.mg W F0 H0 F2 Z (forLoop s g (ds.drop i) ρ2), ⟨ds.length, by simp, Nat.zero_le _, F1, ρ, .refl _, r.grow g1, q1⟩, ?_⟩
    rintro i m σ2 H2 ⟨rfl, hi, F2, ρ2, f1, r2, k2⟩
    by_cases hlt : i < ds.length
    · rw [List.drop_eq_getElem_cons hlt] at k2
      unfold forLoop at k2
      refine .inr ⟨itd.goes i F2 H2 ⟨f1, r2.g.in_⟩ hlt, fun σ3 H3 => ∃ F3 ρ3, Ex F1 F3 ∧ Rep X.K F0 H0 F3 H3 ρ3 σ3 ∧ OOk X.K X.mg W F0 H0 F3 Z (forLoop s g (ds.drop (i + 1)) ρ3), fun σ3 H3 n => ⟨ds.length - (i + 1), by omega, rfl, hlt, n⟩, fun x H3 hy => ?_⟩
      obtain ⟨F3, g3, hx⟩ := itd.yields i F2 H2 x H3 ds[i] ⟨f1, r2.g.in_⟩ r2.g.in_ (List.getElem?_eq_getElem hlt) hy
      have k3 := k2.up g3.f
      cases hd : s ds[i] ρ2 with
      | none => rw [hd] at k2; exact k2.elim
      | some ρ' =>
        rw [hd] at k3
        refine ⟨F0, H0, F3, ρ2, ds[i], ρ', r2.grow g3, hx, hd, fun σ4 r4 _ => ⟨F0, H0, F3, ρ', r4, ?_⟩⟩
        cases hb : g ρ' with
        | nx ρ5 =>
          have k3 : OOk X.K X.mg W F0 H0 F3 Z (match g ρ' with | .nx ρ2 => forLoop s g (ds.drop (i + 1)) ρ2 | .ct ρ2 => forLoop s g (ds.drop (i + 1)) ρ2 | .bk ρ2 => .nx ρ2 | o => o) := k3
          rw [hb] at k3
          exact fun F5 H5 σ5 e5 r5 => ⟨F5, ρ5, (f1.trans g3.f).trans e5, r5, k3.up e5⟩
        | ct ρ5 =>
          have k3 : OOk X.K X.mg W F0 H0 F3 Z (match g ρ' with | .nx ρ2 => forLoop s g (ds.drop (i + 1)) ρ2 | .ct ρ2 => forLoop s g (ds.drop (i + 1)) ρ2 | .bk ρ2 => .nx ρ2 | o => o) := k3
          rw [hb] at k3
          exact fun F5 H5 σ5 e5 r5 => ⟨F5, ρ5, (f1.trans g3.f).trans e5, r5, k3.up e5⟩
        | bk ρ5 =>
          have k3 : OOk X.K X.mg W F0 H0 F3 Z (match g ρ' with | .nx ρ2 => forLoop s g (ds.drop (i + 1)) ρ2 | .ct ρ2 => forLoop s g (ds.drop (i + 1)) ρ2 | .bk ρ2 => .nx ρ2 | o => o) := k3
          rw [hb] at k3
          exact k3
        | rt d =>
          have k3 : OOk X.K X.mg W F0 H0 F3 Z (match g ρ' with | .nx ρ2 => forLoop s g (ds.drop (i + 1)) ρ2 | .ct ρ2 => forLoop s g (ds.drop (i + 1)) ρ2 | .bk ρ2 => .nx ρ2 | o => o) := k3
          rw [hb] at k3
          exact k3
        | ex x ρ5 =>
          have k3 : OOk X.K X.mg W F0 H0 F3 Z (match g ρ' with | .nx ρ2 => forLoop s g (ds.drop (i + 1)) ρ2 | .ct ρ2 => forLoop s g (ds.drop (i + 1)) ρ2 | .bk ρ2 => .nx ρ2 | o => o) := k3
          rw [hb] at k3
          exact k3
        | bad =>
          have k3 : OOk X.K X.mg W F0 H0 F3 Z (match g ρ' with | .nx ρ2 => forLoop s g (ds.drop (i + 1)) ρ2 | .ct ρ2 => forLoop s g (ds.drop (i + 1)) ρ2 | .bk ρ2 => .nx ρ2 | o => o) := k3
          rw [hb] at k3
          exact k3
    · have e : i = ds.length := by omega
      subst e
      rw [List.drop_length] at k2
      exact .inl ⟨itd.stops F2 H2 ⟨f1, r2.g.in_⟩, k2 F2 H2 σ2 (.refl _) r2⟩⟩⟩
def whileLoop (t : Env → R Bool) (body : Env → Out) : Nat → Env → Out
  | 0, _ => .bad
  | n + 1, ρ => exB ρ (t ρ) fun b => if b = true then (match body ρ with
      | .nx ρ2 => whileLoop t body n ρ2
      | .ct ρ2 => whileLoop t body n ρ2
      | .bk ρ2 => .nx ρ2
      | o => o) else .nx ρ
def FUEL : Nat := 18446744073709551616
def sWhile (t : Env → R Bool) (body : Env → Out) : Env → Out := fun ρ => whileLoop t body FUEL ρ
theorem ds_while {body : List Stmt} {t : Env → R Bool} (hp : PassesOwn (model X.prog X.w) X.A X.env X.xe) (hc : DT X W e t) (hb : DSs X W body g) : DS X W (.While e body [] pos) (sWhile t g) :=
  ⟨ps_imp (ps_while hp hc.pt hb.pss) fun Z σ H ⟨F0, H0, F, ρ, r, k⟩ => by
    refine ⟨fun m σ2 H2 => ∃ F2 ρ2, Rep X.K F0 H0 F2 H2 ρ2 σ2 ∧ OOk X.K X.mg W F0 H0 F2 Z (whileLoop t g m ρ2), ⟨FUEL, F, ρ, r, k⟩, ?_⟩
    rintro m σ2 H2 ⟨F2, ρ2, r2, k2⟩
    cases m with
    | zero => exact k2.elim
    | succ m =>
      unfold whileLoop at k2
      refine ⟨F0, H0, F2, ρ2, r2, exB_ok r2 k2 fun b F3 H3 g3 q3 => ?_⟩
      cases b with
      | false => exact iteF (q3 F3 H3 σ2 (.refl _) (r2.grow g3))
      | true =>
        refine iteT ⟨fun σ' H' => ∃ F', Ex F3 F' ∧ ∃ ρ', Rep X.K F0 H0 F' H' ρ' σ' ∧ OOk X.K X.mg W F0 H0 F' Z (whileLoop t g m ρ'), fun σ' H' ⟨F', _, ρ', q⟩ => ⟨m, Nat.lt_succ_self m, F', ρ', q⟩, F0, H0, F3, ρ2, r2.grow g3, ?_⟩
        have q3 : OOk X.K X.mg W F0 H0 F3 Z (match g ρ2 with | .nx ρ2 => whileLoop t g m ρ2 | .ct ρ2 => whileLoop t g m ρ2 | .bk ρ2 => .nx ρ2 | o => o) := q3
        cases hb : g ρ2 with
        | nx ρ5 =>
          rw [hb] at q3
          exact fun F5 H5 σ5 e5 r5 => ⟨F5, e5, ρ5, r5, q3.up e5⟩
        | ct ρ5 =>
          rw [hb] at q3
          exact fun F5 H5 σ5 e5 r5 => ⟨F5, e5, ρ5, r5, q3.up e5⟩
        | bk ρ5 => rw [hb] at q3; exact q3
        | rt d => rw [hb] at q3; exact q3
        | ex x ρ5 => rw [hb] at q3; exact q3
        | bad => rw [hb] at q3; exact q3⟩
end

/-! ### defs and their calls -/
def toR : Out → R D
  | .nx _ => .ok .none
  | .rt d => .ok d
  | .ex x _ => .exc x
  | _ => .bad
/-- a def of m parameters and n names in all, its body g -/
def semOf (n m : Nat) (g : Env → Out) (ds : List D) : R D := if ds.length = m then toR (g (ds.map .val ++ List.replicate (n - m) .no)) else .bad
def spD (K : PySem.W.Frag) (mg : Str → Option Value) (m : Nat) (sem : List D → R D) : Sp := fun vs H Q E => ∃ F ds, Ex F H ∧ DaAll K F vs ds ∧ ds.length = m ∧ ROk K mg E F H (fun d F' H' => ∀ v, Da K F' v d → Q v H') (sem ds)
theorem rep_start {K : PySem.W.Frag} {F H : Hp} {vs : List V} {ds : List D} {N : List Str} (e : Ex F H) (h : DaAll K F vs ds) (hl : ds.length ≤ N.length) : Rep K F H F H (ds.map .val ++ List.replicate (N.length - ds.length) .no) (start N vs) := by
  have el := dpa_len h
  have noOwn : ∀ (i : Nat) xs, (ds.map SV.val ++ List.replicate (N.length - ds.length) .no)[i]? ≠ some (.own xs) := fun i xs z => by
    rw [List.getElem?_append] at z
    split at z
    · rw [List.getElem?_map] at z
      obtain ⟨_, _, z⟩ := Option.map_eq_some_iff.mp z
      cases z
    · rw [List.getElem?_replicate] at z
      split at z <;> cases z
  have noDic : ∀ (i : Nat) xs, (ds.map SV.val ++ List.replicate (N.length - ds.length) .no)[i]? ≠ some (.dic xs) := fun i xs z => by
    rw [List.getElem?_append] at z
    split at z
    · rw [List.getElem?_map] at z
      obtain ⟨_, _, z⟩ := Option.map_eq_some_iff.mp z
      cases z
    · rw [List.getElem?_replicate] at z
      split at z <;> cases z
  refine ⟨.refl e, by simp [L2.start, el], fun i d q => ?_, fun i xs z => absurd z (noOwn i xs), fun i j xs ys p _ z => absurd z (noOwn i xs), fun i xs z => absurd z (noDic i xs), fun i j xs ys p _ z => absurd z (noDic i xs)⟩
  rw [List.getElem?_append] at q
  split at q
  · rename_i hi
    rw [List.length_map] at hi
    rw [List.getElem?_map] at q
    obtain ⟨d', q1, q2⟩ := Option.map_eq_some_iff.mp q
    cases q2
    obtain ⟨v, q3, q4⟩ := dpa_get h q1
    refine ⟨v, ?_, q4⟩
    unfold L2.start
    rw [List.getElem?_append_left (by rw [List.length_map, el]; exact hi), List.getElem?_map, q3]
    rfl
  · rw [List.getElem?_replicate] at q
    split at q <;> cases q
section
variable {P : Program} {w : World} {K : PySem.W.Frag}
variable {mg : Str → Option Value} {base : Heap}
theorem fn_okD {x qual : Str} {st : Stmt} {f : Addr} {fd : FuncData} {N ps : List Str} {k n m : Nat} {g : Env → Out} {sem : List D → R D} (hsem : sem = semOf n m g) (hn : N.length = n) (hm : ps.length = m) (Fn : Fun K x qual st f fd) (S : FnScope N ps (defScope st))
    (hbody : ∀ (cdv : Value) (A : Around) (outer : List PySem.Env) (s : Shared) (H : Hp) (E : XK), Room k (A.deeper (envOfC qual (defScope st) s.heap.objs.size f cdv)) →
      Takes (cxOf (L2.CX P w) P w K mg base N qual (defScope st) f cdv A outer s H E) (fun cls d _ H => E cls d H) →
      PassesOwn (model P w) (A.deeper (envOfC qual (defScope st) s.heap.objs.size f cdv)) (envOfC qual (defScope st) s.heap.objs.size f cdv) (cxOf (L2.CX P w) P w K mg base N qual (defScope st) f cdv A outer s H E).xe →
      DSs (cxOf (L2.CX P w) P w K mg base N qual (defScope st) f cdv A outer s H E) (fun cls d _ H => E cls d H) (defBody st) g) :
    FnOk P w K mg base (L2.CX P w) (k + 1) f fd ps (spD K mg m sem) := by
  subst hsem hn hm
  refine Fn.okX S (fun vs H Q E ⟨F, ds, _, h2, h3, _⟩ => (dpa_len h2).trans h3) fun cdv A outer s H vs Q E hr hsp => ?_
  obtain ⟨F, ds, h1, h2, h3, h4⟩ := hsp
  have tk := takes_of (X := cxOf (L2.CX P w) P w K mg base N qual (defScope st) f cdv A outer s H E) (E := E) rfl rfl rfl rfl
  have hp := passes_of (X := cxOf (L2.CX P w) P w K mg base N qual (defScope st) f cdv A outer s H E) rfl
  refine ⟨_, (hbody cdv A outer s H E hr tk hp).pss, F, H, F, _, rep_start (N := N) h1 h2 ?_, ?_⟩
  · have := S.pre
    have l := congrArg List.length this
    rw [List.length_take] at l
    omega
  · have h4 : ROk K mg E F H (fun d F' H' => ∀ v, Da K F' v d → Q v H') (if ds.length = ps.length then toR (g (ds.map .val ++ List.replicate (N.length - ps.length) .no)) else .bad) := h4
    rw [if_pos h3] at h4
    rw [h3]
    cases hg : g (ds.map SV.val ++ List.replicate (N.length - ps.length) SV.no) with
    | nx ρ =>
      rw [hg] at h4
      exact fun F' H' σ' _ r => h4 F' H' r.g .non .non
    | rt d =>
      rw [hg] at h4
      exact fun v F' H' _ gr hv => h4 F' H' gr v hv
    | ex x ρ =>
      rw [hg] at h4
      exact fun cls dd F' H' σ' _ r xr => h4 cls dd F' H' r.g xr
    | bk ρ => rw [hg] at h4; exact h4.elim
    | ct ρ => rw [hg] at h4; exact h4.elim
    | bad => rw [hg] at h4; exact h4.elim
end
end DL

/-! DLt -/
namespace DL
open PySem L2 PySem.Spec PyProof.Rows
open Evl (Ex ex_l ex_t ex_rd)

/-! ### try with except clauses, some of them with a name -/
abbrev Clause := Value × Option Nat × (Addr → Value → Option Addr → TS)
/-- the ends behind a suite that held the error in slot i -/
def unEnds (i : Nat) (Z : Ends) : Ends where
  nx := fun σ H => Z.nx (σ.set i none) H
  rt := Z.rt
  bk := fun σ H => Z.bk (σ.set i none) H
  ct := fun σ H => Z.ct (σ.set i none) H
def wMix (K : PySem.W.Frag) (Wo : WX) (Z : Ends) : List Clause → WX
  | [] => Wo
  | (c, none, ts) :: r => fun cls d σ H => ∃ b, PySem.W.exmOne K cls c = some b ∧ (b = true → ∀ a, H a = none → ts a cls d Z σ H) ∧ (b = false → wMix K Wo Z r cls d σ H)
  | (c, some i, ts) :: r => fun cls d σ H => ∃ b, PySem.W.exmOne K cls c = some b ∧ (b = true → ∀ a, H a = none → ts a cls d (unEnds i Z) (σ.set i (some (.ref a))) H) ∧ (b = false → wMix K Wo Z r cls d σ H)
/-- a suite, with the error at a in the hand -/
abbrev SuiteOk (X : Cx) (sts : List Stmt) (ts : Addr → Value → Option Addr → TS) : Prop := ∀ (a : Addr) (ob : Obj) (cls : Value) (d : Option Addr) (pn : List (Addr × Obj)), Zc cls d ob → (∃ ws, ob.data = .fields ws) → PSs (X.suite a ((a, ob) :: pn)) sts (ts a cls d)
inductive HdM (X : Cx) : List ExceptHandler → List Clause → Prop
  | nil : HdM X [] []
  | plain {x : Str} {c : Value} {ts : Addr → Value → Option Addr → TS} {b : Stmt} {rest : List Stmt} {p1 p2 : Pos} {hs : List ExceptHandler} {l : List Clause} (nm : Names X x c) (su : SuiteOk X (b :: rest) ts) (r : HdM X hs l) :
      HdM X (.ExceptHandler (some (.Name x p1)) none (b :: rest) p2 :: hs) ((c, none, ts) :: l)
  | named {x n : Str} {i : Nat} {c : Value} {ts : Addr → Value → Option Addr → TS} {b : Stmt} {rest : List Stmt} {p1 p2 : Pos} {hs : List ExceptHandler} {l : List Clause} (nm : Names X x c) (hi : X.N[i]? = some n) (hl : X.env.kindOf n = some .local) (su : SuiteOk X (b :: rest) ts) (r : HdM X hs l) :
      HdM X (.ExceptHandler (some (.Name x p1)) (some n) (b :: rest) p2 :: hs) ((c, some i, ts) :: l)
section
variable {X : Cx} {body : List Stmt} {h0 : ExceptHandler} {hl : List ExceptHandler} {l : List Clause} {pos : Pos} {tb : WX → TS} {Wo : WX}
/-- the error at a stands on the ground, the clauses are looked at in their order -/
structure Caught (X : Cx) (a : Addr) (cls : Value) (d : Option Addr) (pp : List (Addr × Obj)) (ss : L2.St) (HH : Hp) (sI : Shared) (B : Heap) (g : Heap) (sC : Shared) : Prop where
  J : Inv X pp ss HH sI
  nb : ∀ b o, sI.heap.get? b = some o → b ∉ frs X.stack → B.get? b = some o
  na : HH a = none
  os : sC.os = sI.os
  ag : AllBare sC.gens
  up : sI.heap.UpToSlots g
  fl : HandSPX.FlyingZ B (X.env :: X.outer) a (Zc cls d) g
theorem Caught.inv {a : Addr} {cls : Value} {d : Option Addr} {pp : List (Addr × Obj)} {ss : L2.St} {HH : Hp} {sI sC : Shared} {B g : Heap} (q : Caught X a cls d pp ss HH sI B g sC) : Inv X pp ss HH { sC with heap := g } := q.J.landed q.nb q.fl.1 q.up q.os q.ag
theorem Caught.apart {a : Addr} {cls : Value} {d : Option Addr} {pp : List (Addr × Obj)} {ss : L2.St} {HH : Hp} {sI sC : Shared} {B g : Heap} (hf : X.env.frame = some X.env.locals) (q : Caught X a cls d pp ss HH sI B g sC) : a ≠ X.env.locals ∧ a ∉ X.fs := by
  obtain ⟨ob, ws, e1, _, e2⟩ := q.fl.there
  have no : a ∉ frs (X.env :: X.outer) := fun hm => by
    obtain ⟨_, ob', e3, nf⟩ := q.fl.2.2.1.mem hm
    have e4 : ob = ob' := Option.some.inj (e1.symm.trans e3)
    exact nf ws (e4 ▸ e2)
  refine ⟨fun z => no (List.mem_filterMap.mpr ⟨X.env, List.mem_cons_self, hf.trans (congrArg some z.symm)⟩), fun hm => ?_⟩
  obtain ⟨en, h1, h2⟩ := List.mem_filterMap.mp hm
  exact no (List.mem_filterMap.mpr ⟨en, .tail _ h1, h2⟩)
theorem caught_go (hs : X.stack = X.env :: X.outer) (hf : X.env.frame = some X.env.locals) (tk : Takes X Wo) {a : Addr} {cls : Value} {d : Option Addr} {pp : List (Addr × Obj)} {ss : L2.St} {HH : Hp} {sI sC : Shared} {B g : Heap} {Z : Ends}
    (hN : X.N.Nodup) (q : Caught X a cls d pp ss HH sI B g sC) : ∀ {hl : List ExceptHandler} {l : List Clause}, HdM X hl l → wMix X.K Wo Z l cls d ss HH →
    wpAny (model X.prog X.w) X.A (handleBy (.ref a) X.env hl) (SP X pp Z) X.xe { sC with heap := g } := by
  intro hl l hk
  have ok := q.J.ok
  obtain ⟨ob, ws, ge, gz, gd⟩ := q.fl.there
  obtain ⟨aL, aF⟩ := q.apart hf
  have S3 := q.inv.suite ge gd q.na aL aF
  have lookT : PySem.W.Looks (model X.prog X.w) g (typeOf (.ref a)) cls := fun _ _ _ _ k z => wpAny_typeOf_ref (k _ _ ge) (gz.1.symm ▸ z)
  -- the class that a clause names
  have cname : ∀ {x : Str} {c : Value} {p : Pos} {Q E : Value → Shared → Prop}, Names X x c → Q c { sC with heap := g } → wpAny (model X.prog X.w) (X.A.mark (some (.ref a))) (eval (.Name x p) X.env) Q E { sC with heap := g } := fun nm z => by
    obtain ⟨n1, n2, n3 | ⟨n3, n4, n5⟩⟩ := nm
    · exact ld_glob (X := X.suite a ((a, ob) :: (X.pn ++ pp))) S3 n1 n3 z n2
    · exact ld_blt (X := X.suite a ((a, ob) :: (X.pn ++ pp))) S3 n1 n3 n4 z n5 n2
  induction hk with
  | nil =>
    intro w
    obtain ⟨_, _, _, oe, us, T, _, _, f1, _, f2, f3, _⟩ := id q.fl
    refine wpAny_handleBy_nil ?_
    unfold PySem.passOn
    refine wpAny_bind (wpAny_field f1 f2 f3 ?_)
    rw [if_neg (by simp : ¬ (Value.ref T == Value.none) = true)]
    have last : wpAny (model X.prog X.w) X.A (setFlight (.ref a) X.env.frame) (fun _ s4 => wpAny (model X.prog X.w) X.A (throw (.ref a) : Sem Flow) (SP X pp Z) X.xe s4) X.xe { sC with heap := g } := by
      rw [hf]
      exact HandSPX.setFlight_upZ q.fl fun g2 hh2 up2 => wpAny_throw (tk _ _ ⟨a, B, sI, pp, ss, HH, cls, d, rfl, q.J, q.nb, q.up.trans up2, .inr (.inr (hs ▸ hh2)), q.na, q.os, q.ag, w⟩)
    first
      | exact wpAny_bind (wpAny_pure (wpAny_bind last))
      | exact wpAny_bind last
  | @plain x c ts b rest p1 p2 hs2 l2 nm su r ih =>
    intro ⟨v, v1, v2, v3⟩
    refine wpAny_handleBy_cons (codeAny_handlers_test (cname nm ((PySem.W.exm_one q.inv.kIn lookT v1).here ?_))) (fun z => nomatch z)
    cases v with
    | false => exact ih (v3 rfl)
    | true =>
      refine codeAny_handlers_suite (HandSPX.lands_againZ q.fl fun g2 fl2 up2 => ?_)
      have q2 : Caught X a cls d pp ss HH sI B g2 sC := ⟨q.J, q.nb, q.na, q.os, q.ag, q.up.trans up2, fl2⟩
      obtain ⟨ob2, ws2, ge2, gz2, gd2⟩ := fl2.there
      refine wpAny_mono ((su a ob2 cls d (X.pn ++ pp) gz2 ⟨_, gd2⟩).run [] _ _ HH Z (q2.inv.suite ge2 gd2 q.na aL aF) (v2 rfl a q.na)) (fun fl s6 hh => ?_) (fun _ _ z => z.elim)
      cases fl with
      | next => obtain ⟨s', H', I', z⟩ := hh; exact ⟨s', H', I'.unsuite ok, z⟩
      | brk => obtain ⟨s', H', I', z⟩ := hh; exact ⟨s', H', I'.unsuite ok, z⟩
      | cont => obtain ⟨s', H', I', z⟩ := hh; exact ⟨s', H', I'.unsuite ok, z⟩
      | ret u => obtain ⟨v, s', H', I', z⟩ := hh; exact ⟨v, s', H', I'.unsuite ok, z⟩
  | @named x n i c ts b rest p1 p2 hs2 l2 nm hi hln su r ih =>
    intro ⟨v, v1, v2, v3⟩
    refine wpAny_handleBy_cons (codeAny_handlers_test (cname nm ((PySem.W.exm_one q.inv.kIn lookT v1).here ?_))) (fun z => nomatch z)
    cases v with
    | false => exact ih (v3 rfl)
    | true =>
      refine codeAny_handlers_suite_as (HandSPX.lands_againZ q.fl fun g2 fl2 up2 => ?_)
      have q2 : Caught X a cls d pp ss HH sI B g2 sC := ⟨q.J, q.nb, q.na, q.os, q.ag, q.up.trans up2, fl2⟩
      obtain ⟨ob2, ws2, ge2, gz2, gd2⟩ := fl2.there
      refine store_ok (X := X.suite a ((a, ob2) :: (X.pn ++ pp))) (v := .ref a) (q2.inv.suite ge2 gd2 q.na aL aF) hN hi (.inl hln) rfl (fun s5 I5 => ?_) (.inr hln)
      refine wpAny_mono ((su a ob2 cls d (X.pn ++ pp) gz2 ⟨_, gd2⟩).run [] s5 _ HH (unEnds i Z) I5 (v2 rfl a q.na)) (fun fl s6 hh => ?_) (fun _ _ z => z.elim)
      have away : ∀ {s' : L2.St} {H' : Hp} {R' : Shared → Prop}, Inv (X.suite a ((a, ob2) :: (X.pn ++ pp))) [] s' H' s6 → (∀ s7, Inv X pp (s'.set i none) H' s7 → R' s7) →
          wpAny (model X.prog X.w) X.A (do bindName X.env n .none; unbindBehindTheSuite X.env n p2) (fun _ s7 => R' s7) X.xe s6 := fun I6 z => gone_ok (I6.unsuite ok) hN hi hln z
      cases fl with
      | next => obtain ⟨s', H', I', z⟩ := hh; exact away I' fun _ I7 => ⟨_, H', I7, z⟩
      | brk => obtain ⟨s', H', I', z⟩ := hh; exact away I' fun _ I7 => ⟨_, H', I7, z⟩
      | cont => obtain ⟨s', H', I', z⟩ := hh; exact away I' fun _ I7 => ⟨_, H', I7, z⟩
      | ret u => obtain ⟨v, s', H', I', rv, z⟩ := hh; exact away I' fun _ I7 => ⟨v, _, H', I7, rv, z⟩
theorem ps_try_mix (hs : X.stack = X.env :: X.outer) (hf : X.env.frame = some X.env.locals) (hN : X.N.Nodup) (tk : Takes X Wo)
    (hb : ∀ (W : WX) (pn : List (Addr × Obj)) (xe : Value → Shared → Prop),
      Takes (X.tr pn xe) W → PassesOwn (model X.prog X.w) X.A X.env xe → PSs (X.tr pn xe) body (tb W))
    (hh : HdM X (h0 :: hl) l) : PS X (.Try body (h0 :: hl) [] [] pos) (fun Z σ H => tb (wMix X.K Wo Z l) Z σ H) := by
  refine ⟨fun pp s ss HH Z I z => ?_⟩
  have ok := I.ok
  have rows : X.A.frames = some (X.env :: X.outer) := ok.frames.trans (congrArg some hs)
  refine wpAny_Try_except (wpAny_mono ((hb (wMix X.K Wo Z l) (X.pn ++ pp) (fun er t1 => wpAny (model X.prog X.w) X.A (noteFrame er X.env) (fun _ t2 => wpAny (model X.prog X.w) X.A (setFlight er none)
    (fun _ t3 => wpAny (model X.prog X.w) X.A (handleBy er X.env (h0 :: hl)) (SP X pp Z) X.xe t3) X.xe t2) X.xe t1) (fun u sC xx => ?_) PassesOwn.looking).run [] s ss HH Z (I.toTry _) z) (fun fl s1 hsp => ?_) (fun _ _ y => y))
  · obtain ⟨a, B, sI, p', ss', HH', cls, d, rfl, J', nb, up, sky, na, os, ag, w⟩ := xx
    have sky' : Sky B (X.env :: X.outer) a (Zc cls d) X.env.locals sC.heap := hs ▸ sky
    exact Sky.land Zc.steady rows hf sky' fun g fl3 up3 => caught_go hs hf tk hN ⟨J'.ofTry ok, nb, na, os, ag, up.trans up3, fl3⟩ hh w
  · cases fl with
    | next => obtain ⟨s', H', I', y⟩ := hsp; exact wpAny_execs_nil ⟨s', H', I'.ofTry ok, y⟩
    | brk => obtain ⟨s', H', I', y⟩ := hsp; exact ⟨s', H', I'.ofTry ok, y⟩
    | cont => obtain ⟨s', H', I', y⟩ := hsp; exact ⟨s', H', I'.ofTry ok, y⟩
    | ret u => obtain ⟨v, s', H', I', y⟩ := hsp; exact ⟨v, s', H', I'.ofTry ok, y⟩
end
end DL

/-! DLf -/
namespace DL
open PySem L2 PySem.Spec PyProof.Rows
open Evl (Ex ex_l ex_t ex_rd)

/-! ### calls of defs -/
theorem semOf_len {n m : Nat} {g : Env → Out} (ds : List D) (h : ds.length ≠ m) : semOf n m g ds = .bad := by unfold semOf; rw [if_neg h]
def cCall (sem : List D → R D) (q : Env → R (List D)) : Env → R D := fun ρ => (q ρ).bind sem
/-- a def of the text as it is called: by its name, at a level -/
structure Callee (P : Program) (w : World) (K : PySem.W.Frag) (mg : Str → Option Value) (base : Heap) (k : Nat) (x : Str) (m : Nat) (sem : List D → R D) : Prop where
  ex : ∃ (f : Addr) (fd : FuncData) (ps : List Str), mg x = some (.ref f) ∧ PySem.W.keepIn K (.ref f) = true ∧ Binds K fd ps [] ∧ FnOk P w K mg base (L2.CX P w) k f fd ps (spD K mg m sem)
  len : ∀ ds, ds.length ≠ m → sem ds = .bad
section
variable {X : Cx} {W : WX} {x : Str} {p pos : Pos} {e : Expr} {es : List Expr} {q : Env → R (List D)} {k j m : Nat} {sem : List D → R D}
theorem de_call (C : Callee X.prog X.w X.K X.mg X.base k x m sem) (hr : Room j X.A) (hkj : k ≤ j) (hg : Gl X x) (tk : Takes X W) (ha : DA X W (e :: es) q) (hdb : (x == ("__debug__" : Str)) = false := by decide)
    (he : starEach (e :: es) X.env = (false, eval e X.env) :: starEach es X.env := by rfl) (hpl : (backTo pos (starEach es X.env)).any (·.1) = false := by rfl) : DE X W (.Call (.Name x p) (e :: es) [] pos) (cCall sem q) := by
  obtain ⟨f, fd, ps, hm, hk, hb, Fn⟩ := C.ex
  exact ⟨pe_imp (pe_callS Fn (hr.mono hkj) hg hm hk hb (fun σ => passAt tk σ) ha.pa hdb he hpl) fun σ H Q ⟨F0, H0, F, ρ, r, z⟩ => ⟨F0, H0, F, ρ, r, (ROk.step (r := q ρ) z).imp fun ds F1 H1 _ g1 q1 vs hv => by
    refine ⟨F1, ds, g1.in_, hv, ?_, q1⟩
    by_cases h : ds.length = m
    · exact h
    · rw [C.len ds h] at q1
      exact q1.elim⟩⟩
end

/-! ### own exceptions without fields -/
structure ExcF (K : PySem.W.Frag) (mg : Str → Option Value) (x : Str) (C : Addr) : Prop where
  gC : mg x = some (.ref C)
  xC : PySem.W.excIn K C [.type "ValueError", .type "Exception", .type "BaseException", .type "object"] "ValueError.__new__" = true
  kC : (PySem.W.keepIn K (.ref C)) = true
  bC : PySem.W.subIn K (.ref C) (.type "BaseException") = some true
  tC : PySem.W.typeIn K (.ref C) = some (.type "type")
  hC : PySem.W.hasDictIn K C = true
def sRaise (x : Str) : Env → Out := fun ρ => .ex ⟨x, []⟩ ρ
section
variable {X : Cx} {W : WX} {x m : Str} {C : Addr} {p p2 pos pos' : Pos} {j : Nat}
theorem ds_raise (hc : X.calm = true) (T : ExcF X.K X.mg x C) (tk : Takes X W) (hg : Gl X x) (hdb : (x == ("__debug__" : Str)) = false := by decide) : DS X W (.Raise (some (.Call (.Name x p) [.Constant (.str m) j p2] [] pos)) none pos') (sRaise x) :=
  ⟨ps_imp (ps_raise hc tk (pmk_own PySem.F.excBase_ValueError T.xC T.gC T.kC (raises_own T.bC T.tC) hg hdb)) fun Z σ H ⟨F0, H0, F, ρ, r, k⟩ => k (.ref C) none F H σ (.refl F) r ⟨C, T.gC, rfl, .inl ⟨rfl, rfl⟩⟩⟩
end

/-! ### suites: expressions that may look at the error -/
def tEx (K : PySem.W.Frag) (mg : Str → Option Value) (i : Nat) (a : Addr) (cls : Value) (dd : Option Addr) (f : Exc → Env → R D) : TE := fun σ H Q => ∃ F0 H0 F ρ x, Rep K F0 H0 F H ρ σ ∧ σ[i]? = some (some (.ref a)) ∧ XRep K mg F x cls dd ∧
  ROk K mg (fun _ _ _ => False) F H (fun d F' H' => ∀ v, Da K F' v d → Q v H') (f x ρ)
def tDx (K : PySem.W.Frag) (mg : Str → Option Value) (i : Nat) (a : Addr) (cls : Value) (dd : Option Addr) (f : Exc → Env → R Bool) : TT := fun σ H Q => ∃ F0 H0 F ρ x, Rep K F0 H0 F H ρ σ ∧ σ[i]? = some (some (.ref a)) ∧ XRep K mg F x cls dd ∧
  ROk K mg (fun _ _ _ => False) F H (fun b F' H' => Q b H') (f x ρ)
/-- in the suite that holds the error at a -/
structure EX (X : Cx) (i : Nat) (e : Expr) (f : Exc → Env → R D) : Prop where
  pe : ∀ (a : Addr) (ob : Obj) (cls : Value) (dd : Option Addr) (pn : List (Addr × Obj)), Zc cls dd ob → (∃ ws, ob.data = .fields ws) → PE (X.suite a ((a, ob) :: pn)) e (tEx X.K X.mg i a cls dd f)
structure ET (X : Cx) (i : Nat) (e : Expr) (f : Exc → Env → R Bool) : Prop where
  pt : ∀ (a : Addr) (ob : Obj) (cls : Value) (dd : Option Addr) (pn : List (Addr × Obj)), Zc cls dd ob → (∃ ws, ob.data = .fields ws) → PT (X.suite a ((a, ob) :: pn)) e (tDx X.K X.mg i a cls dd f)
section
variable {X : Cx} {i : Nat} {e e1 e2 : Expr} {pos : Pos}
theorem ex_de {f : Env → R D} (h : ∀ (a : Addr) (pn : List (Addr × Obj)), DE (X.suite a pn) W0 e f) : EX X i e (fun _ => f) := ⟨fun a ob cls dd pn _ _ => pe_imp (h a ((a, ob) :: pn)).pe fun σ H Q ⟨F0, H0, F, ρ, x, r, _, _, k⟩ => ⟨F0, H0, F, ρ, r, k⟩⟩
def xIf (t : Exc → Env → R Bool) (f g : Exc → Env → R D) : Exc → Env → R D := fun x ρ => (t x ρ).bind fun b => if b = true then f x ρ else g x ρ
theorem ex_if {t : Exc → Env → R Bool} {f g : Exc → Env → R D} (hc : ET X i e t) (ha : EX X i e1 f) (hb : EX X i e2 g) : EX X i (.IfExp e e1 e2 pos) (xIf t f g) :=
  ⟨fun a ob cls dd pn z w => pe_imp (pe_ifExp (hc.pt a ob cls dd pn z w) (ha.pe a ob cls dd pn z w) (hb.pe a ob cls dd pn z w)) fun σ H Q ⟨F0, H0, F, ρ, x, r, hs, hx, k⟩ => ⟨F0, H0, F, ρ, x, r, hs, hx, (ROk.step (r := t x ρ) k).imp fun b F' H' _ gr z => by
    cases b with
    | true => exact ⟨F0, H0, F', ρ, x, r.grow gr, hs, hx.up gr.f, z⟩
    | false => exact ⟨F0, H0, F', ρ, x, r.grow gr, hs, hx.up gr.f, z⟩⟩⟩
/-- isinstance(e, C), e the error: ns are all classes that may be here, sub those of them that are C's -/
def xIs (ns : List Str) (sub : List Str) : Exc → Env → R Bool := fun x _ => if ns.contains x.cls = true ∧ x.args = [] then .ok (sub.contains x.cls) else .bad
def xIsV (ns : List Str) (sub : List Str) : Exc → Env → R D := fun x _ => if ns.contains x.cls = true ∧ x.args = [] then .ok (.bool (sub.contains x.cls)) else .bad
structure IsF (K : PySem.W.Frag) (mg : Str → Option Value) (C : Addr) (ns sub : List Str) : Prop where
  all : ∀ n ∈ ns, ∃ Dn, mg n = some (.ref Dn) ∧ ExcC K Dn ∧ PySem.W.kitOne K (.ref Dn) (.ref C) = some (sub.contains n)
theorem pe_isx {xn cn : Str} {p1 p2 p3 : Pos} {C : Addr} {ns sub : List Str} (T : IsF X.K X.mg C ns sub) (hg : Gl X "isinstance") (hm : X.mg "isinstance" = none) (hgC : Gl X cn) (hC : X.mg cn = some (.ref C)) (hN : X.N[i]? = some xn) (hv : Vis X.env.scope xn)
    (hd : (xn == ("__debug__" : Str)) = false) (hcd : (xn == ("__classdict__" : Str)) = false) (hdc : (cn == ("__debug__" : Str)) = false)
    (he : ∀ X' : Cx, X'.env = X.env → starEach [.Name xn p1, .Name cn p2] X'.env = (false, eval (.Name xn p1) X'.env) :: starEach [.Name cn p2] X'.env) (hpl : (backTo pos (starEach [.Name cn p2] X.env)).any (·.1) = false)
    (a : Addr) (ob : Obj) (cls : Value) (dd : Option Addr) (pn : List (Addr × Obj)) (hz : Zc cls dd ob) (hw : ∃ ws, ob.data = .fields ws) :
    PE (X.suite a ((a, ob) :: pn)) (.Call (.Name "isinstance" p3) [.Name xn p1, .Name cn p2] [] pos) (fun σ H Q => ∃ F x, σ[i]? = some (some (.ref a)) ∧ XRep X.K X.mg F x cls dd ∧ ns.contains x.cls = true ∧ x.args = [] ∧ Q (.bl (sub.contains x.cls)) H) := by
  by_cases hcl : ∃ n ∈ ns, dd = none ∧ ∃ Dn, X.mg n = some (.ref Dn) ∧ cls = .ref Dn
  · obtain ⟨n, hn, rfl, Dn, hDn, rfl⟩ := hcl
    obtain ⟨Dn', h1, h2, h3⟩ := T.all n hn
    rw [hDn] at h1
    cases h1
    refine pe_imp (pe_callB (call_isE h2 hz hw) hg hm PyProof.Rows.boot_isinstance (pa_cons (pe_var hN hv hd hcd) (pa_cons (pe_glob hgC hC (v := .ref C) rfl hdc) pa_nil) (he (X.suite a ((a, ob) :: pn)) rfl)) (by decide) (by decide) (he (X.suite a ((a, ob) :: pn)) rfl) hpl) fun σ H Q ⟨F, x, hs, hx, hc, ha, q⟩ => ?_
    obtain ⟨C', c1, c2, c3⟩ := hx
    cases c2
    obtain ⟨Dm, m1, m2, m3⟩ := T.all x.cls (by simpa using hc)
    rw [c1] at m1
    cases m1
    exact ⟨.ref a, hs, .ref C, .ref C, _, rfl, fun u r => r, m3, q⟩
  · refine pe_imp (t := fun _ _ _ => False) ⟨fun _ _ _ _ _ _ z => z.elim⟩ fun σ H Q ⟨F, x, hs, hx, hc, ha, q⟩ => ?_
    obtain ⟨C', c1, c2, c3⟩ := hx
    refine hcl ⟨x.cls, by simpa using hc, ?_, C', c1, c2⟩
    rcases c3 with ⟨_, c3⟩ | ⟨dx, fs, c3, _⟩
    · exact c3
    · exact absurd ha c3
theorem isx_cases {ns sub : List Str} {x : Exc} {α : Type} {K : PySem.W.Frag} {mg : Str → Option Value} {W : XK} {F H : Hp} {P : α → Hp → Hp → Prop} {r : R α} (h : ROk K mg W F H P (if ns.contains x.cls = true ∧ x.args = [] then r else .bad)) :
    ns.contains x.cls = true ∧ x.args = [] ∧ ROk K mg W F H P r := by
  split at h
  · rename_i z; exact ⟨z.1, z.2, h⟩
  · exact h.elim
theorem ex_isx {xn cn : Str} {p1 p2 p3 : Pos} {C : Addr} {ns sub : List Str} (T : IsF X.K X.mg C ns sub) (hg : Gl X "isinstance") (hm : X.mg "isinstance" = none) (hgC : Gl X cn) (hC : X.mg cn = some (.ref C)) (hN : X.N[i]? = some xn := by rfl) (hv : Vis X.env.scope xn := by first | exact Or.inl rfl | exact Or.inr (Or.inl rfl) | exact Or.inr (Or.inr rfl))
    (hd : (xn == ("__debug__" : Str)) = false := by decide) (hcd : (xn == ("__classdict__" : Str)) = false := by decide) (hdc : (cn == ("__debug__" : Str)) = false := by decide)
    (he : ∀ X' : Cx, X'.env = X.env → starEach [.Name xn p1, .Name cn p2] X'.env = (false, eval (.Name xn p1) X'.env) :: starEach [.Name cn p2] X'.env := by intro _ _; rfl) (hpl : (backTo pos (starEach [.Name cn p2] X.env)).any (·.1) = false := by rfl) :
    EX X i (.Call (.Name "isinstance" p3) [.Name xn p1, .Name cn p2] [] pos) (xIsV ns sub) :=
  ⟨fun a ob cls dd pn z w => pe_imp (pe_isx T hg hm hgC hC hN hv hd hcd hdc he hpl a ob cls dd pn z w) fun σ H Q ⟨F0, H0, F, ρ, x, r, hs, hx, k⟩ => by
    obtain ⟨k1, k2, k3⟩ := isx_cases (sub := sub) k
    exact ⟨F, x, hs, hx, k1, k2, k3 F H (.refl r.g.in_) _ (.bl _)⟩⟩
theorem et_isx {xn cn : Str} {p1 p2 p3 : Pos} {C : Addr} {ns sub : List Str} (T : IsF X.K X.mg C ns sub) (hg : Gl X "isinstance") (hm : X.mg "isinstance" = none) (hgC : Gl X cn) (hC : X.mg cn = some (.ref C)) (hN : X.N[i]? = some xn := by rfl) (hv : Vis X.env.scope xn := by first | exact Or.inl rfl | exact Or.inr (Or.inl rfl) | exact Or.inr (Or.inr rfl))
    (hd : (xn == ("__debug__" : Str)) = false := by decide) (hcd : (xn == ("__classdict__" : Str)) = false := by decide) (hdc : (cn == ("__debug__" : Str)) = false := by decide)
    (he : ∀ X' : Cx, X'.env = X.env → starEach [.Name xn p1, .Name cn p2] X'.env = (false, eval (.Name xn p1) X'.env) :: starEach [.Name cn p2] X'.env := by intro _ _; rfl) (hpl : (backTo pos (starEach [.Name cn p2] X.env)).any (·.1) = false := by rfl) :
    ET X i (.Call (.Name "isinstance" p3) [.Name xn p1, .Name cn p2] [] pos) (xIs ns sub) :=
  ⟨fun a ob cls dd pn z w => pt_imp (pt_val (pe_isx T hg hm hgC hC hN hv hd hcd hdc he hpl a ob cls dd pn z w)) fun σ H Q ⟨F0, H0, F, ρ, x, r, hs, hx, k⟩ => by
    obtain ⟨k1, k2, k3⟩ := isx_cases (sub := sub) k
    exact ⟨F, x, hs, hx, k1, k2, _, rfl, k3 F H (.refl r.g.in_)⟩⟩
end

/-! ### try, by data -/
abbrev ClD := List Str × Option Nat × (Exc → Env → Out)
def noXO : Out → Out
  | .ex _ _ => .bad
  | o => o
def handle : List ClD → Exc → Env → Out
  | [], x, ρ => .ex x ρ
  | (sub, _, s) :: r, x, ρ => if sub.contains x.cls = true then noXO (s x ρ) else handle r x ρ
def sTry (ns : List Str) (g : Env → Out) (cl : List ClD) : Env → Out := fun ρ => match g ρ with
  | .ex x ρ' => if ns.contains x.cls = true then handle cl x ρ' else .bad
  | o => o
/-- the classes ns as the clause's class c tells them -/
structure HF (K : PySem.W.Frag) (mg : Str → Option Value) (c : Value) (ns sub : List Str) : Prop where
  all : ∀ n ∈ ns, ∃ Dn, mg n = some (.ref Dn) ∧ PySem.W.exmOne K (.ref Dn) c = some (sub.contains n)
def xRet (i : Nat) (f : Exc → Env → R D) : Exc → Env → Out := fun x ρ => if i < ρ.length then exB ρ (f x (ρ.set i .no)) fun d => .rt d else .bad
inductive HdD (X : Cx) (ns : List Str) : List ExceptHandler → List ClD → Prop
  | nil : HdD X ns [] []
  | plain {x : Str} {c : Value} {sub : List Str} {g : Env → Out} {b : Stmt} {rest : List Stmt} {p1 p2 : Pos} {hs : List ExceptHandler} {l : List ClD} (nm : Names X x c) (F : HF X.K X.mg c ns sub)
      (su : ∀ (a : Addr) (pn : List (Addr × Obj)), DSs (X.suite a pn) W0 (b :: rest) g) (r : HdD X ns hs l) : HdD X ns (.ExceptHandler (some (.Name x p1)) none (b :: rest) p2 :: hs) ((sub, none, fun _ => g) :: l)
  | named {x n : Str} {i : Nat} {c : Value} {sub : List Str} {e : Expr} {f : Exc → Env → R D} {p1 p2 p3 : Pos} {hs : List ExceptHandler} {l : List ClD} (nm : Names X x c) (F : HF X.K X.mg c ns sub) (hi : X.N[i]? = some n) (hl : X.env.kindOf n = some .local)
      (su : EX X i e f) (r : HdD X ns hs l) : HdD X ns (.ExceptHandler (some (.Name x p1)) (some n) [.Return (some e) p3] p2 :: hs) ((sub, some i, xRet i f) :: l)
section
variable {X : Cx} {W : WX} {ns : List Str}
theorem noXO_ok {K : PySem.W.Frag} {mg : Str → Option Value} {W W' : WX} {F0 H0 F : Hp} {Z : Ends} {o : Out} (h : OOk K mg W F0 H0 F Z (noXO o)) : OOk K mg W' F0 H0 F Z o := by
  cases o with
  | ex x ρ => exact h.elim
  | nx ρ => exact h
  | rt d => exact h
  | bk ρ => exact h
  | ct ρ => exact h
  | bad => exact h
theorem mix_ok {hl : List ExceptHandler} {cl : List ClD} (hh : HdD X ns hl cl) : ∃ l, HdM X hl l ∧ ∀ (Z : Ends) (F0 H0 F H : Hp) (ρ : Env) (σ : L2.St) (x : Exc) (cls : Value) (dd : Option Addr), OOk X.K X.mg W F0 H0 F Z (handle cl x ρ) → ns.contains x.cls = true →
    Rep X.K F0 H0 F H ρ σ → XRep X.K X.mg F x cls dd → wMix X.K W Z l cls dd σ H := by
  induction hh with
  | nil => exact ⟨[], .nil, fun Z F0 H0 F H ρ σ x cls dd k _ r xr => k cls dd F H σ (.refl F) r xr⟩
  | @plain x c sub g b rest p1 p2 hs l nm Fc su _ ih =>
    obtain ⟨l', i1, i2⟩ := ih
    refine ⟨(c, none, fun a cls d => tS X.K X.mg W0 g) :: l', .plain nm (fun a ob cls d pn _ _ => (su a ((a, ob) :: pn)).pss) i1, fun Z F0 H0 F H ρ σ x cls dd k hc r xr => ?_⟩
    obtain ⟨C, c1, c2, _⟩ := id xr
    obtain ⟨Dn, d1, d2⟩ := Fc.all x.cls (by simpa using hc)
    rw [c1] at d1
    cases d1
    subst c2
    refine ⟨_, d2, fun hb a _ => ?_, fun hb => i2 Z F0 H0 F H ρ σ x _ dd ?_ hc r xr⟩
    · unfold handle at k
      rw [if_pos hb] at k
      exact ⟨F0, H0, F, ρ, r, noXO_ok k⟩
    · unfold handle at k
      rw [if_neg (by rw [hb]; exact Bool.false_ne_true)] at k
      exact k
  | @named x n i c sub e f p1 p2 p3 hs l nm Fc hi hln su _ ih =>
    obtain ⟨l', i1, i2⟩ := ih
    refine ⟨(c, some i, fun a cls d => tRet (tEx X.K X.mg i a cls d f)) :: l', .named nm hi hln (fun a ob cls d pn z w => pss_one (ps_ret (su.pe a ob cls d pn z w))) i1, fun Z F0 H0 F H ρ σ x cls dd k hc r xr => ?_⟩
    obtain ⟨C, c1, c2, _⟩ := id xr
    obtain ⟨Dn, d1, d2⟩ := Fc.all x.cls (by simpa using hc)
    rw [c1] at d1
    cases d1
    subst c2
    refine ⟨_, d2, fun hb a ha => ?_, fun hb => i2 Z F0 H0 F H ρ σ x _ dd ?_ hc r xr⟩
    · unfold handle at k
      rw [if_pos hb] at k
      have k : OOk X.K X.mg W F0 H0 F Z (noXO (if i < ρ.length then exB ρ (f x (ρ.set i .no)) fun d => .rt d else .bad)) := k
      by_cases hlen : i < σ.length
      · refine ⟨F0, H0, F, ρ.set i .no, x, r.drop i _, List.getElem?_set_self hlen, xr, ?_⟩
        rw [if_pos (by rw [r.len]; exact hlen)] at k
        cases hf : f x (ρ.set i .no) with
        | ok d =>
          rw [hf] at k
          exact fun F' H' gr v hv => k v F' H' gr.f (r.g.trans gr) hv
        | exc y => rw [hf] at k; exact k.elim
        | bad => rw [hf] at k; exact k.elim
      · rw [if_neg (by rw [r.len]; exact hlen)] at k
        exact k.elim
    · unfold handle at k
      rw [if_neg (by rw [hb]; exact Bool.false_ne_true)] at k
      exact k
theorem ds_try {body : List Stmt} {g : Env → Out} {h0 : ExceptHandler} {hl : List ExceptHandler} {cl : List ClD} {pos : Pos} (hs : X.stack = X.env :: X.outer) (hf : X.env.frame = some X.env.locals) (hN : X.N.Nodup) (tk : Takes X W)
    (hb : ∀ (W : WX) (pn : List (Addr × Obj)) (xe : Value → Shared → Prop),
      Takes (X.tr pn xe) W → PassesOwn (model X.prog X.w) X.A X.env xe → DSs (X.tr pn xe) W body g)
    (hh : HdD X ns (h0 :: hl) cl) : DS X W (.Try body (h0 :: hl) [] [] pos) (sTry ns g cl) := by
  obtain ⟨l, h1, h2⟩ := mix_ok (W := W) hh
  refine ⟨ps_imp (ps_try_mix (tb := fun W => tS X.K X.mg W g) hs hf hN tk (fun W pn xe t p => (hb W pn xe t p).pss) h1) fun Z σ H ⟨F0, H0, F, ρ, r, k⟩ => ⟨F0, H0, F, ρ, r, ?_⟩⟩
  have k : OOk X.K X.mg W F0 H0 F Z (match g ρ with | .ex x ρ' => if ns.contains x.cls = true then handle cl x ρ' else .bad | o => o) := k
  cases hg : g ρ with
  | ex x ρ' =>
    rw [hg] at k
    have k : OOk X.K X.mg W F0 H0 F Z (if ns.contains x.cls = true then handle cl x ρ' else .bad) := k
    split at k
    · rename_i hc
      exact fun cls dd F' H' σ' e r' xr => h2 Z F0 H0 F' H' ρ' σ' x cls dd (k.up e) hc r' xr
    · exact k.elim
  | nx ρ' => rw [hg] at k; exact k
  | rt d => rw [hg] at k; exact k
  | bk ρ' => rw [hg] at k; exact k
  | ct ρ' => rw [hg] at k; exact k
  | bad => rw [hg] at k; exact k
end
end DL

/-! DLg -/
namespace DL
open PySem L2 PySem.Spec PyProof.Rows
open Evl (Ex ex_l ex_t ex_rd)
theorem bt_len : bootBuiltins "len" = some (.builtin "len") := by decide +kernel
theorem bt_abs : bootBuiltins "abs" = some (.builtin "abs") := by decide +kernel
theorem bt_max : bootBuiltins "max" = some (.builtin "max") := by decide +kernel
theorem bt_min : bootBuiltins "min" = some (.builtin "min") := by decide +kernel
theorem bt_sum : bootBuiltins "sum" = some (.builtin "sum") := by decide +kernel
theorem bt_all : bootBuiltins "all" = some (.builtin "all") := by decide +kernel
theorem bt_any : bootBuiltins "any" = some (.builtin "any") := by decide +kernel
theorem bt_sorted : bootBuiltins "sorted" = some (.builtin "sorted") := by decide +kernel
theorem bt_int : bootBuiltins "int" = some (.type "int") := by decide +kernel
theorem bt_str : bootBuiltins "str" = some (.type "str") := by decide +kernel
theorem bt_tuple : bootBuiltins "tuple" = some (.type "tuple") := by decide +kernel
theorem bt_list : bootBuiltins "list" = some (.type "list") := by decide +kernel
theorem room64 {k : Nat} {A : Around} (r : Room k A) : A.units + 64 < cLine := r.units
theorem room65 {k : Nat} {A : Around} (r : Room k A) : A.units + 65 < cLine := by have := r.un; omega
def oNeg : D → Option D
  | .int i => some (.int (-i))
  | _ => none
def cUn (o : D → Option D) (f : Env → R D) : Env → R D := fun ρ => (f ρ).bind fun a => ofO (o a)
/-- in, of lists, texts, tuples -/
def oInA (a b : D) : Option D := match b with
  | .tuple _ => oInT a b
  | _ => oIn a b
def oNotInA (a b : D) : Option D := match b with
  | .tuple _ => oNotInT a b
  | _ => oNotIn a b
section
variable {X : Cx} {W : WX} {e e1 e2 e3 : Expr} {pos : Pos} {f : Env → R D}
theorem de_neg (ha : DE X W e f) : DE X W (.UnaryOp .USub e pos) (cUn oNeg f) :=
  ⟨pe_imp (pe_un un_neg ha.pe) fun σ H Q ⟨F0, H0, F, ρ, r, k⟩ => ⟨F0, H0, F, ρ, r, (ROk.step (r := f ρ) k).imp fun a F' H' _ gr z v hv => by
    obtain ⟨c, e, q⟩ := z.ofO
    cases a <;> simp only [oNeg] at e <;> try (cases e; done)
    cases e
    cases hv
    exact ⟨_, rfl, q F' H' (.refl gr.in_) _ (.int _)⟩⟩⟩
theorem op_inA (hu : X.A.units + 65 < cLine) : OpR X (compareOp .In) (fun x y H Q => rInDD X.K x y H Q ∨ rIn X.K false x y H Q) := (op_inDD hu).or op_in_seq
theorem op_notinA (hu : X.A.units + 65 < cLine) : OpR X (compareOp .NotIn) (fun x y H Q => rNotInDD X.K x y H Q ∨ rIn X.K true x y H Q) := (op_notinDD hu).or op_notIn_seq
theorem rd_inA {K : PySem.W.Frag} : RdO K (fun x y H Q => rInDD K x y H Q ∨ rIn K false x y H Q) oInA := RdO.or rd_in rd_inT fun a b c h => by
  unfold oInA at h
  split at h
  · exact .inr h
  · exact .inl h
theorem rd_notinA {K : PySem.W.Frag} : RdO K (fun x y H Q => rNotInDD K x y H Q ∨ rIn K true x y H Q) oNotInA := RdO.or rd_notin rd_notinT fun a b c h => by
  unfold oNotInA at h
  split at h
  · exact .inr h
  · exact .inl h
/-- a, b, c = e1, e2, e3, frozen data alone -/
def sPar3 (i j l : Nat) (q : Env → R (List D)) : Env → Out := fun ρ => exB ρ (q ρ) fun ds => match ds with
  | [x, y, z] => .nx (((ρ.set i (.val x)).set j (.val y)).set l (.val z))
  | _ => .bad
theorem ds_par3 {i j l : Nat} {x y z : Str} {q : Env → R (List D)} {px py pz pt : Pos} {kt k2 pt2} (hc : X.calm = true) (hN : X.N.Nodup) (hi : X.N[i]? = some x) (hj : X.N[j]? = some y) (hl : X.N[l]? = some z) (hij : i ≠ j) (hil : i ≠ l) (hjl : j ≠ l)
    (hx : X.env.scope.names.lookup x = some .local) (hy : X.env.scope.names.lookup y = some .local) (hz : X.env.scope.names.lookup z = some .local) (ha : DA X W [e1, e2, e3] q)
    (hw : swappedStores [.Tuple [.Name x px, .Name y py, .Name z pz] kt pt] (.Tuple [e1, e2, e3] k2 pt2) X.env = pure (some [x, y, z]))
    (hs : swapsWithSole [.Tuple [.Name x px, .Name y py, .Name z pz] kt pt] (.Tuple [e1, e2, e3] k2 pt2) pos.line X.env = pure false := by rfl) :
    DS X W (.Assign [.Tuple [.Name x px, .Name y py, .Name z pz] kt pt] (.Tuple [e1, e2, e3] k2 pt2) pos) (sPar3 i j l q) :=
  ⟨ps_imp (ps_par3 hc hN hi hj hl hij hil hjl hx hy hz ha.pa hw hs) fun Z σ H ⟨F0, H0, F, ρ, r, k⟩ => ⟨F0, H0, F, ρ, r, exB_ok r k fun ds F1 H1 g1 q1 vs hv => by
    split at q1
    · rename_i a b c
      cases hv with
      | cons h1 hv => cases hv with
        | cons h2 hv => cases hv with
          | cons h3 hv =>
            cases hv
            exact ⟨_, _, _, rfl, q1 F1 H1 _ (.refl _) ((((r.grow g1).setVal h1 i).setVal h2 j).setVal h3 l)⟩
    · exact q1.elim⟩⟩
/-- x = [.. for ..], x not changed later -/
theorem ds_setLcV {i : Nat} {y : Str} {py : Pos} {tg iter elt : Expr} {ifs : List Expr} {scope : Scope} {own : List (Str × Nat)} {p : Pos} {it : Env → R (List D)} {s : D → Env → Option Env} {t : Env → R Bool} {el : Env → R D} {ts vs : List Nat}
    (hc : X.calm = true) (hN : X.N.Nodup) (hy : X.N[i]? = some y) (hyl : X.env.scope.names.lookup y = some .local)
    (hsw : swapsWith (.ListComp elt [⟨tg, iter, ifs, 0⟩] scope p) (some (.Name y py)) pos.line X.env = pure true) (hi : DIB X W tg iter it) (ok : BlkOk X.N X.env.scope scope own)
    (hg : ∀ (s' : Shared) (H : Hp) (C : Addr) (cl : List (Str × Addr)) (fp : List Addr), DG (X.blk s' H scope (compEnvC scope cl C X.env) fp) ts tg s)
    (ht : ∀ (s' : Shared) (H : Hp) (C : Addr) (cl : List (Str × Addr)) (fp : List Addr), DTs (X.blk s' H scope (compEnvC scope cl C X.env) fp) W0 ifs t)
    (he : ∀ (s' : Shared) (H : Hp) (C : Addr) (cl : List (Str × Addr)) (fp : List Addr), DE (X.blk s' H scope (compEnvC scope cl C X.env) fp) W0 elt el)
    (hvs : own.map (·.2) = vs) (hts : ∀ j ∈ ts, j ∈ vs) (hs : ∀ x, foldedSetIterable iter X.env x = pure x := by intro _; rfl) :
    DS X W (.Assign [.Name y py] (.ListComp elt [⟨tg, iter, ifs, 0⟩] scope p) pos) (sAsg i (asVal (asList (cLc it s t el vs)))) := by
  subst hvs
  exact
  ⟨ps_imp (ps_setLc (wi := tIB X.K X.mg W it) (g := tG X.K ts s) (tt := tD X.K X.mg W0 t) (te := tE X.K X.mg W0 el) hc hN hy hyl hsw hi.pi ok (fun a b c d e => (hg a b c d e).pg) (fun a b c d e => (ht a b c d e).pts) (fun a b c d e => (he a b c d e).pe) hs) fun Z σ H ⟨F0, H0, F, ρ, r, k⟩ => by
    refine lc_read hts ⟨F0, H0, F, ρ, r, ?_⟩
    have k : OOk X.K X.mg W F0 H0 F Z (exB ρ (((cLc it s t el (own.map (·.2)) ρ).bind fun d => .ok (.list d)).bind fun d => .ok (.val d)) fun sv => .nx (ρ.set i sv)) := k
    have q := exB_ok (P := fun (sv : SV) F' H' => ∀ v, SVal X.K H F' H' v sv → Z.nx (σ.set i (some v)) H') r k fun sv F' H' gr q v hv => q F' H' _ (.refl _) (r.setSV gr hv i)
    have q2 := map_ok (k := fun d => SV.val d) q
    cases hq : cLc it s t el (own.map (·.2)) ρ with
    | ok ds =>
      rw [hq] at q2
      intro F' H' gr p vs h1 h2 h3 h4
      have q2 : ∀ F2 H2, Grow F H F2 H2 → ∀ v, Da X.K F2 v (.list ds) → Z.nx (σ.set i (some v)) H2 := q2
      exact q2 _ _ (grow_lay (K := X.K) gr h1 h2 h3) (.ref p) (.lst upd_same (h4.up (Grow.freeze gr.in_ h3 h2).1))
    | exc x => rw [hq] at q2; exact q2
    | bad => rw [hq] at q2; exact q2⟩
end
/-- isinstance of own classes, by what is a subclass of what -/
theorem kit_sub {K : PySem.W.Frag} {A C : Addr} {b : Bool} (hd : PySem.W.hasDictIn K C = true) (ht : PySem.W.typeIn K (.ref C) = some (.type "type")) (hs : PySem.W.subIn K (.ref C) (.ref C) = some true) (h : PySem.W.subIn K (.ref A) (.ref C) = some b) : PySem.W.kitOne K (.ref A) (.ref C) = some b := by
  unfold PySem.W.kitOne
  split
  · rename_i e
    have e' := eq_of_beq e
    cases e'
    rw [hs] at h
    exact h
  · obtain ⟨cd, hc, _⟩ := PySem.W.any_some hd
    show (if ((PySem.W.clsIn K C).isSome && PySem.W.typeIn K (.ref C) == some (.type "type")) = true then PySem.W.subIn K (.ref A) (.ref C) else none) = some b
    rw [hc, ht, if_pos (by rfl)]
    exact h
/-! ### the law's end -/
def spLawD (K : PySem.W.Frag) : Sp := fun vs H Q _ => ∃ (a : Addr) (ns : List Int), vs = [.ref a] ∧ SqL K H a (ns.map V.int) ∧ ns.length ≤ 63 ∧ ∀ H', Q (.bl true) H'
theorem law_end {P : Program} {w : World} {K : PySem.W.Frag} {mg : Str → Option Value} {base : Heap} {k : Nat} {f : Addr} {fd : FuncData} {x : Str} {sem : List D → R D} (ht : ∀ ns : List Int, ns.length ≤ 63 → sem [scrD ns] = .ok (.bool true))
    (Fn : FnOk P w K mg base (L2.CX P w) k f fd [x] (spD K mg 1 sem)) : FnOk P w K mg base (L2.CX P w) k f fd [x] (spLawD K) :=
  Fn.imp fun vs H Q E ⟨a, ns, e, hS, hl, q⟩ => by
    subst e
    refine ⟨H, [scrD ns], fun _ _ z => z, .cons (.scr hS) .nil, rfl, ?_⟩
    rw [ht ns hl]
    intro F' H' _ v hv
    cases hv
    exact q H'
end DL

/-! DLh -/
namespace DL
open PySem L2 PySem.Spec PyProof.Rows
open Evl (Ex ex_l ex_t ex_rd)
/-! ### sorted rows of ints -/
def ins (x : Int) : List Int → List Int
  | [] => [x]
  | y :: l => if x ≤ y then x :: y :: l else y :: ins x l
def srt : List Int → List Int
  | [] => []
  | x :: l => ins x (srt l)
theorem ins_perm (x : Int) : ∀ l : List Int, (ins x l).Perm (x :: l)
  | [] => .refl _
  | y :: l => by
    unfold ins
    split
    · exact .refl _
    · exact ((ins_perm x l).cons y).trans (.swap x y l)
theorem srt_perm : ∀ l : List Int, (srt l).Perm l
  | [] => .refl _
  | x :: l => (ins_perm x (srt l)).trans ((srt_perm l).cons x)
theorem ins_up (x : Int) : ∀ l : List Int, l.Pairwise (· ≤ ·) → (ins x l).Pairwise (· ≤ ·)
  | [], _ => by simp [ins]
  | y :: l, h => by
    obtain ⟨h1, h2⟩ := (List.pairwise_cons).mp h
    unfold ins
    split
    · rename_i hxy
      refine List.pairwise_cons.mpr ⟨fun z hz => ?_, h⟩
      rcases (List.mem_cons.mp hz) with e | hz
      · omega
      · have := h1 z hz
        omega
    · rename_i hxy
      refine List.pairwise_cons.mpr ⟨fun z hz => ?_, ins_up x l h2⟩
      rcases List.mem_cons.mp ((ins_perm x l).mem_iff.mp hz) with e | hz
      · omega
      · exact h1 z hz
theorem srt_up : ∀ l : List Int, (srt l).Pairwise (· ≤ ·)
  | [] => .nil
  | x :: l => ins_up x _ (srt_up l)
theorem up_one : ∀ {l m : List Int}, l.Pairwise (· ≤ ·) → m.Pairwise (· ≤ ·) → l.Perm m → l = m
  | [], m, _, _, p => by rw [List.nil_perm.mp p]
  | x :: l, [], _, _, p => by have := p.length_eq; simp at this
  | x :: l, y :: m, h, k, p => by
    obtain ⟨h1, h2⟩ := (List.pairwise_cons).mp h
    obtain ⟨k1, k2⟩ := List.pairwise_cons.mp k
    have e : x = y := by
      have a := p.mem_iff.mp (List.mem_cons_self (a := x) (l := l))
      have b := p.mem_iff.mpr (List.mem_cons_self (a := y) (l := m))
      rcases List.mem_cons.mp a with a | a
      · exact a
      · rcases List.mem_cons.mp b with b | b
        · exact b.symm
        · have := h1 y b
          have := k1 x a
          omega
    subst e
    rw [up_one h2 k2 p.cons_inv]
theorem srt_one {l m : List Int} (p : m.Perm l) (h : m.Pairwise (· ≤ ·)) : m = srt l := up_one h (srt_up l) (p.trans (srt_perm l).symm)
theorem srt_len (l : List Int) : (srt l).length = l.length := (srt_perm l).length_eq
theorem mem_srt {l : List Int} {x : Int} : x ∈ srt l ↔ x ∈ l := (srt_perm l).mem_iff
/-! the greatest and the least of a row that is not empty -/
def top : Int → List Int → Int
  | x, [] => x
  | x, y :: l => top (if x < y then y else x) l
def low : Int → List Int → Int
  | x, [] => x
  | x, y :: l => low (if y < x then y else x) l
theorem top_spec : ∀ (l : List Int) (x : Int), top x l ∈ x :: l ∧ ∀ y ∈ x :: l, y ≤ top x l
  | [], x => ⟨List.mem_cons_self, fun y h => by rcases List.mem_cons.mp h with e | h; exact Int.le_of_eq e; cases h⟩
  | z :: l, x => by
    obtain ⟨a, b⟩ := top_spec l (if x < z then z else x)
    have q : top x (z :: l) = top (if x < z then z else x) l := rfl
    rw [q]
    refine ⟨?_, fun y hy => ?_⟩
    · rcases List.mem_cons.mp a with e | a
      · rw [e]
        split
        · simp
        · simp
      · simp [a]
    · have b0 := b _ List.mem_cons_self
      rcases (List.mem_cons.mp hy) with e | hy
      · subst e
        split at b0 <;> split <;> omega
      · rcases (List.mem_cons.mp hy) with e | hy
        · subst e
          split at b0 <;> split <;> omega
        · exact b y (.tail _ hy)
theorem low_spec : ∀ (l : List Int) (x : Int), low x l ∈ x :: l ∧ ∀ y ∈ x :: l, low x l ≤ y
  | [], x => ⟨List.mem_cons_self, fun y h => by rcases List.mem_cons.mp h with e | h; exact Int.le_of_eq e.symm; cases h⟩
  | z :: l, x => by
    obtain ⟨a, b⟩ := low_spec l (if z < x then z else x)
    have q : low x (z :: l) = low (if z < x then z else x) l := rfl
    rw [q]
    refine ⟨?_, fun y hy => ?_⟩
    · rcases List.mem_cons.mp a with e | a
      · rw [e]
        split
        · simp
        · simp
      · simp [a]
    · have b0 := b _ List.mem_cons_self
      rcases (List.mem_cons.mp hy) with e | hy
      · subst e
        split at b0 <;> split <;> omega
      · rcases (List.mem_cons.mp hy) with e | hy
        · subst e
          split at b0 <;> split <;> omega
        · exact b y (.tail _ hy)
def bSorted : List D → Option D
  | [.list xs] => (intsD xs).map fun ns => .list ((srt ns).map .int)
  | _ => none
def bMax1 : List D → Option D
  | [.list xs] => match intsD xs with
    | some (n :: ns) => some (.int (top n ns))
    | _ => none
  | _ => none
def bMin1 : List D → Option D
  | [.list xs] => match intsD xs with
    | some (n :: ns) => some (.int (low n ns))
    | _ => none
  | _ => none
section
variable {X : Cx} {K : PySem.W.Frag}
theorem Bw.ints {F H : Hp} {x : V} {xs : List D} {ns : List Int} (b : Bw K F H x (.list xs)) (e : Ex F H) (h1 : intsD xs = some ns) : ∃ p, x = .ref p ∧ SqL K H p (ns.map V.int) := by
  obtain ⟨p, vs, rfl, h2, h3⟩ := b.list e
  rw [intsD_some h1] at h3
  have e3 := dpa_toInts h3
  subst e3
  exact ⟨p, rfl, Or.inl (Or.inl h2)⟩
theorem rc_sorted : RdC K (rSortedI K) bSorted := fun F H xs as c e hx hc Q k => by
  unfold bSorted at hc
  split at hc
  · obtain ⟨ns, h1, h2⟩ := Option.map_eq_some_iff.mp hc
    subst h2
    obtain ⟨x, rfl, b⟩ := bw1 hx
    obtain ⟨p, rfl, h⟩ := b.ints e h1
    refine ⟨p, ns, rfl, h, fun ns' l hp hu hz => ?_⟩
    rw [srt_one hp hu]
    exact k _ _ (Grow.made e hz) _ (.lst upd_same dpa_ints)
  · cases hc
theorem rc_max1 : RdC K (rMax K) bMax1 := fun F H xs as c e hx hc Q k => by
  unfold bMax1 at hc
  split at hc
  · split at hc
    · rename_i n ns h1
      cases hc
      obtain ⟨x, rfl, b⟩ := bw1 hx
      obtain ⟨p, rfl, h⟩ := b.ints e h1
      obtain ⟨t1, t2⟩ := top_spec ns n
      refine ⟨p, n :: ns, rfl, h, Nat.succ_pos _, fun m hm hy => ?_⟩
      have : m = top n ns := Int.le_antisymm (t2 m hm) (hy _ t1)
      subst this
      exact flat_q e (.int _) k
    · cases hc
  · cases hc
theorem rc_min1 : RdC K (rMin K) bMin1 := fun F H xs as c e hx hc Q k => by
  unfold bMin1 at hc
  split at hc
  · split at hc
    · rename_i n ns h1
      cases hc
      obtain ⟨x, rfl, b⟩ := bw1 hx
      obtain ⟨p, rfl, h⟩ := b.ints e h1
      obtain ⟨t1, t2⟩ := low_spec ns n
      refine ⟨p, n :: ns, rfl, h, Nat.succ_pos _, fun m hm hy => ?_⟩
      have : m = low n ns := Int.le_antisymm (hy _ t1) (t2 m hm)
      subst this
      exact flat_q e (.int _) k
    · cases hc
  · cases hc
/-! ### data of the module that stand as names -/
def gD (K : PySem.W.Frag) : Nat → Value → D → Bool
  | _, .int i _, .int j => i == j
  | _, .none, .none => true
  | _, .bool i, .bool j => i == j
  | _, .str i _, .str j => i == j
  | n + 1, .ref a, .tuple ds => match K.lookup a with
    | some ⟨.type "tuple", _, .seq its _, _⟩ => decide (its.size ≤ sizeLine) && its.toList.length == ds.length && (its.toList.zip ds).all fun p => gD K n p.1 p.2
    | _ => false
  | _, _, _ => false
theorem gD_ok {K : PySem.W.Frag} : ∀ (n : Nat) (v : Value) (d : D), gD K n v d = true → ∃ x, RelV x v ∧ ∀ H, Da K H x d
  | 0, v, d, h => by
    unfold gD at h
    split at h
    · exact ⟨.int _, ⟨_, rfl⟩, fun H => by rw [eq_of_beq h]; exact .int _⟩
    · exact ⟨.non, rfl, fun H => .non⟩
    · exact ⟨.bl _, rfl, fun H => by rw [eq_of_beq h]; exact .bl _⟩
    · exact ⟨.str _, ⟨_, rfl⟩, fun H => by rw [eq_of_beq h]; exact .str _⟩
    · rename_i e; cases e
    · cases h
  | n + 1, v, d, h => by
    unfold gD at h
    split at h
    · exact ⟨.int _, ⟨_, rfl⟩, fun H => by rw [eq_of_beq h]; exact .int _⟩
    · exact ⟨.non, rfl, fun H => .non⟩
    · exact ⟨.bl _, rfl, fun H => by rw [eq_of_beq h]; exact .bl _⟩
    · exact ⟨.str _, ⟨_, rfl⟩, fun H => by rw [eq_of_beq h]; exact .str _⟩
    · rename_i m a ds e
      cases e
      split at h
      · rename_i its sz _ hl
        simp only [decide_eq_true_eq, Bool.and_eq_true] at h
        obtain ⟨⟨h1, h2⟩, h3⟩ := h
        have go : ∀ (vs : List Value) (ds : List D), vs.length = ds.length → (vs.zip ds).all (fun p => gD K n p.1 p.2) = true → ∃ xs, Vals xs vs ∧ ∀ H, DaAll K H xs ds := by
          intro vs
          induction vs with
          | nil =>
            intro ds h1 _
            cases ds with
            | nil => exact ⟨[], .nil, fun H => .nil⟩
            | cons d ds => cases h1
          | cons v vs ih =>
            intro ds h1 h2
            cases ds with
            | nil => cases h1
            | cons d ds =>
              simp only [List.zip_cons_cons, List.all_cons, Bool.and_eq_true] at h2
              obtain ⟨x, q1, q2⟩ := gD_ok n v d h2.1
              obtain ⟨xs, q3, q4⟩ := ih ds (by simpa using h1) h2.2
              exact ⟨x :: xs, .cons q1 q3, fun H => .cons (q2 H) (q4 H)⟩
        obtain ⟨xs, q1, q2⟩ := go its.toList ds (eq_of_beq h2) h3
        exact ⟨.ref a, rfl, fun H => .tup (Or.inr ⟨_, its, sz, hl, rfl, rfl, h1, q1⟩) (q2 H)⟩
      · cases h
    · cases h
theorem de_gd {W : WX} {pos : Pos} {x : Str} {v : Value} {d : D} {n : Nat} (hg : Gl X x) (hm : X.mg x = some v) (h : gD X.K n v d = true) (hd : (x == ("__debug__" : Str)) = false := by decide) : DE X W (.Name x pos) (cC d) := by
  obtain ⟨y, r, a⟩ := gD_ok n v d h
  exact de_c (v := y) (pe_glob hg hm r hd) a
end
end DL

/-! DLk -/
namespace DL
open PySem L2 PySem.Spec PyProof.Rows
open Evl (Ex ex_l ex_t ex_rd)
/-- sorted(d), the keys ints -/
def rSortedDk : List V → Hp → VK → Prop := fun vs H Q => ∃ (a : Addr) (kvs : List (Key × V)) (ns : List Int), vs = [V.ref a] ∧ Rd H a (.dK kvs) ∧ kvs.map (·.1) = ns.map Sum.inl ∧
  ∀ (ms : List Int) (p : Addr), ms.Perm ns → ms.Pairwise (· ≤ ·) → H p = none → Q (.ref p) (upd H p (.lst (ms.map V.int)))
section
variable {X : Cx}
theorem ints_at : ∀ {vs : List Value} {ns : List Int}, vs.length = ns.length → (∀ (j : Nat) v i, vs[j]? = some v → ns[j]? = some i → ∃ t, v = Value.int i t) → IntsAre vs ns
  | [], [], _, _ => .nil
  | [], _ :: _, hl, _ => nomatch hl
  | _ :: _, [], hl, _ => nomatch hl
  | v :: vs, i :: ns, h, q => by
    obtain ⟨t, rfl⟩ := q 0 v i rfl rfl
    exact .cons i t (ints_at (by simpa using h) fun j v i a b => q (j + 1) v i a b)
theorem kv_at {κ : Type} : ∀ {kvs : List (κ × V)} {vs : List (κ × Value)}, KV kvs vs → ∀ (j : Nat) (k : κ) (x : Value), vs[j]? = some (k, x) → ∃ y, kvs[j]? = some (k, y)
  | _, _, .nil, j, k, x, h => by simp at h
  | _, _, .cons r t, 0, k, x, h => by
    simp only [Option.some.injEq, List.getElem?_cons_zero] at h
    subst h
    rename_i p _ _
    obtain ⟨p1, p2⟩ := p
    exact ⟨p2, by simp only [List.getElem?_cons_zero]; rw [show p1 = k from r.1]⟩
  | _, _, .cons r t, j + 1, k, x, h => kv_at t j k x h
theorem cr_sortedDk (hc : X.calm = true) : CallR X (.builtin "sorted") rSortedDk := by
  intro pins s σ H vs us Q
  intro I r h
  obtain ⟨a, kvs, ns, rfl, ha, hk, q⟩ := h
  rw [Vals.ref1 r]
  obtain ⟨z, hd, vs', rel, dd⟩ := dk_rd I.hok ha
  obtain ⟨ep, hat⟩ := dd.dictAt
  have hlen : vs'.length = kvs.length := rel.length.symm
  have hlk : kvs.length = ns.length := by
    have := congrArg List.length hk
    simpa using this
  refine Calls.call_function_entry (kind_sorted) plain_sorted entry_sorted (args_sorted1 _) ?_
  unfold Builtin.«sorted»
  refine wpAny_bind (m := (checkCount "sorted" 1 1 _)) (wpAny_pure ?_)
  refine wpAny_bind (PySem.W.kdu_collect (A := X.A.in1) (PySem.W.kdl_dict (kvs := vs') (ep := ep) hd) (by have := I.ok.hd hc; simpa using this) hat (by rw [hlen]; exact z) fun h' tk acc hk2 hacc => ?_)
  have hl : acc.toList.length = vs'.length := by rw [Array.length_toList]; exact hacc.1
  have hI : IntsAre acc.toList ns := ints_at (by rw [hl, hlen, hlk]) fun j v i e1 e2 => by
    obtain ⟨k, x, hx, hi⟩ := hacc.2 j v (by rw [← Array.getElem?_toList]; exact e1)
    obtain ⟨y, hy⟩ := kv_at rel j k x hx
    have e3 : (kvs.map (·.1))[j]? = some k := by rw [List.getElem?_map, hy]; rfl
    rw [hk, List.getElem?_map, e2] at e3
    have e4 : k = Sum.inl i := (Option.some.inj e3).symm
    subst e4
    rcases keyIs_shape (show keyIs (Sum.inl i) v = true from hi) with ⟨i', t, e5, e6⟩ | ⟨x', t, e5, e6⟩
    · injection e5 with e5
      exact ⟨t, by rw [e6, e5]⟩
    · cases e5
  have hsz : acc.toList.length ≤ sizeLine := by rw [hl, hlen]; exact z
  refine wpAny_bind (wpAny_newList ?_ hsz)
  have hoL : (h'.push (seqObj "list" acc.toList.toArray 0)).get? h'.objs.size = some (seqObj "list" acc.toList.toArray 0) :=
    Heap.get?_push_size _ rfl
  refine wpAny_bind (wpAny_holding (wpAny_call_entry slot_list_sort ⟨_, hoL, rfl⟩ entry_list_sort (SrtO.list_sort_ord SrtO.swo_int hoL hsz (fun h2 => SrtO.ints_sortable hI h2) fun out h1 h2 => ⟨_, rfl, ?_⟩) (args_list_sort _)))
  obtain ⟨k1, k2, k3⟩ := SrtO.ints_out hI h1 h2
  obtain ⟨c, hc2⟩ := sortedHeap_at (vs := acc.toList) (out := out.toArray) hoL
  have hln : ((out.map SrtO.iv).map V.int).length ≤ sizeLine := by
    rw [List.length_map, k2.length_eq, ← hlk, ← hlen, ← hl]
    exact hsz
  have fr : H h'.objs.size = none := (I.hok.kept hk2).fresh (Nat.le_refl _)
  have fr2 : s.heap.get? h'.objs.size = none := by
    cases g : s.heap.get? h'.objs.size with
    | none => rfl
    | some u => exact absurd (Heap.lt_size (hk2 _ _ g)) (Nat.lt_irrefl _)
  refine wpAny_pure ⟨_, rfl, .ref _, upd H h'.objs.size (.lst ((out.map SrtO.iv).map V.int)), I.laidN (t' := tk) (fun b o e => ?_) fr2 fr ⟨hln, out, c, vals_of_ints k1, hc2⟩, rfl, q _ _ k2 k3 fr⟩
  have hb := hk2 _ _ e
  have hlt := Heap.lt_size hb
  rw [sortedHeap_old (Nat.ne_of_lt hlt) (by rw [size_push']; exact (Nat.lt_succ_of_lt hlt))]
  exact (Heap.get?_push_of_some _ hb)
end
/-! ### dicts, the keys ints and texts -/
def keyD : D → Option Key
  | .int i => some (.inl i)
  | .str x => some (.inr x)
  | _ => none
theorem keyD_some {d : D} {k : Key} (h : keyD d = some k) : d = kD k := by
  cases d <;> simp only [keyD] at h <;> cases h <;> rfl
theorem keyD_kD (k : Key) : keyD (kD k) = some k := by cases k <;> rfl
def getK (ks : List (Key × D)) (k : Key) : Option D := (ks.find? fun q => decide (q.1 = k)).map (·.2)
def setK (ks : List (Key × D)) (k : Key) (d : D) : List (Key × D) := if (ks.any fun q => decide (q.1 = k)) = true then ks.map (fun q => if q.1 = k then (q.1, d) else q) else ks ++ [(k, d)]
/-- the row of a dict -/
def rowK : List (D × D) → Option (List (Key × D))
  | [] => some []
  | (a, d) :: r => (keyD a).bind fun k => (rowK r).map fun ks => (k, d) :: ks
def dctK : D → Option (List (Key × D))
  | .dict ((.none, .none) :: r) => rowK r
  | _ => none
theorem rowK_map : ∀ ks : List (Key × D), rowK (ks.map fun q => (kD q.1, q.2)) = some ks
  | [] => rfl
  | (k, d) :: ks => by simp [rowK, keyD_kD, rowK_map ks]
theorem dctK_dcD (ks : List (Key × D)) : dctK (dcD ks) = some ks := rowK_map ks
theorem rowK_some : ∀ {r : List (D × D)} {ks : List (Key × D)}, rowK r = some ks → r = ks.map fun q => (kD q.1, q.2)
  | [], ks, h => by simp [rowK] at h; subst h; rfl
  | (a, d) :: r, ks, h => by
    simp only [rowK] at h
    cases h1 : keyD a with
    | none => rw [h1] at h; exact nomatch h
    | some k =>
      rw [h1] at h
      simp only [Option.bind_some, Option.map_eq_some_iff] at h
      obtain ⟨ks', h2, h3⟩ := h
      subst h3
      rw [List.map_cons, ← rowK_some h2, ← keyD_some h1]
theorem dctK_some {d : D} {ks : List (Key × D)} (h : dctK d = some ks) : d = dcD ks := by
  unfold dctK at h
  split at h
  · rw [rowK_some h]
  · cases h
section
variable {K : PySem.W.Frag} {F H : Hp}
theorem dks_len : ∀ {kvs : List (Key × V)} {ks : List (Key × D)}, DKs K F kvs ks → kvs.length = ks.length
  | [], _, h => by cases h; rfl
  | _ :: _, _, h => by
    cases h with
    | cons h1 h2 => simp [dks_len h2]
theorem dks_get : ∀ {kvs : List (Key × V)} {ks : List (Key × D)} (k : Key), DKs K F kvs ks → (∀ d, getK ks k = some d → ∃ v, valV kvs k = some v ∧ Da K F v d) ∧ (getK ks k = none → valV kvs k = none)
  | [], _, k, h => by cases h; exact ⟨fun d e => (by cases e), fun _ => rfl⟩
  | (k', v) :: kvs, _, k, h => by
    cases h with
    | cons h1 h2 =>
      rename_i d ds
      obtain ⟨a, b⟩ := dks_get k h2
      by_cases e : k' = k
      · rw [valV_pos (p := (k', v)) e]
        have g : getK ((k', d) :: ds) k = some d := by simp [getK, List.find?_cons, e]
        rw [g]
        exact ⟨fun d' z => by cases z; exact ⟨v, rfl, h1⟩, fun z => by cases z⟩
      · rw [valV_neg (p := (k', v)) e]
        have g : getK ((k', d) :: ds) k = getK ds k := by simp [getK, List.find?_cons, e]
        rw [g]
        exact ⟨a, b⟩
theorem dks_any : ∀ {kvs : List (Key × V)} {ks : List (Key × D)} (k : Key), DKs K F kvs ks → (kvs.any fun q => decide (q.1 = k)) = (ks.any fun q => decide (q.1 = k))
  | [], _, k, h => by cases h; rfl
  | _ :: _, _, k, h => by
    cases h with
    | cons h1 h2 => simp only [List.any_cons, dks_any k h2]
theorem dks_map {v : V} {d : D} (hv : Da K F v d) (k : Key) : ∀ {kvs : List (Key × V)} {ks : List (Key × D)}, DKs K F kvs ks → DKs K F (kvs.map fun q => if q.1 = k then (q.1, v) else q) (ks.map fun q => if q.1 = k then (q.1, d) else q)
  | [], _, h => by cases h; exact .nil
  | (k', v') :: kvs, _, h => by
    cases h with
    | cons h1 h2 =>
      simp only [List.map_cons]
      by_cases e : k' = k
      · rw [if_pos e, if_pos e]
        exact .cons hv (dks_map hv k h2)
      · rw [if_neg e, if_neg e]
        exact .cons h1 (dks_map hv k h2)
theorem dks_app {v : V} {d : D} (hv : Da K F v d) (k : Key) : ∀ {kvs : List (Key × V)} {ks : List (Key × D)}, DKs K F kvs ks → DKs K F (kvs ++ [(k, v)]) (ks ++ [(k, d)])
  | [], _, h => by cases h; exact .cons hv .nil
  | _ :: _, _, h => by
    cases h with
    | cons h1 h2 => exact .cons h1 (dks_app hv k h2)
theorem dks_put {v : V} {d : D} {kvs : List (Key × V)} {ks : List (Key × D)} (h : DKs K F kvs ks) (hv : Da K F v d) (k : Key) : DKs K F (putK kvs k v) (setK ks k d) := by
  unfold putK setK
  rw [dks_any k h]
  split
  · exact dks_map hv k h
  · exact dks_app hv k h
theorem Bw.dict {v : V} {ks : List (Key × D)} (b : Bw K F H v (dcD ks)) (e : Ex F H) : ∃ p kvs, v = .ref p ∧ H p = some (.dK kvs) ∧ DKs K F kvs ks := by
  have inj : ∀ {ks' : List (Key × D)}, ((PyData.none, PyData.none) :: ks.map (fun q => (kD q.1, q.2)) : List (D × D)) = (.none, .none) :: ks'.map (fun q => (kD q.1, q.2)) → ks' = ks := fun {ks'} z => by
    have z1 := (List.cons.inj z).2
    have a := rowK_map ks
    rw [z1, rowK_map ks'] at a
    exact Option.some.inj a
  generalize hd : dcD ks = dd at b
  cases b with
  | fr h =>
    cases h with
    | scr hs =>
      rename_i a ns
      exfalso
      have z := PyData.dict.inj hd
      cases ns with
      | nil => cases z
      | cons n ns => cases z
    | dct h1 h2 q =>
      have z := PyData.dict.inj hd
      rw [q] at z
      have w := inj z
      subst w
      exact ⟨_, _, rfl, e _ _ h1, h2⟩
    | _ => cases hd
  | ow h n a => cases hd
  | od h n a q =>
    have z := PyData.dict.inj hd
    rw [q] at z
    have w := inj z
    subst w
    exact ⟨_, _, rfl, h, a⟩
end
def oDGet (a b : D) : Option D := (dctK a).bind fun ks => (keyD b).bind fun k => getK ks k
def oDIn (a b : D) : Option D := (dctK b).bind fun ks => (keyD a).map fun k => .bool (getK ks k).isSome
def oDNotIn (a b : D) : Option D := (dctK b).bind fun ks => (keyD a).map fun k => .bool (!(getK ks k).isSome)
def rDIx : R2 := fun x y H Q => ∃ a v, x = .ref a ∧ DGet H a y (some v) ∧ Q v H
def rDIn (z : Bool) : R2 := fun x y H Q => ∃ a o, y = .ref a ∧ DGet H a x o ∧ Q (.bl (z ^^ o.isSome)) H
section
variable {X : Cx} {K : PySem.W.Frag}
theorem ix_dk (hu : X.A.units + 1 < cLine) : IxR X rDIx := by
  intro value slice pins s σ H x y v u Q
  intro I rx ry h hs
  obtain ⟨a, r, rfl, g, q⟩ := h
  obtain rfl : v = .ref a := rx
  exact tail_any (dict_typeIs I g) PySem.F.slot_dict_getitem.lookup (d_getItem hu I g ry fun w' s' I' rw' => ⟨r, H, I', rw', q⟩) hs
theorem op_dkIn (hu : X.A.units + 1 < cLine) : OpR X (compareOp .In) (rDIn false) := by
  intro pins s σ H x y v u Q
  intro I rx ry h
  obtain ⟨a, o, rfl, g, q⟩ := h
  obtain rfl : u = .ref a := ry
  exact d_in hu I g rx fun s' I' => ⟨.bl o.isSome, H, I', rfl, by simpa using q⟩
theorem op_dkNotIn (hu : X.A.units + 1 < cLine) : OpR X (compareOp .NotIn) (rDIn true) := by
  intro pins s σ H x y v u Q
  intro I rx ry h
  obtain ⟨a, o, rfl, g, q⟩ := h
  obtain rfl : u = .ref a := ry
  exact d_notIn hu I g rx fun s' I' => ⟨.bl (!o.isSome), H, I', rfl, by simpa using q⟩
theorem bw_key {F H : Hp} {x : V} {a : D} {k : Key} (h : Bw K F H x a) (e : keyD a = some k) : x = kV k := by
  have := keyD_some e
  subst this
  cases k with
  | inl i => exact h.int
  | inr z => exact h.str
theorem rd_dIx : RdO K rDIx oDGet := fun F H x y a b c e hx hy hc Q k => by
  unfold oDGet at hc
  obtain ⟨ks, h1, hc⟩ := Option.bind_eq_some_iff.mp hc
  obtain ⟨kk, h2, hc⟩ := Option.bind_eq_some_iff.mp hc
  rw [dctK_some h1] at hx
  obtain ⟨p, kvs, rfl, h3, h4⟩ := hx.dict e
  obtain ⟨v, h5, h6⟩ := (dks_get kk h4).1 c hc
  refine ⟨p, v, rfl, .inl ⟨kvs, kk, .inl h3, bw_key hy h2, h5.symm⟩, flat_q e h6 k⟩
theorem rd_dIn (z : Bool) {o : D → D → Option D} (ho : ∀ a b, o a b = (dctK b).bind fun ks => (keyD a).map fun k => .bool (z ^^ (getK ks k).isSome)) : RdO K (rDIn z) o := fun F H x y a b c e hx hy hc Q k => by
  rw [ho] at hc
  obtain ⟨ks, h1, hc⟩ := Option.bind_eq_some_iff.mp hc
  obtain ⟨kk, h2, hc⟩ := Option.map_eq_some_iff.mp hc
  subst hc
  rw [dctK_some h1] at hy
  obtain ⟨p, kvs, rfl, h3, h4⟩ := hy.dict e
  obtain ⟨g1, g2⟩ := dks_get kk h4
  have e2 : (valV kvs kk).isSome = (getK ks kk).isSome := by
    cases hg : getK ks kk with
    | none => rw [g2 hg]; rfl
    | some d =>
      obtain ⟨v, h5, _⟩ := g1 d hg
      rw [h5] <;> rfl
  refine ⟨p, valV kvs kk, rfl, .inl ⟨kvs, kk, .inl h3, bw_key hx h2, rfl⟩, ?_⟩
  rw [e2]
  exact flat_q e (.bl _) k
theorem room1 {k : Nat} {A : Around} (r : Room k A) : A.units + 1 < cLine := by have := r.units; omega
/-- all subscripts, all kinds of in -/
def oIxA (a b : D) : Option D := match a with
  | .dict _ => oDGet a b
  | _ => oIx a b
def oInB (a b : D) : Option D := match b with
  | .dict _ => oDIn a b
  | _ => oInA a b
def oNotInB (a b : D) : Option D := match b with
  | .dict _ => oDNotIn a b
  | _ => oNotInA a b
theorem ixA (hu : X.A.units + 1 < cLine) : IxR X (fun x y H Q => rIx X.K x y H Q ∨ rDIx x y H Q) := ixD.or (ix_dk hu)
theorem rd_ixA : RdO K (fun x y H Q => rIx K x y H Q ∨ rDIx x y H Q) oIxA := RdO.or rd_ix rd_dIx fun a b c h => by
  unfold oIxA at h
  split at h
  · exact .inr h
  · exact .inl h
theorem op_inB (hu : X.A.units + 65 < cLine) : OpR X (compareOp .In) (fun x y H Q => (rInDD X.K x y H Q ∨ rIn X.K false x y H Q) ∨ rDIn false x y H Q) := (op_inA hu).or (op_dkIn (by omega))
theorem op_notinB (hu : X.A.units + 65 < cLine) : OpR X (compareOp .NotIn) (fun x y H Q => (rNotInDD X.K x y H Q ∨ rIn X.K true x y H Q) ∨ rDIn true x y H Q) := (op_notinA hu).or (op_dkNotIn (by omega))
theorem rd_inB : RdO K (fun x y H Q => (rInDD K x y H Q ∨ rIn K false x y H Q) ∨ rDIn false x y H Q) oInB := RdO.or rd_inA (rd_dIn false (o := oDIn) fun a b => by simp [oDIn]) fun a b c h => by
  unfold oInB at h
  split at h
  · exact .inr h
  · exact .inl h
theorem rd_notinB : RdO K (fun x y H Q => (rNotInDD K x y H Q ∨ rIn K true x y H Q) ∨ rDIn true x y H Q) oNotInB := RdO.or rd_notinA (rd_dIn true (o := oDNotIn) fun a b => by simp [oDNotIn]) fun a b c h => by
  unfold oNotInB at h
  split at h
  · exact .inr h
  · exact .inl h
/-! sorted, of a list of ints or of a dict whose keys are ints -/
def intKs : List (Key × D) → Option (List Int)
  | [] => some []
  | (.inl i, _) :: r => (intKs r).map (i :: ·)
  | _ => none
theorem intKs_some : ∀ {ks : List (Key × D)} {ns : List Int}, intKs ks = some ns → ks.map (·.1) = ns.map Sum.inl
  | [], ns, h => by simp [intKs] at h; subst h; rfl
  | (.inl i, d) :: r, ns, h => by
    simp only [intKs] at h
    obtain ⟨m, h1, h2⟩ := Option.map_eq_some_iff.mp h
    subst h2
    rw [List.map_cons, intKs_some h1] <;> rfl
  | (.inr x, d) :: r, ns, h => by cases h
theorem dks_keys {F : Hp} : ∀ {kvs : List (Key × V)} {ks : List (Key × D)}, DKs K F kvs ks → kvs.map (·.1) = ks.map (·.1)
  | [], _, h => by cases h; rfl
  | _ :: _, _, h => by
    cases h with
    | cons h1 h2 => simp only [List.map_cons, dks_keys h2]
def bSortedA : List D → Option D
  | [.dict r] => (dctK (.dict r)).bind fun ks => (intKs ks).map fun ns => .list ((srt ns).map .int)
  | as => bSorted as
theorem cr_sortedA (hc : X.calm = true) : CallR X (.builtin "sorted") (fun xs H Q => rSortedI X.K xs H Q ∨ rSortedDk xs H Q) := cr_sortedI.or (cr_sortedDk hc)
theorem rc_sortedA : RdC K (fun xs H Q => rSortedI K xs H Q ∨ rSortedDk xs H Q) bSortedA := fun F H xs as c e hx hc Q k => by
  unfold bSortedA at hc
  split at hc
  · right
    obtain ⟨ks, h1, hc⟩ := Option.bind_eq_some_iff.mp hc
    obtain ⟨ns, h2, hc⟩ := Option.map_eq_some_iff.mp hc
    subst hc
    obtain ⟨x, rfl, b⟩ := bw1 hx
    rw [dctK_some h1] at b
    obtain ⟨p, kvs, rfl, h3, h4⟩ := b.dict e
    refine ⟨p, kvs, ns, rfl, .inl h3, (dks_keys h4).trans (intKs_some h2), fun ns' l hp hu hz => ?_⟩
    rw [srt_one hp hu]
    exact k _ _ (Grow.made e hz) _ (.lst upd_same dpa_ints)
  · exact .inl (rc_sorted F H xs as c e hx hc Q k)
end
/-! ### {}, d[k] = v -/
def asDic : Env → R SV := fun _ => .ok (.dic [])
section
variable {X : Cx} {W : WX} {o i e value : Expr} {pos pos' : Pos} {f g h : Env → R D}
theorem dx_dic {W : WX} : DX X W (.Dict [] [] pos) asDic := ⟨pe_imp pe_dnewK fun σ H Q ⟨F0, H0, F, ρ, r, k⟩ p hp => by
  have e := r.g.in_
  have fp : F p = none := Evl.fresh_back e hp
  exact k F (upd H p (.dK [])) (Grow.held e hp) _ ⟨p, [], rfl, hp, fp, upd_same, .nil⟩⟩
def sPut (i : Nat) (f g : Env → R D) : Env → Out := fun ρ => exB ρ (f ρ) fun d => match ρ[i]? with
  | some (.dic ks) => exB ρ (g ρ) fun b => match keyD b with
    | some k => if ks.length < 100000 then .nx (ρ.set i (.dic (setK ks k d))) else .bad
    | none => .bad
  | _ => .bad
theorem ds_put {i : Nat} {x : Str} {p1 : Pos} {ix : Expr} (hu : X.A.units + 1 < cLine) (hN : X.N[i]? = some x) (hv : Vis X.env.scope x) (ha : DE X W value f) (hb : DE X W ix g)
    (hs : swapsWith value (some (.Subscript (.Name x p1) ix pos')) pos.line X.env = pure false := by rfl) (hd : (x == ("__debug__" : Str)) = false := by decide) (hcd : (x == ("__classdict__" : Str)) = false := by decide) :
    DS X W (.Assign [.Subscript (.Name x p1) ix pos'] value pos) (sPut i f g) :=
  ⟨ps_imp (ps_dput hu (pe_var hN hv hd hcd) hb.pe ha.pe hs) fun Z σ H ⟨F0, H0, F, ρ, r, k⟩ => ⟨F0, H0, F, ρ, r, exB_ok r k fun d F1 H1 g1 q1 v hv => by
    split at q1
    · rename_i ks hi
      obtain ⟨p, kvs, e1, e2, e3, e4, e5⟩ := (r.grow g1).dic i ks hi
      refine ⟨.ref p, e1, F0, H0, F1, ρ, r.grow g1, exB_ok (r.grow g1) q1 fun b F2 H2 g2 q2 y hy => ?_⟩
      split at q2
      · rename_i kk hk
        split at q2
        · rename_i hlen
          have r2 := (r.grow g1).grow g2
          have e4' := g2.h _ _ e4
          have fp : F2 p = none := by
            cases z : F2 p with
            | none => rfl
            | some o =>
              have w := g2.new p o z e3
              rw [e4] at w; cases w
          have l5 := dks_len e5
          have ey : y = kV kk := bw_key (H := H2) (.fr hy) hk
          refine ⟨p, _, rfl, .inl ⟨kvs, kk, e4', ey, Evl.sz_lt (by omega), rfl⟩, ?_⟩
          exact q2 F2 _ σ (.refl _) (r2.mutD hi e1 ⟨_, e4'⟩ e2 fp (dks_put (e5.up g2.f) (hv.up g2.f) kk))
        · exact q2.elim
      · exact q2.elim
    · exact q1.elim⟩⟩
end
end DL

/-! DLi -/
namespace DL
open PySem L2 PySem.Spec PyProof.Rows
open Evl (Ex ex_l ex_t ex_rd)
section
variable {X : Cx} {W : WX} {e e1 e2 e3 o i value : Expr} {es : List Expr} {pos pos' : Pos} {f g h : Env → R D}
/-- x[k] = v, x an own list -/
def sPutL (i : Nat) (f g : Env → R D) : Env → Out := fun ρ => exB ρ (f ρ) fun d => match ρ[i]? with
  | some (.own ds) => exB ρ (g ρ) fun b => match intD b with
    | some k => match ixN ds.length k with
      | some j => .nx (ρ.set i (.own (ds.set j d)))
      | none => .bad
    | none => .bad
  | _ => .bad
theorem ds_putL {i : Nat} {x : Str} {p1 : Pos} {ix : Expr} (hN : X.N[i]? = some x) (hv : Vis X.env.scope x) (ha : DE X W value f) (hb : DE X W ix g)
    (hs : swapsWithSole [.Subscript (.Name x p1) ix pos'] value pos.line X.env = pure false := by rfl) (hw : swappedStores [.Subscript (.Name x p1) ix pos'] value X.env = pure none := by rfl)
    (h1 : (assignEach [.Subscript (.Name x p1) ix pos'] X.env).map (·.2) = [assign (.Subscript (.Name x p1) ix pos') X.env] := by rfl)
    (hq : ∀ v, assign (.Subscript (.Name x p1) ix pos') X.env v = (do
      let ov ← holding [v] (eval (.Name x p1) X.env)
      let iv ← holding [v, ov] (eval ix X.env)
      standAt pos'; holding [v, ov, iv] (setItem ov iv v)
      release [v, ov, iv] []) := by intro _; rfl)
    (hdb : (x == ("__debug__" : Str)) = false := by decide) (hcd : (x == ("__classdict__" : Str)) = false := by decide) :
    DS X W (.Assign [.Subscript (.Name x p1) ix pos'] value pos) (sPutL i f g) :=
  ⟨ps_imp (ps_asg ha.pe (pg_sub (pe_var hN hv hdb hcd) hb.pe set_list hq) hs hw h1) fun Z σ H ⟨F0, H0, F, ρ, r, k⟩ => ⟨F0, H0, F, ρ, r, exB_ok r k fun d F1 H1 g1 q1 v hv => by
    split at q1
    · rename_i ds hi
      obtain ⟨p, vs, e1, e2, e3, e4, e5⟩ := (r.grow g1).own i ds hi
      refine ⟨.ref p, e1, F0, H0, F1, ρ, r.grow g1, exB_ok (r.grow g1) q1 fun b F2 H2 g2 q2 y hy => ?_⟩
      split at q2
      · rename_i kk hk
        split at q2
        · rename_i j hj
          have hk' := intD_some hk
          subst hk'
          cases hy
          have r2 := (r.grow g1).grow g2
          have e4' := g2.h _ _ e4
          have fp : F2 p = none := by
            cases z : F2 p with
            | none => rfl
            | some o =>
              have w := g2.new p o z e3
              rw [e4] at w; cases w
          refine ⟨p, vs, kk, j, rfl, rfl, e4', by rw [dpa_len e5]; exact hj, ?_⟩
          exact q2 F2 _ σ (.refl _) (r2.mut hi e1 ⟨_, e4'⟩ e2 fp (dpa_set j (e5.up g2.f) (hv.up g2.f)))
        · exact q2.elim
      · exact q2.elim
    · exact q1.elim⟩⟩
/-! ### methods by values -/
def RdM (K : PySem.W.Frag) (T : String) (r : V → List V → Hp → VK → Prop) (o : D → List D → Option D) : Prop :=
  ∀ (F H : Hp) (x : V) (a : D) (c : D) (xs : List V) (as : List D), Ex F H → Bw K F H x a → BwAll K F H xs as → o a as = some c → ∀ Q : VK, (∀ F' H', Grow F H F' H' → ∀ v, Da K F' v c → Q v H') → r x xs H Q
def lstB : D → Bool
  | .list _ => true
  | _ => false
def cMt (o : D → List D → Option D) (f : Env → R D) (q : Env → R (List D)) : Env → R D := fun ρ => (f ρ).bind fun a => if lstB a = true then (q ρ).bind fun as => ofO (o a as) else .bad
/-- list.index of data -/
def idxD : List D → D → Option Nat
  | [], _ => none
  | x :: xs, d => if PyData.eqv x d = true then some 0 else (idxD xs d).map (· + 1)
def mIndexL (a : D) (as : List D) : Option D := match a, as with
  | .list xs, [d] => if SeqAt.shaped (.list xs) = true ∧ SeqAt.shaped d = true then (idxD xs d).map fun j => .int (j : Nat) else none
  | _, _ => none
theorem idxD_some : ∀ {xs : List D} {d : D} {j : Nat}, idxD xs d = some j → ∃ z, xs[j]? = some z ∧ PyData.eqv z d = true ∧ ∀ (m : Nat) (z' : D), m < j → xs[m]? = some z' → PyData.eqv z' d = false
  | [], d, j, h => by cases h
  | x :: xs, d, j, h => by
    unfold idxD at h
    split at h
    · rename_i e
      cases h
      exact ⟨x, rfl, e, fun m z' hm => absurd hm (Nat.not_lt_zero _)⟩
    · rename_i e
      obtain ⟨j', h1, h2⟩ := Option.map_eq_some_iff.mp h
      subst h2
      obtain ⟨z, a, b, c⟩ := idxD_some h1
      refine ⟨z, a, b, fun m z' hm hz => ?_⟩
      cases m with
      | zero =>
        cases hz
        cases q : PyData.eqv x d with
        | false => rfl
        | true => exact absurd q e
      | succ m => exact c m z' (by omega) hz
theorem rm_indexL {K : PySem.W.Frag} : RdM K "list" (fun x xs H Q => tyV K "list" x H ∧ rIndexD K x xs H Q) mIndexL := fun F H x a c xs as e hx hxs hc Q k => by
  unfold mIndexL at hc
  split at hc
  · rename_i ds d
    split at hc
    · rename_i sh
      obtain ⟨j, h1, h2⟩ := Option.map_eq_some_iff.mp hc
      subst h2
      obtain ⟨z, q1, q2, q3⟩ := idxD_some h1
      obtain ⟨y, rfl, b⟩ := bw1 hxs
      have hda := hx.da e
      obtain ⟨p, vs, rfl, h3, h4⟩ := hx.list e
      refine ⟨.inl ⟨rfl, vs, Or.inl (Or.inl h3)⟩, p, y, d, ds, j, z, rfl, rfl, da_dp _ _ (SeqAt.canLay_of_shaped sh.1) hda, da_dp _ _ (SeqAt.canLay_of_shaped sh.2) (b.da e), sh.1, sh.2, q1, q2, q3, flat_q e (.int _) k⟩
    · cases hc
  · cases hc
/-- list.count of ints -/
def mCountL (a : D) (as : List D) : Option D := match a, as with
  | .list xs, [.int k] => (intsD xs).map fun ns => .int (ns.count k : Nat)
  | _, _ => none
theorem rm_countL {K : PySem.W.Frag} : RdM K "list" (fun x xs H Q => tyV K "list" x H ∧ rCntI K x xs H Q) mCountL := fun F H x a c xs as e hx hxs hc Q k => by
  unfold mCountL at hc
  split at hc
  · rename_i ds n
    obtain ⟨ns, h1, h2⟩ := Option.map_eq_some_iff.mp hc
    subst h2
    obtain ⟨y, rfl, b⟩ := bw1 hxs
    obtain ⟨p, rfl, h⟩ := hx.ints e h1
    exact ⟨.inl ⟨rfl, _, h⟩, p, ns, n, rfl, by rw [b.int], h, flat_q e (.int _) k⟩
  · cases hc
theorem de_meth {id : String} {name : Str} {apos : Pos} {r : V → List V → Hp → VK → Prop} {m : D → List D → Option D} {q : Env → R (List D)} (hr : RdM X.K "list" (fun x xs H Q => tyV X.K "list" x H ∧ r x xs H Q) m)
    (slot : Slot "list" name id) (hty : typeOf (.builtin id) = pure (.type "method_descriptor")) (hm : MtR X id r) (ho : DB X W o f) (ha : DAB X W (e :: es) q)
    (hbase : attributeBase o name X.env (eval o X.env) = eval o X.env := by rfl) (hfew : ((backTo pos (starEach (e :: es) X.env)).all (fun x => !x.1) && (backToKw pos (keywordEach [] X.env)).all (fun x => x.1.isSome) && decide ((e :: es).length + ([] : List Keyword).length + (if ([] : List Keyword).isEmpty then 0 else 1) < 30)) = true := by rfl)
    (hline : (apos.endLine == pos.line) = true := by rfl) (hs : starEach (e :: es) X.env = (false, eval e X.env) :: starEach es X.env := by rfl) (hplain : (backTo pos (starEach es X.env)).any (·.1) = false := by rfl) :
    DE X W (.Call (.Attribute o name apos) (e :: es) [] pos) (cMt m f q) :=
  ⟨pe_imp (pe_bm PySem.F.plainAttrs_list slot hty hm ho.pe ha.pa hbase hfew hline hs hplain) fun σ H Q ⟨F0, H0, F, ρ, rp, k⟩ => ⟨F0, H0, F, ρ, rp, (ROk.step (r := f ρ) k).imp fun a F1 H1 _ g1 q1 x hx => by
    split at q1
    · rename_i la
      have ty : tyV X.K "list" x H1 := by
        cases a with
        | list ds =>
          obtain ⟨p, vs, rfl, h3, h4⟩ := hx.list g1.in_
          exact .inl ⟨rfl, vs, Or.inl (Or.inl h3)⟩
        | _ => cases la
      exact ⟨ty, F0, H0, F1, ρ, rp.grow g1, (ROk.step (r := q ρ) q1).imp fun as F2 H2 _ g2 q2 vs hvs => by
        obtain ⟨c2, e2, z2⟩ := q2.ofO
        exact (hr F2 H2 x a c2 vs as g2.in_ (hx.grow g2) hvs e2 Q fun F3 H3 g3 v hv => z2 F3 H3 g3 v hv).2⟩
    · exact q1.elim⟩⟩
/-- a call without arguments -/
theorem de_call0 {x : Str} {p : Pos} {k j : Nat} {sem : List D → R D} (C : Callee X.prog X.w X.K X.mg X.base k x 0 sem) (hr : Room j X.A) (hkj : k ≤ j) (hg : Gl X x) (tk : Takes X W) (hdb : (x == ("__debug__" : Str)) = false := by decide) :
    DE X W (.Call (.Name x p) [] [] pos) (cCall sem aNil) := by
  obtain ⟨f, fd, ps, hm, hk, hb, Fn⟩ := C.ex
  refine ⟨⟨fun pins s σ H Q I ⟨F0, H0, F, ρ, r, z⟩ => ?_⟩⟩
  have z : ROk X.K X.mg (fun c d H' => W c d σ H') F H (fun d F' H' => ∀ v, Da X.K F' v d → Q v H') (sem []) := z
  refine wpAny_Call_Name_kw (ld_glob I hg hm ?_ (hdb))
  exact PySem.W.callWith_K0 I.kIn hk (run_fnSD (us := []) (vs := []) Fn (hr.mono hkj) hb .nil (passAt tk σ) I .nil ⟨F, [], r.g.in_, .nil, rfl, z⟩)
/-- x.extend(e), x an own list -/
def sExt (i : Nat) (f : Env → R D) : Env → Out := fun ρ => match ρ[i]? with
  | some (.own ds) => exB ρ (f ρ) fun d => match d with
    | .list es => if ds.length + es.length ≤ 100000 then .nx (ρ.set i (.own (ds ++ es))) else .bad
    | _ => .bad
  | _ => .bad
theorem ds_ext {i : Nat} {x : Str} {p1 p2 p3 : Pos} (hN : X.N[i]? = some x) (hv : Vis X.env.scope x) (ha : DE X W e f) (hd : (x == ("__debug__" : Str)) = false := by decide) (hcd : (x == ("__classdict__" : Str)) = false := by decide)
    (hbase : attributeBase (.Name x p1) "extend" X.env (eval (.Name x p1) X.env) = eval (.Name x p1) X.env := by rfl)
    (hfew : ((backTo p3 (starEach [e] X.env)).all (fun x => !x.1) && (backToKw p3 (keywordEach [] X.env)).all (fun x => x.1.isSome) && decide ([e].length + ([] : List Keyword).length + (if ([] : List Keyword).isEmpty then 0 else 1) < 30)) = true := by rfl)
    (hline : (p2.endLine == p3.line) = true := by rfl) (hs : starEach [e] X.env = (false, eval e X.env) :: starEach [] X.env := by rfl) (hplain : (backTo p3 (starEach [] X.env)).any (·.1) = false := by rfl)
    (hsw : swapsWith (.Call (.Attribute (.Name x p1) "extend" p2) [e] [] p3) none pos.line X.env = pure false := by rfl) :
    DS X W (.Expr (.Call (.Attribute (.Name x p1) "extend" p2) [e] [] p3) pos) (sExt i f) :=
  ⟨ps_imp (ps_expr (pe_bm PySem.F.plainAttrs_list PySem.F.slot_list_extend PySem.F.type_list_extend mt_extend (pe_var hN hv hd hcd) (pa_cons ha.pe pa_nil hs) hbase hfew hline hs hplain) hsw) fun Z σ H ⟨F0, H0, F, ρ, r, k⟩ => by
    have k : OOk X.K X.mg W F0 H0 F Z (match ρ[i]? with | some (.own ds) => exB ρ (f ρ) fun d => (match d with | .list es => if ds.length + es.length ≤ 100000 then .nx (ρ.set i (.own (ds ++ es))) else .bad | _ => .bad) | _ => .bad) := k
    split at k
    · rename_i ds hi
      obtain ⟨p, vs, e1, e2, e3, e4, e5⟩ := r.own i ds hi
      refine ⟨.ref p, e1, .inl ⟨rfl, _, Or.inl (Or.inl e4)⟩, F0, H0, F, ρ, r, exB_ok r k fun d F' H' gr q v hv => ?_⟩
      split at q
      · rename_i es
        split at q
        · rename_i hlen
          have r' := r.grow gr
          have fp : F' p = none := by
            cases z : F' p with
            | none => rfl
            | some o =>
              have w := gr.new p o z e3
              rw [e4] at w; cases w
          cases hv with
          | lst h1 h2 =>
            have l5 := dpa_len e5
            have l6 := dpa_len h2
            refine ⟨p, _, vs, _, rfl, rfl, gr.h _ _ e4, gr.in_ _ _ h1, Evl.sz_of (by omega), ?_⟩
            exact q F' _ σ (.refl _) (r'.mut hi e1 ⟨_, gr.h _ _ e4⟩ e2 fp (dpa_app (e5.up gr.f) h2))
        · exact q.elim
      · exact q.elim
    · exact k.elim⟩
/-- d.get(k, x) -/
def cGet2 (f g h : Env → R D) : Env → R D := fun ρ => (f ρ).bind fun a => (ofO (dctK a)).bind fun ks => (g ρ).bind fun b => (h ρ).bind fun d => (ofO (keyD b)).bind fun k => .ok ((getK ks k).getD d)
theorem de_get2 {apos cpos : Pos} (hu : X.A.units + 1 < cLine) (ho : DB X W o f) (ha : DE X W e1 g) (hb : DE X W e2 h)
    (m1 : attributeBase o "get" X.env (eval o X.env) = eval o X.env := by rfl)
    (m2 : ((backTo cpos (starEach [e1, e2] X.env)).all (fun x => !x.1) && (backToKw cpos (keywordEach [] X.env)).all (fun x => x.1.isSome) && decide (([e1, e2] : List Expr).length + ([] : List Keyword).length + (if ([] : List Keyword).isEmpty then 0 else 1) < 30)) = true := by rfl)
    (m3 : (apos.endLine == cpos.line) = true := by rfl) (m4 : backTo cpos (starEach [e1, e2] X.env) = [(false, eval e1 X.env), (false, eval e2 X.env)] := by rfl) :
    DE X W (.Call (.Attribute o "get" apos) [e1, e2] [] cpos) (cGet2 f g h) :=
  ⟨pe_imp (pe_dget2 hu ho.pe ha.pe hb.pe ⟨m1, m2, m3, m4⟩) fun σ H Q ⟨F0, H0, F, ρ, rp, k⟩ => ⟨F0, H0, F, ρ, rp, (ROk.step (r := f ρ) k).imp fun a F1 H1 _ g1 q1 x hx => by
    cases hk : dctK a with
    | none => rw [hk] at q1; exact q1.elim
    | some ks =>
      rw [hk] at q1
      have q1 : ROk X.K X.mg (fun c d H' => W c d σ H') F1 H1 (fun a F' H' => ∀ v, Da X.K F' v a → Q v H') ((g ρ).bind fun b => (h ρ).bind fun d => (ofO (keyD b)).bind fun k => .ok ((getK ks k).getD d)) := q1
      rw [dctK_some hk] at hx
      obtain ⟨p, kvs, rfl, h3, h4⟩ := hx.dict g1.in_
      refine ⟨p, rfl, .inl ⟨kvs, .inl h3⟩, F0, H0, F1, ρ, rp.grow g1, (ROk.step (r := g ρ) q1).imp fun b F2 H2 _ g2 q2 y hy => ⟨F0, H0, F2, ρ, (rp.grow g1).grow g2, (ROk.step (r := h ρ) q2).imp fun d F3 H3 _ g3 q3 z hz => ?_⟩⟩
      cases hb : keyD b with
      | none => rw [hb] at q3; exact q3.elim
      | some kk =>
        rw [hb] at q3
        have q3 : ∀ F4 H4, Grow F3 H3 F4 H4 → ∀ v, Da X.K F4 v ((getK ks kk).getD d) → Q v H4 := q3
        have h4' := (h4.up g2.f).up g3.f
        obtain ⟨n1, n2⟩ := dks_get kk h4'
        have ey : y = kV kk := bw_key (H := H3) (.fr (hy.up g3.f)) hb
        refine ⟨valV kvs kk, .inl ⟨kvs, kk, .inl (g3.h _ _ (g2.h _ _ h3)), ey, rfl⟩, ?_⟩
        cases hg : getK ks kk with
        | none =>
          rw [n2 hg]
          rw [hg] at q3
          exact q3 F3 H3 (.refl g3.in_) z hz
        | some d' =>
          obtain ⟨v, h5, h6⟩ := n1 d' hg
          rw [h5]
          rw [hg] at q3
          exact q3 F3 H3 (.refl g3.in_) v h6⟩⟩
end
end DL

/-! DLs -/
namespace DL
open PySem L2 PySem.Spec PyProof.Rows

/-! ### rewriting rules: what the functions of the layer come to -/
section
variable {α β : Type} {ρ : Env} {f g h : Env → R D} {t u : Env → R Bool} {q : Env → R (List D)} {b c : Env → Out} {o o' : D → D → Option D} {i j k : Nat}
@[simp] theorem bind_okS {a : α} {f : α → R β} : (R.ok a).bind f = f a := id rfl
@[simp] theorem bind_excS {x : Exc} {f : α → R β} : (R.exc x : R α).bind f = .exc x := id rfl
@[simp] theorem bind_badS {f : α → R β} : (R.bad : R α).bind f = .bad := id rfl
@[simp] theorem bind_ite {p : Prop} [Decidable p] {x y : R α} {f : α → R β} : (if p then x else y).bind f = if p then x.bind f else y.bind f := by split <;> rfl
@[simp] theorem ofO_someS {a : α} : ofO (some a) = .ok a := id rfl
@[simp] theorem ofO_noneS : ofO (none : Option α) = .bad := id rfl
@[simp] theorem ofO_ite {p : Prop} [Decidable p] {x y : Option α} : ofO (if p then x else y) = if p then ofO x else ofO y := by split <;> rfl
def lkV : Option SV → R D
  | some (.val d) => .ok d
  | _ => .bad
def lkB : Option SV → R D
  | some (.val d) => .ok d
  | some (.own ds) => .ok (.list ds)
  | some (.dic ks) => .ok (dcD ks)
  | _ => .bad
@[simp] theorem lkV_val {d : D} : lkV (some (.val d)) = .ok d := id rfl
@[simp] theorem lkB_val {d : D} : lkB (some (.val d)) = .ok d := id rfl
@[simp] theorem lkB_own {d : List D} : lkB (some (.own d)) = .ok (.list d) := id rfl
@[simp] theorem lkB_dic {ks : List (Key × D)} : lkB (some (.dic ks)) = .ok (dcD ks) := id rfl
@[simp] theorem ev_cVar : cVar i ρ = lkV ρ[i]? := id rfl
@[simp] theorem ev_cBor : cBor i ρ = lkB ρ[i]? := id rfl
@[simp] theorem ev_cC {d : D} : cC d ρ = .ok d := id rfl
@[simp] theorem ev_cOp : cOp o f g ρ = (f ρ).bind fun a => (g ρ).bind fun b => ofO (o a b) := id rfl
@[simp] theorem ev_cUn {o : D → Option D} : cUn o f ρ = (f ρ).bind fun a => ofO (o a) := id rfl
@[simp] theorem ev_cTest : cTest f ρ = (f ρ).bind fun a => ofO (truB a) := id rfl
@[simp] theorem ev_cChain : cChain o o' f g h ρ = (f ρ).bind fun a => (g ρ).bind fun b => (ofO ((o a b).bind truB)).bind fun k => if k = true then (h ρ).bind fun c => ofO (o' b c) else .ok (.bool false) := id rfl
@[simp] theorem ev_cAnd : cAnd t u ρ = (t ρ).bind fun k => if k = true then u ρ else .ok false := id rfl
@[simp] theorem ev_cOr : cOr t u ρ = (t ρ).bind fun k => if k = true then .ok true else u ρ := id rfl
@[simp] theorem ev_cNot : cNot t ρ = (t ρ).bind fun k => .ok (!k) := id rfl
@[simp] theorem ev_cAndV : cAndV f g ρ = (f ρ).bind fun a => (ofO (truB a)).bind fun k => if k = true then g ρ else .ok (.bool false) := by simp only [cAndV, cTest]; cases f ρ <;> rfl
@[simp] theorem ev_cOrV : cOrV f g ρ = (f ρ).bind fun a => (ofO (truB a)).bind fun k => if k = true then .ok (.bool true) else g ρ := by simp only [cOrV, cTest]; cases f ρ <;> rfl
@[simp] theorem ev_cNotV : cNotV f ρ = (f ρ).bind fun a => (ofO (truB a)).bind fun k => .ok (.bool (!k)) := by simp only [cNotV, cTest]; cases f ρ <;> rfl
@[simp] theorem ev_cIf : cIf t f g ρ = (t ρ).bind fun k => if k = true then f ρ else g ρ := id rfl
@[simp] theorem ev_aNil : aNil ρ = .ok [] := id rfl
@[simp] theorem ev_aCons : aCons f q ρ = (f ρ).bind fun x => (q ρ).bind fun xs => .ok (x :: xs) := id rfl
@[simp] theorem ev_cTup : cTup q ρ = (q ρ).bind fun ds => if ds.length ≤ 100000 then .ok (.tuple ds) else .bad := id rfl
@[simp] theorem ev_cLst : cLst q ρ = (q ρ).bind fun ds => if ds.length ≤ 100000 then .ok ds else .bad := id rfl
@[simp] theorem ev_asList {f : Env → R (List D)} : asList f ρ = (f ρ).bind fun ds => .ok (.list ds) := id rfl
@[simp] theorem ev_asVal : asVal f ρ = (f ρ).bind fun ds => .ok (.val ds) := id rfl
@[simp] theorem ev_asOwn {f : Env → R (List D)} : asOwn f ρ = (f ρ).bind fun ds => .ok (.own ds) := id rfl
@[simp] theorem ev_cBt {o : List D → Option D} : cBt o q ρ = (q ρ).bind fun as => ofO (o as) := id rfl
@[simp] theorem ev_cIs {p : D → Bool} : cIs p f ρ = (f ρ).bind fun a => .ok (.bool (p a)) := id rfl
@[simp] theorem ev_cCall {s : List D → R D} : cCall s q ρ = (q ρ).bind s := id rfl
@[simp] theorem ev_pNone : pNone ρ = .ok none := id rfl
@[simp] theorem ev_pSome : pSome f ρ = (f ρ).bind fun a => (ofO (intD a)).bind fun i => .ok (some i) := id rfl
@[simp] theorem ev_cSl {lo hi : Env → R (Option Int)} : cSl f lo hi ρ = (f ρ).bind fun a => (lo ρ).bind fun l => (hi ρ).bind fun h => ofO (oSl a l h) := id rfl
@[simp] theorem ev_cItems : cItems f ρ = (f ρ).bind fun a => ofO (itemsD a) := id rfl
@[simp] theorem ev_cIt {o : List D → Option (List D)} : cIt o q ρ = (q ρ).bind fun as => ofO (o as) := id rfl
@[simp] theorem ev_cLc {it : Env → R (List D)} {s : D → Env → Option Env} {vs : List Nat} : cLc it s t f vs ρ = (it ρ).bind fun ds => if ds.length ≤ 100000 then noX (lcGo s t f (wipeR ρ vs) ds) else .bad := id rfl
@[simp] theorem ev_cYes : cYes ρ = .ok true := id rfl
@[simp] theorem ev_noX {a : α} : noX (.ok a) = .ok a := id rfl
@[simp] theorem ev_sName {d : D} : sName i d ρ = some (ρ.set i (.val d)) := id rfl
@[simp] theorem ev_sNil : sNil [] ρ = some ρ := id rfl
@[simp] theorem ev_sCons {s : D → Env → Option Env} {r : List D → Env → Option Env} {d : D} {ds : List D} : sCons s r (d :: ds) ρ = (s d ρ).bind fun ρ' => r ds ρ' := id rfl
@[simp] theorem ev_sTup {r : List D → Env → Option Env} {ds : List D} : sTup r (.tuple ds) ρ = r ds ρ := id rfl
@[simp] theorem exB_okS {a : α} {k : α → Out} : exB ρ (.ok a) k = k a := id rfl
@[simp] theorem exB_excS {x : Exc} {k : α → Out} : exB ρ (.exc x : R α) k = .ex x ρ := id rfl
@[simp] theorem exB_badS {k : α → Out} : exB ρ (.bad : R α) k = .bad := id rfl
@[simp] theorem exB_ite {p : Prop} [Decidable p] {x y : R α} {k : α → Out} : exB ρ (if p then x else y) k = if p then exB ρ x k else exB ρ y k := by split <;> rfl
@[simp] theorem ev_sNx : sNx ρ = .nx ρ := id rfl
def thenO (x : Out) (h : Env → Out) : Out := match x with
  | .nx ρ' => h ρ'
  | o => o
@[simp] theorem ev_sSeq : sSeq b c ρ = thenO (b ρ) c := id rfl
@[simp] theorem thenO_nx : thenO (.nx ρ) c = c ρ := id rfl
@[simp] theorem thenO_rt {d : D} : thenO (.rt d) c = .rt d := id rfl
@[simp] theorem thenO_ex {x : Exc} : thenO (.ex x ρ) c = .ex x ρ := id rfl
@[simp] theorem thenO_ct : thenO (.ct ρ) c = .ct ρ := id rfl
@[simp] theorem thenO_bk : thenO (.bk ρ) c = .bk ρ := id rfl
@[simp] theorem thenO_bad : thenO .bad c = .bad := id rfl
@[simp] theorem thenO_ite {p : Prop} [Decidable p] {x y : Out} : thenO (if p then x else y) c = if p then thenO x c else thenO y c := by split <;> rfl
@[simp] theorem ev_sRet : sRet f ρ = exB ρ (f ρ) fun d => .rt d := id rfl
@[simp] theorem ev_sRetN : sRetN ρ = .rt .none := id rfl
@[simp] theorem ev_sIf : sIf t b c ρ = exB ρ (t ρ) fun k => if k = true then b ρ else c ρ := id rfl
@[simp] theorem ev_sDrop : sDrop f ρ = exB ρ (f ρ) fun _ => .nx ρ := id rfl
@[simp] theorem ev_sAsg {f : Env → R SV} : sAsg i f ρ = exB ρ (f ρ) fun sv => .nx (ρ.set i sv) := id rfl
def optO : Option Env → Out
  | some ρ' => .nx ρ'
  | none => .bad
@[simp] theorem optO_some : optO (some ρ) = .nx ρ := id rfl
@[simp] theorem ev_sTo {s : D → Env → Option Env} : sTo s f ρ = exB ρ (f ρ) fun d => optO (s d ρ) := id rfl
@[simp] theorem ev_sPar {f g : Env → R SV} : sPar i j f g ρ = exB ρ (f ρ) fun x => exB ρ (g ρ) fun y => .nx ((ρ.set i x).set j y) := id rfl
def par3 (ρ : Env) (i j k : Nat) : List D → Out
  | [x, y, z] => .nx (((ρ.set i (.val x)).set j (.val y)).set k (.val z))
  | _ => .bad
@[simp] theorem par3_ok {x y z : D} : par3 ρ i j k [x, y, z] = .nx (((ρ.set i (.val x)).set j (.val y)).set k (.val z)) := id rfl
@[simp] theorem ev_sPar3 : sPar3 i j k q ρ = exB ρ (q ρ) fun ds => par3 ρ i j k ds := by
  unfold sPar3
  congr 1
@[simp] theorem ev_sFrz : sFrz i b ρ = b (frz i ρ) := id rfl
@[simp] theorem ev_sRaise {x : Str} : sRaise x ρ = .ex ⟨x, []⟩ ρ := id rfl
def lkA (ρ : Env) (i : Nat) (f : R D) : Option SV → Out
  | some (.own ds) => exB ρ f fun d => if ds.length < 100000 then .nx (ρ.set i (.own (ds ++ [d]))) else .bad
  | _ => .bad
@[simp] theorem lkA_own {r : R D} {ds : List D} : lkA ρ i r (some (.own ds)) = exB ρ r fun d => if ds.length < 100000 then .nx (ρ.set i (.own (ds ++ [d]))) else .bad := id rfl
@[simp] theorem ev_sApp : sApp i f ρ = lkA ρ i (f ρ) ρ[i]? := by
  unfold sApp lkA
  split <;> simp_all
def lkP (ρ : Env) (i : Nat) (d : D) (g : R D) : Option SV → Out
  | some (.dic ks) => exB ρ g fun b => match keyD b with
    | some k => if ks.length < 100000 then .nx (ρ.set i (.dic (setK ks k d))) else .bad
    | none => .bad
  | _ => .bad
@[simp] theorem lkP_i {d : D} {n : Int} {ks : List (Key × D)} : lkP ρ i d (.ok (.int n)) (some (.dic ks)) = if ks.length < 100000 then .nx (ρ.set i (.dic (setK ks (.inl n) d))) else .bad := id rfl
@[simp] theorem ev_sPut : sPut i f g ρ = exB ρ (f ρ) fun d => lkP ρ i d (g ρ) ρ[i]? := by
  unfold sPut lkP
  congr 1
def lkPL (ρ : Env) (i : Nat) (d : D) (g : R D) : Option SV → Out
  | some (.own ds) => exB ρ g fun b => match intD b with
    | some k => match ixN ds.length k with
      | some j => .nx (ρ.set i (.own (ds.set j d)))
      | none => .bad
    | none => .bad
  | _ => .bad
@[simp] theorem lkPL_i {d : D} {n : Int} {ds : List D} : lkPL ρ i d (.ok (.int n)) (some (.own ds)) = (match ixN ds.length n with | some j => .nx (ρ.set i (.own (ds.set j d))) | none => .bad) := id rfl
@[simp] theorem ev_sPutL : sPutL i f g ρ = exB ρ (f ρ) fun d => lkPL ρ i d (g ρ) ρ[i]? := by
  unfold sPutL lkPL
  congr 1
def lkE (ρ : Env) (i : Nat) (r : R D) : Option SV → Out
  | some (.own ds) => exB ρ r fun d => match d with
    | .list es => if ds.length + es.length ≤ 100000 then .nx (ρ.set i (.own (ds ++ es))) else .bad
    | _ => .bad
  | _ => .bad
@[simp] theorem lkE_l {ds es : List D} : lkE ρ i (.ok (.list es)) (some (.own ds)) = if ds.length + es.length ≤ 100000 then .nx (ρ.set i (.own (ds ++ es))) else .bad := id rfl
@[simp] theorem ev_sExt : sExt i f ρ = lkE ρ i (f ρ) ρ[i]? := by
  unfold sExt lkE
  generalize ρ[i]? = x
  cases x with
  | none => rfl
  | some sv =>
    cases sv <;> first
      | rfl
      | (congr 1; funext d; cases d <;> rfl)
@[simp] theorem ev_cMt {m : D → List D → Option D} : cMt m f q ρ = (f ρ).bind fun a => if lstB a = true then (q ρ).bind fun as => ofO (m a as) else .bad := id rfl
@[simp] theorem lstB_l {xs : List D} : lstB (.list xs) = true := id rfl
@[simp] theorem ev_cGet2 : cGet2 f g h ρ = (f ρ).bind fun a => (ofO (dctK a)).bind fun ks => (g ρ).bind fun b => (h ρ).bind fun d => (ofO (keyD b)).bind fun k => .ok ((getK ks k).getD d) := id rfl
@[simp] theorem dctK_d {ks : List (Key × D)} : dctK (dcD ks) = some ks := dctK_dcD ks
@[simp] theorem keyD_i {n : Int} : keyD (.int n) = some (.inl n) := id rfl
@[simp] theorem ev_asDic : asDic ρ = .ok (.dic []) := id rfl
def lkG (ρ : Env) (i : Nat) (o : D → D → Option D) (r : R D) : R D → Out
  | .ok a => exB ρ r fun b => match o a b with
    | some c => .nx (ρ.set i (.val c))
    | none => .bad
  | _ => .bad
@[simp] theorem ev_sAug : sAug i o f ρ = lkG ρ i o (f ρ) (lkV ρ[i]?) := id rfl
@[simp] theorem lkG_ok {a : D} {r : R D} : lkG ρ i o r (.ok a) = exB ρ r fun b => match o a b with | some c => .nx (ρ.set i (.val c)) | none => .bad := id rfl
@[simp] theorem ev_sFor {it : Env → R (List D)} {s : D → Env → Option Env} : sFor it s b ρ = exB ρ (it ρ) fun ds => forLoop s b ds ρ := id rfl
@[simp] theorem ev_sWhile : sWhile t b ρ = whileLoop t b FUEL ρ := id rfl
@[simp] theorem toR_nx : toR (.nx ρ) = .ok .none := id rfl
@[simp] theorem toR_rt {d : D} : toR (.rt d) = .ok d := id rfl
@[simp] theorem toR_ex {x : Exc} : toR (.ex x ρ) = .exc x := id rfl
@[simp] theorem toR_bad : toR .bad = .bad := id rfl
@[simp] theorem toR_ite {p : Prop} [Decidable p] {x y : Out} : toR (if p then x else y) = if p then toR x else toR y := by split <;> rfl
end
/-! operators on data of known kind -/
section
variable {i j : Int} {x y : Str} {xs ys : List D} {a b : D}
@[simp] theorem oAdd_ii : oAdd (.int i) (.int j) = some (.int (i + j)) := id rfl
@[simp] theorem oAdd_ss : oAdd (.str x) (.str y) = if x.length + y.length ≤ 100000 then some (.str (x ++ y)) else none := id rfl
@[simp] theorem oAdd_tt : oAdd (.tuple xs) (.tuple ys) = if xs.length + ys.length ≤ 100000 then some (.tuple (xs ++ ys)) else none := id rfl
@[simp] theorem oAdd_ll : oAdd (.list xs) (.list ys) = if xs.length + ys.length ≤ 100000 then some (.list (xs ++ ys)) else none := id rfl
@[simp] theorem oAugAdd_ii : oAugAdd (.int i) (.int j) = some (.int (i + j)) := id rfl
@[simp] theorem oSub_ii : oSub (.int i) (.int j) = some (.int (i - j)) := id rfl
@[simp] theorem oMul_ii : oMul1 (.int i) (.int j) = if CMul i j then some (.int (i * j)) else none := id rfl
@[simp] theorem oMul_li : oMul1 (.list xs) (.int j) = if 0 ≤ j ∧ j ≤ 100000 ∧ xs.length * j.toNat ≤ 100000 then some (.list (List.replicate j.toNat xs).flatten) else none := id rfl
@[simp] theorem oMul_ti : oMul1 (.tuple xs) (.int j) = if xs ≠ [] ∧ 2 ≤ j ∧ j ≤ 1000 ∧ xs.length ≤ 1000 then some (.tuple (List.replicate j.toNat xs).flatten) else none := id rfl
@[simp] theorem oMod_ii : oMod (.int i) (.int j) = if 0 < j then some (.int (i % j)) else none := id rfl
@[simp] theorem oDiv_ii : oDiv (.int i) (.int j) = if CDivW i j then some (.int (i / j)) else none := id rfl
@[simp] theorem oPow_ii : oPow (.int i) (.int j) = if CPow i j then some (.int (i ^ j.toNat)) else none := id rfl
@[simp] theorem oLt_ii : oLt (.int i) (.int j) = some (.bool (decide (i < j))) := id rfl
@[simp] theorem oLe_ii : oLe (.int i) (.int j) = some (.bool (decide (i ≤ j))) := id rfl
@[simp] theorem oGt_ii : oGt (.int i) (.int j) = some (.bool (decide (j < i))) := id rfl
@[simp] theorem oGe_ii : oGe (.int i) (.int j) = some (.bool (decide (j ≤ i))) := id rfl
@[simp] theorem oNeg_i : oNeg (.int i) = some (.int (-i)) := id rfl
@[simp] theorem oIs_n : oIs a .none = some (.bool (isNone a)) := id rfl
@[simp] theorem oIsNot_n : oIsNot a .none = some (.bool (!isNone a)) := id rfl
@[simp] theorem oIx_l : oIx (.list xs) (.int i) = atI xs i := id rfl
@[simp] theorem oIx_t : oIx (.tuple xs) (.int i) = atI xs i := id rfl
@[simp] theorem oIxA_l : oIxA (.list xs) (.int i) = atI xs i := id rfl
@[simp] theorem oIxA_t : oIxA (.tuple xs) (.int i) = atI xs i := id rfl
@[simp] theorem oIxA_d {ks : List (Key × D)} : oIxA (dcD ks) (.int i) = getK ks (.inl i) := by
  show oDGet (dcD ks) (.int i) = _
  unfold oDGet
  rw [dctK_dcD] <;> rfl
@[simp] theorem bSorted_i {ns : List Int} : bSortedA [.list (ns.map PyData.int)] = some (.list ((srt ns).map .int)) := by
  simp [bSortedA, bSorted, intsD_map]
@[simp] theorem bMax1_i {n : Int} {ns : List Int} : bMax1 [.list (.int n :: ns.map PyData.int)] = some (.int (top n ns)) := by simp [bMax1, intsD, intsD_map]
@[simp] theorem bMin1_i {n : Int} {ns : List Int} : bMin1 [.list (.int n :: ns.map PyData.int)] = some (.int (low n ns)) := by simp [bMin1, intsD, intsD_map]
@[simp] theorem oSl_l {l u : Option Int} : oSl (.list xs) l u = some (.list (cut xs l u)) := id rfl
@[simp] theorem oSl_t {l u : Option Int} : oSl (.tuple xs) l u = some (.tuple (cut xs l u)) := id rfl
@[simp] theorem truB_b {k : Bool} : truB (.bool k) = some k := id rfl
@[simp] theorem intD_i : intD (.int i) = some i := id rfl
@[simp] theorem items_l : itemsD (.list xs) = some xs := id rfl
@[simp] theorem items_t : itemsD (.tuple xs) = some xs := id rfl
@[simp] theorem bLen_l : bLen [.list xs] = some (.int xs.length) := id rfl
@[simp] theorem bLen_t : bLen [.tuple xs] = some (.int xs.length) := id rfl
@[simp] theorem bAbs_i : bAbs [.int i] = some (.int (if i < 0 then -i else i)) := id rfl
@[simp] theorem bMax2_i : bMax2 [.int i, .int j] = some (.int (if j > i then j else i)) := id rfl
@[simp] theorem bMin2_i : bMin2 [.int i, .int j] = some (.int (if j < i then j else i)) := id rfl
@[simp] theorem bInt_i : bInt [.int i] = some (.int i) := id rfl
@[simp] theorem bTuple_l : bTuple [.list xs] = some (.tuple xs) := id rfl
@[simp] theorem bTuple_t : bTuple [.tuple xs] = some (.tuple xs) := id rfl
@[simp] theorem bList_l : bList [.list xs] = some (.list xs) := id rfl
@[simp] theorem bList_t : bList [.tuple xs] = some (.list xs) := id rfl
@[simp] theorem bAll_b {bs : List Bool} : bAll [.list (bs.map PyData.bool)] = some (.bool (bs.all id)) := by simp [bAll, blsD_map]
@[simp] theorem bAny_b {bs : List Bool} : bAny [.list (bs.map PyData.bool)] = some (.bool (bs.any id)) := by simp [bAny, blsD_map]
@[simp] theorem bSum_i {ns : List Int} : bSum [.list (ns.map PyData.int)] = some (.int ns.sum) := by simp [bSum, intsD_map]
@[simp] theorem range1_i : range1D [.int i] = if -1000000 < i ∧ i < 1000000 then some (rangeD 0 i.toNat) else none := id rfl
@[simp] theorem zip2_l : zip2D [.list xs, .list ys] = some (zipD xs ys) := id rfl
@[simp] theorem zip2_t : zip2D [.tuple xs, .tuple ys] = some (zipD xs ys) := id rfl
@[simp] theorem enum1_l : enum1D [.list xs] = some (enumD 0 xs) := id rfl
theorem cmul_l (h : -18446744073709551616 < i ∧ i < 18446744073709551616) : CMul i j := .inl (by omega)
theorem cmul_r (h : -18446744073709551616 < j ∧ j < 18446744073709551616) : CMul i j := .inr (by omega)
theorem cdivw (h : 0 < j ∧ j < 18446744073709551616) : CDivW i j := wide_div (b := 64) h.1 (by omega) (by decide) (by decide)
end

def tryO (ns : List Str) (cl : List ClD) : Out → Out
  | .ex x ρ => if ns.contains x.cls = true then handle cl x ρ else .bad
  | o => o
@[simp] theorem ev_sTry {ns : List Str} {g : Env → Out} {cl : List ClD} {ρ : Env} : sTry ns g cl ρ = tryO ns cl (g ρ) := id rfl
@[simp] theorem tryO_nx {ns : List Str} {cl : List ClD} {ρ : Env} : tryO ns cl (.nx ρ) = .nx ρ := id rfl
@[simp] theorem tryO_rt {ns : List Str} {cl : List ClD} {d : D} : tryO ns cl (.rt d) = .rt d := id rfl
@[simp] theorem tryO_ex {ns : List Str} {cl : List ClD} {x : Exc} {ρ : Env} : tryO ns cl (.ex x ρ) = if ns.contains x.cls = true then handle cl x ρ else .bad := id rfl
@[simp] theorem handle_nil {x : Exc} {ρ : Env} : handle [] x ρ = .ex x ρ := id rfl
@[simp] theorem handle_cons {sub : List Str} {o : Option Nat} {s : Exc → Env → Out} {r : List ClD} {x : Exc} {ρ : Env} : handle ((sub, o, s) :: r) x ρ = if sub.contains x.cls = true then noXO (s x ρ) else handle r x ρ := id rfl
@[simp] theorem noXO_rt {d : D} : noXO (.rt d) = .rt d := id rfl
@[simp] theorem noXO_nx {ρ : Env} : noXO (.nx ρ) = .nx ρ := id rfl
@[simp] theorem noXO_ct {ρ : Env} : noXO (.ct ρ) = .ct ρ := id rfl
@[simp] theorem ev_xRet {i : Nat} {f : Exc → Env → R D} {x : Exc} {ρ : Env} : xRet i f x ρ = if i < ρ.length then exB ρ (f x (ρ.set i .no)) fun d => .rt d else .bad := id rfl
@[simp] theorem ev_xIf {t : Exc → Env → R Bool} {f g : Exc → Env → R D} {x : Exc} {ρ : Env} : xIf t f g x ρ = (t x ρ).bind fun b => if b = true then f x ρ else g x ρ := id rfl
@[simp] theorem ev_xIs {ns sub : List Str} {x : Exc} {ρ : Env} : xIs ns sub x ρ = if ns.contains x.cls = true ∧ x.args = [] then .ok (sub.contains x.cls) else .bad := id rfl
@[simp] theorem ev_xIsV {ns sub : List Str} {x : Exc} {ρ : Env} : xIsV ns sub x ρ = if ns.contains x.cls = true ∧ x.args = [] then .ok (.bool (sub.contains x.cls)) else .bad := id rfl

/-! ### loops -/
theorem for_nil {s : D → Env → Option Env} {b : Env → Out} {ρ : Env} : forLoop s b [] ρ = .nx ρ := rfl
theorem for_eq {s : D → Env → Option Env} {b : Env → Out} {ρ : Env} {d : D} {ds : List D} : forLoop s b (d :: ds) ρ = (match s d ρ with
    | none => .bad
    | some ρ1 => match b ρ1 with
      | .nx ρ2 => forLoop s b ds ρ2
      | .ct ρ2 => forLoop s b ds ρ2
      | .bk ρ2 => .nx ρ2
      | o => o) := rfl
theorem for_cons {s : D → Env → Option Env} {b : Env → Out} {ρ ρ1 ρ2 : Env} {d : D} {ds : List D} (h : s d ρ = some ρ1) (h2 : b ρ1 = .nx ρ2) : forLoop s b (d :: ds) ρ = forLoop s b ds ρ2 := by simp only [for_eq, h, h2]
theorem for_cont {s : D → Env → Option Env} {b : Env → Out} {ρ ρ1 ρ2 : Env} {d : D} {ds : List D} (h : s d ρ = some ρ1) (h2 : b ρ1 = .ct ρ2) : forLoop s b (d :: ds) ρ = forLoop s b ds ρ2 := by simp only [for_eq, h, h2]
theorem for_ret {s : D → Env → Option Env} {b : Env → Out} {ρ ρ1 : Env} {d x : D} {ds : List D} (h : s d ρ = some ρ1) (h2 : b ρ1 = .rt x) : forLoop s b (d :: ds) ρ = .rt x := by simp only [for_eq, h, h2]
theorem for_brk {s : D → Env → Option Env} {b : Env → Out} {ρ ρ1 ρ2 : Env} {d : D} {ds : List D} (h : s d ρ = some ρ1) (h2 : b ρ1 = .bk ρ2) : forLoop s b (d :: ds) ρ = .nx ρ2 := by simp only [for_eq, h, h2]
/-- a loop whose turns all go on, by an invariant over what is left -/
theorem for_inv {s : D → Env → Option Env} {b : Env → Out} (I : List D → Env → Prop) : ∀ (ds : List D) (ρ : Env), I ds ρ → (∀ d r ρ, I (d :: r) ρ → ∃ ρ1 ρ2, s d ρ = some ρ1 ∧ (b ρ1 = .nx ρ2 ∨ b ρ1 = .ct ρ2) ∧ I r ρ2) → ∃ ρ', forLoop s b ds ρ = .nx ρ' ∧ I [] ρ'
  | [], ρ, h, _ => ⟨ρ, rfl, h⟩
  | d :: r, ρ, h, st => by
    obtain ⟨ρ1, ρ2, h1, h2, h3⟩ := st d r ρ h
    obtain ⟨ρ', h4, h5⟩ := for_inv I r ρ2 h3 st
    refine ⟨ρ', ?_, h5⟩
    rcases h2 with h2 | h2
    · rw [for_cons h1 h2, h4]
    · rw [for_cont h1 h2, h4]
theorem while_eq {t : Env → R Bool} {b : Env → Out} {ρ : Env} {n : Nat} : whileLoop t b (n + 1) ρ = exB ρ (t ρ) fun k => if k = true then (match b ρ with
      | .nx ρ2 => whileLoop t b n ρ2
      | .ct ρ2 => whileLoop t b n ρ2
      | .bk ρ2 => .nx ρ2
      | o => o) else .nx ρ := rfl
theorem while_stop {t : Env → R Bool} {b : Env → Out} {ρ : Env} {n : Nat} (h : t ρ = .ok false) : whileLoop t b (n + 1) ρ = .nx ρ := by simp [while_eq, h]
theorem while_go {t : Env → R Bool} {b : Env → Out} {ρ ρ' : Env} {n : Nat} (h : t ρ = .ok true) (h2 : b ρ = .nx ρ') : whileLoop t b (n + 1) ρ = whileLoop t b n ρ' := by simp [while_eq, h, h2]
/-- a comprehension without tests whose element is told -/
theorem lc_map {s : D → Env → Option Env} {t : Env → R Bool} {el : Env → R D} {ρ : Env} {φ : D → D} : ∀ (ds : List D), (∀ d ∈ ds, ∃ ρ', s d ρ = some ρ' ∧ t ρ' = .ok true ∧ el ρ' = .ok (φ d)) → lcGo s t el ρ ds = .ok (ds.map φ)
  | [], _ => rfl
  | d :: ds, h => by
    obtain ⟨ρ', h1, h2, h3⟩ := h d List.mem_cons_self
    unfold lcGo
    rw [h1]
    simp only [ofO_someS, bind_okS, h2, if_true, h3]
    rw [lc_map ds fun x hx => h x (.tail _ hx)]
    rfl
/-- .. with tests -/
theorem lc_filter {s : D → Env → Option Env} {t : Env → R Bool} {el : Env → R D} {ρ : Env} {φ : D → D} {p : D → Bool} : ∀ (ds : List D), (∀ d ∈ ds, ∃ ρ', s d ρ = some ρ' ∧ t ρ' = .ok (p d) ∧ (p d = true → el ρ' = .ok (φ d))) → lcGo s t el ρ ds = .ok ((ds.filter p).map φ)
  | [], _ => rfl
  | d :: ds, h => by
    obtain ⟨ρ', h1, h2, h3⟩ := h d List.mem_cons_self
    unfold lcGo
    rw [h1]
    simp only [ofO_someS, bind_okS, h2]
    rw [lc_filter ds fun x hx => h x (.tail _ hx)]
    cases hp : p d with
    | true =>
      simp only [if_true, h3 hp, List.filter_cons_of_pos hp, bind_okS, List.map_cons]
    | false =>
      rw [if_neg Bool.false_ne_true, List.filter_cons_of_neg (by rw [hp]; exact Bool.false_ne_true)]
@[simp] theorem lcGo_nil {s : D → Env → Option Env} {t : Env → R Bool} {el : Env → R D} {ρ : Env} : lcGo s t el ρ [] = .ok [] := id rfl
theorem lcGo_cons {s : D → Env → Option Env} {t : Env → R Bool} {el : Env → R D} {ρ : Env} {d : D} {ds : List D} : lcGo s t el ρ (d :: ds) = (ofO (s d ρ)).bind fun ρ' => (t ρ').bind fun b => if b = true then (el ρ').bind fun y => (lcGo s t el ρ ds).bind fun ys => .ok (y :: ys) else lcGo s t el ρ ds := rfl
/-! ### shapes of data, for == -/
structure Sh (n : Nat) (d : D) : Prop where
  lay : d.canLay0 = true
  dep : d.depth ≤ n
theorem Sh.ok {n : Nat} {d : D} (h : Sh n d) (hn : n ≤ 64 := by decide) : SeqAt.shaped d = true := by
  unfold SeqAt.shaped
  rw [h.lay, decide_eq_true (Nat.le_trans h.dep hn)]
  rfl
theorem Sh.mono {n m : Nat} {d : D} (h : Sh n d) (k : n ≤ m) : Sh m d := ⟨h.lay, Nat.le_trans h.dep k⟩
theorem sh_int {n : Nat} {i : Int} : Sh n (.int i) := ⟨by simp [PyData.canLay0], by simp [PyData.depth]⟩
theorem sh_bool {n : Nat} {i : Bool} : Sh n (.bool i) := ⟨by simp [PyData.canLay0], by simp [PyData.depth]⟩
theorem sh_none {n : Nat} : Sh n .none := ⟨by simp [PyData.canLay0], by simp [PyData.depth]⟩
theorem sh_all {n : Nat} : ∀ {ds : List D}, (∀ d ∈ ds, Sh n d) → PyData.canLayAll0 ds = true ∧ PyData.depthAll ds ≤ n
  | [], _ => ⟨by simp [PyData.canLayAll0], by simp [PyData.depthAll]⟩
  | d :: ds, h => by
    obtain ⟨a, b⟩ := sh_all (ds := ds) fun x hx => h x (.tail _ hx)
    have c := h d List.mem_cons_self
    exact ⟨by simp [PyData.canLayAll0, a, c.lay], by simp only [PyData.depthAll]; have := c.dep; omega⟩
theorem sh_tup {n : Nat} {ds : List D} (h : ∀ d ∈ ds, Sh n d) : Sh (n + 1) (.tuple ds) := by
  obtain ⟨a, b⟩ := sh_all h
  exact ⟨by simpa [PyData.canLay0] using a, by simp only [PyData.depth]; omega⟩
theorem sh_lst {n : Nat} {ds : List D} (h : ∀ d ∈ ds, Sh n d) : Sh (n + 1) (.list ds) := by
  obtain ⟨a, b⟩ := sh_all h
  exact ⟨by simpa [PyData.canLay0] using a, by simp only [PyData.depth]; omega⟩
theorem oEq_of {a b : D} {n m : Nat} (h : Sh n a) (k : Sh m b) (hn : n ≤ 64 := by decide) (hm : m ≤ 64 := by decide) : oEq a b = some (.bool (PyData.eqv a b)) := by
  unfold oEq
  rw [if_pos ⟨h.ok hn, k.ok hm⟩]
theorem oNe_of {a b : D} {n m : Nat} (h : Sh n a) (k : Sh m b) (hn : n ≤ 64 := by decide) (hm : m ≤ 64 := by decide) : oNe a b = some (.bool (!PyData.eqv a b)) := by
  unfold oNe
  rw [if_pos ⟨h.ok hn, k.ok hm⟩]
mutual
theorem eqv_same : ∀ d : D, d.canLay0 = true → PyData.eqv d d = true
  | .none, _ => by simp only [PyData.eqv]
  | .bool k, _ => by simp only [PyData.eqv, beq_self_eq_true]
  | .int k, _ => by simp only [PyData.eqv, beq_self_eq_true]
  | .str s, _ => by simp [PyData.eqv]
  | .list xs, h => by simp only [PyData.eqv]; exact eqvs_same xs (by simpa [PyData.canLay0] using h)
  | .tuple xs, h => by simp only [PyData.eqv]; exact eqvs_same xs (by simpa [PyData.canLay0] using h)
  | .dict kvs, h => by simp [PyData.canLay0] at h
theorem eqvs_same : ∀ ds : List D, PyData.canLayAll0 ds = true → PyData.eqvAll ds ds = true
  | [], _ => by simp only [PyData.eqvAll]
  | d :: ds, h => by
    have h' : d.canLay0 = true ∧ PyData.canLayAll0 ds = true := by simpa [PyData.canLayAll0] using h
    simp only [PyData.eqvAll, eqv_same d h'.1, eqvs_same ds h'.2, Bool.and_self]
end
theorem oEq_same {a : D} {n : Nat} (h : Sh n a) (hn : n ≤ 64 := by decide) : oEq a a = some (.bool true) := by rw [oEq_of h h hn hn, eqv_same a h.lay]
theorem oNe_same {a : D} {n : Nat} (h : Sh n a) (hn : n ≤ 64 := by decide) : oNe a a = some (.bool false) := by rw [oNe_of h h hn hn, eqv_same a h.lay]; rfl
@[simp] theorem oEq_ii {i j : Int} : oEq (.int i) (.int j) = some (.bool (decide (i = j))) := by
  rw [oEq_of (n := 0) (m := 0) sh_int sh_int]
  simp only [PyData.eqv]
  congr 2
@[simp] theorem oNe_ii {i j : Int} : oNe (.int i) (.int j) = some (.bool (!decide (i = j))) := by
  rw [oNe_of (n := 0) (m := 0) sh_int sh_int]
  simp only [PyData.eqv]
  congr 2
end DL

/-! MD -/
namespace DL.Dr
open PySem L2
def b2_dr : Env → Out := (sIf (cTest (cOp oLt (cBt bLen (aCons (cBor 2) aNil)) (cBor 1))) (sSeq (sAsg 3 (asVal (cOp oMod (cBt bInt (aCons (cOp oAdd (cOp oAdd (cOp oMul1 (cBor 3) (cC (.int 69621))) (cBor 6)) (cC (.int 1))) aNil)) (cC (.int 2147483647)))))
  (sApp 2 (cOp oMod (cOp oDiv (cBt bInt (aCons (cBor 3) aNil)) (cC (.int 7))) (cC (.int 65521))))) sNx)
def b1_dr : Env → Out := (sIf (cTest (cOp oGt (cBor 5) (cC (.int 0)))) (sSeq (sApp 2 (cOp oMod (cBt bInt (aCons (cBor 5) aNil)) (cC (.int 1009))))
  (sAsg 5 (asVal (cOp oDiv (cBor 5) (cC (.int 1009)))))) sNx)
def b0_dr : Env → Out := (sSeq (sAsg 5 (asVal (cBt bAbs (aCons (cBor 4) aNil))))
  (sSeq (sAsg 3 (asVal (cOp oMod (cBt bInt (aCons (cOp oAdd (cOp oAdd (cOp oMul1 (cBor 3) (cC (.int 48271))) (cBor 5)) (cC (.int 11))) aNil)) (cC (.int 2147483647)))))
  (sIf (cTest (cOp oGe (cBor 5) (cOp oPow (cC (.int 10)) (cC (.int 18))))) (sFor (cIt range1D (aCons (cC (.int 60)) aNil)) (sName 6) b1_dr) (sApp 2 (cOp oMod (cOp oDiv (cBt bInt (aCons (cOp oAdd (cOp oMul1 (cBor 3) (cC (.int 16807))) (cC (.int 5))) aNil)) (cC (.int 3))) (cC (.int 65521)))))))
def c_dr : Env → Out := (sSeq (sAsg 2 (asOwn (cLst aNil)))
  (sSeq (sAsg 3 (asVal (cC (.int 7))))
  (sSeq (sFor (cItems (cSl (cBor 0) pNone (pSome (cC (.int 63))))) (sName 4) b0_dr)
  (sSeq (sFor (cIt range1D (aCons (cVar 1) aNil)) (sName 6) b2_dr)
  (sRet (cSl (cBor 2) pNone (pSome (cVar 1))))))))
def f_dr : List D → R D := semOf 7 2 c_dr
/-- draws: so many, each from 0 to less than 65521 -/
def InR (l : List Int) : Prop := ∀ d ∈ l, 0 ≤ d ∧ d < 65521
theorem InR.app {l : List Int} {x : Int} (h : InR l) (hx : 0 ≤ x ∧ x < 65521) : InR (l ++ [x]) := fun d hd => by
  rcases List.mem_append.mp hd with z | z
  · exact h d z
  · rw [List.mem_singleton.mp z]; exact hx
theorem pow18 : (10 : Int) ^ (18 : Int).toNat = 1000000000000000000 := by decide
theorem cpow18 : CPow 10 18 := by decide
theorem b1_ok (s m : D) (acc : List Int) (x3 x4 x6 : SV) (n : Int) (hn : 0 ≤ n) (hl : acc.length < 99999) : ∃ acc' n', b1_dr [.val s, .val m, .own (acc.map .int), x3, x4, .val (.int n), x6] = .nx [.val s, .val m, .own (acc'.map .int), x3, x4, .val (.int n'), x6] ∧
    0 ≤ n' ∧ acc'.length ≤ acc.length + 1 ∧ (InR acc → InR acc') := by
  by_cases h : 0 < n
  · refine ⟨acc ++ [n % 1009], n / 1009, ?_, by omega, by simp, fun q => q.app (by omega)⟩
    simp [b1_dr, h, hl, show acc.length < 100000 by omega, cdivw (i := n) (j := 1009) (by omega)]
  · refine ⟨acc, n, ?_, hn, by omega, id⟩
    simp [b1_dr, h]
theorem set_at {α : Type} (a b c d e f g x : α) : [a, b, c, d, e, f, g].set 6 x = [a, b, c, d, e, f, x] := rfl
/-- the inner loop -/
theorem loop1 (s m : D) (x3 x4 : SV) : ∀ (l : List D) (acc : List Int) (n : Int) (x6 : SV), 0 ≤ n → acc.length + l.length < 99999 → ∃ acc' n' x6', forLoop (sName 6) b1_dr l [.val s, .val m, .own (acc.map .int), x3, x4, .val (.int n), x6] =
    .nx [.val s, .val m, .own (acc'.map .int), x3, x4, .val (.int n'), x6'] ∧ acc'.length ≤ acc.length + l.length ∧ (InR acc → InR acc')
  | [], acc, n, x6, _, _ => ⟨acc, n, x6, rfl, by simp, id⟩
  | d :: l, acc, n, x6, hn, hl => by
    simp only [List.length_cons] at hl
    obtain ⟨a1, n1, e1, h1, h2, h3⟩ := b1_ok s m acc x3 x4 (.val d) n hn (by omega)
    obtain ⟨a2, n2, y, e2, h4, h5⟩ := loop1 s m x3 x4 l a1 n1 (.val d) h1 (by omega)
    refine ⟨a2, n2, y, ?_, by simp; omega, fun q => h5 (h3 q)⟩
    rw [for_cons rfl e1, e2]
theorem b0_ok (s m : D) (acc : List Int) (sd c : Int) (x5 x6 : SV) (hs : 0 ≤ sd ∧ sd < 2147483647) (hl : acc.length < 99900) : ∃ acc' sd' x5' x6', b0_dr [.val s, .val m, .own (acc.map .int), .val (.int sd), .val (.int c), x5, x6] =
    .nx [.val s, .val m, .own (acc'.map .int), .val (.int sd'), .val (.int c), x5', x6'] ∧ (0 ≤ sd' ∧ sd' < 2147483647) ∧ acc'.length ≤ acc.length + 60 ∧ (InR acc → InR acc') := by
  generalize hab : (if c < 0 then -c else c) = n
  have hn : 0 ≤ n := by split at hab <;> omega
  have hsd : 0 ≤ (sd * 48271 + n + 11) % 2147483647 ∧ (sd * 48271 + n + 11) % 2147483647 < 2147483647 := by omega
  generalize hs2 : (sd * 48271 + n + 11) % 2147483647 = s2 at hsd
  by_cases hb : 1000000000000000000 ≤ n
  · obtain ⟨a1, n1, y, e1, h1, h2⟩ := loop1 s m (.val (.int s2)) (.val (.int c)) (rangeD 0 60) acc n x6 hn (by rw [rangeD_len]; omega)
    refine ⟨a1, s2, .val (.int n1), y, ?_, hsd, by rw [rangeD_len] at h1; exact h1, h2⟩
    simp [b0_dr, hab, cmul_l (i := sd) (j := 48271) (by omega), hs2, cpow18, hb, e1]
  · refine ⟨acc ++ [(s2 * 16807 + 5) / 3 % 65521], s2, .val (.int n), x6, ?_, hsd, by simp, fun q => q.app (by omega)⟩
    simp [b0_dr, hab, cmul_l (i := sd) (j := 48271) (by omega), cmul_l (i := s2) (j := 16807) (by omega), hs2, cpow18, hb, show acc.length < 100000 by omega, cdivw (i := s2 * 16807 + 5) (j := 3) (by omega)]
theorem loop0 (s m : D) : ∀ (l : List Int) (acc : List Int) (sd : Int) (x4 x5 x6 : SV), (0 ≤ sd ∧ sd < 2147483647) → acc.length + 60 * l.length < 99900 → ∃ acc' sd' x4' x5' x6', forLoop (sName 4) b0_dr (l.map .int) [.val s, .val m, .own (acc.map .int), .val (.int sd), x4, x5, x6] =
    .nx [.val s, .val m, .own (acc'.map .int), .val (.int sd'), x4', x5', x6'] ∧ (0 ≤ sd' ∧ sd' < 2147483647) ∧ acc'.length ≤ acc.length + 60 * l.length ∧ (InR acc → InR acc')
  | [], acc, sd, x4, x5, x6, hs, _ => ⟨acc, sd, x4, x5, x6, rfl, hs, by simp, id⟩
  | c :: l, acc, sd, x4, x5, x6, hs, hl => by
    simp only [List.length_cons] at hl
    obtain ⟨a1, s1, y5, y6, e1, h1, h2, h3⟩ := b0_ok s m acc sd c x5 x6 hs (by omega)
    obtain ⟨a2, s2, z4, z5, z6, e2, h4, h5, h6⟩ := loop0 s m l a1 s1 (.val (.int c)) y5 y6 h1 (by omega)
    refine ⟨a2, s2, z4, z5, z6, ?_, h4, by simp; omega, fun q => h6 (h3 q)⟩
    rw [List.map_cons, for_cons rfl e1, e2]
theorem b2_ok (s : D) (m : Int) (acc : List Int) (sd k : Int) (x4 x5 : SV) (hs : 0 ≤ sd ∧ sd < 2147483647) (hk : 0 ≤ k) (hl : acc.length < 99900) : ∃ acc' sd', b2_dr [.val s, .val (.int m), .own (acc.map .int), .val (.int sd), x4, x5, .val (.int k)] =
    .nx [.val s, .val (.int m), .own (acc'.map .int), .val (.int sd'), x4, x5, .val (.int k)] ∧ (0 ≤ sd' ∧ sd' < 2147483647) ∧ acc'.length ≤ acc.length + 1 ∧ ((acc.length : Int) < m → acc'.length = acc.length + 1) ∧ (m ≤ acc.length → acc' = acc) ∧ (InR acc → InR acc') := by
  have hsd : 0 ≤ (sd * 69621 + k + 1) % 2147483647 ∧ (sd * 69621 + k + 1) % 2147483647 < 2147483647 := by omega
  generalize hs2 : (sd * 69621 + k + 1) % 2147483647 = s2 at hsd
  by_cases hb : (acc.length : Int) < m
  · refine ⟨acc ++ [s2 / 7 % 65521], s2, ?_, hsd, by simp, fun _ => by simp, fun _ => by omega, fun q => q.app (by omega)⟩
    simp [b2_dr, hb, cmul_l (i := sd) (j := 69621) (by omega), hs2, show acc.length < 100000 by omega, cdivw (i := s2) (j := 7) (by omega)]
  · refine ⟨acc, sd, ?_, hs, by omega, fun q => absurd q hb, fun _ => rfl, id⟩
    simp [b2_dr, hb]
theorem loop2 (s : D) (m : Int) (x4 x5 : SV) : ∀ (l : List Nat) (acc : List Int) (sd : Int) (x6 : SV), (0 ≤ sd ∧ sd < 2147483647) → acc.length + l.length < 99900 → ∃ acc' sd' x6', forLoop (sName 6) b2_dr (l.map fun i => .int (0 + (i : Nat))) [.val s, .val (.int m), .own (acc.map .int), .val (.int sd), x4, x5, x6] =
    .nx [.val s, .val (.int m), .own (acc'.map .int), .val (.int sd'), x4, x5, x6'] ∧ (m ≤ acc.length + l.length → m ≤ acc'.length) ∧ acc'.length ≤ acc.length + l.length ∧ (InR acc → InR acc')
  | [], acc, sd, x6, hs, _ => ⟨acc, sd, x6, rfl, by simp, by simp, id⟩
  | c :: l, acc, sd, x6, hs, hl => by
    simp only [List.length_cons] at hl
    obtain ⟨a1, s1, e1, h1, h2, h3, h3', h4⟩ := b2_ok s m acc sd (0 + (c : Nat)) x4 x5 hs (by omega) (by omega)
    obtain ⟨a2, s2, z6, e2, h5, h6, h7⟩ := loop2 s m x4 x5 l a1 s1 (.val (.int (0 + (c : Nat)))) h1 (by omega)
    refine ⟨a2, s2, z6, ?_, ?_, by simp; omega, fun q => h7 (h4 q)⟩
    · rw [List.map_cons, for_cons rfl e1, e2]
    · intro q
      simp only [List.length_cons] at q
      by_cases hb : (acc.length : Int) < m
      · exact h5 (by have := h3 hb; omega)
      · have := h3' (by omega)
        subst this
        exact h5 (by omega)
theorem cut_most {α : Type} (l : List α) (n : Nat) : cut l none (some (n : Int)) = l.take n := by
  unfold cut
  rw [HT.sIx_none, HT.sIx_nat, List.drop_zero, Nat.sub_zero]
  rcases Nat.le_total n l.length with h | h
  · rw [Nat.min_eq_left h]
  · rw [Nat.min_eq_right h, List.take_of_length_le h, List.take_length]
theorem oSl_scr (ns : List Int) (l u : Option Int) : oSl (scrD ns) l u = some (.list (cut (ns.map PyData.int) l u)) := by
  have g : isScr (ns.map fun n => (PyData.int n, PyData.none)) = true := by cases ns <;> rfl
  show (if isScr (ns.map fun n => (PyData.int n, PyData.none)) = true then some (PyData.list (cut ((ns.map fun n => (PyData.int n, PyData.none)).map (fun p => p.1)) l u)) else none) = _
  rw [if_pos g, fst_ints]
/-- the draws of a script -/
theorem draws (ns : List Int) (h : ns.length ≤ 63) (m : Nat) (hm : m ≤ 1000) : ∃ ds : List Int, f_dr [scrD ns, .int m] = .ok (.list (ds.map .int)) ∧ ds.length = m ∧ InR ds := by
  obtain ⟨a1, s1, y4, y5, y6, e1, h1, h2, h3⟩ := loop0 (scrD ns) (.int m) ((ns.take 63)) [] 7 .no .no .no (by omega) (by simp; omega)
  obtain ⟨a2, s2, y6', e2, h4, h5, h6⟩ := loop2 (scrD ns) m y4 y5 (List.range m) a1 s1 y6 h1 (by simp at h2 ⊢; omega)
  have hlen : m ≤ a2.length := by simp at h4; omega
  refine ⟨a2.take m, ?_, by simp; omega, fun d hd => h6 (h3 fun _ z => by cases z) d (List.mem_of_mem_take hd)⟩
  have e1' : forLoop (sName 4) b0_dr (List.take 63 (ns.map PyData.int)) [.val (scrD ns), .val (.int (m : Int)), .own [], .val (.int 7), .no, .no, .no] = .nx [.val (scrD ns), .val (.int (m : Int)), .own (a1.map .int), .val (.int s1), y4, y5, y6] := by
    rw [← List.map_take]; exact e1
  have e2' : forLoop (sName 6) b2_dr (rangeD 0 m) [.val (scrD ns), .val (.int (m : Int)), .own (a1.map .int), .val (.int s1), y4, y5, y6] = .nx [.val (scrD ns), .val (.int (m : Int)), .own (a2.map .int), .val (.int s2), y4, y5, y6'] := e2
  have st : f_dr [scrD ns, .int m] = toR (c_dr [.val (scrD ns), .val (.int m), .no, .no, .no, .no, .no]) := rfl
  rw [st]
  have q1 : cut (ns.map PyData.int) none (some 63) = List.take 63 (ns.map PyData.int) := cut_most _ 63
  have q2 : cut (a2.map PyData.int) none (some (m : Int)) = (a2.map PyData.int).take m := cut_most _ m
  simp [c_dr, oSl_scr, q1, e1', show (-1000000 < (m : Int) ∧ (m : Int) < 1000000) by omega, e2', q2]
end DL.Dr

/-! MQ -/
namespace DL.Q
open PySem
/-! ### quotients in lowest terms -/
structure Low (x y : Int) : Prop where
  pos : 0 < y
  cop : x.gcd y = 1
theorem low_unique {x y u v : Int} (h : Low x y) (k : Low u v) (e : x * v = u * y) : x = u ∧ y = v := by
  have e' : x.natAbs * v.natAbs = u.natAbs * y.natAbs := by rw [← Int.natAbs_mul, ← Int.natAbs_mul, e]
  have hc : Nat.Coprime x.natAbs y.natAbs := h.cop
  have kc : Nat.Coprime u.natAbs v.natAbs := k.cop
  have d1 : y.natAbs ∣ v.natAbs := Nat.Coprime.dvd_of_dvd_mul_left hc.symm (show y.natAbs ∣ x.natAbs * v.natAbs from e' ▸ Nat.dvd_mul_left _ _)
  have d2 : v.natAbs ∣ y.natAbs := Nat.Coprime.dvd_of_dvd_mul_left kc.symm (show v.natAbs ∣ u.natAbs * y.natAbs from e' ▸ Nat.dvd_mul_left _ _)
  have ev : y.natAbs = v.natAbs := Nat.dvd_antisymm d1 d2
  have h1 := h.pos
  have h2 := k.pos
  have yv : y = v := by omega
  subst yv
  exact ⟨Int.eq_of_mul_eq_mul_right (by omega) e, rfl⟩
/-- the quotient up / down in lowest terms -/
def num (p q : Int) : Int := if 0 < q then p / p.gcd q else 0 - p / p.gcd q
def den (p q : Int) : Int := if 0 < q then q / p.gcd q else 0 - q / p.gcd q
theorem gcd_facts {p q : Int} (hq : q ≠ 0) : ∃ a b : Int, p = a * (p.gcd q : Int) ∧ q = b * (p.gcd q : Int) ∧ a.gcd b = 1 ∧ 0 < (p.gcd q : Int) ∧ p / (p.gcd q : Int) = a ∧ q / (p.gcd q : Int) = b := by
  have g0 : 0 < p.gcd q := Int.gcd_pos_of_ne_zero_right p hq
  have g0' : 0 < (p.gcd q : Int) := by omega
  refine ⟨p / (p.gcd q : Int), q / (p.gcd q : Int), (Int.ediv_mul_cancel (Int.gcd_dvd_left p q)).symm, (Int.ediv_mul_cancel (Int.gcd_dvd_right p q)).symm, ?_, g0', rfl, rfl⟩
  have c := Nat.coprime_div_gcd_div_gcd (m := p.natAbs) (n := q.natAbs) g0
  have e1 : (p / (p.gcd q : Int)).natAbs = p.natAbs / p.natAbs.gcd q.natAbs := by
    rw [Int.natAbs_ediv_of_dvd (Int.gcd_dvd_left p q)]; rfl
  have e2 : (q / (p.gcd q : Int)).natAbs = q.natAbs / p.natAbs.gcd q.natAbs := by
    rw [Int.natAbs_ediv_of_dvd (Int.gcd_dvd_right p q)]; rfl
  show (p / (p.gcd q : Int)).natAbs.gcd (q / (p.gcd q : Int)).natAbs = 1
  rw [e1, e2]
  exact c
theorem low_num {p q : Int} (hq : q ≠ 0) : Low (num p q) (den p q) ∧ num p q * q = p * den p q := by
  obtain ⟨a, b, ha, hb, hc, hg, ea, eb⟩ := gcd_facts (p := p) hq
  unfold num den
  rw [ea, eb]
  generalize (p.gcd q : Int) = g at *
  have pq : a * q = p * b := by rw [ha, hb]; simp only [Int.mul_assoc, Int.mul_comm, Int.mul_left_comm]
  by_cases h : 0 < q
  · rw [if_pos h, if_pos h]
    refine ⟨⟨?_, hc⟩, pq⟩
    rw [hb] at h
    exact Int.pos_of_mul_pos_left h hg
  · rw [if_neg h, if_neg h]
    refine ⟨⟨?_, ?_⟩, ?_⟩
    · have h' : 0 < -q := by omega
      have e : -q = (-b) * g := by rw [hb]; simp [Int.neg_mul]
      rw [e] at h'
      have := Int.pos_of_mul_pos_left h' hg
      omega
    · have e1 : (0 - a).gcd (0 - b) = a.gcd b := by simp
      rw [e1]; exact hc
    · rw [show (0 - a) * q = -(a * q) by simp [Int.neg_mul], show p * (0 - b) = -(p * b) by rw [Int.zero_sub, Int.mul_neg], pq]
/-- the data of a quotient -/
def fr (p q : Int) : D := .tuple [.int (num p q), .int (den p q)]
theorem num_eq {p q r s : Int} (hq : q ≠ 0) (hs : s ≠ 0) (e : p * s = r * q) : num p q = num r s ∧ den p q = den r s := by
  obtain ⟨l1, c1⟩ := low_num (p := p) hq
  obtain ⟨l2, c2⟩ := low_num (p := r) hs
  refine low_unique l1 l2 ?_
  -- n1 * q = p * d1, n2 * s = r * d2
  have : (num p q * den r s) * (q * s) = (num r s * den p q) * (q * s) := by
    calc (num p q * den r s) * (q * s) = (num p q * q) * (den r s * s) := by simp only [Int.mul_assoc, Int.mul_comm, Int.mul_left_comm]
      _ = (p * den p q) * (den r s * s) := by rw [c1]
      _ = (p * s) * (den p q * den r s) := by simp only [Int.mul_assoc, Int.mul_comm, Int.mul_left_comm]
      _ = (r * q) * (den p q * den r s) := by rw [e]
      _ = (r * den r s) * (den p q * q) := by simp only [Int.mul_assoc, Int.mul_comm, Int.mul_left_comm]
      _ = (num r s * s) * (den p q * q) := by rw [c2]
      _ = (num r s * den p q) * (q * s) := by simp only [Int.mul_assoc, Int.mul_comm, Int.mul_left_comm]
  exact Int.eq_of_mul_eq_mul_right (Int.mul_ne_zero hq hs) this
theorem fr_eq {p q r s : Int} (hq : q ≠ 0) (hs : s ≠ 0) (e : p * s = r * q) : fr p q = fr r s := by
  unfold fr
  obtain ⟨e1, e2⟩ := num_eq hq hs e
  rw [e1, e2]
theorem num_iff {p q r s : Int} (hq : q ≠ 0) (hs : s ≠ 0) (h1 : num p q = num r s) (h2 : den p q = den r s) : p * s = r * q := by
  obtain ⟨l1, c1⟩ := low_num (p := p) hq
  obtain ⟨l2, c2⟩ := low_num (p := r) hs
  have d := l1.pos
  rw [h1, h2] at c1
  rw [h2] at d
  have : (p * s) * den r s = (r * q) * den r s := by
    calc (p * s) * den r s = (p * den r s) * s := by simp only [Int.mul_assoc, Int.mul_comm, Int.mul_left_comm]
      _ = (num r s * q) * s := by rw [c1]
      _ = (num r s * s) * q := by simp only [Int.mul_assoc, Int.mul_comm, Int.mul_left_comm]
      _ = (r * den r s) * q := by rw [c2]
      _ = (r * q) * den r s := by simp only [Int.mul_assoc, Int.mul_comm, Int.mul_left_comm]
  exact Int.eq_of_mul_eq_mul_right (by omega) this
/-- what is in lowest terms stays -/
theorem num_low {x y : Int} (h : Low x y) : num x y = x ∧ den x y = y := by
  have := h.pos
  unfold num den
  rw [if_pos this, if_pos this, h.cop]
  simp
theorem fr_low {x y : Int} (h : Low x y) : fr x y = .tuple [.int x, .int y] := by
  unfold fr
  obtain ⟨a, b⟩ := num_low h
  rw [a, b]
/-- sizes -/
theorem num_le {p q : Int} (hq : 0 < q) (hp : 0 < p) : 0 < num p q ∧ num p q ≤ p ∧ 0 < den p q ∧ den p q ≤ q := by
  obtain ⟨a, b, ha, hb, hc, hg, ea, eb⟩ := gcd_facts (p := p) (q := q) (by omega)
  unfold num den
  rw [if_pos hq, if_pos hq, ea, eb]
  generalize (p.gcd q : Int) = g at *
  have a0 : 0 < a := Int.pos_of_mul_pos_left (by rw [← ha]; exact hp) hg
  have b0 : 0 < b := Int.pos_of_mul_pos_left (by rw [← hb]; exact hq) hg
  have one : ∀ z : Int, 0 < z → z ≤ z * g := fun z hz => by
    have := Int.mul_le_mul_of_nonneg_left (show (1 : Int) ≤ g by omega) (show 0 ≤ z by omega)
    omega
  exact ⟨a0, by have := one a a0; omega, b0, by have := one b b0; omega⟩
theorem num_abs {p q : Int} (hq : q ≠ 0) : (num p q).natAbs ≤ p.natAbs ∧ (den p q).natAbs ≤ q.natAbs := by
  obtain ⟨a, b, ha, hb, hc, hg, ea, eb⟩ := gcd_facts (p := p) (q := q) hq
  unfold num den
  rw [ea, eb]
  generalize (p.gcd q : Int) = g at *
  have one : ∀ z : Int, z.natAbs ≤ (z * g).natAbs := fun z => by
    rw [Int.natAbs_mul]
    exact Nat.le_mul_of_pos_right _ (by omega)
  have h1 := one a
  have h2 := one b
  rw [← ha] at h1
  rw [← hb] at h2
  split <;> omega
/-- small enough for products -/
structure Sm (p q : Int) : Prop where
  q0 : 0 < q
  n : (num p q).natAbs < 2147483648
  d : (den p q).natAbs < 2147483648
theorem sm {p q : Int} (hq : 0 < q) (h1 : p.natAbs < 2147483648) (h2 : q < 2147483648) : Sm p q := by
  obtain ⟨a, b⟩ := num_abs (p := p) (q := q) (by omega)
  exact ⟨hq, by omega, by omega⟩
theorem Sm.c {p q : Int} (h : Sm p q) : num p q * q = p * den p q ∧ 0 < den p q := by
  obtain ⟨l, c⟩ := low_num (p := p) (q := q) (by have := h.q0; omega)
  exact ⟨c, l.pos⟩
theorem mul_lt {a b : Int} (ha : a.natAbs < 2147483648) (hb : b.natAbs < 2147483648) : (a * b).natAbs < 4611686018427387905 := by
  rw [Int.natAbs_mul]
  exact Nat.lt_of_le_of_lt (Nat.mul_le_mul (Nat.le_of_lt_succ (show a.natAbs < 2147483648 from ha)) (Nat.le_of_lt_succ (show b.natAbs < 2147483648 from hb))) (by decide)
theorem sm_cm {a b : Int} (ha : a.natAbs < 2147483648) : L2.CMul a b := cmul_l (by omega)
theorem x_mul {a b c d : Int} (h : Sm a b) (k : Sm c d) : fr (num a b * num c d) (den a b * den c d) = fr (a * c) (b * d) ∧ 0 < den a b * den c d ∧ (den a b * den c d).natAbs < 9000000000000000000 := by
  obtain ⟨c1, p1⟩ := h.c
  obtain ⟨c2, p2⟩ := k.c
  have hp := Int.mul_pos p1 p2
  have hb := Int.mul_pos h.q0 k.q0
  refine ⟨fr_eq (by omega) (by omega) ?_, hp, by have := mul_lt h.d k.d; omega⟩
  calc num a b * num c d * (b * d) = (num a b * b) * (num c d * d) := by simp only [Int.mul_assoc, Int.mul_comm, Int.mul_left_comm]
    _ = (a * den a b) * (c * den c d) := by rw [c1, c2]
    _ = a * c * (den a b * den c d) := by simp only [Int.mul_assoc, Int.mul_comm, Int.mul_left_comm]
theorem x_div {a b c d : Int} (h : Sm a b) (k : Sm c d) (hc : 0 < c) : fr (num a b * den c d) (den a b * num c d) = fr (a * d) (b * c) ∧ 0 < den a b * num c d ∧ (den a b * num c d).natAbs < 9000000000000000000 := by
  obtain ⟨c1, p1⟩ := h.c
  obtain ⟨c2, p2⟩ := k.c
  have p3 : 0 < num c d := by
    have : 0 < num c d * d := by rw [c2]; exact Int.mul_pos hc p2
    exact Int.pos_of_mul_pos_left this k.q0
  have hp := Int.mul_pos p1 p3
  have hb := Int.mul_pos h.q0 hc
  refine ⟨fr_eq (by omega) (by omega) ?_, hp, by have := mul_lt h.d k.n; omega⟩
  calc num a b * den c d * (b * c) = (num a b * b) * (c * den c d) := by simp only [Int.mul_assoc, Int.mul_comm, Int.mul_left_comm]
    _ = (a * den a b) * (num c d * d) := by rw [c1, c2]
    _ = a * d * (den a b * num c d) := by simp only [Int.mul_assoc, Int.mul_comm, Int.mul_left_comm]
theorem x_add {a b c d : Int} (h : Sm a b) (k : Sm c d) : fr (num a b * den c d + num c d * den a b) (den a b * den c d) = fr (a * d + c * b) (b * d) ∧ 0 < den a b * den c d ∧ (den a b * den c d).natAbs < 9000000000000000000 := by
  obtain ⟨c1, p1⟩ := h.c
  obtain ⟨c2, p2⟩ := k.c
  have hp := Int.mul_pos p1 p2
  have hb := Int.mul_pos h.q0 k.q0
  refine ⟨fr_eq (by omega) (by omega) ?_, hp, by have := mul_lt h.d k.d; omega⟩
  calc (num a b * den c d + num c d * den a b) * (b * d) = (num a b * b) * (den c d * d) + (num c d * d) * (den a b * b) := by (simp only [Int.add_mul, Int.mul_add, Int.mul_assoc, Int.mul_comm, Int.mul_left_comm])
    _ = (a * den a b) * (den c d * d) + (c * den c d) * (den a b * b) := by rw [c1, c2]
    _ = (a * d + c * b) * (den a b * den c d) := by (simp only [Int.add_mul, Int.mul_add, Int.mul_assoc, Int.mul_comm, Int.mul_left_comm])
theorem x_sub {a b c d : Int} (h : Sm a b) (k : Sm c d) : fr (num a b * den c d - num c d * den a b) (den a b * den c d) = fr (a * d - c * b) (b * d) ∧ 0 < den a b * den c d ∧ (den a b * den c d).natAbs < 9000000000000000000 := by
  obtain ⟨c1, p1⟩ := h.c
  obtain ⟨c2, p2⟩ := k.c
  have hp := Int.mul_pos p1 p2
  have hb := Int.mul_pos h.q0 k.q0
  refine ⟨fr_eq (by omega) (by omega) ?_, hp, by have := mul_lt h.d k.d; omega⟩
  calc (num a b * den c d - num c d * den a b) * (b * d) = (num a b * b) * (den c d * d) - (num c d * d) * (den a b * b) := by (simp only [Int.sub_mul, Int.mul_sub, Int.mul_assoc, Int.mul_comm, Int.mul_left_comm])
    _ = (a * den a b) * (den c d * d) - (c * den c d) * (den a b * b) := by rw [c1, c2]
    _ = (a * d - c * b) * (den a b * den c d) := by (simp only [Int.sub_mul, Int.mul_sub, Int.mul_assoc, Int.mul_comm, Int.mul_left_comm])
/-- which of two is less -/
theorem x_lt {a b c d : Int} (h : Sm a b) (k : Sm c d) : num a b * den c d < num c d * den a b ↔ a * d < c * b := by
  obtain ⟨c1, p1⟩ := h.c
  obtain ⟨c2, p2⟩ := k.c
  have hp := Int.mul_pos p1 p2
  have hb := Int.mul_pos h.q0 k.q0
  have e1 : (num a b * den c d) * (b * d) = (a * d) * (den a b * den c d) := by
    calc (num a b * den c d) * (b * d) = (num a b * b) * (den c d * d) := by simp only [Int.mul_assoc, Int.mul_comm, Int.mul_left_comm]
      _ = (a * den a b) * (den c d * d) := by rw [c1]
      _ = (a * d) * (den a b * den c d) := by simp only [Int.mul_assoc, Int.mul_comm, Int.mul_left_comm]
  have e2 : (num c d * den a b) * (b * d) = (c * b) * (den a b * den c d) := by
    calc (num c d * den a b) * (b * d) = (num c d * d) * (den a b * b) := by simp only [Int.mul_assoc, Int.mul_comm, Int.mul_left_comm]
      _ = (c * den c d) * (den a b * b) := by rw [c2]
      _ = (c * b) * (den a b * den c d) := by simp only [Int.mul_assoc, Int.mul_comm, Int.mul_left_comm]
  constructor
  · intro q
    have := Int.mul_lt_mul_of_pos_right q hb
    rw [e1, e2] at this
    exact Int.lt_of_mul_lt_mul_right this (Int.le_of_lt hp)
  · intro q
    have := Int.mul_lt_mul_of_pos_right q hp
    rw [← e1, ← e2] at this
    exact Int.lt_of_mul_lt_mul_right this (Int.le_of_lt hb)
/-! the loop of Euclid -/
theorem euclid {t : Env → R Bool} {b : Env → Out} {E : Nat → Nat → Env} (ht : ∀ x y, t (E x y) = .ok (decide (0 < y))) (hb : ∀ x y, 0 < y → b (E x y) = .nx (E y (x % y))) : ∀ (n : Nat) (x y : Nat), y < n → whileLoop t b n (E x y) = .nx (E (Nat.gcd x y) 0)
  | 0, x, y, h => by omega
  | n + 1, x, y, h => by
    by_cases hy : 0 < y
    · rw [while_go (by rw [ht, decide_eq_true hy]) (hb x y hy)]
      have := Nat.mod_lt x hy
      rw [euclid ht hb n y (x % y) (by omega), Nat.gcd_comm x y, Nat.gcd_rec y x]
      rw [Nat.gcd_comm]
    · have : y = 0 := by omega
      subst this
      rw [while_stop (by rw [ht]; rfl), Nat.gcd_zero_right]
end DL.Q

/-! MR -/
namespace DL.Q
open PySem L2
def c_is_whole : Env → Out := (sRet (cAndV (cIs isIntD (cBor 0)) (cAndV (cNotV (cIs isBoolD (cBor 0))) (cChain oLe oLe (cBor 1) (cBor 0) (cBor 2)))))
def f_is_whole : List D → R D := semOf 3 3 c_is_whole
def b0_divisor : Env → Out := (sPar 0 1 (asVal (cVar 1)) (asVal (cOp oMod (cBor 0) (cBor 1))))
def c_divisor : Env → Out := (sSeq (sPar 0 1 (asVal (cBt bAbs (aCons (cBor 0) aNil))) (asVal (cBt bAbs (aCons (cBor 1) aNil))))
  (sSeq (sWhile (cTest (cOp oGt (cBor 1) (cC (.int 0)))) b0_divisor)
  (sRet (cVar 0))))
def f_divisor : List D → R D := semOf 2 2 c_divisor
def c_ratio : Env → Out := (sSeq (sAsg 2 (asVal (cCall f_divisor (aCons (cVar 0) (aCons (cVar 1) aNil)))))
  (sRet (cIf (cTest (cOp oGt (cBor 1) (cC (.int 0)))) (cTup (aCons (cOp oDiv (cBor 0) (cBor 2)) (aCons (cOp oDiv (cBor 1) (cBor 2)) aNil))) (cTup (aCons (cOp oSub (cC (.int 0)) (cOp oDiv (cBor 0) (cBor 2))) (aCons (cOp oSub (cC (.int 0)) (cOp oDiv (cBor 1) (cBor 2))) aNil))))))
def f_ratio : List D → R D := semOf 3 2 c_ratio
def c_plus : Env → Out := (sRet (cCall f_ratio (aCons (cOp oAdd (cOp oMul1 (cOp oIxA (cBor 0) (cC (.int 0))) (cOp oIxA (cBor 1) (cC (.int 1)))) (cOp oMul1 (cOp oIxA (cBor 1) (cC (.int 0))) (cOp oIxA (cBor 0) (cC (.int 1))))) (aCons (cOp oMul1 (cOp oIxA (cBor 0) (cC (.int 1))) (cOp oIxA (cBor 1) (cC (.int 1)))) aNil))))
def f_plus : List D → R D := semOf 2 2 c_plus
def c_minus : Env → Out := (sRet (cCall f_ratio (aCons (cOp oSub (cOp oMul1 (cOp oIxA (cBor 0) (cC (.int 0))) (cOp oIxA (cBor 1) (cC (.int 1)))) (cOp oMul1 (cOp oIxA (cBor 1) (cC (.int 0))) (cOp oIxA (cBor 0) (cC (.int 1))))) (aCons (cOp oMul1 (cOp oIxA (cBor 0) (cC (.int 1))) (cOp oIxA (cBor 1) (cC (.int 1)))) aNil))))
def f_minus : List D → R D := semOf 2 2 c_minus
def c_times : Env → Out := (sRet (cCall f_ratio (aCons (cOp oMul1 (cOp oIxA (cBor 0) (cC (.int 0))) (cOp oIxA (cBor 1) (cC (.int 0)))) (aCons (cOp oMul1 (cOp oIxA (cBor 0) (cC (.int 1))) (cOp oIxA (cBor 1) (cC (.int 1)))) aNil))))
def f_times : List D → R D := semOf 2 2 c_times
def c_over : Env → Out := (sRet (cCall f_ratio (aCons (cOp oMul1 (cOp oIxA (cBor 0) (cC (.int 0))) (cOp oIxA (cBor 1) (cC (.int 1)))) (aCons (cOp oMul1 (cOp oIxA (cBor 0) (cC (.int 1))) (cOp oIxA (cBor 1) (cC (.int 0)))) aNil))))
def f_over : List D → R D := semOf 2 2 c_over
def c_is_less : Env → Out := (sRet (cOp oLt (cOp oMul1 (cOp oIxA (cBor 0) (cC (.int 0))) (cOp oIxA (cBor 1) (cC (.int 1)))) (cOp oMul1 (cOp oIxA (cBor 1) (cC (.int 0))) (cOp oIxA (cBor 0) (cC (.int 1))))))
def f_is_less : List D → R D := semOf 2 2 c_is_less
def c_is_ratio : Env → Out := (sSeq (sIf (cOr (cNot (cTest (cIs isTupleD (cBor 0)))) (cTest (cOp oNe (cBt bLen (aCons (cBor 0) aNil)) (cC (.int 2))))) (sRet (cC (.bool false))) sNx)
  (sSeq (sIf (cNot (cTest (cBt bAll (aCons (asList (cLc (cItems (cBor 0)) (sName 1) cYes (cAndV (cIs isIntD (cBor 1)) (cNotV (cIs isBoolD (cBor 1)))) [1])) aNil)))) (sRet (cC (.bool false))) sNx)
  (sRet (cAndV (cOp oGt (cOp oIxA (cBor 0) (cC (.int 1))) (cC (.int 0))) (cOp oEq (cCall f_divisor (aCons (cOp oIxA (cBor 0) (cC (.int 0))) (aCons (cOp oIxA (cBor 0) (cC (.int 1))) aNil))) (cC (.int 1)))))))
def f_is_ratio : List D → R D := semOf 2 1 c_is_ratio
def c_is_small : Env → Out := (sRet (cAndV (cCall f_is_ratio (aCons (cVar 0) aNil)) (cAndV (cCall f_is_whole (aCons (cOp oIxA (cBor 0) (cC (.int 0))) (aCons (cOp oSub (cC (.int 0)) (cC (.int 1000000))) (aCons (cC (.int 1000000)) aNil)))) (cOp oLe (cOp oIxA (cBor 0) (cC (.int 1))) (cC (.int 1000000))))))
def f_is_small : List D → R D := semOf 1 1 c_is_small
def b0__law_plain : Env → Out := (sPar 2 3 (asVal (cVar 3)) (asVal (cOp oMod (cBt bInt (aCons (cBor 2) aNil)) (cBor 3))))
def c__law_plain : Env → Out := (sSeq (sPar 2 3 (asVal (cBt bMax2 (aCons (cBor 0) (aCons (cOp oSub (cC (.int 0)) (cBor 0)) aNil)))) (asVal (cBt bMax2 (aCons (cBor 1) (aCons (cOp oSub (cC (.int 0)) (cBor 1)) aNil)))))
  (sSeq (sWhile (cTest (cOp oGt (cBor 3) (cC (.int 0)))) b0__law_plain)
  (sRet (cIf (cTest (cOp oGt (cBor 1) (cC (.int 0)))) (cTup (aCons (cOp oDiv (cBor 0) (cBor 2)) (aCons (cOp oDiv (cBor 1) (cBor 2)) aNil))) (cTup (aCons (cOp oSub (cC (.int 0)) (cOp oDiv (cBor 0) (cBor 2))) (aCons (cOp oSub (cC (.int 0)) (cOp oDiv (cBor 1) (cBor 2))) aNil)))))))
def f__law_plain : List D → R D := semOf 4 2 c__law_plain
def c__law_plus : Env → Out := (sRet (cCall f__law_plain (aCons (cOp oAdd (cOp oMul1 (cOp oIxA (cBor 0) (cC (.int 0))) (cOp oIxA (cBor 1) (cC (.int 1)))) (cOp oMul1 (cOp oIxA (cBor 1) (cC (.int 0))) (cOp oIxA (cBor 0) (cC (.int 1))))) (aCons (cOp oMul1 (cOp oIxA (cBor 0) (cC (.int 1))) (cOp oIxA (cBor 1) (cC (.int 1)))) aNil))))
def f__law_plus : List D → R D := semOf 2 2 c__law_plus
def c__law_minus : Env → Out := (sRet (cCall f__law_plain (aCons (cOp oSub (cOp oMul1 (cOp oIxA (cBor 0) (cC (.int 0))) (cOp oIxA (cBor 1) (cC (.int 1)))) (cOp oMul1 (cOp oIxA (cBor 1) (cC (.int 0))) (cOp oIxA (cBor 0) (cC (.int 1))))) (aCons (cOp oMul1 (cOp oIxA (cBor 0) (cC (.int 1))) (cOp oIxA (cBor 1) (cC (.int 1)))) aNil))))
def f__law_minus : List D → R D := semOf 2 2 c__law_minus
def c__law_by : Env → Out := (sRet (cCall f__law_plain (aCons (cOp oMul1 (cOp oIxA (cBor 0) (cC (.int 0))) (cOp oIxA (cBor 1) (cC (.int 0)))) (aCons (cOp oMul1 (cOp oIxA (cBor 0) (cC (.int 1))) (cOp oIxA (cBor 1) (cC (.int 1)))) aNil))))
def f__law_by : List D → R D := semOf 2 2 c__law_by
def c__law_over : Env → Out := (sRet (cCall f__law_plain (aCons (cOp oMul1 (cOp oIxA (cBor 0) (cC (.int 0))) (cOp oIxA (cBor 1) (cC (.int 1)))) (aCons (cOp oMul1 (cOp oIxA (cBor 0) (cC (.int 1))) (cOp oIxA (cBor 1) (cC (.int 0)))) aNil))))
def f__law_over : List D → R D := semOf 2 2 c__law_over
def c__law_less : Env → Out := (sRet (cOp oLt (cOp oMul1 (cOp oIxA (cBor 0) (cC (.int 0))) (cOp oIxA (cBor 1) (cC (.int 1)))) (cOp oMul1 (cOp oIxA (cBor 1) (cC (.int 0))) (cOp oIxA (cBor 0) (cC (.int 1))))))
def f__law_less : List D → R D := semOf 2 2 c__law_less
def c_ascends : Env → Out := (sRet (cBt bAll (aCons (asList (cLc (cIt zip2D (aCons (cBor 0) (aCons (cSl (cBor 0) (pSome (cC (.int 1))) pNone) aNil))) (sTup (sCons (sName 1) (sCons (sName 2) sNil))) cYes (cOp oLt (cBor 1) (cBor 2)) [1, 2])) aNil)))
def f_ascends : List D → R D := semOf 3 1 c_ascends
def c_is_post : Env → Out := (sSeq (sIf (cOr (cNot (cTest (cIs isTupleD (cBor 0)))) (cTest (cOp oNe (cBt bLen (aCons (cBor 0) aNil)) (cC (.int 2))))) (sRet (cC (.bool false))) sNx)
  (sRet (cAndV (cCall f_is_whole (aCons (cOp oIxA (cBor 0) (cC (.int 0))) (aCons (cC (.int 0)) (aCons (cC (.int 1000)) aNil)))) (cCall f_is_whole (aCons (cOp oIxA (cBor 0) (cC (.int 1))) (aCons (cC (.int 1)) (aCons (cC (.int 1000)) aNil)))))))
def f_is_post : List D → R D := semOf 1 1 c_is_post
def c_are_posts : Env → Out := (sSeq (sIf (cOr (cNot (cTest (cIs isTupleD (cBor 0)))) (cOr (cNot (cTest (cChain oLe oLe (cC (.int 1)) (cBt bLen (aCons (cBor 0) aNil)) (cC (.int 8))))) (cNot (cTest (cBt bAll (aCons (asList (cLc (cItems (cBor 0)) (sName 1) cYes (cCall f_is_post (aCons (cVar 1) aNil)) [1])) aNil)))))) (sRet (cC (.bool false))) sNx)
  (sRet (cCall f_ascends (aCons (asList (cLc (cItems (cBor 0)) (sName 1) cYes (cOp oIxA (cBor 1) (cC (.int 0))) [1])) aNil))))
def f_are_posts : List D → R D := semOf 2 1 c_are_posts
def b0__law_posts : Env → Out := (sSeq (sAsg 4 (asVal (cBt bInt (aCons (cOp oIxA (cBor 0) (cOp oAdd (cC (.int 1)) (cBor 3))) aNil))))
  (sPut 2 (cOp oAdd (cC (.int 1)) (cOp oMod (cOp oDiv (cBor 4) (cC (.int 32))) (cC (.int 20)))) (cOp oMod (cBor 4) (cC (.int 30)))))
def c__law_posts : Env → Out := (sSeq (sAsg 2 asDic)
  (sSeq (sFor (cIt range1D (aCons (cOp oAdd (cC (.int 1)) (cOp oMod (cBt bInt (aCons (cOp oIxA (cBor 0) (cC (.int 0))) aNil)) (cBor 1))) aNil)) (sName 3) b0__law_posts)
  (sRet (cBt bTuple (aCons (asList (cLc (cItems (cBt bSortedA (aCons (cBor 2) aNil))) (sName 5) cYes (cTup (aCons (cVar 5) (aCons (cOp oIxA (cBor 2) (cBor 5)) aNil))) [5])) aNil)))))
def f__law_posts : List D → R D := semOf 6 2 c__law_posts
def isW (d : D) (a b : Int) : Bool := match d with
  | .int i => decide (a ≤ i ∧ i ≤ b)
  | _ => false
theorem is_whole_ok (d : D) (a b : Int) : f_is_whole [d, .int a, .int b] = .ok (.bool (isW d a b)) := by
  cases d with
  | int i =>
    by_cases h : a ≤ i
    · simp [f_is_whole, semOf, c_is_whole, isIntD, isBoolD, isW, h]
    · simp [f_is_whole, semOf, c_is_whole, isIntD, isBoolD, isW, h]
  | _ => simp [f_is_whole, semOf, c_is_whole, isIntD, isBoolD, isW]
theorem absI (i : Int) : (if i < 0 then -i else i) = (i.natAbs : Int) := by split <;> omega
theorem divisor_ok (a b : Int) (hb : b.natAbs < FUEL) : f_divisor [.int a, .int b] = .ok (.int (a.gcd b)) := by
  have e := euclid (t := cTest (cOp oGt (cBor 1) (cC (.int 0)))) (b := b0_divisor) (E := fun x y => [.val (.int (x : Nat)), .val (.int (y : Nat))]) (fun x y => by simp) (fun x y hy => by
    simp [b0_divisor]
    omega) FUEL a.natAbs b.natAbs hb
  simp [f_divisor, semOf, c_divisor, absI, e]
  rfl
theorem ratio_ok (p q : Int) (hq : q ≠ 0) (hb : q.natAbs < 9000000000000000000) : f_ratio [.int p, .int q] = .ok (fr p q) := by
  have g0 : 0 < p.gcd q := Int.gcd_pos_of_ne_zero_right p hq
  have g1 : p.gcd q ≤ q.natAbs := Int.gcd_le_natAbs_right p hq
  have d := divisor_ok p q (by unfold FUEL; omega)
  have c1 : CDivW p (p.gcd q) := cdivw (by omega)
  have c2 : CDivW q (p.gcd q) := cdivw (by omega)
  by_cases h : 0 < q
  · simp [f_ratio, semOf, c_ratio, d, h, c1, c2, fr, num, den]
  · simp [f_ratio, semOf, c_ratio, d, h, c1, c2, fr, num, den]
theorem atI0 {α : Type} (x : α) (l : List α) : atI (x :: l) 0 = some x := atI_nat (j := 0) rfl
theorem atI1 {α : Type} (x y : α) (l : List α) : atI (x :: y :: l) 1 = some y := atI_nat (j := 1) rfl
theorem plain_ok (p q : Int) (hq : q ≠ 0) (hb : q.natAbs < 9000000000000000000) : f__law_plain [.int p, .int q] = .ok (fr p q) := by
  have g0 : 0 < p.gcd q := Int.gcd_pos_of_ne_zero_right p hq
  have g1 : p.gcd q ≤ q.natAbs := Int.gcd_le_natAbs_right p hq
  have c1 : CDivW p (p.gcd q) := cdivw (by omega)
  have c2 : CDivW q (p.gcd q) := cdivw (by omega)
  have m : ∀ i : Int, (if i < -i then -i else i) = (i.natAbs : Int) := fun i => by split <;> omega
  have e := euclid (t := cTest (cOp oGt (cBor 3) (cC (.int 0)))) (b := b0__law_plain) (E := fun x y => [.val (.int p), .val (.int q), .val (.int (x : Nat)), .val (.int (y : Nat))]) (fun x y => by simp) (fun x y hy => by
    simp [b0__law_plain]
    omega) FUEL p.natAbs q.natAbs (by unfold FUEL; omega)
  have e' : whileLoop (cTest (cOp oGt (cBor 3) (cC (.int 0)))) b0__law_plain FUEL [.val (.int p), .val (.int q), .val (.int (p.natAbs : Int)), .val (.int (q.natAbs : Int))] = .nx [.val (.int p), .val (.int q), .val (.int (p.gcd q : Int)), .val (.int 0)] := e
  by_cases h : 0 < q
  · simp only [f__law_plain, semOf, c__law_plain]
    simp [m, e', h, c1, c2, fr, num, den]
  · simp only [f__law_plain, semOf, c__law_plain]
    simp [m, e', h, c1, c2, fr, num, den]
theorem times_ok {a b c d : Int} (h : Sm a b) (k : Sm c d) : f_times [fr a b, fr c d] = .ok (fr (a * c) (b * d)) := by
  obtain ⟨e1, e2, e3⟩ := x_mul h k
  have r := ratio_ok (num a b * num c d) (den a b * den c d) (by omega) e3
  rw [e1] at r
  simp [f_times, semOf, c_times, fr, atI0, atI1, sm_cm h.n, sm_cm h.d, r]
theorem x_divS {a b c d : Int} (h : Sm a b) (k : Sm c d) (hc : c ≠ 0) : fr (num a b * den c d) (den a b * num c d) = fr (a * d) (b * c) ∧ den a b * num c d ≠ 0 ∧ (den a b * num c d).natAbs < 9000000000000000000 := by
  obtain ⟨c1, p1⟩ := h.c
  obtain ⟨c2, p2⟩ := k.c
  have p3 : num c d ≠ 0 := fun z => by
    rw [z, Int.zero_mul] at c2
    exact Int.mul_ne_zero hc (by omega) c2.symm
  have hb := h.q0
  refine ⟨fr_eq (Int.mul_ne_zero (by omega) p3) (Int.mul_ne_zero (by omega) hc) ?_, Int.mul_ne_zero (by omega) p3, by have := mul_lt h.d k.n; omega⟩
  calc num a b * den c d * (b * c) = (num a b * b) * (c * den c d) := by simp only [Int.mul_assoc, Int.mul_comm, Int.mul_left_comm]
    _ = (a * den a b) * (num c d * d) := by rw [c1, c2]
    _ = a * d * (den a b * num c d) := by simp only [Int.mul_assoc, Int.mul_comm, Int.mul_left_comm]
theorem over_ok {a b c d : Int} (h : Sm a b) (k : Sm c d) (hc : c ≠ 0) : f_over [fr a b, fr c d] = .ok (fr (a * d) (b * c)) := by
  obtain ⟨e1, e2, e3⟩ := x_divS h k hc
  have r := ratio_ok (num a b * den c d) (den a b * num c d) e2 e3
  rw [e1] at r
  simp [f_over, semOf, c_over, fr, atI0, atI1, sm_cm h.n, sm_cm h.d, r]
theorem minus_ok {a b c d : Int} (h : Sm a b) (k : Sm c d) : f_minus [fr a b, fr c d] = .ok (fr (a * d - c * b) (b * d)) := by
  obtain ⟨e1, e2, e3⟩ := x_sub h k
  have r := ratio_ok (num a b * den c d - num c d * den a b) (den a b * den c d) (by omega) e3
  rw [e1] at r
  simp [f_minus, semOf, c_minus, fr, atI0, atI1, sm_cm h.n, sm_cm h.d, sm_cm k.n, r]
theorem less_ok {a b c d : Int} (h : Sm a b) (k : Sm c d) : f_is_less [fr a b, fr c d] = .ok (.bool (decide (a * d < c * b))) := by
  have e := x_lt h k
  simp [f_is_less, semOf, c_is_less, fr, atI0, atI1, sm_cm h.n, sm_cm h.d, sm_cm k.n, e]
theorem plus_ok {a b c d : Int} (h : Sm a b) (k : Sm c d) : f_plus [fr a b, fr c d] = .ok (fr (a * d + c * b) (b * d)) := by
  obtain ⟨e1, e2, e3⟩ := x_add h k
  have r := ratio_ok (num a b * den c d + num c d * den a b) (den a b * den c d) (by omega) e3
  rw [e1] at r
  simp [f_plus, semOf, c_plus, fr, atI0, atI1, sm_cm h.n, sm_cm h.d, sm_cm k.n, r]
theorem lminus_ok {a b c d : Int} (h : Sm a b) (k : Sm c d) : f__law_minus [fr a b, fr c d] = .ok (fr (a * d - c * b) (b * d)) := by
  obtain ⟨e1, e2, e3⟩ := x_sub h k
  have r := plain_ok (num a b * den c d - num c d * den a b) (den a b * den c d) (by omega) e3
  rw [e1] at r
  simp [f__law_minus, semOf, c__law_minus, fr, atI0, atI1, sm_cm h.n, sm_cm h.d, sm_cm k.n, r]
theorem lless_ok {a b c d : Int} (h : Sm a b) (k : Sm c d) : f__law_less [fr a b, fr c d] = .ok (.bool (decide (a * d < c * b))) := by
  have e := x_lt h k
  simp [f__law_less, semOf, c__law_less, fr, atI0, atI1, sm_cm h.n, sm_cm h.d, sm_cm k.n, e]
theorem by_ok {a b c d : Int} (h : Sm a b) (k : Sm c d) : f__law_by [fr a b, fr c d] = .ok (fr (a * c) (b * d)) := by
  obtain ⟨e1, e2, e3⟩ := x_mul h k
  have r := plain_ok (num a b * num c d) (den a b * den c d) (by omega) e3
  rw [e1] at r
  simp [f__law_by, semOf, c__law_by, fr, atI0, atI1, sm_cm h.n, sm_cm h.d, r]
theorem lover_ok {a b c d : Int} (h : Sm a b) (k : Sm c d) (hc : c ≠ 0) : f__law_over [fr a b, fr c d] = .ok (fr (a * d) (b * c)) := by
  obtain ⟨e1, e2, e3⟩ := x_divS h k hc
  have r := plain_ok (num a b * den c d) (den a b * num c d) e2 e3
  rw [e1] at r
  simp [f__law_over, semOf, c__law_over, fr, atI0, atI1, sm_cm h.n, sm_cm h.d, r]
theorem lplus_ok {a b c d : Int} (h : Sm a b) (k : Sm c d) : f__law_plus [fr a b, fr c d] = .ok (fr (a * d + c * b) (b * d)) := by
  obtain ⟨e1, e2, e3⟩ := x_add h k
  have r := plain_ok (num a b * den c d + num c d * den a b) (den a b * den c d) (by omega) e3
  rw [e1] at r
  simp [f__law_plus, semOf, c__law_plus, fr, atI0, atI1, sm_cm h.n, sm_cm h.d, sm_cm k.n, r]
theorem sh_fr {n : Nat} (a b : Int) : Sh (n + 1) (fr a b) := sh_tup fun d hd => by
  simp only [List.mem_cons, List.not_mem_nil, or_false] at hd
  rcases hd with rfl | rfl <;> exact sh_int
theorem is_ratio_ok {x y : Int} (h : Low x y) (hb : y.natAbs < FUEL) : f_is_ratio [.tuple [.int x, .int y]] = .ok (.bool true) := by
  have d := divisor_ok x y hb
  rw [h.cop] at d
  have := h.pos
  simp [f_is_ratio, semOf, c_is_ratio, isTupleD, lcGo_cons, isIntD, isBoolD, wipeR, bAll, blsD, atI0, atI1, d, this]

theorem fr_one (h : Int) : fr h 1 = .tuple [.int h, .int 1] := fr_low ⟨by decide, by simp⟩
/-- equal as data: equal as quotients -/
theorem eqv_fr {p q r s : Int} (hq : q ≠ 0) (hs : s ≠ 0) : PyData.eqv (fr p q) (fr r s) = decide (p * s = r * q) := by
  have e : PyData.eqv (fr p q) (fr r s) = (decide (num p q = num r s) && decide (den p q = den r s)) := by
    simp [fr, PyData.eqv, PyData.eqvAll]
    rfl
  rw [e]
  by_cases h : p * s = r * q
  · obtain ⟨h1, h2⟩ := num_eq hq hs h
    simp [h1, h2, h]
  · rw [decide_eq_false h]
    by_cases h1 : num p q = num r s
    · by_cases h2 : den p q = den r s
      · exact absurd (num_iff hq hs h1 h2) h
      · simp [h2]
    · simp [h1]
theorem oEq_fr {p q r s : Int} (hq : q ≠ 0) (hs : s ≠ 0) : oEq (fr p q) (fr r s) = some (.bool (decide (p * s = r * q))) := by
  rw [oEq_of (sh_fr (n := 0) p q) (sh_fr (n := 0) r s), eqv_fr hq hs]
theorem oNe_fr {p q r s : Int} (hq : q ≠ 0) (hs : s ≠ 0) : oNe (fr p q) (fr r s) = some (.bool (!decide (p * s = r * q))) := by
  rw [oNe_of (sh_fr (n := 0) p q) (sh_fr (n := 0) r s), eqv_fr hq hs]
end DL.Q

/-! MT -/
namespace DL.Q
open PySem L2
/-! ### quotients as rationals -/
/-- a rational's data -/
def rd (r : Rat) : D := .tuple [.int r.num, .int (r.den : Nat)]
theorem rat_low (r : Rat) : Low r.num (r.den : Nat) := ⟨by have := r.den_pos; omega, by
  have h := r.reduced
  show r.num.natAbs.gcd (r.den : Int).natAbs = 1
  exact h⟩
theorem den_ne (r : Rat) : ((r.den : Int) : Rat) ≠ 0 := fun z => by
  have z2 : ((r.den : Int) : Rat) = ((0 : Int) : Rat) := z
  have z3 := Rat.intCast_inj.mp z2
  have := r.den_pos
  omega
theorem rat_mul_den (r : Rat) : r * (r.den : Int) = (r.num : Rat) := by
  have h := den_ne r
  have e : (r.num : Rat) / ((r.den : Int) : Rat) = r := by rw [← Rat.divInt_eq_div, Rat.num_divInt_den]
  generalize ((r.den : Int) : Rat) = d at h e ⊢
  generalize (r.num : Rat) = n at e ⊢
  rw [← e]
  grind
theorem fr_rd {p q : Int} (hq : q ≠ 0) : fr p q = rd ((p : Rat) / (q : Rat)) := by
  have hq' : (q : Rat) ≠ 0 := fun z => hq (Rat.intCast_inj.mp z)
  generalize hr : (p : Rat) / (q : Rat) = r
  have e : r * q = p := by rw [← hr]; grind
  have m := rat_mul_den r
  have d0 := r.den_pos
  have c : p * (r.den : Int) = r.num * q := by
    apply Rat.intCast_inj.mp
    rw [Rat.intCast_mul, Rat.intCast_mul]
    grind
  rw [fr_eq (r := r.num) (s := (r.den : Nat)) hq (by omega) c]
  exact fr_low (rat_low r)
theorem rd_fr (r : Rat) : rd r = fr r.num (r.den : Nat) := (fr_low (rat_low r)).symm
theorem rd_inj {a b : Rat} (h : rd a = rd b) : a = b := by
  simp only [rd, PyData.tuple.injEq, List.cons.injEq, PyData.int.injEq, and_true] at h
  exact Rat.ext h.1 (by omega)
theorem sh_rd {n : Nat} (r : Rat) : Sh (n + 1) (rd r) := sh_tup fun d hd => by
  simp only [List.not_mem_nil, List.mem_cons, or_false] at hd
  rcases hd with rfl | rfl <;> exact sh_int
theorem eqv_rd (a b : Rat) : PyData.eqv (rd a) (rd b) = decide (a = b) := by
  have e : PyData.eqv (rd a) (rd b) = (decide (a.num = b.num) && decide ((a.den : Int) = (b.den : Int))) := by
    simp [rd, PyData.eqv, PyData.eqvAll]
    rfl
  rw [e]
  by_cases h : a = b
  · subst h
    simp
  · rw [decide_eq_false h]
    by_cases h1 : a.num = b.num
    · by_cases h2 : (a.den : Int) = b.den
      · exact absurd (Rat.ext h1 (by omega)) h
      · simp [h2]
    · simp [h1]
theorem oEq_rd (a b : Rat) : oEq (rd a) (rd b) = some (.bool (decide (a = b))) := by rw [oEq_of (sh_rd (n := 0) a) (sh_rd (n := 0) b), eqv_rd]
theorem oNe_rd (a b : Rat) : oNe (rd a) (rd b) = some (.bool (!decide (a = b))) := by rw [oNe_of (sh_rd (n := 0) a) (sh_rd (n := 0) b), eqv_rd]
theorem rd_int (i : Int) : rd (i : Rat) = .tuple [.int i, .int 1] := by simp [rd]
/-! the functions, on rationals: denominators small -/
structure Dn (a : Rat) (n : Nat) : Prop where
  le : a.den ≤ n
theorem rd_num (a : Rat) : oIxA (rd a) (.int 0) = some (.int a.num) := rfl
theorem rd_den (a : Rat) : oIxA (rd a) (.int 1) = some (.int (a.den : Nat)) := rfl
theorem div_rd {p q : Int} {r : Rat} (hq : q ≠ 0) (h : (p : Rat) = r * (q : Rat)) : fr p q = rd r := by
  rw [fr_rd hq]
  have hq' : (q : Rat) ≠ 0 := fun z => hq (Rat.intCast_inj.mp z)
  congr 1
  rw [h]
  generalize (q : Rat) = x at hq'
  grind
theorem den_add_le (a b : Rat) : (a + b).den ≤ a.den * b.den := by
  rw [Rat.den_add]
  exact Nat.div_le_self _ _
theorem den_mul_le (a b : Rat) : (a * b).den ≤ a.den * b.den := by
  rw [Rat.den_mul]
  exact Nat.div_le_self _ _
theorem den_neg (a : Rat) : (-a).den = a.den := rfl
theorem den_sub_le (a b : Rat) : (a - b).den ≤ a.den * b.den := by
  have e : a - b = a + -b := by grind
  rw [e]
  exact den_add_le a (-b)
end DL.Q

/-! MP -/
namespace DL.Q
open PySem L2 DL.Dr
theorem cut_from {α : Type} (l : List α) (n : Nat) : cut l (some (n : Int)) none = l.drop n := by
  unfold cut
  rw [HT.sIx_none, HT.sIx_nat]
  rcases Nat.le_total n l.length with h | h
  · rw [Nat.min_eq_left h]
    exact List.take_of_length_le (by rw [List.length_drop]; exact Nat.le_refl _)
  · rw [Nat.min_eq_right h, Nat.sub_self, List.take_zero, List.drop_of_length_le h]
/-- a post: where, how high -/
def pd (x : Int × Int) : D := .tuple [.int x.1, .int x.2]
theorem asc_go (y0 : SV) : ∀ (l : List Int) (x : Int) (y1 y2 : SV), (x :: l).Pairwise (· < ·) → ∃ bs, lcGo (sTup (sCons (sName 1) (sCons (sName 2) sNil))) cYes (cOp oLt (cBor 1) (cBor 2)) [y0, y1, y2] (zipD ((x :: l).map .int) (l.map .int)) = .ok bs ∧ blsD bs = some (l.map fun _ => true)
  | [], x, y1, y2, _ => ⟨[], rfl, rfl⟩
  | z :: l, x, y1, y2, h => by
    obtain ⟨h1, h2⟩ := (List.pairwise_cons).mp h
    obtain ⟨bs, e, e2⟩ := asc_go y0 l z y1 y2 h2
    refine ⟨.bool true :: bs, ?_, by simp [blsD, e2]⟩
    have q := h1 z List.mem_cons_self
    rw [show zipD ((x :: z :: l).map PyData.int) ((z :: l).map PyData.int) = .tuple [.int x, .int z] :: zipD ((z :: l).map PyData.int) (l.map PyData.int) from rfl, lcGo_cons]
    generalize zipD ((z :: l).map PyData.int) (l.map PyData.int) = rr at e ⊢
    simp [q, e]
theorem ascends_ok (l : List Int) (h : l.Pairwise (· < ·)) (hn : l.length ≤ 1000) : f_ascends [.list (l.map .int)] = .ok (.bool true) := by
  have c : cut (l.map PyData.int) (some 1) none = (l.map PyData.int).drop 1 := cut_from _ 1
  match l, h with
  | [], _ =>
    simp [f_ascends, semOf, c_ascends, c, zipD, bAll, blsD]
  | x :: l, h =>
    obtain ⟨bs, e, e2⟩ := asc_go (.val (.list ((x :: l).map .int))) l x .no .no h
    have ea : bAll [.list bs] = some (.bool true) := by
      simp only [bAll, e2, Option.map_some]
      congr 2
      simp
    have zl : (zipD ((x :: l).map PyData.int) (l.map PyData.int)).length ≤ 100000 := by
      rw [zipD_len]
      simp at hn ⊢
      omega
    simp only [List.map_cons] at c e zl
    simp [f_ascends, semOf, c_ascends, c, wipeR]
    rw [if_pos zl, e]
    simp [ea]
structure Pst (P : List (Int × Int)) : Prop where
  n0 : 1 ≤ P.length
  n1 : P.length ≤ 8
  b : ∀ x ∈ P, 0 ≤ x.1 ∧ x.1 < 30 ∧ 1 ≤ x.2 ∧ x.2 ≤ 20
  up : (P.map (·.1)).Pairwise (· < ·)
theorem is_post_ok {x : Int × Int} (h : 0 ≤ x.1 ∧ x.1 ≤ 1000 ∧ 1 ≤ x.2 ∧ x.2 ≤ 1000) : f_is_post [pd x] = .ok (.bool true) := by
  have w1 := is_whole_ok (.int x.1) 0 1000
  have w2 := is_whole_ok (.int x.2) 1 1000
  have w1' : isW (.int x.1) 0 1000 = true := by simp [isW]; omega
  have w2' : isW (.int x.2) 1 1000 = true := by simp [isW]; omega
  simp [f_is_post, semOf, c_is_post, pd, isTupleD, atI0, atI1, w1, w2, w1', w2']
theorem are_posts_ok {P : List (Int × Int)} (h : Pst P) : f_are_posts [.tuple (P.map pd)] = .ok (.bool true) := by
  have n0 := h.n0
  have n1 := h.n1
  have q1 : lcGo (sName 1) cYes (cCall f_is_post (aCons (cVar 1) aNil)) [.val (.tuple (P.map pd)), .no] (P.map pd) = .ok ((P.map pd).map fun _ => .bool true) := by
    refine lc_map _ fun d hd => ?_
    obtain ⟨x, hx, rfl⟩ := List.mem_map.mp hd
    have b := h.b x hx
    exact ⟨_, rfl, rfl, by simp [is_post_ok (x := x) ⟨b.1, by omega, b.2.2.1, by omega⟩]⟩
  have e1 : (P.map pd).map (fun _ => PyData.bool true) = (P.map fun _ => true).map PyData.bool := by simp
  rw [e1] at q1
  have q2 : ∀ l : List (Int × Int), lcGo (sName 1) cYes (cOp oIxA (cBor 1) (cC (.int 0))) [.val (.tuple (P.map pd)), .no] (l.map pd) = .ok ((l.map (·.1)).map PyData.int) := by
    intro l
    induction l with
    | nil => rfl
    | cons x l ih =>
      rw [List.map_cons, lcGo_cons]
      simp [pd, atI0]
      rw [ih]
      simp
  have q3 := q2 P
  have as := ascends_ok (P.map (·.1)) h.up (by rw [List.length_map]; omega)
  have ea : bAll [.list ((P.map fun _ => true).map PyData.bool)] = some (.bool true) := by rw [bAll_b]; simp
  have n2 : (1 : Int) ≤ (P.length : Nat) := by omega
  have n3 : ((P.length : Nat) : Int) ≤ 8 := by omega
  have n4 : P.length ≤ 100000 := by omega
  generalize hP : P.map pd = PD at q1 q3 ⊢
  have ln : PD.length = P.length := by rw [← hP]; simp
  generalize (P.map fun _ => true).map PyData.bool = bs at q1 ea
  generalize (P.map (·.1)).map PyData.int = ns at q3 as
  simp [f_are_posts, semOf, c_are_posts, isTupleD, ln, n2, n3, n4, wipeR, q1, q3, ea, as]
theorem up_nodup : ∀ l : List Int, l.Pairwise (· ≤ ·) → l.Nodup → l.Pairwise (· < ·)
  | [], _, _ => .nil
  | x :: l, h, d => by
    obtain ⟨a, b⟩ := List.pairwise_cons.mp h
    obtain ⟨e, f⟩ := List.nodup_cons.mp d
    refine List.pairwise_cons.mpr ⟨fun y hy => ?_, up_nodup l b f⟩
    have q := a y hy
    have n : x ≠ y := fun z => e (z.symm ▸ hy)
    omega
/-! ### the posts of a row of draws -/
def kp (x : Int × Int) : Key × D := (.inl x.1, .int x.2)
def ups (L : List (Int × Int)) (p h : Int) : List (Int × Int) := if (L.any fun x => decide (x.1 = p)) = true then L.map (fun x => if x.1 = p then (x.1, h) else x) else L ++ [(p, h)]
theorem ups_ok (L : List (Int × Int)) (p h : Int) : setK (L.map kp) (.inl p) (.int h) = (ups L p h).map kp := by
  have e : ((L.map kp).any fun q => decide (q.1 = Sum.inl p)) = L.any fun x => decide (x.1 = p) := by
    rw [List.any_map]
    congr 1
    funext x
    simp [kp]
  unfold setK ups
  rw [e]
  split
  · rw [List.map_map, List.map_map]
    refine List.map_congr_left (fun x _ => ?_)
    show (if (kp x).1 = Sum.inl p then ((kp x).1, PyData.int h) else kp x) = kp (if x.1 = p then (x.1, h) else x)
    by_cases hx : x.1 = p
    · rw [if_pos (show (kp x).1 = Sum.inl p from congrArg Sum.inl hx), if_pos hx]
      rfl
    · rw [if_neg (show ¬ (kp x).1 = Sum.inl p from fun z => hx (Sum.inl.inj z)), if_neg hx]
  · simp [kp]
structure Fd (L : List (Int × Int)) : Prop where
  nd : (L.map (·.1)).Nodup
  b : ∀ x ∈ L, 0 ≤ x.1 ∧ x.1 < 30 ∧ 1 ≤ x.2 ∧ x.2 ≤ 20
theorem ups_fd {L : List (Int × Int)} {p h : Int} (f : Fd L) (hp : 0 ≤ p ∧ p < 30) (hh : 1 ≤ h ∧ h ≤ 20) : Fd (ups L p h) ∧ 1 ≤ (ups L p h).length ∧ (ups L p h).length ≤ L.length + 1 := by
  unfold ups
  split
  · rename_i a
    refine ⟨⟨?_, fun x hx => ?_⟩, ?_, by simp⟩
    · have e : (L.map (fun x => if x.1 = p then (x.1, h) else x)).map (·.1) = L.map (·.1) := by
        rw [List.map_map]
        refine List.map_congr_left (fun x _ => ?_)
        simp only [Function.comp]
        split <;> rfl
      rw [e]
      exact f.nd
    · obtain ⟨z, hz, e⟩ := List.mem_map.mp hx
      have b := f.b z hz
      split at e
      · rw [← e]; exact ⟨b.1, b.2.1, hh⟩
      · rw [← e]; exact b
    · obtain ⟨x, hx, _⟩ := List.any_eq_true.mp a
      rw [List.length_map]
      exact List.length_pos_of_mem hx
  · rename_i a
    refine ⟨⟨?_, fun x hx => ?_⟩, by simp, by simp⟩
    · rw [List.map_append, List.map_cons, List.map_nil]
      refine List.nodup_append.mpr ⟨f.nd, by simp, fun x hx y hy => ?_⟩
      rw [List.mem_singleton.mp hy]
      intro e
      refine a ?_
      obtain ⟨z, hz, e2⟩ := List.mem_map.mp hx
      exact List.any_eq_true.mpr ⟨z, hz, decide_eq_true (e2.trans e)⟩
    · rcases (List.mem_append.mp hx) with hx | hx
      · exact f.b x hx
      · rw [List.mem_singleton.mp hx]; exact ⟨hp.1, hp.2, hh⟩
theorem intKs_kp : ∀ L : List (Int × Int), intKs (L.map kp) = some (L.map (·.1))
  | [] => rfl
  | x :: L => by
    show (intKs (L.map kp)).map (x.1 :: ·) = _
    rw [intKs_kp L]
    rfl
theorem sorted_kp (L : List (Int × Int)) : bSortedA [dcD (L.map kp)] = some (.list ((srt (L.map (·.1))).map .int)) := by
  show (dctK (dcD (L.map kp))).bind _ = _
  rw [dctK_dcD, Option.bind_some, intKs_kp] <;> rfl
def look (L : List (Int × Int)) (p : Int) : Int := ((L.find? fun x => decide (x.1 = p)).map (·.2)).getD 1
theorem get_kp (L : List (Int × Int)) (p : Int) (h : p ∈ L.map (·.1)) : getK (L.map kp) (.inl p) = some (.int (look L p)) ∧ (p, look L p) ∈ L := by
  induction L with
  | nil => simp at h
  | cons x L ih =>
    by_cases e : x.1 = p
    · refine ⟨by simp [getK, kp, look, e], ?_⟩
      have : look (x :: L) p = x.2 := by simp [look, e]
      rw [this, ← e]
      exact List.mem_cons_self
    · have h' : p ∈ L.map (·.1) := by
        rw [List.map_cons] at h
        rcases (List.mem_cons.mp h) with q | q
        · exact absurd q.symm e
        · exact q
      obtain ⟨a, b⟩ := ih h'
      have e1 : look (x :: L) p = look L p := by simp [look, e]
      have e2 : getK ((x :: L).map kp) (.inl p) = getK (L.map kp) (.inl p) := by simp [getK, kp, e]
      rw [e1, e2]
      exact ⟨a, .tail _ b⟩
theorem posts_loop {ds : List Int} (many : Int) (hr : InR ds) : ∀ (l : List Nat) (L : List (Int × Int)) (y3 y4 y5 : SV), (∀ i ∈ l, 1 + i < ds.length) → Fd L → L.length + l.length ≤ 1000 → ∃ L' y3' y4',
    forLoop (sName 3) b0__law_posts (l.map fun i => .int (0 + (i : Nat))) [.val (.list (ds.map .int)), .val (.int many), .dic (L.map kp), y3, y4, y5] = .nx [.val (.list (ds.map .int)), .val (.int many), .dic (L'.map kp), y3', y4', y5] ∧ Fd L' ∧ L'.length ≤ L.length + l.length ∧ (l ≠ [] → 1 ≤ L'.length)
  | [], L, y3, y4, y5, _, f, _ => ⟨L, y3, y4, rfl, f, by simp, fun h => absurd rfl h⟩
  | i :: l, L, y3, y4, y5, hi, f, hl => by
    have h1 := hi i List.mem_cons_self
    simp only [List.length_cons] at hl
    obtain ⟨v, hv⟩ : ∃ v, ds[1 + i]? = some v := ⟨_, List.getElem?_eq_getElem h1⟩
    have r0 := hr v (List.mem_of_getElem? hv)
    have at1 : atI (ds.map PyData.int) (1 + (i : Int)) = some (.int v) := by
      have := atI_nat (j := 1 + i) (v := PyData.int v) (xs := ds.map PyData.int) (by simp [hv])
      rw [← this]
      congr 1
    obtain ⟨f', l0, l1⟩ := ups_fd f (p := v % 30) (h := 1 + v / 32 % 20) (by omega) (by omega)
    obtain ⟨L', y3', y4', e, g1, g2, g3⟩ := posts_loop many hr l (ups L (v % 30) (1 + v / 32 % 20)) (.val (.int (i : Nat))) (.val (.int v)) y5 (fun j hj => hi j (.tail _ hj)) f' (by omega)
    refine ⟨L', y3', y4', ?_, g1, by simp; omega, fun _ => ?_⟩
    · rw [List.map_cons, show ((0 : Int) + (i : Nat)) = (i : Int) by omega]
      rw [for_cons (ρ1 := [.val (.list (ds.map .int)), .val (.int many), .dic (L.map kp), .val (.int (i : Nat)), y4, y5]) (ρ2 := [.val (.list (ds.map .int)), .val (.int many), .dic ((ups L (v % 30) (1 + v / 32 % 20)).map kp), .val (.int (i : Nat)), .val (.int v), y5]) rfl ?_, e]
      simp [b0__law_posts, at1, cdivw (i := v) (j := 32) (by omega), ups_ok, show L.length < 100000 by omega]
    · by_cases e : l = []
      · subst e
        have : forLoop (sName 3) b0__law_posts (([] : List Nat).map fun i => .int (0 + (i : Nat))) [.val (.list (ds.map .int)), .val (.int many), .dic ((ups L (v % 30) (1 + v / 32 % 20)).map kp), .val (.int (i : Nat)), .val (.int v), y5] = .nx [.val (.list (ds.map .int)), .val (.int many), .dic ((ups L (v % 30) (1 + v / 32 % 20)).map kp), .val (.int (i : Nat)), .val (.int v), y5] := rfl
        rw [this] at e
        have q := Out.nx.inj e
        simp only [List.cons.injEq, SV.dic.injEq] at q
        have q2 := congrArg List.length q.2.2.1
        simp at q2
        omega
      · exact g3 e
theorem law_posts_ok {ds : List Int} (hr : InR ds) (hl : 20 ≤ ds.length) (many : Int) (hm : 1 ≤ many ∧ many ≤ 8) : ∃ P, f__law_posts [.list (ds.map .int), .int many] = .ok (.tuple (P.map pd)) ∧ Pst P := by
  obtain ⟨v, hv⟩ : ∃ v, ds[0]? = some v := ⟨_, List.getElem?_eq_getElem (by omega)⟩
  have at0 : atI (ds.map PyData.int) 0 = some (.int v) := atI_nat (j := 0) (by simp [hv])
  obtain ⟨n, hn, n0, n1⟩ : ∃ n, 1 + v % many = n ∧ 1 ≤ n ∧ n ≤ 8 := ⟨_, rfl, by have := Int.emod_nonneg v (show many ≠ 0 by omega); omega, by have := Int.emod_lt_of_pos v (show 0 < many by omega); omega⟩
  obtain ⟨L, y3, y4, e, f, l1, l2⟩ := posts_loop many hr (List.range n.toNat) [] .no .no .no (fun i hi => by have := List.mem_range.mp hi; omega) ⟨by simp, fun x hx => by cases hx⟩ (by simp; omega)
  rw [show (List.range n.toNat).map (fun i : Nat => PyData.int (0 + (i : Int))) = rangeD 0 n.toNat from rfl] at e
  simp only [List.map_nil, List.length_nil, List.length_range, Nat.zero_add] at e l1
  have l3 : 1 ≤ L.length := l2 (by
    intro h
    have q := congrArg List.length h
    simp at q
    omega)
  have sl := srt_len (L.map (·.1))
  rw [List.length_map] at sl
  have go : ∀ l : List Int, (∀ p ∈ l, p ∈ L.map (·.1)) → lcGo (sName 5) cYes (cTup (aCons (cVar 5) (aCons (cOp oIxA (cBor 2) (cBor 5)) aNil))) [.val (.list (ds.map .int)), .val (.int many), .dic (L.map kp), y3, y4, .no] (l.map .int) = .ok ((l.map fun p => (p, look L p)).map pd) := by
    intro l hl
    induction l with
    | nil => rfl
    | cons p l ih =>
      rw [List.map_cons, lcGo_cons]
      have g := (get_kp L p (hl p List.mem_cons_self)).1
      have ih' := ih fun q hq => hl q (.tail _ hq)
      generalize l.map PyData.int = rr at ih' ⊢
      simp [g, ih', pd]
  have go1 := go (srt (L.map (·.1))) fun p hp => mem_srt.mp hp
  refine ⟨(srt (L.map (·.1))).map fun p => (p, look L p), ?_, ?_, ?_, fun x hx => ?_, ?_⟩
  · have lr : (rangeD 0 n.toNat).length ≤ 100000 := by rw [rangeD_len]; omega
    have ls : (srt (L.map (·.1))).length ≤ 100000 := by omega
    have so := sorted_kp L
    generalize ((srt (L.map (·.1))).map fun p => (p, look L p)).map pd = PD at go1 ⊢
    simp [f__law_posts, semOf, c__law_posts, at0, show 0 < many by omega, hn, show -1000000 < n ∧ n < 1000000 by omega, e, so, ls, wipeR, go1]
  · rw [List.length_map]; omega
  · rw [List.length_map]; omega
  · obtain ⟨p, hp, rfl⟩ := List.mem_map.mp hx
    exact f.b _ (get_kp L p (mem_srt.mp hp)).2
  · rw [List.map_map]
    have e2 : (srt (L.map (·.1))).map ((·.1) ∘ fun p => (p, look L p)) = srt (L.map (·.1)) := by
      refine (List.map_congr_left fun x _ => ?_).trans (List.map_id _)
      rfl
    rw [e2]
    exact up_nodup _ (srt_up _) ((srt_perm _).nodup_iff.mpr f.nd)
/-! ### for the laws' turns -/
theorem dget {ds : List Int} (hr : InR ds) (i : Nat) (hi : i < ds.length) : ∃ v, atI (ds.map PyData.int) (i : Int) = some (.int v) ∧ 0 ≤ v := by
  refine ⟨ds[i], ?_, (hr _ (List.getElem_mem hi)).1⟩
  exact atI_nat (by simp [hi])
/-- one of 0 to n - 1, and so on -/
theorem pick {v : Int} (a n : Int) (hn : 0 < n) : ∃ h, a + v % n = h ∧ a ≤ h ∧ h ≤ a + n - 1 := ⟨_, rfl, by have := Int.emod_nonneg v (show n ≠ 0 by omega); omega, by have := Int.emod_lt_of_pos v hn; omega⟩
/-- a loop whose turns change nothing but the name of the loop -/
theorem for_same {i : Nat} {b : Env → Out} {ρ : Env} : ∀ (ds : List D) (x : SV), (∀ d ∈ ds, b (ρ.set i (.val d)) = .nx (ρ.set i (.val d))) → ∃ y, forLoop (sName i) b ds (ρ.set i x) = .nx (ρ.set i y)
  | [], x, _ => ⟨x, rfl⟩
  | d :: ds, x, h => by
    obtain ⟨y, e⟩ := for_same ds (.val d) fun z hz => h z (.tail _ hz)
    refine ⟨y, ?_⟩
    rw [for_cons (ρ1 := ρ.set i (.val d)) (ρ2 := ρ.set i (.val d)) (by simp) (h d List.mem_cons_self), e]
end DL.Q

/-! ME -/
namespace DL
open PySem L2
/-! ### slots that stay -/
/-- nothing but the slots of S has changed -/
structure Same (S : List Nat) (ρ ρ' : Env) : Prop where
  len : ρ'.length = ρ.length
  at' : ∀ i, S.contains i = false → ρ'[i]? = ρ[i]?
section
variable {S T : List Nat} {ρ ρ1 ρ2 : Env} {i : Nat} {v : SV}
theorem Same.refl : Same S ρ ρ := ⟨rfl, fun _ _ => rfl⟩
theorem Same.trans (a : Same S ρ ρ1) (b : Same S ρ1 ρ2) : Same S ρ ρ2 := ⟨b.len.trans a.len, fun i h => (b.at' i h).trans (a.at' i h)⟩
theorem Same.mono (a : Same S ρ ρ1) (h : S.all T.contains = true) : Same T ρ ρ1 := ⟨a.len, fun i hi => a.at' i (by
  cases e : S.contains i with
  | false => rfl
  | true =>
    have m := List.contains_iff_mem.mp e
    have := List.all_eq_true.mp h i m
    rw [hi] at this
    cases this)⟩
theorem Same.set (a : Same S ρ ρ1) (h : S.contains i = true) : Same S ρ (ρ1.set i v) := ⟨by rw [List.length_set, a.len], fun j hj => by
  have n : i ≠ j := fun e => by
    subst e
    rw [h] at hj
    cases hj
  rw [List.getElem?_set_ne n]
  exact a.at' j hj⟩
theorem Same.get (a : Same S ρ ρ1) {x : Option SV} (h : ρ[i]? = x) (hi : S.contains i = false := by decide) : ρ1[i]? = x := (a.at' i hi).trans h
theorem set_get (h : i < ρ.length) : (ρ.set i v)[i]? = some v := by rw [List.getElem?_set_self h]
end
/-- a loop whose turns change only the slots of S -/
theorem for_keep {S : List Nat} {i : Nat} {b : Env → Out} {ρ0 : Env} (hi : S.contains i = true) : ∀ (ds : List D) (ρ : Env), Same S ρ0 ρ → (∀ d ∈ ds, ∀ ρ, Same S ρ0 ρ → ∃ ρ', b (ρ.set i (.val d)) = .nx ρ' ∧ Same S ρ0 ρ') → ∃ ρ', forLoop (sName i) b ds ρ = .nx ρ' ∧ Same S ρ0 ρ'
  | [], ρ, h, _ => ⟨ρ, rfl, h⟩
  | d :: ds, ρ, h, st => by
    obtain ⟨ρ1, e1, h1⟩ := st d List.mem_cons_self ρ h
    obtain ⟨ρ2, e2, h2⟩ := for_keep hi ds ρ1 h1 fun x hx => st x (.tail _ hx)
    exact ⟨ρ2, by rw [for_cons (ρ1 := ρ.set i (.val d)) rfl e1, e2], h2⟩
/-- .. with an invariant of the turns' number -/
theorem for_step {S : List Nat} {i : Nat} {b : Env → Out} {ρ0 : Env} (I : Nat → Env → Prop) : ∀ (ds : List D) (n : Nat) (ρ : Env), Same S ρ0 ρ → I n ρ → (∀ (k : Nat) d, ds[k]? = some d → ∀ ρ, Same S ρ0 ρ → I (n + k) ρ → ∃ ρ', (b (ρ.set i (.val d)) = .nx ρ' ∨ b (ρ.set i (.val d)) = .ct ρ') ∧ Same S ρ0 ρ' ∧ I (n + k + 1) ρ') → ∃ ρ', forLoop (sName i) b ds ρ = .nx ρ' ∧ Same S ρ0 ρ' ∧ I (n + ds.length) ρ'
  | [], n, ρ, h, hI, _ => ⟨ρ, rfl, h, hI⟩
  | d :: ds, n, ρ, h, hI, st => by
    obtain ⟨ρ1, e1, h1, h1'⟩ := st 0 d rfl ρ h hI
    obtain ⟨ρ2, e2, h2, h2'⟩ := for_step (S := S) (i := i) (b := b) (ρ0 := ρ0) I ds (n + 1) ρ1 h1 h1' fun k x hx ρ s z => by
      rw [show n + 1 + k = n + (k + 1) by omega] at z ⊢
      exact st (k + 1) x (by simpa using hx) ρ s z
    refine ⟨ρ2, ?_, h2, by rw [show n + (d :: ds).length = n + 1 + ds.length by simp; omega]; exact h2'⟩
    rcases e1 with e1 | e1
    · rw [for_cons (ρ1 := ρ.set i (.val d)) rfl e1, e2]
    · rw [for_cont (ρ1 := ρ.set i (.val d)) rfl e1, e2]
theorem nx_of {b : Env → Out} {ρ ρ' : Env} {c : Env → Out} (h : b ρ = .nx ρ') : sSeq b c ρ = c ρ' := by rw [ev_sSeq, h, thenO_nx]
end DL

/-! C_K95 -/
namespace DL.K95
open PySem
abbrev errs : List Str := ["BadTime", "BadMany", "BadSiphon"]
def c_is_whole : Env → Out := (sRet (cAndV (cIs isIntD (cBor 0)) (cAndV (cNotV (cIs isBoolD (cBor 0))) (cChain oLe oLe (cBor 1) (cBor 0) (cBor 2)))))
def f_is_whole : List D → R D := semOf 3 3 c_is_whole
def b0_divisor : Env → Out := (sPar 0 1 (asVal (cVar 1)) (asVal (cOp oMod (cBor 0) (cBor 1))))
def c_divisor : Env → Out := (sSeq (sPar 0 1 (asVal (cBt bAbs (aCons (cBor 0) aNil))) (asVal (cBt bAbs (aCons (cBor 1) aNil))))
  (sSeq (sWhile (cTest (cOp oGt (cBor 1) (cC (.int 0)))) b0_divisor)
  (sRet (cVar 0))))
def f_divisor : List D → R D := semOf 2 2 c_divisor
def c_quotient : Env → Out := (sSeq (sAsg 2 (asVal (cCall f_divisor (aCons (cVar 0) (aCons (cVar 1) aNil)))))
  (sRet (cTup (aCons (cOp oDiv (cBor 0) (cBor 2)) (aCons (cOp oDiv (cBor 1) (cBor 2)) aNil)))))
def f_quotient : List D → R D := semOf 3 2 c_quotient
def c_plus : Env → Out := (sRet (cCall f_quotient (aCons (cOp oAdd (cOp oMul1 (cOp oIxA (cBor 0) (cC (.int 0))) (cOp oIxA (cBor 1) (cC (.int 1)))) (cOp oMul1 (cOp oIxA (cBor 1) (cC (.int 0))) (cOp oIxA (cBor 0) (cC (.int 1))))) (aCons (cOp oMul1 (cOp oIxA (cBor 0) (cC (.int 1))) (cOp oIxA (cBor 1) (cC (.int 1)))) aNil))))
def f_plus : List D → R D := semOf 2 2 c_plus
def c_times : Env → Out := (sRet (cCall f_quotient (aCons (cOp oMul1 (cOp oIxA (cBor 0) (cC (.int 0))) (cBor 1)) (aCons (cOp oIxA (cBor 0) (cC (.int 1))) aNil))))
def f_times : List D → R D := semOf 2 2 c_times
def c_is_less : Env → Out := (sRet (cOp oLt (cOp oMul1 (cOp oIxA (cBor 0) (cC (.int 0))) (cOp oIxA (cBor 1) (cC (.int 1)))) (cOp oMul1 (cOp oIxA (cBor 1) (cC (.int 0))) (cOp oIxA (cBor 0) (cC (.int 1))))))
def f_is_less : List D → R D := semOf 2 2 c_is_less
def c_is_integer : Env → Out := (sRet (cAndV (cIs isIntD (cBor 0)) (cNotV (cIs isBoolD (cBor 0)))))
def f_is_integer : List D → R D := semOf 1 1 c_is_integer
def c_is_quotient : Env → Out := (sSeq (sIf (cOr (cNot (cTest (cIs isTupleD (cBor 0)))) (cOr (cTest (cOp oNe (cBt bLen (aCons (cBor 0) aNil)) (cC (.int 2)))) (cOr (cNot (cTest (cCall f_is_integer (aCons (cOp oIxA (cBor 0) (cC (.int 0))) aNil)))) (cNot (cTest (cCall f_is_integer (aCons (cOp oIxA (cBor 0) (cC (.int 1))) aNil))))))) (sRet (cC (.bool false))) sNx)
  (sRet (cAndV (cOp oGe (cOp oIxA (cBor 0) (cC (.int 0))) (cC (.int 0))) (cAndV (cOp oGt (cOp oIxA (cBor 0) (cC (.int 1))) (cC (.int 0))) (cOp oEq (cCall f_divisor (aCons (cOp oIxA (cBor 0) (cC (.int 0))) (aCons (cOp oIxA (cBor 0) (cC (.int 1))) aNil))) (cC (.int 1)))))))
def f_is_quotient : List D → R D := semOf 1 1 c_is_quotient
def c_minus : Env → Out := (sRet (cCall f_plus (aCons (cVar 0) (aCons (cCall f_times (aCons (cVar 1) (aCons (cUn oNeg (cC (.int 1))) aNil))) aNil))))
def f_minus : List D → R D := semOf 2 2 c_minus
def c__check : Env → Out := (sSeq (sIf (cOr (cNot (cTest (cIs isTupleD (cBor 0)))) (cTest (cOp oNe (cBt bLen (aCons (cBor 0) aNil)) (cC (.int 4))))) (sRaise "BadSiphon") sNx)
  (sSeq (sTo (sTup (sCons (sName 1) (sCons (sName 2) (sCons (sName 3) (sCons (sName 4) sNil))))) (cVar 0))
  (sSeq (sIf (cOr (cNot (cTest (cCall f_is_whole (aCons (cVar 1) (aCons (cC (.int 0)) (aCons (cC (.int 1000)) aNil)))))) (cOr (cNot (cTest (cCall f_is_whole (aCons (cVar 2) (aCons (cC (.int 1)) (aCons (cC (.int 1000)) aNil)))))) (cTest (cOp oGe (cBor 1) (cBor 2))))) (sRaise "BadSiphon") sNx)
  (sIf (cOr (cNot (cTest (cCall f_is_whole (aCons (cVar 3) (aCons (cC (.int 1)) (aCons (cC (.int 100)) aNil)))))) (cOr (cNot (cTest (cCall f_is_whole (aCons (cVar 4) (aCons (cC (.int 1)) (aCons (cC (.int 100)) aNil)))))) (cTest (cOp oGe (cBor 3) (cBor 4))))) (sRaise "BadSiphon") sNx))))
def f__check : List D → R D := semOf 5 1 c__check
def c__rise : Env → Out := (sRet (cCall f_quotient (aCons (cOp oSub (cOp oIxA (cBor 0) (cC (.int 1))) (cOp oIxA (cBor 0) (cC (.int 0)))) (aCons (cOp oIxA (cBor 0) (cC (.int 2))) aNil))))
def f__rise : List D → R D := semOf 1 1 c__rise
def c__fall : Env → Out := (sRet (cCall f_quotient (aCons (cOp oSub (cOp oIxA (cBor 0) (cC (.int 1))) (cOp oIxA (cBor 0) (cC (.int 0)))) (aCons (cOp oSub (cOp oIxA (cBor 0) (cC (.int 3))) (cOp oIxA (cBor 0) (cC (.int 2)))) aNil))))
def f__fall : List D → R D := semOf 1 1 c__fall
def c__again : Env → Out := (sRet (cCall f_plus (aCons (cCall f__rise (aCons (cVar 0) aNil)) (aCons (cCall f__fall (aCons (cVar 0) aNil)) aNil))))
def f__again : List D → R D := semOf 1 1 c__again
def c_siphon_again : Env → Out := (sSeq (sDrop (cCall f__check (aCons (cVar 0) aNil)))
  (sRet (cCall f__again (aCons (cVar 0) aNil))))
def f_siphon_again : List D → R D := semOf 1 1 c_siphon_again
def c__rounds : Env → Out := (sSeq (sAsg 2 (asVal (cCall f__again (aCons (cVar 0) aNil))))
  (sSeq (sAsg 3 (asVal (cOp oDiv (cOp oMul1 (cOp oIxA (cBor 1) (cC (.int 0))) (cOp oIxA (cBor 2) (cC (.int 1)))) (cOp oMul1 (cOp oIxA (cBor 1) (cC (.int 1))) (cOp oIxA (cBor 2) (cC (.int 0)))))))
  (sRet (cTup (aCons (cVar 3) (aCons (cCall f_minus (aCons (cVar 1) (aCons (cCall f_times (aCons (cVar 2) (aCons (cVar 3) aNil))) aNil))) aNil))))))
def f__rounds : List D → R D := semOf 4 2 c__rounds
def c__check_time : Env → Out := (sSeq (sDrop (cCall f__check (aCons (cVar 0) aNil)))
  (sIf (cOr (cNot (cTest (cCall f_is_quotient (aCons (cVar 1) aNil)))) (cTest (cCall f_is_less (aCons (cTup (aCons (cC (.int 1000000000000)) (aCons (cC (.int 1)) aNil))) (aCons (cVar 1) aNil))))) (sRaise "BadTime") sNx))
def f__check_time : List D → R D := semOf 2 2 c__check_time
def c_siphon_level : Env → Out := (sSeq (sDrop (cCall f__check_time (aCons (cVar 0) (aCons (cVar 1) aNil))))
  (sSeq (sAsg 2 (asVal (cOp oIxA (cCall f__rounds (aCons (cVar 0) (aCons (cVar 1) aNil))) (cC (.int 1)))))
  (sSeq (sAsg 3 (asVal (cCall f__rise (aCons (cVar 0) aNil))))
  (sSeq (sIf (cNot (cTest (cCall f_is_less (aCons (cVar 3) (aCons (cVar 2) aNil))))) (sRet (cCall f_plus (aCons (cTup (aCons (cOp oIxA (cBor 0) (cC (.int 0))) (aCons (cC (.int 1)) aNil))) (aCons (cCall f_times (aCons (cVar 2) (aCons (cOp oIxA (cBor 0) (cC (.int 2))) aNil))) aNil)))) sNx)
  (sRet (cCall f_minus (aCons (cTup (aCons (cOp oIxA (cBor 0) (cC (.int 1))) (aCons (cC (.int 1)) aNil))) (aCons (cCall f_times (aCons (cCall f_minus (aCons (cVar 2) (aCons (cVar 3) aNil))) (aCons (cOp oSub (cOp oIxA (cBor 0) (cC (.int 3))) (cOp oIxA (cBor 0) (cC (.int 2)))) aNil))) aNil))))))))
def f_siphon_level : List D → R D := semOf 4 2 c_siphon_level
def c_siphon_runs : Env → Out := (sSeq (sDrop (cCall f__check_time (aCons (cVar 0) (aCons (cVar 1) aNil))))
  (sSeq (sTo (sTup (sCons (sName 2) (sCons (sName 3) sNil))) (cCall f__rounds (aCons (cVar 0) (aCons (cVar 1) aNil))))
  (sSeq (sAsg 4 (asVal (cCall f__rise (aCons (cVar 0) aNil))))
  (sSeq (sAsg 5 (asVal (cIf (cTest (cCall f_is_less (aCons (cVar 3) (aCons (cVar 4) aNil)))) (cC (.tuple [.int 0, .int 1])) (cCall f_minus (aCons (cVar 3) (aCons (cVar 4) aNil))))))
  (sSeq (sAsg 6 (asVal (cCall f_times (aCons (cCall f_plus (aCons (cCall f_times (aCons (cCall f__fall (aCons (cVar 0) aNil)) (aCons (cVar 2) aNil))) (aCons (cVar 5) aNil))) (aCons (cOp oIxA (cBor 0) (cC (.int 3))) aNil)))))
  (sRet (cTup (aCons (cOp oAdd (cBor 2) (cIf (cTest (cCall f_is_less (aCons (cVar 3) (aCons (cVar 4) aNil)))) (cC (.int 0)) (cC (.int 1)))) (aCons (cVar 6) aNil)))))))))
def f_siphon_runs : List D → R D := semOf 7 2 c_siphon_runs
def c_siphon_time : Env → Out := (sSeq (sDrop (cCall f__check (aCons (cVar 0) aNil)))
  (sSeq (sIf (cNot (cTest (cCall f_is_whole (aCons (cVar 1) (aCons (cC (.int 1)) (aCons (cC (.int 1000000000000)) aNil)))))) (sRaise "BadMany") sNx)
  (sRet (cCall f_plus (aCons (cCall f_times (aCons (cCall f__again (aCons (cVar 0) aNil)) (aCons (cOp oSub (cBor 1) (cC (.int 1))) aNil))) (aCons (cCall f__rise (aCons (cVar 0) aNil)) aNil))))))
def f_siphon_time : List D → R D := semOf 2 2 c_siphon_time
def b1_rates_again : Env → Out := (sIf (cTest (cOp oEq (cCall f__again (aCons (cTup (aCons (cVar 0) (aCons (cVar 1) (aCons (cVar 4) (aCons (cVar 5) aNil))))) aNil)) (cBor 2))) (sApp 3 (cTup (aCons (cVar 4) (aCons (cVar 5) aNil)))) sNx)
def b0_rates_again : Env → Out := (sFor (cIt range2D (aCons (cOp oAdd (cBor 4) (cC (.int 1))) (aCons (cOp oAdd (cC (.int 100)) (cC (.int 1))) aNil))) (sName 5) b1_rates_again)
def c_rates_again : Env → Out := (sSeq (sDrop (cCall f__check (aCons (cTup (aCons (cVar 0) (aCons (cVar 1) (aCons (cC (.int 1)) (aCons (cC (.int 100)) aNil))))) aNil)))
  (sSeq (sIf (cOr (cNot (cTest (cCall f_is_quotient (aCons (cVar 2) aNil)))) (cTest (cCall f_is_less (aCons (cTup (aCons (cC (.int 1000000000000)) (aCons (cC (.int 1)) aNil))) (aCons (cVar 2) aNil))))) (sRaise "BadTime") sNx)
  (sSeq (sAsg 3 (asOwn (cLst aNil)))
  (sSeq (sFor (cIt range2D (aCons (cC (.int 1)) (aCons (cC (.int 100)) aNil))) (sName 4) b0_rates_again)
  (sRet (cBt bTuple (aCons (cBor 3) aNil)))))))
def f_rates_again : List D → R D := semOf 6 3 c_rates_again
def c_both_run : Env → Out := (sSeq (sDrop (cCall f__check (aCons (cVar 0) aNil)))
  (sSeq (sDrop (cCall f__check (aCons (cVar 1) aNil)))
  (sSeq (sPar 2 3 (asVal (cCall f__again (aCons (cVar 0) aNil))) (asVal (cCall f__again (aCons (cVar 1) aNil))))
  (sSeq (sAsg 4 (asVal (cCall f_quotient (aCons (cOp oMul1 (cOp oIxA (cBor 2) (cC (.int 0))) (cOp oIxA (cBor 3) (cC (.int 1)))) (aCons (cOp oMul1 (cOp oIxA (cBor 2) (cC (.int 1))) (cOp oIxA (cBor 3) (cC (.int 0)))) aNil)))))
  (sRet (cCall f_times (aCons (cVar 2) (aCons (cOp oIxA (cBor 4) (cC (.int 1))) aNil))))))))
def f_both_run : List D → R D := semOf 5 2 c_both_run
def b2__law_draws : Env → Out := (sIf (cTest (cOp oLt (cBt bLen (aCons (cBor 2) aNil)) (cBor 1))) (sSeq (sAsg 3 (asVal (cOp oMod (cBt bInt (aCons (cOp oAdd (cOp oAdd (cOp oMul1 (cBor 3) (cC (.int 69621))) (cBor 6)) (cC (.int 1))) aNil)) (cC (.int 2147483647)))))
  (sApp 2 (cOp oMod (cOp oDiv (cBt bInt (aCons (cBor 3) aNil)) (cC (.int 7))) (cC (.int 65521))))) sNx)
def b1__law_draws : Env → Out := (sIf (cTest (cOp oGt (cBor 5) (cC (.int 0)))) (sSeq (sApp 2 (cOp oMod (cBt bInt (aCons (cBor 5) aNil)) (cC (.int 1009))))
  (sAsg 5 (asVal (cOp oDiv (cBor 5) (cC (.int 1009)))))) sNx)
def b0__law_draws : Env → Out := (sSeq (sAsg 5 (asVal (cBt bAbs (aCons (cBor 4) aNil))))
  (sSeq (sAsg 3 (asVal (cOp oMod (cBt bInt (aCons (cOp oAdd (cOp oAdd (cOp oMul1 (cBor 3) (cC (.int 48271))) (cBor 5)) (cC (.int 11))) aNil)) (cC (.int 2147483647)))))
  (sIf (cTest (cOp oGe (cBor 5) (cOp oPow (cC (.int 10)) (cC (.int 18))))) (sFor (cIt range1D (aCons (cC (.int 60)) aNil)) (sName 6) b1__law_draws) (sApp 2 (cOp oMod (cOp oDiv (cBt bInt (aCons (cOp oAdd (cOp oMul1 (cBor 3) (cC (.int 16807))) (cC (.int 5))) aNil)) (cC (.int 3))) (cC (.int 65521)))))))
def c__law_draws : Env → Out := (sSeq (sAsg 2 (asOwn (cLst aNil)))
  (sSeq (sAsg 3 (asVal (cC (.int 7))))
  (sSeq (sFor (cItems (cSl (cBor 0) pNone (pSome (cC (.int 63))))) (sName 4) b0__law_draws)
  (sSeq (sFor (cIt range1D (aCons (cVar 1) aNil)) (sName 6) b2__law_draws)
  (sRet (cSl (cBor 2) pNone (pSome (cVar 1))))))))
def f__law_draws : List D → R D := semOf 7 2 c__law_draws
def b0__law_low : Env → Out := (sPar 2 3 (asVal (cVar 3)) (asVal (cOp oMod (cBor 2) (cBor 3))))
def c__law_low : Env → Out := (sSeq (sPar 2 3 (asVal (cBt bAbs (aCons (cBor 0) aNil))) (asVal (cBt bAbs (aCons (cBor 1) aNil))))
  (sSeq (sWhile (cTest (cOp oGt (cBor 3) (cC (.int 0)))) b0__law_low)
  (sRet (cTup (aCons (cOp oDiv (cBor 0) (cBor 2)) (aCons (cOp oDiv (cBor 1) (cBor 2)) aNil))))))
def f__law_low : List D → R D := semOf 4 2 c__law_low
def c__law_plus : Env → Out := (sRet (cCall f__law_low (aCons (cOp oAdd (cOp oMul1 (cOp oIxA (cBor 0) (cC (.int 0))) (cOp oIxA (cBor 1) (cC (.int 1)))) (cOp oMul1 (cOp oIxA (cBor 1) (cC (.int 0))) (cOp oIxA (cBor 0) (cC (.int 1))))) (aCons (cOp oMul1 (cOp oIxA (cBor 0) (cC (.int 1))) (cOp oIxA (cBor 1) (cC (.int 1)))) aNil))))
def f__law_plus : List D → R D := semOf 2 2 c__law_plus
def c__law_times : Env → Out := (sRet (cIf (cTest (cOp oNe (cBor 1) (cC (.int 0)))) (cCall f__law_low (aCons (cOp oMul1 (cOp oIxA (cBor 0) (cC (.int 0))) (cBor 1)) (aCons (cOp oIxA (cBor 0) (cC (.int 1))) aNil))) (cTup (aCons (cC (.int 0)) (aCons (cC (.int 1)) aNil)))))
def f__law_times : List D → R D := semOf 2 2 c__law_times
def c__law_minus : Env → Out := (sRet (cCall f__law_plus (aCons (cVar 0) (aCons (cTup (aCons (cOp oSub (cC (.int 0)) (cOp oIxA (cBor 1) (cC (.int 0)))) (aCons (cOp oIxA (cBor 1) (cC (.int 1))) aNil))) aNil))))
def f__law_minus : List D → R D := semOf 2 2 c__law_minus
def c__law_less : Env → Out := (sRet (cOp oLt (cOp oMul1 (cOp oIxA (cBor 0) (cC (.int 0))) (cOp oIxA (cBor 1) (cC (.int 1)))) (cOp oMul1 (cOp oIxA (cBor 1) (cC (.int 0))) (cOp oIxA (cBor 0) (cC (.int 1))))))
def f__law_less : List D → R D := semOf 2 2 c__law_less
def c__law_siphon : Env → Out := (sSeq (sPar 2 3 (asVal (cOp oMod (cBt bInt (aCons (cOp oIxA (cBor 0) (cBor 1)) aNil)) (cC (.int 9)))) (asVal (cOp oAdd (cC (.int 1)) (cOp oMod (cBt bInt (aCons (cOp oIxA (cBor 0) (cOp oAdd (cBor 1) (cC (.int 1)))) aNil)) (cC (.int 7))))))
  (sRet (cTup (aCons (cVar 2) (aCons (cOp oAdd (cOp oAdd (cBor 2) (cC (.int 1))) (cOp oMod (cOp oDiv (cBt bInt (aCons (cOp oIxA (cBor 0) (cBor 1)) aNil)) (cC (.int 16))) (cC (.int 12)))) (aCons (cVar 3) (aCons (cOp oAdd (cOp oAdd (cBor 3) (cC (.int 1))) (cOp oMod (cOp oDiv (cBt bInt (aCons (cOp oIxA (cBor 0) (cOp oAdd (cBor 1) (cC (.int 1)))) aNil)) (cC (.int 16))) (cC (.int 6)))) aNil)))))))
def f__law_siphon : List D → R D := semOf 4 2 c__law_siphon
def c__law_rounds : Env → Out := (sSeq (sTo (sTup (sCons (sName 1) (sCons (sName 2) (sCons (sName 3) (sCons (sName 4) sNil))))) (cVar 0))
  (sRet (cTup (aCons (cCall f__law_low (aCons (cOp oSub (cBor 2) (cBor 1)) (aCons (cVar 3) aNil))) (aCons (cCall f__law_low (aCons (cOp oSub (cBor 2) (cBor 1)) (aCons (cOp oSub (cBor 4) (cBor 3)) aNil))) aNil)))))
def f__law_rounds : List D → R D := semOf 5 1 c__law_rounds
def b0__law_at : Env → Out := (sSeq (sIf (cTest (cCall f__law_less (aCons (cVar 1) (aCons (cVar 6) aNil)))) (sRet (cTup (aCons (cCall f__law_plus (aCons (cTup (aCons (cVar 2) (aCons (cC (.int 1)) aNil))) (aCons (cCall f__law_times (aCons (cVar 1) (aCons (cVar 4) aNil))) aNil))) (aCons (cVar 8) (aCons (cVar 9) aNil))))) sNx)
  (sSeq (sPar 1 8 (asVal (cCall f__law_minus (aCons (cVar 1) (aCons (cVar 6) aNil)))) (asVal (cOp oAdd (cBor 8) (cC (.int 1)))))
  (sSeq (sIf (cTest (cCall f__law_less (aCons (cVar 1) (aCons (cVar 7) aNil)))) (sRet (cTup (aCons (cCall f__law_minus (aCons (cTup (aCons (cVar 3) (aCons (cC (.int 1)) aNil))) (aCons (cCall f__law_times (aCons (cVar 1) (aCons (cOp oSub (cBor 5) (cBor 4)) aNil))) aNil))) (aCons (cVar 8) (aCons (cCall f__law_plus (aCons (cVar 9) (aCons (cCall f__law_times (aCons (cVar 1) (aCons (cVar 5) aNil))) aNil))) aNil))))) sNx)
  (sPar 1 9 (asVal (cCall f__law_minus (aCons (cVar 1) (aCons (cVar 7) aNil)))) (asVal (cCall f__law_plus (aCons (cVar 9) (aCons (cCall f__law_times (aCons (cVar 7) (aCons (cVar 5) aNil))) aNil))))))))
def c__law_at : Env → Out := (sSeq (sTo (sTup (sCons (sName 2) (sCons (sName 3) (sCons (sName 4) (sCons (sName 5) sNil))))) (cVar 0))
  (sSeq (sTo (sTup (sCons (sName 6) (sCons (sName 7) sNil))) (cCall f__law_rounds (aCons (cVar 0) aNil)))
  (sSeq (sTo (sTup (sCons (sName 8) (sCons (sName 9) sNil))) (cTup (aCons (cC (.int 0)) (aCons (cTup (aCons (cC (.int 0)) (aCons (cC (.int 1)) aNil))) aNil))))
  (sSeq (sFor (cIt range1D (aCons (cC (.int 100000)) aNil)) (sName 10) b0__law_at)
  (sRet (cC .none))))))
def f__law_at : List D → R D := semOf 11 2 c__law_at
def b0__law_word : Env → Out := (sIf (cTest (cOp oEq (cBor 0) (cC (.int 0)))) (sDrop (cCall f_siphon_again (aCons (cVar 1) aNil))) (sIf (cTest (cOp oEq (cBor 0) (cC (.int 1)))) (sDrop (cCall f_siphon_level (aCons (cVar 1) (aCons (cVar 2) aNil)))) (sIf (cTest (cOp oEq (cBor 0) (cC (.int 2)))) (sDrop (cCall f_siphon_runs (aCons (cVar 1) (aCons (cVar 2) aNil)))) (sIf (cTest (cOp oEq (cBor 0) (cC (.int 3)))) (sDrop (cCall f_siphon_time (aCons (cVar 1) (aCons (cVar 2) aNil)))) (sIf (cTest (cOp oEq (cBor 0) (cC (.int 4)))) (sDrop (cCall f_both_run (aCons (cVar 1) (aCons (cVar 2) aNil)))) (sDrop (cCall f_rates_again (aCons (cVar 1) (aCons (cVar 2) (aCons (cVar 3) aNil))))))))))
def c__law_word : Env → Out := (sSeq (sTry errs b0__law_word ((["BadSiphon"], none, fun _ => (sRet (cC (.str "siphon")))) :: ((["BadTime"], none, fun _ => (sRet (cC (.str "time")))) :: ((["BadMany"], none, fun _ => (sRet (cC (.str "many")))) :: []))))
  (sRet (cC (.str "none"))))
def f__law_word : List D → R D := semOf 4 4 c__law_word
def b6_law : Env → Out := (sAsg 27 (asVal (cOp oAdd (cBor 27) (asList (cLc (cIt range2D (aCons (cOp oAdd (cBor 7) (cC (.int 1))) (aCons (cC (.int 101)) aNil))) (sName 16) (cTest (cOp oEq (cOp oMul1 (cOp oMul1 (cBor 26) (cBor 16)) (cOp oIxA (cBor 13) (cC (.int 1)))) (cOp oMul1 (cOp oMul1 (cBor 7) (cOp oSub (cBor 16) (cBor 7))) (cOp oIxA (cBor 13) (cC (.int 0)))))) (cTup (aCons (cVar 7) (aCons (cVar 16) aNil))) [16])))))
def b5_law : Env → Out := (sIf (cTest (cOp oNe (cOp oAdd (asList (cLc (cItems (cTup (aCons (cC (.int 1)) (aCons (cC (.int 2)) aNil)))) (sName 28) cYes (cCall f__law_word (aCons (cVar 28) (aCons (cVar 3) (aCons (cVar 25) (aCons (cC .none) aNil))))) [28])) (asList (cLst (aCons (cCall f__law_word (aCons (cC (.int 5)) (aCons (cVar 5) (aCons (cVar 6) (aCons (cVar 25) aNil))))) aNil)))) (cOp oMul1 (asList (cLst (aCons (cC (.str "time")) aNil))) (cC (.int 3))))) (sRet (cC (.bool false))) sNx)
def b4_law : Env → Out := (sIf (cTest (cOp oNe (cOp oAdd (asList (cLc (cIt range1D (aCons (cC (.int 5)) aNil)) (sName 28) cYes (cCall f__law_word (aCons (cVar 28) (aCons (cVar 25) (aCons (cC .none) (aCons (cC .none) aNil))))) [28])) (asList (cLst (aCons (cCall f__law_word (aCons (cC (.int 4)) (aCons (cVar 3) (aCons (cVar 25) (aCons (cC .none) aNil))))) aNil)))) (cOp oMul1 (asList (cLst (aCons (cC (.str "siphon")) aNil))) (cC (.int 6))))) (sRet (cC (.bool false))) sNx)
def b3_law : Env → Out := (sPar 22 23 (asVal (cCall f__law_plus (aCons (cVar 22) (aCons (cVar 11) aNil)))) (asVal (cOp oAdd (cBor 23) (cC (.int 1)))))
def b2_law : Env → Out := (sSeq (sAsg 20 (asVal (cCall f_siphon_time (aCons (cVar 3) (aCons (cVar 19) aNil)))))
  (sIf (cOr (cTest (cOp oNe (cBor 20) (cCall f__law_plus (aCons (cVar 9) (aCons (cCall f__law_times (aCons (cVar 11) (aCons (cOp oSub (cBor 19) (cC (.int 1))) aNil))) aNil))))) (cOr (cTest (cOp oNe (cOp oIxA (cCall f_siphon_runs (aCons (cVar 3) (aCons (cVar 20) aNil))) (cC (.int 0))) (cBor 19))) (cTest (cOp oNe (cCall f_siphon_level (aCons (cVar 3) (aCons (cVar 20) aNil))) (cTup (aCons (cVar 6) (aCons (cC (.int 1)) aNil))))))) (sRet (cC (.bool false))) sNx))
def b1_law : Env → Out := (sSeq (sAsg 13 (asVal (cOp oIxA (asList (cLst (aCons (cTup (aCons (cC (.int 0)) (aCons (cC (.int 1)) aNil))) (aCons (cVar 9) (aCons (cVar 11) (aCons (cCall f__law_low (aCons (cOp oAdd (cC (.int 1)) (cOp oMod (cBt bInt (aCons (cOp oIxA (cBor 1) (cOp oAdd (cC (.int 30)) (cBor 2))) aNil)) (cC (.int 90)))) (aCons (cOp oAdd (cC (.int 1)) (cOp oMod (cBt bInt (aCons (cOp oIxA (cBor 1) (cOp oAdd (cC (.int 35)) (cBor 2))) aNil)) (cC (.int 6)))) aNil))) (aCons (cCall f__law_plus (aCons (cVar 11) (aCons (cVar 9) aNil))) (aCons (cCall f__law_low (aCons (cOp oAdd (cC (.int 1)) (cOp oMod (cBt bInt (aCons (cOp oIxA (cBor 1) (cC (.int 40))) aNil)) (cC (.int 200)))) (aCons (cC (.int 7)) aNil))) aNil)))))))) (cBor 12))))
  (sSeq (sTo (sTup (sCons (sName 14) (sCons (sName 15) (sCons (sName 16) sNil)))) (cCall f__law_at (aCons (cVar 3) (aCons (cVar 13) aNil))))
  (sSeq (sIf (cOr (cTest (cOp oNe (cCall f_siphon_level (aCons (cVar 3) (aCons (cVar 13) aNil))) (cBor 14))) (cOr (cTest (cOp oNe (cCall f_siphon_runs (aCons (cVar 3) (aCons (cVar 13) aNil))) (cTup (aCons (cVar 15) (aCons (cVar 16) aNil))))) (cTest (cIs isBoolD (cOp oIxA (cCall f_siphon_runs (aCons (cVar 3) (aCons (cVar 13) aNil))) (cC (.int 0))))))) (sRet (cC (.bool false))) sNx)
  (sSeq (sIf (cTest (cOp oNe (cCall f__law_plus (aCons (cCall f__law_minus (aCons (cVar 14) (aCons (cTup (aCons (cVar 5) (aCons (cC (.int 1)) aNil))) aNil))) (aCons (cVar 16) aNil))) (cCall f__law_times (aCons (cVar 13) (aCons (cVar 7) aNil))))) (sRet (cC (.bool false))) sNx)
  (sSeq (sAsg 17 (asVal (cOp oAdd (cOp oMul1 (cBt bInt (aCons (cOp oIxA (cBor 1) (cOp oAdd (cC (.int 45)) (cBor 12))) aNil)) (cC (.int 1000))) (cC (.int 7)))))
  (sSeq (sAsg 18 (asVal (cCall f__law_plus (aCons (cVar 13) (aCons (cCall f__law_times (aCons (cVar 11) (aCons (cVar 17) aNil))) aNil)))))
  (sIf (cOr (cTest (cOp oNe (cCall f_siphon_level (aCons (cVar 3) (aCons (cVar 18) aNil))) (cBor 14))) (cTest (cOp oNe (cCall f_siphon_runs (aCons (cVar 3) (aCons (cVar 18) aNil))) (cTup (aCons (cOp oAdd (cBor 15) (cBor 17)) (aCons (cCall f__law_plus (aCons (cVar 16) (aCons (cCall f__law_times (aCons (cCall f__law_times (aCons (cVar 10) (aCons (cVar 8) aNil))) (aCons (cVar 17) aNil))) aNil))) aNil)))))) (sRet (cC (.bool false))) sNx)))))))
def b0_law : Env → Out := (sSeq (sTo (sTup (sCons (sName 3) (sCons (sName 4) sNil))) (cTup (aCons (cCall f__law_siphon (aCons (cVar 1) (aCons (cOp oMul1 (cC (.int 4)) (cBor 2)) aNil))) (aCons (cCall f__law_siphon (aCons (cVar 1) (aCons (cOp oAdd (cOp oMul1 (cC (.int 4)) (cBor 2)) (cC (.int 2))) aNil))) aNil))))
  (sSeq (sTo (sTup (sCons (sName 5) (sCons (sName 6) (sCons (sName 7) (sCons (sName 8) sNil))))) (cVar 3))
  (sSeq (sTo (sTup (sCons (sName 9) (sCons (sName 10) sNil))) (cCall f__law_rounds (aCons (cVar 3) aNil)))
  (sSeq (sAsg 11 (asVal (cCall f__law_plus (aCons (cVar 9) (aCons (cVar 10) aNil)))))
  (sSeq (sIf (cTest (cOp oNe (cCall f_siphon_again (aCons (cVar 3) aNil)) (cBor 11))) (sRet (cC (.bool false))) sNx)
  (sSeq (sFor (cIt range1D (aCons (cC (.int 6)) aNil)) (sName 12) b1_law)
  (sSeq (sFor (cItems (asList (cLst (aCons (cC (.int 1)) (aCons (cC (.int 2)) (aCons (cC (.int 5)) (aCons (cOp oAdd (cC (.int 1)) (cBt bInt (aCons (cOp oIxA (cBor 1) (cC (.int 50))) aNil))) (aCons (cOp oPow (cC (.int 10)) (cC (.int 6))) aNil)))))))) (sName 19) b2_law)
  (sSeq (sPar3 21 22 23 (aCons (cCall f__law_plus (aCons (cOp oIxA (cCall f__law_rounds (aCons (cVar 4) aNil)) (cC (.int 0))) (aCons (cOp oIxA (cCall f__law_rounds (aCons (cVar 4) aNil)) (cC (.int 1))) aNil))) (aCons (cVar 11) (aCons (cC (.int 1)) aNil))))
  (sSeq (sWhile (cTest (cOp oNe (cOp oMul1 (cOp oMul1 (cOp oDiv (cOp oMul1 (cOp oIxA (cBor 22) (cC (.int 0))) (cOp oIxA (cBor 21) (cC (.int 1)))) (cOp oMul1 (cOp oIxA (cBor 22) (cC (.int 1))) (cOp oIxA (cBor 21) (cC (.int 0))))) (cOp oIxA (cBor 21) (cC (.int 0)))) (cOp oIxA (cBor 22) (cC (.int 1)))) (cOp oMul1 (cOp oIxA (cBor 22) (cC (.int 0))) (cOp oIxA (cBor 21) (cC (.int 1)))))) b3_law)
  (sSeq (sIf (cOr (cTest (cOp oNe (cCall f_both_run (aCons (cVar 3) (aCons (cVar 4) aNil))) (cBor 22))) (cTest (cOp oNe (cCall f_both_run (aCons (cVar 4) (aCons (cVar 3) aNil))) (cBor 22)))) (sRet (cC (.bool false))) sNx)
  (sSeq (sAsg 24 (asVal (asList (cLst (aCons (cC .none) (aCons (cTup aNil) (aCons (cBt bList (aCons (cBor 3) aNil)) (aCons (cSl (cBor 3) pNone (pSome (cC (.int 3)))) (aCons (cOp oAdd (cBor 3) (cTup (aCons (cC (.int 0)) aNil))) (aCons (cTup (aCons (cVar 6) (aCons (cVar 5) (aCons (cVar 7) (aCons (cVar 8) aNil))))) (aCons (cTup (aCons (cVar 5) (aCons (cVar 5) (aCons (cC (.int 1)) (aCons (cC (.int 2)) aNil))))) aNil)))))))))))
  (sSeq (sFor (cItems (cOp oAdd (cBor 24) (asList (cLst (aCons (cTup (aCons (cVar 5) (aCons (cVar 6) (aCons (cVar 8) (aCons (cVar 7) aNil))))) (aCons (cTup (aCons (cVar 5) (aCons (cVar 6) (aCons (cC (.int 0)) (aCons (cC (.int 1)) aNil))))) (aCons (cTup (aCons (cVar 5) (aCons (cVar 6) (aCons (cC (.int 1)) (aCons (cC (.int 101)) aNil))))) (aCons (cTup (aCons (cUn oNeg (cC (.int 1))) (aCons (cVar 6) (aCons (cC (.int 1)) (aCons (cC (.int 2)) aNil))))) (aCons (cTup (aCons (cC (.int 0)) (aCons (cC (.int 1001)) (aCons (cC (.int 1)) (aCons (cC (.int 2)) aNil))))) (aCons (cTup (aCons (cC (.bool true)) (aCons (cVar 6) (aCons (cC (.int 1)) (aCons (cC (.int 2)) aNil))))) aNil)))))))))) (sName 25) b4_law)
  (sSeq (sFor (cItems (asList (cLst (aCons (cC .none) (aCons (cC (.int 5)) (aCons (cTup (aCons (cUn oNeg (cC (.int 1))) (aCons (cC (.int 1)) aNil))) (aCons (cTup (aCons (cC (.int 2)) (aCons (cC (.int 4)) aNil))) (aCons (cTup (aCons (cOp oAdd (cOp oPow (cC (.int 10)) (cC (.int 12))) (cC (.int 1))) (aCons (cC (.int 1)) aNil))) (aCons (cTup (aCons (cC (.bool true)) (aCons (cC (.int 1)) aNil))) aNil))))))))) (sName 25) b5_law)
  (sSeq (sIf (cTest (cOp oNe (asList (cLc (cItems (asList (cLst (aCons (cC .none) (aCons (cC (.int 0)) (aCons (cOp oAdd (cOp oPow (cC (.int 10)) (cC (.int 12))) (cC (.int 1))) (aCons (cC (.bool true)) aNil))))))) (sName 25) cYes (cCall f__law_word (aCons (cC (.int 3)) (aCons (cVar 3) (aCons (cVar 25) (aCons (cC .none) aNil))))) [25])) (cOp oMul1 (asList (cLst (aCons (cC (.str "many")) aNil))) (cC (.int 4))))) (sRet (cC (.bool false))) sNx)
  (sIf (cTest (cOp oNe (asList (cLst (aCons (cCall f__law_word (aCons (cC (.int 5)) (aCons (cVar 6) (aCons (cVar 5) (aCons (cC .none) aNil))))) (aCons (cCall f__law_word (aCons (cC (.int 5)) (aCons (cC .none) (aCons (cVar 6) (aCons (cC .none) aNil))))) (aCons (cCall f__law_word (aCons (cC (.int 5)) (aCons (cVar 5) (aCons (cC (.int 1001)) (aCons (cC .none) aNil))))) aNil))))) (cOp oMul1 (asList (cLst (aCons (cC (.str "siphon")) aNil))) (cC (.int 3))))) (sRet (cC (.bool false))) sNx)))))))))))))))
def c_law : Env → Out := (sSeq (sAsg 1 (asVal (cCall f__law_draws (aCons (cVar 0) (aCons (cC (.int 60)) aNil)))))
  (sSeq (sFor (cIt range1D (aCons (cC (.int 5)) aNil)) (sName 2) b0_law)
  (sSeq (sTo (sTup (sCons (sName 26) (sCons (sName 13) sNil))) (cTup (aCons (cOp oAdd (cC (.int 1)) (cOp oMod (cBt bInt (aCons (cOp oIxA (cBor 1) (cC (.int 55))) aNil)) (cC (.int 9)))) (aCons (cCall f__law_low (aCons (cOp oAdd (cC (.int 1)) (cOp oMod (cBt bInt (aCons (cOp oIxA (cBor 1) (cC (.int 56))) aNil)) (cC (.int 12)))) (aCons (cOp oAdd (cC (.int 1)) (cOp oMod (cBt bInt (aCons (cOp oIxA (cBor 1) (cC (.int 57))) aNil)) (cC (.int 3)))) aNil))) aNil))))
  (sSeq (sAsg 27 (asVal (asList (cLst aNil))))
  (sSeq (sFor (cIt range2D (aCons (cC (.int 1)) (aCons (cC (.int 101)) aNil))) (sName 7) b6_law)
  (sSeq (sIf (cTest (cOp oNe (cCall f_rates_again (aCons (cC (.int 3)) (aCons (cOp oAdd (cC (.int 3)) (cBor 26)) (aCons (cVar 13) aNil)))) (cBt bTuple (aCons (cBor 27) aNil)))) (sRet (cC (.bool false))) sNx)
  (sSeq (sAsg 3 (asVal (cTup (aCons (cC (.int 2)) (aCons (cC (.int 10)) (aCons (cC (.int 2)) (aCons (cC (.int 6)) aNil)))))))
  (sSeq (sIf (cOr (cTest (cOp oNe (cCall f_siphon_again (aCons (cVar 3) aNil)) (cTup (aCons (cC (.int 6)) (aCons (cC (.int 1)) aNil))))) (cTest (cOp oNe (cCall f_siphon_level (aCons (cVar 3) (aCons (cTup (aCons (cC (.int 5)) (aCons (cC (.int 1)) aNil))) aNil))) (cTup (aCons (cC (.int 6)) (aCons (cC (.int 1)) aNil)))))) (sRet (cC (.bool false))) sNx)
  (sRet (cAndV (cOp oEq (cCall f_siphon_runs (aCons (cVar 3) (aCons (cTup (aCons (cC (.int 5)) (aCons (cC (.int 1)) aNil))) aNil))) (cTup (aCons (cC (.int 1)) (aCons (cTup (aCons (cC (.int 6)) (aCons (cC (.int 1)) aNil))) aNil)))) (cAndV (cOp oEq (cCall f_both_run (aCons (cVar 3) (aCons (cTup (aCons (cC (.int 0)) (aCons (cC (.int 2)) (aCons (cC (.int 1)) (aCons (cC (.int 2)) aNil))))) aNil))) (cTup (aCons (cC (.int 12)) (aCons (cC (.int 1)) aNil)))) (cOp oEq (cCall f_siphon_time (aCons (cVar 3) (aCons (cOp oPow (cC (.int 10)) (cC (.int 12))) aNil))) (cTup (aCons (cOp oSub (cOp oMul1 (cC (.int 6)) (cOp oPow (cC (.int 10)) (cC (.int 12)))) (cC (.int 2))) (aCons (cC (.int 1)) aNil)))))))))))))))
def f_law : List D → R D := semOf 29 1 c_law
end DL.K95

/-! M_K95 -/
namespace DL.K95
open PySem L2 DL.Q DL.Dr
theorem k_whole : f_is_whole = Q.f_is_whole := rfl
theorem k_div : f_divisor = Q.f_divisor := rfl
theorem quo_ok (p q : Int) (h0 : 0 < q) (h1 : q < 9000000000000000000) : f_quotient [.int p, .int q] = .ok (fr p q) := by
  have g0 : 0 < p.gcd q := Int.gcd_pos_of_ne_zero_right p (by omega)
  have g1 : p.gcd q ≤ q.natAbs := Int.gcd_le_natAbs_right p (by omega)
  have d := divisor_ok p q (by unfold FUEL; omega)
  have c1 : CDivW p (p.gcd q) := cdivw (by omega)
  have c2 : CDivW q (p.gcd q) := cdivw (by omega)
  simp [f_quotient, semOf, c_quotient, k_div, d, h0, c1, c2, fr, num, den]
theorem lplus_c (a b : Rat) : (((a.num * (b.den : Int) + b.num * (a.den : Int) : Int)) : Rat) = (a + b) * (((a.den : Int) * (b.den : Int) : Int) : Rat) := by
  rw [Rat.intCast_add, Rat.intCast_mul, Rat.intCast_mul, Rat.intCast_mul, ← rat_mul_den a, ← rat_mul_den b]
  grind
theorem plus_ok {a b : Rat} (h : a.den * b.den < 9000000000000000000) : f_plus [rd a, rd b] = .ok (rd (a + b)) := by
  have d1 := a.den_pos
  have d2 := b.den_pos
  have dp := Nat.mul_pos d1 d2
  have e : ((a.den : Int) * (b.den : Int)) = ((a.den * b.den : Nat) : Int) := by rw [Int.natCast_mul]
  have l1 : a.den ≤ a.den * b.den := Nat.le_mul_of_pos_right _ d2
  have l2 : b.den ≤ a.den * b.den := Nat.le_mul_of_pos_left _ d1
  have q := quo_ok (a.num * b.den + b.num * a.den) (a.den * b.den) (by rw [e]; omega) (by rw [e]; omega)
  rw [div_rd (r := a + b) (by rw [e]; omega) (lplus_c a b)] at q
  simp [f_plus, semOf, c_plus, rd_num, rd_den, cmul_r (i := a.num) (j := (b.den : Int)) (by omega), cmul_r (i := b.num) (j := (a.den : Int)) (by omega), cmul_r (i := (a.den : Int)) (j := (b.den : Int)) (by omega), q]
theorem times_ok {a : Rat} {n : Int} (h : a.den < 9000000000000000000) (hn : -18446744073709551616 < n ∧ n < 18446744073709551616) : f_times [rd a, .int n] = .ok (rd (a * (n : Rat))) := by
  have d1 := a.den_pos
  have q := quo_ok (a.num * n) a.den (by omega) (by omega)
  rw [div_rd (r := a * (n : Rat)) (by omega) (by rw [Rat.intCast_mul, ← rat_mul_den a]; grind)] at q
  simp [f_times, semOf, c_times, rd_num, rd_den, cmul_r (i := a.num) (j := n) hn, q]
theorem minus_ok {a b : Rat} (h : a.den * b.den < 9000000000000000000) : f_minus [rd a, rd b] = .ok (rd (a - b)) := by
  have d1 := a.den_pos
  have d2 := b.den_pos
  have l2 : b.den ≤ a.den * b.den := Nat.le_mul_of_pos_left _ d1
  have t := times_ok (a := b) (n := -1) (by omega) (by decide)
  have e : b * ((-1 : Int) : Rat) = -b := by
    have : ((-1 : Int) : Rat) = -1 := rfl
    rw [this]; grind
  rw [e] at t
  have p := plus_ok (a := a) (b := -b) (by rw [den_neg]; exact h)
  rw [show a + -b = a - b by grind] at p
  simp [f_minus, semOf, c_minus, t, p]
theorem less_ok {a b : Rat} (ha : a.den < 9000000000000000000) (hb : b.den < 9000000000000000000) : f_is_less [rd a, rd b] = .ok (.bool (decide (a < b))) := by
  have e : decide (a.num * (b.den : Int) < b.num * (a.den : Int)) = decide (a < b) := decide_eq_decide.mpr (Rat.lt_iff a b).symm
  simp [f_is_less, semOf, c_is_less, rd_num, rd_den, cmul_r (i := a.num) (j := (b.den : Int)) (by omega), cmul_r (i := b.num) (j := (a.den : Int)) (by omega)]
  exact (Rat.lt_iff a b).symm
end DL.K95


namespace DL.K95
open PySem L2 DL.Q DL.Dr
theorem den_div_le {p q : Int} (hq : 0 < q) : (((p : Rat) / (q : Rat)).den : Int) ≤ q := by
  have e := fr_rd (p := p) (q := q) (by omega)
  simp only [fr, rd, PyData.tuple.injEq, List.cons.injEq, PyData.int.injEq, and_true] at e
  have n := (num_abs (p := p) (q := q) (by omega)).2
  rw [e.2] at n
  omega
/-- a siphon -/
structure Sp (l h c r : Int) : Prop where
  l0 : 0 ≤ l
  lh : l < h
  h1 : h ≤ 1000
  c0 : 1 ≤ c
  cr : c < r
  r1 : r ≤ 100
def sd (l h c r : Int) : D := .tuple [.int l, .int h, .int c, .int r]
def ri (l h c r : Int) : Rat := ((h - l : Int) : Rat) / (c : Rat)
def fa (l h c r : Int) : Rat := ((h - l : Int) : Rat) / ((r - c : Int) : Rat)
def ag (l h c r : Int) : Rat := ri l h c r + fa l h c r
theorem atI2 {α : Type} (x y z : α) (l : List α) : atI (x :: y :: z :: l) 2 = some z := atI_nat (j := 2) rfl
theorem atI3 {α : Type} (x y z u : α) (l : List α) : atI (x :: y :: z :: u :: l) 3 = some u := atI_nat (j := 3) rfl
section
variable {l h c r : Int}
theorem check_ok (s : Sp l h c r) : f__check [sd l h c r] = .ok .none := by
  obtain ⟨a1, a2, a3, a4, a5, a6⟩ := s
  have w1 := is_whole_ok (.int l) 0 1000
  have w2 := is_whole_ok (.int h) 1 1000
  have w3 := is_whole_ok (.int c) 1 100
  have w4 := is_whole_ok (.int r) 1 100
  have v1 : isW (.int l) 0 1000 = true := by simp [isW]; omega
  have v2 : isW (.int h) 1 1000 = true := by simp [isW]; omega
  have v3 : isW (.int c) 1 100 = true := by simp [isW]; omega
  have v4 : isW (.int r) 1 100 = true := by simp [isW]; omega
  simp [f__check, semOf, c__check, sd, isTupleD, k_whole, w1, w2, w3, w4, v1, v2, v3, v4, show ¬ h ≤ l by omega, show ¬ r ≤ c by omega]
theorem rise_ok (s : Sp l h c r) : f__rise [sd l h c r] = .ok (rd (ri l h c r)) := by
  have := s.c0
  have := s.cr
  have := s.r1
  have q := quo_ok (h - l) c (by omega) (by omega)
  rw [fr_rd (by omega)] at q
  simp [f__rise, semOf, c__rise, sd, atI0, atI1, atI2, q, ri]
theorem fall_ok (s : Sp l h c r) : f__fall [sd l h c r] = .ok (rd (fa l h c r)) := by
  have := s.c0
  have := s.cr
  have := s.r1
  have q := quo_ok (h - l) (r - c) (by omega) (by omega)
  rw [fr_rd (by omega)] at q
  simp [f__fall, semOf, c__fall, sd, atI0, atI1, atI2, atI3, q, fa]
theorem ri_den (s : Sp l h c r) : (ri l h c r).den ≤ 100 := by
  have := s.c0
  have := s.cr
  have := s.r1
  have d := den_div_le (p := h - l) (q := c) (by omega)
  unfold ri
  omega
theorem fa_den (s : Sp l h c r) : (fa l h c r).den ≤ 100 := by
  have := s.c0
  have := s.cr
  have := s.r1
  have d := den_div_le (p := h - l) (q := r - c) (by omega)
  unfold fa
  omega
theorem ag_den (s : Sp l h c r) : (ag l h c r).den ≤ 10000 :=
  Nat.le_trans (den_add_le _ _) (Nat.mul_le_mul (ri_den s) (fa_den s))
theorem again_ok (s : Sp l h c r) : f__again [sd l h c r] = .ok (rd (ag l h c r)) := by
  have d : (ri l h c r).den * (fa l h c r).den ≤ 100 * 100 := Nat.mul_le_mul (ri_den s) (fa_den s)
  have p := plus_ok (a := ri l h c r) (b := fa l h c r) (by omega)
  simp [f__again, semOf, c__again, rise_ok s, fall_ok s, p, ag]
end
end DL.K95


namespace DL.K95
open PySem L2 DL.Q DL.Dr
theorem cast_pos {i : Int} (h : 0 < i) : (0 : Rat) < (i : Rat) := by
  have := Rat.intCast_lt_intCast.mpr h
  exact this
theorem div_pos' {a b : Rat} (ha : 0 < a) (hb : 0 < b) : 0 < a / b := by
  rw [Rat.lt_div_iff hb]
  grind
section
variable {l h c r : Int}
theorem ri_pos (s : Sp l h c r) : 0 < ri l h c r := div_pos' (cast_pos (by have := s.lh; omega)) (cast_pos (by have := s.c0; omega))
theorem fa_pos (s : Sp l h c r) : 0 < fa l h c r := div_pos' (cast_pos (by have := s.lh; omega)) (cast_pos (by have := s.cr; omega))
theorem ag_pos (s : Sp l h c r) : 0 < ag l h c r := by
  have := ri_pos s
  have := fa_pos s
  unfold ag
  grind
/-- how many whole times -/
structure Fl (t a : Rat) (k : Int) : Prop where
  lo : a * (k : Rat) ≤ t
  hi : t < a * (k : Rat) + a
theorem fl_quot {t a : Rat} (ha : 0 < a) : Fl t a (t.num * (a.den : Int) / ((t.den : Int) * a.num)) := by
  have an : 0 < a.num := by
    have := (Rat.lt_iff 0 a).mp ha
    simpa using this
  have td := t.den_pos
  have ad := a.den_pos
  have yp : 0 < (t.den : Int) * a.num := Int.mul_pos (by omega) an
  obtain ⟨k, hk⟩ : ∃ k, t.num * (a.den : Int) / ((t.den : Int) * a.num) = k := ⟨_, rfl⟩
  have k1 : k * ((t.den : Int) * a.num) ≤ t.num * (a.den : Int) := by rw [← hk]; exact Int.ediv_mul_le _ (by omega)
  have k2 : t.num * (a.den : Int) < (k + 1) * ((t.den : Int) * a.num) := by rw [← hk]; exact Int.lt_ediv_add_one_mul_self _ yp
  rw [hk]
  have e1 := rat_mul_den t
  have e2 := rat_mul_den a
  have dt : (0 : Rat) < ((t.den : Int) : Rat) := cast_pos (by omega)
  have da : (0 : Rat) < ((a.den : Int) : Rat) := cast_pos (by omega)
  have r1 := Rat.intCast_le_intCast.mpr k1
  have r2 := Rat.intCast_lt_intCast.mpr k2
  simp only [Rat.intCast_mul, Rat.intCast_add] at r1 r2
  rw [← e1, ← e2] at r1 r2
  have dd := Rat.mul_pos dt da
  generalize ((t.den : Int) : Rat) = x at *
  generalize ((a.den : Int) : Rat) = y at *
  constructor
  · refine Rat.le_of_mul_le_mul_right (c := x * y) ?_ dd
    have : a * (k : Rat) * (x * y) = (k : Rat) * (x * (a * y)) := by grind
    rw [this]
    have : t * (x * y) = t * x * y := by grind
    rw [this]
    exact r1
  · refine (Rat.mul_lt_mul_right dd).mp ?_
    have h1 : (a * (k : Rat) + a) * (x * y) = ((k : Rat) + 1) * (x * (a * y)) := by grind
    have h2 : t * (x * y) = t * x * y := by grind
    rw [h1, h2]
    exact r2
theorem fl_one {t a : Rat} {k m : Int} (ha : 0 < a) (p : Fl t a k) (q : Fl t a m) : k = m := by
  have key : ∀ {x y : Int}, Fl t a x → Fl t a y → x < y + 1 := fun {x y} p q => by
    have z : a * (x : Rat) < a * ((y + 1 : Int) : Rat) := by
      rw [Rat.intCast_add]
      have := p.lo
      have := q.hi
      have e : ((1 : Int) : Rat) = 1 := rfl
      rw [e]
      grind
    exact Rat.intCast_lt_intCast.mp ((Rat.mul_lt_mul_left ha).mp z)
  have := key p q
  have := key q p
  omega
end
end DL.K95


namespace DL.K95
open PySem L2 DL.Q DL.Dr
theorem times_okC {a : Rat} {n : Int} (h : a.den < 9000000000000000000) (hn : CMul a.num n) : f_times [rd a, .int n] = .ok (rd (a * (n : Rat))) := by
  have d1 := a.den_pos
  have q := quo_ok (a.num * n) a.den (by omega) (by omega)
  rw [div_rd (r := a * (n : Rat)) (by omega) (by rw [Rat.intCast_mul, ← rat_mul_den a]; grind)] at q
  simp [f_times, semOf, c_times, rd_num, rd_den, hn, q]
theorem den_muli (a : Rat) (n : Int) : (a * (n : Rat)).den ≤ a.den := by
  have := den_mul_le a (n : Rat)
  simpa using this
section
variable {l h c r : Int}
theorem div_le' {p q : Int} (h0 : 0 < q) (h1 : p ≤ 1000) : ((p : Rat) / (q : Rat)) ≤ 1000 := by
  have q0 := cast_pos h0
  refine Rat.le_of_mul_le_mul_right (c := (q : Rat)) ?_ q0
  have e : (p : Rat) / (q : Rat) * (q : Rat) = (p : Rat) := by
    generalize (q : Rat) = x at q0
    grind
  rw [e]
  have : p ≤ 1000 * q := by omega
  have z := Rat.intCast_le_intCast.mpr this
  rw [Rat.intCast_mul] at z
  exact z
theorem ag_num (s : Sp l h c r) : 0 < (ag l h c r).num ∧ (ag l h c r).num ≤ 20000000 := by
  have hp := ag_pos s
  have a1 : ri l h c r ≤ 1000 := div_le' (by have := s.c0; omega) (by have := s.l0; have := s.h1; omega)
  have a2 : fa l h c r ≤ 1000 := div_le' (by have := s.cr; omega) (by have := s.l0; have := s.h1; omega)
  have a3 : ag l h c r ≤ 2000 := by unfold ag; grind
  have d := ag_den s
  have e := rat_mul_den (ag l h c r)
  have dp := (ag l h c r).den_pos
  refine ⟨by have := (Rat.lt_iff 0 (ag l h c r)).mp hp; simpa using this, ?_⟩
  have d0 : (0 : Rat) ≤ (((ag l h c r).den : Int) : Rat) := Rat.le_of_lt (cast_pos (by omega))
  have z := Rat.mul_le_mul_of_nonneg_right a3 d0
  rw [e] at z
  have z2 : ((ag l h c r).num : Rat) ≤ ((2000 * ((ag l h c r).den : Int) : Int) : Rat) := by rw [Rat.intCast_mul]; exact z
  have := Rat.intCast_le_intCast.mp z2
  omega
theorem rounds_ok (s : Sp l h c r) {t : Rat} {k : Int} (ht : t.den ≤ 100000000) (hk : Fl t (ag l h c r) k) : f__rounds [sd l h c r, rd t] = .ok (.tuple [.int k, rd (t - ag l h c r * (k : Rat))]) := by
  obtain ⟨n0, n1⟩ := ag_num s
  have ad := ag_den s
  have td := t.den_pos
  have agd := (ag l h c r).den_pos
  have ek : t.num * ((ag l h c r).den : Int) / ((t.den : Int) * (ag l h c r).num) = k := fl_one (ag_pos s) (fl_quot (ag_pos s)) hk
  have m := Int.mul_le_mul (show (t.den : Int) ≤ 100000000 by omega) n1 (by omega) (by decide)
  have m0 := Int.mul_pos (show 0 < (t.den : Int) by omega) n0
  have cd : CDivW (t.num * ((ag l h c r).den : Int)) ((t.den : Int) * (ag l h c r).num) := cdivw ⟨m0, by omega⟩
  have tm := times_okC (a := ag l h c r) (n := k) (by omega) (cmul_l (by omega))
  have dk := den_muli (ag l h c r) k
  have mi := minus_ok (a := t) (b := ag l h c r * (k : Rat)) (by
    have := Nat.mul_le_mul ht (Nat.le_trans dk ad)
    omega)
  simp [f__rounds, semOf, c__rounds, again_ok s, rd_num, rd_den, cmul_r (i := t.num) (j := ((ag l h c r).den : Int)) (by omega), cmul_l (i := (t.den : Int)) (j := (ag l h c r).num) (by omega), cd, ek, tm, mi]
theorem is_quo_ok {t : Rat} (h0 : 0 ≤ t) (ht : t.den ≤ 100000000) : f_is_quotient [rd t] = .ok (.bool true) := by
  have lw := rat_low t
  have td := t.den_pos
  have dv := divisor_ok t.num (t.den : Int) (by unfold FUEL; omega)
  rw [lw.cop] at dv
  have n0 : 0 ≤ t.num := by
    have := (Rat.le_iff 0 t).mp h0
    simpa using this
  simp [f_is_quotient, semOf, c_is_quotient, rd, isTupleD, f_is_integer, c_is_integer, isIntD, isBoolD, k_div, atI0, atI1, dv, n0, show ¬ t.den = 0 by omega]
theorem ckt_ok (s : Sp l h c r) {t : Rat} (h0 : 0 ≤ t) (h1 : t ≤ 1000000000000) (ht : t.den ≤ 100000000) : f__check_time [sd l h c r, rd t] = .ok .none := by
  have ls := less_ok (a := ((1000000000000 : Int) : Rat)) (b := t) (by simp) (by omega)
  rw [rd_int] at ls
  have no : ¬ ((1000000000000 : Int) : Rat) < t := by
    have e : ((1000000000000 : Int) : Rat) = 1000000000000 := rfl
    rw [e]
    grind
  rw [decide_eq_false no] at ls
  simp [f__check_time, semOf, c__check_time, check_ok s, is_quo_ok h0 ht, ls]
end
end DL.K95


namespace DL.K95
open PySem L2 DL.Q DL.Dr
theorem times_okR {a : Rat} {n : Int} (h : a.den < 9000000000000000000) (hn : -1000 ≤ n ∧ n ≤ 1000) : f_times [rd a, .int n] = .ok (rd (a * (n : Rat))) := times_ok h (by omega)
section
variable {l h c r : Int}
/-- the level and the runs, by the rest -/
def lev (l h c r : Int) (x : Rat) : Rat := if ri l h c r < x then (h : Rat) - (x - ri l h c r) * ((r - c : Int) : Rat) else (l : Rat) + x * (c : Rat)
theorem nat_mul3 {a b A B N : Nat} (h1 : a ≤ A) (h2 : b ≤ B) (h3 : A * B < N) : a * b < N := Nat.lt_of_le_of_lt (Nat.mul_le_mul h1 h2) h3
theorem nle {a b A B : Nat} (h1 : a ≤ A) (h2 : b ≤ B) : a * b ≤ A * B := Nat.mul_le_mul h1 h2
theorem rest_den (s : Sp l h c r) {t : Rat} {k : Int} (ht : t.den ≤ 100000000) : (t - ag l h c r * (k : Rat)).den ≤ 1000000000000 :=
  Nat.le_trans (den_sub_le _ _) (nle (A := 100000000) (B := 10000) ht (Nat.le_trans (den_muli _ _) (ag_den s)))
theorem level_ok (s : Sp l h c r) {t : Rat} {k : Int} (h0 : 0 ≤ t) (h1 : t ≤ 1000000000000) (ht : t.den ≤ 100000000) (hk : Fl t (ag l h c r) k) : f_siphon_level [sd l h c r, rd t] = .ok (rd (lev l h c r (t - ag l h c r * (k : Rat)))) := by
  have ck := ckt_ok s h0 h1 ht
  have ro := rounds_ok s ht hk
  have rs := rise_ok s
  have dx := rest_den s (k := k) ht
  generalize t - ag l h c r * (k : Rat) = x at ro dx ⊢
  have rdn := ri_den s
  have ls := less_ok (a := ri l h c r) (b := x) (by omega) (by omega)
  obtain ⟨a1, a2, a3, a4, a5, a6⟩ := s
  by_cases c1 : ri l h c r < x
  · have d1 : (x - ri l h c r).den ≤ 100000000000000 := Nat.le_trans (den_sub_le _ _) (nle (A := 1000000000000) (B := 100) dx rdn)
    have m1 := minus_ok (a := x) (b := ri l h c r) (nat_mul3 dx rdn (by decide))
    have t1 := times_okR (a := x - ri l h c r) (n := r - c) (by omega) (by omega)
    have d2 := Nat.le_trans (den_muli (x - ri l h c r) (r - c)) d1
    have m2 := minus_ok (a := (h : Rat)) (b := (x - ri l h c r) * ((r - c : Int) : Rat)) (by rw [Rat.den_intCast, Nat.one_mul]; omega)
    rw [rd_int] at m2
    have lv : lev l h c r x = (h : Rat) - (x - ri l h c r) * ((r - c : Int) : Rat) := by unfold lev; rw [if_pos c1]
    rw [lv]
    rw [decide_eq_true c1] at ls
    generalize hS : sd l h c r = S at ck ro rs ⊢
    have i0 : oIxA S (.int 0) = some (.int l) := by rw [← hS]; rfl
    have i1 : oIxA S (.int 1) = some (.int h) := by rw [← hS]; rfl
    have i2 : oIxA S (.int 2) = some (.int c) := by rw [← hS]; rfl
    have i3 : oIxA S (.int 3) = some (.int r) := by rw [← hS]; rfl
    generalize ((x - ri l h c r) * ((r - c : Int) : Rat)) = y at t1 m2 ⊢
    generalize (h : Rat) - y = z at m2 ⊢
    simp [f_siphon_level, semOf, c_siphon_level, ck, ro, rs, ls, atI1, i0, i1, i2, i3, m1, t1, m2]
  · have t1 := times_okR (a := x) (n := c) (by omega) (by omega)
    have d2 := Nat.le_trans (den_muli x c) dx
    have p1 := plus_ok (a := (l : Rat)) (b := x * (c : Rat)) (by rw [Rat.den_intCast, Nat.one_mul]; omega)
    rw [rd_int] at p1
    have lv : lev l h c r x = (l : Rat) + x * (c : Rat) := by unfold lev; rw [if_neg c1]
    rw [lv]
    rw [decide_eq_false c1] at ls
    generalize hS : sd l h c r = S at ck ro rs ⊢
    have i0 : oIxA S (.int 0) = some (.int l) := by rw [← hS]; rfl
    have i2 : oIxA S (.int 2) = some (.int c) := by rw [← hS]; rfl
    generalize x * (c : Rat) = y at t1 p1 ⊢
    generalize (l : Rat) + y = z at p1 ⊢
    simp [f_siphon_level, semOf, c_siphon_level, ck, ro, rs, ls, atI1, i0, i2, t1, p1]
end
end DL.K95


namespace DL.K95
open PySem L2 DL.Q DL.Dr
section
variable {l h c r : Int}
theorem fa_num (s : Sp l h c r) : -10000000 < (fa l h c r).num ∧ (fa l h c r).num ≤ 100000 := by
  have hp := fa_pos s
  have a2 : fa l h c r ≤ 1000 := div_le' (by have := s.cr; omega) (by have := s.l0; have := s.h1; omega)
  have d := fa_den s
  have e := rat_mul_den (fa l h c r)
  have dp := (fa l h c r).den_pos
  refine ⟨by have := (Rat.lt_iff 0 (fa l h c r)).mp hp; simp at this; omega, ?_⟩
  have d0 : (0 : Rat) ≤ (((fa l h c r).den : Int) : Rat) := Rat.le_of_lt (cast_pos (by omega))
  have z := Rat.mul_le_mul_of_nonneg_right a2 d0
  rw [e] at z
  have z2 : ((fa l h c r).num : Rat) ≤ ((1000 * ((fa l h c r).den : Int) : Int) : Rat) := by rw [Rat.intCast_mul]; exact z
  have := Rat.intCast_le_intCast.mp z2
  omega
def out (l h c r k : Int) (x : Rat) : Rat := (fa l h c r * (k : Rat) + (if x < ri l h c r then 0 else x - ri l h c r)) * (r : Rat)
def begun (l h c r k : Int) (x : Rat) : Int := k + (if x < ri l h c r then 0 else 1)
theorem rd_zero : rd 0 = .tuple [.int 0, .int 1] := rd_int 0
theorem runs_ok (s : Sp l h c r) {t : Rat} {k : Int} (h0 : 0 ≤ t) (h1 : t ≤ 1000000000000) (ht : t.den ≤ 100000000) (hk : Fl t (ag l h c r) k) :
    f_siphon_runs [sd l h c r, rd t] = .ok (.tuple [.int (begun l h c r k (t - ag l h c r * (k : Rat))), rd (out l h c r k (t - ag l h c r * (k : Rat)))]) := by
  have ck := ckt_ok s h0 h1 ht
  have ro := rounds_ok s ht hk
  have rs := rise_ok s
  have fs := fall_ok s
  have dx := rest_den s (k := k) ht
  generalize t - ag l h c r * (k : Rat) = x at ro dx ⊢
  have rdn := ri_den s
  have fdn := fa_den s
  have ls := less_ok (a := x) (b := ri l h c r) (by omega) (by omega)
  obtain ⟨fn0, fn1⟩ := fa_num s
  have tk := times_okC (a := fa l h c r) (n := k) (by omega) (cmul_l (by omega))
  have dk := Nat.le_trans (den_muli (fa l h c r) k) fdn
  obtain ⟨a1, a2, a3, a4, a5, a6⟩ := s
  obtain ⟨u, hu⟩ : ∃ u, (if x < ri l h c r then (0 : Rat) else x - ri l h c r) = u := ⟨_, rfl⟩
  have du : u.den ≤ 100000000000000 := by
    rw [← hu]
    split
    · decide
    · exact Nat.le_trans (den_sub_le _ _) (nle (A := 1000000000000) (B := 100) dx rdn)
  have pl := plus_ok (a := fa l h c r * (k : Rat)) (b := u) (nat_mul3 dk du (by decide))
  have dp : (fa l h c r * (k : Rat) + u).den ≤ 10000000000000000 := Nat.le_trans (den_add_le _ _) (nle (A := 100) (B := 100000000000000) dk du)
  have tr := times_okR (a := fa l h c r * (k : Rat) + u) (n := r) (by omega) (by omega)
  have ov : out l h c r k x = (fa l h c r * (k : Rat) + u) * (r : Rat) := by unfold out; rw [hu]
  rw [ov]
  generalize hS : sd l h c r = S at ck ro rs fs ⊢
  have i3 : oIxA S (.int 3) = some (.int r) := by rw [← hS]; rfl
  generalize (fa l h c r * (k : Rat) + u) * (r : Rat) = y at tr ⊢
  generalize fa l h c r * (k : Rat) + u = z at tr pl
  generalize fa l h c r * (k : Rat) = v at tk pl
  by_cases c1 : x < ri l h c r
  · rw [decide_eq_true c1] at ls
    rw [if_pos c1] at hu
    subst hu
    rw [rd_zero] at pl
    simp [f_siphon_runs, semOf, c_siphon_runs, ck, ro, rs, fs, ls, i3, tk, pl, tr, begun, c1]
  · have m1 := minus_ok (a := x) (b := ri l h c r) (nat_mul3 dx rdn (by decide))
    rw [decide_eq_false c1] at ls
    rw [if_neg c1] at hu
    rw [hu] at m1
    simp [f_siphon_runs, semOf, c_siphon_runs, ck, ro, rs, fs, ls, i3, tk, pl, tr, begun, c1, m1]
end
end DL.K95


namespace DL.K95
open PySem L2 DL.Q DL.Dr
theorem llow_ok (p q : Int) (h0 : 0 < q) (h1 : q < 9000000000000000000) : f__law_low [.int p, .int q] = .ok (fr p q) := by
  have g0 : 0 < p.gcd q := Int.gcd_pos_of_ne_zero_right p (by omega)
  have g1 : p.gcd q ≤ q.natAbs := Int.gcd_le_natAbs_right p (by omega)
  have c1 : CDivW p (p.gcd q) := cdivw (by omega)
  have c2 : CDivW q (p.gcd q) := cdivw (by omega)
  have e := euclid (t := cTest (cOp oGt (cBor 3) (cC (.int 0)))) (b := b0__law_low) (E := fun x y => [.val (.int p), .val (.int q), .val (.int (x : Nat)), .val (.int (y : Nat))]) (fun x y => by simp) (fun x y hy => by
    simp [b0__law_low]
    omega) FUEL p.natAbs q.natAbs (by unfold FUEL; omega)
  have e' : whileLoop (cTest (cOp oGt (cBor 3) (cC (.int 0)))) b0__law_low FUEL [.val (.int p), .val (.int q), .val (.int (p.natAbs : Int)), .val (.int (q.natAbs : Int))] = .nx [.val (.int p), .val (.int q), .val (.int (p.gcd q : Int)), .val (.int 0)] := e
  simp only [f__law_low, semOf, c__law_low]
  simp [absI, e', h0, c1, c2, fr, num, den]
theorem lplus_ok {a b : Rat} (h : a.den * b.den < 9000000000000000000) : f__law_plus [rd a, rd b] = .ok (rd (a + b)) := by
  have d1 := a.den_pos
  have d2 := b.den_pos
  have dp := Nat.mul_pos d1 d2
  have e : ((a.den : Int) * (b.den : Int)) = ((a.den * b.den : Nat) : Int) := by rw [Int.natCast_mul]
  have l1 : a.den ≤ a.den * b.den := Nat.le_mul_of_pos_right _ d2
  have l2 : b.den ≤ a.den * b.den := Nat.le_mul_of_pos_left _ d1
  have q := llow_ok (a.num * b.den + b.num * a.den) (a.den * b.den) (by rw [e]; omega) (by rw [e]; omega)
  rw [div_rd (r := a + b) (by rw [e]; omega) (lplus_c a b)] at q
  simp [f__law_plus, semOf, c__law_plus, rd_num, rd_den, cmul_r (i := a.num) (j := (b.den : Int)) (by omega), cmul_r (i := b.num) (j := (a.den : Int)) (by omega), cmul_r (i := (a.den : Int)) (j := (b.den : Int)) (by omega), q]
theorem ltimes_ok {a : Rat} {n : Int} (h : a.den < 9000000000000000000) (hn : CMul a.num n) : f__law_times [rd a, .int n] = .ok (rd (a * (n : Rat))) := by
  have d1 := a.den_pos
  by_cases z : n = 0
  · subst z
    have e : a * ((0 : Int) : Rat) = 0 := by
      have : ((0 : Int) : Rat) = 0 := rfl
      rw [this]; grind
    rw [e, rd_zero]
    simp [f__law_times, semOf, c__law_times]
  · have q := llow_ok (a.num * n) a.den (by omega) (by omega)
    rw [div_rd (r := a * (n : Rat)) (by omega) (by rw [Rat.intCast_mul, ← rat_mul_den a]; grind)] at q
    simp [f__law_times, semOf, c__law_times, rd_num, rd_den, hn, q, z]
theorem lminus_ok {a b : Rat} (h : a.den * b.den < 9000000000000000000) : f__law_minus [rd a, rd b] = .ok (rd (a - b)) := by
  have p := lplus_ok (a := a) (b := -b) (by rw [den_neg]; exact h)
  rw [show a + -b = a - b by grind, show rd (-b) = .tuple [.int (-b.num), .int (b.den : Nat)] from rfl] at p
  simp [f__law_minus, semOf, c__law_minus, rd_num, rd_den, p]
theorem lless_ok {a b : Rat} (ha : a.den < 9000000000000000000) (hb : b.den < 9000000000000000000) : f__law_less [rd a, rd b] = .ok (.bool (decide (a < b))) := by
  simp [f__law_less, semOf, c__law_less, rd_num, rd_den, cmul_r (i := a.num) (j := (b.den : Int)) (by omega), cmul_r (i := b.num) (j := (a.den : Int)) (by omega)]
  exact (Rat.lt_iff a b).symm
theorem lrounds_ok {l h c r : Int} (s : Sp l h c r) : f__law_rounds [sd l h c r] = .ok (.tuple [rd (ri l h c r), rd (fa l h c r)]) := by
  have := s.c0
  have := s.cr
  have := s.r1
  have q1 := llow_ok (h - l) c (by omega) (by omega)
  have q2 := llow_ok (h - l) (r - c) (by omega) (by omega)
  rw [fr_rd (by omega)] at q1 q2
  simp [f__law_rounds, semOf, c__law_rounds, sd, q1, q2, ri, fa]
end DL.K95


namespace DL.K95
open PySem L2 DL.Q DL.Dr
section
variable {l h c r : Int}
/-- the state of the law's walk: so much time left, begun so often, so much run out -/
def atE (l h c r : Int) (x : Rat) (b : Int) (o : Rat) (y : SV) : Env := [.val (sd l h c r), .val (rd x), .val (.int l), .val (.int h), .val (.int c), .val (.int r), .val (rd (ri l h c r)), .val (rd (fa l h c r)), .val (.int b), .val (rd o), y]
theorem at_go (s : Sp l h c r) {x o : Rat} {b : Int} {y : SV} (hx : x.den ≤ 1000000000000) (hy : (x - ri l h c r).den ≤ 1000000000000) (ho : o.den ≤ 1000) (c1 : ¬ x < ri l h c r) (c2 : ¬ x - ri l h c r < fa l h c r) :
    b0__law_at (atE l h c r x b o y) = .nx (atE l h c r (x - ag l h c r) (b + 1) (o + fa l h c r * (r : Rat)) y) := by
  have rdn := ri_den s
  have fdn := fa_den s
  obtain ⟨fn0, fn1⟩ := fa_num s
  have l1 := lless_ok (a := x) (b := ri l h c r) (by omega) (by omega)
  have m1 := lminus_ok (a := x) (b := ri l h c r) (nat_mul3 hx rdn (by decide))
  have l2 := lless_ok (a := x - ri l h c r) (b := fa l h c r) (by omega) (by omega)
  have m2 := lminus_ok (a := x - ri l h c r) (b := fa l h c r) (nat_mul3 hy fdn (by decide))
  have t1 := ltimes_ok (a := fa l h c r) (n := r) (by omega) (cmul_l (by omega))
  have d1 := Nat.le_trans (den_muli (fa l h c r) r) fdn
  have p1 := lplus_ok (a := o) (b := fa l h c r * (r : Rat)) (nat_mul3 ho d1 (by decide))
  rw [decide_eq_false c1] at l1
  rw [decide_eq_false c2] at l2
  have e : x - ri l h c r - fa l h c r = x - ag l h c r := by unfold ag; grind
  rw [e] at m2
  unfold atE
  generalize sd l h c r = S
  generalize fa l h c r * (r : Rat) = u at t1 p1 ⊢
  generalize o + u = v at p1 ⊢
  generalize x - ag l h c r = w at m2 ⊢
  simp [b0__law_at, l1, m1, l2, m2, t1, p1]
theorem ri_c (s : Sp l h c r) : ri l h c r * (c : Rat) = (h : Rat) - (l : Rat) := by
  have q0 : (0 : Rat) < (c : Rat) := cast_pos (by have := s.c0; omega)
  unfold ri
  rw [Rat.intCast_sub]
  generalize (c : Rat) = z at q0
  grind
end
end DL.K95


namespace DL.K95
open PySem L2 DL.Q DL.Dr
section
variable {l h c r : Int}
theorem at_stop1 (s : Sp l h c r) {x o : Rat} {b : Int} {y : SV} (hx : x.den ≤ 1000000000000) (c1 : x < ri l h c r) :
    b0__law_at (atE l h c r x b o y) = .rt (.tuple [rd ((l : Rat) + x * (c : Rat)), .int b, rd o]) := by
  have rdn := ri_den s
  have l1 := lless_ok (a := x) (b := ri l h c r) (by omega) (by omega)
  have := s.c0
  have := s.cr
  have := s.r1
  have t1 := ltimes_ok (a := x) (n := c) (by omega) (cmul_r (by omega))
  have d1 := Nat.le_trans (den_muli x c) hx
  have p1 := lplus_ok (a := (l : Rat)) (b := x * (c : Rat)) (by rw [Rat.den_intCast, Nat.one_mul]; omega)
  rw [rd_int] at p1
  rw [decide_eq_true c1] at l1
  unfold atE
  generalize sd l h c r = S
  generalize x * (c : Rat) = u at t1 p1 ⊢
  generalize (l : Rat) + u = v at p1 ⊢
  simp [b0__law_at, l1, t1, p1]
theorem at_stop2 (s : Sp l h c r) {x o : Rat} {b : Int} {y : SV} (hx : x.den ≤ 1000000000000) (hy : (x - ri l h c r).den ≤ 1000000000000) (ho : o.den ≤ 1000) (c1 : ¬ x < ri l h c r) (c2 : x - ri l h c r < fa l h c r) :
    b0__law_at (atE l h c r x b o y) = .rt (.tuple [rd ((h : Rat) - (x - ri l h c r) * ((r - c : Int) : Rat)), .int (b + 1), rd (o + (x - ri l h c r) * (r : Rat))]) := by
  have rdn := ri_den s
  have fdn := fa_den s
  have := s.c0
  have := s.cr
  have := s.r1
  have l1 := lless_ok (a := x) (b := ri l h c r) (by omega) (by omega)
  have m1 := lminus_ok (a := x) (b := ri l h c r) (nat_mul3 hx rdn (by decide))
  have l2 := lless_ok (a := x - ri l h c r) (b := fa l h c r) (by omega) (by omega)
  have t1 := ltimes_ok (a := x - ri l h c r) (n := r - c) (by omega) (cmul_r (by omega))
  have t2 := ltimes_ok (a := x - ri l h c r) (n := r) (by omega) (cmul_r (by omega))
  have d1 := Nat.le_trans (den_muli (x - ri l h c r) (r - c)) hy
  have d2 := Nat.le_trans (den_muli (x - ri l h c r) r) hy
  have m2 := lminus_ok (a := (h : Rat)) (b := (x - ri l h c r) * ((r - c : Int) : Rat)) (by rw [Rat.den_intCast, Nat.one_mul]; omega)
  have p1 := lplus_ok (a := o) (b := (x - ri l h c r) * (r : Rat)) (nat_mul3 ho d2 (by decide))
  rw [rd_int] at m2
  rw [decide_eq_false c1] at l1
  rw [decide_eq_true c2] at l2
  unfold atE
  generalize sd l h c r = S
  generalize (x - ri l h c r) * ((r - c : Int) : Rat) = u at t1 m2 ⊢
  generalize (h : Rat) - u = v at m2 ⊢
  generalize (x - ri l h c r) * (r : Rat) = u2 at t2 p1 ⊢
  generalize o + u2 = v2 at p1 ⊢
  simp [b0__law_at, l1, m1, l2, t1, t2, m2, p1]
end
end DL.K95


namespace DL.K95
open PySem L2 DL.Q DL.Dr
section
variable {l h c r : Int}
theorem lev_last (s : Sp l h c r) {x : Rat} (c1 : ¬ x < ri l h c r) : lev l h c r x = (h : Rat) - (x - ri l h c r) * ((r - c : Int) : Rat) := by
  unfold lev
  split
  · rfl
  · rename_i c2
    have e : x = ri l h c r := by grind
    have q := ri_c s
    rw [e]
    grind
theorem lev_first {x : Rat} (c1 : x < ri l h c r) : lev l h c r x = (l : Rat) + x * (c : Rat) := by
  unfold lev
  rw [if_neg (by grind)]
theorem cast_succ (i : Nat) : (((i + 1 : Nat) : Int) : Rat) = ((i : Nat) : Int) + 1 := by
  rw [Int.natCast_add, Rat.intCast_add] <;> rfl
/-- the walk from its i-th round on -/
theorem at_loop (s : Sp l h c r) {t : Rat} {k : Nat} (ht : t.den ≤ 1000000) (hk : Fl t (ag l h c r) (k : Int)) : ∀ (n i : Nat) (ds : List D) (y : SV), k - i = n → i ≤ k → n < ds.length →
    forLoop (sName 10) b0__law_at ds (atE l h c r (t - ag l h c r * ((i : Nat) : Int)) (i : Nat) (fa l h c r * (r : Rat) * ((i : Nat) : Int)) y) =
      .rt (.tuple [rd (lev l h c r (t - ag l h c r * ((k : Nat) : Int))), .int (begun l h c r k (t - ag l h c r * ((k : Nat) : Int))), rd (out l h c r k (t - ag l h c r * ((k : Nat) : Int)))]) := by
  intro n
  induction n with
  | zero =>
    intro i ds y h1 h2 h3
    have e : i = k := by omega
    subst e
    match ds, h3 with
    | d :: ds, _ =>
      have dx : (t - ag l h c r * ((i : Nat) : Int)).den ≤ 1000000000000 := rest_den s (by omega)
      have dy : (t - ag l h c r * ((i : Nat) : Int) - ri l h c r).den ≤ 1000000000000 := Nat.le_trans (den_sub_le _ _) (Nat.le_trans (nle (Nat.le_trans (den_sub_le _ _) (nle (A := 1000000) (B := 10000) ht (Nat.le_trans (den_muli _ _) (ag_den s)))) (ri_den s)) (by decide))
      have fd : (fa l h c r * (r : Rat) * ((i : Nat) : Int)).den ≤ 1000 := Nat.le_trans (den_muli _ _) (Nat.le_trans (den_muli _ _) (Nat.le_trans (fa_den s) (by decide)))
      have lo := hk.lo
      have hi := hk.hi
      by_cases c1 : t - ag l h c r * ((i : Nat) : Int) < ri l h c r
      · have st := at_stop1 s (o := fa l h c r * (r : Rat) * ((i : Nat) : Int)) (b := (i : Nat)) (y := .val d) dx c1
        rw [for_ret (ρ1 := atE l h c r (t - ag l h c r * ((i : Nat) : Int)) (i : Nat) (fa l h c r * (r : Rat) * ((i : Nat) : Int)) (.val d)) rfl st, lev_first c1]
        unfold begun out
        rw [if_pos c1, if_pos c1]
        have e1 : (fa l h c r * (((i : Nat) : Int) : Rat) + 0) * (r : Rat) = fa l h c r * (r : Rat) * ((i : Nat) : Int) := by grind
        rw [e1, Int.add_zero]
      · have c2 : t - ag l h c r * ((i : Nat) : Int) - ri l h c r < fa l h c r := by
          unfold ag at hi ⊢
          grind
        have st := at_stop2 s (o := fa l h c r * (r : Rat) * ((i : Nat) : Int)) (b := (i : Nat)) (y := .val d) dx dy fd c1 c2
        rw [for_ret (ρ1 := atE l h c r (t - ag l h c r * ((i : Nat) : Int)) (i : Nat) (fa l h c r * (r : Rat) * ((i : Nat) : Int)) (.val d)) rfl st, lev_last s c1]
        unfold begun out
        rw [if_neg c1, if_neg c1]
        have e1 : (fa l h c r * (((i : Nat) : Int) : Rat) + (t - ag l h c r * ((i : Nat) : Int) - ri l h c r)) * (r : Rat) = fa l h c r * (r : Rat) * ((i : Nat) : Int) + (t - ag l h c r * ((i : Nat) : Int) - ri l h c r) * (r : Rat) := by grind
        rw [e1]
  | succ n ih =>
    intro i ds y h1 h2 h3
    match ds, h3 with
    | d :: ds, h3 =>
      have dx : (t - ag l h c r * ((i : Nat) : Int)).den ≤ 1000000000000 := rest_den s (by omega)
      have dy : (t - ag l h c r * ((i : Nat) : Int) - ri l h c r).den ≤ 1000000000000 := Nat.le_trans (den_sub_le _ _) (Nat.le_trans (nle (Nat.le_trans (den_sub_le _ _) (nle (A := 1000000) (B := 10000) ht (Nat.le_trans (den_muli _ _) (ag_den s)))) (ri_den s)) (by decide))
      have fd : (fa l h c r * (r : Rat) * ((i : Nat) : Int)).den ≤ 1000 := Nat.le_trans (den_muli _ _) (Nat.le_trans (den_muli _ _) (Nat.le_trans (fa_den s) (by decide)))
      have big : ag l h c r ≤ t - ag l h c r * ((i : Nat) : Int) := by
        have lo := hk.lo
        have z : ((i + 1 : Nat) : Int) ≤ (k : Int) := by omega
        have z2 := Rat.intCast_le_intCast.mpr z
        rw [cast_succ] at z2
        have z3 := Rat.mul_le_mul_of_nonneg_left z2 (Rat.le_of_lt (ag_pos s))
        have z4 : ag l h c r * ((((i : Nat) : Int) : Rat) + 1) = ag l h c r * (((i : Nat) : Int) : Rat) + ag l h c r := by grind
        rw [z4] at z3
        generalize ag l h c r * (((i : Nat) : Int) : Rat) = u at z3 ⊢
        generalize ag l h c r * (((k : Nat) : Int) : Rat) = v at z3 lo
        grind
      have rp := ri_pos s
      have fp := fa_pos s
      have bg : ag l h c r = ri l h c r + fa l h c r := rfl
      have n1 : ¬ t - ag l h c r * ((i : Nat) : Int) < ri l h c r := by
        generalize t - ag l h c r * ((i : Nat) : Int) = x at big ⊢
        rw [bg] at big
        grind
      have n2 : ¬ t - ag l h c r * ((i : Nat) : Int) - ri l h c r < fa l h c r := by
        generalize t - ag l h c r * ((i : Nat) : Int) = x at big ⊢
        rw [bg] at big
        grind
      have go := at_go s (o := fa l h c r * (r : Rat) * ((i : Nat) : Int)) (b := (i : Nat)) (y := .val d) dx dy fd n1 n2
      have e1 : t - ag l h c r * ((i : Nat) : Int) - ag l h c r = t - ag l h c r * ((i + 1 : Nat) : Int) := by rw [cast_succ]; grind
      have e2 : fa l h c r * (r : Rat) * ((i : Nat) : Int) + fa l h c r * (r : Rat) = fa l h c r * (r : Rat) * ((i + 1 : Nat) : Int) := by rw [cast_succ]; grind
      rw [e1, e2, show ((i : Nat) : Int) + 1 = ((i + 1 : Nat) : Int) by omega] at go
      rw [for_cons (ρ1 := atE l h c r (t - ag l h c r * ((i : Nat) : Int)) (i : Nat) (fa l h c r * (r : Rat) * ((i : Nat) : Int)) (.val d)) rfl go]
      exact ih (i + 1) ds (.val d) (by omega) (by omega) (by simp only [List.length_cons] at h3; omega)
end
end DL.K95


namespace DL.K95
open PySem L2 DL.Q DL.Dr
section
variable {l h c r : Int}
theorem law_at_ok (s : Sp l h c r) {t : Rat} {k : Nat} (ht : t.den ≤ 1000000) (hk : Fl t (ag l h c r) (k : Int)) (hn : k < 100000) : f__law_at [sd l h c r, rd t] =
    .ok (.tuple [rd (lev l h c r (t - ag l h c r * ((k : Nat) : Int))), .int (begun l h c r k (t - ag l h c r * ((k : Nat) : Int))), rd (out l h c r k (t - ag l h c r * ((k : Nat) : Int)))]) := by
  have lp := at_loop s ht hk k 0 (rangeD 0 100000) .no (by omega) (by omega) (by rw [rangeD_len]; exact hn)
  have z0 : (((0 : Nat) : Int) : Rat) = 0 := rfl
  have e1 : t - ag l h c r * (((0 : Nat) : Int) : Rat) = t := by rw [z0]; grind
  have e2 : fa l h c r * (r : Rat) * (((0 : Nat) : Int) : Rat) = 0 := by rw [z0]; grind
  rw [e1, e2] at lp
  generalize rd (lev l h c r (t - ag l h c r * ((k : Nat) : Int))) = o1 at lp ⊢
  generalize rd (out l h c r k (t - ag l h c r * ((k : Nat) : Int))) = o3 at lp ⊢
  generalize begun l h c r k (t - ag l h c r * ((k : Nat) : Int)) = o2 at lp ⊢
  have lr := lrounds_ok s
  unfold atE at lp
  rw [rd_zero] at lp
  simp only [sd] at lr lp ⊢
  simp [f__law_at, semOf, c__law_at, lr]
  rw [show ((0 : Nat) : Int) = 0 from rfl] at lp
  rw [lp]
  rfl
end
end DL.K95


namespace DL.K95
open PySem L2 DL.Q DL.Dr
section
variable {l h c r : Int}
theorem time_ok (s : Sp l h c r) {m : Int} (h0 : 1 ≤ m) (h1 : m ≤ 1000000000000) : f_siphon_time [sd l h c r, .int m] = .ok (rd (ag l h c r * ((m - 1 : Int) : Rat) + ri l h c r)) := by
  have w := is_whole_ok (.int m) 1 1000000000000
  have w' : isW (.int m) 1 1000000000000 = true := by simp [isW]; omega
  obtain ⟨n0, n1⟩ := ag_num s
  have ad := ag_den s
  have rdn := ri_den s
  have t1 := times_okC (a := ag l h c r) (n := m - 1) (by omega) (cmul_l (by omega))
  have d1 := Nat.le_trans (den_muli (ag l h c r) (m - 1)) ad
  have p1 := plus_ok (a := ag l h c r * ((m - 1 : Int) : Rat)) (b := ri l h c r) (nat_mul3 d1 rdn (by decide))
  have ck := check_ok s
  have ao := again_ok s
  have ro := rise_ok s
  generalize sd l h c r = S at ck ao ro ⊢
  generalize ag l h c r * ((m - 1 : Int) : Rat) = u at t1 p1 ⊢
  generalize u + ri l h c r = v at p1 ⊢
  simp [f_siphon_time, semOf, c_siphon_time, ck, k_whole, w, w', ao, ro, t1, p1]
theorem siphon_again_ok (s : Sp l h c r) : f_siphon_again [sd l h c r] = .ok (rd (ag l h c r)) := by
  simp [f_siphon_again, semOf, c_siphon_again, check_ok s, again_ok s]
/-- the second of two in a row: when both run again -/
theorem both_ok {l2 h2 c2 r2 : Int} (s : Sp l h c r) (s2 : Sp l2 h2 c2 r2) : f_both_run [sd l h c r, sd l2 h2 c2 r2] = .ok (rd (ag l h c r * ((den ((ag l h c r).num * ((ag l2 h2 c2 r2).den : Int)) (((ag l h c r).den : Int) * (ag l2 h2 c2 r2).num) : Int) : Rat))) := by
  obtain ⟨n0, n1⟩ := ag_num s
  obtain ⟨m0, m1⟩ := ag_num s2
  have ad := ag_den s
  have ad2 := ag_den s2
  have dp := (ag l h c r).den_pos
  have mm := Int.mul_le_mul (show ((ag l h c r).den : Int) ≤ 10000 by omega) m1 (by omega) (by decide)
  have mp := Int.mul_pos (show 0 < ((ag l h c r).den : Int) by omega) m0
  have q := quo_ok ((ag l h c r).num * ((ag l2 h2 c2 r2).den : Int)) (((ag l h c r).den : Int) * (ag l2 h2 c2 r2).num) mp (by omega)
  generalize hd : den ((ag l h c r).num * ((ag l2 h2 c2 r2).den : Int)) (((ag l h c r).den : Int) * (ag l2 h2 c2 r2).num) = dn at *
  have i1 : oIxA (fr ((ag l h c r).num * ((ag l2 h2 c2 r2).den : Int)) (((ag l h c r).den : Int) * (ag l2 h2 c2 r2).num)) (.int 1) = some (.int dn) := by rw [← hd]; rfl
  have t1 := times_okC (a := ag l h c r) (n := dn) (by omega) (cmul_l (by omega))
  have k1 := check_ok s
  have k2 := check_ok s2
  have a1 := again_ok s
  have a2 := again_ok s2
  generalize sd l h c r = S at k1 a1 ⊢
  generalize sd l2 h2 c2 r2 = S2 at k2 a2 ⊢
  simp [f_both_run, semOf, c_both_run, k1, k2, a1, a2, rd_num, rd_den, cmul_l (i := (ag l h c r).num) (j := ((ag l2 h2 c2 r2).den : Int)) (by omega), cmul_l (i := ((ag l h c r).den : Int)) (j := (ag l2 h2 c2 r2).num) (by omega), q, i1, t1]
end
end DL.K95


namespace DL.K95
open PySem L2 DL.Q DL.Dr
/-- a siphon of two draws: low and high near, few rates -/
theorem law_siphon_ok {ds : List Int} (hr : InR ds) (at' : Nat) (ha : at' + 1 < ds.length) : ∃ l h c r, f__law_siphon [.list (ds.map .int), .int (at' : Nat)] = .ok (sd l h c r) ∧ Sp l h c r ∧ h ≤ 40 ∧ h - l ≤ 12 ∧ r ≤ 20 ∧ c ≤ 7 ∧ r - c ≤ 6 := by
  obtain ⟨v, e1, v0⟩ := dget hr at' (by omega)
  obtain ⟨w, e2, w0⟩ := dget hr (at' + 1) ha
  rw [Int.natCast_add] at e2
  simp only [Int.cast_ofNat_Int] at e2
  have cv := cdivw (i := v) (j := 16) (by omega)
  have cw := cdivw (i := w) (j := 16) (by omega)
  refine ⟨v % 9, v % 9 + 1 + v / 16 % 12, 1 + w % 7, 1 + w % 7 + 1 + w / 16 % 6, ?_, ⟨by omega, by omega, by omega, by omega, by omega, by omega⟩, by omega, by omega, by omega, by omega, by omega⟩
  simp [f__law_siphon, semOf, c__law_siphon, e1, e2, cv, cw, sd]
end DL.K95


namespace DL.K95
open PySem L2 DL.Q DL.Dr
section
variable {l h c r : Int}
/-- what is no siphon -/
theorem bads (s : Sp l h c r) : ∀ d ∈ ([.none, .tuple [], .list [.int l, .int h, .int c, .int r], .tuple [.int l, .int h, .int c], .tuple [.int l, .int h, .int c, .int r, .int 0], sd h l c r, sd l l 1 2, sd l h r c, sd l h 0 1, sd l h 1 101, sd (-1) h 1 2, sd 0 1001 1 2, .tuple [.bool true, .int h, .int 1, .int 2]] : List D),
    f__check [d] = .exc ⟨"BadSiphon", []⟩ := by
  obtain ⟨a1, a2, a3, a4, a5, a6⟩ := s
  have w := is_whole_ok
  intro d hd
  simp only [List.mem_cons, List.not_mem_nil, or_false] at hd
  rcases hd with rfl | rfl | rfl | rfl | rfl | rfl | rfl | rfl | rfl | rfl | rfl | rfl | rfl
  · simp [f__check, semOf, c__check, isTupleD]
  · simp [f__check, semOf, c__check, isTupleD]
  · simp [f__check, semOf, c__check, isTupleD]
  · simp [f__check, semOf, c__check, isTupleD]
  · simp [f__check, semOf, c__check, isTupleD]
  · simp [f__check, semOf, c__check, sd, isTupleD, k_whole, w, isW, show l ≤ h by omega]
  · simp [f__check, semOf, c__check, sd, isTupleD, k_whole, w, isW]
  · simp [f__check, semOf, c__check, sd, isTupleD, k_whole, w, isW, show ¬ h ≤ l by omega, show 0 ≤ l ∧ l ≤ 1000 by omega, show 1 ≤ h ∧ h ≤ 1000 by omega, show c ≤ r by omega]
  · simp [f__check, semOf, c__check, sd, isTupleD, k_whole, w, isW, show ¬ h ≤ l by omega, show 0 ≤ l ∧ l ≤ 1000 by omega, show 1 ≤ h ∧ h ≤ 1000 by omega]
  · simp [f__check, semOf, c__check, sd, isTupleD, k_whole, w, isW, show ¬ h ≤ l by omega, show 0 ≤ l ∧ l ≤ 1000 by omega, show 1 ≤ h ∧ h ≤ 1000 by omega]
  · simp [f__check, semOf, c__check, sd, isTupleD, k_whole, w, isW]
  · simp [f__check, semOf, c__check, sd, isTupleD, k_whole, w, isW]
  · simp [f__check, semOf, c__check, sd, isTupleD, k_whole, w, isW]
end
end DL.K95


namespace DL.K95
open PySem L2 DL.Q DL.Dr
/-! the errors by their words -/
def cls : List (List Str × Option Nat × (Exc → Env → Out)) := [(["BadSiphon"], none, fun _ => (sRet (cC (.str "siphon")))), (["BadTime"], none, fun _ => (sRet (cC (.str "time")))), (["BadMany"], none, fun _ => (sRet (cC (.str "many"))))]
theorem w_of {x : Str} {way : Int} {a b c d : D} (hb : b0__law_word [.val (.int way), .val a, .val b, .val c] = .ex ⟨x, []⟩ [.val (.int way), .val a, .val b, .val c]) :
    f__law_word [.int way, a, b, c] = toR (thenO (tryO errs cls (.ex ⟨x, []⟩ [.val (.int way), .val a, .val b, .val c])) (sRet (cC (.str "none")))) := by
  simp [f__law_word, semOf, c__law_word, hb, cls]
theorem w_siphon {way : Int} {a b c : D} (hb : b0__law_word [.val (.int way), .val a, .val b, .val c] = .ex ⟨"BadSiphon", []⟩ [.val (.int way), .val a, .val b, .val c]) : f__law_word [.int way, a, b, c] = .ok (.str "siphon") :=
  (w_of (d := .none) hb).trans (by simp (decide := true) [cls])
theorem w_time {way : Int} {a b c : D} (hb : b0__law_word [.val (.int way), .val a, .val b, .val c] = .ex ⟨"BadTime", []⟩ [.val (.int way), .val a, .val b, .val c]) : f__law_word [.int way, a, b, c] = .ok (.str "time") :=
  (w_of (d := .none) hb).trans (by simp (decide := true) [cls])
theorem w_many {way : Int} {a b c : D} (hb : b0__law_word [.val (.int way), .val a, .val b, .val c] = .ex ⟨"BadMany", []⟩ [.val (.int way), .val a, .val b, .val c]) : f__law_word [.int way, a, b, c] = .ok (.str "many") :=
  (w_of (d := .none) hb).trans (by simp (decide := true) [cls])
/-- a wrong siphon, whatever is asked -/
theorem wrong_siphon {w : D} (h : f__check [w] = .exc ⟨"BadSiphon", []⟩) (way : Int) (hw : way = 0 ∨ way = 1 ∨ way = 2 ∨ way = 3 ∨ way = 4) : f__law_word [.int way, w, .none, .none] = .ok (.str "siphon") := by
  refine w_siphon ?_
  rcases hw with rfl | rfl | rfl | rfl | rfl <;> simp [b0__law_word, f_siphon_again, c_siphon_again, f_siphon_level, c_siphon_level, f_siphon_runs, c_siphon_runs, f_siphon_time, c_siphon_time, f_both_run, c_both_run, f__check_time, c__check_time, semOf, h]
end DL.K95


namespace DL.K95
open PySem L2 DL.Q DL.Dr
/-- some whole times more -/
theorem fl_shift {t a : Rat} {k : Int} (p : Fl t a k) (m : Int) : Fl (t + a * (m : Rat)) a (k + m) := by
  have lo := p.lo
  have hi := p.hi
  have e : a * ((k + m : Int) : Rat) = a * (k : Rat) + a * (m : Rat) := by rw [Rat.intCast_add]; grind
  constructor
  · rw [e]
    generalize a * (k : Rat) = u at *
    generalize a * (m : Rat) = v
    grind
  · rw [e]
    generalize a * (k : Rat) = u at *
    generalize a * (m : Rat) = v
    grind
theorem rest_shift {t a : Rat} (k m : Int) : t + a * (m : Rat) - a * ((k + m : Int) : Rat) = t - a * (k : Rat) := by
  rw [Rat.intCast_add]
  grind
end DL.K95


namespace DL.K95
open PySem L2 DL.Q DL.Dr
/-- when a siphon runs again just behind t -/
theorem again_iff {l h c r : Int} (s : Sp l h c r) (t : Rat) : ag l h c r = t ↔ (h - l) * r * (t.den : Int) = c * (r - c) * t.num := by
  have c0 : (0 : Rat) < (c : Rat) := cast_pos (by have := s.c0; omega)
  have d0 : (0 : Rat) < ((r - c : Int) : Rat) := cast_pos (by have := s.cr; omega)
  have e0 := rat_mul_den t
  have t0 : (0 : Rat) < ((t.den : Int) : Rat) := cast_pos (by have := t.den_pos; omega)
  have rr : (r : Rat) = ((r - c : Int) : Rat) + (c : Rat) := by rw [Rat.intCast_sub]; grind
  rw [← Rat.intCast_inj]
  simp only [Rat.intCast_mul]
  rw [← e0, rr]
  unfold ag ri fa
  generalize ((h - l : Int) : Rat) = w
  generalize ((t.den : Int) : Rat) = q at t0
  generalize (c : Rat) = x at c0
  generalize ((r - c : Int) : Rat) = y at d0
  have x0 : x ≠ 0 := by grind
  have y0 : y ≠ 0 := by grind
  have q0 : q ≠ 0 := by grind
  constructor
  · intro e
    rw [← e]
    grind
  · intro e
    have : w * (y + x) = x * y * t := by grind
    grind
end DL.K95


namespace DL.K95
open PySem L2 DL.Q DL.Dr
def pr (c o : Int) : D := .tuple [.int c, .int o]
/-- the inner loop of rates_again -/
theorem rates_in {l h : Int} {t : Rat} (a0 : 0 ≤ l) (a1 : l < h) (a2 : h ≤ 1000) {c : Int} (c0 : 1 ≤ c) : ∀ (os : List Int), (∀ o ∈ os, c < o ∧ o ≤ 100) → ∀ (acc : List D) (y : SV), acc.length + os.length ≤ 50000 → ∃ y',
    forLoop (sName 5) b1_rates_again (os.map .int) [.val (.int l), .val (.int h), .val (rd t), .own acc, .val (.int c), y] =
      .nx [.val (.int l), .val (.int h), .val (rd t), .own (acc ++ (os.filter fun o => decide (ag l h c o = t)).map (pr c)), .val (.int c), y']
  | [], _, acc, y, _ => ⟨y, by simp [for_nil]⟩
  | o :: os, ho, acc, y, hl => by
    obtain ⟨o1, o2⟩ := ho o List.mem_cons_self
    simp only [List.length_cons] at hl
    have ao := again_ok (l := l) (h := h) (c := c) (r := o) ⟨a0, a1, a2, c0, o1, o2⟩
    unfold sd at ao
    have eq := oEq_rd (ag l h c o) t
    by_cases e : ag l h c o = t
    · obtain ⟨y', e2⟩ := rates_in a0 a1 a2 c0 os (fun x hx => ho x (.tail _ hx)) (acc ++ [pr c o]) (.val (.int o)) (by simp; omega)
      refine ⟨y', ?_⟩
      rw [decide_eq_true e] at eq
      rw [List.map_cons, for_cons (ρ1 := [.val (.int l), .val (.int h), .val (rd t), .own acc, .val (.int c), .val (.int o)]) (ρ2 := [.val (.int l), .val (.int h), .val (rd t), .own (acc ++ [pr c o]), .val (.int c), .val (.int o)]) rfl ?_, e2]
      · simp [e]
      · simp [b1_rates_again, ao, eq, show acc.length < 100000 by omega, pr]
    · obtain ⟨y', e2⟩ := rates_in a0 a1 a2 c0 os (fun x hx => ho x (.tail _ hx)) acc (.val (.int o)) (by omega)
      refine ⟨y', ?_⟩
      rw [decide_eq_false e] at eq
      rw [List.map_cons, for_cons (ρ1 := [.val (.int l), .val (.int h), .val (rd t), .own acc, .val (.int c), .val (.int o)]) (ρ2 := [.val (.int l), .val (.int h), .val (rd t), .own acc, .val (.int c), .val (.int o)]) rfl ?_, e2]
      · simp [e]
      · simp [b1_rates_again, ao, eq]
end DL.K95


namespace DL.K95
open PySem L2 DL.Q DL.Dr
/-- the rates beyond c -/
def outs (c : Int) : List Int := (List.range (100 - c).toNat).map fun i => c + 1 + (i : Nat)
theorem outs_ok (c : Int) : ∀ o ∈ outs c, c < o ∧ o ≤ 100 := fun o ho => by
  obtain ⟨i, hi, rfl⟩ := List.mem_map.mp ho
  have := List.mem_range.mp hi
  omega
theorem outs_rg (c : Int) : rangeD (c + 1) (100 - c).toNat = (outs c).map .int := by
  unfold outs rangeD
  rw [List.map_map]
  rfl
/-- the pairs with one coming rate -/
def prs (l h : Int) (t : Rat) (c : Int) : List D := ((outs c).filter fun o => decide (ag l h c o = t)).map (pr c)
theorem prs_len (l h : Int) (t : Rat) (c : Int) (h0 : 0 ≤ c) : (prs l h t c).length ≤ 100 := by
  unfold prs outs
  rw [List.length_map]
  refine Nat.le_trans (List.length_filter_le _ _) ?_
  rw [List.length_map]; rw [List.length_range]
  omega
theorem rates_out {l h : Int} {t : Rat} (a0 : 0 ≤ l) (a1 : l < h) (a2 : h ≤ 1000) : ∀ (cs : List Int), (∀ c ∈ cs, 1 ≤ c ∧ c ≤ 100) → ∀ (acc : List D) (y z : SV), acc.length + 100 * cs.length ≤ 20000 → ∃ y' z',
    forLoop (sName 4) b0_rates_again (cs.map .int) [.val (.int l), .val (.int h), .val (rd t), .own acc, y, z] = .nx [.val (.int l), .val (.int h), .val (rd t), .own (acc ++ cs.flatMap (prs l h t)), y', z']
  | [], _, acc, y, z, _ => ⟨y, z, by simp [for_nil]⟩
  | c :: cs, hc, acc, y, z, hl => by
    obtain ⟨c1, c2⟩ := hc c List.mem_cons_self
    simp only [List.length_cons] at hl
    have pl := prs_len l h t c (by omega)
    have ol : (outs c).length ≤ 100 := by unfold outs; simp; omega
    obtain ⟨z1, e1⟩ := rates_in a0 a1 a2 c1 (t := t) (outs c) (outs_ok c) acc z (by omega)
    obtain ⟨y', z', e2⟩ := rates_out a0 a1 a2 (t := t) cs (fun x hx => hc x (.tail _ hx)) (acc ++ prs l h t c) (.val (.int c)) z1 (by rw [List.length_append]; omega)
    refine ⟨y', z', ?_⟩
    rw [List.map_cons, for_cons (ρ1 := [.val (.int l), .val (.int h), .val (rd t), .own acc, .val (.int c), z]) (ρ2 := [.val (.int l), .val (.int h), .val (rd t), .own (acc ++ prs l h t c), .val (.int c), z1]) rfl ?_, e2]
    · simp
    · have rg : range2D [.int (c + 1), .int 101] = some ((outs c).map .int) := by
        rw [← outs_rg]
        show (if -1000000 < c + 1 ∧ c + 1 < 1000000 ∧ -1000000 < (101 : Int) ∧ (101 : Int) < 1000000 then some (rangeD (c + 1) (101 - (c + 1)).toNat) else none) = _
        rw [if_pos (by omega), show (101 : Int) - (c + 1) = 100 - c by omega]
      rw [show ((outs c).filter fun o => decide (ag l h c o = t)).map (pr c) = prs l h t c from rfl] at e1
      simp [b0_rates_again, rg, e1]
end DL.K95


namespace DL.K95
open PySem L2 DL.Q DL.Dr
def cmg (n : Nat) : List Int := (List.range n).map fun i => 1 + (i : Nat)
theorem cmg_ok (n : Nat) (hn : n ≤ 100) : ∀ c ∈ cmg n, 1 ≤ c ∧ c ≤ 100 := fun c hc => by
  obtain ⟨i, hi, rfl⟩ := List.mem_map.mp hc
  have := List.mem_range.mp hi
  omega
theorem rates_ok {l h : Int} {t : Rat} (a0 : 0 ≤ l) (a1 : l < h) (a2 : h ≤ 1000) (h0 : 0 ≤ t) (h1 : t ≤ 1000000000000) (ht : t.den ≤ 100000000) : f_rates_again [.int l, .int h, rd t] = .ok (.tuple ((cmg 99).flatMap (prs l h t))) := by
  have s : Sp l h 1 100 := ⟨a0, a1, a2, by decide, by decide, by decide⟩
  have ck := check_ok s
  unfold sd at ck
  have ls := less_ok (a := ((1000000000000 : Int) : Rat)) (b := t) (by simp) (by omega)
  rw [rd_int] at ls
  have no : ¬ ((1000000000000 : Int) : Rat) < t := by
    have e : ((1000000000000 : Int) : Rat) = 1000000000000 := rfl
    rw [e]
    grind
  rw [decide_eq_false no] at ls
  obtain ⟨y, z, lp⟩ := rates_out a0 a1 a2 (t := t) (cmg 99) (cmg_ok 99 (by decide)) [] .no .no (by simp [cmg])
  have rg : range2D [.int 1, .int 100] = some ((cmg 99).map .int) := by
    show (if -1000000 < (1 : Int) ∧ (1 : Int) < 1000000 ∧ -1000000 < (100 : Int) ∧ (100 : Int) < 1000000 then some (rangeD 1 ((100 : Int) - 1).toNat) else none) = _
    rw [if_pos (by decide)]
    unfold cmg rangeD
    rw [List.map_map]
    rfl
  rw [List.nil_append] at lp
  generalize (cmg 99).flatMap (prs l h t) = R0 at lp ⊢
  generalize (cmg 99).map PyData.int = cs at lp rg
  simp [f_rates_again, semOf, c_rates_again, ck, is_quo_ok h0 ht, ls, rg, lp]
end DL.K95


namespace DL.K95
open PySem L2 DL.Q DL.Dr
section
variable {l h c r : Int}
/-- the law's siphons are small -/
structure Sq (l h c r : Int) : Prop where
  s : Sp l h c r
  c7 : c ≤ 7
  d6 : r - c ≤ 6
theorem ri_d (q : Sq l h c r) : (ri l h c r).den ≤ 7 := by
  have := q.s.c0
  have := q.c7
  have d := den_div_le (p := h - l) (q := c) (by omega)
  unfold ri
  omega
theorem fa_d (q : Sq l h c r) : (fa l h c r).den ≤ 6 := by
  have := q.s.cr
  have := q.d6
  have d := den_div_le (p := h - l) (q := r - c) (by omega)
  unfold fa
  omega
theorem ag_d (q : Sq l h c r) : (ag l h c r).den ≤ 42 :=
  Nat.le_trans (den_add_le _ _) (Nat.mul_le_mul (ri_d q) (fa_d q))
theorem ag_le (s : Sp l h c r) : ag l h c r ≤ 2000 := by
  have a1 : ri l h c r ≤ 1000 := div_le' (by have := s.c0; omega) (by have := s.l0; have := s.h1; omega)
  have a2 : fa l h c r ≤ 1000 := div_le' (by have := s.cr; omega) (by have := s.l0; have := s.h1; omega)
  unfold ag
  grind
theorem ri_le_ag (s : Sp l h c r) : ri l h c r ≤ ag l h c r := by
  have := fa_pos s
  unfold ag
  grind
theorem fa_rc (s : Sp l h c r) : fa l h c r * ((r - c : Int) : Rat) = (h : Rat) - (l : Rat) := by
  have q0 : (0 : Rat) < ((r - c : Int) : Rat) := cast_pos (by have := s.cr; omega)
  unfold fa
  rw [Rat.intCast_sub]
  generalize ((r - c : Int) : Rat) = z at q0
  grind
theorem fl_nat (s : Sp l h c r) {t : Rat} (t0 : 0 ≤ t) {k : Int} (hk : Fl t (ag l h c r) k) : 0 ≤ k := by
  have hi := hk.hi
  have p := ag_pos s
  have z : (0 : Rat) < ag l h c r * ((k + 1 : Int) : Rat) := by
    rw [Rat.intCast_add]
    have e : ((1 : Int) : Rat) = 1 := rfl
    rw [e]
    grind
  have z2 : ag l h c r * ((0 : Int) : Rat) < ag l h c r * ((k + 1 : Int) : Rat) := by
    have e : ((0 : Int) : Rat) = 0 := rfl
    rw [e]
    grind
  have := Rat.intCast_lt_intCast.mp ((Rat.mul_lt_mul_left p).mp z2)
  omega
theorem fl_small (q : Sq l h c r) {t : Rat} (t0 : 0 ≤ t) (t1 : t ≤ 1000) : ∃ k : Nat, Fl t (ag l h c r) (k : Int) ∧ k < 100000 := by
  have s := q.s
  have hk := fl_quot (t := t) (ag_pos s)
  generalize t.num * ((ag l h c r).den : Int) / ((t.den : Int) * (ag l h c r).num) = k at hk
  have k0 := fl_nat s t0 hk
  refine ⟨k.toNat, ?_, ?_⟩
  · rw [Int.toNat_of_nonneg k0]
    exact hk
  · have c0 : (0 : Rat) ≤ (c : Rat) := Rat.le_of_lt (cast_pos (by have := s.c0; omega))
    have kr : (0 : Rat) ≤ (k : Rat) := Rat.intCast_le_intCast.mpr k0
    have m1 := Rat.mul_le_mul_of_nonneg_right (ri_le_ag s) kr
    have lo := hk.lo
    have m2 : ri l h c r * (k : Rat) ≤ 1000 := by grind
    have m3 := Rat.mul_le_mul_of_nonneg_right m2 c0
    have e : ri l h c r * (k : Rat) * (c : Rat) = (((h - l) * k : Int) : Rat) := by
      rw [Rat.intCast_mul, Rat.intCast_sub, ← ri_c s]
      grind
    rw [e] at m3
    have m4 : (((h - l) * k : Int) : Rat) ≤ ((1000 * c : Int) : Rat) := by rw [Rat.intCast_mul 1000 c]; exact m3
    have m5 := Rat.intCast_le_intCast.mp m4
    have m6 := Int.mul_le_mul_of_nonneg_right (show (1 : Int) ≤ h - l by have := s.lh; omega) k0
    have := q.c7
    omega
/-- the level, less the lower one, and what has run out are what has come in -/
theorem comes (s : Sp l h c r) (t : Rat) (k : Int) : lev l h c r (t - ag l h c r * (k : Rat)) - (l : Rat) + out l h c r k (t - ag l h c r * (k : Rat)) = t * (c : Rat) := by
  have e1 := ri_c s
  have e2 := fa_rc s
  rw [Rat.intCast_sub] at e2
  by_cases c1 : t - ag l h c r * (k : Rat) < ri l h c r
  · rw [lev_first c1]
    unfold out
    rw [if_pos c1]
    unfold ag
    grind
  · rw [lev_last s c1]
    unfold out
    rw [if_neg c1, Rat.intCast_sub]
    unfold ag
    grind
theorem lev_den (q : Sq l h c r) {x : Rat} (hx : x.den ≤ 12600) : (lev l h c r x).den ≤ 88200 := by
  unfold lev
  split
  · have d1 : (x - ri l h c r).den ≤ 88200 := Nat.le_trans (den_sub_le _ _) (nle (A := 12600) (B := 7) hx (ri_d q))
    have d2 := Nat.le_trans (den_muli (x - ri l h c r) (r - c)) d1
    refine Nat.le_trans (den_sub_le _ _) ?_
    rw [Rat.den_intCast, Nat.one_mul]
    exact d2
  · have d2 := Nat.le_trans (den_muli x c) hx
    refine Nat.le_trans (den_add_le _ _) ?_
    rw [Rat.den_intCast, Nat.one_mul]
    omega
theorem out_den (q : Sq l h c r) {x : Rat} (k : Int) (hx : x.den ≤ 12600) : (out l h c r k x).den ≤ 529200 := by
  unfold out
  refine Nat.le_trans (den_muli _ _) (Nat.le_trans (den_add_le _ _) ?_)
  refine nle (A := 6) (B := 88200) (Nat.le_trans (den_muli _ _) (fa_d q)) ?_
  split
  · decide
  · exact Nat.le_trans (den_sub_le _ _) (nle (A := 12600) (B := 7) hx (ri_d q))
theorem out_shift (k m : Int) (x : Rat) : out l h c r (k + m) x = out l h c r k x + fa l h c r * (r : Rat) * (m : Rat) := by
  unfold out
  rw [Rat.intCast_add]
  grind
theorem begun_shift (k m : Int) (x : Rat) : begun l h c r (k + m) x = begun l h c r k x + m := by
  unfold begun
  omega
end
end DL.K95


namespace DL.K95
open PySem L2 DL.Q DL.Dr
def st0_b1_law : Env → Out := (sAsg 13 (asVal (cOp oIxA (asList (cLst (aCons (cTup (aCons (cC (.int 0)) (aCons (cC (.int 1)) aNil))) (aCons (cVar 9) (aCons (cVar 11) (aCons (cCall f__law_low (aCons (cOp oAdd (cC (.int 1)) (cOp oMod (cBt bInt (aCons (cOp oIxA (cBor 1) (cOp oAdd (cC (.int 30)) (cBor 2))) aNil)) (cC (.int 90)))) (aCons (cOp oAdd (cC (.int 1)) (cOp oMod (cBt bInt (aCons (cOp oIxA (cBor 1) (cOp oAdd (cC (.int 35)) (cBor 2))) aNil)) (cC (.int 6)))) aNil))) (aCons (cCall f__law_plus (aCons (cVar 11) (aCons (cVar 9) aNil))) (aCons (cCall f__law_low (aCons (cOp oAdd (cC (.int 1)) (cOp oMod (cBt bInt (aCons (cOp oIxA (cBor 1) (cC (.int 40))) aNil)) (cC (.int 200)))) (aCons (cC (.int 7)) aNil))) aNil)))))))) (cBor 12))))
def st1_b1_law : Env → Out := (sTo (sTup (sCons (sName 14) (sCons (sName 15) (sCons (sName 16) sNil)))) (cCall f__law_at (aCons (cVar 3) (aCons (cVar 13) aNil))))
def st2_b1_law : Env → Out := (sIf (cOr (cTest (cOp oNe (cCall f_siphon_level (aCons (cVar 3) (aCons (cVar 13) aNil))) (cBor 14))) (cOr (cTest (cOp oNe (cCall f_siphon_runs (aCons (cVar 3) (aCons (cVar 13) aNil))) (cTup (aCons (cVar 15) (aCons (cVar 16) aNil))))) (cTest (cIs isBoolD (cOp oIxA (cCall f_siphon_runs (aCons (cVar 3) (aCons (cVar 13) aNil))) (cC (.int 0))))))) (sRet (cC (.bool false))) sNx)
def st3_b1_law : Env → Out := (sIf (cTest (cOp oNe (cCall f__law_plus (aCons (cCall f__law_minus (aCons (cVar 14) (aCons (cTup (aCons (cVar 5) (aCons (cC (.int 1)) aNil))) aNil))) (aCons (cVar 16) aNil))) (cCall f__law_times (aCons (cVar 13) (aCons (cVar 7) aNil))))) (sRet (cC (.bool false))) sNx)
def st4_b1_law : Env → Out := (sAsg 17 (asVal (cOp oAdd (cOp oMul1 (cBt bInt (aCons (cOp oIxA (cBor 1) (cOp oAdd (cC (.int 45)) (cBor 12))) aNil)) (cC (.int 1000))) (cC (.int 7)))))
def st5_b1_law : Env → Out := (sAsg 18 (asVal (cCall f__law_plus (aCons (cVar 13) (aCons (cCall f__law_times (aCons (cVar 11) (aCons (cVar 17) aNil))) aNil)))))
def st6_b1_law : Env → Out := (sIf (cOr (cTest (cOp oNe (cCall f_siphon_level (aCons (cVar 3) (aCons (cVar 18) aNil))) (cBor 14))) (cTest (cOp oNe (cCall f_siphon_runs (aCons (cVar 3) (aCons (cVar 18) aNil))) (cTup (aCons (cOp oAdd (cBor 15) (cBor 17)) (aCons (cCall f__law_plus (aCons (cVar 16) (aCons (cCall f__law_times (aCons (cCall f__law_times (aCons (cVar 10) (aCons (cVar 8) aNil))) (aCons (cVar 17) aNil))) aNil))) aNil)))))) (sRet (cC (.bool false))) sNx)
theorem eq_b1_law : b1_law = (sSeq st0_b1_law (sSeq st1_b1_law (sSeq st2_b1_law (sSeq st3_b1_law (sSeq st4_b1_law (sSeq st5_b1_law st6_b1_law)))))) := rfl
section
variable {l h c r : Int}
/-- what stays of a turn -/
structure Tn (ρ : Env) (ds : List Int) (l h c r : Int) : Prop where
  len : ρ.length = 29
  e1 : ρ[1]? = some (.val (.list (ds.map .int)))
  e3 : ρ[3]? = some (.val (sd l h c r))
  e5 : ρ[5]? = some (.val (.int l))
  e6 : ρ[6]? = some (.val (.int h))
  e7 : ρ[7]? = some (.val (.int c))
  e8 : ρ[8]? = some (.val (.int r))
  e9 : ρ[9]? = some (.val (rd (ri l h c r)))
  e10 : ρ[10]? = some (.val (rd (fa l h c r)))
  e11 : ρ[11]? = some (.val (rd (ag l h c r)))
theorem sh_rt (b : Int) (x : Rat) : Sh 2 (.tuple [.int b, rd x]) := sh_tup fun d hd => by
  simp only [List.mem_cons, List.not_mem_nil, or_false] at hd
  rcases hd with rfl | rfl
  · exact sh_int
  · exact sh_rd (n := 0) x
theorem b1r_ok (q : Sq l h c r) {ds : List Int} (hr : InR ds) (hl : ds.length = 60) {ρ : Env} (T : Tn ρ ds l h c r) {t : Rat} (t0 : 0 ≤ t) (t1 : t ≤ 1000) (td : t.den ≤ 300) {n : Nat} (hn : n < 6) (e12 : ρ[12]? = some (.val (.int (n : Nat)))) (e13 : ρ[13]? = some (.val (rd t))) :
    ∃ ρ', (sSeq st1_b1_law (sSeq st2_b1_law (sSeq st3_b1_law (sSeq st4_b1_law (sSeq st5_b1_law st6_b1_law))))) ρ = .nx ρ' ∧ Same [14, 15, 16, 17, 18] ρ ρ' := by
  have s := q.s
  obtain ⟨k, hk, k1⟩ := fl_small q t0 t1
  obtain ⟨v, d1, v0⟩ := dget hr (45 + n) (by omega)
  have v1 : v < 65521 := by
    have e : (ds.map PyData.int)[45 + n]? = some (.int ds[45 + n]) := by simp [-getElem?_pos, show 45 + n < ds.length by omega]
    rw [atI_nat e] at d1
    have := (hr ds[45 + n] (List.getElem_mem _)).2
    simp only [Option.some.injEq, PyData.int.injEq] at d1
    omega
  rw [Int.natCast_add] at d1
  simp only [Int.cast_ofNat_Int] at d1
  have at' := law_at_ok s (t := t) (by omega) hk k1
  have le' := level_ok s t0 (by grind) (by omega) hk
  have ru := runs_ok s t0 (by grind) (by omega) hk
  have cm := comes s t (k : Int)
  have xd : (t - ag l h c r * ((k : Int) : Rat)).den ≤ 12600 := Nat.le_trans (den_sub_le _ _) (nle (A := 300) (B := 42) td (Nat.le_trans (den_muli _ _) (ag_d q)))
  -- far
  obtain ⟨m, hm⟩ : ∃ m, v * 1000 + 7 = m := ⟨_, rfl⟩
  have m0 : 0 ≤ m := by omega
  have m1 : m ≤ 100000000 := by omega
  have hk2 := fl_shift hk m
  have am0 : 0 ≤ ag l h c r * (m : Rat) := Rat.mul_nonneg (Rat.le_of_lt (ag_pos s)) (Rat.intCast_le_intCast.mpr m0)
  have am1 : ag l h c r * (m : Rat) ≤ 200000000000 := by
    have z := Rat.mul_le_mul_of_nonneg_left (Rat.intCast_le_intCast.mpr m1) (Rat.le_of_lt (ag_pos s))
    have z2 := Rat.mul_le_mul_of_nonneg_right (ag_le s) (show (0 : Rat) ≤ ((100000000 : Int) : Rat) from Rat.intCast_le_intCast.mpr (by decide))
    have e : (2000 : Rat) * ((100000000 : Int) : Rat) = 200000000000 := by decide +kernel
    rw [e] at z2
    exact Rat.le_trans z z2
  have f0 : 0 ≤ t + ag l h c r * (m : Rat) := by grind
  have f1 : t + ag l h c r * (m : Rat) ≤ 1000000000000 := by grind
  have amd : (ag l h c r * (m : Rat)).den ≤ 42 := Nat.le_trans (den_muli _ _) (ag_d q)
  have fd : (t + ag l h c r * (m : Rat)).den ≤ 100000000 := Nat.le_trans (den_add_le _ _) (Nat.le_trans (nle (A := 300) (B := 42) td amd) (by decide))
  have le2 := level_ok s f0 f1 fd hk2
  have ru2 := runs_ok s f0 f1 fd hk2
  rw [rest_shift] at le2 ru2
  rw [begun_shift, out_shift] at ru2
  have tm := ltimes_ok (a := ag l h c r) (n := m) (by have := ag_d q; omega) (cmul_r (by omega))
  have pf := lplus_ok (a := t) (b := ag l h c r * (m : Rat)) (nat_mul3 td amd (by decide))
  have fr1 := ltimes_ok (a := fa l h c r) (n := r) (by have := fa_d q; omega) (cmul_r (by have := s.c0; have := s.cr; have := s.r1; omega))
  have frd : (fa l h c r * (r : Rat)).den ≤ 6 := Nat.le_trans (den_muli _ _) (fa_d q)
  have fr2 := ltimes_ok (a := fa l h c r * (r : Rat)) (n := m) (by omega) (cmul_r (by omega))
  have frd2 : (fa l h c r * (r : Rat) * (m : Rat)).den ≤ 6 := Nat.le_trans (den_muli _ _) frd
  have po := lplus_ok (a := out l h c r (k : Int) (t - ag l h c r * ((k : Int) : Rat))) (b := fa l h c r * (r : Rat) * (m : Rat)) (nat_mul3 (out_den q (k : Int) xd) frd2 (by decide))
  -- the sum
  have ld := lev_den q xd
  have od := out_den q (k : Int) xd
  have lm := lminus_ok (a := lev l h c r (t - ag l h c r * ((k : Int) : Rat))) (b := (l : Rat)) (by rw [Rat.den_intCast, Nat.mul_one]; omega)
  have lmd : (lev l h c r (t - ag l h c r * ((k : Int) : Rat)) - (l : Rat)).den ≤ 88200 := by
    refine Nat.le_trans (den_sub_le _ _) ?_
    rw [Rat.den_intCast, Nat.mul_one]
    exact ld
  have lp := lplus_ok (a := lev l h c r (t - ag l h c r * ((k : Int) : Rat)) - (l : Rat)) (b := out l h c r (k : Int) (t - ag l h c r * ((k : Int) : Rat))) (nat_mul3 lmd od (by decide))
  rw [cm] at lp
  have tc := ltimes_ok (a := t) (n := c) (by omega) (cmul_r (by have := s.c0; have := q.c7; omega))
  rw [rd_int] at lm
  obtain ⟨T0, T1, T3, T5, T6, T7, T8, T9, T10, T11⟩ := T
  have shL := oNe_same (sh_rd (n := 0) (lev l h c r (t - ag l h c r * ((k : Int) : Rat))))
  have shR := oNe_same (sh_rt (begun l h c r (k : Int) (t - ag l h c r * ((k : Int) : Rat))) (out l h c r (k : Int) (t - ag l h c r * ((k : Int) : Rat))))
  have shT := oNe_same (sh_rd (n := 0) (t * (c : Rat)))
  have shR2 := oNe_same (sh_rt (begun l h c r (k : Int) (t - ag l h c r * ((k : Int) : Rat)) + m) (out l h c r (k : Int) (t - ag l h c r * ((k : Int) : Rat)) + fa l h c r * (r : Rat) * (m : Rat)))
  generalize sd l h c r = S at *
  generalize rd (lev l h c r (t - ag l h c r * ((k : Int) : Rat)) - (l : Rat)) = A1 at *
  generalize rd (lev l h c r (t - ag l h c r * ((k : Int) : Rat))) = A2 at *
  generalize rd (out l h c r (k : Int) (t - ag l h c r * ((k : Int) : Rat)) + fa l h c r * (r : Rat) * (m : Rat)) = A3 at *
  generalize rd (out l h c r (k : Int) (t - ag l h c r * ((k : Int) : Rat))) = A4 at *
  generalize begun l h c r (k : Int) (t - ag l h c r * ((k : Int) : Rat)) = B at *
  generalize rd (fa l h c r * (r : Rat) * (m : Rat)) = A5 at *
  generalize rd (fa l h c r * (r : Rat)) = A6 at *
  generalize rd (t + ag l h c r * (m : Rat)) = A7 at *
  generalize rd (ag l h c r * (m : Rat)) = A8 at *
  generalize rd (t * (c : Rat)) = A9 at *
  generalize rd t = TT at *
  generalize rd (ag l h c r) = AG at *
  generalize rd (fa l h c r) = FA at *
  generalize rd (ri l h c r) = RI at *
  have e1 : st1_b1_law ρ = .nx (((ρ.set 14 (.val A2)).set 15 (.val (.int B))).set 16 (.val A4)) := by
    simp [-getElem?_pos, st1_b1_law, T3, e13, at']
  rw [nx_of e1]
  have e2 : st2_b1_law (((ρ.set 14 (.val A2)).set 15 (.val (.int B))).set 16 (.val A4)) = .nx (((ρ.set 14 (.val A2)).set 15 (.val (.int B))).set 16 (.val A4)) := by
    simp [-getElem?_pos, st2_b1_law, T0, T3, e13, le', ru, shL, shR, isBoolD, atI0]
  rw [nx_of e2]
  have e3 : st3_b1_law (((ρ.set 14 (.val A2)).set 15 (.val (.int B))).set 16 (.val A4)) = .nx (((ρ.set 14 (.val A2)).set 15 (.val (.int B))).set 16 (.val A4)) := by
    simp [-getElem?_pos, st3_b1_law, T0, T3, T5, T7, e13, lm, lp, tc, shT]
  rw [nx_of e3]
  have e4 : st4_b1_law (((ρ.set 14 (.val A2)).set 15 (.val (.int B))).set 16 (.val A4)) = .nx ((((ρ.set 14 (.val A2)).set 15 (.val (.int B))).set 16 (.val A4)).set 17 (.val (.int m))) := by
    simp [-getElem?_pos, st4_b1_law, T0, T1, e12, d1, hm, cmul_r (i := v) (j := 1000) (by decide)]
  rw [nx_of e4]
  have e5 : st5_b1_law ((((ρ.set 14 (.val A2)).set 15 (.val (.int B))).set 16 (.val A4)).set 17 (.val (.int m))) = .nx (((((ρ.set 14 (.val A2)).set 15 (.val (.int B))).set 16 (.val A4)).set 17 (.val (.int m))).set 18 (.val A7)) := by
    simp [-getElem?_pos, st5_b1_law, T0, e13, T11, tm, pf]
  rw [nx_of e5]
  have e6 : st6_b1_law (((((ρ.set 14 (.val A2)).set 15 (.val (.int B))).set 16 (.val A4)).set 17 (.val (.int m))).set 18 (.val A7)) = .nx (((((ρ.set 14 (.val A2)).set 15 (.val (.int B))).set 16 (.val A4)).set 17 (.val (.int m))).set 18 (.val A7)) := by
    simp [-getElem?_pos, st6_b1_law, T0, T3, T8, T10, le2, ru2, shL, shR2, fr1, fr2, po]
  exact ⟨_, e6, ((((Same.refl.set (i := 14) rfl).set (i := 15) rfl).set (i := 16) rfl).set (i := 17) rfl).set (i := 18) rfl⟩
end
end DL.K95


namespace DL.K95
open PySem L2 DL.Q DL.Dr
def st0_b2_law : Env → Out := (sAsg 20 (asVal (cCall f_siphon_time (aCons (cVar 3) (aCons (cVar 19) aNil)))))
def st1_b2_law : Env → Out := (sIf (cOr (cTest (cOp oNe (cBor 20) (cCall f__law_plus (aCons (cVar 9) (aCons (cCall f__law_times (aCons (cVar 11) (aCons (cOp oSub (cBor 19) (cC (.int 1))) aNil))) aNil))))) (cOr (cTest (cOp oNe (cOp oIxA (cCall f_siphon_runs (aCons (cVar 3) (aCons (cVar 20) aNil))) (cC (.int 0))) (cBor 19))) (cTest (cOp oNe (cCall f_siphon_level (aCons (cVar 3) (aCons (cVar 20) aNil))) (cTup (aCons (cVar 6) (aCons (cC (.int 1)) aNil))))))) (sRet (cC (.bool false))) sNx)
theorem eq_b2_law : b2_law = (sSeq st0_b2_law st1_b2_law) := rfl
theorem atI4 {α : Type} (x y z u v : α) (l : List α) : atI (x :: y :: z :: u :: v :: l) 4 = some v := atI_nat (j := 4) rfl
theorem atI5 {α : Type} (x y z u v w : α) (l : List α) : atI (x :: y :: z :: u :: v :: w :: l) 5 = some w := atI_nat (j := 5) rfl
theorem div_fac {p q : Int} (p0 : 1 ≤ p) (p1 : p ≤ 1000) (q0 : 1 ≤ q) (q1 : q ≤ 7) : 0 ≤ (p : Rat) / (q : Rat) ∧ (p : Rat) / (q : Rat) ≤ 1000 ∧ ((p : Rat) / (q : Rat)).den ≤ 300 := by
  refine ⟨Rat.le_of_lt (div_pos' (cast_pos (by omega)) (cast_pos (by omega))), div_le' (by omega) p1, ?_⟩
  have := den_div_le (p := p) (q := q) (by omega)
  omega
section
variable {l h c r : Int}
theorem b1_ok (q : Sq l h c r) (w : h - l ≤ 12) {ds : List Int} (hr : InR ds) (hl : ds.length = 60) {ρ : Env} (T : Tn ρ ds l h c r) {tn : Nat} (ht : tn < 5) (e2 : ρ[2]? = some (.val (.int (tn : Nat)))) {n : Nat} (hn : n < 6) (e12 : ρ[12]? = some (.val (.int (n : Nat)))) :
    ∃ ρ', b1_law ρ = .nx ρ' ∧ Same [13, 14, 15, 16, 17, 18] ρ ρ' := by
  have s := q.s
  have key : ∀ {t : Rat}, st0_b1_law ρ = .nx (ρ.set 13 (.val (rd t))) → 0 ≤ t → t ≤ 1000 → t.den ≤ 300 → ∃ ρ', b1_law ρ = .nx ρ' ∧ Same [13, 14, 15, 16, 17, 18] ρ ρ' := fun {t} e0 t0 t1 td => by
    rw [eq_b1_law, nx_of e0]
    obtain ⟨T0, T1, T3, T5, T6, T7, T8, T9, T10, T11⟩ := T
    obtain ⟨ρ', e, sm⟩ := b1r_ok (ρ := ρ.set 13 (.val (rd t))) q hr hl ⟨by simp [-getElem?_pos, T0], by simp [-getElem?_pos, T1], by simp [-getElem?_pos, T3], by simp [-getElem?_pos, T5], by simp [-getElem?_pos, T6], by simp [-getElem?_pos, T7], by simp [-getElem?_pos, T8], by simp [-getElem?_pos, T9], by simp [-getElem?_pos, T10], by simp [-getElem?_pos, T11]⟩ t0 t1 td hn (by simp [-getElem?_pos, e12]) (by simp [-getElem?_pos, T0])
    exact ⟨ρ', e, (Same.refl.set (i := 13) rfl).trans (sm.mono (by decide))⟩
  obtain ⟨T0, T1, T3, T5, T6, T7, T8, T9, T10, T11⟩ := T
  obtain ⟨v1, d1, v10⟩ := dget hr (30 + tn) (by omega)
  obtain ⟨v2, d2, v20⟩ := dget hr (35 + tn) (by omega)
  obtain ⟨v3, d3, v30⟩ := dget hr 40 (by omega)
  rw [Int.natCast_add] at d1 d2
  simp only [Int.cast_ofNat_Int] at d1 d2 d3
  obtain ⟨a1, p1, a10, a11⟩ := pick (v := v1) 1 90 (by decide)
  obtain ⟨a2, p2, a20, a21⟩ := pick (v := v2) 1 6 (by decide)
  obtain ⟨a3, p3, a30, a31⟩ := pick (v := v3) 1 200 (by decide)
  have l1 := llow_ok a1 a2 (by omega) (by omega)
  have l2 := llow_ok a3 7 (by omega) (by omega)
  rw [fr_rd (by omega)] at l1 l2
  have rdn := ri_d q
  have adn := ag_d q
  have pl := lplus_ok (a := ag l h c r) (b := ri l h c r) (nat_mul3 adn rdn (by decide))
  have pd := Nat.le_trans (den_add_le (ag l h c r) (ri l h c r)) (nle (A := 42) (B := 7) adn rdn)
  obtain ⟨f1, f2, f3⟩ := div_fac (p := a1) (q := a2) (by omega) (by omega) (by omega) (by omega)
  obtain ⟨g1, g2, g3⟩ := div_fac (p := a3) (q := 7) (by omega) (by omega) (by omega) (by omega)
  have r0 := ri_pos s
  have r1 : ri l h c r ≤ 12 := by
    unfold ri
    have c0 := cast_pos (show 0 < c by have := s.c0; omega)
    refine Rat.le_of_mul_le_mul_right (c := (c : Rat)) ?_ c0
    have e : ((h - l : Int) : Rat) / (c : Rat) * (c : Rat) = ((h - l : Int) : Rat) := by
      generalize (c : Rat) = x at c0
      grind
    rw [e]
    have : h - l ≤ 12 * c := by have := s.c0; omega
    have z := Rat.intCast_le_intCast.mpr this
    rw [Rat.intCast_mul] at z
    exact z
  have r2 : fa l h c r ≤ 12 := by
    unfold fa
    have c0 := cast_pos (show 0 < r - c by have := s.cr; omega)
    refine Rat.le_of_mul_le_mul_right (c := ((r - c : Int) : Rat)) ?_ c0
    have e : ((h - l : Int) : Rat) / ((r - c : Int) : Rat) * ((r - c : Int) : Rat) = ((h - l : Int) : Rat) := by
      generalize ((r - c : Int) : Rat) = x at c0
      grind
    rw [e]
    have : h - l ≤ 12 * (r - c) := by have := s.cr; omega
    have z := Rat.intCast_le_intCast.mpr this
    rw [Rat.intCast_mul] at z
    exact z
  have a0 := ag_pos s
  have aa : ag l h c r ≤ 24 := by unfold ag; grind
  match n, hn, e12 with
  | 0, _, e12 => exact key (t := 0) (by simp [-getElem?_pos, st0_b1_law, T1, e2, T9, T11, e12, d1, d2, d3, p1, p2, p3, l1, l2, pl, atI0, rd_zero]) (by decide +kernel) (by decide +kernel) (by decide +kernel)
  | 1, _, e12 => exact key (t := ri l h c r) (by simp [-getElem?_pos, st0_b1_law, T1, e2, T9, T11, e12, d1, d2, d3, p1, p2, p3, l1, l2, pl, atI1]) (by grind) (by grind) (by omega)
  | 2, _, e12 => exact key (t := ag l h c r) (by simp [-getElem?_pos, st0_b1_law, T1, e2, T9, T11, e12, d1, d2, d3, p1, p2, p3, l1, l2, pl, atI2]) (by grind) (by grind) (by omega)
  | 3, _, e12 => exact key (t := (a1 : Rat) / (a2 : Rat)) (by simp [-getElem?_pos, st0_b1_law, T1, e2, T9, T11, e12, d1, d2, d3, p1, p2, p3, l1, l2, pl, atI3]) f1 f2 f3
  | 4, _, e12 => exact key (t := ag l h c r + ri l h c r) (by simp [-getElem?_pos, st0_b1_law, T1, e2, T9, T11, e12, d1, d2, d3, p1, p2, p3, l1, l2, pl, atI4]) (by grind) (by grind) (by omega)
  | 5, _, e12 => exact key (t := (a3 : Rat) / ((7 : Int) : Rat)) (by simp [-getElem?_pos, st0_b1_law, T1, e2, T9, T11, e12, d1, d2, d3, p1, p2, p3, l1, l2, pl, atI5]) g1 g2 g3
theorem b2_ok (q : Sq l h c r) {ds : List Int} {ρ : Env} (T : Tn ρ ds l h c r) {m : Int} (m0 : 1 ≤ m) (m1 : m ≤ 1000000) (e19 : ρ[19]? = some (.val (.int m))) : ∃ ρ', b2_law ρ = .nx ρ' ∧ Same [20] ρ ρ' := by
  have s := q.s
  obtain ⟨T0, T1, T3, T5, T6, T7, T8, T9, T10, T11⟩ := T
  have ti := time_ok s m0 (show m ≤ 1000000000000 by omega)
  have rdn := ri_d q
  have adn := ag_d q
  have tm := ltimes_ok (a := ag l h c r) (n := m - 1) (by omega) (cmul_r (by omega))
  have md : (ag l h c r * ((m - 1 : Int) : Rat)).den ≤ 42 := Nat.le_trans (den_muli _ _) adn
  have pl := lplus_ok (a := ri l h c r) (b := ag l h c r * ((m - 1 : Int) : Rat)) (nat_mul3 rdn md (by decide))
  rw [Rat.add_comm] at pl
  have rp := ri_pos s
  have ra : ri l h c r < ag l h c r := by have := fa_pos s; unfold ag; grind
  have fl : Fl (ag l h c r * ((m - 1 : Int) : Rat) + ri l h c r) (ag l h c r) (m - 1) := by
    constructor
    · generalize ag l h c r * ((m - 1 : Int) : Rat) = u
      grind
    · generalize ag l h c r * ((m - 1 : Int) : Rat) = u
      grind
  have u0 : 0 ≤ ag l h c r * ((m - 1 : Int) : Rat) := Rat.mul_nonneg (Rat.le_of_lt (ag_pos s)) (Rat.intCast_le_intCast.mpr (show (0 : Int) ≤ m - 1 by omega))
  have u1 : ag l h c r * ((m - 1 : Int) : Rat) ≤ 2000000000 := by
    have z := Rat.mul_le_mul_of_nonneg_left (Rat.intCast_le_intCast.mpr (show m - 1 ≤ 1000000 by omega)) (Rat.le_of_lt (ag_pos s))
    have z2 := Rat.mul_le_mul_of_nonneg_right (ag_le s) (show (0 : Rat) ≤ ((1000000 : Int) : Rat) from Rat.intCast_le_intCast.mpr (by decide))
    have e : (2000 : Rat) * ((1000000 : Int) : Rat) = 2000000000 := by decide +kernel
    rw [e] at z2
    exact Rat.le_trans z z2
  have td : (ag l h c r * ((m - 1 : Int) : Rat) + ri l h c r).den ≤ 100000000 := Nat.le_trans (den_add_le _ _) (Nat.le_trans (nle (A := 42) (B := 7) md rdn) (by decide))
  have al := ag_le s
  have le' := level_ok s (t := ag l h c r * ((m - 1 : Int) : Rat) + ri l h c r) (by grind) (by grind) td fl
  have ru := runs_ok s (t := ag l h c r * ((m - 1 : Int) : Rat) + ri l h c r) (by grind) (by grind) td fl
  have ex : ag l h c r * ((m - 1 : Int) : Rat) + ri l h c r - ag l h c r * ((m - 1 : Int) : Rat) = ri l h c r := by grind
  rw [ex] at le' ru
  have lv : lev l h c r (ri l h c r) = (h : Rat) := by
    unfold lev
    rw [if_neg (by grind), ri_c s]
    grind
  have bg : begun l h c r (m - 1) (ri l h c r) = m := by
    unfold begun
    rw [if_neg (by grind)]
    omega
  rw [lv, rd_int] at le'
  rw [bg] at ru
  have shT := oNe_same (sh_rd (n := 0) (ag l h c r * ((m - 1 : Int) : Rat) + ri l h c r))
  have shH : oNe (.tuple [.int h, .int 1]) (.tuple [.int h, .int 1]) = some (.bool false) := oNe_same (n := 1) (sh_tup fun d hd => by
    simp only [List.mem_cons, List.not_mem_nil, or_false] at hd
    rcases hd with rfl | rfl <;> exact sh_int)
  generalize sd l h c r = S at *
  generalize rd (ag l h c r * ((m - 1 : Int) : Rat) + ri l h c r) = A1 at *
  generalize rd (ag l h c r * ((m - 1 : Int) : Rat)) = A2 at *
  generalize rd (out l h c r (m - 1) (ri l h c r)) = A4 at *
  generalize rd (ag l h c r) = AG at *
  generalize rd (ri l h c r) = RI at *
  have e1 : st0_b2_law ρ = .nx (ρ.set 20 (.val A1)) := by simp [-getElem?_pos, st0_b2_law, T3, e19, ti]
  rw [eq_b2_law, nx_of e1]
  have e2 : st1_b2_law (ρ.set 20 (.val A1)) = .nx (ρ.set 20 (.val A1)) := by
    simp [-getElem?_pos, st1_b2_law, T0, T3, T6, T9, T11, e19, tm, pl, shT, ru, le', shH, atI0]
  exact ⟨_, e2, Same.refl.set (i := 20) rfl⟩
end
end DL.K95


namespace DL.K95
open PySem L2 DL.Q DL.Dr
def st0_b0_law : Env → Out := (sTo (sTup (sCons (sName 3) (sCons (sName 4) sNil))) (cTup (aCons (cCall f__law_siphon (aCons (cVar 1) (aCons (cOp oMul1 (cC (.int 4)) (cBor 2)) aNil))) (aCons (cCall f__law_siphon (aCons (cVar 1) (aCons (cOp oAdd (cOp oMul1 (cC (.int 4)) (cBor 2)) (cC (.int 2))) aNil))) aNil))))
def st1_b0_law : Env → Out := (sTo (sTup (sCons (sName 5) (sCons (sName 6) (sCons (sName 7) (sCons (sName 8) sNil))))) (cVar 3))
def st2_b0_law : Env → Out := (sTo (sTup (sCons (sName 9) (sCons (sName 10) sNil))) (cCall f__law_rounds (aCons (cVar 3) aNil)))
def st3_b0_law : Env → Out := (sAsg 11 (asVal (cCall f__law_plus (aCons (cVar 9) (aCons (cVar 10) aNil)))))
def st4_b0_law : Env → Out := (sIf (cTest (cOp oNe (cCall f_siphon_again (aCons (cVar 3) aNil)) (cBor 11))) (sRet (cC (.bool false))) sNx)
def st5_b0_law : Env → Out := (sFor (cIt range1D (aCons (cC (.int 6)) aNil)) (sName 12) b1_law)
def st6_b0_law : Env → Out := (sFor (cItems (asList (cLst (aCons (cC (.int 1)) (aCons (cC (.int 2)) (aCons (cC (.int 5)) (aCons (cOp oAdd (cC (.int 1)) (cBt bInt (aCons (cOp oIxA (cBor 1) (cC (.int 50))) aNil))) (aCons (cOp oPow (cC (.int 10)) (cC (.int 6))) aNil)))))))) (sName 19) b2_law)
def st7_b0_law : Env → Out := (sPar3 21 22 23 (aCons (cCall f__law_plus (aCons (cOp oIxA (cCall f__law_rounds (aCons (cVar 4) aNil)) (cC (.int 0))) (aCons (cOp oIxA (cCall f__law_rounds (aCons (cVar 4) aNil)) (cC (.int 1))) aNil))) (aCons (cVar 11) (aCons (cC (.int 1)) aNil))))
def st8_b0_law : Env → Out := (sWhile (cTest (cOp oNe (cOp oMul1 (cOp oMul1 (cOp oDiv (cOp oMul1 (cOp oIxA (cBor 22) (cC (.int 0))) (cOp oIxA (cBor 21) (cC (.int 1)))) (cOp oMul1 (cOp oIxA (cBor 22) (cC (.int 1))) (cOp oIxA (cBor 21) (cC (.int 0))))) (cOp oIxA (cBor 21) (cC (.int 0)))) (cOp oIxA (cBor 22) (cC (.int 1)))) (cOp oMul1 (cOp oIxA (cBor 22) (cC (.int 0))) (cOp oIxA (cBor 21) (cC (.int 1)))))) b3_law)
def st9_b0_law : Env → Out := (sIf (cOr (cTest (cOp oNe (cCall f_both_run (aCons (cVar 3) (aCons (cVar 4) aNil))) (cBor 22))) (cTest (cOp oNe (cCall f_both_run (aCons (cVar 4) (aCons (cVar 3) aNil))) (cBor 22)))) (sRet (cC (.bool false))) sNx)
def st10_b0_law : Env → Out := (sAsg 24 (asVal (asList (cLst (aCons (cC .none) (aCons (cTup aNil) (aCons (cBt bList (aCons (cBor 3) aNil)) (aCons (cSl (cBor 3) pNone (pSome (cC (.int 3)))) (aCons (cOp oAdd (cBor 3) (cTup (aCons (cC (.int 0)) aNil))) (aCons (cTup (aCons (cVar 6) (aCons (cVar 5) (aCons (cVar 7) (aCons (cVar 8) aNil))))) (aCons (cTup (aCons (cVar 5) (aCons (cVar 5) (aCons (cC (.int 1)) (aCons (cC (.int 2)) aNil))))) aNil)))))))))))
def st11_b0_law : Env → Out := (sFor (cItems (cOp oAdd (cBor 24) (asList (cLst (aCons (cTup (aCons (cVar 5) (aCons (cVar 6) (aCons (cVar 8) (aCons (cVar 7) aNil))))) (aCons (cTup (aCons (cVar 5) (aCons (cVar 6) (aCons (cC (.int 0)) (aCons (cC (.int 1)) aNil))))) (aCons (cTup (aCons (cVar 5) (aCons (cVar 6) (aCons (cC (.int 1)) (aCons (cC (.int 101)) aNil))))) (aCons (cTup (aCons (cUn oNeg (cC (.int 1))) (aCons (cVar 6) (aCons (cC (.int 1)) (aCons (cC (.int 2)) aNil))))) (aCons (cTup (aCons (cC (.int 0)) (aCons (cC (.int 1001)) (aCons (cC (.int 1)) (aCons (cC (.int 2)) aNil))))) (aCons (cTup (aCons (cC (.bool true)) (aCons (cVar 6) (aCons (cC (.int 1)) (aCons (cC (.int 2)) aNil))))) aNil)))))))))) (sName 25) b4_law)
def st12_b0_law : Env → Out := (sFor (cItems (asList (cLst (aCons (cC .none) (aCons (cC (.int 5)) (aCons (cTup (aCons (cUn oNeg (cC (.int 1))) (aCons (cC (.int 1)) aNil))) (aCons (cTup (aCons (cC (.int 2)) (aCons (cC (.int 4)) aNil))) (aCons (cTup (aCons (cOp oAdd (cOp oPow (cC (.int 10)) (cC (.int 12))) (cC (.int 1))) (aCons (cC (.int 1)) aNil))) (aCons (cTup (aCons (cC (.bool true)) (aCons (cC (.int 1)) aNil))) aNil))))))))) (sName 25) b5_law)
def st13_b0_law : Env → Out := (sIf (cTest (cOp oNe (asList (cLc (cItems (asList (cLst (aCons (cC .none) (aCons (cC (.int 0)) (aCons (cOp oAdd (cOp oPow (cC (.int 10)) (cC (.int 12))) (cC (.int 1))) (aCons (cC (.bool true)) aNil))))))) (sName 25) cYes (cCall f__law_word (aCons (cC (.int 3)) (aCons (cVar 3) (aCons (cVar 25) (aCons (cC .none) aNil))))) [25])) (cOp oMul1 (asList (cLst (aCons (cC (.str "many")) aNil))) (cC (.int 4))))) (sRet (cC (.bool false))) sNx)
def st14_b0_law : Env → Out := (sIf (cTest (cOp oNe (asList (cLst (aCons (cCall f__law_word (aCons (cC (.int 5)) (aCons (cVar 6) (aCons (cVar 5) (aCons (cC .none) aNil))))) (aCons (cCall f__law_word (aCons (cC (.int 5)) (aCons (cC .none) (aCons (cVar 6) (aCons (cC .none) aNil))))) (aCons (cCall f__law_word (aCons (cC (.int 5)) (aCons (cVar 5) (aCons (cC (.int 1001)) (aCons (cC .none) aNil))))) aNil))))) (cOp oMul1 (asList (cLst (aCons (cC (.str "siphon")) aNil))) (cC (.int 3))))) (sRet (cC (.bool false))) sNx)
theorem eq_b0_law : b0_law = (sSeq st0_b0_law (sSeq st1_b0_law (sSeq st2_b0_law (sSeq st3_b0_law (sSeq st4_b0_law (sSeq st5_b0_law (sSeq st6_b0_law (sSeq st7_b0_law (sSeq st8_b0_law (sSeq st9_b0_law (sSeq st10_b0_law (sSeq st11_b0_law (sSeq st12_b0_law (sSeq st13_b0_law st14_b0_law)))))))))))))) := rfl
/-- so many times a is a multiple of b just if .. -/
theorem mult_iff {a b : Rat} (ha : 0 < a) (hb : 0 < b) (m : Int) : ((b.num * ((a * (m : Rat)).den : Int)) ∣ ((a * (m : Rat)).num * (b.den : Int))) ↔ den (a.num * (b.den : Int)) ((a.den : Int) * b.num) ∣ m := by
  have an : 0 < a.num := by have := (Rat.lt_iff 0 a).mp ha; simpa using this
  have bn : 0 < b.num := by have := (Rat.lt_iff 0 b).mp hb; simpa using this
  have ad := a.den_pos
  have bd := b.den_pos
  have qp : 0 < (a.den : Int) * b.num := Int.mul_pos (by omega) bn
  obtain ⟨x, y, e1, e2, e3, e4, e5, e6⟩ := gcd_facts (p := a.num * (b.den : Int)) (q := (a.den : Int) * b.num) (by omega)
  have dn : den (a.num * (b.den : Int)) ((a.den : Int) * b.num) = y := by
    unfold den
    rw [if_pos qp, e6]
  rw [dn]
  have ea := rat_mul_den a
  have eb := rat_mul_den b
  have ec := rat_mul_den (a * (m : Rat))
  have da : ((a.den : Int) : Rat) ≠ 0 := den_ne a
  have db : ((b.den : Int) : Rat) ≠ 0 := den_ne b
  have dc : (((a * (m : Rat)).den : Int) : Rat) ≠ 0 := den_ne _
  -- z times b is a times m
  have mid : ∀ z : Int, (a * (m : Rat)).num * (b.den : Int) = b.num * ((a * (m : Rat)).den : Int) * z ↔ a * (m : Rat) = b * (z : Rat) := fun z => by
    rw [← Rat.intCast_inj]
    simp only [Rat.intCast_mul]
    rw [← ec, ← eb]
    generalize ((a.den : Int) : Rat) = u at *
    generalize ((b.den : Int) : Rat) = v at *
    generalize (((a * (m : Rat)).den : Int) : Rat) = w at *
    constructor
    · intro h; grind
    · intro h; grind
  have mid2 : ∀ z : Int, a * (m : Rat) = b * (z : Rat) ↔ a.num * (b.den : Int) * m = (a.den : Int) * b.num * z := fun z => by
    rw [← Rat.intCast_inj]
    simp only [Rat.intCast_mul]
    rw [← ea, ← eb]
    generalize ((a.den : Int) : Rat) = u at *
    generalize ((b.den : Int) : Rat) = v at *
    constructor
    · intro h; grind
    · intro h; grind
  constructor
  · rintro ⟨z, hz⟩
    have h2 := (mid2 z).mp ((mid z).mp hz)
    generalize ((a.num * (b.den : Int)).gcd ((a.den : Int) * b.num) : Int) = g at *
    rw [e1, e2] at h2
    have h3 : x * m = y * z := by
      apply Int.eq_of_mul_eq_mul_left (a := g) (by omega)
      grind
    have dv : y ∣ x * m := ⟨z, h3⟩
    have dg := Int.dvd_gcd_mul_iff_dvd_mul.mpr dv
    rw [Int.gcd_comm, e3] at dg
    simpa using dg
  · rintro ⟨z, hz⟩
    refine ⟨x * z, ((mid (x * z)).mpr ((mid2 (x * z)).mpr ?_))⟩
    generalize ((a.num * (b.den : Int)).gcd ((a.den : Int) * b.num) : Int) = g at *
    rw [e1, e2, hz]
    grind
theorem dn_pos {a b : Rat} (ha : 0 < a) (hb : 0 < b) : 0 < den (a.num * (b.den : Int)) ((a.den : Int) * b.num) := by
  have an : 0 < a.num := by have := (Rat.lt_iff 0 a).mp ha; simpa using this
  have bn : 0 < b.num := by have := (Rat.lt_iff 0 b).mp hb; simpa using this
  have ad := a.den_pos
  have bd := b.den_pos
  exact (num_le (p := a.num * (b.den : Int)) (q := (a.den : Int) * b.num) (Int.mul_pos (by omega) bn) (Int.mul_pos an (by omega))).2.2.1
/-- both ways round it is the same -/
theorem both_same {a b : Rat} (ha : 0 < a) (hb : 0 < b) : b * ((den (b.num * (a.den : Int)) ((b.den : Int) * a.num) : Int) : Rat) = a * ((den (a.num * (b.den : Int)) ((a.den : Int) * b.num) : Int) : Rat) := by
  have an : 0 < a.num := by have := (Rat.lt_iff 0 a).mp ha; simpa using this
  have bn : 0 < b.num := by have := (Rat.lt_iff 0 b).mp hb; simpa using this
  have ad := a.den_pos
  have bd := b.den_pos
  have qp : 0 < (a.den : Int) * b.num := Int.mul_pos (by omega) bn
  have pp : 0 < a.num * (b.den : Int) := Int.mul_pos an (by omega)
  obtain ⟨x, y, e1, e2, e3, e4, e5, e6⟩ := gcd_facts (p := a.num * (b.den : Int)) (q := (a.den : Int) * b.num) (by omega)
  have d1 : den (a.num * (b.den : Int)) ((a.den : Int) * b.num) = y := by
    unfold den
    rw [if_pos qp, e6]
  have d2 : den (b.num * (a.den : Int)) ((b.den : Int) * a.num) = x := by
    unfold den
    rw [Int.mul_comm b.num, Int.mul_comm (b.den : Int), if_pos pp, Int.gcd_comm, e5]
  rw [d1, d2]
  have ea := rat_mul_den a
  have eb := rat_mul_den b
  generalize ((a.num * (b.den : Int)).gcd ((a.den : Int) * b.num) : Int) = g at *
  have c1 : (a.num : Rat) * ((b.den : Int) : Rat) = (x : Rat) * (g : Rat) := by rw [← Rat.intCast_mul, e1, Rat.intCast_mul]
  have c2 : ((a.den : Int) : Rat) * (b.num : Rat) = (y : Rat) * (g : Rat) := by rw [← Rat.intCast_mul, e2, Rat.intCast_mul]
  have g0 : (0 : Rat) < (g : Rat) := cast_pos e4
  rw [← ea] at c1
  rw [← eb] at c2
  have da : ((a.den : Int) : Rat) ≠ 0 := den_ne a
  have db : ((b.den : Int) : Rat) ≠ 0 := den_ne b
  generalize ((a.den : Int) : Rat) = u at *
  generalize ((b.den : Int) : Rat) = v at *
  have g1 : (g : Rat) ≠ 0 := by grind
  have : (g : Rat) * (b * (x : Rat)) = (g : Rat) * (a * (y : Rat)) := by grind
  grind
section
variable {l h c r : Int}
/-- the law's way to both: one time more, until it is whole for the other, too -/
theorem both_loop {l2 h2 c2 r2 : Int} (q : Sq l h c r) (q2 : Sq l2 h2 c2 r2) {ρ0 : Env} (len : ρ0.length = 29) (e11 : ρ0[11]? = some (.val (rd (ag l h c r)))) (e21 : ρ0[21]? = some (.val (rd (ag l2 h2 c2 r2)))) {dn : Int} (hd : den ((ag l h c r).num * ((ag l2 h2 c2 r2).den : Int)) (((ag l h c r).den : Int) * (ag l2 h2 c2 r2).num) = dn) :
    ∀ (k : Nat) (fuel : Nat) (j : Int) (ρ : Env), dn - j = (k : Int) → k < fuel → 1 ≤ j → Same [22, 23] ρ0 ρ → ρ[22]? = some (.val (rd (ag l h c r * (j : Rat)))) → ρ[23]? = some (.val (.int j)) →
      ∃ ρ', whileLoop (cTest (cOp oNe (cOp oMul1 (cOp oMul1 (cOp oDiv (cOp oMul1 (cOp oIxA (cBor 22) (cC (.int 0))) (cOp oIxA (cBor 21) (cC (.int 1)))) (cOp oMul1 (cOp oIxA (cBor 22) (cC (.int 1))) (cOp oIxA (cBor 21) (cC (.int 0))))) (cOp oIxA (cBor 21) (cC (.int 0)))) (cOp oIxA (cBor 22) (cC (.int 1)))) (cOp oMul1 (cOp oIxA (cBor 22) (cC (.int 0))) (cOp oIxA (cBor 21) (cC (.int 1)))))) b3_law fuel ρ = .nx ρ' ∧ Same [22, 23] ρ0 ρ' ∧ ρ'[22]? = some (.val (rd (ag l h c r * (dn : Rat)))) := by
  have a0 := ag_pos q.s
  have b0 := ag_pos q2.s
  have dp := dn_pos a0 b0
  rw [hd] at dp
  have bd := ag_d q2
  obtain ⟨bn0, bn1⟩ := ag_num q2.s
  have bdp := (ag l2 h2 c2 r2).den_pos
  intro k
  induction k with
  | zero =>
    intro fuel j ρ hk hf hj sm e22 e23
    have ej : j = dn := by omega
    subst ej
    have mi := (mult_iff a0 b0 j).mpr (by rw [hd]; exact Int.dvd_refl _)
    have s21 := sm.get e21
    have bbd : (ag l h c r * (j : Rat)).den ≤ 42 := Nat.le_trans (den_muli _ _) (ag_d q)
    have bbp := (ag l h c r * (j : Rat)).den_pos
    refine ⟨ρ, ?_, sm, e22⟩
    generalize hb : ag l h c r * (j : Rat) = B at *
    have yp := Int.mul_pos (show 0 < (B.den : Int) by omega) bn0
    have m1 := Int.mul_le_mul (show (B.den : Int) ≤ 42 by omega) bn1 (by omega) (by decide)
    have cd : CDivW (B.num * ((ag l2 h2 c2 r2).den : Int)) ((B.den : Int) * (ag l2 h2 c2 r2).num) := cdivw ⟨yp, by omega⟩
    have ev : B.num * ((ag l2 h2 c2 r2).den : Int) / ((B.den : Int) * (ag l2 h2 c2 r2).num) * (ag l2 h2 c2 r2).num * (B.den : Int) = B.num * ((ag l2 h2 c2 r2).den : Int) := by
      rw [Int.mul_assoc, Int.mul_comm (ag l2 h2 c2 r2).num]
      rw [Int.mul_comm (ag l2 h2 c2 r2).num] at mi
      exact Int.ediv_mul_cancel mi
    match fuel, hf with
    | f + 1, _ =>
      refine while_stop ?_
      simp [-getElem?_pos, e22, s21, rd_num, rd_den, cmul_r (i := B.num) (j := ((ag l2 h2 c2 r2).den : Int)) (by omega), cmul_l (i := (B.den : Int)) (j := (ag l2 h2 c2 r2).num) (by omega), cd, cmul_r (j := (ag l2 h2 c2 r2).num) (by omega), cmul_r (j := (B.den : Int)) (by omega), ev]
  | succ k ih =>
    intro fuel j ρ hk hf hj sm e22 e23
    have nd : ¬ dn ∣ j := fun ⟨z, hz⟩ => by
      have : 0 < z := by
        rcases Int.lt_or_le 0 z with h | h
        · exact h
        · have := Int.mul_nonpos_of_nonneg_of_nonpos (show 0 ≤ dn by omega) h
          omega
      have := Int.mul_le_mul_of_nonneg_left (show 1 ≤ z by omega) (show 0 ≤ dn by omega)
      omega
    have mi : ¬ _ := fun z => nd (by rw [← hd]; exact (mult_iff a0 b0 j).mp z)
    have s21 := sm.get e21
    have s11 := sm.get e11
    have bbd : (ag l h c r * (j : Rat)).den ≤ 42 := Nat.le_trans (den_muli _ _) (ag_d q)
    have bbp := (ag l h c r * (j : Rat)).den_pos
    have pl := lplus_ok (a := ag l h c r * (j : Rat)) (b := ag l h c r) (nat_mul3 bbd (ag_d q) (by decide))
    rw [show ag l h c r * (j : Rat) + ag l h c r = ag l h c r * ((j + 1 : Int) : Rat) by rw [Rat.intCast_add, show ((1 : Int) : Rat) = 1 from rfl]; grind] at pl
    have len1 : ρ.length = 29 := sm.len.trans len
    obtain ⟨ρ', e, sm', e22'⟩ := ih (fuel - 1) (j + 1) ((ρ.set 22 (.val (rd (ag l h c r * ((j + 1 : Int) : Rat))))).set 23 (.val (.int (j + 1)))) (by omega) (by omega) (by omega) ((sm.set (i := 22) rfl).set (i := 23) rfl) (by simp [-getElem?_pos, len1]) (by simp [-getElem?_pos, len1])
    refine ⟨ρ', ?_, sm', e22'⟩
    have b3 : b3_law ρ = .nx ((ρ.set 22 (.val (rd (ag l h c r * ((j + 1 : Int) : Rat))))).set 23 (.val (.int (j + 1)))) := by
      simp [-getElem?_pos, b3_law, e22, e23, s11, pl]
    generalize hb : ag l h c r * (j : Rat) = B at *
    have yp := Int.mul_pos (show 0 < (B.den : Int) by omega) bn0
    have m1 := Int.mul_le_mul (show (B.den : Int) ≤ 42 by omega) bn1 (by omega) (by decide)
    have cd : CDivW (B.num * ((ag l2 h2 c2 r2).den : Int)) ((B.den : Int) * (ag l2 h2 c2 r2).num) := cdivw ⟨yp, by omega⟩
    have ev : ¬ B.num * ((ag l2 h2 c2 r2).den : Int) / ((B.den : Int) * (ag l2 h2 c2 r2).num) * (ag l2 h2 c2 r2).num * (B.den : Int) = B.num * ((ag l2 h2 c2 r2).den : Int) := fun z => by
      rw [Int.mul_assoc, Int.mul_comm (ag l2 h2 c2 r2).num] at z
      refine mi ⟨B.num * ((ag l2 h2 c2 r2).den : Int) / ((B.den : Int) * (ag l2 h2 c2 r2).num), ?_⟩
      rw [Int.mul_comm (ag l2 h2 c2 r2).num, Int.mul_comm ((B.den : Int) * (ag l2 h2 c2 r2).num)]
      exact z.symm
    match fuel, hf with
    | f + 1, _ =>
      rw [while_go ?_ b3]
      · exact e
      · simp [-getElem?_pos, e22, s21, rd_num, rd_den, cmul_r (i := B.num) (j := ((ag l2 h2 c2 r2).den : Int)) (by omega), cmul_l (i := (B.den : Int)) (j := (ag l2 h2 c2 r2).num) (by omega), cd, cmul_r (j := (ag l2 h2 c2 r2).num) (by omega), cmul_r (j := (B.den : Int)) (by omega), ev]
end
end DL.K95


namespace DL.K95
open PySem L2 DL.Q DL.Dr
section
variable {l h c r : Int}
theorem sh_s {n : Nat} {x : Str} (h : PyData.strOk x = true) : Sh n (.str x) := ⟨by simp [PyData.canLay0, h], by simp [-getElem?_pos, PyData.depth]⟩
theorem ne_words (x : Str) (n : Nat) (h : PyData.strOk x = true) : oNe (.list (List.replicate n (.str x))) (.list (List.replicate n (.str x))) = some (.bool false) := oNe_same (n := 1) (sh_lst fun d hd => by
  rw [(List.mem_replicate.mp hd).2]
  exact sh_s h)
theorem ne_siphon6 : oNe (.list [.str "siphon", .str "siphon", .str "siphon", .str "siphon", .str "siphon", .str "siphon"]) (.list [.str "siphon", .str "siphon", .str "siphon", .str "siphon", .str "siphon", .str "siphon"]) = some (.bool false) := ne_words "siphon" 6 (by decide +kernel)
theorem ne_siphon3 : oNe (.list [.str "siphon", .str "siphon", .str "siphon"]) (.list [.str "siphon", .str "siphon", .str "siphon"]) = some (.bool false) := ne_words "siphon" 3 (by decide +kernel)
theorem ne_time3 : oNe (.list [.str "time", .str "time", .str "time"]) (.list [.str "time", .str "time", .str "time"]) = some (.bool false) := ne_words "time" 3 (by decide +kernel)
theorem ne_many4 : oNe (.list [.str "many", .str "many", .str "many", .str "many"]) (.list [.str "many", .str "many", .str "many", .str "many"]) = some (.bool false) := ne_words "many" 4 (by decide +kernel)
theorem rng5 : rangeD 0 5 = [.int 0, .int 1, .int 2, .int 3, .int 4] := rfl
theorem rep1 (x : D) (n : Nat) : (List.replicate n [x]).flatten = List.replicate n x := by
  induction n with
  | zero => rfl
  | succ n ih => simp [List.replicate_succ, ih]
theorem wrong_other (s : Sp l h c r) {w : D} (hw : f__check [w] = .exc ⟨"BadSiphon", []⟩) : f__law_word [.int 4, sd l h c r, w, .none] = .ok (.str "siphon") := by
  have ck := check_ok s
  generalize sd l h c r = S at ck ⊢
  exact w_siphon (by simp [b0__law_word, f_both_run, c_both_run, semOf, ck, hw])
theorem b4_ok (s : Sp l h c r) {ρ : Env} (len : ρ.length = 29) (e3 : ρ[3]? = some (.val (sd l h c r))) {w : D} (e25 : ρ[25]? = some (.val w)) (hw : f__check [w] = .exc ⟨"BadSiphon", []⟩) : b4_law ρ = .nx ρ := by
  have w0 := wrong_siphon hw 0 (by simp)
  have w1 := wrong_siphon hw 1 (by simp)
  have w2 := wrong_siphon hw 2 (by simp)
  have w3 := wrong_siphon hw 3 (by simp)
  have w4 := wrong_siphon hw 4 (by simp)
  have w5 := wrong_other s hw
  generalize sd l h c r = S at *
  simp [-getElem?_pos, b4_law, rng5, lcGo_cons, wipeR, len, e3, e25, w0, w1, w2, w3, w4, w5, rep1, List.replicate, ne_siphon6]
/-- what is no time -/
theorem bad_time (s : Sp l h c r) : ∀ d ∈ ([.none, .int 5, .tuple [.int (-1), .int 1], .tuple [.int 2, .int 4], .tuple [.int 1000000000001, .int 1], .tuple [.bool true, .int 1]] : List D), f__check_time [sd l h c r, d] = .exc ⟨"BadTime", []⟩ ∧ f_rates_again [.int l, .int h, d] = .exc ⟨"BadTime", []⟩ := by
  have ck := check_ok s
  have ck2 := check_ok (l := l) (h := h) (c := 1) (r := 100) ⟨s.l0, s.lh, s.h1, by decide, by decide, by decide⟩
  unfold sd at ck2
  generalize sd l h c r = S at *
  have dv := divisor_ok 2 4 (by unfold FUEL; decide)
  rw [show ((Int.gcd 2 4 : Nat) : Int) = 2 from by decide +kernel] at dv
  have dv2 := divisor_ok 1000000000001 1 (by unfold FUEL; decide)
  have dv3 := divisor_ok (-1) 1 (by unfold FUEL; decide)
  intro d hd
  simp only [List.mem_cons, List.not_mem_nil, or_false] at hd
  rcases hd with rfl | rfl | rfl | rfl | rfl | rfl
  · constructor <;> simp [f__check_time, c__check_time, f_rates_again, c_rates_again, semOf, ck, ck2, f_is_quotient, c_is_quotient, f_is_integer, c_is_integer, isTupleD, isIntD, isBoolD]
  · constructor <;> simp [f__check_time, c__check_time, f_rates_again, c_rates_again, semOf, ck, ck2, f_is_quotient, c_is_quotient, f_is_integer, c_is_integer, isTupleD, isIntD, isBoolD]
  · constructor <;> simp [f__check_time, c__check_time, f_rates_again, c_rates_again, semOf, ck, ck2, f_is_quotient, c_is_quotient, f_is_integer, c_is_integer, isTupleD, isIntD, isBoolD, atI0, atI1, k_div, dv3]
  · constructor <;> simp [f__check_time, c__check_time, f_rates_again, c_rates_again, semOf, ck, ck2, f_is_quotient, c_is_quotient, f_is_integer, c_is_integer, isTupleD, isIntD, isBoolD, atI0, atI1, k_div, dv]
  · constructor <;> simp [f__check_time, c__check_time, f_rates_again, c_rates_again, semOf, ck, ck2, f_is_quotient, c_is_quotient, f_is_integer, c_is_integer, isTupleD, isIntD, isBoolD, atI0, atI1, k_div, dv2, f_is_less, c_is_less, cmul_r (i := 1000000000001) (j := 1) (by decide), cmul_r (i := 1000000000000) (j := 1) (by decide)]
  · constructor <;> simp [f__check_time, c__check_time, f_rates_again, c_rates_again, semOf, ck, ck2, f_is_quotient, c_is_quotient, f_is_integer, c_is_integer, isTupleD, isIntD, isBoolD, atI0, atI1]
theorem b5_ok (s : Sp l h c r) {ρ : Env} (len : ρ.length = 29) (e3 : ρ[3]? = some (.val (sd l h c r))) (e5 : ρ[5]? = some (.val (.int l))) (e6 : ρ[6]? = some (.val (.int h))) {w : D} (e25 : ρ[25]? = some (.val w)) (h1 : f__check_time [sd l h c r, w] = .exc ⟨"BadTime", []⟩) (h2 : f_rates_again [.int l, .int h, w] = .exc ⟨"BadTime", []⟩) : b5_law ρ = .nx ρ := by
  generalize sd l h c r = S at *
  have w1 : f__law_word [.int 1, S, w, .none] = .ok (.str "time") := w_time (by simp [b0__law_word, f_siphon_level, c_siphon_level, semOf, h1])
  have w2 : f__law_word [.int 2, S, w, .none] = .ok (.str "time") := w_time (by simp [b0__law_word, f_siphon_runs, c_siphon_runs, semOf, h1])
  have w3 : f__law_word [.int 5, .int l, .int h, w] = .ok (.str "time") := w_time (by simp [b0__law_word, h2])
  simp [-getElem?_pos, b5_law, lcGo_cons, wipeR, len, e3, e5, e6, e25, w1, w2, w3, rep1, List.replicate, ne_time3]
theorem st13_ok (s : Sp l h c r) {ρ : Env} (len : ρ.length = 29) (e3 : ρ[3]? = some (.val (sd l h c r))) : st13_b0_law ρ = .nx ρ := by
  have ck := check_ok s
  generalize sd l h c r = S at *
  have wm : ∀ d : D, isW d 1 1000000000000 = false → f__law_word [.int 3, S, d, .none] = .ok (.str "many") := fun d hd => w_many (by
    have w := is_whole_ok d 1 1000000000000
    rw [hd] at w
    simp [b0__law_word, f_siphon_time, c_siphon_time, semOf, ck, k_whole, w])
  have w1 := wm .none rfl
  have w2 := wm (.int 0) rfl
  have w3 := wm (.int 1000000000001) rfl
  have w4 := wm (.bool true) rfl
  have cp : CPow 10 12 := by decide
  have pw : (10 : Int) ^ (12 : Int).toNat = 1000000000000 := by decide
  simp [-getElem?_pos, st13_b0_law, lcGo_cons, wipeR, len, e3, w1, w2, w3, w4, rep1, List.replicate, ne_many4, cp, pw]
theorem st14_ok (s : Sp l h c r) {ρ : Env} (len : ρ.length = 29) (e5 : ρ[5]? = some (.val (.int l))) (e6 : ρ[6]? = some (.val (.int h))) : st14_b0_law ρ = .nx ρ := by
  obtain ⟨a1, a2, a3, a4, a5, a6⟩ := s
  have w := is_whole_ok
  have k1 : f_rates_again [.int h, .int l, .none] = .exc ⟨"BadSiphon", []⟩ := by
    simp [f_rates_again, c_rates_again, semOf, f__check, c__check, isTupleD, k_whole, w, isW, show l ≤ h by omega]
  have k2 : f_rates_again [.none, .int h, .none] = .exc ⟨"BadSiphon", []⟩ := by
    simp [f_rates_again, c_rates_again, semOf, f__check, c__check, isTupleD, k_whole, w, isW]
  have k3 : f_rates_again [.int l, .int 1001, .none] = .exc ⟨"BadSiphon", []⟩ := by
    simp [f_rates_again, c_rates_again, semOf, f__check, c__check, isTupleD, k_whole, w, isW, show 0 ≤ l ∧ l ≤ 1000 by omega]
  have w1 : f__law_word [.int 5, .int h, .int l, .none] = .ok (.str "siphon") := w_siphon (by simp [b0__law_word, k1])
  have w2 : f__law_word [.int 5, .none, .int h, .none] = .ok (.str "siphon") := w_siphon (by simp [b0__law_word, k2])
  have w3 : f__law_word [.int 5, .int l, .int 1001, .none] = .ok (.str "siphon") := w_siphon (by simp [b0__law_word, k3])
  simp [-getElem?_pos, st14_b0_law, e5, e6, w1, w2, w3, rep1, List.replicate, ne_siphon3]
end
end DL.K95


namespace DL.K95
open PySem L2 DL.Q DL.Dr
theorem to_sd {l h c r : Int} {s : List D → Env → Option Env} {ρ : Env} : sTup s (sd l h c r) ρ = s [.int l, .int h, .int c, .int r] ρ := rfl
theorem sd_list {l h c r : Int} : bList [sd l h c r] = some (.list [.int l, .int h, .int c, .int r]) := rfl
theorem sd_cut {l h c r : Int} : oSl (sd l h c r) none (some 3) = some (.tuple [.int l, .int h, .int c]) := rfl
theorem sd_more {l h c r : Int} : oAdd (sd l h c r) (.tuple [.int 0]) = some (.tuple [.int l, .int h, .int c, .int r, .int 0]) := rfl
abbrev TS : List Nat := [3, 4, 5, 6, 7, 8, 9, 10, 11, 12, 13, 14, 15, 16, 17, 18, 19, 20, 21, 22, 23, 24, 25]
theorem turn_ok {ds : List Int} (hr : InR ds) (hl : ds.length = 60) {ρ : Env} (len : ρ.length = 29) (e1 : ρ[1]? = some (.val (.list (ds.map .int)))) {tn : Nat} (ht : tn < 5) (e2 : ρ[2]? = some (.val (.int (tn : Nat)))) : ∃ ρ', b0_law ρ = .nx ρ' ∧ Same TS ρ ρ' := by
  obtain ⟨l, h, c, r, s1, s, hh, hw, hr20, hc7, hd6⟩ := law_siphon_ok hr (4 * tn) (by omega)
  obtain ⟨l2, h2, c2, r2, s2, s', hh2, hw2, hr202, hc72, hd62⟩ := law_siphon_ok hr (4 * tn + 2) (by omega)
  have q : Sq l h c r := ⟨s, hc7, hd6⟩
  have q2 : Sq l2 h2 c2 r2 := ⟨s', hc72, hd62⟩
  rw [Int.natCast_add, Int.natCast_mul] at s2
  rw [Int.natCast_mul] at s1
  simp only [Int.cast_ofNat_Int] at s1 s2
  have lr := lrounds_ok s
  have lr2 := lrounds_ok s'
  have rdn := ri_d q
  have fdn := fa_d q
  have rdn2 := ri_d q2
  have fdn2 := fa_d q2
  have pl := lplus_ok (a := ri l h c r) (b := fa l h c r) (nat_mul3 rdn fdn (by decide))
  have pl2 := lplus_ok (a := ri l2 h2 c2 r2) (b := fa l2 h2 c2 r2) (nat_mul3 rdn2 fdn2 (by decide))
  rw [show ri l h c r + fa l h c r = ag l h c r from rfl] at pl
  rw [show ri l2 h2 c2 r2 + fa l2 h2 c2 r2 = ag l2 h2 c2 r2 from rfl] at pl2
  have sa := siphon_again_ok s
  have ne0 := oNe_same (sh_rd (n := 0) (ag l h c r))
  rw [eq_b0_law]
  have x0 : st0_b0_law ρ = .nx ((ρ.set 3 (.val (sd l h c r))).set 4 (.val (sd l2 h2 c2 r2))) := by
    simp [-getElem?_pos, st0_b0_law, e1, e2, cmul_l (i := 4) (j := (tn : Int)) (by decide), s1, s2]
  rw [nx_of x0]
  obtain ⟨ρ1, h1⟩ : ∃ x, (ρ.set 3 (.val (sd l h c r))).set 4 (.val (sd l2 h2 c2 r2)) = x := ⟨_, rfl⟩
  have m1 : Same TS ρ ρ1 := by rw [← h1]; exact (Same.refl.set (i := 3) rfl).set (i := 4) rfl
  have a3 : ρ1[3]? = some (.val (sd l h c r)) := by rw [← h1]; simp [-getElem?_pos, len]
  have a4 : ρ1[4]? = some (.val (sd l2 h2 c2 r2)) := by rw [← h1]; simp [-getElem?_pos, len]
  rw [h1]
  have len1 := m1.len.trans len
  have x1 : st1_b0_law ρ1 = .nx ((((ρ1.set 5 (.val (.int l))).set 6 (.val (.int h))).set 7 (.val (.int c))).set 8 (.val (.int r))) := by
    simp [-getElem?_pos, st1_b0_law, a3, to_sd]
  rw [nx_of x1]
  obtain ⟨ρ2, z2⟩ : ∃ x, (((ρ1.set 5 (.val (.int l))).set 6 (.val (.int h))).set 7 (.val (.int c))).set 8 (.val (.int r)) = x := ⟨_, rfl⟩
  have m2 : Same [5, 6, 7, 8] ρ1 ρ2 := by rw [← z2]; exact (((Same.refl.set (i := 5) rfl).set (i := 6) rfl).set (i := 7) rfl).set (i := 8) rfl
  have b5 : ρ2[5]? = some (.val (.int l)) := by rw [← z2]; simp [-getElem?_pos, len1]
  have b6 : ρ2[6]? = some (.val (.int h)) := by rw [← z2]; simp [-getElem?_pos, len1]
  have b7 : ρ2[7]? = some (.val (.int c)) := by rw [← z2]; simp [-getElem?_pos, len1]
  have b8 : ρ2[8]? = some (.val (.int r)) := by rw [← z2]; simp [-getElem?_pos, len1]
  have b3 := m2.get a3
  have b4 := m2.get a4
  rw [z2]
  have len2 := m2.len.trans len1
  have x2 : st2_b0_law ρ2 = .nx ((ρ2.set 9 (.val (rd (ri l h c r)))).set 10 (.val (rd (fa l h c r)))) := by
    simp [-getElem?_pos, st2_b0_law, b3, lr]
  rw [nx_of x2]
  have x3 : st3_b0_law ((ρ2.set 9 (.val (rd (ri l h c r)))).set 10 (.val (rd (fa l h c r)))) = .nx (((ρ2.set 9 (.val (rd (ri l h c r)))).set 10 (.val (rd (fa l h c r)))).set 11 (.val (rd (ag l h c r)))) := by
    simp [-getElem?_pos, st3_b0_law, len2, pl]
  rw [nx_of x3]
  obtain ⟨ρ3, h3⟩ : ∃ x, ((ρ2.set 9 (.val (rd (ri l h c r)))).set 10 (.val (rd (fa l h c r)))).set 11 (.val (rd (ag l h c r))) = x := ⟨_, rfl⟩
  have m3 : Same [9, 10, 11] ρ2 ρ3 := by rw [← h3]; exact ((Same.refl.set (i := 9) rfl).set (i := 10) rfl).set (i := 11) rfl
  have c9 : ρ3[9]? = some (.val (rd (ri l h c r))) := by rw [← h3]; simp [-getElem?_pos, len2]
  have c10 : ρ3[10]? = some (.val (rd (fa l h c r))) := by rw [← h3]; simp [-getElem?_pos, len2]
  have c11 : ρ3[11]? = some (.val (rd (ag l h c r))) := by rw [← h3]; simp [-getElem?_pos, len2]
  rw [h3]
  have len3 := m3.len.trans len2
  have m03 : Same TS ρ ρ3 := (m1.trans (m2.mono (by decide))).trans (m3.mono (by decide))
  have d1 := m03.get e1
  have d2 := m03.get e2
  have d3 := m3.get b3
  have d4 := m3.get b4
  have x4 : st4_b0_law ρ3 = .nx ρ3 := by simp [-getElem?_pos, st4_b0_law, d3, c11, sa, ne0]
  rw [nx_of x4]
  have T : Tn ρ3 ds l h c r := ⟨len3, d1, d3, m3.get b5, m3.get b6, m3.get b7, m3.get b8, c9, c10, c11⟩
  have Tk : ∀ {S : List Nat} {x : Env}, Same S ρ3 x → [1, 3, 5, 6, 7, 8, 9, 10, 11].all (fun i => !S.contains i) = true → Tn x ds l h c r := fun {S x} sm hS => by
    simp only [List.all_cons, List.all_nil, Bool.and_true, Bool.and_eq_true, Bool.not_eq_true'] at hS
    obtain ⟨k1, k3, k5, k6, k7, k8, k9, k10, k11⟩ := hS
    obtain ⟨T0, T1, T3, T5, T6, T7, T8, T9, T10, T11⟩ := T
    exact ⟨sm.len.trans T0, sm.get T1 k1, sm.get T3 k3, sm.get T5 k5, sm.get T6 k6, sm.get T7 k7, sm.get T8 k8, sm.get T9 k9, sm.get T10 k10, sm.get T11 k11⟩
  -- the times
  obtain ⟨ρ4, x5, m4⟩ := for_keep (S := [12, 13, 14, 15, 16, 17, 18]) (i := 12) (b := b1_law) (ρ0 := ρ3) rfl (rangeD 0 6) ρ3 Same.refl (fun d hd x sm => by
    obtain ⟨n, hn, rfl⟩ := List.mem_map.mp hd
    have hn := List.mem_range.mp hn
    have sm' : Same [12, 13, 14, 15, 16, 17, 18] ρ3 (x.set 12 (.val (.int (0 + (n : Int))))) := sm.set rfl
    obtain ⟨ρ', e, s2⟩ := b1_ok q hw hr hl (Tk sm' rfl) ht (sm'.get d2) hn (by rw [set_get (by rw [sm.len, len3]; decide)]; simp)
    exact ⟨ρ', e, sm'.trans (s2.mono (by decide))⟩)
  have x5' : st5_b0_law ρ3 = .nx ρ4 := by simp [-getElem?_pos, st5_b0_law, x5]
  rw [nx_of x5']
  have T4 := Tk m4 rfl
  obtain ⟨v, dv, v0⟩ := dget hr 50 (by omega)
  have v1 : v < 65521 := by
    have e : (ds.map PyData.int)[50]? = some (.int ds[50]) := by simp [-getElem?_pos, show 50 < ds.length by omega]
    rw [atI_nat e] at dv
    have := (hr ds[50] (List.getElem_mem _)).2
    simp only [Option.some.injEq, PyData.int.injEq] at dv
    omega
  simp only [Int.cast_ofNat_Int] at dv
  obtain ⟨ρ5, x6, m5⟩ := for_keep (S := [19, 20]) (i := 19) (b := b2_law) (ρ0 := ρ4) rfl [.int 1, .int 2, .int 5, .int (1 + v), .int 1000000] ρ4 Same.refl (fun d hd x sm => by
    have : ∃ m : Int, d = .int m ∧ 1 ≤ m ∧ m ≤ 1000000 := by
      simp only [List.mem_cons, List.not_mem_nil, or_false] at hd
      rcases hd with rfl | rfl | rfl | rfl | rfl
      · exact ⟨_, rfl, by omega, by omega⟩
      · exact ⟨_, rfl, by omega, by omega⟩
      · exact ⟨_, rfl, by omega, by omega⟩
      · exact ⟨_, rfl, by omega, by omega⟩
      · exact ⟨_, rfl, by omega, by omega⟩
    obtain ⟨m, rfl, h1, h2⟩ := this
    have sm' : Same [19, 20] ρ4 (x.set 19 (.val (.int m))) := sm.set rfl
    obtain ⟨ρ', e, s2⟩ := b2_ok q (ds := ds) (Tk ((m4.mono (T := [12, 13, 14, 15, 16, 17, 18, 19, 20]) (by decide)).trans (sm'.mono (by decide))) rfl) h1 h2 (by rw [set_get (by rw [sm.len, m4.len, len3]; decide)])
    exact ⟨ρ', e, sm'.trans (s2.mono (by decide))⟩)
  have x6' : st6_b0_law ρ4 = .nx ρ5 := by
    have cp : CPow 10 6 := by decide
    have pw : (10 : Int) ^ (6 : Int).toNat = 1000000 := by decide
    simp [-getElem?_pos, st6_b0_law, T4.e1, dv, cp, pw, x6]
  rw [nx_of x6']
  have m35 : Same [12, 13, 14, 15, 16, 17, 18, 19, 20] ρ3 ρ5 := (m4.mono (by decide)).trans (m5.mono (by decide))
  have T5 := Tk m35 rfl
  have f4 := m35.get d4
  have x7 : st7_b0_law ρ5 = .nx (((ρ5.set 21 (.val (rd (ag l2 h2 c2 r2)))).set 22 (.val (rd (ag l h c r)))).set 23 (.val (.int 1))) := by
    simp [-getElem?_pos, st7_b0_law, f4, T5.e11, lr2, pl2, atI0, atI1]
  rw [nx_of x7]
  obtain ⟨ρ6, h6⟩ : ∃ x, ((ρ5.set 21 (.val (rd (ag l2 h2 c2 r2)))).set 22 (.val (rd (ag l h c r)))).set 23 (.val (.int 1)) = x := ⟨_, rfl⟩
  have m6 : Same [21, 22, 23] ρ5 ρ6 := by rw [← h6]; exact ((Same.refl.set (i := 21) rfl).set (i := 22) rfl).set (i := 23) rfl
  have g21 : ρ6[21]? = some (.val (rd (ag l2 h2 c2 r2))) := by rw [← h6]; simp [-getElem?_pos, T5.len]
  have g22 : ρ6[22]? = some (.val (rd (ag l h c r))) := by rw [← h6]; simp [-getElem?_pos, T5.len]
  have g23 : ρ6[23]? = some (.val (.int 1)) := by rw [← h6]; simp [-getElem?_pos, T5.len]
  rw [h6]
  have m36 : Same [12, 13, 14, 15, 16, 17, 18, 19, 20, 21, 22, 23] ρ3 ρ6 := (m35.mono (by decide)).trans (m6.mono (by decide))
  have T6 := Tk m36 rfl
  have g4 := m36.get d4
  obtain ⟨dn, hdn⟩ : ∃ dn, den ((ag l h c r).num * ((ag l2 h2 c2 r2).den : Int)) (((ag l h c r).den : Int) * (ag l2 h2 c2 r2).num) = dn := ⟨_, rfl⟩
  have dp := dn_pos (ag_pos s) (ag_pos s')
  rw [hdn] at dp
  have db : dn ≤ 100000000000 := by
    have an := (ag_num s).1
    have bn := ag_num s'
    have ad := ag_d q
    have adp := (ag l h c r).den_pos
    have bdp := (ag l2 h2 c2 r2).den_pos
    have := (num_le (p := (ag l h c r).num * ((ag l2 h2 c2 r2).den : Int)) (q := ((ag l h c r).den : Int) * (ag l2 h2 c2 r2).num) (Int.mul_pos (by omega) bn.1) (Int.mul_pos an (by omega))).2.2.2
    have m1 := Int.mul_le_mul (show ((ag l h c r).den : Int) ≤ 42 by omega) bn.2 (by omega) (by decide)
    omega
  obtain ⟨ρ7, x8, m7, g22'⟩ := both_loop q q2 (ρ0 := ρ6) T6.len T6.e11 g21 hdn (dn - 1).toNat FUEL 1 ρ6 (by omega) (by unfold FUEL; omega) (by decide) Same.refl (by rw [g22, show ((1 : Int) : Rat) = 1 from rfl, Rat.mul_one]) g23
  have x8' : st8_b0_law ρ6 = .nx ρ7 := by
    show whileLoop _ b3_law FUEL ρ6 = _
    exact x8
  rw [nx_of x8']
  have m37 : Same [12, 13, 14, 15, 16, 17, 18, 19, 20, 21, 22, 23] ρ3 ρ7 := m36.trans (m7.mono (by decide))
  have T7 := Tk m37 rfl
  have k4 := m37.get d4
  have bo := both_ok s s'
  have bo2 := both_ok s' s
  rw [both_same (ag_pos s) (ag_pos s'), hdn] at bo2
  rw [hdn] at bo
  have neb := oNe_same (sh_rd (n := 0) (ag l h c r * (dn : Rat)))
  have x9 : st9_b0_law ρ7 = .nx ρ7 := by
    have T73 := T7.e3
    generalize rd (ag l h c r * (dn : Rat)) = A at *
    simp [-getElem?_pos, st9_b0_law, T73, k4, g22', bo, bo2, neb]
  rw [nx_of x9]
  have x10 : st10_b0_law ρ7 = .nx (ρ7.set 24 (.val (.list [.none, .tuple [], .list [.int l, .int h, .int c, .int r], .tuple [.int l, .int h, .int c], .tuple [.int l, .int h, .int c, .int r, .int 0], sd h l c r, sd l l 1 2]))) := by
    simp [-getElem?_pos, st10_b0_law, T7.e3, T7.e5, T7.e6, T7.e7, T7.e8, sd_list, sd_cut, sd_more]
    rfl
  rw [nx_of x10]
  obtain ⟨ρ8, h8⟩ : ∃ x, ρ7.set 24 (.val (.list [.none, .tuple [], .list [.int l, .int h, .int c, .int r], .tuple [.int l, .int h, .int c], .tuple [.int l, .int h, .int c, .int r, .int 0], sd h l c r, sd l l 1 2])) = x := ⟨_, rfl⟩
  have m8 : Same [24] ρ7 ρ8 := by rw [← h8]; exact Same.refl.set rfl
  have i24 : ρ8[24]? = some (.val (.list [.none, .tuple [], .list [.int l, .int h, .int c, .int r], .tuple [.int l, .int h, .int c], .tuple [.int l, .int h, .int c, .int r, .int 0], sd h l c r, sd l l 1 2])) := by rw [← h8]; simp [-getElem?_pos, T7.len]
  rw [h8]
  have m38 : Same [12, 13, 14, 15, 16, 17, 18, 19, 20, 21, 22, 23, 24] ρ3 ρ8 := (m37.mono (by decide)).trans (m8.mono (by decide))
  have T8 := Tk m38 rfl
  obtain ⟨ρ9, x11, m9⟩ := for_keep (S := [25]) (i := 25) (b := b4_law) (ρ0 := ρ8) rfl [.none, .tuple [], .list [.int l, .int h, .int c, .int r], .tuple [.int l, .int h, .int c], .tuple [.int l, .int h, .int c, .int r, .int 0], sd h l c r, sd l l 1 2, sd l h r c, sd l h 0 1, sd l h 1 101, sd (-1) h 1 2, sd 0 1001 1 2, .tuple [.bool true, .int h, .int 1, .int 2]] ρ8 Same.refl (fun d hd x sm => by
    have b := bads s d hd
    have sm' : Same [25] ρ8 (x.set 25 (.val d)) := sm.set rfl
    exact ⟨x.set 25 (.val d), b4_ok s (sm'.len.trans T8.len) (sm'.get T8.e3) (set_get (by rw [sm.len, T8.len]; decide)) b, sm'⟩)
  have x11' : st11_b0_law ρ8 = .nx ρ9 := by
    simp only [sd] at x11 i24
    simp [-getElem?_pos, st11_b0_law, i24, T8.e5, T8.e6, T8.e7, T8.e8, x11]
  rw [nx_of x11']
  have m39 : Same [12, 13, 14, 15, 16, 17, 18, 19, 20, 21, 22, 23, 24, 25] ρ3 ρ9 := (m38.mono (by decide)).trans (m9.mono (by decide))
  have T9 := Tk m39 rfl
  obtain ⟨ρ10, x12, m10⟩ := for_keep (S := [25]) (i := 25) (b := b5_law) (ρ0 := ρ9) rfl [.none, .int 5, .tuple [.int (-1), .int 1], .tuple [.int 2, .int 4], .tuple [.int 1000000000001, .int 1], .tuple [.bool true, .int 1]] ρ9 Same.refl (fun d hd x sm => by
    obtain ⟨b1, b2⟩ := bad_time s d hd
    have sm' : Same [25] ρ9 (x.set 25 (.val d)) := sm.set rfl
    exact ⟨x.set 25 (.val d), b5_ok s (sm'.len.trans T9.len) (sm'.get T9.e3) (sm'.get T9.e5) (sm'.get T9.e6) (set_get (by rw [sm.len, T9.len]; decide)) b1 b2, sm'⟩)
  have x12' : st12_b0_law ρ9 = .nx ρ10 := by
    have cp : CPow 10 12 := by decide
    have pw : (10 : Int) ^ (12 : Int).toNat = 1000000000000 := by decide
    simp [-getElem?_pos, st12_b0_law, cp, pw, x12]
  rw [nx_of x12']
  have m310 : Same [12, 13, 14, 15, 16, 17, 18, 19, 20, 21, 22, 23, 24, 25] ρ3 ρ10 := m39.trans (m10.mono (by decide))
  have T10 := Tk m310 rfl
  rw [nx_of (st13_ok s T10.len T10.e3), st14_ok s T10.len T10.e5 T10.e6]
  exact ⟨ρ10, rfl, m03.trans (m310.mono (by decide))⟩
end DL.K95


namespace DL.K95
open PySem L2 DL.Q DL.Dr
def st0_c_law : Env → Out := (sAsg 1 (asVal (cCall f__law_draws (aCons (cVar 0) (aCons (cC (.int 60)) aNil)))))
def st1_c_law : Env → Out := (sFor (cIt range1D (aCons (cC (.int 5)) aNil)) (sName 2) b0_law)
def st2_c_law : Env → Out := (sTo (sTup (sCons (sName 26) (sCons (sName 13) sNil))) (cTup (aCons (cOp oAdd (cC (.int 1)) (cOp oMod (cBt bInt (aCons (cOp oIxA (cBor 1) (cC (.int 55))) aNil)) (cC (.int 9)))) (aCons (cCall f__law_low (aCons (cOp oAdd (cC (.int 1)) (cOp oMod (cBt bInt (aCons (cOp oIxA (cBor 1) (cC (.int 56))) aNil)) (cC (.int 12)))) (aCons (cOp oAdd (cC (.int 1)) (cOp oMod (cBt bInt (aCons (cOp oIxA (cBor 1) (cC (.int 57))) aNil)) (cC (.int 3)))) aNil))) aNil))))
def st3_c_law : Env → Out := (sAsg 27 (asVal (asList (cLst aNil))))
def st4_c_law : Env → Out := (sFor (cIt range2D (aCons (cC (.int 1)) (aCons (cC (.int 101)) aNil))) (sName 7) b6_law)
def st5_c_law : Env → Out := (sIf (cTest (cOp oNe (cCall f_rates_again (aCons (cC (.int 3)) (aCons (cOp oAdd (cC (.int 3)) (cBor 26)) (aCons (cVar 13) aNil)))) (cBt bTuple (aCons (cBor 27) aNil)))) (sRet (cC (.bool false))) sNx)
def st6_c_law : Env → Out := (sAsg 3 (asVal (cTup (aCons (cC (.int 2)) (aCons (cC (.int 10)) (aCons (cC (.int 2)) (aCons (cC (.int 6)) aNil)))))))
def st7_c_law : Env → Out := (sIf (cOr (cTest (cOp oNe (cCall f_siphon_again (aCons (cVar 3) aNil)) (cTup (aCons (cC (.int 6)) (aCons (cC (.int 1)) aNil))))) (cTest (cOp oNe (cCall f_siphon_level (aCons (cVar 3) (aCons (cTup (aCons (cC (.int 5)) (aCons (cC (.int 1)) aNil))) aNil))) (cTup (aCons (cC (.int 6)) (aCons (cC (.int 1)) aNil)))))) (sRet (cC (.bool false))) sNx)
def st8_c_law : Env → Out := (sRet (cAndV (cOp oEq (cCall f_siphon_runs (aCons (cVar 3) (aCons (cTup (aCons (cC (.int 5)) (aCons (cC (.int 1)) aNil))) aNil))) (cTup (aCons (cC (.int 1)) (aCons (cTup (aCons (cC (.int 6)) (aCons (cC (.int 1)) aNil))) aNil)))) (cAndV (cOp oEq (cCall f_both_run (aCons (cVar 3) (aCons (cTup (aCons (cC (.int 0)) (aCons (cC (.int 2)) (aCons (cC (.int 1)) (aCons (cC (.int 2)) aNil))))) aNil))) (cTup (aCons (cC (.int 12)) (aCons (cC (.int 1)) aNil)))) (cOp oEq (cCall f_siphon_time (aCons (cVar 3) (aCons (cOp oPow (cC (.int 10)) (cC (.int 12))) aNil))) (cTup (aCons (cOp oSub (cOp oMul1 (cC (.int 6)) (cOp oPow (cC (.int 10)) (cC (.int 12)))) (cC (.int 2))) (aCons (cC (.int 1)) aNil)))))))
theorem eq_c_law : c_law = (sSeq st0_c_law (sSeq st1_c_law (sSeq st2_c_law (sSeq st3_c_law (sSeq st4_c_law (sSeq st5_c_law (sSeq st6_c_law (sSeq st7_c_law st8_c_law)))))))) := rfl
theorem due_go {w : Int} (w0 : 1 ≤ w ∧ w ≤ 9) {t : Rat} (td : t.den ≤ 3) {ρ : Env} (len : ρ.length = 29) {c : Int} (c0 : 1 ≤ c ∧ c ≤ 100) (e7 : ρ[7]? = some (.val (.int c))) (e13 : ρ[13]? = some (.val (rd t))) (e26 : ρ[26]? = some (.val (.int w))) : ∀ os : List Int, (∀ o ∈ os, c < o ∧ o ≤ 100) →
    lcGo (sName 16) (cTest (cOp oEq (cOp oMul1 (cOp oMul1 (cBor 26) (cBor 16)) (cOp oIxA (cBor 13) (cC (.int 1)))) (cOp oMul1 (cOp oMul1 (cBor 7) (cOp oSub (cBor 16) (cBor 7))) (cOp oIxA (cBor 13) (cC (.int 0)))))) (cTup (aCons (cVar 7) (aCons (cVar 16) aNil))) (wipeR ρ [16]) (os.map .int) =
      .ok ((os.filter fun o => decide (ag 3 (3 + w) c o = t)).map (pr c))
  | [], _ => rfl
  | o :: os, ho => by
    obtain ⟨o1, o2⟩ := ho o List.mem_cons_self
    have ih := due_go w0 td len c0 e7 e13 e26 os fun x hx => ho x (.tail _ hx)
    have ai := again_iff (l := 3) (h := 3 + w) (c := c) (r := o) ⟨by decide, by omega, by omega, by omega, o1, o2⟩ t
    rw [show 3 + w - 3 = w by omega] at ai
    rw [List.map_cons, lcGo_cons]
    generalize os.map PyData.int = R0 at ih ⊢
    have m1 := Int.mul_le_mul (show w ≤ 9 by omega) o2 (by omega) (by decide)
    have m10 := Int.mul_nonneg (show 0 ≤ w by omega) (show 0 ≤ o by omega)
    have m2 := Int.mul_le_mul c0.2 (show o - c ≤ 100 by omega) (by omega) (by decide)
    have m20 := Int.mul_nonneg (show 0 ≤ c by omega) (show 0 ≤ o - c by omega)
    by_cases e : ag 3 (3 + w) c o = t
    · have e' := ai.mp e
      simp [-getElem?_pos, wipeR, len, e7, e13, e26, rd_num, rd_den, cmul_l (i := w) (j := o) (by omega), cmul_l (i := w * o) (j := (t.den : Int)) (by omega), cmul_l (i := c) (j := o - c) (by omega), cmul_l (i := c * (o - c)) (j := t.num) (by omega), e', e]
      simp [wipeR] at ih
      simp [ih, pr]
    · have e' : ¬ w * o * (t.den : Int) = c * (o - c) * t.num := fun z => e (ai.mpr z)
      simp [-getElem?_pos, wipeR, len, e7, e13, e26, rd_num, rd_den, cmul_l (i := w) (j := o) (by omega), cmul_l (i := w * o) (j := (t.den : Int)) (by omega), cmul_l (i := c) (j := o - c) (by omega), cmul_l (i := c * (o - c)) (j := t.num) (by omega), e', e]
      simp [wipeR] at ih
      simp [ih]
theorem b6_ok {w : Int} (w0 : 1 ≤ w ∧ w ≤ 9) {t : Rat} (td : t.den ≤ 3) {ρ : Env} (len : ρ.length = 29) {c : Int} (c0 : 1 ≤ c ∧ c ≤ 100) (e7 : ρ[7]? = some (.val (.int c))) (e13 : ρ[13]? = some (.val (rd t))) (e26 : ρ[26]? = some (.val (.int w))) {acc : List D} (ha : acc.length ≤ 20000) (e27 : ρ[27]? = some (.val (.list acc))) :
    b6_law ρ = .nx (ρ.set 27 (.val (.list (acc ++ prs 3 (3 + w) t c)))) := by
  have g := due_go w0 td len c0 e7 e13 e26 (outs c) (outs_ok c)
  have rg : range2D [.int (c + 1), .int 101] = some ((outs c).map .int) := by
    rw [← outs_rg]
    show (if -1000000 < c + 1 ∧ c + 1 < 1000000 ∧ -1000000 < (101 : Int) ∧ (101 : Int) < 1000000 then some (rangeD (c + 1) (101 - (c + 1)).toNat) else none) = _
    rw [if_pos (by omega), show (101 : Int) - (c + 1) = 100 - c by omega]
  have pl := prs_len 3 (3 + w) t c (by omega)
  have ol : ((outs c).map PyData.int).length ≤ 100000 := by unfold outs; simp; omega
  rw [show ((outs c).filter fun o => decide (ag 3 (3 + w) c o = t)).map (pr c) = prs 3 (3 + w) t c from rfl] at g
  generalize (outs c).map PyData.int = R0 at g rg ol
  generalize prs 3 (3 + w) t c = Z at g pl ⊢
  simp only [b6_law, ev_sAsg, ev_asVal, ev_cOp, ev_cBor, ev_asList, ev_cLc, ev_cIt, ev_aCons, ev_aNil, ev_cC, e7, e27, lkB_val, bind_okS, oAdd_ii, ofO_someS, rg, if_pos ol, g, ev_noX, oAdd_ll, if_pos (show acc.length + Z.length ≤ 100000 by omega), exB_okS]
theorem cmg_succ (n : Nat) : cmg (n + 1) = cmg n ++ [1 + (n : Int)] := by
  unfold cmg
  rw [List.range_succ, List.map_append]
  rfl
theorem all_len (w : Int) (t : Rat) : ∀ n, ((cmg n).flatMap (prs 3 (3 + w) t)).length ≤ 100 * n
  | 0 => Nat.le_refl _
  | n + 1 => by
    have := all_len w t n
    have := prs_len 3 (3 + w) t (1 + (n : Int)) (by omega)
    rw [cmg_succ, List.flatMap_append]
    simp only [List.length_append, List.flatMap_cons, List.flatMap_nil, List.append_nil]
    omega
theorem sh_prs (w : Int) (t : Rat) (n : Nat) : Sh 2 (.tuple ((cmg n).flatMap (prs 3 (3 + w) t))) := sh_tup fun d hd => by
  obtain ⟨c, -, h⟩ := List.mem_flatMap.mp hd
  obtain ⟨o, -, rfl⟩ := List.mem_map.mp h
  exact sh_tup fun x hx => by
    simp only [List.not_mem_nil, List.mem_cons, or_false] at hx
    rcases hx with rfl | rfl <;> exact sh_int
theorem last_none (w : Int) (t : Rat) : (cmg 100).flatMap (prs 3 (3 + w) t) = (cmg 99).flatMap (prs 3 (3 + w) t) := by
  rw [cmg_succ, List.flatMap_append]
  have : prs 3 (3 + w) t 100 = [] := rfl
  simp [this]
theorem law_true (ns : List Int) (h : ns.length ≤ 63) : f_law [scrD ns] = .ok (.bool true) := by
  obtain ⟨ds, e, hl, hr⟩ := draws ns h 60 (by decide)
  have e' : f__law_draws [scrD ns, .int 60] = .ok (.list (ds.map .int)) := e
  have st : f_law [scrD ns] = toR (c_law (.val (scrD ns) :: List.replicate 28 .no)) := rfl
  rw [st, eq_c_law]
  obtain ⟨ρ0, h0⟩ : ∃ x, (.val (scrD ns) :: List.replicate 28 .no : Env) = x := ⟨_, rfl⟩
  have l0 : ρ0.length = 29 := by rw [← h0]; rfl
  have a0 : ρ0[0]? = some (.val (scrD ns)) := by rw [← h0]; rfl
  rw [h0]
  have x0 : st0_c_law ρ0 = .nx (ρ0.set 1 (.val (.list (ds.map .int)))) := by simp [-getElem?_pos, st0_c_law, a0, e']
  rw [nx_of x0]
  obtain ⟨ρ1, h1⟩ : ∃ x, ρ0.set 1 (.val (.list (ds.map .int))) = x := ⟨_, rfl⟩
  have l1 : ρ1.length = 29 := by rw [← h1]; simp [l0]
  have a1 : ρ1[1]? = some (.val (.list (ds.map .int))) := by rw [← h1]; simp [l0]
  rw [h1]
  obtain ⟨ρ2, x1, m2⟩ := for_keep (S := 2 :: TS) (i := 2) (b := b0_law) (ρ0 := ρ1) rfl (rangeD 0 5) ρ1 Same.refl (fun d hd x sm => by
    obtain ⟨n, hn, rfl⟩ := List.mem_map.mp hd
    have hn := List.mem_range.mp hn
    have sm' : Same (2 :: TS) ρ1 (x.set 2 (.val (.int (0 + (n : Int))))) := sm.set rfl
    obtain ⟨ρ', e, s2⟩ := turn_ok hr hl (sm'.len.trans l1) (sm'.get a1) hn (by rw [set_get (by rw [sm.len, l1]; decide)]; simp)
    exact ⟨ρ', e, sm'.trans (s2.mono (by decide))⟩)
  have x1' : st1_c_law ρ1 = .nx ρ2 := by simp [st1_c_law, x1]
  rw [nx_of x1']
  have l2 := m2.len.trans l1
  have a2 := m2.get a1
  obtain ⟨v1, d1, v10⟩ := dget hr 55 (by omega)
  obtain ⟨v2, d2, v20⟩ := dget hr 56 (by omega)
  obtain ⟨v3, d3, v30⟩ := dget hr 57 (by omega)
  simp only [Int.cast_ofNat_Int] at d1 d2 d3
  obtain ⟨w, p1, w0, w1⟩ := pick (v := v1) 1 9 (by decide)
  obtain ⟨b, p2, b0, b1⟩ := pick (v := v2) 1 12 (by decide)
  obtain ⟨c, p3, c0, c1⟩ := pick (v := v3) 1 3 (by decide)
  have lw := llow_ok b c (by omega) (by omega)
  rw [fr_rd (by omega)] at lw
  have td : ((b : Rat) / (c : Rat)).den ≤ 3 := by
    have := den_div_le (p := b) (q := c) (by omega)
    omega
  have t0 : 0 ≤ (b : Rat) / (c : Rat) := Rat.le_of_lt (div_pos' (cast_pos (by omega)) (cast_pos (by omega)))
  have t1 : (b : Rat) / (c : Rat) ≤ 1000 := div_le' (by omega) (by omega)
  generalize (b : Rat) / (c : Rat) = t at lw td t0 t1
  have x2 : st2_c_law ρ2 = .nx ((ρ2.set 26 (.val (.int w))).set 13 (.val (rd t))) := by
    generalize rd t = T at lw ⊢
    simp [-getElem?_pos, st2_c_law, a2, d1, d2, d3, p1, p2, p3, lw]
  rw [nx_of x2]
  have x3 : st3_c_law ((ρ2.set 26 (.val (.int w))).set 13 (.val (rd t))) = .nx (((ρ2.set 26 (.val (.int w))).set 13 (.val (rd t))).set 27 (.val (.list []))) := by simp [st3_c_law]
  rw [nx_of x3]
  obtain ⟨ρ3, h3⟩ : ∃ x, ((ρ2.set 26 (.val (.int w))).set 13 (.val (rd t))).set 27 (.val (.list [])) = x := ⟨_, rfl⟩
  have l3 : ρ3.length = 29 := by rw [← h3]; simp [l2]
  have b13 : ρ3[13]? = some (.val (rd t)) := by rw [← h3]; simp [l2]
  have b26 : ρ3[26]? = some (.val (.int w)) := by rw [← h3]; simp [l2]
  have b27 : ρ3[27]? = some (.val (.list [])) := by rw [← h3]; simp [l2]
  rw [h3]
  obtain ⟨ρ4, x4, m4, i4⟩ := for_step (S := [7, 27]) (i := 7) (b := b6_law) (ρ0 := ρ3) (fun n ρ => ρ[27]? = some (.val (.list ((cmg n).flatMap (prs 3 (3 + w) t))))) (rangeD 1 100) 0 ρ3 Same.refl b27 (fun k d hk x sm hi => by
    have hk' : k < 100 ∧ d = .int (1 + (k : Int)) := by
      unfold rangeD at hk
      rw [List.getElem?_map] at hk
      by_cases hkl : k < 100
      · rw [List.getElem?_range hkl] at hk
        simp only [Option.map_some, Option.some.injEq] at hk
        exact ⟨hkl, hk.symm⟩
      · rw [List.getElem?_eq_none (by simp; omega)] at hk
        cases hk
    obtain ⟨hk1, rfl⟩ := hk'
    rw [Nat.zero_add] at hi ⊢
    have sm' : Same [7, 27] ρ3 (x.set 7 (.val (.int (1 + (k : Int))))) := sm.set rfl
    have al := all_len w t k
    have b6 := b6_ok (w := w) (t := t) ⟨w0, by omega⟩ td (sm'.len.trans l3) (c := 1 + (k : Int)) ⟨by omega, by omega⟩ (set_get (by rw [sm.len, l3]; decide)) (sm'.get b13) (sm'.get b26) (acc := (cmg k).flatMap (prs 3 (3 + w) t)) (by omega) (by rw [List.getElem?_set_ne (by decide)]; exact hi)
    refine ⟨_, .inl b6, sm'.set rfl, ?_⟩
    rw [set_get (by rw [sm'.len, l3]; decide), cmg_succ, List.flatMap_append]
    simp)
  have rg : range2D [.int 1, .int 101] = some (rangeD 1 100) := rfl
  have x4' : st4_c_law ρ3 = .nx ρ4 := by
    generalize rangeD 1 100 = R0 at rg x4
    simp [st4_c_law, rg, x4]
  rw [nx_of x4']
  have l4 := m4.len.trans l3
  have c13 := m4.get b13
  have c26 := m4.get b26
  rw [show 0 + (rangeD 1 100).length = 100 from rfl, last_none] at i4
  have ra := rates_ok (l := 3) (h := 3 + w) (t := t) (by decide) (by omega) (by omega) t0 (by grind) (by omega)
  have neP := oNe_same (sh_prs w t 99)
  have x5 : st5_c_law ρ4 = .nx ρ4 := by
    generalize (cmg 99).flatMap (prs 3 (3 + w) t) = Z at *
    generalize rd t = T at *
    simp [-getElem?_pos, st5_c_law, c13, c26, i4, ra, neP]
  rw [nx_of x5]
  have x6 : st6_c_law ρ4 = .nx (ρ4.set 3 (.val (sd 2 10 2 6))) := by simp [st6_c_law, sd]
  rw [nx_of x6]
  obtain ⟨ρ5, h5⟩ : ∃ x, ρ4.set 3 (.val (sd 2 10 2 6)) = x := ⟨_, rfl⟩
  have a5 : ρ5[3]? = some (.val (sd 2 10 2 6)) := by rw [← h5]; simp [l4]
  rw [h5]
  have s : Sp 2 10 2 6 := ⟨by decide, by decide, by decide, by decide, by decide, by decide⟩
  have s' : Sp 0 2 1 2 := ⟨by decide, by decide, by decide, by decide, by decide, by decide⟩
  have g1 := siphon_again_ok s
  rw [show ag 2 10 2 6 = ((6 : Int) : Rat) by decide +kernel, rd_int] at g1
  have f5 : Fl ((5 : Int) : Rat) (ag 2 10 2 6) 0 := ⟨by decide +kernel, by decide +kernel⟩
  have g2 := level_ok s (t := ((5 : Int) : Rat)) (by decide +kernel) (by decide +kernel) (by decide +kernel) f5
  have g3 := runs_ok s (t := ((5 : Int) : Rat)) (by decide +kernel) (by decide +kernel) (by decide +kernel) f5
  rw [show lev 2 10 2 6 (((5 : Int) : Rat) - ag 2 10 2 6 * ((0 : Int) : Rat)) = ((6 : Int) : Rat) by decide +kernel, rd_int, rd_int] at g2
  rw [show out 2 10 2 6 0 (((5 : Int) : Rat) - ag 2 10 2 6 * ((0 : Int) : Rat)) = ((6 : Int) : Rat) by decide +kernel, show begun 2 10 2 6 0 (((5 : Int) : Rat) - ag 2 10 2 6 * ((0 : Int) : Rat)) = 1 by decide +kernel, rd_int, rd_int] at g3
  have g4 := both_ok s s'
  rw [show ag 2 10 2 6 * ((den ((ag 2 10 2 6).num * ((ag 0 2 1 2).den : Int)) (((ag 2 10 2 6).den : Int) * (ag 0 2 1 2).num) : Int) : Rat) = ((12 : Int) : Rat) by decide +kernel, rd_int] at g4
  have g5 := time_ok s (m := 1000000000000) (by decide) (by decide)
  rw [show ag 2 10 2 6 * ((1000000000000 - 1 : Int) : Rat) + ri 2 10 2 6 = ((5999999999998 : Int) : Rat) by decide +kernel, rd_int] at g5
  have shp : ∀ a : Int, Sh 1 (.tuple [.int a, .int 1]) := fun a => sh_tup fun d hd => by
    simp only [List.mem_cons, List.not_mem_nil, or_false] at hd
    rcases hd with rfl | rfl <;> exact sh_int
  have shq : Sh 2 (.tuple [.int 1, .tuple [.int 6, .int 1]]) := sh_tup fun d hd => by
    simp only [List.mem_cons, List.not_mem_nil, or_false] at hd
    rcases hd with rfl | rfl
    · exact sh_int
    · exact shp 6
  have q1 := oNe_same (shp 6)
  have q2 := oEq_same shq
  have q3 := oEq_same (shp 12)
  have q4 := oEq_same (shp 5999999999998)
  have cp : CPow 10 12 := by decide
  have pw : (10 : Int) ^ (12 : Int).toNat = 1000000000000 := by decide
  have sd4 : PyData.tuple [.int 0, .int 2, .int 1, .int 2] = sd 0 2 1 2 := rfl
  have x7 : st7_c_law ρ5 = .nx ρ5 := by
    generalize sd 2 10 2 6 = S at *
    simp [-getElem?_pos, st7_c_law, a5, g1, g2, q1]
  rw [nx_of x7]
  generalize sd 2 10 2 6 = S at *
  rw [← sd4] at g4
  simp [-getElem?_pos, st8_c_law, a5, g3, g4, g5, q2, q3, q4, cp, pw, cmul_l (i := 6) (j := 1000000000000) (by decide)]
end DL.K95

/-! W_K95 -/
namespace DL.K95
open PySem L2 PySem.Spec PyProof.Rows
def topS (i : Nat) : Stmt := PySem.Challenge.pw_sandwright_k95_whole_siphons.main.body.getD i (.Pass ⟨0, 0, 0, 0⟩)
abbrev s_is_whole : Stmt := topS 6
abbrev N_is_whole : List Str := ["value", "least", "most"]
theorem sc_is_whole : FnScope N_is_whole ["value", "least", "most"] (defScope s_is_whole) := ⟨rfl, rfl, rfl, by decide +kernel, rfl, by decide +kernel, by decide +kernel⟩
abbrev s_divisor : Stmt := topS 10
abbrev N_divisor : List Str := ["one", "other"]
theorem sc_divisor : FnScope N_divisor ["one", "other"] (defScope s_divisor) := ⟨rfl, rfl, rfl, by decide +kernel, rfl, by decide +kernel, by decide +kernel⟩
abbrev s_quotient : Stmt := topS 11
abbrev N_quotient : List Str := ["up", "down", "size"]
theorem sc_quotient : FnScope N_quotient ["up", "down"] (defScope s_quotient) := ⟨rfl, rfl, rfl, by decide +kernel, rfl, by decide +kernel, by decide +kernel⟩
abbrev s_plus : Stmt := topS 12
abbrev N_plus : List Str := ["one", "other"]
theorem sc_plus : FnScope N_plus ["one", "other"] (defScope s_plus) := ⟨rfl, rfl, rfl, by decide +kernel, rfl, by decide +kernel, by decide +kernel⟩
abbrev s_times : Stmt := topS 13
abbrev N_times : List Str := ["one", "number"]
theorem sc_times : FnScope N_times ["one", "number"] (defScope s_times) := ⟨rfl, rfl, rfl, by decide +kernel, rfl, by decide +kernel, by decide +kernel⟩
abbrev s_is_less : Stmt := topS 14
abbrev N_is_less : List Str := ["one", "other"]
theorem sc_is_less : FnScope N_is_less ["one", "other"] (defScope s_is_less) := ⟨rfl, rfl, rfl, by decide +kernel, rfl, by decide +kernel, by decide +kernel⟩
abbrev s_is_integer : Stmt := topS 15
abbrev N_is_integer : List Str := ["value"]
theorem sc_is_integer : FnScope N_is_integer ["value"] (defScope s_is_integer) := ⟨rfl, rfl, rfl, by decide +kernel, rfl, by decide +kernel, by decide +kernel⟩
abbrev s_is_quotient : Stmt := topS 16
abbrev N_is_quotient : List Str := ["value"]
theorem sc_is_quotient : FnScope N_is_quotient ["value"] (defScope s_is_quotient) := ⟨rfl, rfl, rfl, by decide +kernel, rfl, by decide +kernel, by decide +kernel⟩
abbrev s_minus : Stmt := topS 17
abbrev N_minus : List Str := ["one", "other"]
theorem sc_minus : FnScope N_minus ["one", "other"] (defScope s_minus) := ⟨rfl, rfl, rfl, by decide +kernel, rfl, by decide +kernel, by decide +kernel⟩
abbrev s__check : Stmt := topS 22
abbrev N__check : List Str := ["siphon", "low", "high", "coming", "running"]
theorem sc__check : FnScope N__check ["siphon"] (defScope s__check) := ⟨rfl, rfl, rfl, by decide +kernel, rfl, by decide +kernel, by decide +kernel⟩
abbrev s__rise : Stmt := topS 23
abbrev N__rise : List Str := ["siphon"]
theorem sc__rise : FnScope N__rise ["siphon"] (defScope s__rise) := ⟨rfl, rfl, rfl, by decide +kernel, rfl, by decide +kernel, by decide +kernel⟩
abbrev s__fall : Stmt := topS 24
abbrev N__fall : List Str := ["siphon"]
theorem sc__fall : FnScope N__fall ["siphon"] (defScope s__fall) := ⟨rfl, rfl, rfl, by decide +kernel, rfl, by decide +kernel, by decide +kernel⟩
abbrev s__again : Stmt := topS 25
abbrev N__again : List Str := ["siphon"]
theorem sc__again : FnScope N__again ["siphon"] (defScope s__again) := ⟨rfl, rfl, rfl, by decide +kernel, rfl, by decide +kernel, by decide +kernel⟩
abbrev s_siphon_again : Stmt := topS 26
abbrev N_siphon_again : List Str := ["siphon"]
theorem sc_siphon_again : FnScope N_siphon_again ["siphon"] (defScope s_siphon_again) := ⟨rfl, rfl, rfl, by decide +kernel, rfl, by decide +kernel, by decide +kernel⟩
abbrev s__rounds : Stmt := topS 27
abbrev N__rounds : List Str := ["siphon", "time", "again", "many"]
theorem sc__rounds : FnScope N__rounds ["siphon", "time"] (defScope s__rounds) := ⟨rfl, rfl, rfl, by decide +kernel, rfl, by decide +kernel, by decide +kernel⟩
abbrev s__check_time : Stmt := topS 28
abbrev N__check_time : List Str := ["siphon", "time"]
theorem sc__check_time : FnScope N__check_time ["siphon", "time"] (defScope s__check_time) := ⟨rfl, rfl, rfl, by decide +kernel, rfl, by decide +kernel, by decide +kernel⟩
abbrev s_siphon_level : Stmt := topS 29
abbrev N_siphon_level : List Str := ["siphon", "time", "rest", "rise"]
theorem sc_siphon_level : FnScope N_siphon_level ["siphon", "time"] (defScope s_siphon_level) := ⟨rfl, rfl, rfl, by decide +kernel, rfl, by decide +kernel, by decide +kernel⟩
abbrev s_siphon_runs : Stmt := topS 30
abbrev N_siphon_runs : List Str := ["siphon", "time", "many", "rest", "rise", "running", "out"]
theorem sc_siphon_runs : FnScope N_siphon_runs ["siphon", "time"] (defScope s_siphon_runs) := ⟨rfl, rfl, rfl, by decide +kernel, rfl, by decide +kernel, by decide +kernel⟩
abbrev s_siphon_time : Stmt := topS 31
abbrev N_siphon_time : List Str := ["siphon", "many"]
theorem sc_siphon_time : FnScope N_siphon_time ["siphon", "many"] (defScope s_siphon_time) := ⟨rfl, rfl, rfl, by decide +kernel, rfl, by decide +kernel, by decide +kernel⟩
abbrev s_rates_again : Stmt := topS 32
abbrev N_rates_again : List Str := ["low", "high", "time", "found", "coming", "out"]
theorem sc_rates_again : FnScope N_rates_again ["low", "high", "time"] (defScope s_rates_again) := ⟨rfl, rfl, rfl, by decide +kernel, rfl, by decide +kernel, by decide +kernel⟩
abbrev s_both_run : Stmt := topS 33
abbrev N_both_run : List Str := ["siphon", "other", "one", "two", "ratio"]
theorem sc_both_run : FnScope N_both_run ["siphon", "other"] (defScope s_both_run) := ⟨rfl, rfl, rfl, by decide +kernel, rfl, by decide +kernel, by decide +kernel⟩
abbrev s__law_draws : Stmt := topS 35
abbrev N__law_draws : List Str := ["script", "many", "draws", "seed", "cell", "number", "k"]
theorem sc__law_draws : FnScope N__law_draws ["script", "many"] (defScope s__law_draws) := ⟨rfl, rfl, rfl, by decide +kernel, rfl, by decide +kernel, by decide +kernel⟩
abbrev s__law_low : Stmt := topS 36
abbrev N__law_low : List Str := ["up", "down", "one", "other"]
theorem sc__law_low : FnScope N__law_low ["up", "down"] (defScope s__law_low) := ⟨rfl, rfl, rfl, by decide +kernel, rfl, by decide +kernel, by decide +kernel⟩
abbrev s__law_plus : Stmt := topS 37
abbrev N__law_plus : List Str := ["one", "other"]
theorem sc__law_plus : FnScope N__law_plus ["one", "other"] (defScope s__law_plus) := ⟨rfl, rfl, rfl, by decide +kernel, rfl, by decide +kernel, by decide +kernel⟩
abbrev s__law_times : Stmt := topS 38
abbrev N__law_times : List Str := ["one", "number"]
theorem sc__law_times : FnScope N__law_times ["one", "number"] (defScope s__law_times) := ⟨rfl, rfl, rfl, by decide +kernel, rfl, by decide +kernel, by decide +kernel⟩
abbrev s__law_minus : Stmt := topS 39
abbrev N__law_minus : List Str := ["one", "other"]
theorem sc__law_minus : FnScope N__law_minus ["one", "other"] (defScope s__law_minus) := ⟨rfl, rfl, rfl, by decide +kernel, rfl, by decide +kernel, by decide +kernel⟩
abbrev s__law_less : Stmt := topS 40
abbrev N__law_less : List Str := ["one", "other"]
theorem sc__law_less : FnScope N__law_less ["one", "other"] (defScope s__law_less) := ⟨rfl, rfl, rfl, by decide +kernel, rfl, by decide +kernel, by decide +kernel⟩
abbrev s__law_siphon : Stmt := topS 41
abbrev N__law_siphon : List Str := ["draws", "at", "low", "coming"]
theorem sc__law_siphon : FnScope N__law_siphon ["draws", "at"] (defScope s__law_siphon) := ⟨rfl, rfl, rfl, by decide +kernel, rfl, by decide +kernel, by decide +kernel⟩
abbrev s__law_rounds : Stmt := topS 42
abbrev N__law_rounds : List Str := ["siphon", "low", "high", "coming", "running"]
theorem sc__law_rounds : FnScope N__law_rounds ["siphon"] (defScope s__law_rounds) := ⟨rfl, rfl, rfl, by decide +kernel, rfl, by decide +kernel, by decide +kernel⟩
abbrev s__law_at : Stmt := topS 43
abbrev N__law_at : List Str := ["siphon", "time", "low", "high", "coming", "running", "rise", "fall", "begun", "out", "k"]
theorem sc__law_at : FnScope N__law_at ["siphon", "time"] (defScope s__law_at) := ⟨rfl, rfl, rfl, by decide +kernel, rfl, by decide +kernel, by decide +kernel⟩
abbrev s__law_word : Stmt := topS 44
abbrev N__law_word : List Str := ["way", "one", "two", "three"]
theorem sc__law_word : FnScope N__law_word ["way", "one", "two", "three"] (defScope s__law_word) := ⟨rfl, rfl, rfl, by decide +kernel, rfl, by decide +kernel, by decide +kernel⟩
abbrev s_law : Stmt := topS 45
abbrev N_law : List Str := ["script", "draws", "turn", "siphon", "other", "low", "high", "coming", "running", "rise", "fall", "again", "n", "time", "level", "begun", "out", "rounds", "far", "many", "told", "own", "both", "steps", "wrongs", "wrong", "wide", "due", "way"]
theorem sc_law : FnScope N_law ["script"] (defScope s_law) := ⟨rfl, rfl, rfl, by decide +kernel, rfl, by decide +kernel, by decide +kernel⟩
structure Txt (K : PySem.W.Frag) (mg : Str → Option Value) (C_BadTime C_BadMany C_BadSiphon A_NOTHING : Addr) (t_MOST_HIGH t_MOST_RATE t_MOST_TIME t_MOST_MANY : Tok) : Prop where
  b_abs : mg "abs" = none
  b_bool : mg "bool" = none
  b_int : mg "int" = none
  b_isinstance : mg "isinstance" = none
  b_len : mg "len" = none
  b_list : mg "list" = none
  b_range : mg "range" = none
  b_tuple : mg "tuple" = none
  c_MOST_HIGH : mg "MOST_HIGH" = some (.int 1000 t_MOST_HIGH)
  c_MOST_RATE : mg "MOST_RATE" = some (.int 100 t_MOST_RATE)
  c_MOST_TIME : mg "MOST_TIME" = some (.int 1000000000000 t_MOST_TIME)
  c_MOST_MANY : mg "MOST_MANY" = some (.int 1000000000000 t_MOST_MANY)
  c_NOTHING : mg "NOTHING" = some (.ref A_NOTHING) ∧ gD K 1 (.ref A_NOTHING) (.tuple [.int 0, .int 1]) = true
  x_BadTime : ExcF K mg "BadTime" C_BadTime
  x_BadMany : ExcF K mg "BadMany" C_BadMany
  x_BadSiphon : ExcF K mg "BadSiphon" C_BadSiphon
  h_BadTime : HF K mg (.ref C_BadTime) errs ["BadTime"]
  h_BadMany : HF K mg (.ref C_BadMany) errs ["BadMany"]
  h_BadSiphon : HF K mg (.ref C_BadSiphon) errs ["BadSiphon"]
section
variable {P : Program} {w : World} {K : PySem.W.Frag} {mg : Str → Option Value} {base : Heap} {C_BadTime C_BadMany C_BadSiphon A_NOTHING : Addr} {t_MOST_HIGH t_MOST_RATE t_MOST_TIME t_MOST_MANY : Tok}
theorem ok_is_whole {f : Addr} {fd : FuncData} (T : Txt K mg C_BadTime C_BadMany C_BadSiphon A_NOTHING t_MOST_HIGH t_MOST_RATE t_MOST_TIME t_MOST_MANY) (Fn : Fun K "is_whole" "is_whole" s_is_whole f fd) : FnOk P w K mg base (L2.CX P w) 1 f fd ["value", "least", "most"] (spD K mg 3 f_is_whole) :=
  fn_okD (k := 0) (g := c_is_whole) rfl rfl rfl Fn sc_is_whole fun cdv A outer s H E hr tk hp =>
  (dss_one (ds_ret (de_and (de_isinst is_int (by rfl) T.b_isinstance (by rfl) T.b_int (db_var 0)) (de_and (de_not (de_isinst is_bool (by rfl) T.b_isinstance (by rfl) T.b_bool (db_var 0))) (de_one (de_chain op_le rd_le op_le rd_le (db_var 1) (db_var 0) (db_var 2)))))))
theorem ok_divisor {f : Addr} {fd : FuncData} (T : Txt K mg C_BadTime C_BadMany C_BadSiphon A_NOTHING t_MOST_HIGH t_MOST_RATE t_MOST_TIME t_MOST_MANY) (Fn : Fun K "divisor" "divisor" s_divisor f fd) : FnOk P w K mg base (L2.CX P w) 1 f fd ["one", "other"] (spD K mg 2 f_divisor) :=
  fn_okD (k := 0) (g := c_divisor) rfl rfl rfl Fn sc_divisor fun cdv A outer s H E hr tk hp =>
  (dss_cons (ds_par (i := 0) (j := 1) rfl sc_divisor.nd rfl rfl (by decide) rfl rfl (DE.x (de_callB rc_abs call_abs (by rfl) T.b_abs bt_abs (dab_cons (db_var 0) dab_nil))) (DE.x (de_callB rc_abs call_abs (by rfl) T.b_abs bt_abs (dab_cons (db_var 1) dab_nil))) rfl)
  (dss_cons (ds_while hp (dt_cmp op_gt rd_gt (db_var 1) (DE.bor de_int) (nomark _)) (dss_one (ds_par (i := 0) (j := 1) rfl sc_divisor.nd rfl rfl (by decide) rfl rfl (DE.x (de_var 1)) (DE.x (de_op op_mod rd_mod (db_var 0) (db_var 1))) rfl)))
  (dss_one (ds_ret (de_var 0)))))
theorem ok_quotient {f : Addr} {fd : FuncData} (T : Txt K mg C_BadTime C_BadMany C_BadSiphon A_NOTHING t_MOST_HIGH t_MOST_RATE t_MOST_TIME t_MOST_MANY) (Fn : Fun K "quotient" "quotient" s_quotient f fd) (k_divisor : Callee P w K mg base 1 "divisor" 2 f_divisor) : FnOk P w K mg base (L2.CX P w) 2 f fd ["up", "down"] (spD K mg 2 f_quotient) :=
  fn_okD (k := 1) (g := c_quotient) rfl rfl rfl Fn sc_quotient fun cdv A outer s H E hr tk hp =>
  (dss_cons (ds_asg (i := 2) sc_quotient.nd rfl (by first | exact Or.inl rfl | exact Or.inr rfl) (DE.x (de_call k_divisor hr (by decide) (by rfl) tk (da_cons (de_var 0) (da_cons (de_var 1) da_nil)))))
  (dss_one (ds_ret (de_tup (da_cons (de_op op_fdivW rd_div (db_var 0) (db_var 2)) (da_cons (de_op op_fdivW rd_div (db_var 1) (db_var 2)) da_nil))))))
theorem ok_plus {f : Addr} {fd : FuncData} (T : Txt K mg C_BadTime C_BadMany C_BadSiphon A_NOTHING t_MOST_HIGH t_MOST_RATE t_MOST_TIME t_MOST_MANY) (Fn : Fun K "plus" "plus" s_plus f fd) (k_quotient : Callee P w K mg base 2 "quotient" 2 f_quotient) : FnOk P w K mg base (L2.CX P w) 3 f fd ["one", "other"] (spD K mg 2 f_plus) :=
  fn_okD (k := 2) (g := c_plus) rfl rfl rfl Fn sc_plus fun cdv A outer s H E hr tk hp =>
  (dss_one (ds_ret (de_call k_quotient hr (by decide) (by rfl) tk (da_cons (de_op op_addD rd_add (DE.bor (de_op op_mulD rd_mul (DE.bor (de_ix (ixA (room1 hr)) rd_ixA (db_var 0) (DE.bor de_int))) (DE.bor (de_ix (ixA (room1 hr)) rd_ixA (db_var 1) (DE.bor de_int))))) (DE.bor (de_op op_mulD rd_mul (DE.bor (de_ix (ixA (room1 hr)) rd_ixA (db_var 1) (DE.bor de_int))) (DE.bor (de_ix (ixA (room1 hr)) rd_ixA (db_var 0) (DE.bor de_int)))))) (da_cons (de_op op_mulD rd_mul (DE.bor (de_ix (ixA (room1 hr)) rd_ixA (db_var 0) (DE.bor de_int))) (DE.bor (de_ix (ixA (room1 hr)) rd_ixA (db_var 1) (DE.bor de_int)))) da_nil)))))
theorem ok_times {f : Addr} {fd : FuncData} (T : Txt K mg C_BadTime C_BadMany C_BadSiphon A_NOTHING t_MOST_HIGH t_MOST_RATE t_MOST_TIME t_MOST_MANY) (Fn : Fun K "times" "times" s_times f fd) (k_quotient : Callee P w K mg base 2 "quotient" 2 f_quotient) : FnOk P w K mg base (L2.CX P w) 3 f fd ["one", "number"] (spD K mg 2 f_times) :=
  fn_okD (k := 2) (g := c_times) rfl rfl rfl Fn sc_times fun cdv A outer s H E hr tk hp =>
  (dss_one (ds_ret (de_call k_quotient hr (by decide) (by rfl) tk (da_cons (de_op op_mulD rd_mul (DE.bor (de_ix (ixA (room1 hr)) rd_ixA (db_var 0) (DE.bor de_int))) (db_var 1)) (da_cons (de_ix (ixA (room1 hr)) rd_ixA (db_var 0) (DE.bor de_int)) da_nil)))))
theorem ok_is_less {f : Addr} {fd : FuncData} (T : Txt K mg C_BadTime C_BadMany C_BadSiphon A_NOTHING t_MOST_HIGH t_MOST_RATE t_MOST_TIME t_MOST_MANY) (Fn : Fun K "is_less" "is_less" s_is_less f fd) : FnOk P w K mg base (L2.CX P w) 1 f fd ["one", "other"] (spD K mg 2 f_is_less) :=
  fn_okD (k := 0) (g := c_is_less) rfl rfl rfl Fn sc_is_less fun cdv A outer s H E hr tk hp =>
  (dss_one (ds_ret (de_cmp op_ltD rd_lt (DE.bor (de_op op_mulD rd_mul (DE.bor (de_ix (ixA (room1 hr)) rd_ixA (db_var 0) (DE.bor de_int))) (DE.bor (de_ix (ixA (room1 hr)) rd_ixA (db_var 1) (DE.bor de_int))))) (DE.bor (de_op op_mulD rd_mul (DE.bor (de_ix (ixA (room1 hr)) rd_ixA (db_var 1) (DE.bor de_int))) (DE.bor (de_ix (ixA (room1 hr)) rd_ixA (db_var 0) (DE.bor de_int))))) (nomark _))))
theorem ok_is_integer {f : Addr} {fd : FuncData} (T : Txt K mg C_BadTime C_BadMany C_BadSiphon A_NOTHING t_MOST_HIGH t_MOST_RATE t_MOST_TIME t_MOST_MANY) (Fn : Fun K "is_integer" "is_integer" s_is_integer f fd) : FnOk P w K mg base (L2.CX P w) 1 f fd ["value"] (spD K mg 1 f_is_integer) :=
  fn_okD (k := 0) (g := c_is_integer) rfl rfl rfl Fn sc_is_integer fun cdv A outer s H E hr tk hp =>
  (dss_one (ds_ret (de_and (de_isinst is_int (by rfl) T.b_isinstance (by rfl) T.b_int (db_var 0)) (de_one (de_not (de_isinst is_bool (by rfl) T.b_isinstance (by rfl) T.b_bool (db_var 0)))))))
theorem ok_is_quotient {f : Addr} {fd : FuncData} (T : Txt K mg C_BadTime C_BadMany C_BadSiphon A_NOTHING t_MOST_HIGH t_MOST_RATE t_MOST_TIME t_MOST_MANY) (Fn : Fun K "is_quotient" "is_quotient" s_is_quotient f fd) (k_is_integer : Callee P w K mg base 1 "is_integer" 1 f_is_integer) (k_divisor : Callee P w K mg base 1 "divisor" 2 f_divisor) : FnOk P w K mg base (L2.CX P w) 2 f fd ["value"] (spD K mg 1 f_is_quotient) :=
  fn_okD (k := 1) (g := c_is_quotient) rfl rfl rfl Fn sc_is_quotient fun cdv A outer s H E hr tk hp =>
  (dss_cons (ds_if (DW.dt (dw_or (dt_not (dt_val (de_isinst is_tuple (by rfl) T.b_isinstance (by rfl) T.b_tuple (db_var 0)))) (dw_or (dt_cmp (op_neD (room64 hr)) rd_ne (DE.bor (de_callB rc_len call_len (by rfl) T.b_len bt_len (dab_cons (db_var 0) dab_nil))) (DE.bor de_int) (nomark _)) (dw_or (dt_not (dt_val (de_call k_is_integer hr (by decide) (by rfl) tk (da_cons (de_ix (ixA (room1 hr)) rd_ixA (db_var 0) (DE.bor de_int)) da_nil)))) (dw_or1 (dt_not (dt_val (de_call k_is_integer hr (by decide) (by rfl) tk (da_cons (de_ix (ixA (room1 hr)) rd_ixA (db_var 0) (DE.bor de_int)) da_nil))))))))) (dss_one (ds_ret de_bl)) dss_nil)
  (dss_one (ds_ret (de_and (de_cmp op_ge rd_ge (DE.bor (de_ix (ixA (room1 hr)) rd_ixA (db_var 0) (DE.bor de_int))) (DE.bor de_int) (nomark _)) (de_and (de_cmp op_gt rd_gt (DE.bor (de_ix (ixA (room1 hr)) rd_ixA (db_var 0) (DE.bor de_int))) (DE.bor de_int) (nomark _)) (de_one (de_cmp (op_eqD (room64 hr)) rd_eq (DE.bor (de_call k_divisor hr (by decide) (by rfl) tk (da_cons (de_ix (ixA (room1 hr)) rd_ixA (db_var 0) (DE.bor de_int)) (da_cons (de_ix (ixA (room1 hr)) rd_ixA (db_var 0) (DE.bor de_int)) da_nil)))) (DE.bor de_int) (nomark _))))))))
theorem ok_minus {f : Addr} {fd : FuncData} (T : Txt K mg C_BadTime C_BadMany C_BadSiphon A_NOTHING t_MOST_HIGH t_MOST_RATE t_MOST_TIME t_MOST_MANY) (Fn : Fun K "minus" "minus" s_minus f fd) (k_plus : Callee P w K mg base 3 "plus" 2 f_plus) (k_times : Callee P w K mg base 3 "times" 2 f_times) : FnOk P w K mg base (L2.CX P w) 4 f fd ["one", "other"] (spD K mg 2 f_minus) :=
  fn_okD (k := 3) (g := c_minus) rfl rfl rfl Fn sc_minus fun cdv A outer s H E hr tk hp =>
  (dss_one (ds_ret (de_call k_plus hr (by decide) (by rfl) tk (da_cons (de_var 0) (da_cons (de_call k_times hr (by decide) (by rfl) tk (da_cons (de_var 1) (da_cons (de_neg de_int) da_nil))) da_nil)))))
theorem ok__check {f : Addr} {fd : FuncData} (T : Txt K mg C_BadTime C_BadMany C_BadSiphon A_NOTHING t_MOST_HIGH t_MOST_RATE t_MOST_TIME t_MOST_MANY) (Fn : Fun K "_check" "_check" s__check f fd) (k_is_whole : Callee P w K mg base 1 "is_whole" 3 f_is_whole) : FnOk P w K mg base (L2.CX P w) 2 f fd ["siphon"] (spD K mg 1 f__check) :=
  fn_okD (k := 1) (g := c__check) rfl rfl rfl Fn sc__check fun cdv A outer s H E hr tk hp =>
  (dss_cons (ds_if (DW.dt (dw_or (dt_not (dt_val (de_isinst is_tuple (by rfl) T.b_isinstance (by rfl) T.b_tuple (db_var 0)))) (dw_or1 (dt_cmp (op_neD (room64 hr)) rd_ne (DE.bor (de_callB rc_len call_len (by rfl) T.b_len bt_len (dab_cons (db_var 0) dab_nil))) (DE.bor de_int) (nomark _))))) (dss_one (ds_raise rfl T.x_BadSiphon tk (by rfl))) dss_nil)
  (dss_cons (ds_to (de_var 0) (dg_tup rfl (dgs_cons (dg_name (i := 1) sc__check.nd rfl (by first | exact Or.inl rfl | exact Or.inr rfl)) (dgs_cons (dg_name (i := 2) sc__check.nd rfl (by first | exact Or.inl rfl | exact Or.inr rfl)) (dgs_cons (dg_name (i := 3) sc__check.nd rfl (by first | exact Or.inl rfl | exact Or.inr rfl)) (dgs_cons (dg_name (i := 4) sc__check.nd rfl (by first | exact Or.inl rfl | exact Or.inr rfl)) dgs_nil)))) (sCons_len (sCons_len (sCons_len (sCons_len sNil_len))))))
  (dss_cons (ds_if (DW.dt (dw_or (dt_not (dt_val (de_call k_is_whole hr (by decide) (by rfl) tk (da_cons (de_var 1) (da_cons de_int (da_cons (de_gint (by rfl) T.c_MOST_HIGH) da_nil)))))) (dw_or (dt_not (dt_val (de_call k_is_whole hr (by decide) (by rfl) tk (da_cons (de_var 2) (da_cons de_int (da_cons (de_gint (by rfl) T.c_MOST_HIGH) da_nil)))))) (dw_or1 (dt_cmp op_ge rd_ge (db_var 1) (db_var 2) (nomark _)))))) (dss_one (ds_raise rfl T.x_BadSiphon tk (by rfl))) dss_nil)
  (dss_one (ds_if (DW.dt (dw_or (dt_not (dt_val (de_call k_is_whole hr (by decide) (by rfl) tk (da_cons (de_var 3) (da_cons de_int (da_cons (de_gint (by rfl) T.c_MOST_RATE) da_nil)))))) (dw_or (dt_not (dt_val (de_call k_is_whole hr (by decide) (by rfl) tk (da_cons (de_var 4) (da_cons de_int (da_cons (de_gint (by rfl) T.c_MOST_RATE) da_nil)))))) (dw_or1 (dt_cmp op_ge rd_ge (db_var 3) (db_var 4) (nomark _)))))) (dss_one (ds_raise rfl T.x_BadSiphon tk (by rfl))) dss_nil)))))
theorem ok__rise {f : Addr} {fd : FuncData} (T : Txt K mg C_BadTime C_BadMany C_BadSiphon A_NOTHING t_MOST_HIGH t_MOST_RATE t_MOST_TIME t_MOST_MANY) (Fn : Fun K "_rise" "_rise" s__rise f fd) (k_quotient : Callee P w K mg base 2 "quotient" 2 f_quotient) : FnOk P w K mg base (L2.CX P w) 3 f fd ["siphon"] (spD K mg 1 f__rise) :=
  fn_okD (k := 2) (g := c__rise) rfl rfl rfl Fn sc__rise fun cdv A outer s H E hr tk hp =>
  (dss_one (ds_ret (de_call k_quotient hr (by decide) (by rfl) tk (da_cons (de_op op_sub rd_sub (DE.bor (de_ix (ixA (room1 hr)) rd_ixA (db_var 0) (DE.bor de_int))) (DE.bor (de_ix (ixA (room1 hr)) rd_ixA (db_var 0) (DE.bor de_int)))) (da_cons (de_ix (ixA (room1 hr)) rd_ixA (db_var 0) (DE.bor de_int)) da_nil)))))
theorem ok__fall {f : Addr} {fd : FuncData} (T : Txt K mg C_BadTime C_BadMany C_BadSiphon A_NOTHING t_MOST_HIGH t_MOST_RATE t_MOST_TIME t_MOST_MANY) (Fn : Fun K "_fall" "_fall" s__fall f fd) (k_quotient : Callee P w K mg base 2 "quotient" 2 f_quotient) : FnOk P w K mg base (L2.CX P w) 3 f fd ["siphon"] (spD K mg 1 f__fall) :=
  fn_okD (k := 2) (g := c__fall) rfl rfl rfl Fn sc__fall fun cdv A outer s H E hr tk hp =>
  (dss_one (ds_ret (de_call k_quotient hr (by decide) (by rfl) tk (da_cons (de_op op_sub rd_sub (DE.bor (de_ix (ixA (room1 hr)) rd_ixA (db_var 0) (DE.bor de_int))) (DE.bor (de_ix (ixA (room1 hr)) rd_ixA (db_var 0) (DE.bor de_int)))) (da_cons (de_op op_sub rd_sub (DE.bor (de_ix (ixA (room1 hr)) rd_ixA (db_var 0) (DE.bor de_int))) (DE.bor (de_ix (ixA (room1 hr)) rd_ixA (db_var 0) (DE.bor de_int)))) da_nil)))))
theorem ok__again {f : Addr} {fd : FuncData} (T : Txt K mg C_BadTime C_BadMany C_BadSiphon A_NOTHING t_MOST_HIGH t_MOST_RATE t_MOST_TIME t_MOST_MANY) (Fn : Fun K "_again" "_again" s__again f fd) (k_plus : Callee P w K mg base 3 "plus" 2 f_plus) (k__rise : Callee P w K mg base 3 "_rise" 1 f__rise) (k__fall : Callee P w K mg base 3 "_fall" 1 f__fall) : FnOk P w K mg base (L2.CX P w) 4 f fd ["siphon"] (spD K mg 1 f__again) :=
  fn_okD (k := 3) (g := c__again) rfl rfl rfl Fn sc__again fun cdv A outer s H E hr tk hp =>
  (dss_one (ds_ret (de_call k_plus hr (by decide) (by rfl) tk (da_cons (de_call k__rise hr (by decide) (by rfl) tk (da_cons (de_var 0) da_nil)) (da_cons (de_call k__fall hr (by decide) (by rfl) tk (da_cons (de_var 0) da_nil)) da_nil)))))
theorem ok_siphon_again {f : Addr} {fd : FuncData} (T : Txt K mg C_BadTime C_BadMany C_BadSiphon A_NOTHING t_MOST_HIGH t_MOST_RATE t_MOST_TIME t_MOST_MANY) (Fn : Fun K "siphon_again" "siphon_again" s_siphon_again f fd) (k__check : Callee P w K mg base 2 "_check" 1 f__check) (k__again : Callee P w K mg base 4 "_again" 1 f__again) : FnOk P w K mg base (L2.CX P w) 5 f fd ["siphon"] (spD K mg 1 f_siphon_again) :=
  fn_okD (k := 4) (g := c_siphon_again) rfl rfl rfl Fn sc_siphon_again fun cdv A outer s H E hr tk hp =>
  (dss_cons (ds_drop (de_call k__check hr (by decide) (by rfl) tk (da_cons (de_var 0) da_nil)))
  (dss_one (ds_ret (de_call k__again hr (by decide) (by rfl) tk (da_cons (de_var 0) da_nil)))))
theorem ok__rounds {f : Addr} {fd : FuncData} (T : Txt K mg C_BadTime C_BadMany C_BadSiphon A_NOTHING t_MOST_HIGH t_MOST_RATE t_MOST_TIME t_MOST_MANY) (Fn : Fun K "_rounds" "_rounds" s__rounds f fd) (k__again : Callee P w K mg base 4 "_again" 1 f__again) (k_minus : Callee P w K mg base 4 "minus" 2 f_minus) (k_times : Callee P w K mg base 3 "times" 2 f_times) : FnOk P w K mg base (L2.CX P w) 5 f fd ["siphon", "time"] (spD K mg 2 f__rounds) :=
  fn_okD (k := 4) (g := c__rounds) rfl rfl rfl Fn sc__rounds fun cdv A outer s H E hr tk hp =>
  (dss_cons (ds_asg (i := 2) sc__rounds.nd rfl (by first | exact Or.inl rfl | exact Or.inr rfl) (DE.x (de_call k__again hr (by decide) (by rfl) tk (da_cons (de_var 0) da_nil))))
  (dss_cons (ds_asg (i := 3) sc__rounds.nd rfl (by first | exact Or.inl rfl | exact Or.inr rfl) (DE.x (de_op op_fdivW rd_div (DE.bor (de_op op_mulD rd_mul (DE.bor (de_ix (ixA (room1 hr)) rd_ixA (db_var 1) (DE.bor de_int))) (DE.bor (de_ix (ixA (room1 hr)) rd_ixA (db_var 2) (DE.bor de_int))))) (DE.bor (de_op op_mulD rd_mul (DE.bor (de_ix (ixA (room1 hr)) rd_ixA (db_var 1) (DE.bor de_int))) (DE.bor (de_ix (ixA (room1 hr)) rd_ixA (db_var 2) (DE.bor de_int))))))))
  (dss_one (ds_ret (de_tup (da_cons (de_var 3) (da_cons (de_call k_minus hr (by decide) (by rfl) tk (da_cons (de_var 1) (da_cons (de_call k_times hr (by decide) (by rfl) tk (da_cons (de_var 2) (da_cons (de_var 3) da_nil))) da_nil))) da_nil)))))))
theorem ok__check_time {f : Addr} {fd : FuncData} (T : Txt K mg C_BadTime C_BadMany C_BadSiphon A_NOTHING t_MOST_HIGH t_MOST_RATE t_MOST_TIME t_MOST_MANY) (Fn : Fun K "_check_time" "_check_time" s__check_time f fd) (k__check : Callee P w K mg base 2 "_check" 1 f__check) (k_is_quotient : Callee P w K mg base 2 "is_quotient" 1 f_is_quotient) (k_is_less : Callee P w K mg base 1 "is_less" 2 f_is_less) : FnOk P w K mg base (L2.CX P w) 3 f fd ["siphon", "time"] (spD K mg 2 f__check_time) :=
  fn_okD (k := 2) (g := c__check_time) rfl rfl rfl Fn sc__check_time fun cdv A outer s H E hr tk hp =>
  (dss_cons (ds_drop (de_call k__check hr (by decide) (by rfl) tk (da_cons (de_var 0) da_nil)))
  (dss_one (ds_if (DW.dt (dw_or (dt_not (dt_val (de_call k_is_quotient hr (by decide) (by rfl) tk (da_cons (de_var 1) da_nil)))) (dw_or1 (dt_val (de_call k_is_less hr (by decide) (by rfl) tk (da_cons (de_tup (da_cons (de_gint (by rfl) T.c_MOST_TIME) (da_cons de_int da_nil))) (da_cons (de_var 1) da_nil))))))) (dss_one (ds_raise rfl T.x_BadTime tk (by rfl))) dss_nil)))
theorem ok_siphon_level {f : Addr} {fd : FuncData} (T : Txt K mg C_BadTime C_BadMany C_BadSiphon A_NOTHING t_MOST_HIGH t_MOST_RATE t_MOST_TIME t_MOST_MANY) (Fn : Fun K "siphon_level" "siphon_level" s_siphon_level f fd) (k__check_time : Callee P w K mg base 3 "_check_time" 2 f__check_time) (k__rounds : Callee P w K mg base 5 "_rounds" 2 f__rounds) (k__rise : Callee P w K mg base 3 "_rise" 1 f__rise) (k_is_less : Callee P w K mg base 1 "is_less" 2 f_is_less) (k_plus : Callee P w K mg base 3 "plus" 2 f_plus) (k_times : Callee P w K mg base 3 "times" 2 f_times) (k_minus : Callee P w K mg base 4 "minus" 2 f_minus) : FnOk P w K mg base (L2.CX P w) 6 f fd ["siphon", "time"] (spD K mg 2 f_siphon_level) :=
  fn_okD (k := 5) (g := c_siphon_level) rfl rfl rfl Fn sc_siphon_level fun cdv A outer s H E hr tk hp =>
  (dss_cons (ds_drop (de_call k__check_time hr (by decide) (by rfl) tk (da_cons (de_var 0) (da_cons (de_var 1) da_nil))))
  (dss_cons (ds_asg (i := 2) sc_siphon_level.nd rfl (by first | exact Or.inl rfl | exact Or.inr rfl) (DE.x (de_ix (ixA (room1 hr)) rd_ixA (DE.bor (de_call k__rounds hr (by decide) (by rfl) tk (da_cons (de_var 0) (da_cons (de_var 1) da_nil)))) (DE.bor de_int))))
  (dss_cons (ds_asg (i := 3) sc_siphon_level.nd rfl (by first | exact Or.inl rfl | exact Or.inr rfl) (DE.x (de_call k__rise hr (by decide) (by rfl) tk (da_cons (de_var 0) da_nil))))
  (dss_cons (ds_if (dt_not (dt_val (de_call k_is_less hr (by decide) (by rfl) tk (da_cons (de_var 3) (da_cons (de_var 2) da_nil))))) (dss_one (ds_ret (de_call k_plus hr (by decide) (by rfl) tk (da_cons (de_tup (da_cons (de_ix (ixA (room1 hr)) rd_ixA (db_var 0) (DE.bor de_int)) (da_cons de_int da_nil))) (da_cons (de_call k_times hr (by decide) (by rfl) tk (da_cons (de_var 2) (da_cons (de_ix (ixA (room1 hr)) rd_ixA (db_var 0) (DE.bor de_int)) da_nil))) da_nil))))) dss_nil)
  (dss_one (ds_ret (de_call k_minus hr (by decide) (by rfl) tk (da_cons (de_tup (da_cons (de_ix (ixA (room1 hr)) rd_ixA (db_var 0) (DE.bor de_int)) (da_cons de_int da_nil))) (da_cons (de_call k_times hr (by decide) (by rfl) tk (da_cons (de_call k_minus hr (by decide) (by rfl) tk (da_cons (de_var 2) (da_cons (de_var 3) da_nil))) (da_cons (de_op op_sub rd_sub (DE.bor (de_ix (ixA (room1 hr)) rd_ixA (db_var 0) (DE.bor de_int))) (DE.bor (de_ix (ixA (room1 hr)) rd_ixA (db_var 0) (DE.bor de_int)))) da_nil))) da_nil)))))))))
theorem ok_siphon_runs {f : Addr} {fd : FuncData} (T : Txt K mg C_BadTime C_BadMany C_BadSiphon A_NOTHING t_MOST_HIGH t_MOST_RATE t_MOST_TIME t_MOST_MANY) (Fn : Fun K "siphon_runs" "siphon_runs" s_siphon_runs f fd) (k__check_time : Callee P w K mg base 3 "_check_time" 2 f__check_time) (k__rounds : Callee P w K mg base 5 "_rounds" 2 f__rounds) (k__rise : Callee P w K mg base 3 "_rise" 1 f__rise) (k_is_less : Callee P w K mg base 1 "is_less" 2 f_is_less) (k_minus : Callee P w K mg base 4 "minus" 2 f_minus) (k_times : Callee P w K mg base 3 "times" 2 f_times) (k_plus : Callee P w K mg base 3 "plus" 2 f_plus) (k__fall : Callee P w K mg base 3 "_fall" 1 f__fall) : FnOk P w K mg base (L2.CX P w) 6 f fd ["siphon", "time"] (spD K mg 2 f_siphon_runs) :=
  fn_okD (k := 5) (g := c_siphon_runs) rfl rfl rfl Fn sc_siphon_runs fun cdv A outer s H E hr tk hp =>
  (dss_cons (ds_drop (de_call k__check_time hr (by decide) (by rfl) tk (da_cons (de_var 0) (da_cons (de_var 1) da_nil))))
  (dss_cons (ds_to (de_call k__rounds hr (by decide) (by rfl) tk (da_cons (de_var 0) (da_cons (de_var 1) da_nil))) (dg_tup rfl (dgs_cons (dg_name (i := 2) sc_siphon_runs.nd rfl (by first | exact Or.inl rfl | exact Or.inr rfl)) (dgs_cons (dg_name (i := 3) sc_siphon_runs.nd rfl (by first | exact Or.inl rfl | exact Or.inr rfl)) dgs_nil)) (sCons_len (sCons_len sNil_len))))
  (dss_cons (ds_asg (i := 4) sc_siphon_runs.nd rfl (by first | exact Or.inl rfl | exact Or.inr rfl) (DE.x (de_call k__rise hr (by decide) (by rfl) tk (da_cons (de_var 0) da_nil))))
  (dss_cons (ds_asg (i := 5) sc_siphon_runs.nd rfl (by first | exact Or.inl rfl | exact Or.inr rfl) (DE.x (de_if (dt_val (de_call k_is_less hr (by decide) (by rfl) tk (da_cons (de_var 3) (da_cons (de_var 4) da_nil)))) (de_gd (by rfl) T.c_NOTHING.1 T.c_NOTHING.2) (de_call k_minus hr (by decide) (by rfl) tk (da_cons (de_var 3) (da_cons (de_var 4) da_nil))))))
  (dss_cons (ds_asg (i := 6) sc_siphon_runs.nd rfl (by first | exact Or.inl rfl | exact Or.inr rfl) (DE.x (de_call k_times hr (by decide) (by rfl) tk (da_cons (de_call k_plus hr (by decide) (by rfl) tk (da_cons (de_call k_times hr (by decide) (by rfl) tk (da_cons (de_call k__fall hr (by decide) (by rfl) tk (da_cons (de_var 0) da_nil)) (da_cons (de_var 2) da_nil))) (da_cons (de_var 5) da_nil))) (da_cons (de_ix (ixA (room1 hr)) rd_ixA (db_var 0) (DE.bor de_int)) da_nil)))))
  (dss_one (ds_ret (de_tup (da_cons (de_op op_addD rd_add (db_var 2) (DE.bor (de_if (dt_val (de_call k_is_less hr (by decide) (by rfl) tk (da_cons (de_var 3) (da_cons (de_var 4) da_nil)))) de_int de_int))) (da_cons (de_var 6) da_nil))))))))))
theorem ok_siphon_time {f : Addr} {fd : FuncData} (T : Txt K mg C_BadTime C_BadMany C_BadSiphon A_NOTHING t_MOST_HIGH t_MOST_RATE t_MOST_TIME t_MOST_MANY) (Fn : Fun K "siphon_time" "siphon_time" s_siphon_time f fd) (k__check : Callee P w K mg base 2 "_check" 1 f__check) (k_is_whole : Callee P w K mg base 1 "is_whole" 3 f_is_whole) (k_plus : Callee P w K mg base 3 "plus" 2 f_plus) (k_times : Callee P w K mg base 3 "times" 2 f_times) (k__again : Callee P w K mg base 4 "_again" 1 f__again) (k__rise : Callee P w K mg base 3 "_rise" 1 f__rise) : FnOk P w K mg base (L2.CX P w) 5 f fd ["siphon", "many"] (spD K mg 2 f_siphon_time) :=
  fn_okD (k := 4) (g := c_siphon_time) rfl rfl rfl Fn sc_siphon_time fun cdv A outer s H E hr tk hp =>
  (dss_cons (ds_drop (de_call k__check hr (by decide) (by rfl) tk (da_cons (de_var 0) da_nil)))
  (dss_cons (ds_if (dt_not (dt_val (de_call k_is_whole hr (by decide) (by rfl) tk (da_cons (de_var 1) (da_cons de_int (da_cons (de_gint (by rfl) T.c_MOST_MANY) da_nil)))))) (dss_one (ds_raise rfl T.x_BadMany tk (by rfl))) dss_nil)
  (dss_one (ds_ret (de_call k_plus hr (by decide) (by rfl) tk (da_cons (de_call k_times hr (by decide) (by rfl) tk (da_cons (de_call k__again hr (by decide) (by rfl) tk (da_cons (de_var 0) da_nil)) (da_cons (de_op op_sub rd_sub (db_var 1) (DE.bor de_int)) da_nil))) (da_cons (de_call k__rise hr (by decide) (by rfl) tk (da_cons (de_var 0) da_nil)) da_nil)))))))
theorem ok_rates_again {f : Addr} {fd : FuncData} (T : Txt K mg C_BadTime C_BadMany C_BadSiphon A_NOTHING t_MOST_HIGH t_MOST_RATE t_MOST_TIME t_MOST_MANY) (Fn : Fun K "rates_again" "rates_again" s_rates_again f fd) (k__check : Callee P w K mg base 2 "_check" 1 f__check) (k_is_quotient : Callee P w K mg base 2 "is_quotient" 1 f_is_quotient) (k_is_less : Callee P w K mg base 1 "is_less" 2 f_is_less) (k__again : Callee P w K mg base 4 "_again" 1 f__again) : FnOk P w K mg base (L2.CX P w) 5 f fd ["low", "high", "time"] (spD K mg 3 f_rates_again) :=
  fn_okD (k := 4) (g := c_rates_again) rfl rfl rfl Fn sc_rates_again fun cdv A outer s H E hr tk hp =>
  (dss_cons (ds_drop (de_call k__check hr (by decide) (by rfl) tk (da_cons (de_tup (da_cons (de_var 0) (da_cons (de_var 1) (da_cons de_int (da_cons (de_gint (by rfl) T.c_MOST_RATE) da_nil))))) da_nil)))
  (dss_cons (ds_if (DW.dt (dw_or (dt_not (dt_val (de_call k_is_quotient hr (by decide) (by rfl) tk (da_cons (de_var 2) da_nil)))) (dw_or1 (dt_val (de_call k_is_less hr (by decide) (by rfl) tk (da_cons (de_tup (da_cons (de_gint (by rfl) T.c_MOST_TIME) (da_cons de_int da_nil))) (da_cons (de_var 2) da_nil))))))) (dss_one (ds_raise rfl T.x_BadTime tk (by rfl))) dss_nil)
  (dss_cons (ds_asg (i := 3) sc_rates_again.nd rfl (by first | exact Or.inl rfl | exact Or.inr rfl) (DN.x (dn_lst da_nil)))
  (dss_cons (ds_for hp rfl (di_range2 (by rfl) T.b_range (da_cons de_int (da_cons (de_gint (by rfl) T.c_MOST_RATE) da_nil))) (dg_name (i := 4) sc_rates_again.nd rfl (by first | exact Or.inl rfl | exact Or.inr rfl)) (dss_one (ds_for hp rfl (di_range2 (by rfl) T.b_range (da_cons (de_op op_addD rd_add (db_var 4) (DE.bor de_int)) (da_cons (de_op op_addD rd_add (DE.bor (de_gint (by rfl) T.c_MOST_RATE)) (DE.bor de_int)) da_nil))) (dg_name (i := 5) sc_rates_again.nd rfl (by first | exact Or.inl rfl | exact Or.inr rfl)) (dss_one (ds_if (dt_cmp (op_eqD (room64 hr)) rd_eq (DE.bor (de_call k__again hr (by decide) (by rfl) tk (da_cons (de_tup (da_cons (de_var 0) (da_cons (de_var 1) (da_cons (de_var 4) (da_cons (de_var 5) da_nil))))) da_nil))) (db_var 2) (nomark _)) (dss_one (ds_app (i := 3) rfl (by first | exact Or.inl rfl | exact Or.inr (Or.inl rfl)) (de_tup (da_cons (de_var 4) (da_cons (de_var 5) da_nil))))) dss_nil)))))
  (dss_one (ds_ret (de_callTy rc_tuple call_tuple_of (by rfl) T.b_tuple bt_tuple (dab_cons (db_var 3) dab_nil))))))))
theorem ok_both_run {f : Addr} {fd : FuncData} (T : Txt K mg C_BadTime C_BadMany C_BadSiphon A_NOTHING t_MOST_HIGH t_MOST_RATE t_MOST_TIME t_MOST_MANY) (Fn : Fun K "both_run" "both_run" s_both_run f fd) (k__check : Callee P w K mg base 2 "_check" 1 f__check) (k__again : Callee P w K mg base 4 "_again" 1 f__again) (k_quotient : Callee P w K mg base 2 "quotient" 2 f_quotient) (k_times : Callee P w K mg base 3 "times" 2 f_times) : FnOk P w K mg base (L2.CX P w) 5 f fd ["siphon", "other"] (spD K mg 2 f_both_run) :=
  fn_okD (k := 4) (g := c_both_run) rfl rfl rfl Fn sc_both_run fun cdv A outer s H E hr tk hp =>
  (dss_cons (ds_drop (de_call k__check hr (by decide) (by rfl) tk (da_cons (de_var 0) da_nil)))
  (dss_cons (ds_drop (de_call k__check hr (by decide) (by rfl) tk (da_cons (de_var 1) da_nil)))
  (dss_cons (ds_par (i := 2) (j := 3) rfl sc_both_run.nd rfl rfl (by decide) rfl rfl (DE.x (de_call k__again hr (by decide) (by rfl) tk (da_cons (de_var 0) da_nil))) (DE.x (de_call k__again hr (by decide) (by rfl) tk (da_cons (de_var 1) da_nil))) rfl)
  (dss_cons (ds_asg (i := 4) sc_both_run.nd rfl (by first | exact Or.inl rfl | exact Or.inr rfl) (DE.x (de_call k_quotient hr (by decide) (by rfl) tk (da_cons (de_op op_mulD rd_mul (DE.bor (de_ix (ixA (room1 hr)) rd_ixA (db_var 2) (DE.bor de_int))) (DE.bor (de_ix (ixA (room1 hr)) rd_ixA (db_var 3) (DE.bor de_int)))) (da_cons (de_op op_mulD rd_mul (DE.bor (de_ix (ixA (room1 hr)) rd_ixA (db_var 2) (DE.bor de_int))) (DE.bor (de_ix (ixA (room1 hr)) rd_ixA (db_var 3) (DE.bor de_int)))) da_nil)))))
  (dss_one (ds_ret (de_call k_times hr (by decide) (by rfl) tk (da_cons (de_var 2) (da_cons (de_ix (ixA (room1 hr)) rd_ixA (db_var 4) (DE.bor de_int)) da_nil)))))))))
theorem ok__law_draws {f : Addr} {fd : FuncData} (T : Txt K mg C_BadTime C_BadMany C_BadSiphon A_NOTHING t_MOST_HIGH t_MOST_RATE t_MOST_TIME t_MOST_MANY) (Fn : Fun K "_law_draws" "_law_draws" s__law_draws f fd) : FnOk P w K mg base (L2.CX P w) 1 f fd ["script", "many"] (spD K mg 2 f__law_draws) :=
  fn_okD (k := 0) (g := c__law_draws) rfl rfl rfl Fn sc__law_draws fun cdv A outer s H E hr tk hp =>
  (dss_cons (ds_asg (i := 2) sc__law_draws.nd rfl (by first | exact Or.inl rfl | exact Or.inr rfl) (DN.x (dn_lst da_nil)))
  (dss_cons (ds_asg (i := 3) sc__law_draws.nd rfl (by first | exact Or.inl rfl | exact Or.inr rfl) (DE.x de_int))
  (dss_cons (ds_for hp rfl (di_seq (de_sl (db_var 0) do_none (do_some de_int))) (dg_name (i := 4) sc__law_draws.nd rfl (by first | exact Or.inl rfl | exact Or.inr rfl)) (dss_cons (ds_asg (i := 5) sc__law_draws.nd rfl (by first | exact Or.inl rfl | exact Or.inr rfl) (DE.x (de_callB rc_abs call_abs (by rfl) T.b_abs bt_abs (dab_cons (db_var 4) dab_nil))))
  (dss_cons (ds_asg (i := 3) sc__law_draws.nd rfl (by first | exact Or.inl rfl | exact Or.inr rfl) (DE.x (de_op op_mod rd_mod (DE.bor (de_callTy rc_int call_intD (by rfl) T.b_int bt_int (dab_cons (DE.bor (de_op op_addD rd_add (DE.bor (de_op op_addD rd_add (DE.bor (de_op op_mulD rd_mul (db_var 3) (DE.bor de_int))) (db_var 5))) (DE.bor de_int))) dab_nil))) (DE.bor de_int))))
  (dss_one (ds_if (dt_cmp op_ge rd_ge (db_var 5) (DE.bor (de_op op_pow rd_pow (DE.bor de_int) (DE.bor de_int))) (nomark _)) (dss_one (ds_for hp rfl (di_range1 (by rfl) T.b_range (da_cons de_int da_nil)) (dg_name (i := 6) sc__law_draws.nd rfl (by first | exact Or.inl rfl | exact Or.inr rfl)) (dss_one (ds_if (dt_cmp op_gt rd_gt (db_var 5) (DE.bor de_int) (nomark _)) (dss_cons (ds_app (i := 2) rfl (by first | exact Or.inl rfl | exact Or.inr (Or.inl rfl)) (de_op op_mod rd_mod (DE.bor (de_callTy rc_int call_intD (by rfl) T.b_int bt_int (dab_cons (db_var 5) dab_nil))) (DE.bor de_int)))
  (dss_one (ds_asg (i := 5) sc__law_draws.nd rfl (by first | exact Or.inl rfl | exact Or.inr rfl) (DE.x (de_op op_fdivW rd_div (db_var 5) (DE.bor de_int)))))) dss_nil)))) (dss_one (ds_app (i := 2) rfl (by first | exact Or.inl rfl | exact Or.inr (Or.inl rfl)) (de_op op_mod rd_mod (DE.bor (de_op op_fdivW rd_div (DE.bor (de_callTy rc_int call_intD (by rfl) T.b_int bt_int (dab_cons (DE.bor (de_op op_addD rd_add (DE.bor (de_op op_mulD rd_mul (db_var 3) (DE.bor de_int))) (DE.bor de_int))) dab_nil))) (DE.bor de_int))) (DE.bor de_int)))))))))
  (dss_cons (ds_for hp rfl (di_range1 (by rfl) T.b_range (da_cons (de_var 1) da_nil)) (dg_name (i := 6) sc__law_draws.nd rfl (by first | exact Or.inl rfl | exact Or.inr rfl)) (dss_one (ds_if (dt_cmp op_ltD rd_lt (DE.bor (de_callB rc_len call_len (by rfl) T.b_len bt_len (dab_cons (db_var 2) dab_nil))) (db_var 1) (nomark _)) (dss_cons (ds_asg (i := 3) sc__law_draws.nd rfl (by first | exact Or.inl rfl | exact Or.inr rfl) (DE.x (de_op op_mod rd_mod (DE.bor (de_callTy rc_int call_intD (by rfl) T.b_int bt_int (dab_cons (DE.bor (de_op op_addD rd_add (DE.bor (de_op op_addD rd_add (DE.bor (de_op op_mulD rd_mul (db_var 3) (DE.bor de_int))) (db_var 6))) (DE.bor de_int))) dab_nil))) (DE.bor de_int))))
  (dss_one (ds_app (i := 2) rfl (by first | exact Or.inl rfl | exact Or.inr (Or.inl rfl)) (de_op op_mod rd_mod (DE.bor (de_op op_fdivW rd_div (DE.bor (de_callTy rc_int call_intD (by rfl) T.b_int bt_int (dab_cons (db_var 3) dab_nil))) (DE.bor de_int))) (DE.bor de_int))))) dss_nil)))
  (dss_one (ds_ret (de_sl (db_var 2) do_none (do_some (de_var 1)))))))))
theorem ok__law_low {f : Addr} {fd : FuncData} (T : Txt K mg C_BadTime C_BadMany C_BadSiphon A_NOTHING t_MOST_HIGH t_MOST_RATE t_MOST_TIME t_MOST_MANY) (Fn : Fun K "_law_low" "_law_low" s__law_low f fd) : FnOk P w K mg base (L2.CX P w) 1 f fd ["up", "down"] (spD K mg 2 f__law_low) :=
  fn_okD (k := 0) (g := c__law_low) rfl rfl rfl Fn sc__law_low fun cdv A outer s H E hr tk hp =>
  (dss_cons (ds_par (i := 2) (j := 3) rfl sc__law_low.nd rfl rfl (by decide) rfl rfl (DE.x (de_callB rc_abs call_abs (by rfl) T.b_abs bt_abs (dab_cons (db_var 0) dab_nil))) (DE.x (de_callB rc_abs call_abs (by rfl) T.b_abs bt_abs (dab_cons (db_var 1) dab_nil))) rfl)
  (dss_cons (ds_while hp (dt_cmp op_gt rd_gt (db_var 3) (DE.bor de_int) (nomark _)) (dss_one (ds_par (i := 2) (j := 3) rfl sc__law_low.nd rfl rfl (by decide) rfl rfl (DE.x (de_var 3)) (DE.x (de_op op_mod rd_mod (db_var 2) (db_var 3))) rfl)))
  (dss_one (ds_ret (de_tup (da_cons (de_op op_fdivW rd_div (db_var 0) (db_var 2)) (da_cons (de_op op_fdivW rd_div (db_var 1) (db_var 2)) da_nil)))))))
theorem ok__law_plus {f : Addr} {fd : FuncData} (T : Txt K mg C_BadTime C_BadMany C_BadSiphon A_NOTHING t_MOST_HIGH t_MOST_RATE t_MOST_TIME t_MOST_MANY) (Fn : Fun K "_law_plus" "_law_plus" s__law_plus f fd) (k__law_low : Callee P w K mg base 1 "_law_low" 2 f__law_low) : FnOk P w K mg base (L2.CX P w) 2 f fd ["one", "other"] (spD K mg 2 f__law_plus) :=
  fn_okD (k := 1) (g := c__law_plus) rfl rfl rfl Fn sc__law_plus fun cdv A outer s H E hr tk hp =>
  (dss_one (ds_ret (de_call k__law_low hr (by decide) (by rfl) tk (da_cons (de_op op_addD rd_add (DE.bor (de_op op_mulD rd_mul (DE.bor (de_ix (ixA (room1 hr)) rd_ixA (db_var 0) (DE.bor de_int))) (DE.bor (de_ix (ixA (room1 hr)) rd_ixA (db_var 1) (DE.bor de_int))))) (DE.bor (de_op op_mulD rd_mul (DE.bor (de_ix (ixA (room1 hr)) rd_ixA (db_var 1) (DE.bor de_int))) (DE.bor (de_ix (ixA (room1 hr)) rd_ixA (db_var 0) (DE.bor de_int)))))) (da_cons (de_op op_mulD rd_mul (DE.bor (de_ix (ixA (room1 hr)) rd_ixA (db_var 0) (DE.bor de_int))) (DE.bor (de_ix (ixA (room1 hr)) rd_ixA (db_var 1) (DE.bor de_int)))) da_nil)))))
theorem ok__law_times {f : Addr} {fd : FuncData} (T : Txt K mg C_BadTime C_BadMany C_BadSiphon A_NOTHING t_MOST_HIGH t_MOST_RATE t_MOST_TIME t_MOST_MANY) (Fn : Fun K "_law_times" "_law_times" s__law_times f fd) (k__law_low : Callee P w K mg base 1 "_law_low" 2 f__law_low) : FnOk P w K mg base (L2.CX P w) 2 f fd ["one", "number"] (spD K mg 2 f__law_times) :=
  fn_okD (k := 1) (g := c__law_times) rfl rfl rfl Fn sc__law_times fun cdv A outer s H E hr tk hp =>
  (dss_one (ds_ret (de_if (dt_cmp (op_neD (room64 hr)) rd_ne (db_var 1) (DE.bor de_int) (nomark _)) (de_call k__law_low hr (by decide) (by rfl) tk (da_cons (de_op op_mulD rd_mul (DE.bor (de_ix (ixA (room1 hr)) rd_ixA (db_var 0) (DE.bor de_int))) (db_var 1)) (da_cons (de_ix (ixA (room1 hr)) rd_ixA (db_var 0) (DE.bor de_int)) da_nil))) (de_tup (da_cons de_int (da_cons de_int da_nil))))))
theorem ok__law_minus {f : Addr} {fd : FuncData} (T : Txt K mg C_BadTime C_BadMany C_BadSiphon A_NOTHING t_MOST_HIGH t_MOST_RATE t_MOST_TIME t_MOST_MANY) (Fn : Fun K "_law_minus" "_law_minus" s__law_minus f fd) (k__law_plus : Callee P w K mg base 2 "_law_plus" 2 f__law_plus) : FnOk P w K mg base (L2.CX P w) 3 f fd ["one", "other"] (spD K mg 2 f__law_minus) :=
  fn_okD (k := 2) (g := c__law_minus) rfl rfl rfl Fn sc__law_minus fun cdv A outer s H E hr tk hp =>
  (dss_one (ds_ret (de_call k__law_plus hr (by decide) (by rfl) tk (da_cons (de_var 0) (da_cons (de_tup (da_cons (de_op op_sub rd_sub (DE.bor de_int) (DE.bor (de_ix (ixA (room1 hr)) rd_ixA (db_var 1) (DE.bor de_int)))) (da_cons (de_ix (ixA (room1 hr)) rd_ixA (db_var 1) (DE.bor de_int)) da_nil))) da_nil)))))
theorem ok__law_less {f : Addr} {fd : FuncData} (T : Txt K mg C_BadTime C_BadMany C_BadSiphon A_NOTHING t_MOST_HIGH t_MOST_RATE t_MOST_TIME t_MOST_MANY) (Fn : Fun K "_law_less" "_law_less" s__law_less f fd) : FnOk P w K mg base (L2.CX P w) 1 f fd ["one", "other"] (spD K mg 2 f__law_less) :=
  fn_okD (k := 0) (g := c__law_less) rfl rfl rfl Fn sc__law_less fun cdv A outer s H E hr tk hp =>
  (dss_one (ds_ret (de_cmp op_ltD rd_lt (DE.bor (de_op op_mulD rd_mul (DE.bor (de_ix (ixA (room1 hr)) rd_ixA (db_var 0) (DE.bor de_int))) (DE.bor (de_ix (ixA (room1 hr)) rd_ixA (db_var 1) (DE.bor de_int))))) (DE.bor (de_op op_mulD rd_mul (DE.bor (de_ix (ixA (room1 hr)) rd_ixA (db_var 1) (DE.bor de_int))) (DE.bor (de_ix (ixA (room1 hr)) rd_ixA (db_var 0) (DE.bor de_int))))) (nomark _))))
theorem ok__law_siphon {f : Addr} {fd : FuncData} (T : Txt K mg C_BadTime C_BadMany C_BadSiphon A_NOTHING t_MOST_HIGH t_MOST_RATE t_MOST_TIME t_MOST_MANY) (Fn : Fun K "_law_siphon" "_law_siphon" s__law_siphon f fd) : FnOk P w K mg base (L2.CX P w) 1 f fd ["draws", "at"] (spD K mg 2 f__law_siphon) :=
  fn_okD (k := 0) (g := c__law_siphon) rfl rfl rfl Fn sc__law_siphon fun cdv A outer s H E hr tk hp =>
  (dss_cons (ds_par (i := 2) (j := 3) rfl sc__law_siphon.nd rfl rfl (by decide) rfl rfl (DE.x (de_op op_mod rd_mod (DE.bor (de_callTy rc_int call_intD (by rfl) T.b_int bt_int (dab_cons (DE.bor (de_ix (ixA (room1 hr)) rd_ixA (db_var 0) (db_var 1))) dab_nil))) (DE.bor de_int))) (DE.x (de_op op_addD rd_add (DE.bor de_int) (DE.bor (de_op op_mod rd_mod (DE.bor (de_callTy rc_int call_intD (by rfl) T.b_int bt_int (dab_cons (DE.bor (de_ix (ixA (room1 hr)) rd_ixA (db_var 0) (DE.bor (de_op op_addD rd_add (db_var 1) (DE.bor de_int))))) dab_nil))) (DE.bor de_int))))) rfl)
  (dss_one (ds_ret (de_tup (da_cons (de_var 2) (da_cons (de_op op_addD rd_add (DE.bor (de_op op_addD rd_add (db_var 2) (DE.bor de_int))) (DE.bor (de_op op_mod rd_mod (DE.bor (de_op op_fdivW rd_div (DE.bor (de_callTy rc_int call_intD (by rfl) T.b_int bt_int (dab_cons (DE.bor (de_ix (ixA (room1 hr)) rd_ixA (db_var 0) (db_var 1))) dab_nil))) (DE.bor de_int))) (DE.bor de_int)))) (da_cons (de_var 3) (da_cons (de_op op_addD rd_add (DE.bor (de_op op_addD rd_add (db_var 3) (DE.bor de_int))) (DE.bor (de_op op_mod rd_mod (DE.bor (de_op op_fdivW rd_div (DE.bor (de_callTy rc_int call_intD (by rfl) T.b_int bt_int (dab_cons (DE.bor (de_ix (ixA (room1 hr)) rd_ixA (db_var 0) (DE.bor (de_op op_addD rd_add (db_var 1) (DE.bor de_int))))) dab_nil))) (DE.bor de_int))) (DE.bor de_int)))) da_nil))))))))
theorem ok__law_rounds {f : Addr} {fd : FuncData} (T : Txt K mg C_BadTime C_BadMany C_BadSiphon A_NOTHING t_MOST_HIGH t_MOST_RATE t_MOST_TIME t_MOST_MANY) (Fn : Fun K "_law_rounds" "_law_rounds" s__law_rounds f fd) (k__law_low : Callee P w K mg base 1 "_law_low" 2 f__law_low) : FnOk P w K mg base (L2.CX P w) 2 f fd ["siphon"] (spD K mg 1 f__law_rounds) :=
  fn_okD (k := 1) (g := c__law_rounds) rfl rfl rfl Fn sc__law_rounds fun cdv A outer s H E hr tk hp =>
  (dss_cons (ds_to (de_var 0) (dg_tup rfl (dgs_cons (dg_name (i := 1) sc__law_rounds.nd rfl (by first | exact Or.inl rfl | exact Or.inr rfl)) (dgs_cons (dg_name (i := 2) sc__law_rounds.nd rfl (by first | exact Or.inl rfl | exact Or.inr rfl)) (dgs_cons (dg_name (i := 3) sc__law_rounds.nd rfl (by first | exact Or.inl rfl | exact Or.inr rfl)) (dgs_cons (dg_name (i := 4) sc__law_rounds.nd rfl (by first | exact Or.inl rfl | exact Or.inr rfl)) dgs_nil)))) (sCons_len (sCons_len (sCons_len (sCons_len sNil_len))))))
  (dss_one (ds_ret (de_tup (da_cons (de_call k__law_low hr (by decide) (by rfl) tk (da_cons (de_op op_sub rd_sub (db_var 2) (db_var 1)) (da_cons (de_var 3) da_nil))) (da_cons (de_call k__law_low hr (by decide) (by rfl) tk (da_cons (de_op op_sub rd_sub (db_var 2) (db_var 1)) (da_cons (de_op op_sub rd_sub (db_var 4) (db_var 3)) da_nil))) da_nil))))))
theorem ok__law_at {f : Addr} {fd : FuncData} (T : Txt K mg C_BadTime C_BadMany C_BadSiphon A_NOTHING t_MOST_HIGH t_MOST_RATE t_MOST_TIME t_MOST_MANY) (Fn : Fun K "_law_at" "_law_at" s__law_at f fd) (k__law_rounds : Callee P w K mg base 2 "_law_rounds" 1 f__law_rounds) (k__law_less : Callee P w K mg base 1 "_law_less" 2 f__law_less) (k__law_plus : Callee P w K mg base 2 "_law_plus" 2 f__law_plus) (k__law_times : Callee P w K mg base 2 "_law_times" 2 f__law_times) (k__law_minus : Callee P w K mg base 3 "_law_minus" 2 f__law_minus) : FnOk P w K mg base (L2.CX P w) 4 f fd ["siphon", "time"] (spD K mg 2 f__law_at) :=
  fn_okD (k := 3) (g := c__law_at) rfl rfl rfl Fn sc__law_at fun cdv A outer s H E hr tk hp =>
  (dss_cons (ds_to (de_var 0) (dg_tup rfl (dgs_cons (dg_name (i := 2) sc__law_at.nd rfl (by first | exact Or.inl rfl | exact Or.inr rfl)) (dgs_cons (dg_name (i := 3) sc__law_at.nd rfl (by first | exact Or.inl rfl | exact Or.inr rfl)) (dgs_cons (dg_name (i := 4) sc__law_at.nd rfl (by first | exact Or.inl rfl | exact Or.inr rfl)) (dgs_cons (dg_name (i := 5) sc__law_at.nd rfl (by first | exact Or.inl rfl | exact Or.inr rfl)) dgs_nil)))) (sCons_len (sCons_len (sCons_len (sCons_len sNil_len))))))
  (dss_cons (ds_to (de_call k__law_rounds hr (by decide) (by rfl) tk (da_cons (de_var 0) da_nil)) (dg_tup rfl (dgs_cons (dg_name (i := 6) sc__law_at.nd rfl (by first | exact Or.inl rfl | exact Or.inr rfl)) (dgs_cons (dg_name (i := 7) sc__law_at.nd rfl (by first | exact Or.inl rfl | exact Or.inr rfl)) dgs_nil)) (sCons_len (sCons_len sNil_len))))
  (dss_cons (ds_to (de_tup (da_cons de_int (da_cons (de_tup (da_cons de_int (da_cons de_int da_nil))) da_nil))) (dg_tup rfl (dgs_cons (dg_name (i := 8) sc__law_at.nd rfl (by first | exact Or.inl rfl | exact Or.inr rfl)) (dgs_cons (dg_name (i := 9) sc__law_at.nd rfl (by first | exact Or.inl rfl | exact Or.inr rfl)) dgs_nil)) (sCons_len (sCons_len sNil_len))))
  (dss_cons (ds_for hp rfl (di_range1 (by rfl) T.b_range (da_cons de_int da_nil)) (dg_name (i := 10) sc__law_at.nd rfl (by first | exact Or.inl rfl | exact Or.inr rfl)) (dss_cons (ds_if (dt_val (de_call k__law_less hr (by decide) (by rfl) tk (da_cons (de_var 1) (da_cons (de_var 6) da_nil)))) (dss_one (ds_ret (de_tup (da_cons (de_call k__law_plus hr (by decide) (by rfl) tk (da_cons (de_tup (da_cons (de_var 2) (da_cons de_int da_nil))) (da_cons (de_call k__law_times hr (by decide) (by rfl) tk (da_cons (de_var 1) (da_cons (de_var 4) da_nil))) da_nil))) (da_cons (de_var 8) (da_cons (de_var 9) da_nil)))))) dss_nil)
  (dss_cons (ds_par (i := 1) (j := 8) rfl sc__law_at.nd rfl rfl (by decide) rfl rfl (DE.x (de_call k__law_minus hr (by decide) (by rfl) tk (da_cons (de_var 1) (da_cons (de_var 6) da_nil)))) (DE.x (de_op op_addD rd_add (db_var 8) (DE.bor de_int))) rfl)
  (dss_cons (ds_if (dt_val (de_call k__law_less hr (by decide) (by rfl) tk (da_cons (de_var 1) (da_cons (de_var 7) da_nil)))) (dss_one (ds_ret (de_tup (da_cons (de_call k__law_minus hr (by decide) (by rfl) tk (da_cons (de_tup (da_cons (de_var 3) (da_cons de_int da_nil))) (da_cons (de_call k__law_times hr (by decide) (by rfl) tk (da_cons (de_var 1) (da_cons (de_op op_sub rd_sub (db_var 5) (db_var 4)) da_nil))) da_nil))) (da_cons (de_var 8) (da_cons (de_call k__law_plus hr (by decide) (by rfl) tk (da_cons (de_var 9) (da_cons (de_call k__law_times hr (by decide) (by rfl) tk (da_cons (de_var 1) (da_cons (de_var 5) da_nil))) da_nil))) da_nil)))))) dss_nil)
  (dss_one (ds_par (i := 1) (j := 9) rfl sc__law_at.nd rfl rfl (by decide) rfl rfl (DE.x (de_call k__law_minus hr (by decide) (by rfl) tk (da_cons (de_var 1) (da_cons (de_var 7) da_nil)))) (DE.x (de_call k__law_plus hr (by decide) (by rfl) tk (da_cons (de_var 9) (da_cons (de_call k__law_times hr (by decide) (by rfl) tk (da_cons (de_var 7) (da_cons (de_var 5) da_nil))) da_nil)))) rfl))))))
  (dss_one (ds_ret de_non))))))
theorem ok__law_word {f : Addr} {fd : FuncData} (T : Txt K mg C_BadTime C_BadMany C_BadSiphon A_NOTHING t_MOST_HIGH t_MOST_RATE t_MOST_TIME t_MOST_MANY) (Fn : Fun K "_law_word" "_law_word" s__law_word f fd) (k_siphon_again : Callee P w K mg base 5 "siphon_again" 1 f_siphon_again) (k_siphon_level : Callee P w K mg base 6 "siphon_level" 2 f_siphon_level) (k_siphon_runs : Callee P w K mg base 6 "siphon_runs" 2 f_siphon_runs) (k_siphon_time : Callee P w K mg base 5 "siphon_time" 2 f_siphon_time) (k_both_run : Callee P w K mg base 5 "both_run" 2 f_both_run) (k_rates_again : Callee P w K mg base 5 "rates_again" 3 f_rates_again) : FnOk P w K mg base (L2.CX P w) 7 f fd ["way", "one", "two", "three"] (spD K mg 4 f__law_word) :=
  fn_okD (k := 6) (g := c__law_word) rfl rfl rfl Fn sc__law_word fun cdv A outer s H E hr tk hp =>
  (dss_cons (ds_try rfl rfl sc__law_word.nd tk (fun W pn xe tk hp => (dss_one (ds_if (dt_cmp (op_eqD (room64 hr)) rd_eq (db_var 0) (DE.bor de_int) (nomark _)) (dss_one (ds_drop (de_call k_siphon_again hr (by decide) (by rfl) tk (da_cons (de_var 1) da_nil)))) (dss_one (ds_if (dt_cmp (op_eqD (room64 hr)) rd_eq (db_var 0) (DE.bor de_int) (nomark _)) (dss_one (ds_drop (de_call k_siphon_level hr (by decide) (by rfl) tk (da_cons (de_var 1) (da_cons (de_var 2) da_nil))))) (dss_one (ds_if (dt_cmp (op_eqD (room64 hr)) rd_eq (db_var 0) (DE.bor de_int) (nomark _)) (dss_one (ds_drop (de_call k_siphon_runs hr (by decide) (by rfl) tk (da_cons (de_var 1) (da_cons (de_var 2) da_nil))))) (dss_one (ds_if (dt_cmp (op_eqD (room64 hr)) rd_eq (db_var 0) (DE.bor de_int) (nomark _)) (dss_one (ds_drop (de_call k_siphon_time hr (by decide) (by rfl) tk (da_cons (de_var 1) (da_cons (de_var 2) da_nil))))) (dss_one (ds_if (dt_cmp (op_eqD (room64 hr)) rd_eq (db_var 0) (DE.bor de_int) (nomark _)) (dss_one (ds_drop (de_call k_both_run hr (by decide) (by rfl) tk (da_cons (de_var 1) (da_cons (de_var 2) da_nil))))) (dss_one (ds_drop (de_call k_rates_again hr (by decide) (by rfl) tk (da_cons (de_var 1) (da_cons (de_var 2) (da_cons (de_var 3) da_nil))))))))))))))))) (.plain ⟨by rfl, by decide, .inl T.x_BadSiphon.gC⟩ T.h_BadSiphon (fun a pn => (dss_one (ds_ret de_str))) (.plain ⟨by rfl, by decide, .inl T.x_BadTime.gC⟩ T.h_BadTime (fun a pn => (dss_one (ds_ret de_str))) (.plain ⟨by rfl, by decide, .inl T.x_BadMany.gC⟩ T.h_BadMany (fun a pn => (dss_one (ds_ret de_str))) .nil))))
  (dss_one (ds_ret de_str)))
theorem ok_law {f : Addr} {fd : FuncData} (T : Txt K mg C_BadTime C_BadMany C_BadSiphon A_NOTHING t_MOST_HIGH t_MOST_RATE t_MOST_TIME t_MOST_MANY) (Fn : Fun K "law" "law" s_law f fd) (k__law_draws : Callee P w K mg base 1 "_law_draws" 2 f__law_draws) (k__law_siphon : Callee P w K mg base 1 "_law_siphon" 2 f__law_siphon) (k__law_rounds : Callee P w K mg base 2 "_law_rounds" 1 f__law_rounds) (k__law_plus : Callee P w K mg base 2 "_law_plus" 2 f__law_plus) (k_siphon_again : Callee P w K mg base 5 "siphon_again" 1 f_siphon_again) (k__law_low : Callee P w K mg base 1 "_law_low" 2 f__law_low) (k__law_at : Callee P w K mg base 4 "_law_at" 2 f__law_at) (k_siphon_level : Callee P w K mg base 6 "siphon_level" 2 f_siphon_level) (k_siphon_runs : Callee P w K mg base 6 "siphon_runs" 2 f_siphon_runs) (k__law_minus : Callee P w K mg base 3 "_law_minus" 2 f__law_minus) (k__law_times : Callee P w K mg base 2 "_law_times" 2 f__law_times) (k_siphon_time : Callee P w K mg base 5 "siphon_time" 2 f_siphon_time) (k_both_run : Callee P w K mg base 5 "both_run" 2 f_both_run) (k__law_word : Callee P w K mg base 7 "_law_word" 4 f__law_word) (k_rates_again : Callee P w K mg base 5 "rates_again" 3 f_rates_again) : FnOk P w K mg base (L2.CX P w) 8 f fd ["script"] (spD K mg 1 f_law) :=
  fn_okD (k := 7) (g := c_law) rfl rfl rfl Fn sc_law fun cdv A outer s H E hr tk hp =>
  (dss_cons (ds_asg (i := 1) sc_law.nd rfl (by first | exact Or.inl rfl | exact Or.inr rfl) (DE.x (de_call k__law_draws hr (by decide) (by rfl) tk (da_cons (de_var 0) (da_cons de_int da_nil)))))
  (dss_cons (ds_for hp rfl (di_range1 (by rfl) T.b_range (da_cons de_int da_nil)) (dg_name (i := 2) sc_law.nd rfl (by first | exact Or.inl rfl | exact Or.inr rfl)) (dss_cons (ds_to (de_tup (da_cons (de_call k__law_siphon hr (by decide) (by rfl) tk (da_cons (de_var 1) (da_cons (de_op op_mulD rd_mul (DE.bor de_int) (db_var 2)) da_nil))) (da_cons (de_call k__law_siphon hr (by decide) (by rfl) tk (da_cons (de_var 1) (da_cons (de_op op_addD rd_add (DE.bor (de_op op_mulD rd_mul (DE.bor de_int) (db_var 2))) (DE.bor de_int)) da_nil))) da_nil))) (dg_tup rfl (dgs_cons (dg_name (i := 3) sc_law.nd rfl (by first | exact Or.inl rfl | exact Or.inr rfl)) (dgs_cons (dg_name (i := 4) sc_law.nd rfl (by first | exact Or.inl rfl | exact Or.inr rfl)) dgs_nil)) (sCons_len (sCons_len sNil_len))))
  (dss_cons (ds_to (de_var 3) (dg_tup rfl (dgs_cons (dg_name (i := 5) sc_law.nd rfl (by first | exact Or.inl rfl | exact Or.inr rfl)) (dgs_cons (dg_name (i := 6) sc_law.nd rfl (by first | exact Or.inl rfl | exact Or.inr rfl)) (dgs_cons (dg_name (i := 7) sc_law.nd rfl (by first | exact Or.inl rfl | exact Or.inr rfl)) (dgs_cons (dg_name (i := 8) sc_law.nd rfl (by first | exact Or.inl rfl | exact Or.inr rfl)) dgs_nil)))) (sCons_len (sCons_len (sCons_len (sCons_len sNil_len))))))
  (dss_cons (ds_to (de_call k__law_rounds hr (by decide) (by rfl) tk (da_cons (de_var 3) da_nil)) (dg_tup rfl (dgs_cons (dg_name (i := 9) sc_law.nd rfl (by first | exact Or.inl rfl | exact Or.inr rfl)) (dgs_cons (dg_name (i := 10) sc_law.nd rfl (by first | exact Or.inl rfl | exact Or.inr rfl)) dgs_nil)) (sCons_len (sCons_len sNil_len))))
  (dss_cons (ds_asg (i := 11) sc_law.nd rfl (by first | exact Or.inl rfl | exact Or.inr rfl) (DE.x (de_call k__law_plus hr (by decide) (by rfl) tk (da_cons (de_var 9) (da_cons (de_var 10) da_nil)))))
  (dss_cons (ds_if (dt_cmp (op_neD (room64 hr)) rd_ne (DE.bor (de_call k_siphon_again hr (by decide) (by rfl) tk (da_cons (de_var 3) da_nil))) (db_var 11) (nomark _)) (dss_one (ds_ret de_bl)) dss_nil)
  (dss_cons (ds_for hp rfl (di_range1 (by rfl) T.b_range (da_cons de_int da_nil)) (dg_name (i := 12) sc_law.nd rfl (by first | exact Or.inl rfl | exact Or.inr rfl)) (dss_cons (ds_asg (i := 13) sc_law.nd rfl (by first | exact Or.inl rfl | exact Or.inr rfl) (DE.x (de_ix (ixA (room1 hr)) rd_ixA (DE.bor (DN.val (dn_lst (da_cons (de_tup (da_cons de_int (da_cons de_int da_nil))) (da_cons (de_var 9) (da_cons (de_var 11) (da_cons (de_call k__law_low hr (by decide) (by rfl) tk (da_cons (de_op op_addD rd_add (DE.bor de_int) (DE.bor (de_op op_mod rd_mod (DE.bor (de_callTy rc_int call_intD (by rfl) T.b_int bt_int (dab_cons (DE.bor (de_ix (ixA (room1 hr)) rd_ixA (db_var 1) (DE.bor (de_op op_addD rd_add (DE.bor de_int) (db_var 2))))) dab_nil))) (DE.bor de_int)))) (da_cons (de_op op_addD rd_add (DE.bor de_int) (DE.bor (de_op op_mod rd_mod (DE.bor (de_callTy rc_int call_intD (by rfl) T.b_int bt_int (dab_cons (DE.bor (de_ix (ixA (room1 hr)) rd_ixA (db_var 1) (DE.bor (de_op op_addD rd_add (DE.bor de_int) (db_var 2))))) dab_nil))) (DE.bor de_int)))) da_nil))) (da_cons (de_call k__law_plus hr (by decide) (by rfl) tk (da_cons (de_var 11) (da_cons (de_var 9) da_nil))) (da_cons (de_call k__law_low hr (by decide) (by rfl) tk (da_cons (de_op op_addD rd_add (DE.bor de_int) (DE.bor (de_op op_mod rd_mod (DE.bor (de_callTy rc_int call_intD (by rfl) T.b_int bt_int (dab_cons (DE.bor (de_ix (ixA (room1 hr)) rd_ixA (db_var 1) (DE.bor de_int))) dab_nil))) (DE.bor de_int)))) (da_cons de_int da_nil))) da_nil))))))))) (db_var 12))))
  (dss_cons (ds_to (de_call k__law_at hr (by decide) (by rfl) tk (da_cons (de_var 3) (da_cons (de_var 13) da_nil))) (dg_tup rfl (dgs_cons (dg_name (i := 14) sc_law.nd rfl (by first | exact Or.inl rfl | exact Or.inr rfl)) (dgs_cons (dg_name (i := 15) sc_law.nd rfl (by first | exact Or.inl rfl | exact Or.inr rfl)) (dgs_cons (dg_name (i := 16) sc_law.nd rfl (by first | exact Or.inl rfl | exact Or.inr rfl)) dgs_nil))) (sCons_len (sCons_len (sCons_len sNil_len)))))
  (dss_cons (ds_if (DW.dt (dw_or (dt_cmp (op_neD (room64 hr)) rd_ne (DE.bor (de_call k_siphon_level hr (by decide) (by rfl) tk (da_cons (de_var 3) (da_cons (de_var 13) da_nil)))) (db_var 14) (nomark _)) (dw_or (dt_cmp (op_neD (room64 hr)) rd_ne (DE.bor (de_call k_siphon_runs hr (by decide) (by rfl) tk (da_cons (de_var 3) (da_cons (de_var 13) da_nil)))) (DE.bor (de_tup (da_cons (de_var 15) (da_cons (de_var 16) da_nil)))) (nomark _)) (dw_or1 (dt_val (de_isinst is_bool (by rfl) T.b_isinstance (by rfl) T.b_bool (DE.bor (de_ix (ixA (room1 hr)) rd_ixA (DE.bor (de_call k_siphon_runs hr (by decide) (by rfl) tk (da_cons (de_var 3) (da_cons (de_var 13) da_nil)))) (DE.bor de_int))))))))) (dss_one (ds_ret de_bl)) dss_nil)
  (dss_cons (ds_if (dt_cmp (op_neD (room64 hr)) rd_ne (DE.bor (de_call k__law_plus hr (by decide) (by rfl) tk (da_cons (de_call k__law_minus hr (by decide) (by rfl) tk (da_cons (de_var 14) (da_cons (de_tup (da_cons (de_var 5) (da_cons de_int da_nil))) da_nil))) (da_cons (de_var 16) da_nil)))) (DE.bor (de_call k__law_times hr (by decide) (by rfl) tk (da_cons (de_var 13) (da_cons (de_var 7) da_nil)))) (nomark _)) (dss_one (ds_ret de_bl)) dss_nil)
  (dss_cons (ds_asg (i := 17) sc_law.nd rfl (by first | exact Or.inl rfl | exact Or.inr rfl) (DE.x (de_op op_addD rd_add (DE.bor (de_op op_mulD rd_mul (DE.bor (de_callTy rc_int call_intD (by rfl) T.b_int bt_int (dab_cons (DE.bor (de_ix (ixA (room1 hr)) rd_ixA (db_var 1) (DE.bor (de_op op_addD rd_add (DE.bor de_int) (db_var 12))))) dab_nil))) (DE.bor de_int))) (DE.bor de_int))))
  (dss_cons (ds_asg (i := 18) sc_law.nd rfl (by first | exact Or.inl rfl | exact Or.inr rfl) (DE.x (de_call k__law_plus hr (by decide) (by rfl) tk (da_cons (de_var 13) (da_cons (de_call k__law_times hr (by decide) (by rfl) tk (da_cons (de_var 11) (da_cons (de_var 17) da_nil))) da_nil)))))
  (dss_one (ds_if (DW.dt (dw_or (dt_cmp (op_neD (room64 hr)) rd_ne (DE.bor (de_call k_siphon_level hr (by decide) (by rfl) tk (da_cons (de_var 3) (da_cons (de_var 18) da_nil)))) (db_var 14) (nomark _)) (dw_or1 (dt_cmp (op_neD (room64 hr)) rd_ne (DE.bor (de_call k_siphon_runs hr (by decide) (by rfl) tk (da_cons (de_var 3) (da_cons (de_var 18) da_nil)))) (DE.bor (de_tup (da_cons (de_op op_addD rd_add (db_var 15) (db_var 17)) (da_cons (de_call k__law_plus hr (by decide) (by rfl) tk (da_cons (de_var 16) (da_cons (de_call k__law_times hr (by decide) (by rfl) tk (da_cons (de_call k__law_times hr (by decide) (by rfl) tk (da_cons (de_var 10) (da_cons (de_var 8) da_nil))) (da_cons (de_var 17) da_nil))) da_nil))) da_nil)))) (nomark _))))) (dss_one (ds_ret de_bl)) dss_nil)))))))))
  (dss_cons (ds_for hp rfl (di_seq (DN.val (dn_lst (da_cons de_int (da_cons de_int (da_cons de_int (da_cons (de_op op_addD rd_add (DE.bor de_int) (DE.bor (de_callTy rc_int call_intD (by rfl) T.b_int bt_int (dab_cons (DE.bor (de_ix (ixA (room1 hr)) rd_ixA (db_var 1) (DE.bor de_int))) dab_nil)))) (da_cons (de_op op_pow rd_pow (DE.bor de_int) (DE.bor de_int)) da_nil)))))))) (dg_name (i := 19) sc_law.nd rfl (by first | exact Or.inl rfl | exact Or.inr rfl)) (dss_cons (ds_asg (i := 20) sc_law.nd rfl (by first | exact Or.inl rfl | exact Or.inr rfl) (DE.x (de_call k_siphon_time hr (by decide) (by rfl) tk (da_cons (de_var 3) (da_cons (de_var 19) da_nil)))))
  (dss_one (ds_if (DW.dt (dw_or (dt_cmp (op_neD (room64 hr)) rd_ne (db_var 20) (DE.bor (de_call k__law_plus hr (by decide) (by rfl) tk (da_cons (de_var 9) (da_cons (de_call k__law_times hr (by decide) (by rfl) tk (da_cons (de_var 11) (da_cons (de_op op_sub rd_sub (db_var 19) (DE.bor de_int)) da_nil))) da_nil)))) (nomark _)) (dw_or (dt_cmp (op_neD (room64 hr)) rd_ne (DE.bor (de_ix (ixA (room1 hr)) rd_ixA (DE.bor (de_call k_siphon_runs hr (by decide) (by rfl) tk (da_cons (de_var 3) (da_cons (de_var 20) da_nil)))) (DE.bor de_int))) (db_var 19) (nomark _)) (dw_or1 (dt_cmp (op_neD (room64 hr)) rd_ne (DE.bor (de_call k_siphon_level hr (by decide) (by rfl) tk (da_cons (de_var 3) (da_cons (de_var 20) da_nil)))) (DE.bor (de_tup (da_cons (de_var 6) (da_cons de_int da_nil)))) (nomark _)))))) (dss_one (ds_ret de_bl)) dss_nil))))
  (dss_cons (ds_par3 (i := 21) (j := 22) (l := 23) rfl sc_law.nd rfl rfl rfl (by decide) (by decide) (by decide) rfl rfl rfl (da_cons (de_call k__law_plus hr (by decide) (by rfl) tk (da_cons (de_ix (ixA (room1 hr)) rd_ixA (DE.bor (de_call k__law_rounds hr (by decide) (by rfl) tk (da_cons (de_var 4) da_nil))) (DE.bor de_int)) (da_cons (de_ix (ixA (room1 hr)) rd_ixA (DE.bor (de_call k__law_rounds hr (by decide) (by rfl) tk (da_cons (de_var 4) da_nil))) (DE.bor de_int)) da_nil))) (da_cons (de_var 11) (da_cons de_int da_nil))) rfl)
  (dss_cons (ds_while hp (dt_cmp (op_neD (room64 hr)) rd_ne (DE.bor (de_op op_mulD rd_mul (DE.bor (de_op op_mulD rd_mul (DE.bor (de_op op_fdivW rd_div (DE.bor (de_op op_mulD rd_mul (DE.bor (de_ix (ixA (room1 hr)) rd_ixA (db_var 22) (DE.bor de_int))) (DE.bor (de_ix (ixA (room1 hr)) rd_ixA (db_var 21) (DE.bor de_int))))) (DE.bor (de_op op_mulD rd_mul (DE.bor (de_ix (ixA (room1 hr)) rd_ixA (db_var 22) (DE.bor de_int))) (DE.bor (de_ix (ixA (room1 hr)) rd_ixA (db_var 21) (DE.bor de_int))))))) (DE.bor (de_ix (ixA (room1 hr)) rd_ixA (db_var 21) (DE.bor de_int))))) (DE.bor (de_ix (ixA (room1 hr)) rd_ixA (db_var 22) (DE.bor de_int))))) (DE.bor (de_op op_mulD rd_mul (DE.bor (de_ix (ixA (room1 hr)) rd_ixA (db_var 22) (DE.bor de_int))) (DE.bor (de_ix (ixA (room1 hr)) rd_ixA (db_var 21) (DE.bor de_int))))) (nomark _)) (dss_one (ds_par (i := 22) (j := 23) rfl sc_law.nd rfl rfl (by decide) rfl rfl (DE.x (de_call k__law_plus hr (by decide) (by rfl) tk (da_cons (de_var 22) (da_cons (de_var 11) da_nil)))) (DE.x (de_op op_addD rd_add (db_var 23) (DE.bor de_int))) rfl)))
  (dss_cons (ds_if (DW.dt (dw_or (dt_cmp (op_neD (room64 hr)) rd_ne (DE.bor (de_call k_both_run hr (by decide) (by rfl) tk (da_cons (de_var 3) (da_cons (de_var 4) da_nil)))) (db_var 22) (nomark _)) (dw_or1 (dt_cmp (op_neD (room64 hr)) rd_ne (DE.bor (de_call k_both_run hr (by decide) (by rfl) tk (da_cons (de_var 4) (da_cons (de_var 3) da_nil)))) (db_var 22) (nomark _))))) (dss_one (ds_ret de_bl)) dss_nil)
  (dss_cons (ds_asg (i := 24) sc_law.nd rfl (by first | exact Or.inl rfl | exact Or.inr rfl) (DE.x (DN.val (dn_lst (da_cons de_non (da_cons (de_tup da_nil) (da_cons (de_callTy rc_list call_list_of (by rfl) T.b_list bt_list (dab_cons (db_var 3) dab_nil)) (da_cons (de_sl (db_var 3) do_none (do_some de_int)) (da_cons (de_op op_addD rd_add (db_var 3) (DE.bor (de_tup (da_cons de_int da_nil)))) (da_cons (de_tup (da_cons (de_var 6) (da_cons (de_var 5) (da_cons (de_var 7) (da_cons (de_var 8) da_nil))))) (da_cons (de_tup (da_cons (de_var 5) (da_cons (de_var 5) (da_cons de_int (da_cons de_int da_nil))))) da_nil)))))))))))
  (dss_cons (ds_for hp rfl (di_seq (de_op op_addD rd_add (db_var 24) (DE.bor (DN.val (dn_lst (da_cons (de_tup (da_cons (de_var 5) (da_cons (de_var 6) (da_cons (de_var 8) (da_cons (de_var 7) da_nil))))) (da_cons (de_tup (da_cons (de_var 5) (da_cons (de_var 6) (da_cons de_int (da_cons de_int da_nil))))) (da_cons (de_tup (da_cons (de_var 5) (da_cons (de_var 6) (da_cons de_int (da_cons de_int da_nil))))) (da_cons (de_tup (da_cons (de_neg de_int) (da_cons (de_var 6) (da_cons de_int (da_cons de_int da_nil))))) (da_cons (de_tup (da_cons de_int (da_cons de_int (da_cons de_int (da_cons de_int da_nil))))) (da_cons (de_tup (da_cons de_bl (da_cons (de_var 6) (da_cons de_int (da_cons de_int da_nil))))) da_nil))))))))))) (dg_name (i := 25) sc_law.nd rfl (by first | exact Or.inl rfl | exact Or.inr rfl)) (dss_one (ds_if (dt_cmp (op_neD (room64 hr)) rd_ne (DE.bor (de_op op_addD rd_add (DE.bor (DN.val (dn_lc rfl sc_law.nd (DI.b (di_range1 (by rfl) T.b_range (da_cons de_int da_nil))) (blkOk_by (N := N_law) (sc := defScope s_law) (own := [("way", 28)]) (by decide +kernel)) (fun _ _ _ _ _ => (dg_name (i := 28) sc_law.nd rfl (by first | exact Or.inl rfl | exact Or.inr rfl))) (fun _ _ _ _ _ => dts_nil) (fun _ _ _ _ _ => (de_call k__law_word hr (by decide) (by rfl) takes0 (da_cons (de_var 28) (da_cons (de_var 25) (da_cons de_non (da_cons de_non da_nil)))))) rfl (by decide)))) (DE.bor (DN.val (dn_lst (da_cons (de_call k__law_word hr (by decide) (by rfl) tk (da_cons de_int (da_cons (de_var 3) (da_cons (de_var 25) (da_cons de_non da_nil))))) da_nil)))))) (DE.bor (de_op op_mulD rd_mul (DE.bor (DN.val (dn_lst (da_cons de_str da_nil)))) (DE.bor de_int))) (nomark _)) (dss_one (ds_ret de_bl)) dss_nil)))
  (dss_cons (ds_for hp rfl (di_seq (DN.val (dn_lst (da_cons de_non (da_cons de_int (da_cons (de_tup (da_cons (de_neg de_int) (da_cons de_int da_nil))) (da_cons (de_tup (da_cons de_int (da_cons de_int da_nil))) (da_cons (de_tup (da_cons (de_op op_addD rd_add (DE.bor (de_op op_pow rd_pow (DE.bor de_int) (DE.bor de_int))) (DE.bor de_int)) (da_cons de_int da_nil))) (da_cons (de_tup (da_cons de_bl (da_cons de_int da_nil))) da_nil))))))))) (dg_name (i := 25) sc_law.nd rfl (by first | exact Or.inl rfl | exact Or.inr rfl)) (dss_one (ds_if (dt_cmp (op_neD (room64 hr)) rd_ne (DE.bor (de_op op_addD rd_add (DE.bor (DN.val (dn_lc rfl sc_law.nd (dib_seq (DE.bor (de_tup (da_cons de_int (da_cons de_int da_nil))))) (blkOk_by (N := N_law) (sc := defScope s_law) (own := [("way", 28)]) (by decide +kernel)) (fun _ _ _ _ _ => (dg_name (i := 28) sc_law.nd rfl (by first | exact Or.inl rfl | exact Or.inr rfl))) (fun _ _ _ _ _ => dts_nil) (fun _ _ _ _ _ => (de_call k__law_word hr (by decide) (by rfl) takes0 (da_cons (de_var 28) (da_cons (de_var 3) (da_cons (de_var 25) (da_cons de_non da_nil)))))) rfl (by decide)))) (DE.bor (DN.val (dn_lst (da_cons (de_call k__law_word hr (by decide) (by rfl) tk (da_cons de_int (da_cons (de_var 5) (da_cons (de_var 6) (da_cons (de_var 25) da_nil))))) da_nil)))))) (DE.bor (de_op op_mulD rd_mul (DE.bor (DN.val (dn_lst (da_cons de_str da_nil)))) (DE.bor de_int))) (nomark _)) (dss_one (ds_ret de_bl)) dss_nil)))
  (dss_cons (ds_if (dt_cmp (op_neD (room64 hr)) rd_ne (DE.bor (DN.val (dn_lc rfl sc_law.nd (dib_seq (DE.bor (DN.val (dn_lst (da_cons de_non (da_cons de_int (da_cons (de_op op_addD rd_add (DE.bor (de_op op_pow rd_pow (DE.bor de_int) (DE.bor de_int))) (DE.bor de_int)) (da_cons de_bl da_nil)))))))) (blkOk_by (N := N_law) (sc := defScope s_law) (own := [("wrong", 25)]) (by decide +kernel)) (fun _ _ _ _ _ => (dg_name (i := 25) sc_law.nd rfl (by first | exact Or.inl rfl | exact Or.inr rfl))) (fun _ _ _ _ _ => dts_nil) (fun _ _ _ _ _ => (de_call k__law_word hr (by decide) (by rfl) takes0 (da_cons de_int (da_cons (de_var 3) (da_cons (de_var 25) (da_cons de_non da_nil)))))) rfl (by decide)))) (DE.bor (de_op op_mulD rd_mul (DE.bor (DN.val (dn_lst (da_cons de_str da_nil)))) (DE.bor de_int))) (nomark _)) (dss_one (ds_ret de_bl)) dss_nil)
  (dss_one (ds_if (dt_cmp (op_neD (room64 hr)) rd_ne (DE.bor (DN.val (dn_lst (da_cons (de_call k__law_word hr (by decide) (by rfl) tk (da_cons de_int (da_cons (de_var 6) (da_cons (de_var 5) (da_cons de_non da_nil))))) (da_cons (de_call k__law_word hr (by decide) (by rfl) tk (da_cons de_int (da_cons de_non (da_cons (de_var 6) (da_cons de_non da_nil))))) (da_cons (de_call k__law_word hr (by decide) (by rfl) tk (da_cons de_int (da_cons (de_var 5) (da_cons de_int (da_cons de_non da_nil))))) da_nil)))))) (DE.bor (de_op op_mulD rd_mul (DE.bor (DN.val (dn_lst (da_cons de_str da_nil)))) (DE.bor de_int))) (nomark _)) (dss_one (ds_ret de_bl)) dss_nil)))))))))))))))))
  (dss_cons (ds_to (de_tup (da_cons (de_op op_addD rd_add (DE.bor de_int) (DE.bor (de_op op_mod rd_mod (DE.bor (de_callTy rc_int call_intD (by rfl) T.b_int bt_int (dab_cons (DE.bor (de_ix (ixA (room1 hr)) rd_ixA (db_var 1) (DE.bor de_int))) dab_nil))) (DE.bor de_int)))) (da_cons (de_call k__law_low hr (by decide) (by rfl) tk (da_cons (de_op op_addD rd_add (DE.bor de_int) (DE.bor (de_op op_mod rd_mod (DE.bor (de_callTy rc_int call_intD (by rfl) T.b_int bt_int (dab_cons (DE.bor (de_ix (ixA (room1 hr)) rd_ixA (db_var 1) (DE.bor de_int))) dab_nil))) (DE.bor de_int)))) (da_cons (de_op op_addD rd_add (DE.bor de_int) (DE.bor (de_op op_mod rd_mod (DE.bor (de_callTy rc_int call_intD (by rfl) T.b_int bt_int (dab_cons (DE.bor (de_ix (ixA (room1 hr)) rd_ixA (db_var 1) (DE.bor de_int))) dab_nil))) (DE.bor de_int)))) da_nil))) da_nil))) (dg_tup rfl (dgs_cons (dg_name (i := 26) sc_law.nd rfl (by first | exact Or.inl rfl | exact Or.inr rfl)) (dgs_cons (dg_name (i := 13) sc_law.nd rfl (by first | exact Or.inl rfl | exact Or.inr rfl)) dgs_nil)) (sCons_len (sCons_len sNil_len))))
  (dss_cons (ds_asg (i := 27) sc_law.nd rfl (by first | exact Or.inl rfl | exact Or.inr rfl) (DE.x (DN.val (dn_lst da_nil))))
  (dss_cons (ds_for hp rfl (di_range2 (by rfl) T.b_range (da_cons de_int (da_cons de_int da_nil))) (dg_name (i := 7) sc_law.nd rfl (by first | exact Or.inl rfl | exact Or.inr rfl)) (dss_one (ds_asg (i := 27) sc_law.nd rfl (by first | exact Or.inl rfl | exact Or.inr rfl) (DE.x (de_op op_addD rd_add (db_var 27) (DE.bor (DN.val (dn_lc rfl sc_law.nd (DI.b (di_range2 (by rfl) T.b_range (da_cons (de_op op_addD rd_add (db_var 7) (DE.bor de_int)) (da_cons de_int da_nil)))) (blkOk_by (N := N_law) (sc := defScope s_law) (own := [("out", 16)]) (by decide +kernel)) (fun _ _ _ _ _ => (dg_name (i := 16) sc_law.nd rfl (by first | exact Or.inl rfl | exact Or.inr rfl))) (fun _ _ _ _ _ => (dts_one (dt_cmp (op_eqD (room64 hr)) rd_eq (DE.bor (de_op op_mulD rd_mul (DE.bor (de_op op_mulD rd_mul (db_var 26) (db_var 16))) (DE.bor (de_ix (ixA (room1 hr)) rd_ixA (db_var 13) (DE.bor de_int))))) (DE.bor (de_op op_mulD rd_mul (DE.bor (de_op op_mulD rd_mul (db_var 7) (DE.bor (de_op op_sub rd_sub (db_var 16) (db_var 7))))) (DE.bor (de_ix (ixA (room1 hr)) rd_ixA (db_var 13) (DE.bor de_int))))) (nomark _)))) (fun _ _ _ _ _ => (de_tup (da_cons (de_var 7) (da_cons (de_var 16) da_nil)))) rfl (by decide)))))))))
  (dss_cons (ds_if (dt_cmp (op_neD (room64 hr)) rd_ne (DE.bor (de_call k_rates_again hr (by decide) (by rfl) tk (da_cons de_int (da_cons (de_op op_addD rd_add (DE.bor de_int) (db_var 26)) (da_cons (de_var 13) da_nil))))) (DE.bor (de_callTy rc_tuple call_tuple_of (by rfl) T.b_tuple bt_tuple (dab_cons (db_var 27) dab_nil))) (nomark _)) (dss_one (ds_ret de_bl)) dss_nil)
  (dss_cons (ds_asg (i := 3) sc_law.nd rfl (by first | exact Or.inl rfl | exact Or.inr rfl) (DE.x (de_tup (da_cons de_int (da_cons de_int (da_cons de_int (da_cons de_int da_nil)))))))
  (dss_cons (ds_if (DW.dt (dw_or (dt_cmp (op_neD (room64 hr)) rd_ne (DE.bor (de_call k_siphon_again hr (by decide) (by rfl) tk (da_cons (de_var 3) da_nil))) (DE.bor (de_tup (da_cons de_int (da_cons de_int da_nil)))) (nomark _)) (dw_or1 (dt_cmp (op_neD (room64 hr)) rd_ne (DE.bor (de_call k_siphon_level hr (by decide) (by rfl) tk (da_cons (de_var 3) (da_cons (de_tup (da_cons de_int (da_cons de_int da_nil))) da_nil)))) (DE.bor (de_tup (da_cons de_int (da_cons de_int da_nil)))) (nomark _))))) (dss_one (ds_ret de_bl)) dss_nil)
  (dss_one (ds_ret (de_and (de_cmp (op_eqD (room64 hr)) rd_eq (DE.bor (de_call k_siphon_runs hr (by decide) (by rfl) tk (da_cons (de_var 3) (da_cons (de_tup (da_cons de_int (da_cons de_int da_nil))) da_nil)))) (DE.bor (de_tup (da_cons de_int (da_cons (de_tup (da_cons de_int (da_cons de_int da_nil))) da_nil)))) (nomark _)) (de_and (de_cmp (op_eqD (room64 hr)) rd_eq (DE.bor (de_call k_both_run hr (by decide) (by rfl) tk (da_cons (de_var 3) (da_cons (de_tup (da_cons de_int (da_cons de_int (da_cons de_int (da_cons de_int da_nil))))) da_nil)))) (DE.bor (de_tup (da_cons de_int (da_cons de_int da_nil)))) (nomark _)) (de_one (de_cmp (op_eqD (room64 hr)) rd_eq (DE.bor (de_call k_siphon_time hr (by decide) (by rfl) tk (da_cons (de_var 3) (da_cons (de_op op_pow rd_pow (DE.bor de_int) (DE.bor de_int)) da_nil)))) (DE.bor (de_tup (da_cons (de_op op_sub rd_sub (DE.bor (de_op op_mulD rd_mul (DE.bor de_int) (DE.bor (de_op op_pow rd_pow (DE.bor de_int) (DE.bor de_int))))) (DE.bor de_int)) (da_cons de_int da_nil)))) (nomark _)))))))))))))))
end
theorem all_mk {l : PySem.W.OpenLaw} {w : World} {K : PySem.W.Frag} {h : Heap} {mg : Str → Option Value} {fa : Addr} (X : K.In h) (G : h.Ns mainGlobals mg) (hfa : mg "law" = some (.ref fa))
    {p_is_whole : Addr} {od_is_whole an_is_whole : Option Addr} {sl_is_whole : Array (Option Value)} {oc_is_whole kV_is_whole dc_is_whole pm_is_whole cd_is_whole ct_is_whole : Value}
    {p_divisor : Addr} {od_divisor an_divisor : Option Addr} {sl_divisor : Array (Option Value)} {oc_divisor kV_divisor dc_divisor pm_divisor cd_divisor ct_divisor : Value}
    {p_quotient : Addr} {od_quotient an_quotient : Option Addr} {sl_quotient : Array (Option Value)} {oc_quotient kV_quotient dc_quotient pm_quotient cd_quotient ct_quotient : Value}
    {p_plus : Addr} {od_plus an_plus : Option Addr} {sl_plus : Array (Option Value)} {oc_plus kV_plus dc_plus pm_plus cd_plus ct_plus : Value}
    {p_times : Addr} {od_times an_times : Option Addr} {sl_times : Array (Option Value)} {oc_times kV_times dc_times pm_times cd_times ct_times : Value}
    {p_is_less : Addr} {od_is_less an_is_less : Option Addr} {sl_is_less : Array (Option Value)} {oc_is_less kV_is_less dc_is_less pm_is_less cd_is_less ct_is_less : Value}
    {p_is_integer : Addr} {od_is_integer an_is_integer : Option Addr} {sl_is_integer : Array (Option Value)} {oc_is_integer kV_is_integer dc_is_integer pm_is_integer cd_is_integer ct_is_integer : Value}
    {p_is_quotient : Addr} {od_is_quotient an_is_quotient : Option Addr} {sl_is_quotient : Array (Option Value)} {oc_is_quotient kV_is_quotient dc_is_quotient pm_is_quotient cd_is_quotient ct_is_quotient : Value}
    {p_minus : Addr} {od_minus an_minus : Option Addr} {sl_minus : Array (Option Value)} {oc_minus kV_minus dc_minus pm_minus cd_minus ct_minus : Value}
    {p__check : Addr} {od__check an__check : Option Addr} {sl__check : Array (Option Value)} {oc__check kV__check dc__check pm__check cd__check ct__check : Value}
    {p__rise : Addr} {od__rise an__rise : Option Addr} {sl__rise : Array (Option Value)} {oc__rise kV__rise dc__rise pm__rise cd__rise ct__rise : Value}
    {p__fall : Addr} {od__fall an__fall : Option Addr} {sl__fall : Array (Option Value)} {oc__fall kV__fall dc__fall pm__fall cd__fall ct__fall : Value}
    {p__again : Addr} {od__again an__again : Option Addr} {sl__again : Array (Option Value)} {oc__again kV__again dc__again pm__again cd__again ct__again : Value}
    {p_siphon_again : Addr} {od_siphon_again an_siphon_again : Option Addr} {sl_siphon_again : Array (Option Value)} {oc_siphon_again kV_siphon_again dc_siphon_again pm_siphon_again cd_siphon_again ct_siphon_again : Value}
    {p__rounds : Addr} {od__rounds an__rounds : Option Addr} {sl__rounds : Array (Option Value)} {oc__rounds kV__rounds dc__rounds pm__rounds cd__rounds ct__rounds : Value}
    {p__check_time : Addr} {od__check_time an__check_time : Option Addr} {sl__check_time : Array (Option Value)} {oc__check_time kV__check_time dc__check_time pm__check_time cd__check_time ct__check_time : Value}
    {p_siphon_level : Addr} {od_siphon_level an_siphon_level : Option Addr} {sl_siphon_level : Array (Option Value)} {oc_siphon_level kV_siphon_level dc_siphon_level pm_siphon_level cd_siphon_level ct_siphon_level : Value}
    {p_siphon_runs : Addr} {od_siphon_runs an_siphon_runs : Option Addr} {sl_siphon_runs : Array (Option Value)} {oc_siphon_runs kV_siphon_runs dc_siphon_runs pm_siphon_runs cd_siphon_runs ct_siphon_runs : Value}
    {p_siphon_time : Addr} {od_siphon_time an_siphon_time : Option Addr} {sl_siphon_time : Array (Option Value)} {oc_siphon_time kV_siphon_time dc_siphon_time pm_siphon_time cd_siphon_time ct_siphon_time : Value}
    {p_rates_again : Addr} {od_rates_again an_rates_again : Option Addr} {sl_rates_again : Array (Option Value)} {oc_rates_again kV_rates_again dc_rates_again pm_rates_again cd_rates_again ct_rates_again : Value}
    {p_both_run : Addr} {od_both_run an_both_run : Option Addr} {sl_both_run : Array (Option Value)} {oc_both_run kV_both_run dc_both_run pm_both_run cd_both_run ct_both_run : Value}
    {p__law_draws : Addr} {od__law_draws an__law_draws : Option Addr} {sl__law_draws : Array (Option Value)} {oc__law_draws kV__law_draws dc__law_draws pm__law_draws cd__law_draws ct__law_draws : Value}
    {p__law_low : Addr} {od__law_low an__law_low : Option Addr} {sl__law_low : Array (Option Value)} {oc__law_low kV__law_low dc__law_low pm__law_low cd__law_low ct__law_low : Value}
    {p__law_plus : Addr} {od__law_plus an__law_plus : Option Addr} {sl__law_plus : Array (Option Value)} {oc__law_plus kV__law_plus dc__law_plus pm__law_plus cd__law_plus ct__law_plus : Value}
    {p__law_times : Addr} {od__law_times an__law_times : Option Addr} {sl__law_times : Array (Option Value)} {oc__law_times kV__law_times dc__law_times pm__law_times cd__law_times ct__law_times : Value}
    {p__law_minus : Addr} {od__law_minus an__law_minus : Option Addr} {sl__law_minus : Array (Option Value)} {oc__law_minus kV__law_minus dc__law_minus pm__law_minus cd__law_minus ct__law_minus : Value}
    {p__law_less : Addr} {od__law_less an__law_less : Option Addr} {sl__law_less : Array (Option Value)} {oc__law_less kV__law_less dc__law_less pm__law_less cd__law_less ct__law_less : Value}
    {p__law_siphon : Addr} {od__law_siphon an__law_siphon : Option Addr} {sl__law_siphon : Array (Option Value)} {oc__law_siphon kV__law_siphon dc__law_siphon pm__law_siphon cd__law_siphon ct__law_siphon : Value}
    {p__law_rounds : Addr} {od__law_rounds an__law_rounds : Option Addr} {sl__law_rounds : Array (Option Value)} {oc__law_rounds kV__law_rounds dc__law_rounds pm__law_rounds cd__law_rounds ct__law_rounds : Value}
    {p__law_at : Addr} {od__law_at an__law_at : Option Addr} {sl__law_at : Array (Option Value)} {oc__law_at kV__law_at dc__law_at pm__law_at cd__law_at ct__law_at : Value}
    {p__law_word : Addr} {od__law_word an__law_word : Option Addr} {sl__law_word : Array (Option Value)} {oc__law_word kV__law_word dc__law_word pm__law_word cd__law_word ct__law_word : Value}
    {p_law : Addr} {od_law an_law : Option Addr} {sl_law : Array (Option Value)} {oc_law kV_law dc_law pm_law cd_law ct_law : Value}
    {C_BadTime C_BadMany C_BadSiphon A_NOTHING : Addr}
    {t_MOST_HIGH t_MOST_RATE t_MOST_TIME t_MOST_MANY : Tok}
    (a_is_whole : PySem.W.nsIn K mainGlobals "is_whole" = some (some (.ref p_is_whole))) (l_is_whole : K.lookup p_is_whole = some ⟨oc_is_whole, od_is_whole, .func (PySem.W.fnOf "is_whole" "is_whole" (defArgs s_is_whole) (defBody s_is_whole) (defScope s_is_whole) .none kV_is_whole dc_is_whole pm_is_whole an_is_whole cd_is_whole ct_is_whole), sl_is_whole⟩) (d_is_whole : PySem.W.codeIn K cd_is_whole "is_whole" = true) (e_is_whole : PySem.W.keepIn K (.ref p_is_whole) = true)
    (a_divisor : PySem.W.nsIn K mainGlobals "divisor" = some (some (.ref p_divisor))) (l_divisor : K.lookup p_divisor = some ⟨oc_divisor, od_divisor, .func (PySem.W.fnOf "divisor" "divisor" (defArgs s_divisor) (defBody s_divisor) (defScope s_divisor) .none kV_divisor dc_divisor pm_divisor an_divisor cd_divisor ct_divisor), sl_divisor⟩) (d_divisor : PySem.W.codeIn K cd_divisor "divisor" = true) (e_divisor : PySem.W.keepIn K (.ref p_divisor) = true)
    (a_quotient : PySem.W.nsIn K mainGlobals "quotient" = some (some (.ref p_quotient))) (l_quotient : K.lookup p_quotient = some ⟨oc_quotient, od_quotient, .func (PySem.W.fnOf "quotient" "quotient" (defArgs s_quotient) (defBody s_quotient) (defScope s_quotient) .none kV_quotient dc_quotient pm_quotient an_quotient cd_quotient ct_quotient), sl_quotient⟩) (d_quotient : PySem.W.codeIn K cd_quotient "quotient" = true) (e_quotient : PySem.W.keepIn K (.ref p_quotient) = true)
    (a_plus : PySem.W.nsIn K mainGlobals "plus" = some (some (.ref p_plus))) (l_plus : K.lookup p_plus = some ⟨oc_plus, od_plus, .func (PySem.W.fnOf "plus" "plus" (defArgs s_plus) (defBody s_plus) (defScope s_plus) .none kV_plus dc_plus pm_plus an_plus cd_plus ct_plus), sl_plus⟩) (d_plus : PySem.W.codeIn K cd_plus "plus" = true) (e_plus : PySem.W.keepIn K (.ref p_plus) = true)
    (a_times : PySem.W.nsIn K mainGlobals "times" = some (some (.ref p_times))) (l_times : K.lookup p_times = some ⟨oc_times, od_times, .func (PySem.W.fnOf "times" "times" (defArgs s_times) (defBody s_times) (defScope s_times) .none kV_times dc_times pm_times an_times cd_times ct_times), sl_times⟩) (d_times : PySem.W.codeIn K cd_times "times" = true) (e_times : PySem.W.keepIn K (.ref p_times) = true)
    (a_is_less : PySem.W.nsIn K mainGlobals "is_less" = some (some (.ref p_is_less))) (l_is_less : K.lookup p_is_less = some ⟨oc_is_less, od_is_less, .func (PySem.W.fnOf "is_less" "is_less" (defArgs s_is_less) (defBody s_is_less) (defScope s_is_less) .none kV_is_less dc_is_less pm_is_less an_is_less cd_is_less ct_is_less), sl_is_less⟩) (d_is_less : PySem.W.codeIn K cd_is_less "is_less" = true) (e_is_less : PySem.W.keepIn K (.ref p_is_less) = true)
    (a_is_integer : PySem.W.nsIn K mainGlobals "is_integer" = some (some (.ref p_is_integer))) (l_is_integer : K.lookup p_is_integer = some ⟨oc_is_integer, od_is_integer, .func (PySem.W.fnOf "is_integer" "is_integer" (defArgs s_is_integer) (defBody s_is_integer) (defScope s_is_integer) .none kV_is_integer dc_is_integer pm_is_integer an_is_integer cd_is_integer ct_is_integer), sl_is_integer⟩) (d_is_integer : PySem.W.codeIn K cd_is_integer "is_integer" = true) (e_is_integer : PySem.W.keepIn K (.ref p_is_integer) = true)
    (a_is_quotient : PySem.W.nsIn K mainGlobals "is_quotient" = some (some (.ref p_is_quotient))) (l_is_quotient : K.lookup p_is_quotient = some ⟨oc_is_quotient, od_is_quotient, .func (PySem.W.fnOf "is_quotient" "is_quotient" (defArgs s_is_quotient) (defBody s_is_quotient) (defScope s_is_quotient) .none kV_is_quotient dc_is_quotient pm_is_quotient an_is_quotient cd_is_quotient ct_is_quotient), sl_is_quotient⟩) (d_is_quotient : PySem.W.codeIn K cd_is_quotient "is_quotient" = true) (e_is_quotient : PySem.W.keepIn K (.ref p_is_quotient) = true)
    (a_minus : PySem.W.nsIn K mainGlobals "minus" = some (some (.ref p_minus))) (l_minus : K.lookup p_minus = some ⟨oc_minus, od_minus, .func (PySem.W.fnOf "minus" "minus" (defArgs s_minus) (defBody s_minus) (defScope s_minus) .none kV_minus dc_minus pm_minus an_minus cd_minus ct_minus), sl_minus⟩) (d_minus : PySem.W.codeIn K cd_minus "minus" = true) (e_minus : PySem.W.keepIn K (.ref p_minus) = true)
    (a__check : PySem.W.nsIn K mainGlobals "_check" = some (some (.ref p__check))) (l__check : K.lookup p__check = some ⟨oc__check, od__check, .func (PySem.W.fnOf "_check" "_check" (defArgs s__check) (defBody s__check) (defScope s__check) .none kV__check dc__check pm__check an__check cd__check ct__check), sl__check⟩) (d__check : PySem.W.codeIn K cd__check "_check" = true) (e__check : PySem.W.keepIn K (.ref p__check) = true)
    (a__rise : PySem.W.nsIn K mainGlobals "_rise" = some (some (.ref p__rise))) (l__rise : K.lookup p__rise = some ⟨oc__rise, od__rise, .func (PySem.W.fnOf "_rise" "_rise" (defArgs s__rise) (defBody s__rise) (defScope s__rise) .none kV__rise dc__rise pm__rise an__rise cd__rise ct__rise), sl__rise⟩) (d__rise : PySem.W.codeIn K cd__rise "_rise" = true) (e__rise : PySem.W.keepIn K (.ref p__rise) = true)
    (a__fall : PySem.W.nsIn K mainGlobals "_fall" = some (some (.ref p__fall))) (l__fall : K.lookup p__fall = some ⟨oc__fall, od__fall, .func (PySem.W.fnOf "_fall" "_fall" (defArgs s__fall) (defBody s__fall) (defScope s__fall) .none kV__fall dc__fall pm__fall an__fall cd__fall ct__fall), sl__fall⟩) (d__fall : PySem.W.codeIn K cd__fall "_fall" = true) (e__fall : PySem.W.keepIn K (.ref p__fall) = true)
    (a__again : PySem.W.nsIn K mainGlobals "_again" = some (some (.ref p__again))) (l__again : K.lookup p__again = some ⟨oc__again, od__again, .func (PySem.W.fnOf "_again" "_again" (defArgs s__again) (defBody s__again) (defScope s__again) .none kV__again dc__again pm__again an__again cd__again ct__again), sl__again⟩) (d__again : PySem.W.codeIn K cd__again "_again" = true) (e__again : PySem.W.keepIn K (.ref p__again) = true)
    (a_siphon_again : PySem.W.nsIn K mainGlobals "siphon_again" = some (some (.ref p_siphon_again))) (l_siphon_again : K.lookup p_siphon_again = some ⟨oc_siphon_again, od_siphon_again, .func (PySem.W.fnOf "siphon_again" "siphon_again" (defArgs s_siphon_again) (defBody s_siphon_again) (defScope s_siphon_again) .none kV_siphon_again dc_siphon_again pm_siphon_again an_siphon_again cd_siphon_again ct_siphon_again), sl_siphon_again⟩) (d_siphon_again : PySem.W.codeIn K cd_siphon_again "siphon_again" = true) (e_siphon_again : PySem.W.keepIn K (.ref p_siphon_again) = true)
    (a__rounds : PySem.W.nsIn K mainGlobals "_rounds" = some (some (.ref p__rounds))) (l__rounds : K.lookup p__rounds = some ⟨oc__rounds, od__rounds, .func (PySem.W.fnOf "_rounds" "_rounds" (defArgs s__rounds) (defBody s__rounds) (defScope s__rounds) .none kV__rounds dc__rounds pm__rounds an__rounds cd__rounds ct__rounds), sl__rounds⟩) (d__rounds : PySem.W.codeIn K cd__rounds "_rounds" = true) (e__rounds : PySem.W.keepIn K (.ref p__rounds) = true)
    (a__check_time : PySem.W.nsIn K mainGlobals "_check_time" = some (some (.ref p__check_time))) (l__check_time : K.lookup p__check_time = some ⟨oc__check_time, od__check_time, .func (PySem.W.fnOf "_check_time" "_check_time" (defArgs s__check_time) (defBody s__check_time) (defScope s__check_time) .none kV__check_time dc__check_time pm__check_time an__check_time cd__check_time ct__check_time), sl__check_time⟩) (d__check_time : PySem.W.codeIn K cd__check_time "_check_time" = true) (e__check_time : PySem.W.keepIn K (.ref p__check_time) = true)
    (a_siphon_level : PySem.W.nsIn K mainGlobals "siphon_level" = some (some (.ref p_siphon_level))) (l_siphon_level : K.lookup p_siphon_level = some ⟨oc_siphon_level, od_siphon_level, .func (PySem.W.fnOf "siphon_level" "siphon_level" (defArgs s_siphon_level) (defBody s_siphon_level) (defScope s_siphon_level) .none kV_siphon_level dc_siphon_level pm_siphon_level an_siphon_level cd_siphon_level ct_siphon_level), sl_siphon_level⟩) (d_siphon_level : PySem.W.codeIn K cd_siphon_level "siphon_level" = true) (e_siphon_level : PySem.W.keepIn K (.ref p_siphon_level) = true)
    (a_siphon_runs : PySem.W.nsIn K mainGlobals "siphon_runs" = some (some (.ref p_siphon_runs))) (l_siphon_runs : K.lookup p_siphon_runs = some ⟨oc_siphon_runs, od_siphon_runs, .func (PySem.W.fnOf "siphon_runs" "siphon_runs" (defArgs s_siphon_runs) (defBody s_siphon_runs) (defScope s_siphon_runs) .none kV_siphon_runs dc_siphon_runs pm_siphon_runs an_siphon_runs cd_siphon_runs ct_siphon_runs), sl_siphon_runs⟩) (d_siphon_runs : PySem.W.codeIn K cd_siphon_runs "siphon_runs" = true) (e_siphon_runs : PySem.W.keepIn K (.ref p_siphon_runs) = true)
    (a_siphon_time : PySem.W.nsIn K mainGlobals "siphon_time" = some (some (.ref p_siphon_time))) (l_siphon_time : K.lookup p_siphon_time = some ⟨oc_siphon_time, od_siphon_time, .func (PySem.W.fnOf "siphon_time" "siphon_time" (defArgs s_siphon_time) (defBody s_siphon_time) (defScope s_siphon_time) .none kV_siphon_time dc_siphon_time pm_siphon_time an_siphon_time cd_siphon_time ct_siphon_time), sl_siphon_time⟩) (d_siphon_time : PySem.W.codeIn K cd_siphon_time "siphon_time" = true) (e_siphon_time : PySem.W.keepIn K (.ref p_siphon_time) = true)
    (a_rates_again : PySem.W.nsIn K mainGlobals "rates_again" = some (some (.ref p_rates_again))) (l_rates_again : K.lookup p_rates_again = some ⟨oc_rates_again, od_rates_again, .func (PySem.W.fnOf "rates_again" "rates_again" (defArgs s_rates_again) (defBody s_rates_again) (defScope s_rates_again) .none kV_rates_again dc_rates_again pm_rates_again an_rates_again cd_rates_again ct_rates_again), sl_rates_again⟩) (d_rates_again : PySem.W.codeIn K cd_rates_again "rates_again" = true) (e_rates_again : PySem.W.keepIn K (.ref p_rates_again) = true)
    (a_both_run : PySem.W.nsIn K mainGlobals "both_run" = some (some (.ref p_both_run))) (l_both_run : K.lookup p_both_run = some ⟨oc_both_run, od_both_run, .func (PySem.W.fnOf "both_run" "both_run" (defArgs s_both_run) (defBody s_both_run) (defScope s_both_run) .none kV_both_run dc_both_run pm_both_run an_both_run cd_both_run ct_both_run), sl_both_run⟩) (d_both_run : PySem.W.codeIn K cd_both_run "both_run" = true) (e_both_run : PySem.W.keepIn K (.ref p_both_run) = true)
    (a__law_draws : PySem.W.nsIn K mainGlobals "_law_draws" = some (some (.ref p__law_draws))) (l__law_draws : K.lookup p__law_draws = some ⟨oc__law_draws, od__law_draws, .func (PySem.W.fnOf "_law_draws" "_law_draws" (defArgs s__law_draws) (defBody s__law_draws) (defScope s__law_draws) .none kV__law_draws dc__law_draws pm__law_draws an__law_draws cd__law_draws ct__law_draws), sl__law_draws⟩) (d__law_draws : PySem.W.codeIn K cd__law_draws "_law_draws" = true) (e__law_draws : PySem.W.keepIn K (.ref p__law_draws) = true)
    (a__law_low : PySem.W.nsIn K mainGlobals "_law_low" = some (some (.ref p__law_low))) (l__law_low : K.lookup p__law_low = some ⟨oc__law_low, od__law_low, .func (PySem.W.fnOf "_law_low" "_law_low" (defArgs s__law_low) (defBody s__law_low) (defScope s__law_low) .none kV__law_low dc__law_low pm__law_low an__law_low cd__law_low ct__law_low), sl__law_low⟩) (d__law_low : PySem.W.codeIn K cd__law_low "_law_low" = true) (e__law_low : PySem.W.keepIn K (.ref p__law_low) = true)
    (a__law_plus : PySem.W.nsIn K mainGlobals "_law_plus" = some (some (.ref p__law_plus))) (l__law_plus : K.lookup p__law_plus = some ⟨oc__law_plus, od__law_plus, .func (PySem.W.fnOf "_law_plus" "_law_plus" (defArgs s__law_plus) (defBody s__law_plus) (defScope s__law_plus) .none kV__law_plus dc__law_plus pm__law_plus an__law_plus cd__law_plus ct__law_plus), sl__law_plus⟩) (d__law_plus : PySem.W.codeIn K cd__law_plus "_law_plus" = true) (e__law_plus : PySem.W.keepIn K (.ref p__law_plus) = true)
    (a__law_times : PySem.W.nsIn K mainGlobals "_law_times" = some (some (.ref p__law_times))) (l__law_times : K.lookup p__law_times = some ⟨oc__law_times, od__law_times, .func (PySem.W.fnOf "_law_times" "_law_times" (defArgs s__law_times) (defBody s__law_times) (defScope s__law_times) .none kV__law_times dc__law_times pm__law_times an__law_times cd__law_times ct__law_times), sl__law_times⟩) (d__law_times : PySem.W.codeIn K cd__law_times "_law_times" = true) (e__law_times : PySem.W.keepIn K (.ref p__law_times) = true)
    (a__law_minus : PySem.W.nsIn K mainGlobals "_law_minus" = some (some (.ref p__law_minus))) (l__law_minus : K.lookup p__law_minus = some ⟨oc__law_minus, od__law_minus, .func (PySem.W.fnOf "_law_minus" "_law_minus" (defArgs s__law_minus) (defBody s__law_minus) (defScope s__law_minus) .none kV__law_minus dc__law_minus pm__law_minus an__law_minus cd__law_minus ct__law_minus), sl__law_minus⟩) (d__law_minus : PySem.W.codeIn K cd__law_minus "_law_minus" = true) (e__law_minus : PySem.W.keepIn K (.ref p__law_minus) = true)
    (a__law_less : PySem.W.nsIn K mainGlobals "_law_less" = some (some (.ref p__law_less))) (l__law_less : K.lookup p__law_less = some ⟨oc__law_less, od__law_less, .func (PySem.W.fnOf "_law_less" "_law_less" (defArgs s__law_less) (defBody s__law_less) (defScope s__law_less) .none kV__law_less dc__law_less pm__law_less an__law_less cd__law_less ct__law_less), sl__law_less⟩) (d__law_less : PySem.W.codeIn K cd__law_less "_law_less" = true) (e__law_less : PySem.W.keepIn K (.ref p__law_less) = true)
    (a__law_siphon : PySem.W.nsIn K mainGlobals "_law_siphon" = some (some (.ref p__law_siphon))) (l__law_siphon : K.lookup p__law_siphon = some ⟨oc__law_siphon, od__law_siphon, .func (PySem.W.fnOf "_law_siphon" "_law_siphon" (defArgs s__law_siphon) (defBody s__law_siphon) (defScope s__law_siphon) .none kV__law_siphon dc__law_siphon pm__law_siphon an__law_siphon cd__law_siphon ct__law_siphon), sl__law_siphon⟩) (d__law_siphon : PySem.W.codeIn K cd__law_siphon "_law_siphon" = true) (e__law_siphon : PySem.W.keepIn K (.ref p__law_siphon) = true)
    (a__law_rounds : PySem.W.nsIn K mainGlobals "_law_rounds" = some (some (.ref p__law_rounds))) (l__law_rounds : K.lookup p__law_rounds = some ⟨oc__law_rounds, od__law_rounds, .func (PySem.W.fnOf "_law_rounds" "_law_rounds" (defArgs s__law_rounds) (defBody s__law_rounds) (defScope s__law_rounds) .none kV__law_rounds dc__law_rounds pm__law_rounds an__law_rounds cd__law_rounds ct__law_rounds), sl__law_rounds⟩) (d__law_rounds : PySem.W.codeIn K cd__law_rounds "_law_rounds" = true) (e__law_rounds : PySem.W.keepIn K (.ref p__law_rounds) = true)
    (a__law_at : PySem.W.nsIn K mainGlobals "_law_at" = some (some (.ref p__law_at))) (l__law_at : K.lookup p__law_at = some ⟨oc__law_at, od__law_at, .func (PySem.W.fnOf "_law_at" "_law_at" (defArgs s__law_at) (defBody s__law_at) (defScope s__law_at) .none kV__law_at dc__law_at pm__law_at an__law_at cd__law_at ct__law_at), sl__law_at⟩) (d__law_at : PySem.W.codeIn K cd__law_at "_law_at" = true) (e__law_at : PySem.W.keepIn K (.ref p__law_at) = true)
    (a__law_word : PySem.W.nsIn K mainGlobals "_law_word" = some (some (.ref p__law_word))) (l__law_word : K.lookup p__law_word = some ⟨oc__law_word, od__law_word, .func (PySem.W.fnOf "_law_word" "_law_word" (defArgs s__law_word) (defBody s__law_word) (defScope s__law_word) .none kV__law_word dc__law_word pm__law_word an__law_word cd__law_word ct__law_word), sl__law_word⟩) (d__law_word : PySem.W.codeIn K cd__law_word "_law_word" = true) (e__law_word : PySem.W.keepIn K (.ref p__law_word) = true)
    (a_law : PySem.W.nsIn K mainGlobals "law" = some (some (.ref p_law))) (l_law : K.lookup p_law = some ⟨oc_law, od_law, .func (PySem.W.fnOf "law" "law" (defArgs s_law) (defBody s_law) (defScope s_law) .none kV_law dc_law pm_law an_law cd_law ct_law), sl_law⟩) (d_law : PySem.W.codeIn K cd_law "law" = true) (e_law : PySem.W.keepIn K (.ref p_law) = true)
    (z_abs : PySem.W.nsIn K mainGlobals "abs" = some none)
    (z_bool : PySem.W.nsIn K mainGlobals "bool" = some none)
    (z_int : PySem.W.nsIn K mainGlobals "int" = some none)
    (z_isinstance : PySem.W.nsIn K mainGlobals "isinstance" = some none)
    (z_len : PySem.W.nsIn K mainGlobals "len" = some none)
    (z_list : PySem.W.nsIn K mainGlobals "list" = some none)
    (z_range : PySem.W.nsIn K mainGlobals "range" = some none)
    (z_tuple : PySem.W.nsIn K mainGlobals "tuple" = some none)
    (g_MOST_HIGH : PySem.W.nsIn K mainGlobals "MOST_HIGH" = some (some (.int 1000 t_MOST_HIGH)))
    (g_MOST_RATE : PySem.W.nsIn K mainGlobals "MOST_RATE" = some (some (.int 100 t_MOST_RATE)))
    (g_MOST_TIME : PySem.W.nsIn K mainGlobals "MOST_TIME" = some (some (.int 1000000000000 t_MOST_TIME)))
    (g_MOST_MANY : PySem.W.nsIn K mainGlobals "MOST_MANY" = some (some (.int 1000000000000 t_MOST_MANY)))
    (g_NOTHING : PySem.W.nsIn K mainGlobals "NOTHING" = some (some (.ref A_NOTHING))) (q_NOTHING : gD K 1 (.ref A_NOTHING) (.tuple [.int 0, .int 1]) = true)
    (xa_BadTime : PySem.W.nsIn K mainGlobals "BadTime" = some (some (.ref C_BadTime))) (xb_BadTime : PySem.W.excIn K C_BadTime [.type "ValueError", .type "Exception", .type "BaseException", .type "object"] "ValueError.__new__" = true) (xc_BadTime : PySem.W.keepIn K (.ref C_BadTime) = true) (xd_BadTime : PySem.W.subIn K (.ref C_BadTime) (.type "BaseException") = some true) (xe_BadTime : PySem.W.typeIn K (.ref C_BadTime) = some (.type "type")) (xf_BadTime : PySem.W.hasDictIn K C_BadTime = true)
    (xa_BadMany : PySem.W.nsIn K mainGlobals "BadMany" = some (some (.ref C_BadMany))) (xb_BadMany : PySem.W.excIn K C_BadMany [.type "ValueError", .type "Exception", .type "BaseException", .type "object"] "ValueError.__new__" = true) (xc_BadMany : PySem.W.keepIn K (.ref C_BadMany) = true) (xd_BadMany : PySem.W.subIn K (.ref C_BadMany) (.type "BaseException") = some true) (xe_BadMany : PySem.W.typeIn K (.ref C_BadMany) = some (.type "type")) (xf_BadMany : PySem.W.hasDictIn K C_BadMany = true)
    (xa_BadSiphon : PySem.W.nsIn K mainGlobals "BadSiphon" = some (some (.ref C_BadSiphon))) (xb_BadSiphon : PySem.W.excIn K C_BadSiphon [.type "ValueError", .type "Exception", .type "BaseException", .type "object"] "ValueError.__new__" = true) (xc_BadSiphon : PySem.W.keepIn K (.ref C_BadSiphon) = true) (xd_BadSiphon : PySem.W.subIn K (.ref C_BadSiphon) (.type "BaseException") = some true) (xe_BadSiphon : PySem.W.typeIn K (.ref C_BadSiphon) = some (.type "type")) (xf_BadSiphon : PySem.W.hasDictIn K C_BadSiphon = true)
    (y_BadMany_BadMany : PySem.W.subIn K (.ref C_BadMany) (.ref C_BadMany) = some true)
    (y_BadMany_BadSiphon : PySem.W.subIn K (.ref C_BadMany) (.ref C_BadSiphon) = some false)
    (y_BadMany_BadTime : PySem.W.subIn K (.ref C_BadMany) (.ref C_BadTime) = some false)
    (y_BadSiphon_BadMany : PySem.W.subIn K (.ref C_BadSiphon) (.ref C_BadMany) = some false)
    (y_BadSiphon_BadSiphon : PySem.W.subIn K (.ref C_BadSiphon) (.ref C_BadSiphon) = some true)
    (y_BadSiphon_BadTime : PySem.W.subIn K (.ref C_BadSiphon) (.ref C_BadTime) = some false)
    (y_BadTime_BadMany : PySem.W.subIn K (.ref C_BadTime) (.ref C_BadMany) = some false)
    (y_BadTime_BadSiphon : PySem.W.subIn K (.ref C_BadTime) (.ref C_BadSiphon) = some false)
    (y_BadTime_BadTime : PySem.W.subIn K (.ref C_BadTime) (.ref C_BadTime) = some true)
    : ∃ fd : FuncData, (∀ (s : Shared) (v : Value), BindsTo s fd ⟨[v], []⟩ [("script", v)]) ∧ ∀ base : Heap, K.In base → base.Ns mainGlobals mg → FnOk l.prog w K mg base (L2.CX l.prog w) 8 fa fd ["script"] (spLawD K) := by
  have e := hfa.symm.trans (PySem.W.mg_of X G a_law)
  cases e
  have x_BadTime : ExcF K mg "BadTime" C_BadTime := ⟨PySem.W.mg_of X G xa_BadTime, xb_BadTime, xc_BadTime, xd_BadTime, xe_BadTime, xf_BadTime⟩
  have x_BadMany : ExcF K mg "BadMany" C_BadMany := ⟨PySem.W.mg_of X G xa_BadMany, xb_BadMany, xc_BadMany, xd_BadMany, xe_BadMany, xf_BadMany⟩
  have x_BadSiphon : ExcF K mg "BadSiphon" C_BadSiphon := ⟨PySem.W.mg_of X G xa_BadSiphon, xb_BadSiphon, xc_BadSiphon, xd_BadSiphon, xe_BadSiphon, xf_BadSiphon⟩
  have h_BadTime : HF K mg (.ref C_BadTime) errs ["BadTime"] := ⟨fun n hn => by
    rcases List.mem_cons.mp hn with rfl | hn
    · exact ⟨C_BadTime, x_BadTime.gC, PySem.W.exm_ref x_BadTime.bC x_BadTime.hC x_BadTime.tC (y_BadTime_BadTime.trans (congrArg some (by decide)))⟩
    rcases List.mem_cons.mp hn with rfl | hn
    · exact ⟨C_BadMany, x_BadMany.gC, PySem.W.exm_ref x_BadTime.bC x_BadTime.hC x_BadTime.tC (y_BadMany_BadTime.trans (congrArg some (by decide)))⟩
    rcases List.mem_cons.mp hn with rfl | hn
    · exact ⟨C_BadSiphon, x_BadSiphon.gC, PySem.W.exm_ref x_BadTime.bC x_BadTime.hC x_BadTime.tC (y_BadSiphon_BadTime.trans (congrArg some (by decide)))⟩
    cases hn⟩
  have h_BadMany : HF K mg (.ref C_BadMany) errs ["BadMany"] := ⟨fun n hn => by
    rcases List.mem_cons.mp hn with rfl | hn
    · exact ⟨C_BadTime, x_BadTime.gC, PySem.W.exm_ref x_BadMany.bC x_BadMany.hC x_BadMany.tC (y_BadTime_BadMany.trans (congrArg some (by decide)))⟩
    rcases List.mem_cons.mp hn with rfl | hn
    · exact ⟨C_BadMany, x_BadMany.gC, PySem.W.exm_ref x_BadMany.bC x_BadMany.hC x_BadMany.tC (y_BadMany_BadMany.trans (congrArg some (by decide)))⟩
    rcases List.mem_cons.mp hn with rfl | hn
    · exact ⟨C_BadSiphon, x_BadSiphon.gC, PySem.W.exm_ref x_BadMany.bC x_BadMany.hC x_BadMany.tC (y_BadSiphon_BadMany.trans (congrArg some (by decide)))⟩
    cases hn⟩
  have h_BadSiphon : HF K mg (.ref C_BadSiphon) errs ["BadSiphon"] := ⟨fun n hn => by
    rcases List.mem_cons.mp hn with rfl | hn
    · exact ⟨C_BadTime, x_BadTime.gC, PySem.W.exm_ref x_BadSiphon.bC x_BadSiphon.hC x_BadSiphon.tC (y_BadTime_BadSiphon.trans (congrArg some (by decide)))⟩
    rcases List.mem_cons.mp hn with rfl | hn
    · exact ⟨C_BadMany, x_BadMany.gC, PySem.W.exm_ref x_BadSiphon.bC x_BadSiphon.hC x_BadSiphon.tC (y_BadMany_BadSiphon.trans (congrArg some (by decide)))⟩
    rcases List.mem_cons.mp hn with rfl | hn
    · exact ⟨C_BadSiphon, x_BadSiphon.gC, PySem.W.exm_ref x_BadSiphon.bC x_BadSiphon.hC x_BadSiphon.tC (y_BadSiphon_BadSiphon.trans (congrArg some (by decide)))⟩
    cases hn⟩
  have T : Txt K mg C_BadTime C_BadMany C_BadSiphon A_NOTHING t_MOST_HIGH t_MOST_RATE t_MOST_TIME t_MOST_MANY := { b_abs := PySem.W.mg_none_of X G z_abs, b_bool := PySem.W.mg_none_of X G z_bool, b_int := PySem.W.mg_none_of X G z_int, b_isinstance := PySem.W.mg_none_of X G z_isinstance, b_len := PySem.W.mg_none_of X G z_len, b_list := PySem.W.mg_none_of X G z_list, b_range := PySem.W.mg_none_of X G z_range, b_tuple := PySem.W.mg_none_of X G z_tuple, c_MOST_HIGH := PySem.W.mg_of X G g_MOST_HIGH, c_MOST_RATE := PySem.W.mg_of X G g_MOST_RATE, c_MOST_TIME := PySem.W.mg_of X G g_MOST_TIME, c_MOST_MANY := PySem.W.mg_of X G g_MOST_MANY, c_NOTHING := ⟨PySem.W.mg_of X G g_NOTHING, q_NOTHING⟩, x_BadTime := x_BadTime, x_BadMany := x_BadMany, x_BadSiphon := x_BadSiphon, h_BadTime := h_BadTime, h_BadMany := h_BadMany, h_BadSiphon := h_BadSiphon }
  have F_is_whole := fun_mk (st := s_is_whole) l_is_whole d_is_whole e_is_whole
  have F_divisor := fun_mk (st := s_divisor) l_divisor d_divisor e_divisor
  have F_quotient := fun_mk (st := s_quotient) l_quotient d_quotient e_quotient
  have F_plus := fun_mk (st := s_plus) l_plus d_plus e_plus
  have F_times := fun_mk (st := s_times) l_times d_times e_times
  have F_is_less := fun_mk (st := s_is_less) l_is_less d_is_less e_is_less
  have F_is_integer := fun_mk (st := s_is_integer) l_is_integer d_is_integer e_is_integer
  have F_is_quotient := fun_mk (st := s_is_quotient) l_is_quotient d_is_quotient e_is_quotient
  have F_minus := fun_mk (st := s_minus) l_minus d_minus e_minus
  have F__check := fun_mk (st := s__check) l__check d__check e__check
  have F__rise := fun_mk (st := s__rise) l__rise d__rise e__rise
  have F__fall := fun_mk (st := s__fall) l__fall d__fall e__fall
  have F__again := fun_mk (st := s__again) l__again d__again e__again
  have F_siphon_again := fun_mk (st := s_siphon_again) l_siphon_again d_siphon_again e_siphon_again
  have F__rounds := fun_mk (st := s__rounds) l__rounds d__rounds e__rounds
  have F__check_time := fun_mk (st := s__check_time) l__check_time d__check_time e__check_time
  have F_siphon_level := fun_mk (st := s_siphon_level) l_siphon_level d_siphon_level e_siphon_level
  have F_siphon_runs := fun_mk (st := s_siphon_runs) l_siphon_runs d_siphon_runs e_siphon_runs
  have F_siphon_time := fun_mk (st := s_siphon_time) l_siphon_time d_siphon_time e_siphon_time
  have F_rates_again := fun_mk (st := s_rates_again) l_rates_again d_rates_again e_rates_again
  have F_both_run := fun_mk (st := s_both_run) l_both_run d_both_run e_both_run
  have F__law_draws := fun_mk (st := s__law_draws) l__law_draws d__law_draws e__law_draws
  have F__law_low := fun_mk (st := s__law_low) l__law_low d__law_low e__law_low
  have F__law_plus := fun_mk (st := s__law_plus) l__law_plus d__law_plus e__law_plus
  have F__law_times := fun_mk (st := s__law_times) l__law_times d__law_times e__law_times
  have F__law_minus := fun_mk (st := s__law_minus) l__law_minus d__law_minus e__law_minus
  have F__law_less := fun_mk (st := s__law_less) l__law_less d__law_less e__law_less
  have F__law_siphon := fun_mk (st := s__law_siphon) l__law_siphon d__law_siphon e__law_siphon
  have F__law_rounds := fun_mk (st := s__law_rounds) l__law_rounds d__law_rounds e__law_rounds
  have F__law_at := fun_mk (st := s__law_at) l__law_at d__law_at e__law_at
  have F__law_word := fun_mk (st := s__law_word) l__law_word d__law_word e__law_word
  have F_law := fun_mk (st := s_law) l_law d_law e_law
  refine ⟨PySem.W.fnOf "law" "law" (defArgs s_law) (defBody s_law) (defScope s_law) .none kV_law dc_law pm_law an_law cd_law ct_law, fun s v => .of_eq rfl, fun base _ _ => ?_⟩
  have k_is_whole : Callee l.prog w K mg base 1 "is_whole" 3 f_is_whole := ⟨⟨p_is_whole, _, ["value", "least", "most"], PySem.W.mg_of X G a_is_whole, F_is_whole.kp, F_is_whole.binds (ps := ["value", "least", "most"]) fun _ _ _ _ _ _ us hl => match us, hl with | [_, _, _], _ => rfl, ok_is_whole T F_is_whole⟩, semOf_len⟩
  have k_divisor : Callee l.prog w K mg base 1 "divisor" 2 f_divisor := ⟨⟨p_divisor, _, ["one", "other"], PySem.W.mg_of X G a_divisor, F_divisor.kp, F_divisor.binds (ps := ["one", "other"]) fun _ _ _ _ _ _ us hl => match us, hl with | [_, _], _ => rfl, ok_divisor T F_divisor⟩, semOf_len⟩
  have k_quotient : Callee l.prog w K mg base 2 "quotient" 2 f_quotient := ⟨⟨p_quotient, _, ["up", "down"], PySem.W.mg_of X G a_quotient, F_quotient.kp, F_quotient.binds (ps := ["up", "down"]) fun _ _ _ _ _ _ us hl => match us, hl with | [_, _], _ => rfl, ok_quotient T F_quotient k_divisor⟩, semOf_len⟩
  have k_plus : Callee l.prog w K mg base 3 "plus" 2 f_plus := ⟨⟨p_plus, _, ["one", "other"], PySem.W.mg_of X G a_plus, F_plus.kp, F_plus.binds (ps := ["one", "other"]) fun _ _ _ _ _ _ us hl => match us, hl with | [_, _], _ => rfl, ok_plus T F_plus k_quotient⟩, semOf_len⟩
  have k_times : Callee l.prog w K mg base 3 "times" 2 f_times := ⟨⟨p_times, _, ["one", "number"], PySem.W.mg_of X G a_times, F_times.kp, F_times.binds (ps := ["one", "number"]) fun _ _ _ _ _ _ us hl => match us, hl with | [_, _], _ => rfl, ok_times T F_times k_quotient⟩, semOf_len⟩
  have k_is_less : Callee l.prog w K mg base 1 "is_less" 2 f_is_less := ⟨⟨p_is_less, _, ["one", "other"], PySem.W.mg_of X G a_is_less, F_is_less.kp, F_is_less.binds (ps := ["one", "other"]) fun _ _ _ _ _ _ us hl => match us, hl with | [_, _], _ => rfl, ok_is_less T F_is_less⟩, semOf_len⟩
  have k_is_integer : Callee l.prog w K mg base 1 "is_integer" 1 f_is_integer := ⟨⟨p_is_integer, _, ["value"], PySem.W.mg_of X G a_is_integer, F_is_integer.kp, F_is_integer.binds (ps := ["value"]) fun _ _ _ _ _ _ us hl => match us, hl with | [_], _ => rfl, ok_is_integer T F_is_integer⟩, semOf_len⟩
  have k_is_quotient : Callee l.prog w K mg base 2 "is_quotient" 1 f_is_quotient := ⟨⟨p_is_quotient, _, ["value"], PySem.W.mg_of X G a_is_quotient, F_is_quotient.kp, F_is_quotient.binds (ps := ["value"]) fun _ _ _ _ _ _ us hl => match us, hl with | [_], _ => rfl, ok_is_quotient T F_is_quotient k_is_integer k_divisor⟩, semOf_len⟩
  have k_minus : Callee l.prog w K mg base 4 "minus" 2 f_minus := ⟨⟨p_minus, _, ["one", "other"], PySem.W.mg_of X G a_minus, F_minus.kp, F_minus.binds (ps := ["one", "other"]) fun _ _ _ _ _ _ us hl => match us, hl with | [_, _], _ => rfl, ok_minus T F_minus k_plus k_times⟩, semOf_len⟩
  have k__check : Callee l.prog w K mg base 2 "_check" 1 f__check := ⟨⟨p__check, _, ["siphon"], PySem.W.mg_of X G a__check, F__check.kp, F__check.binds (ps := ["siphon"]) fun _ _ _ _ _ _ us hl => match us, hl with | [_], _ => rfl, ok__check T F__check k_is_whole⟩, semOf_len⟩
  have k__rise : Callee l.prog w K mg base 3 "_rise" 1 f__rise := ⟨⟨p__rise, _, ["siphon"], PySem.W.mg_of X G a__rise, F__rise.kp, F__rise.binds (ps := ["siphon"]) fun _ _ _ _ _ _ us hl => match us, hl with | [_], _ => rfl, ok__rise T F__rise k_quotient⟩, semOf_len⟩
  have k__fall : Callee l.prog w K mg base 3 "_fall" 1 f__fall := ⟨⟨p__fall, _, ["siphon"], PySem.W.mg_of X G a__fall, F__fall.kp, F__fall.binds (ps := ["siphon"]) fun _ _ _ _ _ _ us hl => match us, hl with | [_], _ => rfl, ok__fall T F__fall k_quotient⟩, semOf_len⟩
  have k__again : Callee l.prog w K mg base 4 "_again" 1 f__again := ⟨⟨p__again, _, ["siphon"], PySem.W.mg_of X G a__again, F__again.kp, F__again.binds (ps := ["siphon"]) fun _ _ _ _ _ _ us hl => match us, hl with | [_], _ => rfl, ok__again T F__again k_plus k__rise k__fall⟩, semOf_len⟩
  have k_siphon_again : Callee l.prog w K mg base 5 "siphon_again" 1 f_siphon_again := ⟨⟨p_siphon_again, _, ["siphon"], PySem.W.mg_of X G a_siphon_again, F_siphon_again.kp, F_siphon_again.binds (ps := ["siphon"]) fun _ _ _ _ _ _ us hl => match us, hl with | [_], _ => rfl, ok_siphon_again T F_siphon_again k__check k__again⟩, semOf_len⟩
  have k__rounds : Callee l.prog w K mg base 5 "_rounds" 2 f__rounds := ⟨⟨p__rounds, _, ["siphon", "time"], PySem.W.mg_of X G a__rounds, F__rounds.kp, F__rounds.binds (ps := ["siphon", "time"]) fun _ _ _ _ _ _ us hl => match us, hl with | [_, _], _ => rfl, ok__rounds T F__rounds k__again k_minus k_times⟩, semOf_len⟩
  have k__check_time : Callee l.prog w K mg base 3 "_check_time" 2 f__check_time := ⟨⟨p__check_time, _, ["siphon", "time"], PySem.W.mg_of X G a__check_time, F__check_time.kp, F__check_time.binds (ps := ["siphon", "time"]) fun _ _ _ _ _ _ us hl => match us, hl with | [_, _], _ => rfl, ok__check_time T F__check_time k__check k_is_quotient k_is_less⟩, semOf_len⟩
  have k_siphon_level : Callee l.prog w K mg base 6 "siphon_level" 2 f_siphon_level := ⟨⟨p_siphon_level, _, ["siphon", "time"], PySem.W.mg_of X G a_siphon_level, F_siphon_level.kp, F_siphon_level.binds (ps := ["siphon", "time"]) fun _ _ _ _ _ _ us hl => match us, hl with | [_, _], _ => rfl, ok_siphon_level T F_siphon_level k__check_time k__rounds k__rise k_is_less k_plus k_times k_minus⟩, semOf_len⟩
  have k_siphon_runs : Callee l.prog w K mg base 6 "siphon_runs" 2 f_siphon_runs := ⟨⟨p_siphon_runs, _, ["siphon", "time"], PySem.W.mg_of X G a_siphon_runs, F_siphon_runs.kp, F_siphon_runs.binds (ps := ["siphon", "time"]) fun _ _ _ _ _ _ us hl => match us, hl with | [_, _], _ => rfl, ok_siphon_runs T F_siphon_runs k__check_time k__rounds k__rise k_is_less k_minus k_times k_plus k__fall⟩, semOf_len⟩
  have k_siphon_time : Callee l.prog w K mg base 5 "siphon_time" 2 f_siphon_time := ⟨⟨p_siphon_time, _, ["siphon", "many"], PySem.W.mg_of X G a_siphon_time, F_siphon_time.kp, F_siphon_time.binds (ps := ["siphon", "many"]) fun _ _ _ _ _ _ us hl => match us, hl with | [_, _], _ => rfl, ok_siphon_time T F_siphon_time k__check k_is_whole k_plus k_times k__again k__rise⟩, semOf_len⟩
  have k_rates_again : Callee l.prog w K mg base 5 "rates_again" 3 f_rates_again := ⟨⟨p_rates_again, _, ["low", "high", "time"], PySem.W.mg_of X G a_rates_again, F_rates_again.kp, F_rates_again.binds (ps := ["low", "high", "time"]) fun _ _ _ _ _ _ us hl => match us, hl with | [_, _, _], _ => rfl, ok_rates_again T F_rates_again k__check k_is_quotient k_is_less k__again⟩, semOf_len⟩
  have k_both_run : Callee l.prog w K mg base 5 "both_run" 2 f_both_run := ⟨⟨p_both_run, _, ["siphon", "other"], PySem.W.mg_of X G a_both_run, F_both_run.kp, F_both_run.binds (ps := ["siphon", "other"]) fun _ _ _ _ _ _ us hl => match us, hl with | [_, _], _ => rfl, ok_both_run T F_both_run k__check k__again k_quotient k_times⟩, semOf_len⟩
  have k__law_draws : Callee l.prog w K mg base 1 "_law_draws" 2 f__law_draws := ⟨⟨p__law_draws, _, ["script", "many"], PySem.W.mg_of X G a__law_draws, F__law_draws.kp, F__law_draws.binds (ps := ["script", "many"]) fun _ _ _ _ _ _ us hl => match us, hl with | [_, _], _ => rfl, ok__law_draws T F__law_draws⟩, semOf_len⟩
  have k__law_low : Callee l.prog w K mg base 1 "_law_low" 2 f__law_low := ⟨⟨p__law_low, _, ["up", "down"], PySem.W.mg_of X G a__law_low, F__law_low.kp, F__law_low.binds (ps := ["up", "down"]) fun _ _ _ _ _ _ us hl => match us, hl with | [_, _], _ => rfl, ok__law_low T F__law_low⟩, semOf_len⟩
  have k__law_plus : Callee l.prog w K mg base 2 "_law_plus" 2 f__law_plus := ⟨⟨p__law_plus, _, ["one", "other"], PySem.W.mg_of X G a__law_plus, F__law_plus.kp, F__law_plus.binds (ps := ["one", "other"]) fun _ _ _ _ _ _ us hl => match us, hl with | [_, _], _ => rfl, ok__law_plus T F__law_plus k__law_low⟩, semOf_len⟩
  have k__law_times : Callee l.prog w K mg base 2 "_law_times" 2 f__law_times := ⟨⟨p__law_times, _, ["one", "number"], PySem.W.mg_of X G a__law_times, F__law_times.kp, F__law_times.binds (ps := ["one", "number"]) fun _ _ _ _ _ _ us hl => match us, hl with | [_, _], _ => rfl, ok__law_times T F__law_times k__law_low⟩, semOf_len⟩
  have k__law_minus : Callee l.prog w K mg base 3 "_law_minus" 2 f__law_minus := ⟨⟨p__law_minus, _, ["one", "other"], PySem.W.mg_of X G a__law_minus, F__law_minus.kp, F__law_minus.binds (ps := ["one", "other"]) fun _ _ _ _ _ _ us hl => match us, hl with | [_, _], _ => rfl, ok__law_minus T F__law_minus k__law_plus⟩, semOf_len⟩
  have k__law_less : Callee l.prog w K mg base 1 "_law_less" 2 f__law_less := ⟨⟨p__law_less, _, ["one", "other"], PySem.W.mg_of X G a__law_less, F__law_less.kp, F__law_less.binds (ps := ["one", "other"]) fun _ _ _ _ _ _ us hl => match us, hl with | [_, _], _ => rfl, ok__law_less T F__law_less⟩, semOf_len⟩
  have k__law_siphon : Callee l.prog w K mg base 1 "_law_siphon" 2 f__law_siphon := ⟨⟨p__law_siphon, _, ["draws", "at"], PySem.W.mg_of X G a__law_siphon, F__law_siphon.kp, F__law_siphon.binds (ps := ["draws", "at"]) fun _ _ _ _ _ _ us hl => match us, hl with | [_, _], _ => rfl, ok__law_siphon T F__law_siphon⟩, semOf_len⟩
  have k__law_rounds : Callee l.prog w K mg base 2 "_law_rounds" 1 f__law_rounds := ⟨⟨p__law_rounds, _, ["siphon"], PySem.W.mg_of X G a__law_rounds, F__law_rounds.kp, F__law_rounds.binds (ps := ["siphon"]) fun _ _ _ _ _ _ us hl => match us, hl with | [_], _ => rfl, ok__law_rounds T F__law_rounds k__law_low⟩, semOf_len⟩
  have k__law_at : Callee l.prog w K mg base 4 "_law_at" 2 f__law_at := ⟨⟨p__law_at, _, ["siphon", "time"], PySem.W.mg_of X G a__law_at, F__law_at.kp, F__law_at.binds (ps := ["siphon", "time"]) fun _ _ _ _ _ _ us hl => match us, hl with | [_, _], _ => rfl, ok__law_at T F__law_at k__law_rounds k__law_less k__law_plus k__law_times k__law_minus⟩, semOf_len⟩
  have k__law_word : Callee l.prog w K mg base 7 "_law_word" 4 f__law_word := ⟨⟨p__law_word, _, ["way", "one", "two", "three"], PySem.W.mg_of X G a__law_word, F__law_word.kp, F__law_word.binds (ps := ["way", "one", "two", "three"]) fun _ _ _ _ _ _ us hl => match us, hl with | [_, _, _, _], _ => rfl, ok__law_word T F__law_word k_siphon_again k_siphon_level k_siphon_runs k_siphon_time k_both_run k_rates_again⟩, semOf_len⟩
  exact law_end law_true (ok_law T F_law k__law_draws k__law_siphon k__law_rounds k__law_plus k_siphon_again k__law_low k__law_at k_siphon_level k_siphon_runs k__law_minus k__law_times k_siphon_time k_both_run k__law_word k_rates_again)
end DL.K95
open PySem.W PySem PyProof.Rows
set_option maxRecDepth 100001 in
set_option pp.maxSteps 400 in
set_option maxHeartbeats 0 in
theorem PySem.Challenge.cw_sandwright_k95_whole_siphons_holds : PySem.Challenge.rw_sandwright_k95_whole_siphons.Holds := by
  w_on; o_law; k_head; (case hw => (w_witness2))
  k_fill
  refine L2.walk_of (l := PySem.Challenge.rw_sandwright_k95_whole_siphons) (n := 63) (k := 8) (x := "script") (CX := fun w => L2.CX PySem.Challenge.rw_sandwright_k95_whole_siphons.prog w) (sp := fun w => DL.spLawD _) rfl (by decide) rfl ⟨rfl, by decide, by decide⟩ (fun w h Y => PySem.W.kIn_of Y) ?F (fun _ _ a ns hl _ hS => ⟨a, ns, rfl, hS, hl, fun _ => rfl⟩) ?C
  case F =>
    intro w mg fa h KX G hmg
    refine' DL.K95.all_mk KX G hmg ?a_is_whole ?l_is_whole ?d_is_whole ?e_is_whole ?a_divisor ?l_divisor ?d_divisor ?e_divisor ?a_quotient ?l_quotient ?d_quotient ?e_quotient ?a_plus ?l_plus ?d_plus ?e_plus ?a_times ?l_times ?d_times ?e_times ?a_is_less ?l_is_less ?d_is_less ?e_is_less ?a_is_integer ?l_is_integer ?d_is_integer ?e_is_integer ?a_is_quotient ?l_is_quotient ?d_is_quotient ?e_is_quotient ?a_minus ?l_minus ?d_minus ?e_minus ?a__check ?l__check ?d__check ?e__check ?a__rise ?l__rise ?d__rise ?e__rise ?a__fall ?l__fall ?d__fall ?e__fall ?a__again ?l__again ?d__again ?e__again ?a_siphon_again ?l_siphon_again ?d_siphon_again ?e_siphon_again ?a__rounds ?l__rounds ?d__rounds ?e__rounds ?a__check_time ?l__check_time ?d__check_time ?e__check_time ?a_siphon_level ?l_siphon_level ?d_siphon_level ?e_siphon_level ?a_siphon_runs ?l_siphon_runs ?d_siphon_runs ?e_siphon_runs ?a_siphon_time ?l_siphon_time ?d_siphon_time ?e_siphon_time ?a_rates_again ?l_rates_again ?d_rates_again ?e_rates_again ?a_both_run ?l_both_run ?d_both_run ?e_both_run ?a__law_draws ?l__law_draws ?d__law_draws ?e__law_draws ?a__law_low ?l__law_low ?d__law_low ?e__law_low ?a__law_plus ?l__law_plus ?d__law_plus ?e__law_plus ?a__law_times ?l__law_times ?d__law_times ?e__law_times ?a__law_minus ?l__law_minus ?d__law_minus ?e__law_minus ?a__law_less ?l__law_less ?d__law_less ?e__law_less ?a__law_siphon ?l__law_siphon ?d__law_siphon ?e__law_siphon ?a__law_rounds ?l__law_rounds ?d__law_rounds ?e__law_rounds ?a__law_at ?l__law_at ?d__law_at ?e__law_at ?a__law_word ?l__law_word ?d__law_word ?e__law_word ?a_law ?l_law ?d_law ?e_law ?z_abs ?z_bool ?z_int ?z_isinstance ?z_len ?z_list ?z_range ?z_tuple ?g_MOST_HIGH ?g_MOST_RATE ?g_MOST_TIME ?g_MOST_MANY ?g_NOTHING ?q_NOTHING ?xa_BadTime ?xb_BadTime ?xc_BadTime ?xd_BadTime ?xe_BadTime ?xf_BadTime ?xa_BadMany ?xb_BadMany ?xc_BadMany ?xd_BadMany ?xe_BadMany ?xf_BadMany ?xa_BadSiphon ?xb_BadSiphon ?xc_BadSiphon ?xd_BadSiphon ?xe_BadSiphon ?xf_BadSiphon ?y_BadMany_BadMany ?y_BadMany_BadSiphon ?y_BadMany_BadTime ?y_BadSiphon_BadMany ?y_BadSiphon_BadSiphon ?y_BadSiphon_BadTime ?y_BadTime_BadMany ?y_BadTime_BadSiphon ?y_BadTime_BadTime
    (case a_is_whole => k_is)
    (case l_is_whole => k_is)
    (case d_is_whole => k_is)
    (case e_is_whole => k_is)
    (case a_divisor => k_is)
    (case l_divisor => k_is)
    (case d_divisor => k_is)
    (case e_divisor => k_is)
    (case a_quotient => k_is)
    (case l_quotient => k_is)
    (case d_quotient => k_is)
    (case e_quotient => k_is)
    (case a_plus => k_is)
    (case l_plus => k_is)
    (case d_plus => k_is)
    (case e_plus => k_is)
    (case a_times => k_is)
    (case l_times => k_is)
    (case d_times => k_is)
    (case e_times => k_is)
    (case a_is_less => k_is)
    (case l_is_less => k_is)
    (case d_is_less => k_is)
    (case e_is_less => k_is)
    (case a_is_integer => k_is)
    (case l_is_integer => k_is)
    (case d_is_integer => k_is)
    (case e_is_integer => k_is)
    (case a_is_quotient => k_is)
    (case l_is_quotient => k_is)
    (case d_is_quotient => k_is)
    (case e_is_quotient => k_is)
    (case a_minus => k_is)
    (case l_minus => k_is)
    (case d_minus => k_is)
    (case e_minus => k_is)
    (case a__check => k_is)
    (case l__check => k_is)
    (case d__check => k_is)
    (case e__check => k_is)
    (case a__rise => k_is)
    (case l__rise => k_is)
    (case d__rise => k_is)
    (case e__rise => k_is)
    (case a__fall => k_is)
    (case l__fall => k_is)
    (case d__fall => k_is)
    (case e__fall => k_is)
    (case a__again => k_is)
    (case l__again => k_is)
    (case d__again => k_is)
    (case e__again => k_is)
    (case a_siphon_again => k_is)
    (case l_siphon_again => k_is)
    (case d_siphon_again => k_is)
    (case e_siphon_again => k_is)
    (case a__rounds => k_is)
    (case l__rounds => k_is)
    (case d__rounds => k_is)
    (case e__rounds => k_is)
    (case a__check_time => k_is)
    (case l__check_time => k_is)
    (case d__check_time => k_is)
    (case e__check_time => k_is)
    (case a_siphon_level => k_is)
    (case l_siphon_level => k_is)
    (case d_siphon_level => k_is)
    (case e_siphon_level => k_is)
    (case a_siphon_runs => k_is)
    (case l_siphon_runs => k_is)
    (case d_siphon_runs => k_is)
    (case e_siphon_runs => k_is)
    (case a_siphon_time => k_is)
    (case l_siphon_time => k_is)
    (case d_siphon_time => k_is)
    (case e_siphon_time => k_is)
    (case a_rates_again => k_is)
    (case l_rates_again => k_is)
    (case d_rates_again => k_is)
    (case e_rates_again => k_is)
    (case a_both_run => k_is)
    (case l_both_run => k_is)
    (case d_both_run => k_is)
    (case e_both_run => k_is)
    (case a__law_draws => k_is)
    (case l__law_draws => k_is)
    (case d__law_draws => k_is)
    (case e__law_draws => k_is)
    (case a__law_low => k_is)
    (case l__law_low => k_is)
    (case d__law_low => k_is)
    (case e__law_low => k_is)
    (case a__law_plus => k_is)
    (case l__law_plus => k_is)
    (case d__law_plus => k_is)
    (case e__law_plus => k_is)
    (case a__law_times => k_is)
    (case l__law_times => k_is)
    (case d__law_times => k_is)
    (case e__law_times => k_is)
    (case a__law_minus => k_is)
    (case l__law_minus => k_is)
    (case d__law_minus => k_is)
    (case e__law_minus => k_is)
    (case a__law_less => k_is)
    (case l__law_less => k_is)
    (case d__law_less => k_is)
    (case e__law_less => k_is)
    (case a__law_siphon => k_is)
    (case l__law_siphon => k_is)
    (case d__law_siphon => k_is)
    (case e__law_siphon => k_is)
    (case a__law_rounds => k_is)
    (case l__law_rounds => k_is)
    (case d__law_rounds => k_is)
    (case e__law_rounds => k_is)
    (case a__law_at => k_is)
    (case l__law_at => k_is)
    (case d__law_at => k_is)
    (case e__law_at => k_is)
    (case a__law_word => k_is)
    (case l__law_word => k_is)
    (case d__law_word => k_is)
    (case e__law_word => k_is)
    (case a_law => k_is)
    (case l_law => k_is)
    (case d_law => k_is)
    (case e_law => k_is)
    (case z_abs => k_is)
    (case z_bool => k_is)
    (case z_int => k_is)
    (case z_isinstance => k_is)
    (case z_len => k_is)
    (case z_list => k_is)
    (case z_range => k_is)
    (case z_tuple => k_is)
    (case g_MOST_HIGH => k_is)
    (case g_MOST_RATE => k_is)
    (case g_MOST_TIME => k_is)
    (case g_MOST_MANY => k_is)
    (case g_NOTHING => k_is)
    (case q_NOTHING => first | exact rfl | kernel_rfl | decide +kernel)
    (case xa_BadTime => k_is)
    (case xb_BadTime => k_exc)
    (case xc_BadTime => k_is)
    (case xd_BadTime => k_is)
    (case xe_BadTime => k_is)
    (case xf_BadTime => k_is)
    (case xa_BadMany => k_is)
    (case xb_BadMany => k_exc)
    (case xc_BadMany => k_is)
    (case xd_BadMany => k_is)
    (case xe_BadMany => k_is)
    (case xf_BadMany => k_is)
    (case xa_BadSiphon => k_is)
    (case xb_BadSiphon => k_exc)
    (case xc_BadSiphon => k_is)
    (case xd_BadSiphon => k_is)
    (case xe_BadSiphon => k_is)
    (case xf_BadSiphon => k_is)
    (case y_BadMany_BadMany => k_is)
    (case y_BadMany_BadSiphon => k_is)
    (case y_BadMany_BadTime => k_is)
    (case y_BadSiphon_BadMany => k_is)
    (case y_BadSiphon_BadSiphon => k_is)
    (case y_BadSiphon_BadTime => k_is)
    (case y_BadTime_BadMany => k_is)
    (case y_BadTime_BadSiphon => k_is)
    (case y_BadTime_BadTime => k_is)
  case C =>
    intro w H s e s' z
    obtain ⟨_, _, _, _, _, _, _, _, _, _, _, _, z⟩ := z
    exact z
