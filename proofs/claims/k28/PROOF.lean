import PyProof.Rows.All
import Wide.All
import OpenK.AllK
import Wide.FinOn
import HandS.ForMost
import HandS.ForExc
import HandS.CallSlots
import HandS.TryMany
import HandS.Walk
import HandS.Evl
import HandS.TupAny
import HandS.Zip
import HandS.Deep
import HandS.Wide
import HandS.SortInts
import HandS.IsInst
import HandS.TupMul
import HandS.ExcIs
import HandS.Style
import KE.KDictSum
import HandS.ExcValue
import HandS.Iter
import HandS.SetFor
import HandS.Strs
import KE.GoesMore
import PySem.Challenge.RW_sandwright_k28_posts_and_lights
set_option Elab.async false
set_option linter.all false
set_option maxRecDepth 100000
set_option maxHeartbeats 4100000
/-! DLa -/
namespace DL
open PySem L2 PySem.Spec PyProof.Rows
open Evl (Ex ex_l ex_t ex_rd)

abbrev D := PyData
/-- a key as data -/
def kD : Key → D
  | .inl i => .int i
  | .inr x => .str x
mutual
inductive Da (K : PySem.W.Frag) (H : Hp) : V → D → Prop
  | non : Da K H .non .none
  | bl (b : Bool) : Da K H (.bl b) (.bool b)
  | int (i : Int) : Da K H (.int i) (.int i)
  | str (x : Str) : Da K H (.str x) (.str x)
  | lst {a : Addr} {xs : List V} {ds : List D} : H a = some (.lst xs) → DaAll K H xs ds → Da K H (.ref a) (.list ds)
  | tup {a : Addr} {xs : List V} {ds : List D} : SqT K H a xs → DaAll K H xs ds → Da K H (.ref a) (.tuple ds)
  /-- the script -/
  | scr {a : Addr} {ns : List Int} : SqL K H a (ns.map V.int) → Da K H (.ref a) (.dict (ns.map fun n => (.int n, .none)))
  /-- a dict: its row begins with a mark -/
  | dct {a : Addr} {kvs : List (Key × V)} {ks : List (Key × D)} {rs : List (D × D)} : H a = some (.dK kvs) → DKs K H kvs ks → rs = (.none, .none) :: ks.map (fun q => (kD q.1, q.2)) → Da K H (.ref a) (.dict rs)
inductive DaAll (K : PySem.W.Frag) (H : Hp) : List V → List D → Prop
  | nil : DaAll K H [] []
  | cons {v : V} {vs : List V} {d : D} {ds : List D} : Da K H v d → DaAll K H vs ds → DaAll K H (v :: vs) (d :: ds)
inductive DKs (K : PySem.W.Frag) (H : Hp) : List (Key × V) → List (Key × D) → Prop
  | nil : DKs K H [] []
  | cons {k : Key} {v : V} {vs : List (Key × V)} {d : D} {ds : List (Key × D)} : Da K H v d → DKs K H vs ds → DKs K H ((k, v) :: vs) ((k, d) :: ds)
end
abbrev dcD (ks : List (Key × D)) : D := .dict ((.none, .none) :: ks.map fun q => (kD q.1, q.2))
abbrev scrD (ns : List Int) : D := .dict (ns.map fun n => (.int n, .none))
/-! ### data on an abstract heap stays -/
section
variable {K : PySem.W.Frag} {H H' : Hp} {v : V} {d : D} {vs : List V} {ds : List D}
theorem Da.up (h : Da K H v d) (e : Ex H H') : Da K H' v d :=
  Da.rec (motive_1 := fun v d _ => Da K H' v d) (motive_2 := fun vs ds _ => DaAll K H' vs ds) (motive_3 := fun vs ds _ => DKs K H' vs ds)
    .non .bl .int .str (fun a _ i => .lst (e _ _ a) i) (fun a _ i => .tup (ex_t e a) i) (fun a => .scr (ex_l e a)) (fun a _ c i => .dct (e _ _ a) i c) .nil (fun _ _ i j => .cons i j) .nil (fun _ _ i j => .cons i j) h
theorem DaAll.up (h : DaAll K H vs ds) (e : Ex H H') : DaAll K H' vs ds :=
  DaAll.rec (motive_1 := fun v d _ => Da K H' v d) (motive_2 := fun vs ds _ => DaAll K H' vs ds) (motive_3 := fun vs ds _ => DKs K H' vs ds)
    .non .bl .int .str (fun a _ i => .lst (e _ _ a) i) (fun a _ i => .tup (ex_t e a) i) (fun a => .scr (ex_l e a)) (fun a _ c i => .dct (e _ _ a) i c) .nil (fun _ _ i j => .cons i j) .nil (fun _ _ i j => .cons i j) h
theorem DKs.up {vs : List (Key × V)} {ds : List (Key × D)} (h : DKs K H vs ds) (e : Ex H H') : DKs K H' vs ds :=
  DKs.rec (motive_1 := fun v d _ => Da K H' v d) (motive_2 := fun vs ds _ => DaAll K H' vs ds) (motive_3 := fun vs ds _ => DKs K H' vs ds)
    .non .bl .int .str (fun a _ i => .lst (e _ _ a) i) (fun a _ i => .tup (ex_t e a) i) (fun a => .scr (ex_l e a)) (fun a _ c i => .dct (e _ _ a) i c) .nil (fun _ _ i j => .cons i j) .nil (fun _ _ i j => .cons i j) h
theorem dpa_len : ∀ {ds : List D} {vs : List V}, DaAll K H vs ds → vs.length = ds.length
  | [], _, h => by cases h; rfl
  | _ :: _, _, h => by
    cases h with
    | cons h1 h2 => simp [dpa_len h2]
theorem dpa_get : ∀ {ds : List D} {vs : List V} {i : Nat} {d : D}, DaAll K H vs ds → ds[i]? = some d → ∃ v, vs[i]? = some v ∧ Da K H v d
  | [], _, i, d, h, e => by simp at e
  | x :: xs, _, 0, d, h, e => by
    cases h with
    | cons h1 h2 => simp at e; subst e; exact ⟨_, rfl, h1⟩
  | x :: xs, _, i + 1, d, h, e => by
    cases h with
    | cons h1 h2 =>
      obtain ⟨v, e1, e2⟩ := dpa_get (i := i) h2 (by simpa using e)
      exact ⟨v, by simpa using e1, e2⟩
theorem dpa_getV : ∀ {ds : List D} {vs : List V} {i : Nat} {v : V}, DaAll K H vs ds → vs[i]? = some v → ∃ d, ds[i]? = some d ∧ Da K H v d
  | [], _, i, d, h, e => by cases h; simp at e
  | x :: xs, _, 0, d, h, e => by
    cases h with
    | cons h1 h2 => simp at e; subst e; exact ⟨_, rfl, h1⟩
  | x :: xs, _, i + 1, d, h, e => by
    cases h with
    | cons h1 h2 =>
      obtain ⟨v, e1, e2⟩ := dpa_getV (i := i) h2 (by simpa using e)
      exact ⟨v, by simpa using e1, e2⟩
theorem dpa_app {vs' : List V} {ds' : List D} : ∀ {ds : List D} {vs : List V}, DaAll K H vs ds → DaAll K H vs' ds' → DaAll K H (vs ++ vs') (ds ++ ds')
  | [], _, h, h' => by cases h; exact h'
  | _ :: _, _, h, h' => by
    cases h with
    | cons h1 h2 => exact .cons h1 (dpa_app h2 h')
theorem DaAll.one (h : Da K H v d) : DaAll K H [v] [d] := .cons h .nil
theorem dpa_take : ∀ {ds : List D} {vs : List V} (n : Nat), DaAll K H vs ds → DaAll K H (vs.take n) (ds.take n)
  | _, _, 0, _ => by simp; exact .nil
  | [], _, n + 1, h => by cases h; exact .nil
  | _ :: _, _, n + 1, h => by
    cases h with
    | cons h1 h2 => exact .cons h1 (dpa_take n h2)
theorem dpa_drop : ∀ {ds : List D} {vs : List V} (n : Nat), DaAll K H vs ds → DaAll K H (vs.drop n) (ds.drop n)
  | _, _, 0, h => by simpa using h
  | [], _, n + 1, h => by cases h; exact .nil
  | _ :: _, _, n + 1, h => by
    cases h with
    | cons h1 h2 => simpa using dpa_drop n h2
theorem dpa_set : ∀ {ds : List D} {vs : List V} (n : Nat), DaAll K H vs ds → Da K H v d → DaAll K H (vs.set n v) (ds.set n d)
  | [], _, n, h, _ => by cases h; exact .nil
  | _ :: _, _, 0, h, q => by
    cases h with
    | cons h1 h2 => exact .cons q h2
  | _ :: _, _, n + 1, h, q => by
    cases h with
    | cons h1 h2 => exact .cons h1 (dpa_set n h2 q)
theorem dpa_rev : ∀ {ds : List D} {vs : List V}, DaAll K H vs ds → DaAll K H vs.reverse ds.reverse
  | [], _, h => by cases h; exact .nil
  | _ :: _, _, h => by
    cases h with
    | cons h1 h2 => simp only [List.reverse_cons]; exact dpa_app (dpa_rev h2) (.one h1)
theorem dpa_ints : ∀ {ns : List Int}, DaAll K H (ns.map V.int) (ns.map PyData.int)
  | [] => .nil
  | n :: ns => .cons (.int n) dpa_ints
theorem dpa_toInts : ∀ {ns : List Int} {vs : List V}, DaAll K H vs (ns.map PyData.int) → vs = ns.map V.int
  | [], _, h => by cases h; rfl
  | n :: ns, _, h => by
    cases h with
    | cons h1 h2 => cases h1; simp [dpa_toInts h2]
theorem dpa_toBls : ∀ {ns : List Bool} {vs : List V}, DaAll K H vs (ns.map PyData.bool) → vs = ns.map V.bl
  | [], _, h => by cases h; rfl
  | n :: ns, _, h => by
    cases h with
    | cons h1 h2 => cases h1; simp [dpa_toBls h2]
theorem dpa_toStrs : ∀ {ns : List Str} {vs : List V}, DaAll K H vs (ns.map PyData.str) → vs = ns.map V.str
  | [], _, h => by cases h; rfl
  | n :: ns, _, h => by
    cases h with
    | cons h1 h2 => cases h1; simp [dpa_toStrs h2]
theorem dpa_ofStrs : ∀ {ns : List Str}, DaAll K H (ns.map V.str) (ns.map PyData.str)
  | [] => .nil
  | n :: ns => .cons (.str n) dpa_ofStrs
end

/-! ### the library's data -/
mutual
theorem da_dp {K : PySem.W.Frag} {H : Hp} : ∀ (d : D) (v : V), d.canLay0 = true → Da K H v d → Dp K H v d
  | .none, _, _, h => by cases h; exact .non
  | .bool b, _, _, h => by cases h; exact .bl b
  | .int i, _, _, h => by cases h; exact .int i
  | .str x, _, _, h => by cases h; exact .str x
  | .list ds, _, c, h => by
    cases h with
    | lst hs ha => exact .lst (Or.inl (Or.inl hs)) (da_dpa ds _ (by simpa [PyData.canLay0] using c) ha)
  | .tuple ds, _, c, h => by
    cases h with
    | tup hs ha => exact .tup hs (da_dpa ds _ (by simpa [PyData.canLay0] using c) ha)
  | .dict _, _, c, _ => by simp [PyData.canLay0] at c
theorem da_dpa {K : PySem.W.Frag} {H : Hp} : ∀ (ds : List D) (vs : List V), PyData.canLayAll0 ds = true → DaAll K H vs ds → DpAll K H vs ds
  | [], _, _, h => by cases h; exact .nil
  | d :: ds, _, c, h => by
    have c' : d.canLay0 = true ∧ PyData.canLayAll0 ds = true := by simpa [PyData.canLayAll0] using c
    cases h with
    | cons h1 h2 => exact .cons (da_dp d _ c'.1 h1) (da_dpa ds _ c'.2 h2)
end

/-! ### the frozen part F of the heap H, growing -/
structure Grow (F H F' H' : Hp) : Prop where
  f : Ex F F'
  h : Ex H H'
  in_ : Ex F' H'
  new : ∀ p o, F' p = some o → F p = none → H p = none
section
variable {K : PySem.W.Frag} {F H F' H' F2 H2 : Hp} {p : Addr} {o : HO}
theorem Grow.refl (e : Ex F H) : Grow F H F H := ⟨.refl F, .refl H, e, fun _ _ a b => by rw [a] at b; cases b⟩
theorem Grow.trans (a : Grow F H F' H') (b : Grow F' H' F2 H2) : Grow F H F2 H2 := ⟨a.f.trans b.f, a.h.trans b.h, b.in_, fun p o e n => by
  cases q : F' p with
  | some u => exact a.new p u q n
  | none =>
    have z := b.new p o e q
    cases y : H p with
    | none => rfl
    | some w => rw [a.h p w y] at z; cases z⟩
/-- a new object, frozen at once -/
theorem Grow.made (e : Ex F H) (hp : H p = none) : Grow F H (upd F p o) (upd H p o) := by
  have fp : F p = none := Evl.fresh_back e hp
  refine ⟨Ex.new fp, Ex.new hp, fun a u q => ?_, fun a u q n => ?_⟩
  · by_cases z : a = p
    · subst z; rw [upd_same] at q ⊢; exact q
    · rw [upd_ne z] at q ⊢; exact e a u q
  · by_cases z : a = p
    · subst z; exact hp
    · rw [upd_ne z] at q; rw [q] at n; cases n
/-- a new object, not frozen -/
theorem Grow.held (e : Ex F H) (hp : H p = none) : Grow F H F (upd H p o) := by
  refine ⟨.refl F, Ex.new hp, e.trans (Ex.new hp), fun a u q n => by rw [q] at n; cases n⟩
theorem Grow.freeze (e : Ex F H) (hp : H p = some o) (fp : F p = none) : Ex F (upd F p o) ∧ Ex (upd F p o) H := by
  refine ⟨Ex.new fp, fun a u q => ?_⟩
  by_cases z : a = p
  · subst z; rw [upd_same] at q; rw [hp]; exact q
  · rw [upd_ne z] at q; exact e a u q
end

/-! ### slots -/
inductive SV where
  | no
  | val (d : D)
  | own (ds : List D)
  | dic (ks : List (Key × D))
abbrev Env := List SV

structure Rep (K : PySem.W.Frag) (F0 H0 F H : Hp) (ρ : Env) (σ : L2.St) : Prop where
  g : Grow F0 H0 F H
  len : ρ.length = σ.length
  val : ∀ (i : Nat) d, ρ[i]? = some (.val d) → ∃ v, σ[i]? = some (some v) ∧ Da K F v d
  own : ∀ (i : Nat) ds, ρ[i]? = some (.own ds) → ∃ p vs, σ[i]? = some (some (.ref p)) ∧ H0 p = none ∧ F p = none ∧ H p = some (.lst vs) ∧ DaAll K F vs ds
  inj : ∀ (i j : Nat) ds es p, i ≠ j → ρ[i]? = some (.own ds) → ρ[j]? = some (.own es) → σ[i]? = some (some (.ref p)) → σ[j]? = some (some (.ref p)) → False
  dic : ∀ (i : Nat) ks, ρ[i]? = some (.dic ks) → ∃ p kvs, σ[i]? = some (some (.ref p)) ∧ H0 p = none ∧ F p = none ∧ H p = some (.dK kvs) ∧ DKs K F kvs ks
  injd : ∀ (i j : Nat) ds es p, i ≠ j → ρ[i]? = some (.dic ds) → ρ[j]? = some (.dic es) → σ[i]? = some (some (.ref p)) → σ[j]? = some (some (.ref p)) → False

/-- a value read where it may be a list of the frame's own -/
inductive Bw (K : PySem.W.Frag) (F H : Hp) : V → D → Prop
  | fr {v : V} {d : D} (h : Da K F v d) : Bw K F H v d
  | ow {p : Addr} {vs : List V} {ds : List D} (h : H p = some (.lst vs)) (n : F p = none) (a : DaAll K F vs ds) : Bw K F H (.ref p) (.list ds)
  | od {p : Addr} {kvs : List (Key × V)} {ks : List (Key × D)} {rs : List (D × D)} (h : H p = some (.dK kvs)) (n : F p = none) (a : DKs K F kvs ks) (q : rs = (.none, .none) :: ks.map (fun q => (kD q.1, q.2))) : Bw K F H (.ref p) (.dict rs)
section
variable {K : PySem.W.Frag} {F0 H0 F H F' H' : Hp} {ρ : Env} {σ : L2.St} {v : V} {d : D} {ds : List D}
theorem Rep.grow (r : Rep K F0 H0 F H ρ σ) (g : Grow F H F' H') : Rep K F0 H0 F' H' ρ σ := by
  refine ⟨r.g.trans g, r.len, fun i d e => ?_, fun i ds e => ?_, r.inj, fun i ds e => ?_, r.injd⟩
  · obtain ⟨v, e1, e2⟩ := r.val i d e
    exact ⟨v, e1, e2.up g.f⟩
  · obtain ⟨p, vs, e1, e2, e3, e4, e5⟩ := r.own i ds e
    refine ⟨p, vs, e1, e2, ?_, g.h _ _ e4, e5.up g.f⟩
    cases q : F' p with
    | none => rfl
    | some o =>
      have z := g.new p o q e3
      rw [e4] at z; cases z
  · obtain ⟨p, vs, e1, e2, e3, e4, e5⟩ := r.dic i ds e
    refine ⟨p, vs, e1, e2, ?_, g.h _ _ e4, e5.up g.f⟩
    cases q : F' p with
    | none => rfl
    | some o =>
      have z := g.new p o q e3
      rw [e4] at z; cases z
theorem Bw.grow (b : Bw K F H v d) (g : Grow F H F' H') : Bw K F' H' v d := by
  cases b with
  | fr h => exact .fr (h.up g.f)
  | ow h n a =>
    refine .ow (g.h _ _ h) ?_ (a.up g.f)
    rename_i p vs ds
    cases q : F' p with
    | none => rfl
    | some o =>
      have z := g.new p o q n
      rw [h] at z; cases z
  | od h n a q0 =>
    refine .od (g.h _ _ h) ?_ (a.up g.f) q0
    rename_i p kvs ks rs
    cases q : F' p with
    | none => rfl
    | some o =>
      have z := g.new p o q n
      rw [h] at z; cases z
theorem Bw.da (b : Bw K F H v d) (e : Ex F H) : Da K H v d := by
  cases b with
  | fr h => exact h.up e
  | ow h n a => exact .lst h (a.up e)
  | od h n a q => exact .dct h (a.up e) q
/-- a list, its items frozen -/
theorem Bw.list (b : Bw K F H v (.list ds)) (e : Ex F H) : ∃ p vs, v = .ref p ∧ H p = some (.lst vs) ∧ DaAll K F vs ds := by
  cases b with
  | fr h =>
    cases h with
    | lst h1 h2 => exact ⟨_, _, rfl, e _ _ h1, h2⟩
  | ow h n a => exact ⟨_, _, rfl, h, a⟩
theorem Bw.tuple (b : Bw K F H v (.tuple ds)) (e : Ex F H) : ∃ p vs, v = .ref p ∧ SqT K H p vs ∧ DaAll K F vs ds := by
  cases b with
  | fr h =>
    cases h with
    | tup h1 h2 => exact ⟨_, _, rfl, ex_t e h1, h2⟩
theorem Bw.int {i : Int} (b : Bw K F H v (.int i)) : v = .int i := by
  cases b with
  | fr h => cases h; rfl
theorem Bw.bool {i : Bool} (b : Bw K F H v (.bool i)) : v = .bl i := by
  cases b with
  | fr h => cases h; rfl
theorem Bw.str {i : Str} (b : Bw K F H v (.str i)) : v = .str i := by
  cases b with
  | fr h => cases h; rfl
theorem Bw.none (b : Bw K F H v .none) : v = .non := by
  cases b with
  | fr h => cases h; rfl
theorem DaAll.bw (a : DaAll K F [v] [d]) : Bw K F H v d := by
  cases a with
  | cons h _ => exact .fr h
end

/-! ### results -/
structure Exc where
  cls : Str
  args : List (Str × D)
inductive R (α : Type) where
  | ok (a : α)
  | exc (x : Exc)
  | bad
inductive Out where
  | nx (ρ : Env)
  | rt (d : D)
  | ex (x : Exc) (ρ : Env)
  | bk (ρ : Env)
  | ct (ρ : Env)
  | bad
@[inline] def R.bind {α β : Type} (r : R α) (f : α → R β) : R β := match r with
  | .ok a => f a
  | .exc x => .exc x
  | .bad => .bad
instance : Monad R where
  pure := .ok
  bind := R.bind

/-- an exception's class and fields on the heap -/
def XRep (K : PySem.W.Frag) (mg : Str → Option Value) (F : Hp) (x : Exc) (cls : Value) (dd : Option Addr) : Prop :=
  ∃ C, mg x.cls = some (.ref C) ∧ cls = .ref C ∧ ((x.args = [] ∧ dd = none) ∨ ∃ (dx : Addr) (fs : List (Str × V)), x.args ≠ [] ∧ dd = some dx ∧ F dx = some (.xd fs) ∧ fs.map (·.1) = x.args.map (·.1) ∧ DaAll K F (fs.map (·.2)) (x.args.map (·.2)))
theorem XRep.up {K : PySem.W.Frag} {mg : Str → Option Value} {F F' : Hp} {x : Exc} {cls : Value} {dd : Option Addr} (h : XRep K mg F x cls dd) (e : Ex F F') : XRep K mg F' x cls dd := by
  obtain ⟨C, h1, h2, h3⟩ := h
  refine ⟨C, h1, h2, ?_⟩
  rcases h3 with h3 | ⟨dx, fs, n, a, b, c, d⟩
  · exact .inl h3
  · exact .inr ⟨dx, fs, n, a, e _ _ b, c, d.up e⟩

/-- what is asked of a result -/
def ROk {α : Type} (K : PySem.W.Frag) (mg : Str → Option Value) (W : XK) (F H : Hp) (P : α → Hp → Hp → Prop) : R α → Prop
  | .ok a => ∀ F' H', Grow F H F' H' → P a F' H'
  | .exc x => ∀ cls dd F' H', Grow F H F' H' → XRep K mg F' x cls dd → W cls dd H'
  | .bad => False
section
variable {α β : Type} {K : PySem.W.Frag} {mg : Str → Option Value} {W : XK} {F H F' H' : Hp}
theorem ROk.grow {P : α → Hp → Hp → Prop} {r : R α} (h : ROk K mg W F H P r) (g : Grow F H F' H') : ROk K mg W F' H' P r := by
  cases r with
  | ok a => exact fun F2 H2 g2 => h F2 H2 (g.trans g2)
  | exc x => exact fun cls dd F2 H2 g2 q => h cls dd F2 H2 (g.trans g2) q
  | bad => exact h
/-- the first of two -/
theorem ROk.step {P : β → Hp → Hp → Prop} {r : R α} {f : α → R β} (h : ROk K mg W F H P (r.bind f)) : ROk K mg W F H (fun a F' H' => ROk K mg W F' H' P (f a)) r := by
  cases r with
  | ok a => exact fun F2 H2 g2 => ROk.grow (r := f a) h g2
  | exc x => exact h
  | bad => exact h
theorem ROk.imp {P P' : α → Hp → Hp → Prop} {r : R α} (h : ROk K mg W F H P r) (q : ∀ a F' H', r = .ok a → Grow F H F' H' → P a F' H' → P' a F' H') : ROk K mg W F H P' r := by
  cases r with
  | ok a => exact fun F2 H2 g2 => q a F2 H2 rfl g2 (h F2 H2 g2)
  | exc x => exact h
  | bad => exact h
end
end DL

/-! DLb -/
namespace DL
open PySem L2 PySem.Spec PyProof.Rows
open Evl (Ex ex_l ex_t ex_rd)

inductive BwAll (K : PySem.W.Frag) (F H : Hp) : List V → List D → Prop
  | nil : BwAll K F H [] []
  | cons {v : V} {vs : List V} {d : D} {ds : List D} : Bw K F H v d → BwAll K F H vs ds → BwAll K F H (v :: vs) (d :: ds)

/-! ### readings by data -/
def tE (K : PySem.W.Frag) (mg : Str → Option Value) (W : WX) (f : Env → R D) : TE := fun σ H Q => ∃ F0 H0 F ρ, Rep K F0 H0 F H ρ σ ∧ ROk K mg (fun c d H' => W c d σ H') F H (fun a F' H' => ∀ v, Da K F' v a → Q v H') (f ρ)
def tB (K : PySem.W.Frag) (mg : Str → Option Value) (W : WX) (f : Env → R D) : TE := fun σ H Q => ∃ F0 H0 F ρ, Rep K F0 H0 F H ρ σ ∧ ROk K mg (fun c d H' => W c d σ H') F H (fun a F' H' => ∀ v, Bw K F' H' v a → Q v H') (f ρ)
/-- a new list, nobody's yet -/
def tN (K : PySem.W.Frag) (mg : Str → Option Value) (W : WX) (f : Env → R (List D)) : TE := fun σ H Q => ∃ F0 H0 F ρ, Rep K F0 H0 F H ρ σ ∧
  ROk K mg (fun c d H' => W c d σ H') F H (fun a F' H' => ∀ p vs, H p = none → F' p = none → H' p = some (.lst vs) → DaAll K F' vs a → Q (.ref p) H') (f ρ)
def tD (K : PySem.W.Frag) (mg : Str → Option Value) (W : WX) (f : Env → R Bool) : TT := fun σ H Q => ∃ F0 H0 F ρ, Rep K F0 H0 F H ρ σ ∧ ROk K mg (fun c d H' => W c d σ H') F H (fun b F' H' => Q b H') (f ρ)
def tAD (K : PySem.W.Frag) (mg : Str → Option Value) (W : WX) (f : Env → R (List D)) : TA := fun σ H Q => ∃ F0 H0 F ρ, Rep K F0 H0 F H ρ σ ∧ ROk K mg (fun c d H' => W c d σ H') F H (fun a F' H' => ∀ vs, DaAll K F' vs a → Q vs H') (f ρ)
def tAB (K : PySem.W.Frag) (mg : Str → Option Value) (W : WX) (f : Env → R (List D)) : TA := fun σ H Q => ∃ F0 H0 F ρ, Rep K F0 H0 F H ρ σ ∧ ROk K mg (fun c d H' => W c d σ H') F H (fun a F' H' => ∀ vs, BwAll K F' H' vs a → Q vs H') (f ρ)

structure DE (X : Cx) (W : WX) (e : Expr) (f : Env → R D) : Prop where
  pe : PE X e (tE X.K X.mg W f)
structure DB (X : Cx) (W : WX) (e : Expr) (f : Env → R D) : Prop where
  pe : PE X e (tB X.K X.mg W f)
structure DN (X : Cx) (W : WX) (e : Expr) (f : Env → R (List D)) : Prop where
  pe : PE X e (tN X.K X.mg W f)
structure DT (X : Cx) (W : WX) (e : Expr) (f : Env → R Bool) : Prop where
  pt : PT X e (tD X.K X.mg W f)
structure DW (X : Cx) (W : WX) (e : Expr) (f : Env → R Bool) : Prop where
  pw : PW X e (tD X.K X.mg W f)
structure DA (X : Cx) (W : WX) (es : List Expr) (f : Env → R (List D)) : Prop where
  pa : PA X es (tAD X.K X.mg W f)
structure DAB (X : Cx) (W : WX) (es : List Expr) (f : Env → R (List D)) : Prop where
  pa : PA X es (tAB X.K X.mg W f)

section
variable {X : Cx} {W : WX} {e e1 e2 e3 : Expr} {es : List Expr} {pos : Pos} {f g h : Env → R D}
theorem pe_imp {t t' : TE} (q : PE X e t) (i : ∀ σ H Q, t' σ H Q → t σ H Q) : PE X e t' := ⟨fun pins s σ H Q I z => q.run pins s σ H Q I (i σ H Q z)⟩
theorem pt_imp {t t' : TT} (q : PT X e t) (i : ∀ σ H Q, t' σ H Q → t σ H Q) : PT X e t' := ⟨fun pins s σ H Q I z => q.run pins s σ H Q I (i σ H Q z)⟩
theorem pw_imp {t t' : TT} (q : PW X e t) (i : ∀ σ H Q, t' σ H Q → t σ H Q) : PW X e t' := ⟨fun whole pins s σ H Q I z => q.run whole pins s σ H Q I (i σ H Q z)⟩
theorem pa_imp {t t' : TA} (q : PA X es t) (i : ∀ σ H Q, t' σ H Q → t σ H Q) : PA X es t' := ⟨fun p pins s σ H Q I z => q.run p pins s σ H Q I (i σ H Q z)⟩
theorem ps_imp {st : Stmt} {t t' : TS} (q : PS X st t) (i : ∀ D σ H, t' D σ H → t D σ H) : PS X st t' := ⟨fun pins s σ H D I z => q.run pins s σ H D I (i D σ H z)⟩
theorem pss_imp {st : List Stmt} {t t' : TS} (q : PSs X st t) (i : ∀ D σ H, t' D σ H → t D σ H) : PSs X st t' := ⟨fun pins s σ H D I z => q.run pins s σ H D I (i D σ H z)⟩

/-- frozen is borrowed -/
theorem DE.bor (q : DE X W e f) : DB X W e f := ⟨pe_imp q.pe fun σ H Q ⟨F0, H0, F, ρ, r, k⟩ => ⟨F0, H0, F, ρ, r, k.imp fun a F' H' _ _ z v hv => z v (.fr hv)⟩⟩
/-- a new list, frozen -/
def asList (f : Env → R (List D)) : Env → R D := fun ρ => (f ρ).bind fun ds => .ok (.list ds)
theorem grow_lay {K : PySem.W.Frag} {F H F' H' : Hp} {p : Addr} {o : HO} (g : Grow F H F' H') (hp : H p = none) (fp : F' p = none) (h' : H' p = some o) : Grow F H (upd F' p o) H' := by
  have fz := Grow.freeze g.in_ h' fp
  refine ⟨g.f.trans fz.1, g.h, fz.2, fun a u q n => ?_⟩
  by_cases y : a = p
  · subst y; exact hp
  · rw [upd_ne y] at q; exact g.new a u q n
theorem DN.val {f : Env → R (List D)} (q : DN X W e f) : DE X W e (asList f) := ⟨pe_imp q.pe fun σ H Q ⟨F0, H0, F, ρ, r, k⟩ => ⟨F0, H0, F, ρ, r, by
  unfold asList at k
  cases hf : f ρ with
  | ok ds =>
    rw [hf] at k
    intro F' H' gr p vs hp fp h' ha
    have k : ∀ F2 H2, Grow F H F2 H2 → ∀ v, Da X.K F2 v (.list ds) → Q v H2 := k
    exact k _ _ (grow_lay (K := X.K) gr hp fp h') (.ref p) (.lst upd_same (ha.up (Grow.freeze gr.in_ h' fp).1))
  | exc x => rw [hf] at k; exact k
  | bad => rw [hf] at k; exact k⟩⟩

/-! ### two in a row -/
theorem two {K : PySem.W.Frag} {mg : Str → Option Value} {σ : L2.St} {F0 H0 F H : Hp} {ρ : Env} {α : Type} {P : α → Hp → Hp → Prop} {k : D → D → R α} {T : V → V → Hp → Prop} (r : Rep K F0 H0 F H ρ σ)
    (q : ROk K mg (fun c d H' => W c d σ H') F H P ((f ρ).bind fun x => (g ρ).bind fun y => k x y))
    (hT : ∀ F' H' x y a b, Grow F H F' H' → Bw K F' H' x a → Bw K F' H' y b → ROk K mg (fun c d H' => W c d σ H') F' H' P (k a b) → T x y H') :
    tB K mg W f σ H fun x H1 => tB K mg W g σ H1 fun y H2 => T x y H2 :=
  ⟨F0, H0, F, ρ, r, (ROk.step q).imp fun a F1 H1 _ g1 q1 x hx => ⟨F0, H0, F1, ρ, r.grow g1, (ROk.step q1).imp fun b F2 H2 _ g2 q2 y hy => hT F2 H2 x y a b (g1.trans g2) (hx.grow g2) hy q2⟩⟩
theorem one {K : PySem.W.Frag} {mg : Str → Option Value} {σ : L2.St} {F0 H0 F H : Hp} {ρ : Env} {α : Type} {P : α → Hp → Hp → Prop} {k : D → R α} {T : V → Hp → Prop} (r : Rep K F0 H0 F H ρ σ)
    (q : ROk K mg (fun c d H' => W c d σ H') F H P ((f ρ).bind fun x => k x))
    (hT : ∀ F' H' x a, Grow F H F' H' → Bw K F' H' x a → ROk K mg (fun c d H' => W c d σ H') F' H' P (k a) → T x H') : tB K mg W f σ H T :=
  ⟨F0, H0, F, ρ, r, (ROk.step q).imp fun a F1 H1 _ g1 q1 x hx => hT F1 H1 x a g1 hx q1⟩

def ofO {α : Type} : Option α → R α
  | some a => .ok a
  | none => .bad
theorem ROk.ofO {α : Type} {K : PySem.W.Frag} {mg : Str → Option Value} {W : XK} {F H : Hp} {P : α → Hp → Hp → Prop} {o : Option α} (h : ROk K mg W F H P (DL.ofO o)) : ∃ a, o = some a ∧ ∀ F' H', Grow F H F' H' → P a F' H' := by
  cases o with
  | some a => exact ⟨a, rfl, h⟩
  | none => exact h.elim

/-! ### names, constants -/
def cVar (i : Nat) : Env → R D := fun ρ => match ρ[i]? with
  | some (.val d) => .ok d
  | _ => .bad
def cBor (i : Nat) : Env → R D := fun ρ => match ρ[i]? with
  | some (.val d) => .ok d
  | some (.own ds) => .ok (.list ds)
  | some (.dic ks) => .ok (dcD ks)
  | _ => .bad
def cC (d : D) : Env → R D := fun _ => .ok d
theorem de_var (i : Nat) {x : Str} (hN : X.N[i]? = some x := by rfl) (hv : Vis X.env.scope x := by first | exact Or.inl rfl | exact Or.inr (Or.inl rfl) | exact Or.inr (Or.inr rfl)) (hd : (x == ("__debug__" : Str)) = false := by decide)
    (hcd : (x == ("__classdict__" : Str)) = false := by decide) : DE X W (.Name x pos) (cVar i) := ⟨pe_imp (pe_var hN hv hd hcd) fun σ H Q ⟨F0, H0, F, ρ, r, k⟩ => by
  unfold cVar at k
  split at k
  · rename_i d e
    obtain ⟨v, e1, e2⟩ := r.val i d e
    exact ⟨v, e1, k F H (.refl r.g.in_) v e2⟩
  · exact k.elim⟩
theorem db_var (i : Nat) {x : Str} (hN : X.N[i]? = some x := by rfl) (hv : Vis X.env.scope x := by first | exact Or.inl rfl | exact Or.inr (Or.inl rfl) | exact Or.inr (Or.inr rfl)) (hd : (x == ("__debug__" : Str)) = false := by decide)
    (hcd : (x == ("__classdict__" : Str)) = false := by decide) : DB X W (.Name x pos) (cBor i) := ⟨pe_imp (pe_var hN hv hd hcd) fun σ H Q ⟨F0, H0, F, ρ, r, k⟩ => by
  unfold cBor at k
  split at k
  · rename_i d e
    obtain ⟨v, e1, e2⟩ := r.val i d e
    exact ⟨v, e1, k F H (.refl r.g.in_) v (.fr e2)⟩
  · rename_i ds e
    obtain ⟨p, vs, e1, e2, e3, e4, e5⟩ := r.own i ds e
    exact ⟨_, e1, k F H (.refl r.g.in_) _ (.ow e4 e3 e5)⟩
  · rename_i ks e
    obtain ⟨p, vs, e1, e2, e3, e4, e5⟩ := r.dic i ks e
    exact ⟨_, e1, k F H (.refl r.g.in_) _ (.od e4 e3 e5 rfl)⟩
  · exact k.elim⟩
theorem de_c {v : V} {d : D} (q : PE X e (tC v)) (hd : ∀ F, Da X.K F v d) : DE X W e (cC d) := ⟨pe_imp q fun σ H Q ⟨F0, H0, F, ρ, r, k⟩ => k F H (.refl r.g.in_) v (hd F)⟩
theorem de_int {i : Int} {j : Nat} : DE X W (.Constant (.int i) j pos) (cC (.int i)) := de_c pe_int fun _ => .int i
theorem de_bl {i : Bool} {j : Nat} : DE X W (.Constant (.bool i) j pos) (cC (.bool i)) := de_c pe_bl fun _ => .bl i
theorem de_non {j : Nat} : DE X W (.Constant .none j pos) (cC .none) := de_c pe_non fun _ => .non
theorem de_str {x : Str} {j : Nat} : DE X W (.Constant (.str x) j pos) (cC (.str x)) := de_c pe_str fun _ => .str x
theorem de_gint {x : Str} {i : Int} {t : Tok} (hg : Gl X x) (hm : X.mg x = some (.int i t)) (hd : (x == ("__debug__" : Str)) = false := by decide) : DE X W (.Name x pos) (cC (.int i)) := de_c (v := .int i) (pe_glob hg hm ⟨t, rfl⟩ hd) fun _ => .int i
theorem de_gstr {x : Str} {i : Str} {t : Tok} (hg : Gl X x) (hm : X.mg x = some (.str i t)) (hd : (x == ("__debug__" : Str)) = false := by decide) : DE X W (.Name x pos) (cC (.str i)) := de_c (v := .str i) (pe_glob hg hm ⟨t, rfl⟩ hd) fun _ => .str i

/-! ### operators -/
/-- a reading of an operation on values does what o says -/
def RdO (K : PySem.W.Frag) (r : R2) (o : D → D → Option D) : Prop := ∀ (F H : Hp) (x y : V) (a b c : D), Ex F H → Bw K F H x a → Bw K F H y b → o a b = some c → ∀ Q : VK, (∀ F' H', Grow F H F' H' → ∀ v, Da K F' v c → Q v H') → r x y H Q
def cOp (o : D → D → Option D) (f g : Env → R D) : Env → R D := fun ρ => (f ρ).bind fun a => (g ρ).bind fun b => ofO (o a b)
theorem de_op {op : Operator} {o : D → D → Option D} {r : R2} (ho : OpR X (binaryOp op) r) (hr : RdO X.K r o) (ha : DB X W e1 f) (hb : DB X W e2 g) : DE X W (.BinOp e1 op e2 pos) (cOp o f g) :=
  ⟨pe_imp (pe_op ho ha.pe hb.pe) fun σ H Q ⟨F0, H0, F, ρ, r', k⟩ => two (T := fun x y H2 => r x y H2 Q) r' k fun F' H' x y a b gr hx hy kk => by
    obtain ⟨c, e, q⟩ := kk.ofO
    exact hr F' H' x y a b c gr.in_ hx hy e Q fun F2 H2 g2 v hv => q F2 H2 g2 v hv⟩
theorem de_cmp {op : CmpOp} {o : D → D → Option D} {r : R2} (ho : OpR X (compareOp op) r) (hr : RdO X.K r o) (ha : DB X W e1 f) (hb : DB X W e2 g) (hm : behindInMarks op e2 = false) : DE X W (.Compare e1 [op] [e2] pos) (cOp o f g) :=
  ⟨pe_imp (pe_cmpR ho ha.pe hb.pe hm) fun σ H Q ⟨F0, H0, F, ρ, r', k⟩ => two (T := fun x y H2 => r x y H2 Q) r' k fun F' H' x y a b gr hx hy kk => by
    obtain ⟨c, e, q⟩ := kk.ofO
    exact hr F' H' x y a b c gr.in_ hx hy e Q fun F2 H2 g2 v hv => q F2 H2 g2 v hv⟩
theorem de_ix {o : D → D → Option D} {r : R2} (ho : IxR X r) (hr : RdO X.K r o) (ha : DB X W e1 f) (hb : DB X W e2 g) (hs : PlainIx e2 := by exact fun _ _ => rfl) : DE X W (.Subscript e1 e2 pos) (cOp o f g) :=
  ⟨pe_imp (pe_ix ho ha.pe hb.pe hs) fun σ H Q ⟨F0, H0, F, ρ, r', k⟩ => two (T := fun x y H2 => r x y H2 Q) r' k fun F' H' x y a b gr hx hy kk => by
    obtain ⟨c, e, q⟩ := kk.ofO
    exact hr F' H' x y a b c gr.in_ hx hy e Q fun F2 H2 g2 v hv => q F2 H2 g2 v hv⟩
/-- two rules for two disjoint parts -/
theorem RdO.or {K : PySem.W.Frag} {r r' : R2} {o o' o2 : D → D → Option D} (h : RdO K r o) (h' : RdO K r' o') (q : ∀ a b c, o2 a b = some c → o a b = some c ∨ o' a b = some c) : RdO K (fun x y H Q => r x y H Q ∨ r' x y H Q) o2 :=
  fun F H x y a b c e hx hy hc Q k => by
    rcases q a b c hc with z | z
    · exact .inl (h F H x y a b c e hx hy z Q k)
    · exact .inr (h' F H x y a b c e hx hy z Q k)

/-! ### tests -/
def truB : D → Option Bool
  | .bool b => some b
  | _ => none
theorem truB_some {a : D} {b : Bool} (h : truB a = some b) : a = .bool b := by
  cases a <;> simp [truB] at h
  subst h; rfl
def cTest (f : Env → R D) : Env → R Bool := fun ρ => (f ρ).bind fun a => ofO (truB a)
theorem test_ok {σ : L2.St} {H : Hp} {Q : Bool → Hp → Prop} {K : PySem.W.Frag} {mg : Str → Option Value} (q : tD K mg W (cTest f) σ H Q) : tE K mg W f σ H fun x H' => ∃ k, x = .bl k ∧ Q k H' := by
  obtain ⟨F0, H0, F, ρ, r, k⟩ := q
  refine ⟨F0, H0, F, ρ, r, (ROk.step (r := f ρ) k).imp fun a F' H' _ gr z v hv => ?_⟩
  obtain ⟨b, e, q⟩ := z.ofO
  have e' := truB_some e
  subst e'
  cases hv
  exact ⟨b, rfl, q F' H' (.refl gr.in_)⟩
/-- a value that is a bool, as a test -/
theorem dt_val (ha : DE X W e f) (he : ∀ whole, isTrue e X.env whole = (do let v ← whole; standAt e.pos; holding [v] (truthy v)) := by intro _; rfl) : DT X W e (cTest f) :=
  ⟨pt_imp (pt_val ha.pe he) fun σ H Q q => test_ok q⟩
theorem dt_cmp {op : CmpOp} {o : D → D → Option D} {r : R2} (ho : OpR X (compareOp op) r) (hr : RdO X.K r o) (ha : DB X W e1 f) (hb : DB X W e2 g) (hm : behindInMarks op e2 = false) : DT X W (.Compare e1 [op] [e2] pos) (cTest (cOp o f g)) :=
  ⟨pt_imp (pt_cmpR ho ha.pe hb.pe hm) fun σ H Q q => by
    obtain ⟨F0, H0, F, ρ, r', k⟩ := test_ok q
    exact two (T := fun x y H2 => r x y H2 fun x H' => ∃ k, x = .bl k ∧ Q k H') r' k fun F' H' x y a b gr hx hy kk => by
      obtain ⟨c, e, q⟩ := kk.ofO
      exact hr F' H' x y a b c gr.in_ hx hy e _ fun F2 H2 g2 v hv => q F2 H2 g2 v hv⟩
/-- a op b op' c: both comparisons give bools -/
def cChain (o o' : D → D → Option D) (f g h : Env → R D) : Env → R D := fun ρ => (f ρ).bind fun a => (g ρ).bind fun b => (ofO ((o a b).bind truB)).bind fun k => if k = true then (h ρ).bind fun c => ofO (o' b c) else .ok (.bool false)
theorem chain_ok {o o' : D → D → Option D} {r r' : R2} {σ : L2.St} {H : Hp} {Q : VK} {K : PySem.W.Frag} {mg : Str → Option Value} (hr : RdO K r o) (hr' : RdO K r' o') (q : tE K mg W (cChain o o' f g h) σ H Q) :
    tChain r r' (tB K mg W f) (tB K mg W g) (tB K mg W h) σ H Q := by
  obtain ⟨F0, H0, F, ρ, rp, k⟩ := q
  refine two (T := fun x y H2 => r x y H2 fun z H3 => ∃ k, z = .bl k ∧ (if k = true then tB K mg W h σ H3 fun w' H4 => r' y w' H4 Q else Q (.bl false) H3)) rp k fun F' H' x y a b gr hx hy kk => ?_
  have z := ROk.step kk
  obtain ⟨kb, e, q⟩ := z.ofO
  cases hc : o a b with
  | none => rw [hc] at e; cases e
  | some c =>
    rw [hc] at e
    have ec := truB_some (show truB c = some kb from e)
    subst ec
    refine hr F' H' x y a b _ gr.in_ hx hy hc _ fun F2 H2 g2 v hv => ?_
    cases hv
    refine ⟨kb, rfl, ?_⟩
    have q2 := q F2 H2 g2
    cases kb with
    | true =>
      rw [if_pos rfl] at q2 ⊢
      exact one ((rp.grow gr).grow g2) q2 fun F3 H3 w' d g3 hw k3 => by
        obtain ⟨c', e', q'⟩ := k3.ofO
        exact hr' F3 H3 y w' b d c' g3.in_ ((hy.grow g2).grow g3) hw e' Q fun F4 H4 g4 v hv => q' F4 H4 g4 v hv
    | false =>
      rw [if_neg Bool.false_ne_true] at q2 ⊢
      exact q2 F2 H2 (.refl g2.in_) _ (.bl false)
theorem de_chain {op op' : CmpOp} {o o' : D → D → Option D} {r r' : R2} (ho : OpR X (compareOp op) r) (hr : RdO X.K r o) (ho' : OpR X (compareOp op') r') (hr' : RdO X.K r' o') (ha : DB X W e1 f) (hb : DB X W e2 g) (hc : DB X W e3 h)
    (hm : lastMarks [op, op'] [e2, e3] = false := by with_unfolding_all rfl) : DE X W (.Compare e1 [op, op'] [e2, e3] pos) (cChain o o' f g h) :=
  ⟨pe_imp (pe_chain ho ho' ha.pe hb.pe hc.pe hm) fun σ H Q q => chain_ok hr hr' q⟩
theorem dt_chain {op op' : CmpOp} {o o' : D → D → Option D} {r r' : R2} (ho : OpR X (compareOp op) r) (hr : RdO X.K r o) (ho' : OpR X (compareOp op') r') (hr' : RdO X.K r' o') (ha : DB X W e1 f) (hb : DB X W e2 g) (hc : DB X W e3 h)
    (hm : lastMarks [op, op'] [e2, e3] = false := by with_unfolding_all rfl) : DT X W (.Compare e1 [op, op'] [e2, e3] pos) (cTest (cChain o o' f g h)) :=
  ⟨pt_imp (pt_chain ho ho' ha.pe hb.pe hc.pe hm) fun σ H Q q => chain_ok hr hr' (test_ok q)⟩

def cAnd (f g : Env → R Bool) : Env → R Bool := fun ρ => (f ρ).bind fun k => if k = true then g ρ else .ok false
def cOr (f g : Env → R Bool) : Env → R Bool := fun ρ => (f ρ).bind fun k => if k = true then .ok true else g ρ
def cNot (f : Env → R Bool) : Env → R Bool := fun ρ => (f ρ).bind fun k => .ok (!k)
theorem DW.dt {f : Env → R Bool} (q : DW X W e f) : DT X W e f := ⟨q.pw.pt⟩
theorem dw_and1 {f : Env → R Bool} (ha : DT X W e f) : DW X W (.BoolOp .And [e] pos) f := ⟨pw_and1 ha.pt⟩
theorem dw_or1 {f : Env → R Bool} (ha : DT X W e f) : DW X W (.BoolOp .Or [e] pos) f := ⟨pw_or1 ha.pt⟩
theorem dw_and {f g : Env → R Bool} (ha : DT X W e f) (hb : DW X W (.BoolOp .And (e1 :: es) pos) g) : DW X W (.BoolOp .And (e :: e1 :: es) pos) (cAnd f g) :=
  ⟨pw_imp (pw_and ha.pt hb.pw) fun σ H Q ⟨F0, H0, F, ρ, r, k⟩ => ⟨F0, H0, F, ρ, r, (ROk.step (r := f ρ) k).imp fun b F' H' _ gr z => by
    cases b with
    | true => exact ⟨F0, H0, F', ρ, r.grow gr, z⟩
    | false => exact z F' H' (.refl gr.in_)⟩⟩
theorem dw_or {f g : Env → R Bool} (ha : DT X W e f) (hb : DW X W (.BoolOp .Or (e1 :: es) pos) g) : DW X W (.BoolOp .Or (e :: e1 :: es) pos) (cOr f g) :=
  ⟨pw_imp (pw_or ha.pt hb.pw) fun σ H Q ⟨F0, H0, F, ρ, r, k⟩ => ⟨F0, H0, F, ρ, r, (ROk.step (r := f ρ) k).imp fun b F' H' _ gr z => by
    cases b with
    | true => exact z F' H' (.refl gr.in_)
    | false => exact ⟨F0, H0, F', ρ, r.grow gr, z⟩⟩⟩
theorem dt_not {f : Env → R Bool} (ha : DT X W e f) : DT X W (.UnaryOp .Not e pos) (cNot f) :=
  ⟨pt_imp (pt_not ha.pt) fun σ H Q ⟨F0, H0, F, ρ, r, k⟩ => ⟨F0, H0, F, ρ, r, (ROk.step (r := f ρ) k).imp fun b F' H' _ gr z => z F' H' (.refl gr.in_)⟩⟩
/-! as values, the first a bool -/
def cAndV (f g : Env → R D) : Env → R D := fun ρ => (cTest f ρ).bind fun k => if k = true then g ρ else .ok (.bool false)
def cOrV (f g : Env → R D) : Env → R D := fun ρ => (cTest f ρ).bind fun k => if k = true then .ok (.bool true) else g ρ
def cNotV (f : Env → R D) : Env → R D := fun ρ => (cTest f ρ).bind fun k => .ok (.bool (!k))
theorem de_one {op : BoolOp} (ha : DE X W e f) : DE X W (.BoolOp op [e] pos) f := ⟨pe_one ha.pe⟩
theorem bool_step {α : Type} {K : PySem.W.Frag} {mg : Str → Option Value} {σ : L2.St} {F0 H0 F H : Hp} {ρ : Env} {P : α → Hp → Hp → Prop} {k : Bool → R α} {T : V → Hp → Prop} (r : Rep K F0 H0 F H ρ σ)
    (q : ROk K mg (fun c d H' => W c d σ H') F H P ((cTest f ρ).bind k)) (hT : ∀ F' H' b, Grow F H F' H' → ROk K mg (fun c d H' => W c d σ H') F' H' P (k b) → T (.bl b) H') : tE K mg W f σ H T := by
  have q1 := ROk.step q
  refine ⟨F0, H0, F, ρ, r, (ROk.step (r := f ρ) q1).imp fun a F' H' _ gr z v hv => ?_⟩
  obtain ⟨b, e, q⟩ := z.ofO
  have e' := truB_some e
  subst e'
  cases hv
  exact hT F' H' b gr (q F' H' (.refl gr.in_))
theorem de_and (ha : DE X W e f) (hb : DE X W (.BoolOp .And (e1 :: es) pos) g) : DE X W (.BoolOp .And (e :: e1 :: es) pos) (cAndV f g) :=
  ⟨pe_imp (pe_and ha.pe hb.pe) fun σ H Q ⟨F0, H0, F, ρ, r, k⟩ => bool_step r k fun F' H' b gr z => ⟨b, rfl, by
    cases b with
    | true => exact ⟨F0, H0, F', ρ, r.grow gr, z⟩
    | false => exact z F' H' (.refl gr.in_) _ (.bl false)⟩⟩
theorem de_or (ha : DE X W e f) (hb : DE X W (.BoolOp .Or (e1 :: es) pos) g) : DE X W (.BoolOp .Or (e :: e1 :: es) pos) (cOrV f g) :=
  ⟨pe_imp (pe_or ha.pe hb.pe) fun σ H Q ⟨F0, H0, F, ρ, r, k⟩ => bool_step r k fun F' H' b gr z => ⟨b, rfl, by
    cases b with
    | true => exact z F' H' (.refl gr.in_) _ (.bl true)
    | false => exact ⟨F0, H0, F', ρ, r.grow gr, z⟩⟩⟩
theorem de_not (ha : DE X W e f) : DE X W (.UnaryOp .Not e pos) (cNotV f) :=
  ⟨pe_imp (pe_not ha.pe) fun σ H Q ⟨F0, H0, F, ρ, r, k⟩ => bool_step r k fun F' H' b gr z => ⟨b, rfl, z F' H' (.refl gr.in_) _ (.bl (!b))⟩⟩
def cIf (t : Env → R Bool) (f g : Env → R D) : Env → R D := fun ρ => (t ρ).bind fun k => if k = true then f ρ else g ρ
theorem de_if {t : Env → R Bool} (hc : DT X W e t) (ha : DE X W e1 f) (hb : DE X W e2 g) : DE X W (.IfExp e e1 e2 pos) (cIf t f g) :=
  ⟨pe_imp (pe_ifExp hc.pt ha.pe hb.pe) fun σ H Q ⟨F0, H0, F, ρ, r, k⟩ => ⟨F0, H0, F, ρ, r, (ROk.step (r := t ρ) k).imp fun b F' H' _ gr z => by
    cases b with
    | true => exact ⟨F0, H0, F', ρ, r.grow gr, z⟩
    | false => exact ⟨F0, H0, F', ρ, r.grow gr, z⟩⟩⟩

/-! ### rows of expressions -/
def aNil : Env → R (List D) := fun _ => .ok []
def aCons (f : Env → R D) (g : Env → R (List D)) : Env → R (List D) := fun ρ => (f ρ).bind fun x => (g ρ).bind fun xs => .ok (x :: xs)
theorem da_nil : DA X W [] aNil := ⟨pa_imp pa_nil fun σ H Q ⟨F0, H0, F, ρ, r, k⟩ => k F H (.refl r.g.in_) [] .nil⟩
theorem da_cons {q : Env → R (List D)} (ha : DE X W e f) (hr : DA X W es q) (hs : starEach (e :: es) X.env = (false, eval e X.env) :: starEach es X.env := by rfl) : DA X W (e :: es) (aCons f q) :=
  ⟨pa_imp (pa_cons ha.pe hr.pa hs) fun σ H Q ⟨F0, H0, F, ρ, r, k⟩ => ⟨F0, H0, F, ρ, r, (ROk.step (r := f ρ) k).imp fun a F1 H1 _ g1 q1 v hv => ⟨F0, H0, F1, ρ, r.grow g1, (ROk.step (r := q ρ) q1).imp fun xs F2 H2 _ g2 q2 vs hvs =>
    q2 F2 H2 (.refl g2.in_) (v :: vs) (.cons (hv.up g2.f) hvs)⟩⟩⟩
theorem dab_nil : DAB X W [] aNil := ⟨pa_imp pa_nil fun σ H Q ⟨F0, H0, F, ρ, r, k⟩ => k F H (.refl r.g.in_) [] .nil⟩
theorem dab_cons {q : Env → R (List D)} (ha : DB X W e f) (hr : DAB X W es q) (hs : starEach (e :: es) X.env = (false, eval e X.env) :: starEach es X.env := by rfl) : DAB X W (e :: es) (aCons f q) :=
  ⟨pa_imp (pa_cons ha.pe hr.pa hs) fun σ H Q ⟨F0, H0, F, ρ, r, k⟩ => ⟨F0, H0, F, ρ, r, (ROk.step (r := f ρ) k).imp fun a F1 H1 _ g1 q1 v hv => ⟨F0, H0, F1, ρ, r.grow g1, (ROk.step (r := q ρ) q1).imp fun xs F2 H2 _ g2 q2 vs hvs =>
    q2 F2 H2 (.refl g2.in_) (v :: vs) (.cons (hv.grow g2) hvs)⟩⟩⟩
def cTup (q : Env → R (List D)) : Env → R D := fun ρ => (q ρ).bind fun ds => if ds.length ≤ 100000 then .ok (.tuple ds) else .bad
def cLst (q : Env → R (List D)) : Env → R (List D) := fun ρ => (q ρ).bind fun ds => if ds.length ≤ 100000 then .ok ds else .bad
theorem de_tup {q : Env → R (List D)} {k : Nat} (ha : DA X W es q) : DE X W (.Tuple es k pos) (cTup q) :=
  ⟨pe_imp (pe_tup ha.pa) fun σ H Q ⟨F0, H0, F, ρ, r, kk⟩ => ⟨F0, H0, F, ρ, r, (ROk.step (r := q ρ) kk).imp fun ds F1 H1 _ g1 q1 vs hv => by
    split at q1
    · rename_i hl
      have hl' := dpa_len hv
      exact ⟨Evl.sz_of (by omega), fun p hp => q1 _ _ (Grow.made g1.in_ hp) (.ref p) (.tup (Or.inl (Or.inl upd_same)) (hv.up (Ex.new (Evl.fresh_back g1.in_ hp))))⟩
    · exact q1.elim⟩⟩
theorem dn_lst {q : Env → R (List D)} (ha : DA X W es q) : DN X W (.List es pos) (cLst q) :=
  ⟨pe_imp (pe_lst ha.pa) fun σ H Q ⟨F0, H0, F, ρ, r, kk⟩ => ⟨F0, H0, F, ρ, r, by
    unfold cLst at kk
    cases hq : q ρ with
    | ok ds =>
      rw [hq] at kk
      intro F1 H1 g1 vs hv
      by_cases hl : ds.length ≤ 100000
      · have kk : ROk X.K X.mg (fun c d H' => W c d σ H') F H (fun a F' H' => ∀ p vs, H p = none → F' p = none → H' p = some (.lst vs) → DaAll X.K F' vs a → Q (.ref p) H') (if ds.length ≤ 100000 then .ok ds else .bad) := kk
        rw [if_pos hl] at kk
        have hl' := dpa_len hv
        exact ⟨Evl.sz_of (by omega), fun p hp => kk F1 _ (g1.trans (Grow.held g1.in_ hp)) p vs (Evl.fresh_back g1.h hp) (Evl.fresh_back g1.in_ hp) upd_same hv⟩
      · have kk : ROk X.K X.mg (fun c d H' => W c d σ H') F H (fun a F' H' => ∀ p vs, H p = none → F' p = none → H' p = some (.lst vs) → DaAll X.K F' vs a → Q (.ref p) H') (if ds.length ≤ 100000 then .ok ds else .bad) := kk
        rw [if_neg hl] at kk
        exact kk.elim
    | exc x => rw [hq] at kk; exact kk
    | bad => rw [hq] at kk; exact kk⟩⟩
end
end DL

/-! DLc -/
namespace DL
open PySem L2 PySem.Spec PyProof.Rows
open Evl (Ex ex_l ex_t ex_rd)

/-! ### operations on data -/
instance {i j : Int} : Decidable (CMul i j) := by unfold CMul; infer_instance
instance {i j : Int} : Decidable (CDivW i j) := by unfold CDivW; infer_instance
instance {i j : Int} : Decidable (CPow i j) := by unfold CPow; infer_instance
def oAdd : D → D → Option D
  | .int i, .int j => some (.int (i + j))
  | .str x, .str y => if x.length + y.length ≤ 100000 then some (.str (x ++ y)) else none
  | .tuple xs, .tuple ys => if xs.length + ys.length ≤ 100000 then some (.tuple (xs ++ ys)) else none
  | .list xs, .list ys => if xs.length + ys.length ≤ 100000 then some (.list (xs ++ ys)) else none
  | _, _ => none
def oSub : D → D → Option D
  | .int i, .int j => some (.int (i - j))
  | _, _ => none
def oMul : D → D → Option D
  | .int i, .int j => if CMul i j then some (.int (i * j)) else none
  | .list xs, .int j => if 0 ≤ j ∧ j ≤ 100000 ∧ xs.length * j.toNat ≤ 100000 then some (.list (List.replicate j.toNat xs).flatten) else none
  | .tuple xs, .int j => if xs ≠ [] ∧ 2 ≤ j ∧ j ≤ 1000 ∧ xs.length ≤ 1000 then some (.tuple (List.replicate j.toNat xs).flatten) else none
  | _, _ => none
def oMod : D → D → Option D
  | .int i, .int j => if 0 < j then some (.int (i % j)) else none
  | _, _ => none
def oDiv : D → D → Option D
  | .int i, .int j => if CDivW i j then some (.int (i / j)) else none
  | _, _ => none
def oPow : D → D → Option D
  | .int i, .int j => if CPow i j then some (.int (i ^ j.toNat)) else none
  | _, _ => none
def oLt : D → D → Option D
  | .int i, .int j => some (.bool (decide (i < j)))
  | .str x, .str y => some (.bool (decide (x.cps.toList < y.cps.toList)))
  | _, _ => none
def oLe : D → D → Option D
  | .int i, .int j => some (.bool (decide (i ≤ j)))
  | _, _ => none
def oGt : D → D → Option D
  | .int i, .int j => some (.bool (decide (j < i)))
  | _, _ => none
def oGe : D → D → Option D
  | .int i, .int j => some (.bool (decide (j ≤ i)))
  | _, _ => none
def oEq (a b : D) : Option D := if SeqAt.shaped a = true ∧ SeqAt.shaped b = true then some (.bool (PyData.eqv a b)) else none
def oNe (a b : D) : Option D := if SeqAt.shaped a = true ∧ SeqAt.shaped b = true then some (.bool (!PyData.eqv a b)) else none
def isNone : D → Bool
  | .none => true
  | _ => false
def oIs (a b : D) : Option D := if isNone b = true then some (.bool (isNone a)) else none
def oIsNot (a b : D) : Option D := if isNone b = true then some (.bool (!isNone a)) else none
def oIn : D → D → Option D
  | a, .list ds => if SeqAt.shaped a = true ∧ SeqAt.shaped (.list ds) = true then some (.bool (ds.any fun z => PyData.eqv z a)) else none
  | .str x, .str y => some (.bool (!(Builtin.Str.occurrences y x 0 y.length 1).isEmpty))
  | _, _ => none
def oNotIn : D → D → Option D
  | a, .list ds => if SeqAt.shaped a = true ∧ SeqAt.shaped (.list ds) = true then some (.bool (!ds.any fun z => PyData.eqv z a)) else none
  | .str x, .str y => some (.bool (!(!(Builtin.Str.occurrences y x 0 y.length 1).isEmpty)))
  | _, _ => none
def flatD : D → Bool
  | .none => true | .bool _ => true | .int _ => true | .str _ => true
  | _ => false
/-- in, of a tuple -/
def oInT : D → D → Option D
  | a, .tuple ds => if flatD a = true ∧ ds.all flatD = true then some (.bool (ds.any fun z => PyData.eqv z a)) else none
  | _, _ => none
def oNotInT : D → D → Option D
  | a, .tuple ds => if flatD a = true ∧ ds.all flatD = true then some (.bool (!ds.any fun z => PyData.eqv z a)) else none
  | _, _ => none
def oIx : D → D → Option D
  | .list xs, .int i => atI xs i
  | .tuple xs, .int i => atI xs i
  | .str z, .int i => if z.length ≤ 100000 then (atI z.cps.toList i).map fun c => .str ⟨#[c]⟩ else none
  | _, _ => none

section
variable {X : Cx} {K : PySem.W.Frag}
/-- a flat result needs no growth -/
theorem flat_q {K : PySem.W.Frag} {F H : Hp} {c : D} {v : V} {Q : VK} (e : Ex F H) (hv : Da K F v c) (k : ∀ F' H', Grow F H F' H' → ∀ v, Da K F' v c → Q v H') : Q v H := k F H (.refl e) v hv
theorem rd_intB {g : Int → Int → Bool} {o : D → D → Option D} (h : ∀ a b c, o a b = some c → ∃ i j, a = .int i ∧ b = .int j ∧ c = .bool (g i j)) : RdO K (rI0 fun i j => .bl (g i j)) o :=
  fun F H x y a b c e hx hy hc Q k => by
    obtain ⟨i, j, rfl, rfl, rfl⟩ := h a b c hc
    exact ⟨i, j, hx.int, hy.int, flat_q e (.bl _) k⟩
theorem rd_intI {g : Int → Int → Int} {C : Int → Int → Prop} {o : D → D → Option D} (h : ∀ a b c, o a b = some c → ∃ i j, a = .int i ∧ b = .int j ∧ C i j ∧ c = .int (g i j)) : RdO K (rI C fun i j => .int (g i j)) o :=
  fun F H x y a b c e hx hy hc Q k => by
    obtain ⟨i, j, rfl, rfl, h1, rfl⟩ := h a b c hc
    exact ⟨i, j, hx.int, hy.int, h1, flat_q e (.int _) k⟩
theorem rd_intI0 {g : Int → Int → Int} {o : D → D → Option D} (h : ∀ a b c, o a b = some c → ∃ i j, a = .int i ∧ b = .int j ∧ c = .int (g i j)) : RdO K (rI0 fun i j => .int (g i j)) o :=
  fun F H x y a b c e hx hy hc Q k => by
    obtain ⟨i, j, rfl, rfl, rfl⟩ := h a b c hc
    exact ⟨i, j, hx.int, hy.int, flat_q e (.int _) k⟩
theorem rd_sub : RdO K (rI0 fun i j => .int (i - j)) oSub := rd_intI0 fun a b c h => by
  cases a <;> cases b <;> simp [oSub] at h
  exact ⟨_, _, rfl, rfl, h.symm⟩
theorem rd_mod : RdO K (rI (fun _ j => 0 < j) fun i j => .int (i % j)) oMod := rd_intI fun a b c h => by
  cases a <;> cases b <;> simp [oMod] at h
  exact ⟨_, _, rfl, rfl, h.1, h.2.symm⟩
theorem rd_div : RdO K (rI CDivW fun i j => .int (i / j)) oDiv := rd_intI fun a b c h => by
  cases a <;> cases b <;> simp [oDiv] at h
  exact ⟨_, _, rfl, rfl, h.1, h.2.symm⟩
theorem rd_pow : RdO K (rI CPow fun i j => .int (i ^ j.toNat)) oPow := rd_intI fun a b c h => by
  cases a <;> cases b <;> simp [oPow] at h
  exact ⟨_, _, rfl, rfl, h.1, h.2.symm⟩
theorem rd_le : RdO K (rI0 fun i j => .bl (decide (i ≤ j))) oLe := rd_intB fun a b c h => by
  cases a <;> cases b <;> simp [oLe] at h
  exact ⟨_, _, rfl, rfl, h.symm⟩
theorem rd_gt : RdO K (rI0 fun i j => .bl (decide (j < i))) oGt := rd_intB fun a b c h => by
  cases a <;> cases b <;> simp [oGt] at h
  exact ⟨_, _, rfl, rfl, h.symm⟩
theorem rd_ge : RdO K (rI0 fun i j => .bl (decide (j ≤ i))) oGe := rd_intB fun a b c h => by
  cases a <;> cases b <;> simp [oGe] at h
  exact ⟨_, _, rfl, rfl, h.symm⟩
/-- +: ints, texts, tuples, lists -/
def rAddD (K : PySem.W.Frag) : R2 := fun x y H Q => (((rI0 fun i j => .int (i + j)) x y H Q ∨ (∃ i j, x = .str i ∧ y = .str j ∧ i.length + j.length ≤ sizeLine ∧ Q (.str (i ++ j)) H)) ∨ rCatA K x y H Q) ∨ rCat x y H Q
theorem op_addD : OpR X (binaryOp .Add) (rAddD X.K) := ((op_add.or op_add_str).or op_catA).or op_cat
theorem rd_add : RdO K (rAddD K) oAdd := fun F H x y a b c e hx hy hc Q k => by
  cases a <;> cases b <;> simp [oAdd] at hc
  · subst hc; exact .inl (.inl (.inl ⟨_, _, hx.int, hy.int, flat_q e (.int _) k⟩))
  · obtain ⟨h1, rfl⟩ := hc
    exact .inl (.inl (.inr ⟨_, _, hx.str, hy.str, Evl.sz_of h1, flat_q e (.str _) k⟩))
  · obtain ⟨h1, rfl⟩ := hc
    obtain ⟨p, vs, rfl, h2, h3⟩ := hx.list e
    obtain ⟨q, us, rfl, h4, h5⟩ := hy.list e
    have l1 := dpa_len h3
    have l2 := dpa_len h5
    exact .inr ⟨p, q, vs, us, rfl, rfl, h2, h4, Evl.sz_of (by omega), fun z hz => k _ _ (Grow.made e hz) _ (.lst upd_same (dpa_app (h3.up (Ex.new (Evl.fresh_back e hz))) (h5.up (Ex.new (Evl.fresh_back e hz)))))⟩
  · obtain ⟨h1, rfl⟩ := hc
    obtain ⟨p, vs, rfl, h2, h3⟩ := hx.tuple e
    obtain ⟨q, us, rfl, h4, h5⟩ := hy.tuple e
    have l1 := dpa_len h3
    have l2 := dpa_len h5
    refine .inl (.inr ⟨p, q, vs, us, rfl, rfl, h2, h4, Evl.sz_of (by omega), fun z => ?_, fun _ z => ?_, fun _ _ z hz => k _ _ (Grow.made e hz) _ (.tup (Or.inl (Or.inl upd_same)) (dpa_app (h3.up (Ex.new (Evl.fresh_back e hz))) (h5.up (Ex.new (Evl.fresh_back e hz)))))⟩)
    · subst z
      cases h3
      cases hy with
      | fr h => exact k F H (.refl e) _ h
    · subst z
      cases h5
      cases hx with
      | fr h => rw [List.append_nil] at k; exact k F H (.refl e) _ h
theorem rep_flat {F : Hp} {vs : List V} {ds : List D} (h : DaAll K F vs ds) : ∀ n : Nat, DaAll K F (List.replicate n vs).flatten (List.replicate n ds).flatten
  | 0 => by simp; exact .nil
  | n + 1 => by rw [List.replicate_succ, List.replicate_succ, List.flatten_cons, List.flatten_cons]; exact dpa_app h (rep_flat h n)
def rMulD (K : PySem.W.Frag) : R2 := fun x y H Q => ((rI CMul fun i j => .int (i * j)) x y H Q ∨ rRep x y H Q) ∨ rRepT K x y H Q
theorem op_mulD : OpR X (binaryOp .Mult) (rMulD X.K) := (op_mul.or op_rep).or op_repT
def oMul1 : D → D → Option D
  | .int i, .int j => if CMul i j then some (.int (i * j)) else none
  | .list xs, .int j => if 0 ≤ j ∧ j ≤ 100000 ∧ xs.length * j.toNat ≤ 100000 then some (.list (List.replicate j.toNat xs).flatten) else none
  | .tuple xs, .int j => if xs ≠ [] ∧ 2 ≤ j ∧ j ≤ 1000 ∧ xs.length ≤ 1000 then some (.tuple (List.replicate j.toNat xs).flatten) else none
  | _, _ => none
theorem rd_mul : RdO K (rMulD K) oMul1 := fun F H x y a b c e hx hy hc Q k => by
  cases a <;> cases b <;> simp only [oMul1] at hc <;> try (cases hc; done)
  · split at hc
    · rename_i h1
      cases hc
      exact .inl (.inl ⟨_, _, hx.int, hy.int, h1, flat_q e (.int _) k⟩)
    · cases hc
  · split at hc
    · rename_i h1
      cases hc
      obtain ⟨p, vs, rfl, h2, h3⟩ := hx.list e
      have l1 := dpa_len h3
      refine .inl (.inr ⟨p, _, vs, rfl, hy.int, h2, by omega, by omega, Evl.sz_of (by rw [l1]; exact h1.2.2), fun z hz => k _ _ (Grow.made e hz) _ (.lst upd_same (rep_flat (h3.up (Ex.new (Evl.fresh_back e hz))) _))⟩)
    · cases hc
  · split at hc
    · rename_i h1
      cases hc
      obtain ⟨p, vs, rfl, h2, h3⟩ := hx.tuple e
      have l1 := dpa_len h3
      refine .inr ⟨p, _, vs, rfl, hy.int, h2, ?_, by omega, by omega, by omega, fun z hz => k _ _ (Grow.made e hz) _ (.tup (Or.inl (Or.inl upd_same)) (rep_flat (h3.up (Ex.new (Evl.fresh_back e hz))) _))⟩
      intro z
      subst z
      cases h3
      exact h1.1 rfl
    · cases hc
/-- <: ints, texts -/
def rLtD : R2 := fun x y H Q => (rI0 fun i j => .bl (decide (i < j))) x y H Q ∨ (∃ i j, x = .str i ∧ y = .str j ∧ Q (.bl (decide (i.cps.toList < j.cps.toList))) H)
theorem op_ltD : OpR X (compareOp .Lt) rLtD := op_lt.or op_lt_str
theorem rd_lt : RdO K rLtD oLt := fun F H x y a b c e hx hy hc Q k => by
  cases a <;> cases b <;> simp only [oLt] at hc <;> try (cases hc; done)
  · cases hc; exact .inl ⟨_, _, hx.int, hy.int, flat_q e (.bl _) k⟩
  · cases hc; exact .inr ⟨_, _, hx.str, hy.str, flat_q e (.bl _) k⟩
theorem rd_eq : RdO K (rEqD K) oEq := fun F H x y a b c e hx hy hc Q k => by
  unfold oEq at hc
  split at hc
  · rename_i h
    cases hc
    exact ⟨a, b, da_dp _ _ (SeqAt.canLay_of_shaped h.1) (hx.da e), da_dp _ _ (SeqAt.canLay_of_shaped h.2) (hy.da e), h.1, h.2, flat_q e (.bl _) k⟩
  · cases hc
theorem rd_ne : RdO K (rNeD K) oNe := fun F H x y a b c e hx hy hc Q k => by
  unfold oNe at hc
  split at hc
  · rename_i h
    cases hc
    exact ⟨a, b, da_dp _ _ (SeqAt.canLay_of_shaped h.1) (hx.da e), da_dp _ _ (SeqAt.canLay_of_shaped h.2) (hy.da e), h.1, h.2, flat_q e (.bl _) k⟩
  · cases hc
theorem non_iff {F H : Hp} {x : V} {a : D} (h : Bw K F H x a) : decide (x = .non) = isNone a := by
  cases h with
  | fr h => cases h <;> simp [isNone]
  | ow => simp [isNone]
  | od => simp [isNone]
theorem isNone_eq {a : D} (h : isNone a = true) : a = .none := by cases a <;> simp [isNone] at h; rfl
theorem rd_is : RdO K (fun x y H Q => y = .non ∧ Q (.bl (decide (x = .non))) H) oIs := fun F H x y a b c e hx hy hc Q k => by
  unfold oIs at hc
  split at hc
  · rename_i h
    cases hc
    have hb := isNone_eq h
    subst hb
    refine ⟨hy.none, ?_⟩
    rw [non_iff hx]
    exact flat_q e (.bl _) k
  · cases hc
theorem rd_isnot : RdO K (fun x y H Q => y = .non ∧ Q (.bl (!decide (x = .non))) H) oIsNot := fun F H x y a b c e hx hy hc Q k => by
  unfold oIsNot at hc
  split at hc
  · rename_i h
    cases hc
    have hb := isNone_eq h
    subst hb
    refine ⟨hy.none, ?_⟩
    rw [non_iff hx]
    exact flat_q e (.bl _) k
  · cases hc
/-- in: lists of any data, texts -/
def rInDD (K : PySem.W.Frag) : R2 := fun x y H Q => rInD K x y H Q ∨ (∃ i j, x = .str i ∧ y = .str j ∧ Q (.bl (!(Builtin.Str.occurrences j i 0 j.length 1).isEmpty)) H)
theorem op_inDD (hu : X.A.units + 65 < cLine) : OpR X (compareOp .In) (rInDD X.K) := (op_inD hu).or op_in_str
theorem in_list {F H : Hp} {x y : V} {a : D} {ds : List D} (e : Ex F H) (hx : Bw K F H x a) (hy : Bw K F H y (.list ds)) (h1 : SeqAt.shaped a = true) (h2 : SeqAt.shaped (.list ds) = true) : Dp K H x a ∧ Dp K H y (.list ds) :=
  ⟨da_dp _ _ (SeqAt.canLay_of_shaped h1) (hx.da e), da_dp _ _ (SeqAt.canLay_of_shaped h2) (hy.da e)⟩
theorem oIn_cases {a b c : D} (h : oIn a b = some c) : (∃ ds, b = .list ds ∧ SeqAt.shaped a = true ∧ SeqAt.shaped (.list ds) = true ∧ c = .bool (ds.any fun z => PyData.eqv z a)) ∨
    ∃ x y, a = .str x ∧ b = .str y ∧ c = .bool (!(Builtin.Str.occurrences y x 0 y.length 1).isEmpty) := by
  unfold oIn at h
  split at h
  · split at h
    · rename_i ds z
      cases h
      exact .inl ⟨_, rfl, z.1, z.2, rfl⟩
    · cases h
  · cases h; exact .inr ⟨_, _, rfl, rfl, rfl⟩
  · cases h
theorem rd_in : RdO K (rInDD K) oIn := fun F H x y a b c e hx hy hc Q k => by
  rcases oIn_cases hc with ⟨ds, rfl, h1, h2, rfl⟩ | ⟨i, j, rfl, rfl, rfl⟩
  · obtain ⟨d1, d2⟩ := in_list e hx hy h1 h2
    exact .inl ⟨a, ds, d1, d2, h1, h2, flat_q e (.bl _) k⟩
  · exact .inr ⟨i, j, hx.str, hy.str, flat_q e (.bl _) k⟩
def rNotInDD (K : PySem.W.Frag) : R2 := fun x y H Q => rNotInD K x y H Q ∨ (∃ i j, x = .str i ∧ y = .str j ∧ Q (.bl (!(!(Builtin.Str.occurrences j i 0 j.length 1).isEmpty))) H)
theorem op_notinDD (hu : X.A.units + 65 < cLine) : OpR X (compareOp .NotIn) (rNotInDD X.K) := (op_notInD hu).or op_notin_str
theorem oNotIn_cases {a b c : D} (h : oNotIn a b = some c) : (∃ ds, b = .list ds ∧ SeqAt.shaped a = true ∧ SeqAt.shaped (.list ds) = true ∧ c = .bool (!ds.any fun z => PyData.eqv z a)) ∨
    ∃ x y, a = .str x ∧ b = .str y ∧ c = .bool (!(!(Builtin.Str.occurrences y x 0 y.length 1).isEmpty)) := by
  unfold oNotIn at h
  split at h
  · split at h
    · rename_i ds z
      cases h
      exact .inl ⟨_, rfl, z.1, z.2, rfl⟩
    · cases h
  · cases h; exact .inr ⟨_, _, rfl, rfl, rfl⟩
  · cases h
theorem rd_notin : RdO K (rNotInDD K) oNotIn := fun F H x y a b c e hx hy hc Q k => by
  rcases oNotIn_cases hc with ⟨ds, rfl, h1, h2, rfl⟩ | ⟨i, j, rfl, rfl, rfl⟩
  · obtain ⟨d1, d2⟩ := in_list e hx hy h1 h2
    exact .inl ⟨a, ds, d1, d2, h1, h2, flat_q e (.bl _) k⟩
  · exact .inr ⟨i, j, hx.str, hy.str, flat_q e (.bl _) k⟩
/-- in, of a tuple of flat things -/
theorem flat_v {F : Hp} {x : V} {a : D} (h : Da K F x a) (f : flatD a = true) : flatV x = true := by cases h <;> first | rfl | (simp [flatD] at f)
theorem flat_eq {F : Hp} {x y : V} {a b : D} (h : Da K F x a) (h' : Da K F y b) (f : flatD a = true) (f' : flatD b = true) : eqV x y = PyData.eqv a b := by
  cases h <;> first | (simp [flatD] at f; done) | (cases h' <;> first | (simp [flatD] at f'; done) | (simp only [eqV, PyData.eqv]))
theorem flat_all {F : Hp} {vs : List V} {ds : List D} (h : DaAll K F vs ds) (f : ds.all flatD = true) : vs.all flatV = true := by
  induction ds generalizing vs with
  | nil => cases h; rfl
  | cons d ds ih =>
    cases h with
    | cons h1 h2 =>
      simp only [List.all_cons, Bool.and_eq_true] at f ⊢
      exact ⟨flat_v h1 f.1, ih h2 f.2⟩
theorem flat_any {F : Hp} {x : V} {a : D} {vs : List V} {ds : List D} (h : Da K F x a) (fa : flatD a = true) (q : DaAll K F vs ds) (f : ds.all flatD = true) : inV x vs = ds.any fun z => PyData.eqv z a := by
  induction ds generalizing vs with
  | nil => cases q; rfl
  | cons d ds ih =>
    cases q with
    | cons h1 h2 =>
      simp only [List.all_cons, Bool.and_eq_true] at f
      have := ih h2 f.2
      unfold inV at this ⊢
      simp only [List.any_cons, this, flat_eq h1 h f.1 fa]
theorem flat_da {F H : Hp} {x : V} {a : D} (h : Bw K F H x a) (f : flatD a = true) : Da K F x a := by
  cases h with
  | fr h => exact h
  | ow => simp [flatD] at f
  | od => simp [flatD] at f
theorem rd_inT : RdO K (rIn K false) oInT := fun F H x y a b c e hx hy hc Q k => by
  cases b <;> simp only [oInT] at hc <;> try (cases hc; done)
  split at hc
  · rename_i z
    cases hc
    obtain ⟨p, vs, rfl, h2, h3⟩ := hy.tuple e
    have hx' := flat_da hx z.1
    refine ⟨p, vs, rfl, .inr h2, flat_v hx' z.1, flat_all h3 z.2, ?_⟩
    rw [flat_any hx' z.1 h3 z.2]
    exact flat_q e (.bl _) k
  · cases hc
theorem rd_notinT : RdO K (rIn K true) oNotInT := fun F H x y a b c e hx hy hc Q k => by
  cases b <;> simp only [oNotInT] at hc <;> try (cases hc; done)
  split at hc
  · rename_i z
    cases hc
    obtain ⟨p, vs, rfl, h2, h3⟩ := hy.tuple e
    have hx' := flat_da hx z.1
    refine ⟨p, vs, rfl, .inr h2, flat_v hx' z.1, flat_all h3 z.2, ?_⟩
    rw [flat_any hx' z.1 h3 z.2]
    exact flat_q e (.bl _) k
  · cases hc
/-- x[i] -/
theorem ixD : IxR X (rIx X.K) := ix_list.or (ix_tup.or ix_str)
theorem atI_da {F : Hp} {vs : List V} {ds : List D} {i : Int} {d : D} (h : DaAll K F vs ds) (e : atI ds i = some d) : ∃ v, atI vs i = some v ∧ Da K F v d := by
  unfold atI at e ⊢
  rw [dpa_len h]
  cases z : ixN ds.length i with
  | none => rw [z] at e; cases e
  | some j =>
    rw [z] at e
    obtain ⟨v, e1, e2⟩ := dpa_get h (show ds[j]? = some d from e)
    exact ⟨v, e1, e2⟩
theorem rd_ix : RdO K (rIx K) oIx := fun F H x y a b c e hx hy hc Q k => by
  cases a <;> cases b <;> simp only [oIx] at hc <;> try (cases hc; done)
  · split at hc
    · rename_i z
      obtain ⟨w, h1, h2⟩ := Option.map_eq_some_iff.mp hc
      subst h2
      exact .inr (.inr ⟨_, _, w, hx.str, hy.int, Evl.sz_of z, h1, flat_q e (.str _) k⟩)
    · cases hc
  · obtain ⟨p, vs, rfl, h2, h3⟩ := hx.list e
    obtain ⟨v, e1, e2⟩ := atI_da h3 hc
    exact .inl ⟨p, vs, _, v, rfl, hy.int, Or.inl (Or.inl h2), e1, k F H (.refl e) v e2⟩
  · obtain ⟨p, vs, rfl, h2, h3⟩ := hx.tuple e
    obtain ⟨v, e1, e2⟩ := atI_da h3 hc
    exact .inr (.inl ⟨p, vs, _, v, rfl, hy.int, h2, e1, k F H (.refl e) v e2⟩)
end

/-! ### slices -/
def intD : D → Option Int
  | .int i => some i
  | _ => none
theorem intD_some {a : D} {i : Int} (h : intD a = some i) : a = .int i := by
  cases a <;> simp [intD] at h
  subst h; rfl
def tOD (K : PySem.W.Frag) (mg : Str → Option Value) (W : WX) (f : Env → R (Option Int)) : TO := fun σ H Q => ∃ F0 H0 F ρ, Rep K F0 H0 F H ρ σ ∧ ROk K mg (fun c d H' => W c d σ H') F H (fun b F' H' => Q b H') (f ρ)
structure DO (X : Cx) (W : WX) (e : Option Expr) (f : Env → R (Option Int)) : Prop where
  po : PO X e (tOD X.K X.mg W f)
def pNone : Env → R (Option Int) := fun _ => .ok none
def pSome (f : Env → R D) : Env → R (Option Int) := fun ρ => (f ρ).bind fun a => (ofO (intD a)).bind fun i => .ok (some i)
def cut {α : Type} (xs : List α) (lo hi : Option Int) : List α := (xs.drop (HT.sIx xs.length 0 lo)).take (HT.sIx xs.length xs.length hi - HT.sIx xs.length 0 lo)
/-- a row of the script's, not of a dict -/
def isScr : List (D × D) → Bool
  | (.none, _) :: _ => false
  | _ => true
def oSl : D → Option Int → Option Int → Option D
  | .list xs, lo, hi => some (.list (cut xs lo hi))
  | .tuple xs, lo, hi => some (.tuple (cut xs lo hi))
  | .str z, lo, hi => if z.length ≤ 100000 then some (.str (cutS z lo hi)) else none
  | .dict kvs, lo, hi => if isScr kvs = true then some (.list (cut (kvs.map (fun p => p.1)) lo hi)) else none
  | _, _, _ => none
def cSl (f : Env → R D) (lo hi : Env → R (Option Int)) : Env → R D := fun ρ => (f ρ).bind fun a => (lo ρ).bind fun l => (hi ρ).bind fun h => ofO (oSl a l h)
section
variable {X : Cx} {W : WX} {e e1 e2 e3 : Expr} {lo hi : Option Expr} {es : List Expr} {pos p2 : Pos} {f g h : Env → R D} {fl fh : Env → R (Option Int)}
theorem do_none : DO X W none pNone := ⟨⟨fun pins s σ H Q I ⟨F0, H0, F, ρ, r, k⟩ => po_none.run pins s σ H Q I (k F H (.refl r.g.in_))⟩⟩
theorem do_some (ha : DE X W e f) : DO X W (some e) (pSome f) := ⟨⟨fun pins s σ H Q I ⟨F0, H0, F, ρ, r, k⟩ => (po_some ha.pe).run pins s σ H Q I ⟨F0, H0, F, ρ, r, (ROk.step (r := f ρ) k).imp fun a F' H' _ gr z v hv => by
  obtain ⟨i, e, q⟩ := (ROk.step z).ofO
  have e' := intD_some e
  subst e'
  cases hv
  exact ⟨i, rfl, q F' H' (.refl gr.in_) F' H' (.refl gr.in_)⟩⟩⟩⟩
theorem slD : SlR X (fun x lo hi H Q => (rSlL X.K x lo hi H Q ∨ rSlA X.K x lo hi H Q) ∨ rSlS x lo hi H Q) := (sl_list.or sl_tupA).or sl_str
theorem cut_da {K : PySem.W.Frag} {F : Hp} {vs : List V} {ds : List D} (h : DaAll K F vs ds) (lo hi : Option Int) : DaAll K F (cutV vs lo hi) (cut ds lo hi) := by
  unfold cut cutV
  rw [dpa_len h]
  exact dpa_take _ (dpa_drop _ h)
theorem fst_ints (ns : List Int) : (ns.map fun n => (PyData.int n, PyData.none)).map (fun p => p.1) = ns.map PyData.int := by simp
theorem bw_scr {K : PySem.W.Frag} {F H : Hp} {x : V} {kvs : List (D × D)} (e : Ex F H) (g : isScr kvs = true) (h : Bw K F H x (.dict kvs)) : ∃ (a : Addr) (ns : List Int), x = V.ref a ∧ SqL K H a (ns.map V.int) ∧ kvs.map (fun p => p.1) = ns.map PyData.int := by
  cases h with
  | fr h =>
    cases h with
    | scr hs => exact ⟨_, _, rfl, ex_l e hs, fst_ints _⟩
    | dct _ _ q => rw [q] at g; cases g
  | od _ _ _ q => rw [q] at g; cases g
theorem rd_sl {K : PySem.W.Frag} {F H : Hp} {x : V} {a c : D} {l u : Option Int} {Q : VK} (e : Ex F H) (hx : Bw K F H x a) (hc : oSl a l u = some c) (k : ∀ F' H', Grow F H F' H' → ∀ v, Da K F' v c → Q v H') :
    (rSlL K x l u H Q ∨ rSlA K x l u H Q) ∨ rSlS x l u H Q := by
  cases a <;> simp only [oSl] at hc <;> try (cases hc; done)
  · split at hc
    · rename_i z
      cases hc
      exact .inr ⟨_, hx.str, Evl.sz_of z, flat_q e (.str _) k⟩
    · cases hc
  · cases hc
    obtain ⟨p, vs, rfl, h2, h3⟩ := hx.list e
    exact .inl (.inl ⟨p, vs, rfl, Or.inl (Or.inl h2), fun z hz => k _ _ (Grow.made e hz) _ (.lst upd_same (cut_da (h3.up (Ex.new (Evl.fresh_back e hz))) _ _))⟩)
  · cases hc
    obtain ⟨p, vs, rfl, h2, h3⟩ := hx.tuple e
    refine .inl (.inr ⟨p, vs, rfl, h2, fun w => ?_, fun _ z hz => k _ _ (Grow.made e hz) _ (.tup (Or.inl (Or.inl upd_same)) (cut_da (h3.up (Ex.new (Evl.fresh_back e hz))) _ _))⟩)
    have el := dpa_len h3
    rename_i xs
    have ec : cut xs l u = xs := by
      unfold cut
      rw [← el, w.1, w.2, List.drop_zero, Nat.sub_zero, el]
      exact List.take_length
    rw [ec] at k
    cases hx with
    | fr h => exact k F H (.refl e) _ h
  · split at hc
    · rename_i z
      cases hc
      obtain ⟨p, ns, rfl, h2, h3⟩ := bw_scr e z hx
      rw [h3] at k
      exact .inl (.inl ⟨p, _, rfl, h2, fun z hz => k _ _ (Grow.made e hz) _ (.lst upd_same (cut_da dpa_ints _ _))⟩)
    · cases hc
theorem de_sl (ha : DB X W e f) (hl : DO X W lo fl) (hh : DO X W hi fh) : DE X W (.Subscript e (.Slice lo hi none p2) pos) (cSl f fl fh) :=
  ⟨pe_imp (pe_slice slD ha.pe hl.po hh.po) fun σ H Q ⟨F0, H0, F, ρ, r, k⟩ => ⟨F0, H0, F, ρ, r, (ROk.step (r := f ρ) k).imp fun a F1 H1 _ g1 q1 x hx =>
    ⟨F0, H0, F1, ρ, r.grow g1, (ROk.step (r := fl ρ) q1).imp fun l F2 H2 _ g2 q2 => ⟨F0, H0, F2, ρ, (r.grow g1).grow g2, (ROk.step (r := fh ρ) q2).imp fun u F3 H3 _ g3 q3 => by
      obtain ⟨c, e, q⟩ := q3.ofO
      exact rd_sl g3.in_ ((hx.grow g2).grow g3) e fun F4 H4 g4 v hv => q F4 H4 g4 v hv⟩⟩⟩⟩

/-! ### built-ins called by name -/
/-- a call's reading on borrowed values does what o says -/
def RdC (K : PySem.W.Frag) (r : List V → Hp → VK → Prop) (o : List D → Option D) : Prop := ∀ (F H : Hp) (xs : List V) (as : List D) (c : D), Ex F H → BwAll K F H xs as → o as = some c → ∀ Q : VK, (∀ F' H', Grow F H F' H' → ∀ v, Da K F' v c → Q v H') → r xs H Q
def cBt (o : List D → Option D) (q : Env → R (List D)) : Env → R D := fun ρ => (q ρ).bind fun as => ofO (o as)
theorem de_callB {id : String} {x : Str} {p : Pos} {r : List V → Hp → VK → Prop} {o : List D → Option D} {q : Env → R (List D)} (hr : RdC X.K r o) (hc : CallR X (.builtin id) r) (hg : Gl X x) (hm : X.mg x = none) (hv : bootBuiltins x = some (.builtin id)) (ha : DAB X W (e :: es) q)
    (hn : x ≠ "__name__" := by decide) (hdb : (x == ("__debug__" : Str)) = false := by decide) (he : starEach (e :: es) X.env = (false, eval e X.env) :: starEach es X.env := by rfl) (hpl : (backTo pos (starEach es X.env)).any (·.1) = false := by rfl) :
    DE X W (.Call (.Name x p) (e :: es) [] pos) (cBt o q) :=
  ⟨pe_imp (pe_callB hc hg hm hv ha.pa hn hdb he hpl) fun σ H Q ⟨F0, H0, F, ρ, rp, k⟩ => ⟨F0, H0, F, ρ, rp, (ROk.step (r := q ρ) k).imp fun as F1 H1 _ g1 q1 vs hvs => by
    obtain ⟨c, e, z⟩ := q1.ofO
    exact hr F1 H1 vs as c g1.in_ hvs e Q fun F2 H2 g2 v hv => z F2 H2 g2 v hv⟩⟩
theorem de_callTy {T : String} {x : Str} {p : Pos} {r : List V → Hp → VK → Prop} {o : List D → Option D} {q : Env → R (List D)} (hr : RdC X.K r o) (hc : CallR X (.type T) r) (hg : Gl X x) (hm : X.mg x = none) (hv : bootBuiltins x = some (.type T)) (ha : DAB X W (e :: es) q)
    (hn : x ≠ "__name__" := by decide) (hdb : (x == ("__debug__" : Str)) = false := by decide) (he : starEach (e :: es) X.env = (false, eval e X.env) :: starEach es X.env := by rfl) (hpl : (backTo pos (starEach es X.env)).any (·.1) = false := by rfl) :
    DE X W (.Call (.Name x p) (e :: es) [] pos) (cBt o q) :=
  ⟨pe_imp (pe_callTy hc hg hm hv ha.pa hn hdb he hpl) fun σ H Q ⟨F0, H0, F, ρ, rp, k⟩ => ⟨F0, H0, F, ρ, rp, (ROk.step (r := q ρ) k).imp fun as F1 H1 _ g1 q1 vs hvs => by
    obtain ⟨c, e, z⟩ := q1.ofO
    exact hr F1 H1 vs as c g1.in_ hvs e Q fun F2 H2 g2 v hv => z F2 H2 g2 v hv⟩⟩
end
section
variable {X : Cx} {K : PySem.W.Frag}
def bLen : List D → Option D
  | [.list xs] => some (.int xs.length)
  | [.tuple xs] => some (.int xs.length)
  | [.str z] => if z.length ≤ 100000 then some (.int z.length) else none
  | _ => none
theorem bw1 {F H : Hp} {xs : List V} {a : D} (h : BwAll K F H xs [a]) : ∃ x, xs = [x] ∧ Bw K F H x a := by
  cases h with
  | cons h1 h2 => cases h2; exact ⟨_, rfl, h1⟩
theorem bw2 {F H : Hp} {xs : List V} {a b : D} (h : BwAll K F H xs [a, b]) : ∃ x y, xs = [x, y] ∧ Bw K F H x a ∧ Bw K F H y b := by
  cases h with
  | cons h1 h2 =>
    cases h2 with
    | cons h3 h4 => cases h4; exact ⟨_, _, rfl, h1, h3⟩
theorem rc_len : RdC K (fun xs H Q => ∃ x n, xs = [x] ∧ LenV K x H n ∧ Q (.int n) H) bLen := fun F H xs as c e hx hc Q k => by
  unfold bLen at hc
  split at hc
  · cases hc
    obtain ⟨x, rfl, b⟩ := bw1 hx
    obtain ⟨p, vs, rfl, h2, h3⟩ := b.list e
    refine ⟨_, vs.length, rfl, .inl ⟨vs, Or.inl (Or.inl h2), rfl⟩, ?_⟩
    rw [dpa_len h3]
    exact flat_q e (.int _) k
  · cases hc
    obtain ⟨x, rfl, b⟩ := bw1 hx
    obtain ⟨p, vs, rfl, h2, h3⟩ := b.tuple e
    refine ⟨_, vs.length, rfl, .inr ⟨vs, h2, rfl⟩, ?_⟩
    rw [dpa_len h3]
    exact flat_q e (.int _) k
  · split at hc
    · rename_i z hz
      cases hc
      obtain ⟨x, rfl, b⟩ := bw1 hx
      exact ⟨x, z.length, rfl, by rw [b.str]; exact ⟨Evl.sz_of hz, rfl⟩, flat_q e (.int _) k⟩
    · cases hc
  · cases hc
def bAbs : List D → Option D
  | [.int i] => some (.int (if i < 0 then -i else i))
  | _ => none
theorem rc_abs : RdC K (fun xs H Q => ∃ i, xs = [.int i] ∧ Q (.int (if i < 0 then -i else i)) H) bAbs := fun F H xs as c e hx hc Q k => by
  unfold bAbs at hc
  split at hc
  · cases hc
    obtain ⟨x, rfl, b⟩ := bw1 hx
    exact ⟨_, by rw [b.int], flat_q e (.int _) k⟩
  · cases hc
def bMax2 : List D → Option D
  | [.int i, .int j] => some (.int (if j > i then j else i))
  | _ => none
theorem rc_max2 : RdC K (fun xs H Q => ∃ i j, xs = [.int i, .int j] ∧ Q (.int (if j > i then j else i)) H) bMax2 := fun F H xs as c e hx hc Q k => by
  unfold bMax2 at hc
  split at hc
  · cases hc
    obtain ⟨x, y, rfl, b, b'⟩ := bw2 hx
    exact ⟨_, _, by rw [b.int, b'.int], flat_q e (.int _) k⟩
  · cases hc
def bMin2 : List D → Option D
  | [.int i, .int j] => some (.int (if j < i then j else i))
  | _ => none
theorem rc_min2 : RdC K (fun xs H Q => ∃ i j, xs = [.int i, .int j] ∧ Q (.int (if j < i then j else i)) H) bMin2 := fun F H xs as c e hx hc Q k => by
  unfold bMin2 at hc
  split at hc
  · cases hc
    obtain ⟨x, y, rfl, b, b'⟩ := bw2 hx
    exact ⟨_, _, by rw [b.int, b'.int], flat_q e (.int _) k⟩
  · cases hc
def bInt : List D → Option D
  | [.int i] => some (.int i)
  | [.bool b] => some (.int (if b then 1 else 0))
  | [.str s] => if s.length ≤ 640 then (PySem.intText? s).map fun n => .int n else none
  | _ => none
theorem call_intD : CallR X (.type "int") (fun xs H Q => ((∃ i, xs = [.int i] ∧ Q (.int i) H) ∨ ∃ k, xs = [.bl k] ∧ Q (.int (if k then 1 else 0)) H) ∨ ∃ a n, xs = [.str a] ∧ PySem.intText? a = some n ∧ a.length ≤ 640 ∧ Q (.int n) H) := by
  refine CallR.or call_int1 ?_
  intro pins
  intro s σ H xs us Q I r h
  obtain ⟨a, n, rfl, h1, h2, q⟩ := h
  exact call_int_str pins s σ H _ us Q I r ⟨a, n, rfl, h1, h2, q⟩
theorem rc_int : RdC K (fun xs H Q => ((∃ i, xs = [.int i] ∧ Q (.int i) H) ∨ ∃ k, xs = [.bl k] ∧ Q (.int (if k then 1 else 0)) H) ∨ ∃ a n, xs = [.str a] ∧ PySem.intText? a = some n ∧ a.length ≤ 640 ∧ Q (.int n) H) bInt := fun F H xs as c e hx hc Q k => by
  unfold bInt at hc
  split at hc
  · cases hc
    obtain ⟨x, rfl, b⟩ := bw1 hx
    exact .inl (.inl ⟨_, by rw [b.int], flat_q e (.int _) k⟩)
  · cases hc
    obtain ⟨x, rfl, b⟩ := bw1 hx
    exact .inl (.inr ⟨_, by rw [b.bool], flat_q e (.int _) k⟩)
  · split at hc
    · rename_i hz
      obtain ⟨n, h1, h2⟩ := Option.map_eq_some_iff.mp hc
      subst h2
      obtain ⟨x, rfl, b⟩ := bw1 hx
      exact .inr ⟨_, n, by rw [b.str], h1, hz, flat_q e (.int _) k⟩
    · cases hc
  · cases hc
def bStr : List D → Option D
  | [.int i] => if i.natAbs.log2 < 1920 then some (.str (toString i)) else none
  | _ => none
theorem rc_str : RdC K (fun xs H Q => ∃ i, xs = [.int i] ∧ i.natAbs.log2 < 1920 ∧ Q (.str (toString i)) H) bStr := fun F H xs as c e hx hc Q k => by
  unfold bStr at hc
  split at hc
  · split at hc
    · rename_i hz
      cases hc
      obtain ⟨x, rfl, b⟩ := bw1 hx
      exact ⟨_, by rw [b.int], hz, flat_q e (.str _) k⟩
    · cases hc
  · cases hc
def bTuple : List D → Option D
  | [.list xs] => some (.tuple xs)
  | [.tuple xs] => some (.tuple xs)
  | _ => none
theorem rc_tuple : RdC K (fun xs H Q => ∃ p ys, xs = [.ref p] ∧ ((SqL K H p ys ∧ ∀ l, H l = none → Q (.ref l) (upd H l (.tup ys))) ∨ (SqT K H p ys ∧ Q (.ref p) H))) bTuple := fun F H xs as c e hx hc Q k => by
  unfold bTuple at hc
  split at hc
  · cases hc
    obtain ⟨x, rfl, b⟩ := bw1 hx
    obtain ⟨p, vs, rfl, h2, h3⟩ := b.list e
    exact ⟨p, vs, rfl, .inl ⟨Or.inl (Or.inl h2), fun z hz => k _ _ (Grow.made e hz) _ (.tup (Or.inl (Or.inl upd_same)) (h3.up (Ex.new (Evl.fresh_back e hz))))⟩⟩
  · cases hc
    obtain ⟨x, rfl, b⟩ := bw1 hx
    obtain ⟨p, vs, rfl, h2, h3⟩ := b.tuple e
    cases b with
    | fr h => exact ⟨p, vs, rfl, .inr ⟨h2, k F H (.refl e) _ h⟩⟩
  · cases hc
def bList : List D → Option D
  | [.list xs] => some (.list xs)
  | [.tuple xs] => some (.list xs)
  | _ => none
theorem rc_list : RdC K (fun xs H Q => ∃ p ys, xs = [.ref p] ∧ (SqL K H p ys ∨ SqT K H p ys) ∧ ∀ l, H l = none → Q (.ref l) (upd H l (.lst ys))) bList := fun F H xs as c e hx hc Q k => by
  unfold bList at hc
  split at hc
  · cases hc
    obtain ⟨x, rfl, b⟩ := bw1 hx
    obtain ⟨p, vs, rfl, h2, h3⟩ := b.list e
    exact ⟨p, vs, rfl, .inl (Or.inl (Or.inl h2)), fun z hz => k _ _ (Grow.made e hz) _ (.lst upd_same (h3.up (Ex.new (Evl.fresh_back e hz))))⟩
  · cases hc
    obtain ⟨x, rfl, b⟩ := bw1 hx
    obtain ⟨p, vs, rfl, h2, h3⟩ := b.tuple e
    exact ⟨p, vs, rfl, .inr h2, fun z hz => k _ _ (Grow.made e hz) _ (.lst upd_same (h3.up (Ex.new (Evl.fresh_back e hz))))⟩
  · cases hc
/-- rows of ints, of bools -/
def intsD : List D → Option (List Int)
  | [] => some []
  | .int i :: r => (intsD r).map (i :: ·)
  | _ => none
theorem intsD_some : ∀ {ds : List D} {ns : List Int}, intsD ds = some ns → ds = ns.map PyData.int
  | [], ns, h => by simp [intsD] at h; subst h; rfl
  | d :: ds, ns, h => by
    cases d <;> simp only [intsD] at h <;> try (cases h; done)
    obtain ⟨m, h1, h2⟩ := Option.map_eq_some_iff.mp h
    subst h2
    rw [List.map_cons, ← intsD_some h1]
theorem intsD_map : ∀ ns : List Int, intsD (ns.map PyData.int) = some ns
  | [] => rfl
  | n :: ns => by simp [intsD, intsD_map ns]
def blsD : List D → Option (List Bool)
  | [] => some []
  | .bool i :: r => (blsD r).map (i :: ·)
  | _ => none
theorem blsD_some : ∀ {ds : List D} {ns : List Bool}, blsD ds = some ns → ds = ns.map PyData.bool
  | [], ns, h => by simp [blsD] at h; subst h; rfl
  | d :: ds, ns, h => by
    cases d <;> simp only [blsD] at h <;> try (cases h; done)
    obtain ⟨m, h1, h2⟩ := Option.map_eq_some_iff.mp h
    subst h2
    rw [List.map_cons, ← blsD_some h1]
theorem blsD_map : ∀ ns : List Bool, blsD (ns.map PyData.bool) = some ns
  | [] => rfl
  | n :: ns => by simp [blsD, blsD_map ns]
def bSum : List D → Option D
  | [.list xs] => (intsD xs).map fun ns => .int ns.sum
  | _ => none
theorem rc_sum : RdC K (rSum K) bSum := fun F H xs as c e hx hc Q k => by
  unfold bSum at hc
  split at hc
  · obtain ⟨ns, h1, h2⟩ := Option.map_eq_some_iff.mp hc
    subst h2
    obtain ⟨x, rfl, b⟩ := bw1 hx
    obtain ⟨p, vs, rfl, h2, h3⟩ := b.list e
    rw [intsD_some h1] at h3
    have e3 := dpa_toInts h3
    subst e3
    exact ⟨p, ns, rfl, Or.inl (Or.inl h2), flat_q e (.int _) k⟩
  · cases hc
def bAll : List D → Option D
  | [.list xs] => (blsD xs).map fun ns => .bool (ns.all id)
  | _ => none
theorem rc_all : RdC K (rAll K) bAll := fun F H xs as c e hx hc Q k => by
  unfold bAll at hc
  split at hc
  · obtain ⟨ns, h1, h2⟩ := Option.map_eq_some_iff.mp hc
    subst h2
    obtain ⟨x, rfl, b⟩ := bw1 hx
    obtain ⟨p, vs, rfl, h2, h3⟩ := b.list e
    rw [blsD_some h1] at h3
    have e3 := dpa_toBls h3
    subst e3
    exact ⟨p, ns, rfl, Or.inl (Or.inl h2), flat_q e (.bl _) k⟩
  · cases hc
def bAny : List D → Option D
  | [.list xs] => (blsD xs).map fun ns => .bool (ns.any id)
  | _ => none
theorem rc_any : RdC K (rAny K) bAny := fun F H xs as c e hx hc Q k => by
  unfold bAny at hc
  split at hc
  · obtain ⟨ns, h1, h2⟩ := Option.map_eq_some_iff.mp hc
    subst h2
    obtain ⟨x, rfl, b⟩ := bw1 hx
    obtain ⟨p, vs, rfl, h2, h3⟩ := b.list e
    rw [blsD_some h1] at h3
    have e3 := dpa_toBls h3
    subst e3
    exact ⟨p, ns, rfl, Or.inl (Or.inl h2), flat_q e (.bl _) k⟩
  · cases hc
/-! isinstance of a built-in class -/
def tyN : D → String
  | .none => "NoneType"
  | .bool _ => "bool"
  | .int _ => "int"
  | .str _ => "str"
  | .list _ => "list"
  | .tuple _ => "tuple"
  | .dict r => if isScr r = true then "list" else "dict"
theorem tyX_of {F H : Hp} {x : V} {a : D} (e : Ex F H) (h : Bw K F H x a) : TyX K H x (.type (tyN a)) := by
  have lst : ∀ {p : Addr} {vs : List V}, SqL K H p vs → TyX K H (.ref p) (.type "list") := fun {p vs} h => by
    rcases h with (h | ⟨o, h⟩) | ⟨o, its, n, h1, h2, _⟩
    · exact .base (.lst h)
    · exact .base (.frz h)
    · exact .kList h1 h2
  cases h with
  | fr h =>
    cases h with
    | non => exact .base .non
    | bl b => exact .base (.bl b)
    | int b => exact .base (.int b)
    | str b => exact .base (.str b)
    | lst hs _ => exact lst (Or.inl (Or.inl (e _ _ hs)))
    | tup hs _ =>
      rcases ex_t e hs with (h | ⟨o, h⟩) | ⟨o, its, n, h1, h2, _⟩
      · exact .base (.tup h)
      · exact .fTuple h
      · exact .kTuple h1 h2
    | scr hs =>
      rename_i a ns
      have g : isScr (ns.map fun n => (PyData.int n, PyData.none)) = true := by cases ns <;> rfl
      rw [show tyN (.dict (ns.map fun n => (PyData.int n, PyData.none))) = "list" by simp only [tyN, g, if_true]]
      exact lst (ex_l e hs)
    | dct hs _ q =>
      subst q
      exact .base (.dK (e _ _ hs))
  | ow h n a => exact lst (Or.inl (Or.inl h))
  | od h n a q =>
    subst q
    exact .base (.dK h)
def isIntD : D → Bool
  | .int _ => true
  | .bool _ => true
  | _ => false
def isBoolD : D → Bool
  | .bool _ => true
  | _ => false
def isStrD : D → Bool
  | .str _ => true
  | _ => false
def isTupleD : D → Bool
  | .tuple _ => true
  | _ => false
def isListD : D → Bool
  | .list _ => true
  | .dict r => isScr r
  | _ => false
structure IsTy (T : String) (p : D → Bool) : Prop where
  hv : bootBuiltins (Str.ofString T) = some (.type T)
  hp : ∀ d : D, kitB (tyN d) T = some (p d)
theorem is_int : IsTy "int" isIntD := ⟨by decide +kernel, fun d => by cases d <;> simp only [tyN, isIntD] <;> first | decide +kernel | (rename_i r; cases isScr r <;> decide +kernel)⟩
theorem is_bool : IsTy "bool" isBoolD := ⟨by decide +kernel, fun d => by cases d <;> simp only [tyN, isBoolD] <;> first | decide +kernel | (rename_i r; cases isScr r <;> decide +kernel)⟩
theorem is_str : IsTy "str" isStrD := ⟨by decide +kernel, fun d => by cases d <;> simp only [tyN, isStrD] <;> first | decide +kernel | (rename_i r; cases isScr r <;> decide +kernel)⟩
theorem is_tuple : IsTy "tuple" isTupleD := ⟨by decide +kernel, fun d => by cases d <;> simp only [tyN, isTupleD] <;> first | decide +kernel | (rename_i r; cases isScr r <;> decide +kernel)⟩
theorem is_list : IsTy "list" isListD := ⟨by decide +kernel, fun d => by cases d <;> simp only [tyN, isListD] <;> first | decide +kernel | (rename_i r; cases isScr r <;> decide +kernel)⟩
def cIs (p : D → Bool) (f : Env → R D) : Env → R D := fun ρ => (f ρ).bind fun a => .ok (.bool (p a))
theorem de_isinst {W : WX} {T : String} {pr : D → Bool} {e : Expr} {f : Env → R D} {p p2 pos : Pos} (t : IsTy T pr) (hg : Gl X "isinstance") (hm : X.mg "isinstance" = none) (hg2 : Gl X (Str.ofString T)) (hm2 : X.mg (Str.ofString T) = none) (ha : DB X W e f)
    (hn : Str.ofString T ≠ "__name__" := by decide) (hdb : (Str.ofString T == ("__debug__" : Str)) = false := by decide)
    (he : starEach [e, .Name (Str.ofString T) p2] X.env = (false, eval e X.env) :: starEach [.Name (Str.ofString T) p2] X.env := by rfl) (hpl : (backTo pos (starEach [.Name (Str.ofString T) p2] X.env)).any (·.1) = false := by rfl) :
    DE X W (.Call (.Name "isinstance" p) [e, .Name (Str.ofString T) p2] [] pos) (cIs pr f) := by
  have pt : PE X (.Name (Str.ofString T) p2) (tC (.ty T)) := pe_bltn hg2 hm2 t.hv rfl hn hdb
  exact ⟨pe_imp (pe_callB call_isi hg hm PyProof.Rows.boot_isinstance (pa_cons ha.pe (pa_cons pt pa_nil) he) (by decide) (by decide) he hpl) fun σ H Q ⟨F0, H0, F, ρ, r, k⟩ => ⟨F0, H0, F, ρ, r, (ROk.step (r := f ρ) k).imp fun a F1 H1 _ g1 q1 x hx =>
    ⟨x, .ty T, .type (tyN a), .type T, pr a, rfl, .ty T, tyX_of g1.in_ hx, kit_ty (t.hp a), q1 F1 H1 (.refl g1.in_) _ (.bl _)⟩⟩⟩
end
end DL

/-! DLd -/
namespace DL
open PySem L2 PySem.Spec PyProof.Rows
open Evl (Ex ex_l ex_t ex_rd)

/-! ### expressions for slots: frozen data, or a list of the frame's own -/
def SVal (K : PySem.W.Frag) (H F' H' : Hp) (v : V) : SV → Prop
  | .no => False
  | .val d => Da K F' v d
  | .own ds => ∃ p vs, v = .ref p ∧ H p = none ∧ F' p = none ∧ H' p = some (.lst vs) ∧ DaAll K F' vs ds
  | .dic ds => ∃ p vs, v = .ref p ∧ H p = none ∧ F' p = none ∧ H' p = some (.dK vs) ∧ DKs K F' vs ds
def tX (K : PySem.W.Frag) (mg : Str → Option Value) (W : WX) (f : Env → R SV) : TE := fun σ H Q => ∃ F0 H0 F ρ, Rep K F0 H0 F H ρ σ ∧ ROk K mg (fun c d H' => W c d σ H') F H (fun a F' H' => ∀ v, SVal K H F' H' v a → Q v H') (f ρ)
structure DX (X : Cx) (W : WX) (e : Expr) (f : Env → R SV) : Prop where
  pe : PE X e (tX X.K X.mg W f)
def asVal (f : Env → R D) : Env → R SV := fun ρ => (f ρ).bind fun d => .ok (.val d)
def asOwn (f : Env → R (List D)) : Env → R SV := fun ρ => (f ρ).bind fun d => .ok (.own d)
theorem map_ok {α β : Type} {K : PySem.W.Frag} {mg : Str → Option Value} {W : XK} {F H : Hp} {P : β → Hp → Hp → Prop} {r : R α} {k : α → β} (h : ROk K mg W F H P (r.bind fun a => .ok (k a))) : ROk K mg W F H (fun a F' H' => P (k a) F' H') r := by
  cases r with
  | ok a => exact h
  | exc x => exact h
  | bad => exact h
section
variable {X : Cx} {W : WX} {e e1 e2 e3 : Expr} {es : List Expr} {pos : Pos} {f g h : Env → R D}
theorem DE.x (q : DE X W e f) : DX X W e (asVal f) := ⟨pe_imp q.pe fun σ H Q ⟨F0, H0, F, ρ, r, k⟩ => ⟨F0, H0, F, ρ, r, (map_ok (k := fun d => SV.val d) k).imp fun d F' H' _ _ z v hv => z v hv⟩⟩
theorem DN.x {f : Env → R (List D)} (q : DN X W e f) : DX X W e (asOwn f) := ⟨pe_imp q.pe fun σ H Q ⟨F0, H0, F, ρ, r, k⟩ => ⟨F0, H0, F, ρ, r, (map_ok (k := fun d => SV.own d) k).imp fun d F' H' _ _ z p vs h1 h2 h3 h4 => z _ ⟨p, vs, rfl, h1, h2, h3, h4⟩⟩⟩
end
section
variable {K : PySem.W.Frag} {F0 H0 F H F' H' : Hp} {ρ : Env} {σ : L2.St} {v : V} {sv : SV}
theorem lset_get {α : Type} {l : List α} {i j : Nat} {a b : α} (h : (l.set i a)[j]? = some b) : (i = j ∧ b = a) ∨ (i ≠ j ∧ l[j]? = some b) := by
  rw [List.getElem?_set] at h
  split at h
  · split at h
    · exact .inl ⟨by assumption, (Option.some.inj h).symm⟩
    · cases h
  · exact .inr ⟨by assumption, h⟩
theorem lset_lt {α : Type} {l : List α} {i : Nat} {a b : α} (h : (l.set i a)[i]? = some b) : i < l.length := by
  have := (List.getElem?_eq_some_iff.mp h).1
  rw [List.length_set] at this
  exact this
theorem Rep.setSV (r : Rep K F0 H0 F H ρ σ) (g : Grow F H F' H') (hv : SVal K H F' H' v sv) (i : Nat) : Rep K F0 H0 F' H' (ρ.set i sv) (σ.set i (some v)) := by
  have r' := r.grow g
  have at_i : ∀ {b : SV}, (ρ.set i sv)[i]? = some b → (σ.set i (some v))[i]? = some (some v) := fun h => by
    have := lset_lt h
    rw [List.getElem?_set_self (by rw [← r.len]; exact this)]
  have off : ∀ {j : Nat}, i ≠ j → (σ.set i (some v))[j]? = σ[j]? := fun h => List.getElem?_set_ne h
  refine ⟨r'.g, by simp [r'.len], fun j d e => ?_, fun j ds e => ?_, fun j k ds es p ne e1 e2 e3 e4 => ?_, fun j ds e => ?_, fun j k ds es p ne e1 e2 e3 e4 => ?_⟩
  · rcases lset_get e with ⟨rfl, e'⟩ | ⟨ne, e'⟩
    · subst e'
      exact ⟨v, at_i e, hv⟩
    · rw [off ne]
      exact r'.val j d e'
  · rcases lset_get e with ⟨rfl, e'⟩ | ⟨ne, e'⟩
    · subst e'
      obtain ⟨p, vs, rfl, h1, h2, h3, h4⟩ := hv
      exact ⟨p, vs, at_i e, Evl.fresh_back r.g.h h1, h2, h3, h4⟩
    · rw [off ne]
      exact r'.own j ds e'
  · have sep : ∀ {a b : Nat} {xs ys : List D}, i = a → i ≠ b → (ρ.set i sv)[a]? = some (.own xs) → ρ[b]? = some (.own ys) → (σ.set i (some v))[a]? = some (some (.ref p)) → σ[b]? = some (some (.ref p)) → False := fun {a b xs ys} ea nb q1 q2 q3 q4 => by
      subst ea
      rcases lset_get q1 with ⟨_, z⟩ | ⟨ne, _⟩
      · subst z
        obtain ⟨p', vs, rfl, h1, h2, h3, h4⟩ := hv
        rw [at_i q1] at q3
        have : p' = p := by injection (Option.some.inj q3) with q5; injection q5
        subst this
        obtain ⟨q, vs', e5, _, _, e6, _⟩ := r.own b ys q2
        rw [q4] at e5
        have : p' = q := by injection (Option.some.inj e5) with q5; injection q5
        subst this
        rw [h1] at e6; cases e6
      · exact ne rfl
    rcases lset_get e1 with ⟨h1, z1⟩ | ⟨h1, z1⟩
    · rcases lset_get e2 with ⟨h2, z2⟩ | ⟨h2, z2⟩
      · exact ne (h1.symm.trans h2)
      · rw [off h2] at e4
        exact sep h1 h2 e1 z2 e3 e4
    · rcases lset_get e2 with ⟨h2, z2⟩ | ⟨h2, z2⟩
      · rw [off h1] at e3
        exact sep h2 h1 e2 z1 e4 e3
      · rw [off h1] at e3
        rw [off h2] at e4
        exact r'.inj j k ds es p ne z1 z2 e3 e4
  · rcases lset_get e with ⟨rfl, e'⟩ | ⟨ne, e'⟩
    · subst e'
      obtain ⟨p, vs, rfl, h1, h2, h3, h4⟩ := hv
      exact ⟨p, vs, at_i e, Evl.fresh_back r.g.h h1, h2, h3, h4⟩
    · rw [off ne]
      exact r'.dic j ds e'
  · have sep : ∀ {a b : Nat} {xs ys : List (Key × D)}, i = a → i ≠ b → (ρ.set i sv)[a]? = some (.dic xs) → ρ[b]? = some (.dic ys) → (σ.set i (some v))[a]? = some (some (.ref p)) → σ[b]? = some (some (.ref p)) → False := fun {a b xs ys} ea nb q1 q2 q3 q4 => by
      subst ea
      rcases lset_get q1 with ⟨_, z⟩ | ⟨ne, _⟩
      · subst z
        obtain ⟨p', vs, rfl, h1, h2, h3, h4⟩ := hv
        rw [at_i q1] at q3
        have : p' = p := by injection (Option.some.inj q3) with q5; injection q5
        subst this
        obtain ⟨q, vs', e5, _, _, e6, _⟩ := r.dic b ys q2
        rw [q4] at e5
        have : p' = q := by injection (Option.some.inj e5) with q5; injection q5
        subst this
        rw [h1] at e6; cases e6
      · exact ne rfl
    rcases lset_get e1 with ⟨h1, z1⟩ | ⟨h1, z1⟩
    · rcases lset_get e2 with ⟨h2, z2⟩ | ⟨h2, z2⟩
      · exact ne (h1.symm.trans h2)
      · rw [off h2] at e4
        exact sep h1 h2 e1 z2 e3 e4
    · rcases lset_get e2 with ⟨h2, z2⟩ | ⟨h2, z2⟩
      · rw [off h1] at e3
        exact sep h2 h1 e2 z1 e4 e3
      · rw [off h1] at e3
        rw [off h2] at e4
        exact r'.injd j k ds es p ne z1 z2 e3 e4
theorem Rep.setVal {d : D} (r : Rep K F0 H0 F H ρ σ) (hv : Da K F v d) (i : Nat) : Rep K F0 H0 F H (ρ.set i (.val d)) (σ.set i (some v)) := r.setSV (.refl r.g.in_) (sv := .val d) hv i
/-- a slot forgotten -/
theorem Rep.drop (r : Rep K F0 H0 F H ρ σ) (i : Nat) (x : Option V) : Rep K F0 H0 F H (ρ.set i .no) (σ.set i x) := by
  have off : ∀ {j : Nat}, i ≠ j → (σ.set i x)[j]? = σ[j]? := fun h => List.getElem?_set_ne h
  refine ⟨r.g, by simp [r.len], fun j d e => ?_, fun j ds e => ?_, fun j k ds es p ne e1 e2 e3 e4 => ?_, fun j ds e => ?_, fun j k ds es p ne e1 e2 e3 e4 => ?_⟩
  · rcases lset_get e with ⟨rfl, e'⟩ | ⟨ne, e'⟩
    · cases e'
    · rw [off ne]; exact r.val j d e'
  · rcases lset_get e with ⟨rfl, e'⟩ | ⟨ne, e'⟩
    · cases e'
    · rw [off ne]; exact r.own j ds e'
  · rcases lset_get e1 with ⟨_, z⟩ | ⟨h1, z1⟩
    · cases z
    · rcases lset_get e2 with ⟨_, z⟩ | ⟨h2, z2⟩
      · cases z
      · rw [off h1] at e3
        rw [off h2] at e4
        exact r.inj j k ds es p ne z1 z2 e3 e4
  · rcases lset_get e with ⟨rfl, e'⟩ | ⟨ne, e'⟩
    · cases e'
    · rw [off ne]; exact r.dic j ds e'
  · rcases lset_get e1 with ⟨_, z⟩ | ⟨h1, z1⟩
    · cases z
    · rcases lset_get e2 with ⟨_, z⟩ | ⟨h2, z2⟩
      · cases z
      · rw [off h1] at e3
        rw [off h2] at e4
        exact r.injd j k ds es p ne z1 z2 e3 e4
/-- an own list, from now on frozen -/
def frz (i : Nat) (ρ : Env) : Env := match ρ[i]? with
  | some (.own ds) => ρ.set i (.val (.list ds))
  | some (.dic ds) => ρ.set i (.val (dcD ds))
  | _ => ρ
theorem lset_id {α : Type} {l : List α} {i : Nat} {a : α} (h : l[i]? = some a) : l.set i a = l := by
  apply List.ext_getElem?
  intro j
  rw [List.getElem?_set]
  split
  · rename_i e
    subst e
    have := (List.getElem?_eq_some_iff.mp h).1
    rw [if_pos this, h]
  · rfl
theorem Rep.frz (r : Rep K F0 H0 F H ρ σ) (i : Nat) : ∃ F', Ex F F' ∧ Rep K F0 H0 F' H (frz i ρ) σ := by
  unfold DL.frz
  split
  · rename_i ds e
    obtain ⟨p, vs, e1, e2, e3, e4, e5⟩ := r.own i ds e
    have fz := Grow.freeze r.g.in_ e4 e3
    have up : Rep K F0 H0 (upd F p (.lst vs)) H (ρ.set i .no) σ := by
      have r1 := r.drop i (some (.ref p))
      rw [lset_id e1] at r1
      refine ⟨⟨r1.g.f.trans fz.1, r1.g.h, fz.2, fun a o q n => ?_⟩, r1.len, fun j d q => ?_, fun j es q => ?_, r1.inj, fun j es q => ?_, r1.injd⟩
      · by_cases y : a = p
        · subst y; exact e2
        · rw [upd_ne y] at q; exact r.g.new a o q n
      · obtain ⟨v, q1, q2⟩ := r1.val j d q
        exact ⟨v, q1, q2.up fz.1⟩
      · obtain ⟨p', vs', q1, q2, q3, q4, q5⟩ := r1.own j es q
        have ne : i ≠ j := fun z => by
          subst z
          rcases lset_get q with ⟨_, z⟩ | ⟨z, _⟩
          · cases z
          · exact z rfl
        have pne : p' ≠ p := fun z => by
          subst z
          rcases lset_get q with ⟨z, _⟩ | ⟨_, z⟩
          · exact ne z
          · exact r.inj i j ds es p' ne e z e1 q1
        exact ⟨p', vs', q1, q2, by rw [upd_ne pne]; exact q3, q4, q5.up fz.1⟩
      · obtain ⟨p', vs', q1, q2, q3, q4, q5⟩ := r1.dic j es q
        have pne : p' ≠ p := fun z => by
          subst z
          rw [e4] at q4
          cases q4
        exact ⟨p', vs', q1, q2, by rw [upd_ne pne]; exact q3, q4, q5.up fz.1⟩
    refine ⟨_, fz.1, ?_⟩
    have z := up.setVal (v := .ref p) (d := .list ds) (.lst upd_same (e5.up fz.1)) i
    rw [List.set_set, lset_id e1] at z
    exact z
  · rename_i ds e
    obtain ⟨p, vs, e1, e2, e3, e4, e5⟩ := r.dic i ds e
    have fz := Grow.freeze r.g.in_ e4 e3
    have up : Rep K F0 H0 (upd F p (.dK vs)) H (ρ.set i .no) σ := by
      have r1 := r.drop i (some (.ref p))
      rw [lset_id e1] at r1
      refine ⟨⟨r1.g.f.trans fz.1, r1.g.h, fz.2, fun a o q n => ?_⟩, r1.len, fun j d q => ?_, fun j es q => ?_, r1.inj, fun j es q => ?_, r1.injd⟩
      · by_cases y : a = p
        · subst y; exact e2
        · rw [upd_ne y] at q; exact r.g.new a o q n
      · obtain ⟨v, q1, q2⟩ := r1.val j d q
        exact ⟨v, q1, q2.up fz.1⟩
      · obtain ⟨p', vs', q1, q2, q3, q4, q5⟩ := r1.own j es q
        have pne : p' ≠ p := fun z => by
          subst z
          rw [e4] at q4
          cases q4
        exact ⟨p', vs', q1, q2, by rw [upd_ne pne]; exact q3, q4, q5.up fz.1⟩
      · obtain ⟨p', vs', q1, q2, q3, q4, q5⟩ := r1.dic j es q
        have ne : i ≠ j := fun z => by
          subst z
          rcases lset_get q with ⟨_, z⟩ | ⟨z, _⟩
          · cases z
          · exact z rfl
        have pne : p' ≠ p := fun z => by
          subst z
          rcases lset_get q with ⟨z, _⟩ | ⟨_, z⟩
          · exact ne z
          · exact r.injd i j ds es p' ne e z e1 q1
        exact ⟨p', vs', q1, q2, by rw [upd_ne pne]; exact q3, q4, q5.up fz.1⟩
    refine ⟨_, fz.1, ?_⟩
    have z := up.setVal (v := .ref p) (d := dcD ds) (.dct upd_same (e5.up fz.1) rfl) i
    rw [List.set_set, lset_id e1] at z
    exact z
  · exact ⟨F, .refl F, r⟩
end

/-! ### targets -/
def Out2 (σ σ' : L2.St) (ts : List Nat) : Prop := σ'.length = σ.length ∧ ∀ j, j ∉ ts → σ'[j]? = σ[j]?
def tG (K : PySem.W.Frag) (ts : List Nat) (s : D → Env → Option Env) : TG := fun v σ H Q => ∃ F0 H0 F ρ d ρ', Rep K F0 H0 F H ρ σ ∧ Da K F v d ∧ s d ρ = some ρ' ∧ ∀ σ', Rep K F0 H0 F H ρ' σ' → Out2 σ σ' ts → Q σ' H
def tGs (K : PySem.W.Frag) (ts : List Nat) (s : List D → Env → Option Env) : TGs := fun vs σ H Q => ∃ F0 H0 F ρ ds ρ', Rep K F0 H0 F H ρ σ ∧ DaAll K F vs ds ∧ s ds ρ = some ρ' ∧ ∀ σ', Rep K F0 H0 F H ρ' σ' → Out2 σ σ' ts → Q σ' H
structure DG (X : Cx) (ts : List Nat) (tg : Expr) (s : D → Env → Option Env) : Prop where
  pg : PG X tg (tG X.K ts s)
structure DGs (X : Cx) (ts : List Nat) (tgs : List Expr) (s : List D → Env → Option Env) : Prop where
  pgs : PGs X tgs (tGs X.K ts s)
theorem pg_imp {X : Cx} {e : Expr} {t t' : TG} (q : PG X e t) (i : ∀ v σ H Q, t' v σ H Q → t v σ H Q) : PG X e t' := ⟨fun pins s σ H v u Q I r z => q.run pins s σ H v u Q I r (i v σ H Q z)⟩
theorem pgs_imp {X : Cx} {es : List Expr} {t t' : TGs} (q : PGs X es t) (i : ∀ v σ H Q, t' v σ H Q → t v σ H Q) : PGs X es t' := ⟨fun pins s σ H v u Q I r z => q.run pins s σ H v u Q I r (i v σ H Q z)⟩
def sName (i : Nat) : D → Env → Option Env := fun d ρ => some (ρ.set i (.val d))
def sNil : List D → Env → Option Env := fun ds ρ => match ds with
  | [] => some ρ
  | _ => none
def sCons (s : D → Env → Option Env) (q : List D → Env → Option Env) : List D → Env → Option Env := fun ds ρ => match ds with
  | d :: r => (s d ρ).bind fun ρ' => q r ρ'
  | [] => none
def sTup (q : List D → Env → Option Env) : D → Env → Option Env := fun d ρ => match d with
  | .tuple ds => q ds ρ
  | _ => none
section
variable {X : Cx} {pos : Pos}
theorem out2_set (σ : L2.St) (i : Nat) (x : Option V) : Out2 σ (σ.set i x) [i] := ⟨List.length_set, fun j hj => List.getElem?_set_ne fun e => hj (by simp [e])⟩
theorem dg_name {i : Nat} {x : Str} (hN : X.N.Nodup) (hi : X.N[i]? = some x) (hx : Loc X.env.scope x) (hf : X.fn x = true ∨ X.env.scope.names.lookup x = some .local := by first | exact .inl rfl | exact .inr rfl | assumption) : DG X [i] (.Name x pos) (sName i) :=
  ⟨pg_imp (pg_name hN hi hx hf) fun v σ H Q ⟨F0, H0, F, ρ, d, ρ', r, hd, e, k⟩ => by
    cases e
    exact k _ (r.setVal hd i) (out2_set σ i _)⟩
theorem dgs_nil : DGs X [] [] sNil := ⟨pgs_imp pgs_nil fun vs σ H Q ⟨F0, H0, F, ρ, ds, ρ', r, hd, e, k⟩ => by
  cases ds with
  | nil => cases hd; cases e; exact ⟨rfl, k σ r ⟨rfl, fun _ _ => rfl⟩⟩
  | cons => cases e⟩
theorem dgs_cons {e : Expr} {es : List Expr} {ts us : List Nat} {s : D → Env → Option Env} {q : List D → Env → Option Env} (h1 : DG X ts e s) (h2 : DGs X us es q)
    (hs : (assignEach (e :: es) X.env).map (·.2) = assign e X.env :: (assignEach es X.env).map (·.2) := by rfl) : DGs X (ts ++ us) (e :: es) (sCons s q) :=
  ⟨pgs_imp (pgs_cons h1.pg h2.pgs hs) fun vs σ H Q ⟨F0, H0, F, ρ, ds, ρ', r, hd, e, k⟩ => by
    cases ds with
    | nil => cases e
    | cons d ds =>
      cases hd with
      | cons d1 d2 =>
        obtain ⟨ρ1, e1, e2⟩ := Option.bind_eq_some_iff.mp e
        exact ⟨_, _, rfl, F0, H0, F, ρ, d, ρ1, r, d1, e1, fun σ1 r1 o1 => ⟨F0, H0, F, ρ1, ds, ρ', r1, d2, e2, fun σ2 r2 o2 => k σ2 r2 ⟨o2.1.trans o1.1, fun j hj => by
          rw [List.mem_append, not_or] at hj
          rw [o2.2 j hj.2, o1.2 j hj.1]⟩⟩⟩⟩
theorem dg_tup {es : List Expr} {k n : Nat} {ts : List Nat} {q : List D → Env → Option Env} (hc : X.calm = true) (h : DGs X ts es q) (hq : ∀ ds ρ ρ', q ds ρ = some ρ' → ds.length = n)
    (hn : (assignEach es X.env).length = n := by rfl) (hst : (assignEach es X.env).findIdx? (·.1) = none := by rfl) : DG X ts (.Tuple es k pos) (sTup q) :=
  ⟨pg_imp (pg_tup hc h.pgs hn hst) fun v σ H Q ⟨F0, H0, F, ρ, d, ρ', r, hd, e, k⟩ => by
    cases hd with
    | tup h1 h2 => exact ⟨_, _, rfl, ex_t r.g.in_ h1, by rw [dpa_len h2]; exact hq _ ρ ρ' e, F0, H0, F, ρ, _, ρ', r, h2, e, k⟩
    | _ => cases e⟩
end
theorem sNil_len (ds : List D) (ρ ρ' : Env) (h : sNil ds ρ = some ρ') : ds.length = 0 := by
  cases ds with
  | nil => rfl
  | cons => cases h
theorem sCons_len {s : D → Env → Option Env} {q : List D → Env → Option Env} {n : Nat} (hq : ∀ ds ρ ρ', q ds ρ = some ρ' → ds.length = n) (ds : List D) (ρ ρ' : Env) (h : sCons s q ds ρ = some ρ') : ds.length = n + 1 := by
  cases ds with
  | nil => cases h
  | cons d ds =>
    obtain ⟨ρ1, e1, e2⟩ := Option.bind_eq_some_iff.mp h
    rw [List.length_cons, hq ds ρ1 ρ' e2]

/-! ### what is walked -/
structure ItD (K : PySem.W.Frag) (J : It) (S : Hp → Hp → Prop) (ds : List D) : Prop where
  goes : ∀ (i : Nat) F1 H1, S F1 H1 → i < ds.length → J.go i H1
  stops : ∀ F1 H1, S F1 H1 → J.stop ds.length H1
  yields : ∀ (i : Nat) F1 H1 x H2 d, S F1 H1 → Ex F1 H1 → ds[i]? = some d → J.yld i H1 x H2 → ∃ F2, Grow F1 H1 F2 H2 ∧ Da K F2 x d
def tI (K : PySem.W.Frag) (mg : Str → Option Value) (W : WX) (f : Env → R (List D)) : TI := fun σ H R' => ∃ F0 H0 F ρ, Rep K F0 H0 F H ρ σ ∧
  ROk K mg (fun c d H' => W c d σ H') F H (fun ds F' H' => ∀ J, ItD K J (fun F1 H1 => Ex F' F1 ∧ Ex F1 H1) ds → R' J H') (f ρ)
/-- .. while nothing but new objects come -/
def tIB (K : PySem.W.Frag) (mg : Str → Option Value) (W : WX) (f : Env → R (List D)) : TI := fun σ H R' => ∃ F0 H0 F ρ, Rep K F0 H0 F H ρ σ ∧
  ROk K mg (fun c d H' => W c d σ H') F H (fun ds F' H' => ∀ J, ItD K J (Grow F' H') ds → R' J H') (f ρ)
structure DI (X : Cx) (W : WX) (tg e : Expr) (f : Env → R (List D)) : Prop where
  pi : PI X tg e (tI X.K X.mg W f)
structure DIB (X : Cx) (W : WX) (tg e : Expr) (f : Env → R (List D)) : Prop where
  pi : PI X tg e (tIB X.K X.mg W f)
theorem pi_imp {X : Cx} {tg e : Expr} {t t' : TI} (q : PI X tg e t) (i : ∀ σ H R', t' σ H R' → t σ H R') : PI X tg e t' := ⟨fun pins s σ H R' I z => q.run pins s σ H R' I (i σ H R' z)⟩
theorem pi_or {X : Cx} {tg e : Expr} {t t' : TI} (q : PI X tg e t) (q' : PI X tg e t') : PI X tg e (fun σ H R' => t σ H R' ∨ t' σ H R') := ⟨fun pins s σ H R' I z => z.elim (q.run pins s σ H R' I) (q'.run pins s σ H R' I)⟩
theorem DI.b {X : Cx} {W : WX} {tg e : Expr} {f : Env → R (List D)} (q : DI X W tg e f) : DIB X W tg e f :=
  ⟨pi_imp q.pi fun σ H R' ⟨F0, H0, F, ρ, r, k⟩ => ⟨F0, H0, F, ρ, r, k.imp fun ds F' H' _ gr z J it => z J ⟨fun i F1 H1 s hi => it.goes i F1 H1 ⟨s.f, s.in_⟩ hi, fun F1 H1 s => it.stops F1 H1 ⟨s.f, s.in_⟩, fun i F1 H1 x H2 d s e h1 h2 => it.yields i F1 H1 x H2 d ⟨s.f, s.in_⟩ e h1 h2⟩⟩⟩
section
variable {K : PySem.W.Frag} {S : Hp → Hp → Prop} {p q : Addr} {ds es : List D}
theorem itd_list (hs : ∀ F1 H1, S F1 H1 → Ex F1 H1 ∧ Bw K F1 H1 (.ref p) (.list ds)) : ItD K (Itl K p) S ds where
  goes := fun i F1 H1 s hi => by
    obtain ⟨e, b⟩ := hs F1 H1 s
    obtain ⟨p', vs, h0, h1, h2⟩ := b.list e
    cases h0
    obtain ⟨v, h3, h4⟩ := dpa_get h2 (List.getElem?_eq_getElem hi)
    exact ⟨vs, v, Or.inl (Or.inl h1), h3⟩
  stops := fun F1 H1 s => by
    obtain ⟨e, b⟩ := hs F1 H1 s
    obtain ⟨p', vs, h0, h1, h2⟩ := b.list e
    cases h0
    exact ⟨vs, Or.inl (Or.inl h1), by rw [dpa_len h2]; exact Nat.le_refl _⟩
  yields := fun i F1 H1 x H2 d s _ hd y => by
    obtain ⟨e, b⟩ := hs F1 H1 s
    obtain ⟨p', vs, h0, h1, h2⟩ := b.list e
    cases h0
    obtain ⟨rfl, y⟩ := y
    obtain ⟨d', h3, h4⟩ := dpa_getV h2 (y vs (Or.inl (Or.inl h1)))
    rw [hd] at h3
    cases h3
    exact ⟨F1, .refl e, h4⟩
theorem itd_tup (hs : ∀ F1 H1, S F1 H1 → Ex F1 H1 ∧ Bw K F1 H1 (.ref p) (.tuple ds)) : ItD K (Itt K p) S ds where
  goes := fun i F1 H1 s hi => by
    obtain ⟨e, b⟩ := hs F1 H1 s
    obtain ⟨p', vs, h0, h1, h2⟩ := b.tuple e
    cases h0
    obtain ⟨v, h3, h4⟩ := dpa_get h2 (List.getElem?_eq_getElem hi)
    exact ⟨vs, v, h1, h3⟩
  stops := fun F1 H1 s => by
    obtain ⟨e, b⟩ := hs F1 H1 s
    obtain ⟨p', vs, h0, h1, h2⟩ := b.tuple e
    cases h0
    exact ⟨vs, h1, by rw [dpa_len h2]; exact Nat.le_refl _⟩
  yields := fun i F1 H1 x H2 d s _ hd y => by
    obtain ⟨e, b⟩ := hs F1 H1 s
    obtain ⟨p', vs, h0, h1, h2⟩ := b.tuple e
    cases h0
    obtain ⟨rfl, y⟩ := y
    obtain ⟨d', h3, h4⟩ := dpa_getV h2 (y vs h1)
    rw [hd] at h3
    cases h3
    exact ⟨F1, .refl e, h4⟩
def rangeD (lo : Int) (n : Nat) : List D := (List.range n).map fun i => .int (lo + (i : Nat))
theorem rangeD_len (lo : Int) (n : Nat) : (rangeD lo n).length = n := by simp [rangeD]
theorem itd_range {lo : Int} {n : Nat} : ItD K (Itr lo n) S (rangeD lo n) where
  goes := fun i F1 H1 s hi => by rw [rangeD_len] at hi; exact hi
  stops := fun F1 H1 s => by rw [rangeD_len]; exact Nat.le_refl _
  yields := fun i F1 H1 x H2 d s e hd y => by
    obtain ⟨rfl, rfl⟩ := y
    refine ⟨F1, .refl e, ?_⟩
    unfold rangeD at hd
    rw [List.getElem?_map] at hd
    obtain ⟨j, h1, h2⟩ := Option.map_eq_some_iff.mp hd
    have : i = j := by
      have := List.getElem?_eq_some_iff.mp h1
      obtain ⟨_, h3⟩ := this
      simpa using h3
    subst this; subst h2
    exact .int _
def enumD : Nat → List D → List D
  | _, [] => []
  | k, d :: ds => .tuple [.int (k : Nat), d] :: enumD (k + 1) ds
theorem enumD_len : ∀ (ds : List D) (k : Nat), (enumD k ds).length = ds.length
  | [], _ => rfl
  | d :: ds, k => by simp [enumD, enumD_len ds]
theorem enumD_get : ∀ (ds : List D) (k i : Nat) (d : D), (enumD k ds)[i]? = some d → ∃ x, ds[i]? = some x ∧ d = .tuple [.int ((k + i : Nat)), x]
  | [], _, i, d, h => by simp [enumD] at h
  | x :: xs, k, 0, d, h => by simp [enumD] at h; exact ⟨x, rfl, h.symm⟩
  | x :: xs, k, i + 1, d, h => by
    simp only [enumD, List.getElem?_cons_succ] at h
    obtain ⟨y, h1, h2⟩ := enumD_get xs (k + 1) i d h
    exact ⟨y, by simpa using h1, by rw [h2, show k + 1 + i = k + (i + 1) by omega]⟩
theorem pair_new {F1 H1 : Hp} {T : Addr} {x y : V} {a b : D} (e : Ex F1 H1) (hT : H1 T = none) (hx : Da K F1 x a) (hy : Da K F1 y b) : ∃ F2, Grow F1 H1 F2 (upd H1 T (.tup [x, y])) ∧ Da K F2 (.ref T) (.tuple [a, b]) :=
  ⟨_, Grow.made e hT, .tup (Or.inl (Or.inl upd_same)) (.cons (hx.up (Ex.new (Evl.fresh_back e hT))) (.cons (hy.up (Ex.new (Evl.fresh_back e hT))) .nil))⟩
theorem itd_enum (hs : ∀ F1 H1, S F1 H1 → Ex F1 H1 ∧ Bw K F1 H1 (.ref p) (.list ds)) : ItD K (Ite K p) S (enumD 0 ds) where
  goes := fun i F1 H1 s hi => by
    rw [enumD_len] at hi
    obtain ⟨e, b⟩ := hs F1 H1 s
    obtain ⟨p', vs, h0, h1, h2⟩ := b.list e
    cases h0
    obtain ⟨v, h3, h4⟩ := dpa_get h2 (List.getElem?_eq_getElem hi)
    exact ⟨vs, v, Or.inl (Or.inl h1), h3⟩
  stops := fun F1 H1 s => by
    obtain ⟨e, b⟩ := hs F1 H1 s
    obtain ⟨p', vs, h0, h1, h2⟩ := b.list e
    cases h0
    exact ⟨vs, Or.inl (Or.inl h1), by rw [dpa_len h2, enumD_len]; exact Nat.le_refl _⟩
  yields := fun i F1 H1 x H2 d s _ hd y => by
    obtain ⟨e, b⟩ := hs F1 H1 s
    obtain ⟨p', vs, h0, h1, h2⟩ := b.list e
    cases h0
    obtain ⟨T, x', rfl, hT, rfl, y⟩ := y
    obtain ⟨d', h3, h4⟩ := dpa_getV h2 (y vs (Or.inl (Or.inl h1)))
    obtain ⟨z, h5, rfl⟩ := enumD_get ds 0 i d hd
    rw [h3] at h5
    cases h5
    rw [Nat.zero_add]
    exact pair_new e hT (.int _) h4
def zipD : List D → List D → List D
  | x :: xs, y :: ys => .tuple [x, y] :: zipD xs ys
  | _, _ => []
theorem zipD_len : ∀ (xs ys : List D), (zipD xs ys).length = min xs.length ys.length
  | [], ys => by simp [zipD]
  | x :: xs, [] => by simp [zipD]
  | x :: xs, y :: ys => by simp [zipD, zipD_len xs ys]
theorem zipD_get : ∀ (xs ys : List D) (i : Nat) (d : D), (zipD xs ys)[i]? = some d → ∃ x y, xs[i]? = some x ∧ ys[i]? = some y ∧ d = .tuple [x, y]
  | [], ys, i, d, h => by simp [zipD] at h
  | x :: xs, [], i, d, h => by simp [zipD] at h
  | x :: xs, y :: ys, 0, d, h => by simp [zipD] at h; exact ⟨x, y, rfl, rfl, h.symm⟩
  | x :: xs, y :: ys, i + 1, d, h => by
    simp only [zipD, List.getElem?_cons_succ] at h
    obtain ⟨a, b, h1, h2, h3⟩ := zipD_get xs ys i d h
    exact ⟨a, b, by simpa using h1, by simpa using h2, h3⟩
theorem itd_zipL (hs : ∀ F1 H1, S F1 H1 → Ex F1 H1 ∧ Bw K F1 H1 (.ref p) (.list ds) ∧ Bw K F1 H1 (.ref q) (.list es)) : ItD K (Itz K p q) S (zipD ds es) where
  goes := fun i F1 H1 s hi => by
    rw [zipD_len] at hi
    obtain ⟨e, b, c⟩ := hs F1 H1 s
    obtain ⟨_, vs, h0, h1, h2⟩ := b.list e
    cases h0
    obtain ⟨_, us, h0, h1', h2'⟩ := c.list e
    cases h0
    obtain ⟨v, h3, h4⟩ := dpa_get h2 (List.getElem?_eq_getElem (by omega : i < ds.length))
    obtain ⟨u, h3', h4'⟩ := dpa_get h2' (List.getElem?_eq_getElem (by omega : i < es.length))
    exact ⟨vs, us, v, u, Or.inl (Or.inl h1), Or.inl (Or.inl h1'), h3, h3'⟩
  stops := fun F1 H1 s => by
    obtain ⟨e, b, c⟩ := hs F1 H1 s
    obtain ⟨_, vs, h0, h1, h2⟩ := b.list e
    cases h0
    obtain ⟨_, us, h0, h1', h2'⟩ := c.list e
    cases h0
    have l1 := dpa_len h2
    have l2 := dpa_len h2'
    exact ⟨vs, us, Or.inl (Or.inl h1), Or.inl (Or.inl h1'), by rw [zipD_len]; omega⟩
  yields := fun i F1 H1 x H2 d s _ hd y => by
    obtain ⟨e, b, c⟩ := hs F1 H1 s
    obtain ⟨_, vs, h0, h1, h2⟩ := b.list e
    cases h0
    obtain ⟨_, us, h0, h1', h2'⟩ := c.list e
    cases h0
    obtain ⟨T, x', y', rfl, hT, rfl, y, y2⟩ := y
    obtain ⟨d1, h3, h4⟩ := dpa_getV h2 (y vs (Or.inl (Or.inl h1)))
    obtain ⟨d2, h3', h4'⟩ := dpa_getV h2' (y2 us (Or.inl (Or.inl h1')))
    obtain ⟨a, b', h5, h6, rfl⟩ := zipD_get ds es i d hd
    rw [h3] at h5
    rw [h3'] at h6
    cases h5; cases h6
    exact pair_new e hT h4 h4'
theorem itd_zipT (hs : ∀ F1 H1, S F1 H1 → Ex F1 H1 ∧ Bw K F1 H1 (.ref p) (.tuple ds) ∧ Bw K F1 H1 (.ref q) (.tuple es)) : ItD K (RZ.ItzT K p q) S (zipD ds es) where
  goes := fun i F1 H1 s hi => by
    rw [zipD_len] at hi
    obtain ⟨e, b, c⟩ := hs F1 H1 s
    obtain ⟨_, vs, h0, h1, h2⟩ := b.tuple e
    cases h0
    obtain ⟨_, us, h0, h1', h2'⟩ := c.tuple e
    cases h0
    obtain ⟨v, h3, h4⟩ := dpa_get h2 (List.getElem?_eq_getElem (by omega : i < ds.length))
    obtain ⟨u, h3', h4'⟩ := dpa_get h2' (List.getElem?_eq_getElem (by omega : i < es.length))
    exact ⟨vs, us, v, u, h1, h1', h3, h3'⟩
  stops := fun F1 H1 s => by
    obtain ⟨e, b, c⟩ := hs F1 H1 s
    obtain ⟨_, vs, h0, h1, h2⟩ := b.tuple e
    cases h0
    obtain ⟨_, us, h0, h1', h2'⟩ := c.tuple e
    cases h0
    have l1 := dpa_len h2
    have l2 := dpa_len h2'
    exact ⟨vs, us, h1, h1', by rw [zipD_len]; omega⟩
  yields := fun i F1 H1 x H2 d s _ hd y => by
    obtain ⟨e, b, c⟩ := hs F1 H1 s
    obtain ⟨_, vs, h0, h1, h2⟩ := b.tuple e
    cases h0
    obtain ⟨_, us, h0, h1', h2'⟩ := c.tuple e
    cases h0
    obtain ⟨T, x', y', rfl, hT, rfl, y, y2⟩ := y
    obtain ⟨d1, h3, h4⟩ := dpa_getV h2 (y vs h1)
    obtain ⟨d2, h3', h4'⟩ := dpa_getV h2' (y2 us h1')
    obtain ⟨a, b', h5, h6, rfl⟩ := zipD_get ds es i d hd
    rw [h3] at h5
    rw [h3'] at h6
    cases h5; cases h6
    exact pair_new e hT h4 h4'
end

/-! the iterables by their texts -/
def itemsD : D → Option (List D)
  | .list ds => some ds
  | .tuple ds => some ds
  | _ => none
def cItems (f : Env → R D) : Env → R (List D) := fun ρ => (f ρ).bind fun a => ofO (itemsD a)
def range1D : List D → Option (List D)
  | [.int n] => if -1000000 < n ∧ n < 1000000 then some (rangeD 0 n.toNat) else none
  | _ => none
def range2D : List D → Option (List D)
  | [.int a, .int b] => if -1000000 < a ∧ a < 1000000 ∧ -1000000 < b ∧ b < 1000000 then some (rangeD a (b - a).toNat) else none
  | _ => none
def enum1D : List D → Option (List D)
  | [.list ds] => some (enumD 0 ds)
  | _ => none
def zip2D : List D → Option (List D)
  | [.list xs, .list ys] => some (zipD xs ys)
  | [.tuple xs, .tuple ys] => some (zipD xs ys)
  | _ => none
def cIt (o : List D → Option (List D)) (q : Env → R (List D)) : Env → R (List D) := fun ρ => (q ρ).bind fun as => ofO (o as)
section
variable {X : Cx} {W : WX} {tg e e1 e2 : Expr} {es : List Expr} {pos p : Pos} {f g : Env → R D} {q : Env → R (List D)}
theorem stay_bw {K : PySem.W.Frag} {F' H' : Hp} {v : V} {d : D} (h : Bw K F' H' v d) : ∀ F1 H1, Grow F' H' F1 H1 → Ex F1 H1 ∧ Bw K F1 H1 v d := fun _ _ g => ⟨g.in_, h.grow g⟩
theorem stay_da {K : PySem.W.Frag} {F' : Hp} {v : V} {d : D} (h : Da K F' v d) : ∀ F1 H1, Ex F' F1 ∧ Ex F1 H1 → Ex F1 H1 ∧ Bw K F1 H1 v d := fun _ _ g => ⟨g.2, .fr (h.up g.1)⟩
/-- a list, a tuple: frozen | borrowed -/
theorem di_seq (ha : DE X W e f) : DI X W tg e (cItems f) :=
  ⟨pi_imp (pi_or (pi_list ha.pe) (pi_tup ha.pe)) fun σ H R' ⟨F0, H0, F, ρ, r, k⟩ => by
    cases hf : f ρ with
    | ok a =>
      have k : ROk X.K X.mg (fun c d H' => W c d σ H') F H (fun ds F' H' => ∀ J, ItD X.K J (fun F1 H1 => Ex F' F1 ∧ Ex F1 H1) ds → R' J H') ((f ρ).bind fun a => ofO (itemsD a)) := k
      rw [hf] at k
      obtain ⟨ds, e, k⟩ := ROk.ofO (o := itemsD a) k
      cases a <;> simp only [itemsD] at e <;> try (cases e; done)
      · cases e
        refine .inl ⟨F0, H0, F, ρ, r, ?_⟩
        rw [hf]
        intro F' H' g v hv
        cases hv with
        | lst h1 h2 => exact ⟨_, rfl, ⟨_, Or.inl (Or.inl (g.in_ _ _ h1))⟩, k F' H' g _ (itd_list (stay_da (.lst h1 h2)))⟩
      · cases e
        refine .inr ⟨F0, H0, F, ρ, r, ?_⟩
        rw [hf]
        intro F' H' g v hv
        cases hv with
        | tup h1 h2 => exact ⟨_, rfl, ⟨_, ex_t g.in_ h1⟩, k F' H' g _ (itd_tup (stay_da (.tup h1 h2)))⟩
    | exc x =>
      have k : ROk X.K X.mg (fun c d H' => W c d σ H') F H (fun ds F' H' => ∀ J, ItD X.K J (fun F1 H1 => Ex F' F1 ∧ Ex F1 H1) ds → R' J H') ((f ρ).bind fun a => ofO (itemsD a)) := k
      rw [hf] at k
      refine .inl ⟨F0, H0, F, ρ, r, ?_⟩
      rw [hf]
      exact k
    | bad =>
      have k : ROk X.K X.mg (fun c d H' => W c d σ H') F H (fun ds F' H' => ∀ J, ItD X.K J (fun F1 H1 => Ex F' F1 ∧ Ex F1 H1) ds → R' J H') ((f ρ).bind fun a => ofO (itemsD a)) := k
      rw [hf] at k
      exact k.elim⟩
theorem dib_seq (ha : DB X W e f) : DIB X W tg e (cItems f) :=
  ⟨pi_imp (pi_or (pi_list ha.pe) (pi_tup ha.pe)) fun σ H R' ⟨F0, H0, F, ρ, r, k⟩ => by
    have k : ROk X.K X.mg (fun c d H' => W c d σ H') F H (fun ds F' H' => ∀ J, ItD X.K J (Grow F' H') ds → R' J H') ((f ρ).bind fun a => ofO (itemsD a)) := k
    cases hf : f ρ with
    | ok a =>
      rw [hf] at k
      obtain ⟨ds, e, k⟩ := ROk.ofO (o := itemsD a) k
      cases a <;> simp only [itemsD] at e <;> try (cases e; done)
      · cases e
        refine .inl ⟨F0, H0, F, ρ, r, ?_⟩
        rw [hf]
        intro F' H' g v hv
        obtain ⟨p, vs, rfl, h1, h2⟩ := hv.list g.in_
        exact ⟨_, rfl, ⟨_, Or.inl (Or.inl h1)⟩, k F' H' g _ (itd_list (stay_bw hv))⟩
      · cases e
        refine .inr ⟨F0, H0, F, ρ, r, ?_⟩
        rw [hf]
        intro F' H' g v hv
        obtain ⟨p, vs, rfl, h1, h2⟩ := hv.tuple g.in_
        exact ⟨_, rfl, ⟨_, h1⟩, k F' H' g _ (itd_tup (stay_bw hv))⟩
    | exc x =>
      rw [hf] at k
      refine .inl ⟨F0, H0, F, ρ, r, ?_⟩
      rw [hf]
      exact k
    | bad =>
      rw [hf] at k
      exact k.elim⟩
theorem da_bwAll {K : PySem.W.Frag} {F : Hp} {vs : List V} {H : Hp} : ∀ {ds : List D} {vs : List V}, DaAll K F vs ds → BwAll K F H vs ds
  | [], _, h => by cases h; exact .nil
  | _ :: _, _, h => by
    cases h with
    | cons h1 h2 => exact .cons (.fr h1) (da_bwAll (vs := []) h2)
theorem di_range1 (hg : Gl X "range") (hm : X.mg "range" = none) (ha : DA X W [e] q) (hs : starEach [e] X.env = [(false, eval e X.env)] := by rfl) : DI X W tg (.Call (.Name "range" p) [e] [] pos) (cIt range1D q) :=
  ⟨pi_imp (pi_range1 hg hm ha.pa hs) fun σ H R' ⟨F0, H0, F, ρ, r, k⟩ => ⟨F0, H0, F, ρ, r, (ROk.step (r := q ρ) k).imp fun as F1 H1 _ g1 q1 vs hvs => by
    obtain ⟨ds, e, z⟩ := q1.ofO
    unfold range1D at e
    split at e
    · split at e
      · rename_i hn
        cases e
        cases hvs with
        | cons h1 h2 =>
          cases h2; cases h1
          exact ⟨_, rfl, by omega, by omega, z F1 H1 (.refl g1.in_) _ itd_range⟩
      · cases e
    · cases e⟩⟩
theorem di_range2 (hg : Gl X "range") (hm : X.mg "range" = none) (ha : DA X W [e1, e2] q) (hs : starEach [e1, e2] X.env = [(false, eval e1 X.env), (false, eval e2 X.env)] := by rfl) (hs2 : starEach [e2] X.env = [(false, eval e2 X.env)] := by rfl) :
    DI X W tg (.Call (.Name "range" p) [e1, e2] [] pos) (cIt range2D q) :=
  ⟨pi_imp (pi_range2 hg hm ha.pa hs hs2) fun σ H R' ⟨F0, H0, F, ρ, r, k⟩ => ⟨F0, H0, F, ρ, r, (ROk.step (r := q ρ) k).imp fun as F1 H1 _ g1 q1 vs hvs => by
    obtain ⟨ds, e, z⟩ := q1.ofO
    unfold range2D at e
    split at e
    · split at e
      · rename_i hn
        cases e
        cases hvs with
        | cons h1 h2 =>
          cases h2 with
          | cons h3 h4 =>
            cases h4; cases h1; cases h3
            exact ⟨_, _, rfl, by omega, z F1 H1 (.refl g1.in_) _ itd_range⟩
      · cases e
    · cases e⟩⟩
theorem dib_enum {k : Nat} {tpos : Pos} (hg : Gl X "enumerate") (hm : X.mg "enumerate" = none) (ha : DAB X W [e] q) (hs : starEach [e] X.env = [(false, eval e X.env)] := by rfl) : DIB X W (.Tuple es k tpos) (.Call (.Name "enumerate" p) [e] [] pos) (cIt enum1D q) :=
  ⟨pi_imp (pi_enum hg hm ha.pa hs) fun σ H R' ⟨F0, H0, F, ρ, r, k⟩ => ⟨F0, H0, F, ρ, r, (ROk.step (r := q ρ) k).imp fun as F1 H1 _ g1 q1 vs hvs => by
    obtain ⟨ds, e, z⟩ := q1.ofO
    unfold enum1D at e
    split at e
    · cases e
      obtain ⟨x, rfl, b⟩ := bw1 hvs
      obtain ⟨p', vs, rfl, h1, h2⟩ := b.list g1.in_
      exact ⟨p', vs, rfl, Or.inl (Or.inl h1), z F1 H1 (.refl g1.in_) _ (itd_enum (stay_bw b))⟩
    · cases e⟩⟩
theorem di_enum {k : Nat} {tpos : Pos} (hg : Gl X "enumerate") (hm : X.mg "enumerate" = none) (ha : DA X W [e] q) (hs : starEach [e] X.env = [(false, eval e X.env)] := by rfl) : DI X W (.Tuple es k tpos) (.Call (.Name "enumerate" p) [e] [] pos) (cIt enum1D q) :=
  ⟨pi_imp (pi_enum hg hm ha.pa hs) fun σ H R' ⟨F0, H0, F, ρ, r, k⟩ => ⟨F0, H0, F, ρ, r, (ROk.step (r := q ρ) k).imp fun as F1 H1 _ g1 q1 vs hvs => by
    obtain ⟨ds, e, z⟩ := q1.ofO
    unfold enum1D at e
    split at e
    · cases e
      cases hvs with
      | cons h1 h2 =>
        cases h2
        cases h1 with
        | lst h3 h4 => exact ⟨_, _, rfl, Or.inl (Or.inl (g1.in_ _ _ h3)), z F1 H1 (.refl g1.in_) _ (itd_enum (stay_da (.lst h3 h4)))⟩
    · cases e⟩⟩
theorem dib_zip {k : Nat} {tpos : Pos} (hg : Gl X "zip") (hm : X.mg "zip" = none) (ha : DAB X W [e1, e2] q) (hs : starEach [e1, e2] X.env = (false, eval e1 X.env) :: starEach [e2] X.env := by rfl) (hpl : (backTo pos (starEach [e2] X.env)).any (·.1) = false := by rfl) :
    DIB X W (.Tuple es k tpos) (.Call (.Name "zip" p) [e1, e2] [] pos) (cIt zip2D q) :=
  ⟨pi_imp (RZ.pi_zipA hg hm ha.pa hs hpl) fun σ H R' ⟨F0, H0, F, ρ, r, k⟩ => ⟨F0, H0, F, ρ, r, (ROk.step (r := q ρ) k).imp fun as F1 H1 _ g1 q1 vs hvs => by
    obtain ⟨ds, e, z⟩ := q1.ofO
    unfold zip2D at e
    split at e
    · cases e
      obtain ⟨x, y, rfl, b, c⟩ := bw2 hvs
      obtain ⟨p1, vs, rfl, h1, h2⟩ := b.list g1.in_
      obtain ⟨p2, us, rfl, h3, h4⟩ := c.list g1.in_
      exact ⟨p1, p2, vs, us, rfl, .inl ⟨Or.inl (Or.inl h1), Or.inl (Or.inl h3), z F1 H1 (.refl g1.in_) _ (itd_zipL fun F2 H2 g => ⟨g.in_, b.grow g, c.grow g⟩)⟩⟩
    · cases e
      obtain ⟨x, y, rfl, b, c⟩ := bw2 hvs
      obtain ⟨p1, vs, rfl, h1, h2⟩ := b.tuple g1.in_
      obtain ⟨p2, us, rfl, h3, h4⟩ := c.tuple g1.in_
      exact ⟨p1, p2, vs, us, rfl, .inr ⟨h1, h3, z F1 H1 (.refl g1.in_) _ (itd_zipT fun F2 H2 g => ⟨g.in_, b.grow g, c.grow g⟩)⟩⟩
    · cases e⟩⟩
theorem di_zip {k : Nat} {tpos : Pos} (hg : Gl X "zip") (hm : X.mg "zip" = none) (ha : DA X W [e1, e2] q) (hs : starEach [e1, e2] X.env = (false, eval e1 X.env) :: starEach [e2] X.env := by rfl) (hpl : (backTo pos (starEach [e2] X.env)).any (·.1) = false := by rfl) :
    DI X W (.Tuple es k tpos) (.Call (.Name "zip" p) [e1, e2] [] pos) (cIt zip2D q) :=
  ⟨pi_imp (RZ.pi_zipA hg hm ha.pa hs hpl) fun σ H R' ⟨F0, H0, F, ρ, r, k⟩ => ⟨F0, H0, F, ρ, r, (ROk.step (r := q ρ) k).imp fun as F1 H1 _ g1 q1 vs hvs => by
    obtain ⟨ds, e, z⟩ := q1.ofO
    unfold zip2D at e
    split at e
    · cases e
      cases hvs with
      | cons a1 a2 =>
        cases a2 with
        | cons a2 a3 =>
          cases a3
          obtain ⟨p1, vs, rfl, h1, h2⟩ := (Bw.fr a1).list g1.in_
          obtain ⟨p2, us, rfl, h3, h4⟩ := (Bw.fr a2).list g1.in_
          exact ⟨p1, p2, vs, us, rfl, .inl ⟨Or.inl (Or.inl h1), Or.inl (Or.inl h3), z F1 H1 (.refl g1.in_) _ (itd_zipL fun F2 H2 g => ⟨g.2, .fr (a1.up g.1), .fr (a2.up g.1)⟩)⟩⟩
    · cases e
      cases hvs with
      | cons a1 a2 =>
        cases a2 with
        | cons a2 a3 =>
          cases a3
          obtain ⟨p1, vs, rfl, h1, h2⟩ := (Bw.fr a1).tuple g1.in_
          obtain ⟨p2, us, rfl, h3, h4⟩ := (Bw.fr a2).tuple g1.in_
          exact ⟨p1, p2, vs, us, rfl, .inr ⟨h1, h3, z F1 H1 (.refl g1.in_) _ (itd_zipT fun F2 H2 g => ⟨g.2, .fr (a1.up g.1), .fr (a2.up g.1)⟩)⟩⟩
    · cases e⟩⟩
end

/-! ### list comprehensions -/
def wipeR (ρ : Env) : List Nat → Env
  | [] => ρ
  | v :: vs => (wipeR ρ vs).set v .no
theorem Rep.wipe {K : PySem.W.Frag} {F0 H0 F H : Hp} {ρ : Env} {σ : L2.St} (r : Rep K F0 H0 F H ρ σ) : ∀ vs : List Nat, Rep K F0 H0 F H (wipeR ρ vs) (wipe σ vs)
  | [] => r
  | v :: vs => (r.wipe vs).drop v none
theorem wipe_at {σ : L2.St} {i : Nat} : ∀ {vs : List Nat}, i ∈ vs → i < σ.length → (wipe σ vs)[i]? = some none
  | v :: vs, h, hl => by
    unfold wipe
    by_cases e : v = i
    · subst e
      rw [List.getElem?_set_self (by rw [wipe_length]; exact hl)]
    · rw [List.getElem?_set_ne e]
      exact wipe_at (by
        rcases (List.mem_cons.mp h) with z | z
        · exact absurd z.symm e
        · exact z) hl
theorem wipe_out2 {σ σ' : L2.St} {ts vs : List Nat} (o : Out2 (wipe σ vs) σ' ts) (h : ∀ j ∈ ts, j ∈ vs) : wipe σ' vs = wipe σ vs := by
  apply List.ext_getElem?
  intro j
  have len : σ'.length = σ.length := o.1.trans (wipe_length σ vs)
  by_cases hj : j ∈ vs
  · by_cases hl : j < σ.length
    · rw [wipe_at hj hl, wipe_at hj (by rw [len]; exact hl)]
    · rw [List.getElem?_eq_none (by rw [wipe_length]; omega), List.getElem?_eq_none (by rw [wipe_length]; omega)]
  · rw [wipe_out hj]
    exact o.2 j fun z => hj (h j z)
def lcGo (s : D → Env → Option Env) (t : Env → R Bool) (el : Env → R D) (ρ : Env) : List D → R (List D)
  | [] => .ok []
  | d :: ds => (ofO (s d ρ)).bind fun ρ' => (t ρ').bind fun b => if b = true then (el ρ').bind fun y => (lcGo s t el ρ ds).bind fun ys => .ok (y :: ys) else lcGo s t el ρ ds
/-- the parts of a comprehension raise nothing -/
def noX {α : Type} : R α → R α
  | .ok a => .ok a
  | _ => .bad
def cLc (it : Env → R (List D)) (s : D → Env → Option Env) (t : Env → R Bool) (el : Env → R D) (vs : List Nat) : Env → R (List D) := fun ρ => (it ρ).bind fun ds => if ds.length ≤ 100000 then noX (lcGo s t el (wipeR ρ vs) ds) else .bad
abbrev W0 : WX := fun _ _ _ _ => False
def cYes : Env → R Bool := fun _ => .ok true
structure DTs (X : Cx) (W : WX) (ifs : List Expr) (f : Env → R Bool) : Prop where
  pts : PTs X ifs (tD X.K X.mg W f)
theorem dts_nil {X : Cx} {W : WX} : DTs X W [] cYes := ⟨⟨fun pins s σ H Q I ⟨F0, H0, F, ρ, r, k⟩ => pts_nil.run pins s σ H Q I (k F H (.refl r.g.in_))⟩⟩
theorem dts_one {X : Cx} {W : WX} {c : Expr} {f : Env → R Bool} (h : DT X W c f) : DTs X W [c] f := ⟨pts_one h.pt⟩
section
variable {K : PySem.W.Frag} {mg : Str → Option Value} {W : WX} {σ : L2.St} {s : D → Env → Option Env} {t : Env → R Bool} {el : Env → R D} {vs ts : List Nat}
theorem bind_ok {α β : Type} {r : R α} {k : α → R β} {b : β} (h : r.bind k = .ok b) : ∃ a, r = .ok a ∧ k a = .ok b := by
  cases r with
  | ok a => exact ⟨a, rfl, h⟩
  | exc x => cases h
  | bad => cases h
theorem ofO_ok {α : Type} {o : Option α} {a : α} (h : ofO o = .ok a) : o = some a := by
  cases o with
  | some b => cases h; rfl
  | none => cases h
theorem noX_ok {α : Type} {r : R α} {a : α} (h : noX r = .ok a) : r = .ok a := by
  cases r with
  | ok b => exact h
  | exc x => cases h
  | bad => cases h
theorem noX_ROk {α : Type} {W : XK} {F H : Hp} {P : α → Hp → Hp → Prop} {r : R α} (h : ROk K mg W F H P (noX r)) : ∃ a, r = .ok a ∧ ∀ F' H', Grow F H F' H' → P a F' H' := by
  cases r with
  | ok a => exact ⟨a, rfl, h⟩
  | exc x => exact h.elim
  | bad => exact h.elim
theorem lcGo_inv {ρ : Env} {d : D} {ds ys : List D} (h : lcGo s t el ρ (d :: ds) = .ok ys) : ∃ ρ' b, s d ρ = some ρ' ∧ t ρ' = .ok b ∧
    ((b = true ∧ ∃ y zs, el ρ' = .ok y ∧ lcGo s t el ρ ds = .ok zs ∧ ys = y :: zs) ∨ (b = false ∧ lcGo s t el ρ ds = .ok ys)) := by
  unfold lcGo at h
  obtain ⟨ρ', h1, h⟩ := bind_ok h
  obtain ⟨b, h2, h⟩ := bind_ok h
  refine ⟨ρ', b, ofO_ok h1, h2, ?_⟩
  cases b with
  | true =>
    rw [if_pos rfl] at h
    obtain ⟨y, h3, h⟩ := bind_ok h
    obtain ⟨zs, h4, h⟩ := bind_ok h
    cases h
    exact .inl ⟨rfl, y, zs, h3, h4, rfl⟩
  | false =>
    rw [if_neg (by exact Bool.false_ne_true)] at h
    exact .inr ⟨rfl, h⟩
theorem lcGo_len {ρ : Env} : ∀ {ds ys : List D}, lcGo s t el ρ ds = .ok ys → ys.length ≤ ds.length
  | [], ys, h => by cases h; exact Nat.le_refl _
  | d :: ds, ys, h => by
    obtain ⟨ρ', b, _, _, i⟩ := lcGo_inv h
    rcases i with ⟨_, y, zs, _, i, rfl⟩ | ⟨_, i⟩
    · exact Nat.succ_le_succ (lcGo_len i)
    · exact Nat.le_succ_of_le (lcGo_len i)
theorem ex_mut {F H : Hp} {p : Addr} {o : HO} (e : Ex F H) (n : F p = none) : Ex F (upd H p o) := Ex.mut e n
theorem lc_read {it : Env → R (List D)} {H : Hp} {Q : VK} (hts : ∀ j ∈ ts, j ∈ vs) (k : tN K mg W (cLc it s t el vs) σ H Q) :
    tLc (tIB K mg W it) (tG K ts s) (tD K mg W0 t) (tE K mg W0 el) vs σ H Q := by
  obtain ⟨F0, H0, F, ρ, r, k⟩ := k
  refine ⟨F0, H0, F, ρ, r, (ROk.step (r := it ρ) k).imp fun ds F1 H1 _ g1 q1 J itd Dl hD => ?_⟩
  split at q1
  · rename_i hlen
    obtain ⟨ys, hys, q⟩ := noX_ROk q1
    have fD : ∀ {F' : Hp} {H' : Hp}, Grow F1 H1 F' H' → F' Dl = none ∨ F' Dl ≠ none := fun _ => Classical.em _
    refine ⟨fun i m H2 => m = ds.length - i ∧ i ≤ ds.length ∧ ∃ F2 acc us zs, Ex F1 F2 ∧ Ex H1 H2 ∧ Ex F2 H2 ∧ (∀ p o, F2 p = some o → F1 p = none → H1 p = none) ∧ F2 Dl = none ∧ H2 Dl = some (.lst us) ∧ DaAll K F2 us acc ∧ acc.length ≤ i ∧
      lcGo s t el (wipeR ρ vs) (ds.drop i) = .ok zs ∧ ys = acc ++ zs, ⟨ds.length, by simp, Nat.zero_le _, F1, [], [], ys, .refl _, Ex.new hD, g1.in_.trans (Ex.new hD), fun p o a b => (by rw [a] at b; cases b), Evl.fresh_back g1.in_ hD, upd_same, .nil, Nat.zero_le _, hys, rfl⟩, ?_⟩
    rintro i m H2 ⟨rfl, hi, F2, acc, us, zs, f1, f2, f3, f4, f5, f6, f7, f8, f9, f10⟩
    have gr : Grow F1 H1 F2 H2 := ⟨f1, f2, f3, f4⟩
    by_cases hlt : i < ds.length
    · have hdrop : ds.drop i = ds[i] :: ds.drop (i + 1) := List.drop_eq_getElem_cons hlt
      rw [hdrop] at f9
      obtain ⟨ρ', b, i1, i2, i3⟩ := lcGo_inv f9
      refine .inr ⟨itd.goes i F2 H2 gr hlt, fun H' => ∃ F3 acc us zs, Ex F1 F3 ∧ Ex H1 H' ∧ Ex F3 H' ∧ (∀ p o, F3 p = some o → F1 p = none → H1 p = none) ∧ F3 Dl = none ∧ H' Dl = some (.lst us) ∧ DaAll K F3 us acc ∧ acc.length ≤ i + 1 ∧
        lcGo s t el (wipeR ρ vs) (ds.drop (i + 1)) = .ok zs ∧ ys = acc ++ zs, fun H' n => ⟨ds.length - (i + 1), by omega, rfl, hlt, n⟩, fun x H3 hy => ?_⟩
      obtain ⟨F3, g3, hx⟩ := itd.yields i F2 H2 x H3 ds[i] gr f3 (List.getElem?_eq_getElem hlt) hy
      have gr3 := gr.trans g3
      refine ⟨F0, H0, F3, wipeR ρ vs, ds[i], ρ', ((r.grow g1).grow gr3).wipe vs, hx, i1, fun σ2 r2 o2 => ⟨wipe_out2 o2 hts, F0, H0, F3, ρ', r2, ?_⟩⟩
      rw [i2]
      intro F4 H4 g4
      have r4 := r2.grow g4
      have gr4 := gr3.trans g4
      have noF : ∀ {F' H' : Hp}, Grow F2 H2 F' H' → F' Dl = none := fun {F' H'} g => by
        cases q : F' Dl with
        | none => rfl
        | some o =>
          have z := g.new Dl o q f5
          rw [f6] at z; cases z
      rcases i3 with ⟨rfl, y, zs', j1, j2, rfl⟩ | ⟨rfl, j2⟩
      · refine iteT ?_
        refine ⟨F0, H0, F4, ρ', r4, ?_⟩
        rw [j1]
        intro F5 H5 g5 v hv
        have gr5 := gr4.trans g5
        have g25 := (g3.trans g4).trans g5
        refine ⟨us, g25.h _ _ f6, ?_, F5, acc ++ [y], us ++ [v], zs', gr5.f, Ex.mut gr5.h hD, Ex.mut gr5.in_ (noF g25), gr5.new, noF g25, upd_same, dpa_app (f7.up g25.f) (.one hv), by rw [List.length_append]; simp; omega, j2, by rw [f10]; simp⟩
        rw [dpa_len f7]
        exact Evl.sz_lt (by omega)
      · refine iteF ?_
        have g24 := g3.trans g4
        exact ⟨F4, acc, us, zs, gr4.f, gr4.h, gr4.in_, gr4.new, noF g24, g24.h _ _ f6, f7.up g24.f, by omega, j2, f10⟩
    · have e : i = ds.length := by omega
      subst e
      rw [List.drop_length] at f9
      cases f9
      rw [List.append_nil] at f10
      subst f10
      exact .inl ⟨itd.stops F2 H2 gr, q F2 H2 gr Dl us (Evl.fresh_back g1.h hD) f5 f6 f7⟩
  · exact q1.elim
end
section
variable {X : Cx} {W : WX} {tg iter elt : Expr} {ifs : List Expr} {scope : Scope} {own : List (Str × Nat)} {pos spos py : Pos} {it : Env → R (List D)} {s : D → Env → Option Env} {t : Env → R Bool} {el : Env → R D} {ts vs : List Nat}
theorem dn_lc (hc : X.calm = true) (hN : X.N.Nodup) (hi : DIB X W tg iter it) (ok : BlkOk X.N X.env.scope scope own)
    (hg : ∀ (s' : Shared) (H : Hp) (C : Addr) (cl : List (Str × Addr)) (fp : List Addr), DG (X.blk s' H scope (compEnvC scope cl C X.env) fp) ts tg s)
    (ht : ∀ (s' : Shared) (H : Hp) (C : Addr) (cl : List (Str × Addr)) (fp : List Addr), DTs (X.blk s' H scope (compEnvC scope cl C X.env) fp) W0 ifs t)
    (he : ∀ (s' : Shared) (H : Hp) (C : Addr) (cl : List (Str × Addr)) (fp : List Addr), DE (X.blk s' H scope (compEnvC scope cl C X.env) fp) W0 elt el)
    (hvs : own.map (·.2) = vs) (hts : ∀ j ∈ ts, j ∈ vs) (hs : ∀ x, foldedSetIterable iter X.env x = pure x := by intro _; rfl) :
    DN X W (.ListComp elt [⟨tg, iter, ifs, 0⟩] scope pos) (cLc it s t el vs) := by
  subst hvs
  exact
  ⟨pe_imp (pe_lc hc hN hi.pi ok (fun a b c d e => (hg a b c d e).pg) (fun a b c d e => (ht a b c d e).pts) (fun a b c d e => (he a b c d e).pe) hs) fun σ H Q k => lc_read hts k⟩
end
end DL

/-! DLe -/
namespace DL
open PySem L2 PySem.Spec PyProof.Rows
open Evl (Ex ex_l ex_t ex_rd)

/-! ### statements -/
/-- what is asked behind a statement that comes out so -/
def OOk (K : PySem.W.Frag) (mg : Str → Option Value) (W : WX) (F0 H0 F : Hp) (Z : Ends) : Out → Prop
  | .nx ρ => ∀ F' H' σ', Ex F F' → Rep K F0 H0 F' H' ρ σ' → Z.nx σ' H'
  | .rt d => ∀ v F' H', Ex F F' → Grow F0 H0 F' H' → Da K F' v d → Z.rt v H'
  | .ex x ρ => ∀ cls dd F' H' σ', Ex F F' → Rep K F0 H0 F' H' ρ σ' → XRep K mg F' x cls dd → W cls dd σ' H'
  | .bk ρ => ∀ F' H' σ', Ex F F' → Rep K F0 H0 F' H' ρ σ' → Z.bk σ' H'
  | .ct ρ => ∀ F' H' σ', Ex F F' → Rep K F0 H0 F' H' ρ σ' → Z.ct σ' H'
  | .bad => False
theorem OOk.up {K : PySem.W.Frag} {mg : Str → Option Value} {W : WX} {F0 H0 F F' : Hp} {Z : Ends} {o : Out} (h : OOk K mg W F0 H0 F Z o) (e : Ex F F') : OOk K mg W F0 H0 F' Z o := by
  cases o with
  | nx ρ => exact fun F2 H2 σ2 e2 r => h F2 H2 σ2 (e.trans e2) r
  | rt d => exact fun v F2 H2 e2 r => h v F2 H2 (e.trans e2) r
  | ex x ρ => exact fun c d F2 H2 σ2 e2 r => h c d F2 H2 σ2 (e.trans e2) r
  | bk ρ => exact fun F2 H2 σ2 e2 r => h F2 H2 σ2 (e.trans e2) r
  | ct ρ => exact fun F2 H2 σ2 e2 r => h F2 H2 σ2 (e.trans e2) r
  | bad => exact h
def tS (K : PySem.W.Frag) (mg : Str → Option Value) (W : WX) (g : Env → Out) : TS := fun Z σ H => ∃ F0 H0 F ρ, Rep K F0 H0 F H ρ σ ∧ OOk K mg W F0 H0 F Z (g ρ)
structure DS (X : Cx) (W : WX) (st : Stmt) (g : Env → Out) : Prop where
  ps : PS X st (tS X.K X.mg W g)
structure DSs (X : Cx) (W : WX) (st : List Stmt) (g : Env → Out) : Prop where
  pss : PSs X st (tS X.K X.mg W g)
/-- an expression's result, then what is done -/
def exB {α : Type} (ρ : Env) (r : R α) (k : α → Out) : Out := match r with
  | .ok a => k a
  | .exc x => .ex x ρ
  | .bad => .bad
theorem exB_ok {α : Type} {K : PySem.W.Frag} {mg : Str → Option Value} {W : WX} {F0 H0 F H : Hp} {Z : Ends} {ρ : Env} {σ : L2.St} {r : R α} {k : α → Out} {P : α → Hp → Hp → Prop} (rp : Rep K F0 H0 F H ρ σ) (h : OOk K mg W F0 H0 F Z (exB ρ r k))
    (q : ∀ a F' H', Grow F H F' H' → OOk K mg W F0 H0 F' Z (k a) → P a F' H') : ROk K mg (fun c d H' => W c d σ H') F H P r := by
  cases r with
  | ok a => exact fun F' H' g => q a F' H' g (h.up g.f)
  | exc x => exact fun c d F' H' g xr => h c d F' H' σ g.f (rp.grow g) xr
  | bad => exact h
def sNx : Env → Out := fun ρ => .nx ρ
def sSeq (g h : Env → Out) : Env → Out := fun ρ => match g ρ with
  | .nx ρ' => h ρ'
  | o => o
section
variable {X : Cx} {W : WX} {st : Stmt} {sts : List Stmt} {e e1 e2 : Expr} {pos : Pos} {g h : Env → Out} {f : Env → R D}
theorem dss_nil : DSs X W [] sNx := ⟨pss_imp pss_nil fun Z σ H ⟨F0, H0, F, ρ, r, k⟩ => k F H σ (.refl F) r⟩
theorem dss_cons (h1 : DS X W st g) (h2 : DSs X W sts h) : DSs X W (st :: sts) (sSeq g h) := ⟨pss_imp (pss_cons h1.ps h2.pss) fun Z σ H ⟨F0, H0, F, ρ, r, k⟩ => by
  have k : OOk X.K X.mg W F0 H0 F Z (match g ρ with | .nx ρ' => h ρ' | o => o) := k
  refine ⟨F0, H0, F, ρ, r, ?_⟩
  cases hg : g ρ with
  | nx ρ' =>
    rw [hg] at k
    exact fun F' H' σ' e r' => ⟨F0, H0, F', ρ', r', k.up e⟩
  | rt d => rw [hg] at k; exact k
  | ex x ρ' => rw [hg] at k; exact k
  | bk ρ' => rw [hg] at k; exact k
  | ct ρ' => rw [hg] at k; exact k
  | bad => rw [hg] at k; exact k⟩
theorem dss_one (h1 : DS X W st g) : DSs X W [st] g := ⟨pss_one h1.ps⟩
theorem ds_pass : DS X W (.Pass pos) sNx := ⟨ps_imp ps_pass fun Z σ H ⟨F0, H0, F, ρ, r, k⟩ => k F H σ (.refl F) r⟩
def sBk : Env → Out := fun ρ => .bk ρ
def sCt : Env → Out := fun ρ => .ct ρ
theorem ds_break : DS X W (.Break pos) sBk := ⟨ps_imp ps_break fun Z σ H ⟨F0, H0, F, ρ, r, k⟩ => k F H σ (.refl F) r⟩
theorem ds_cont : DS X W (.Continue pos) sCt := ⟨ps_imp ps_continue fun Z σ H ⟨F0, H0, F, ρ, r, k⟩ => k F H σ (.refl F) r⟩
def sRet (f : Env → R D) : Env → Out := fun ρ => exB ρ (f ρ) fun d => .rt d
theorem ds_ret (ha : DE X W e f) : DS X W (.Return (some e) pos) (sRet f) := ⟨ps_imp (ps_ret ha.pe) fun Z σ H ⟨F0, H0, F, ρ, r, k⟩ => ⟨F0, H0, F, ρ, r, exB_ok r k fun d F' H' gr q v hv => q v F' H' (.refl _) (r.g.trans gr) hv⟩⟩
def sRetN : Env → Out := fun _ => .rt .none
theorem ds_retN : DS X W (.Return none pos) sRetN := ⟨ps_imp ps_retN fun Z σ H ⟨F0, H0, F, ρ, r, k⟩ => k .non F H (.refl F) r.g .non⟩
def sIf (t : Env → R Bool) (g h : Env → Out) : Env → Out := fun ρ => exB ρ (t ρ) fun b => if b = true then g ρ else h ρ
theorem ds_if {t : Env → R Bool} {s1 s2 : List Stmt} (hc : DT X W e t) (h1 : DSs X W s1 g) (h2 : DSs X W s2 h) : DS X W (.If e s1 s2 pos) (sIf t g h) :=
  ⟨ps_imp (ps_if hc.pt h1.pss h2.pss) fun Z σ H ⟨F0, H0, F, ρ, r, k⟩ => ⟨F0, H0, F, ρ, r, exB_ok r k fun b F' H' gr q => by
    cases b with
    | true => exact ⟨F0, H0, F', ρ, r.grow gr, q⟩
    | false => exact ⟨F0, H0, F', ρ, r.grow gr, q⟩⟩⟩
def sDrop (f : Env → R D) : Env → Out := fun ρ => exB ρ (f ρ) fun _ => .nx ρ
theorem ds_drop (ha : DE X W e f) (hs : swapsWith e none pos.line X.env = pure false := by rfl) : DS X W (.Expr e pos) (sDrop f) :=
  ⟨ps_imp (ps_expr ha.pe hs) fun Z σ H ⟨F0, H0, F, ρ, r, k⟩ => ⟨F0, H0, F, ρ, r, exB_ok r k fun d F' H' gr q v hv => q F' H' σ (.refl _) (r.grow gr)⟩⟩
/-- x = e -/
def sAsg (i : Nat) (f : Env → R SV) : Env → Out := fun ρ => exB ρ (f ρ) fun sv => .nx (ρ.set i sv)
theorem ds_asg {i : Nat} {x : Str} {f : Env → R SV} {pos' : Pos} (hN : X.N.Nodup) (hi : X.N[i]? = some x) (hx : Loc X.env.scope x) (ha : DX X W e f) (hs : swapsWith e (some (.Name x pos')) pos.line X.env = pure false := by rfl)
    (hf : X.fn x = true ∨ X.env.scope.names.lookup x = some .local := by first | exact .inl rfl | exact .inr rfl | assumption) : DS X W (.Assign [.Name x pos'] e pos) (sAsg i f) :=
  ⟨ps_imp (ps_set hN hi hx ha.pe hs hf) fun Z σ H ⟨F0, H0, F, ρ, r, k⟩ => ⟨F0, H0, F, ρ, r, exB_ok r k fun sv F' H' gr q v hv => q F' H' _ (.refl _) (r.setSV gr hv i)⟩⟩
/-- x = [.. for ..] on one line, x a plain local -/
theorem ds_setLc {i : Nat} {y : Str} {py : Pos} {tg iter elt : Expr} {ifs : List Expr} {scope : Scope} {own : List (Str × Nat)} {p : Pos} {it : Env → R (List D)} {s : D → Env → Option Env} {t : Env → R Bool} {el : Env → R D} {ts vs : List Nat}
    (hc : X.calm = true) (hN : X.N.Nodup) (hy : X.N[i]? = some y) (hyl : X.env.scope.names.lookup y = some .local)
    (hsw : swapsWith (.ListComp elt [⟨tg, iter, ifs, 0⟩] scope p) (some (.Name y py)) pos.line X.env = pure true) (hi : DIB X W tg iter it) (ok : BlkOk X.N X.env.scope scope own)
    (hg : ∀ (s' : Shared) (H : Hp) (C : Addr) (cl : List (Str × Addr)) (fp : List Addr), DG (X.blk s' H scope (compEnvC scope cl C X.env) fp) ts tg s)
    (ht : ∀ (s' : Shared) (H : Hp) (C : Addr) (cl : List (Str × Addr)) (fp : List Addr), DTs (X.blk s' H scope (compEnvC scope cl C X.env) fp) W0 ifs t)
    (he : ∀ (s' : Shared) (H : Hp) (C : Addr) (cl : List (Str × Addr)) (fp : List Addr), DE (X.blk s' H scope (compEnvC scope cl C X.env) fp) W0 elt el)
    (hvs : own.map (·.2) = vs) (hts : ∀ j ∈ ts, j ∈ vs) (hs : ∀ x, foldedSetIterable iter X.env x = pure x := by intro _; rfl) :
    DS X W (.Assign [.Name y py] (.ListComp elt [⟨tg, iter, ifs, 0⟩] scope p) pos) (sAsg i (asOwn (cLc it s t el vs))) := by
  subst hvs
  exact
  ⟨ps_imp (ps_setLc (wi := tIB X.K X.mg W it) (g := tG X.K ts s) (tt := tD X.K X.mg W0 t) (te := tE X.K X.mg W0 el) hc hN hy hyl hsw hi.pi ok (fun a b c d e => (hg a b c d e).pg) (fun a b c d e => (ht a b c d e).pts) (fun a b c d e => (he a b c d e).pe) hs) fun Z σ H ⟨F0, H0, F, ρ, r, k⟩ => by
    refine lc_read hts ⟨F0, H0, F, ρ, r, ?_⟩
    have k : OOk X.K X.mg W F0 H0 F Z (exB ρ ((cLc it s t el (own.map (·.2)) ρ).bind fun d => .ok (.own d)) fun sv => .nx (ρ.set i sv)) := k
    have q := exB_ok (P := fun (sv : SV) F' H' => ∀ v, SVal X.K H F' H' v sv → Z.nx (σ.set i (some v)) H') r k fun sv F' H' gr q v hv => q F' H' _ (.refl _) (r.setSV gr hv i)
    exact (map_ok (k := fun d => SV.own d) q).imp fun ds F' H' _ gr z p vs h1 h2 h3 h4 => z _ ⟨p, vs, rfl, h1, h2, h3, h4⟩⟩
/-- targets of any form = frozen data -/
def sTo (s : D → Env → Option Env) (f : Env → R D) : Env → Out := fun ρ => exB ρ (f ρ) fun d => match s d ρ with
  | some ρ' => .nx ρ'
  | none => .bad
theorem ds_to {tg : Expr} {ts : List Nat} {s : D → Env → Option Env} (ha : DE X W e f) (hg : DG X ts tg s) (hs : swapsWithSole [tg] e pos.line X.env = pure false := by rfl) (hw : swappedStores [tg] e X.env = pure none := by rfl)
    (h1 : (assignEach [tg] X.env).map (·.2) = [assign tg X.env] := by rfl) : DS X W (.Assign [tg] e pos) (sTo s f) :=
  ⟨ps_imp (ps_asg ha.pe hg.pg hs hw h1) fun Z σ H ⟨F0, H0, F, ρ, r, k⟩ => ⟨F0, H0, F, ρ, r, exB_ok r k fun d F' H' gr q v hv => by
    cases hd : s d ρ with
    | none => rw [hd] at q; exact q.elim
    | some ρ' =>
      rw [hd] at q
      exact ⟨F0, H0, F', ρ, d, ρ', r.grow gr, hv, hd, fun σ' r' _ => q F' H' σ' (.refl _) r'⟩⟩⟩
/-- a, b = e1, e2 -/
def sPar (i j : Nat) (f g : Env → R SV) : Env → Out := fun ρ => exB ρ (f ρ) fun x => exB ρ (g ρ) fun y => .nx ((ρ.set i x).set j y)
theorem ds_par {i j : Nat} {x y : Str} {px py pt : Pos} {kt k2 pt2} {f g : Env → R SV} (hc : X.calm = true) (hN : X.N.Nodup) (hi : X.N[i]? = some x) (hj : X.N[j]? = some y) (hij : i ≠ j)
    (hx : X.env.scope.names.lookup x = some .local) (hy : X.env.scope.names.lookup y = some .local) (ha : DX X W e1 f) (hb : DX X W e2 g)
    (hw : swappedStores [.Tuple [.Name x px, .Name y py] kt pt] (.Tuple [e1, e2] k2 pt2) X.env = pure (some [x, y]))
    (hs : swapsWithSole [.Tuple [.Name x px, .Name y py] kt pt] (.Tuple [e1, e2] k2 pt2) pos.line X.env = pure false := by rfl)
    (he1 : starEach [e1, e2] X.env = (false, eval e1 X.env) :: starEach [e2] X.env := by rfl) (he2 : starEach [e2] X.env = (false, eval e2 X.env) :: starEach [] X.env := by rfl) :
    DS X W (.Assign [.Tuple [.Name x px, .Name y py] kt pt] (.Tuple [e1, e2] k2 pt2) pos) (sPar i j f g) :=
  ⟨ps_imp (ps_par hc hN hi hj hij hx hy (pa_cons ha.pe (pa_cons hb.pe pa_nil he2) he1) hw hs) fun Z σ H ⟨F0, H0, F, ρ, r, k⟩ => ⟨F0, H0, F, ρ, r, exB_ok r k fun a F1 H1 g1 q1 v hv => by
    refine ⟨F0, H0, F1, ρ, r.grow g1, exB_ok (r.grow g1) q1 fun b F2 H2 g2 q2 u hu => ⟨v, u, rfl, ?_⟩⟩
    have hv2 : SVal X.K H F2 H2 v a := by
      cases a with
      | no => exact hv
      | val d => exact Da.up hv g2.f
      | own ds =>
        obtain ⟨p, vs, rfl, h1, h2, h3, h4⟩ := hv
        refine ⟨p, vs, rfl, h1, ?_, g2.h _ _ h3, h4.up g2.f⟩
        cases z : F2 p with
        | none => rfl
        | some o =>
          have w := g2.new p o z h2
          rw [h3] at w; cases w
      | dic ds =>
        obtain ⟨p, vs, rfl, h1, h2, h3, h4⟩ := hv
        refine ⟨p, vs, rfl, h1, ?_, g2.h _ _ h3, h4.up g2.f⟩
        cases z : F2 p with
        | none => rfl
        | some o =>
          have w := g2.new p o z h2
          rw [h3] at w; cases w
    have r1 := r.setSV (g1.trans g2) hv2 i
    exact q2 F2 H2 _ (.refl _) (by
      have r0 := (r.grow g1)
      have rr : Rep X.K F0 H0 F1 H1 (ρ.set i a) (σ.set i (some v)) := r.setSV g1 hv i
      exact rr.setSV g2 hu j)⟩⟩
/-- an own list given away at this statement: frozen ahead of it -/
def sFrz (i : Nat) (g : Env → Out) : Env → Out := fun ρ => g (frz i ρ)
theorem ds_frz (i : Nat) (h1 : DS X W st g) : DS X W st (sFrz i g) := ⟨ps_imp h1.ps fun Z σ H ⟨F0, H0, F, ρ, r, k⟩ => by
  obtain ⟨F', e, r'⟩ := r.frz i
  exact ⟨F0, H0, F', _, r', k.up e⟩⟩
/-- x += e, x -= e -/
def sAug (i : Nat) (o : D → D → Option D) (f : Env → R D) : Env → Out := fun ρ => match cVar i ρ with
  | .ok a => exB ρ (f ρ) fun b => match o a b with
    | some c => .nx (ρ.set i (.val c))
    | none => .bad
  | _ => .bad
theorem ds_aug {i : Nat} {x : Str} {op : Operator} {ti : TIp} {o : D → D → Option D} {pos' : Pos} (hN : X.N.Nodup) (hi : X.N[i]? = some x) (hx : Loc X.env.scope x) (ho : PIp X op ti) (hr : RdO X.K ti o) (ha : DE X W e f)
    (hf : X.fn x = true ∨ X.env.scope.names.lookup x = some .local := by first | exact .inl rfl | exact .inr rfl | assumption) : DS X W (.AugAssign (.Name x pos') op e pos) (sAug i o f) :=
  ⟨ps_imp (ps_aug hN hi hx ha.pe ho hf) fun Z σ H ⟨F0, H0, F, ρ, r, k⟩ => by
    have k : OOk X.K X.mg W F0 H0 F Z (match cVar i ρ with | .ok a => exB ρ (f ρ) fun b => (match o a b with | some c => .nx (ρ.set i (.val c)) | none => .bad) | _ => .bad) := k
    cases hc : cVar i ρ with
    | ok a =>
      rw [hc] at k
      have hρ : ρ[i]? = some (.val a) := by
        unfold cVar at hc
        split at hc
        · rename_i d e; cases hc; exact e
        · cases hc
      obtain ⟨v, e1, e2⟩ := r.val i a hρ
      refine ⟨v, e1, F0, H0, F, ρ, r, exB_ok r k fun b F' H' gr q u hu => ?_⟩
      cases hq : o a b with
      | none => rw [hq] at q; exact q.elim
      | some c =>
        rw [hq] at q
        exact hr F' H' v u a b c gr.in_ (.fr (e2.up gr.f)) (.fr hu) hq _ fun F2 H2 g2 w hw => q F2 H2 _ g2.f (((r.grow gr).grow g2).setVal hw i)
    | exc x => rw [hc] at k; exact k.elim
    | bad => rw [hc] at k; exact k.elim⟩
/-- + of ints, texts in place -/
def oAugAdd : D → D → Option D
  | .int i, .int j => some (.int (i + j))
  | .str x, .str y => if x.length + y.length ≤ 100000 then some (.str (x ++ y)) else none
  | _, _ => none
theorem ip_addD : PIp X .Add (fun x y H Q => (rI0 fun i j => .int (i + j)) x y H Q ∨ (∃ i j, x = .str i ∧ y = .str j ∧ i.length + j.length ≤ sizeLine ∧ Q (.str (i ++ j)) H)) := fun pins s σ H x y v u Q I r1 r2 h => by
  rcases h with h | h
  · exact iop_add pins s σ H x y v u Q I r1 r2 h
  · exact iop_add_str pins s σ H x y v u Q I r1 r2 h
theorem rd_augadd {K : PySem.W.Frag} : RdO K (fun x y H Q => (rI0 fun i j => .int (i + j)) x y H Q ∨ (∃ i j, x = .str i ∧ y = .str j ∧ i.length + j.length ≤ sizeLine ∧ Q (.str (i ++ j)) H)) oAugAdd := fun F H x y a b c e hx hy hc Q k => by
  cases a <;> cases b <;> simp only [oAugAdd] at hc <;> try (cases hc; done)
  · cases hc; exact .inl ⟨_, _, hx.int, hy.int, flat_q e (.int _) k⟩
  · split at hc
    · rename_i z
      cases hc
      exact .inr ⟨_, _, hx.str, hy.str, Evl.sz_of z, flat_q e (.str _) k⟩
    · cases hc
theorem ip_subD : PIp X .Sub (rI0 fun i j => .int (i - j)) := fun pins s σ H x y v u Q I r1 r2 h => iop_sub pins s σ H x y v u Q I r1 r2 h

/-- x.append(e), x an own list -/
def sApp (i : Nat) (f : Env → R D) : Env → Out := fun ρ => match ρ[i]? with
  | some (.own ds) => exB ρ (f ρ) fun d => if ds.length < 100000 then .nx (ρ.set i (.own (ds ++ [d]))) else .bad
  | _ => .bad
theorem Rep.mut {K : PySem.W.Frag} {F0 H0 F H : Hp} {ρ : Env} {σ : L2.St} {i : Nat} {ds es : List D} {p : Addr} {us : List V} (r : Rep K F0 H0 F H ρ σ) (hi : ρ[i]? = some (.own ds)) (hp : σ[i]? = some (some (.ref p))) (hH : ∃ ws, H p = some (.lst ws)) (h0 : H0 p = none) (hF : F p = none) (ha : DaAll K F us es) :
    Rep K F0 H0 F (upd H p (.lst us)) (ρ.set i (.own es)) σ := by
  have hl : i < ρ.length := (List.getElem?_eq_some_iff.mp hi).1
  have pn : ∀ {j : Nat} {xs : List D} {p' : Addr}, i ≠ j → ρ[j]? = some (.own xs) → σ[j]? = some (some (.ref p')) → p' ≠ p := fun {j xs p'} ne e1 e2 z => by
    subst z
    exact r.inj i j _ _ p' ne hi e1 hp e2
  refine ⟨⟨r.g.f, Ex.mut r.g.h h0, Ex.mut r.g.in_ hF, r.g.new⟩, by simp [r.len], fun j d e => ?_, fun j xs e => ?_, fun j k xs ys q ne e1 e2 e3 e4 => ?_, fun j xs e => ?_, fun j k xs ys q ne e1 e2 e3 e4 => ?_⟩
  · rcases lset_get e with ⟨_, z⟩ | ⟨_, z⟩
    · cases z
    · exact r.val j d z
  · rcases lset_get e with ⟨rfl, z⟩ | ⟨ne, z⟩
    · cases z
      exact ⟨p, us, hp, h0, hF, upd_same, ha⟩
    · obtain ⟨p', vs, q1, q2, q3, q4, q5⟩ := r.own j xs z
      exact ⟨p', vs, q1, q2, q3, by rw [upd_ne (pn ne z q1)]; exact q4, q5⟩
  · rcases lset_get e1 with ⟨z1, _⟩ | ⟨_, z1⟩
    · rcases lset_get e2 with ⟨z2, _⟩ | ⟨n2, z2⟩
      · exact ne (z1.symm.trans z2)
      · subst z1
        exact r.inj i k ds ys q ne hi z2 e3 e4
    · rcases lset_get e2 with ⟨z2, _⟩ | ⟨_, z2⟩
      · subst z2
        exact r.inj j i xs ds q ne z1 hi e3 e4
      · exact r.inj j k xs ys q ne z1 z2 e3 e4
  · rcases lset_get e with ⟨_, z⟩ | ⟨_, z⟩
    · cases z
    · obtain ⟨p', vs, q1, q2, q3, q4, q5⟩ := r.dic j xs z
      refine ⟨p', vs, q1, q2, q3, ?_, q5⟩
      rw [upd_ne fun e => ?_]
      · exact q4
      · obtain ⟨ws, hw⟩ := hH
        rw [e, hw] at q4
        cases q4
  · rcases lset_get e1 with ⟨_, z⟩ | ⟨_, z1⟩
    · cases z
    · rcases lset_get e2 with ⟨_, z⟩ | ⟨_, z2⟩
      · cases z
      · exact r.injd j k xs ys q ne z1 z2 e3 e4
/-- an own dict written -/
theorem Rep.mutD {K : PySem.W.Frag} {F0 H0 F H : Hp} {ρ : Env} {σ : L2.St} {i : Nat} {ds es : List (Key × D)} {p : Addr} {us : List (Key × V)} (r : Rep K F0 H0 F H ρ σ) (hi : ρ[i]? = some (.dic ds)) (hp : σ[i]? = some (some (.ref p))) (hH : ∃ ws, H p = some (.dK ws))
    (h0 : H0 p = none) (hF : F p = none) (ha : DKs K F us es) : Rep K F0 H0 F (upd H p (.dK us)) (ρ.set i (.dic es)) σ := by
  have hl : i < ρ.length := (List.getElem?_eq_some_iff.mp hi).1
  have pn : ∀ {j : Nat} {xs : List (Key × D)} {p' : Addr}, i ≠ j → ρ[j]? = some (.dic xs) → σ[j]? = some (some (.ref p')) → p' ≠ p := fun {j xs p'} ne e1 e2 z => by
    subst z
    exact r.injd i j _ _ p' ne hi e1 hp e2
  refine ⟨⟨r.g.f, Ex.mut r.g.h h0, Ex.mut r.g.in_ hF, r.g.new⟩, by simp [r.len], fun j d e => ?_, fun j xs e => ?_, fun j k xs ys q ne e1 e2 e3 e4 => ?_, fun j xs e => ?_, fun j k xs ys q ne e1 e2 e3 e4 => ?_⟩
  · rcases lset_get e with ⟨_, z⟩ | ⟨_, z⟩
    · cases z
    · exact r.val j d z
  · rcases lset_get e with ⟨_, z⟩ | ⟨_, z⟩
    · cases z
    · obtain ⟨p', vs, q1, q2, q3, q4, q5⟩ := r.own j xs z
      refine ⟨p', vs, q1, q2, q3, ?_, q5⟩
      rw [upd_ne fun e => ?_]
      · exact q4
      · obtain ⟨ws, hw⟩ := hH
        rw [e, hw] at q4
        cases q4
  · rcases lset_get e1 with ⟨_, z⟩ | ⟨_, z1⟩
    · cases z
    · rcases lset_get e2 with ⟨_, z⟩ | ⟨_, z2⟩
      · cases z
      · exact r.inj j k xs ys q ne z1 z2 e3 e4
  · rcases lset_get e with ⟨rfl, z⟩ | ⟨ne, z⟩
    · cases z
      exact ⟨p, us, hp, h0, hF, upd_same, ha⟩
    · obtain ⟨p', vs, q1, q2, q3, q4, q5⟩ := r.dic j xs z
      exact ⟨p', vs, q1, q2, q3, by rw [upd_ne (pn ne z q1)]; exact q4, q5⟩
  · rcases lset_get e1 with ⟨z1, _⟩ | ⟨_, z1⟩
    · rcases lset_get e2 with ⟨z2, _⟩ | ⟨n2, z2⟩
      · exact ne (z1.symm.trans z2)
      · subst z1
        exact r.injd i k ds ys q ne hi z2 e3 e4
    · rcases lset_get e2 with ⟨z2, _⟩ | ⟨_, z2⟩
      · subst z2
        exact r.injd j i xs ds q ne z1 hi e3 e4
      · exact r.injd j k xs ys q ne z1 z2 e3 e4
theorem ds_app {i : Nat} {x : Str} {p1 p2 p3 : Pos} (hN : X.N[i]? = some x) (hv : Vis X.env.scope x) (ha : DE X W e f) (hd : (x == ("__debug__" : Str)) = false := by decide) (hcd : (x == ("__classdict__" : Str)) = false := by decide)
    (hbase : attributeBase (.Name x p1) "append" X.env (eval (.Name x p1) X.env) = eval (.Name x p1) X.env := by rfl)
    (hfew : ((backTo p3 (starEach [e] X.env)).all (fun x => !x.1) && (backToKw p3 (keywordEach [] X.env)).all (fun x => x.1.isSome)
      && decide ([e].length + ([] : List Keyword).length + (if ([] : List Keyword).isEmpty then 0 else 1) < 30)) = true := by rfl)
    (hline : (p2.endLine == p3.line) = true := by rfl) (hs : starEach [e] X.env = (false, eval e X.env) :: starEach [] X.env := by rfl) (hplain : (backTo p3 (starEach [] X.env)).any (·.1) = false := by rfl)
    (hsw : swapsWith (.Call (.Attribute (.Name x p1) "append" p2) [e] [] p3) none pos.line X.env = pure false := by rfl) :
    DS X W (.Expr (.Call (.Attribute (.Name x p1) "append" p2) [e] [] p3) pos) (sApp i f) :=
  ⟨ps_imp (ps_expr (pe_bm PySem.F.plainAttrs_list PySem.F.slot_list_append PySem.F.type_list_append mt_append (pe_var hN hv hd hcd) (pa_cons ha.pe pa_nil hs) hbase hfew hline hs hplain) hsw) fun Z σ H ⟨F0, H0, F, ρ, r, k⟩ => by
    have k : OOk X.K X.mg W F0 H0 F Z (match ρ[i]? with | some (.own ds) => exB ρ (f ρ) fun d => (if ds.length < 100000 then .nx (ρ.set i (.own (ds ++ [d]))) else .bad) | _ => .bad) := k
    split at k
    · rename_i ds hi
      obtain ⟨p, vs, e1, e2, e3, e4, e5⟩ := r.own i ds hi
      refine ⟨.ref p, e1, .inl ⟨rfl, _, Or.inl (Or.inl e4)⟩, F0, H0, F, ρ, r, exB_ok r k fun d F' H' gr q v hv => ?_⟩
      split at q
      · rename_i hlen
        have r' := r.grow gr
        have fp : F' p = none := by
          cases z : F' p with
          | none => rfl
          | some o =>
            have w := gr.new p o z e3
            rw [e4] at w; cases w
        have l5 := dpa_len e5
        refine ⟨p, vs, v, rfl, rfl, gr.h _ _ e4, Evl.sz_lt (by omega), ?_⟩
        exact q F' _ σ (.refl _) (r'.mut hi e1 ⟨_, gr.h _ _ e4⟩ e2 fp (dpa_app (e5.up gr.f) (.one hv)))
      · exact q.elim
    · exact k.elim⟩

/-! ### loops -/
def forLoop (s : D → Env → Option Env) (body : Env → Out) : List D → Env → Out
  | [], ρ => .nx ρ
  | d :: ds, ρ => match s d ρ with
    | none => .bad
    | some ρ1 => match body ρ1 with
      | .nx ρ2 => forLoop s body ds ρ2
      | .ct ρ2 => forLoop s body ds ρ2
      | .bk ρ2 => .nx ρ2
      | o => o
def sFor (it : Env → R (List D)) (s : D → Env → Option Env) (body : Env → Out) : Env → Out := fun ρ => exB ρ (it ρ) fun ds => forLoop s body ds ρ
theorem ds_for {tg iter : Expr} {body : List Stmt} {it : Env → R (List D)} {s : D → Env → Option Env} {ts : List Nat} (hp : PassesOwn (model X.prog X.w) X.A X.env X.xe) (hc : X.calm = true) (hi : DI X W tg iter it) (hg : DG X ts tg s) (hb : DSs X W body g)
    (hs : ∀ x, foldedSetIterable iter X.env x = pure x := by intro _; rfl) : DS X W (.For tg iter body [] pos) (sFor it s g) :=
  ⟨ps_imp (ps_for hp hc hi.pi hg.pg hb.pss hs) fun Z σ H ⟨F0, H0, F, ρ, r, k⟩ => ⟨F0, H0, F, ρ, r, exB_ok r k fun ds F1 H1 g1 q1 J itd => by
    refine ⟨fun i m σ2 H2 => m = ds.length - i ∧ i ≤ ds.length ∧ ∃ F2 ρ2, Ex F1 F2 ∧ Rep X.K F0 H0 F2 H2 ρ2 σ2 ∧ OOk X.K X.mg W F0 H0 F2 Z (forLoop s g (ds.drop i) ρ2), ⟨ds.length, by simp, Nat.zero_le _, F1, ρ, .refl _, r.grow g1, q1⟩, ?_⟩
    rintro i m σ2 H2 ⟨rfl, hi, F2, ρ2, f1, r2, k2⟩
    by_cases hlt : i < ds.length
    · rw [List.drop_eq_getElem_cons hlt] at k2
      unfold forLoop at k2
      refine .inr ⟨itd.goes i F2 H2 ⟨f1, r2.g.in_⟩ hlt, fun σ3 H3 => ∃ F3 ρ3, Ex F1 F3 ∧ Rep X.K F0 H0 F3 H3 ρ3 σ3 ∧ OOk X.K X.mg W F0 H0 F3 Z (forLoop s g (ds.drop (i + 1)) ρ3), fun σ3 H3 n => ⟨ds.length - (i + 1), by omega, rfl, hlt, n⟩, fun x H3 hy => ?_⟩
      obtain ⟨F3, g3, hx⟩ := itd.yields i F2 H2 x H3 ds[i] ⟨f1, r2.g.in_⟩ r2.g.in_ (List.getElem?_eq_getElem hlt) hy
      have k3 := k2.up g3.f
      cases hd : s ds[i] ρ2 with
      | none => rw [hd] at k2; exact k2.elim
      | some ρ' =>
        rw [hd] at k3
        refine ⟨F0, H0, F3, ρ2, ds[i], ρ', r2.grow g3, hx, hd, fun σ4 r4 _ => ⟨F0, H0, F3, ρ', r4, ?_⟩⟩
        cases hb : g ρ' with
        | nx ρ5 =>
          have k3 : OOk X.K X.mg W F0 H0 F3 Z (match g ρ' with | .nx ρ2 => forLoop s g (ds.drop (i + 1)) ρ2 | .ct ρ2 => forLoop s g (ds.drop (i + 1)) ρ2 | .bk ρ2 => .nx ρ2 | o => o) := k3
          rw [hb] at k3
          exact fun F5 H5 σ5 e5 r5 => ⟨F5, ρ5, (f1.trans g3.f).trans e5, r5, k3.up e5⟩
        | ct ρ5 =>
          have k3 : OOk X.K X.mg W F0 H0 F3 Z (match g ρ' with | .nx ρ2 => forLoop s g (ds.drop (i + 1)) ρ2 | .ct ρ2 => forLoop s g (ds.drop (i + 1)) ρ2 | .bk ρ2 => .nx ρ2 | o => o) := k3
          rw [hb] at k3
          exact fun F5 H5 σ5 e5 r5 => ⟨F5, ρ5, (f1.trans g3.f).trans e5, r5, k3.up e5⟩
        | bk ρ5 =>
          have k3 : OOk X.K X.mg W F0 H0 F3 Z (match g ρ' with | .nx ρ2 => forLoop s g (ds.drop (i + 1)) ρ2 | .ct ρ2 => forLoop s g (ds.drop (i + 1)) ρ2 | .bk ρ2 => .nx ρ2 | o => o) := k3
          rw [hb] at k3
          exact k3
        | rt d =>
          have k3 : OOk X.K X.mg W F0 H0 F3 Z (match g ρ' with | .nx ρ2 => forLoop s g (ds.drop (i + 1)) ρ2 | .ct ρ2 => forLoop s g (ds.drop (i + 1)) ρ2 | .bk ρ2 => .nx ρ2 | o => o) := k3
          rw [hb] at k3
          exact k3
        | ex x ρ5 =>
          have k3 : OOk X.K X.mg W F0 H0 F3 Z (match g ρ' with | .nx ρ2 => forLoop s g (ds.drop (i + 1)) ρ2 | .ct ρ2 => forLoop s g (ds.drop (i + 1)) ρ2 | .bk ρ2 => .nx ρ2 | o => o) := k3
          rw [hb] at k3
          exact k3
        | bad =>
          have k3 : OOk X.K X.mg W F0 H0 F3 Z (match g ρ' with | .nx ρ2 => forLoop s g (ds.drop (i + 1)) ρ2 | .ct ρ2 => forLoop s g (ds.drop (i + 1)) ρ2 | .bk ρ2 => .nx ρ2 | o => o) := k3
          rw [hb] at k3
          exact k3
    · have e : i = ds.length := by omega
      subst e
      rw [List.drop_length] at k2
      exact .inl ⟨itd.stops F2 H2 ⟨f1, r2.g.in_⟩, k2 F2 H2 σ2 (.refl _) r2⟩⟩⟩
def whileLoop (t : Env → R Bool) (body : Env → Out) : Nat → Env → Out
  | 0, _ => .bad
  | n + 1, ρ => exB ρ (t ρ) fun b => if b = true then (match body ρ with
      | .nx ρ2 => whileLoop t body n ρ2
      | .ct ρ2 => whileLoop t body n ρ2
      | .bk ρ2 => .nx ρ2
      | o => o) else .nx ρ
def FUEL : Nat := 18446744073709551616
def sWhile (t : Env → R Bool) (body : Env → Out) : Env → Out := fun ρ => whileLoop t body FUEL ρ
theorem ds_while {body : List Stmt} {t : Env → R Bool} (hp : PassesOwn (model X.prog X.w) X.A X.env X.xe) (hc : DT X W e t) (hb : DSs X W body g) : DS X W (.While e body [] pos) (sWhile t g) :=
  ⟨ps_imp (ps_while hp hc.pt hb.pss) fun Z σ H ⟨F0, H0, F, ρ, r, k⟩ => by
    refine ⟨fun m σ2 H2 => ∃ F2 ρ2, Rep X.K F0 H0 F2 H2 ρ2 σ2 ∧ OOk X.K X.mg W F0 H0 F2 Z (whileLoop t g m ρ2), ⟨FUEL, F, ρ, r, k⟩, ?_⟩
    rintro m σ2 H2 ⟨F2, ρ2, r2, k2⟩
    cases m with
    | zero => exact k2.elim
    | succ m =>
      unfold whileLoop at k2
      refine ⟨F0, H0, F2, ρ2, r2, exB_ok r2 k2 fun b F3 H3 g3 q3 => ?_⟩
      cases b with
      | false => exact iteF (q3 F3 H3 σ2 (.refl _) (r2.grow g3))
      | true =>
        refine iteT ⟨fun σ' H' => ∃ F', Ex F3 F' ∧ ∃ ρ', Rep X.K F0 H0 F' H' ρ' σ' ∧ OOk X.K X.mg W F0 H0 F' Z (whileLoop t g m ρ'), fun σ' H' ⟨F', _, ρ', q⟩ => ⟨m, Nat.lt_succ_self m, F', ρ', q⟩, F0, H0, F3, ρ2, r2.grow g3, ?_⟩
        have q3 : OOk X.K X.mg W F0 H0 F3 Z (match g ρ2 with | .nx ρ2 => whileLoop t g m ρ2 | .ct ρ2 => whileLoop t g m ρ2 | .bk ρ2 => .nx ρ2 | o => o) := q3
        cases hb : g ρ2 with
        | nx ρ5 =>
          rw [hb] at q3
          exact fun F5 H5 σ5 e5 r5 => ⟨F5, e5, ρ5, r5, q3.up e5⟩
        | ct ρ5 =>
          rw [hb] at q3
          exact fun F5 H5 σ5 e5 r5 => ⟨F5, e5, ρ5, r5, q3.up e5⟩
        | bk ρ5 => rw [hb] at q3; exact q3
        | rt d => rw [hb] at q3; exact q3
        | ex x ρ5 => rw [hb] at q3; exact q3
        | bad => rw [hb] at q3; exact q3⟩
end

/-! ### defs and their calls -/
def toR : Out → R D
  | .nx _ => .ok .none
  | .rt d => .ok d
  | .ex x _ => .exc x
  | _ => .bad
/-- a def of m parameters and n names in all, its body g -/
def semOf (n m : Nat) (g : Env → Out) (ds : List D) : R D := if ds.length = m then toR (g (ds.map .val ++ List.replicate (n - m) .no)) else .bad
def spD (K : PySem.W.Frag) (mg : Str → Option Value) (m : Nat) (sem : List D → R D) : Sp := fun vs H Q E => ∃ F ds, Ex F H ∧ DaAll K F vs ds ∧ ds.length = m ∧ ROk K mg E F H (fun d F' H' => ∀ v, Da K F' v d → Q v H') (sem ds)
theorem rep_start {K : PySem.W.Frag} {F H : Hp} {vs : List V} {ds : List D} {N : List Str} (e : Ex F H) (h : DaAll K F vs ds) (hl : ds.length ≤ N.length) : Rep K F H F H (ds.map .val ++ List.replicate (N.length - ds.length) .no) (start N vs) := by
  have el := dpa_len h
  have noOwn : ∀ (i : Nat) xs, (ds.map SV.val ++ List.replicate (N.length - ds.length) .no)[i]? ≠ some (.own xs) := fun i xs z => by
    rw [List.getElem?_append] at z
    split at z
    · rw [List.getElem?_map] at z
      obtain ⟨_, _, z⟩ := Option.map_eq_some_iff.mp z
      cases z
    · rw [List.getElem?_replicate] at z
      split at z <;> cases z
  have noDic : ∀ (i : Nat) xs, (ds.map SV.val ++ List.replicate (N.length - ds.length) .no)[i]? ≠ some (.dic xs) := fun i xs z => by
    rw [List.getElem?_append] at z
    split at z
    · rw [List.getElem?_map] at z
      obtain ⟨_, _, z⟩ := Option.map_eq_some_iff.mp z
      cases z
    · rw [List.getElem?_replicate] at z
      split at z <;> cases z
  refine ⟨.refl e, by simp [L2.start, el], fun i d q => ?_, fun i xs z => absurd z (noOwn i xs), fun i j xs ys p _ z => absurd z (noOwn i xs), fun i xs z => absurd z (noDic i xs), fun i j xs ys p _ z => absurd z (noDic i xs)⟩
  rw [List.getElem?_append] at q
  split at q
  · rename_i hi
    rw [List.length_map] at hi
    rw [List.getElem?_map] at q
    obtain ⟨d', q1, q2⟩ := Option.map_eq_some_iff.mp q
    cases q2
    obtain ⟨v, q3, q4⟩ := dpa_get h q1
    refine ⟨v, ?_, q4⟩
    unfold L2.start
    rw [List.getElem?_append_left (by rw [List.length_map, el]; exact hi), List.getElem?_map, q3]
    rfl
  · rw [List.getElem?_replicate] at q
    split at q <;> cases q
section
variable {P : Program} {w : World} {K : PySem.W.Frag}
variable {mg : Str → Option Value} {base : Heap}
theorem fn_okD {x qual : Str} {st : Stmt} {f : Addr} {fd : FuncData} {N ps : List Str} {k n m : Nat} {g : Env → Out} {sem : List D → R D} (hsem : sem = semOf n m g) (hn : N.length = n) (hm : ps.length = m) (Fn : Fun K x qual st f fd) (S : FnScope N ps (defScope st))
    (hbody : ∀ (cdv : Value) (A : Around) (outer : List PySem.Env) (s : Shared) (H : Hp) (E : XK), Room k (A.deeper (envOfC qual (defScope st) s.heap.objs.size f cdv)) →
      Takes (cxOf (L2.CX P w) P w K mg base N qual (defScope st) f cdv A outer s H E) (fun cls d _ H => E cls d H) →
      PassesOwn (model P w) (A.deeper (envOfC qual (defScope st) s.heap.objs.size f cdv)) (envOfC qual (defScope st) s.heap.objs.size f cdv) (cxOf (L2.CX P w) P w K mg base N qual (defScope st) f cdv A outer s H E).xe →
      DSs (cxOf (L2.CX P w) P w K mg base N qual (defScope st) f cdv A outer s H E) (fun cls d _ H => E cls d H) (defBody st) g) :
    FnOk P w K mg base (L2.CX P w) (k + 1) f fd ps (spD K mg m sem) := by
  subst hsem hn hm
  refine Fn.okX S (fun vs H Q E ⟨F, ds, _, h2, h3, _⟩ => (dpa_len h2).trans h3) fun cdv A outer s H vs Q E hr hsp => ?_
  obtain ⟨F, ds, h1, h2, h3, h4⟩ := hsp
  have tk := takes_of (X := cxOf (L2.CX P w) P w K mg base N qual (defScope st) f cdv A outer s H E) (E := E) rfl rfl rfl rfl
  have hp := passes_of (X := cxOf (L2.CX P w) P w K mg base N qual (defScope st) f cdv A outer s H E) rfl
  refine ⟨_, (hbody cdv A outer s H E hr tk hp).pss, F, H, F, _, rep_start (N := N) h1 h2 ?_, ?_⟩
  · have := S.pre
    have l := congrArg List.length this
    rw [List.length_take] at l
    omega
  · have h4 : ROk K mg E F H (fun d F' H' => ∀ v, Da K F' v d → Q v H') (if ds.length = ps.length then toR (g (ds.map .val ++ List.replicate (N.length - ps.length) .no)) else .bad) := h4
    rw [if_pos h3] at h4
    rw [h3]
    cases hg : g (ds.map SV.val ++ List.replicate (N.length - ps.length) SV.no) with
    | nx ρ =>
      rw [hg] at h4
      exact fun F' H' σ' _ r => h4 F' H' r.g .non .non
    | rt d =>
      rw [hg] at h4
      exact fun v F' H' _ gr hv => h4 F' H' gr v hv
    | ex x ρ =>
      rw [hg] at h4
      exact fun cls dd F' H' σ' _ r xr => h4 cls dd F' H' r.g xr
    | bk ρ => rw [hg] at h4; exact h4.elim
    | ct ρ => rw [hg] at h4; exact h4.elim
    | bad => rw [hg] at h4; exact h4.elim
end
end DL

/-! DLt -/
namespace DL
open PySem L2 PySem.Spec PyProof.Rows
open Evl (Ex ex_l ex_t ex_rd)

/-! ### try with except clauses, some of them with a name -/
abbrev Clause := Value × Option Nat × (Addr → Value → Option Addr → TS)
/-- the ends behind a suite that held the error in slot i -/
def unEnds (i : Nat) (Z : Ends) : Ends where
  nx := fun σ H => Z.nx (σ.set i none) H
  rt := Z.rt
  bk := fun σ H => Z.bk (σ.set i none) H
  ct := fun σ H => Z.ct (σ.set i none) H
def wMix (K : PySem.W.Frag) (Wo : WX) (Z : Ends) : List Clause → WX
  | [] => Wo
  | (c, none, ts) :: r => fun cls d σ H => ∃ b, PySem.W.exmOne K cls c = some b ∧ (b = true → ∀ a, H a = none → ts a cls d Z σ H) ∧ (b = false → wMix K Wo Z r cls d σ H)
  | (c, some i, ts) :: r => fun cls d σ H => ∃ b, PySem.W.exmOne K cls c = some b ∧ (b = true → ∀ a, H a = none → ts a cls d (unEnds i Z) (σ.set i (some (.ref a))) H) ∧ (b = false → wMix K Wo Z r cls d σ H)
/-- a suite, with the error at a in the hand -/
abbrev SuiteOk (X : Cx) (sts : List Stmt) (ts : Addr → Value → Option Addr → TS) : Prop := ∀ (a : Addr) (ob : Obj) (cls : Value) (d : Option Addr) (pn : List (Addr × Obj)), Zc cls d ob → (∃ ws, ob.data = .fields ws) → PSs (X.suite a ((a, ob) :: pn)) sts (ts a cls d)
inductive HdM (X : Cx) : List ExceptHandler → List Clause → Prop
  | nil : HdM X [] []
  | plain {x : Str} {c : Value} {ts : Addr → Value → Option Addr → TS} {b : Stmt} {rest : List Stmt} {p1 p2 : Pos} {hs : List ExceptHandler} {l : List Clause} (nm : Names X x c) (su : SuiteOk X (b :: rest) ts) (r : HdM X hs l) :
      HdM X (.ExceptHandler (some (.Name x p1)) none (b :: rest) p2 :: hs) ((c, none, ts) :: l)
  | named {x n : Str} {i : Nat} {c : Value} {ts : Addr → Value → Option Addr → TS} {b : Stmt} {rest : List Stmt} {p1 p2 : Pos} {hs : List ExceptHandler} {l : List Clause} (nm : Names X x c) (hi : X.N[i]? = some n) (hl : X.env.kindOf n = some .local) (su : SuiteOk X (b :: rest) ts) (r : HdM X hs l) :
      HdM X (.ExceptHandler (some (.Name x p1)) (some n) (b :: rest) p2 :: hs) ((c, some i, ts) :: l)
section
variable {X : Cx} {body : List Stmt} {h0 : ExceptHandler} {hl : List ExceptHandler} {l : List Clause} {pos : Pos} {tb : WX → TS} {Wo : WX}
/-- the error at a stands on the ground, the clauses are looked at in their order -/
structure Caught (X : Cx) (a : Addr) (cls : Value) (d : Option Addr) (pp : List (Addr × Obj)) (ss : L2.St) (HH : Hp) (sI : Shared) (B : Heap) (g : Heap) (sC : Shared) : Prop where
  J : Inv X pp ss HH sI
  nb : ∀ b o, sI.heap.get? b = some o → b ∉ frs X.stack → B.get? b = some o
  na : HH a = none
  os : sC.os = sI.os
  ag : AllBare sC.gens
  up : sI.heap.UpToSlots g
  fl : HandSPX.FlyingZ B (X.env :: X.outer) a (Zc cls d) g
theorem Caught.inv {a : Addr} {cls : Value} {d : Option Addr} {pp : List (Addr × Obj)} {ss : L2.St} {HH : Hp} {sI sC : Shared} {B g : Heap} (q : Caught X a cls d pp ss HH sI B g sC) : Inv X pp ss HH { sC with heap := g } := q.J.landed q.nb q.fl.1 q.up q.os q.ag
theorem Caught.apart {a : Addr} {cls : Value} {d : Option Addr} {pp : List (Addr × Obj)} {ss : L2.St} {HH : Hp} {sI sC : Shared} {B g : Heap} (hf : X.env.frame = some X.env.locals) (q : Caught X a cls d pp ss HH sI B g sC) : a ≠ X.env.locals ∧ a ∉ X.fs := by
  obtain ⟨ob, ws, e1, _, e2⟩ := q.fl.there
  have no : a ∉ frs (X.env :: X.outer) := fun hm => by
    obtain ⟨_, ob', e3, nf⟩ := q.fl.2.2.1.mem hm
    have e4 : ob = ob' := Option.some.inj (e1.symm.trans e3)
    exact nf ws (e4 ▸ e2)
  refine ⟨fun z => no (List.mem_filterMap.mpr ⟨X.env, List.mem_cons_self, hf.trans (congrArg some z.symm)⟩), fun hm => ?_⟩
  obtain ⟨en, h1, h2⟩ := List.mem_filterMap.mp hm
  exact no (List.mem_filterMap.mpr ⟨en, .tail _ h1, h2⟩)
theorem caught_go (hs : X.stack = X.env :: X.outer) (hf : X.env.frame = some X.env.locals) (tk : Takes X Wo) {a : Addr} {cls : Value} {d : Option Addr} {pp : List (Addr × Obj)} {ss : L2.St} {HH : Hp} {sI sC : Shared} {B g : Heap} {Z : Ends}
    (hN : X.N.Nodup) (q : Caught X a cls d pp ss HH sI B g sC) : ∀ {hl : List ExceptHandler} {l : List Clause}, HdM X hl l → wMix X.K Wo Z l cls d ss HH →
    wpAny (model X.prog X.w) X.A (handleBy (.ref a) X.env hl) (SP X pp Z) X.xe { sC with heap := g } := by
  intro hl l hk
  have ok := q.J.ok
  obtain ⟨ob, ws, ge, gz, gd⟩ := q.fl.there
  obtain ⟨aL, aF⟩ := q.apart hf
  have S3 := q.inv.suite ge gd q.na aL aF
  have lookT : PySem.W.Looks (model X.prog X.w) g (typeOf (.ref a)) cls := fun _ _ _ _ k z => wpAny_typeOf_ref (k _ _ ge) (gz.1.symm ▸ z)
  -- the class that a clause names
  have cname : ∀ {x : Str} {c : Value} {p : Pos} {Q E : Value → Shared → Prop}, Names X x c → Q c { sC with heap := g } → wpAny (model X.prog X.w) (X.A.mark (some (.ref a))) (eval (.Name x p) X.env) Q E { sC with heap := g } := fun nm z => by
    obtain ⟨n1, n2, n3 | ⟨n3, n4, n5⟩⟩ := nm
    · exact ld_glob (X := X.suite a ((a, ob) :: (X.pn ++ pp))) S3 n1 n3 z n2
    · exact ld_blt (X := X.suite a ((a, ob) :: (X.pn ++ pp))) S3 n1 n3 n4 z n5 n2
  induction hk with
  | nil =>
    intro w
    obtain ⟨_, _, _, oe, us, T, _, _, f1, _, f2, f3, _⟩ := id q.fl
    refine wpAny_handleBy_nil ?_
    unfold PySem.passOn
    refine wpAny_bind (wpAny_field f1 f2 f3 ?_)
    rw [if_neg (by simp : ¬ (Value.ref T == Value.none) = true)]
    have last : wpAny (model X.prog X.w) X.A (setFlight (.ref a) X.env.frame) (fun _ s4 => wpAny (model X.prog X.w) X.A (throw (.ref a) : Sem Flow) (SP X pp Z) X.xe s4) X.xe { sC with heap := g } := by
      rw [hf]
      exact HandSPX.setFlight_upZ q.fl fun g2 hh2 up2 => wpAny_throw (tk _ _ ⟨a, B, sI, pp, ss, HH, cls, d, rfl, q.J, q.nb, q.up.trans up2, .inr (.inr (hs ▸ hh2)), q.na, q.os, q.ag, w⟩)
    first
      | exact wpAny_bind (wpAny_pure (wpAny_bind last))
      | exact wpAny_bind last
  | @plain x c ts b rest p1 p2 hs2 l2 nm su r ih =>
    intro ⟨v, v1, v2, v3⟩
    refine wpAny_handleBy_cons (codeAny_handlers_test (cname nm ((PySem.W.exm_one q.inv.kIn lookT v1).here ?_))) (fun z => nomatch z)
    cases v with
    | false => exact ih (v3 rfl)
    | true =>
      refine codeAny_handlers_suite (HandSPX.lands_againZ q.fl fun g2 fl2 up2 => ?_)
      have q2 : Caught X a cls d pp ss HH sI B g2 sC := ⟨q.J, q.nb, q.na, q.os, q.ag, q.up.trans up2, fl2⟩
      obtain ⟨ob2, ws2, ge2, gz2, gd2⟩ := fl2.there
      refine wpAny_mono ((su a ob2 cls d (X.pn ++ pp) gz2 ⟨_, gd2⟩).run [] _ _ HH Z (q2.inv.suite ge2 gd2 q.na aL aF) (v2 rfl a q.na)) (fun fl s6 hh => ?_) (fun _ _ z => z.elim)
      cases fl with
      | next => obtain ⟨s', H', I', z⟩ := hh; exact ⟨s', H', I'.unsuite ok, z⟩
      | brk => obtain ⟨s', H', I', z⟩ := hh; exact ⟨s', H', I'.unsuite ok, z⟩
      | cont => obtain ⟨s', H', I', z⟩ := hh; exact ⟨s', H', I'.unsuite ok, z⟩
      | ret u => obtain ⟨v, s', H', I', z⟩ := hh; exact ⟨v, s', H', I'.unsuite ok, z⟩
  | @named x n i c ts b rest p1 p2 hs2 l2 nm hi hln su r ih =>
    intro ⟨v, v1, v2, v3⟩
    refine wpAny_handleBy_cons (codeAny_handlers_test (cname nm ((PySem.W.exm_one q.inv.kIn lookT v1).here ?_))) (fun z => nomatch z)
    cases v with
    | false => exact ih (v3 rfl)
    | true =>
      refine codeAny_handlers_suite_as (HandSPX.lands_againZ q.fl fun g2 fl2 up2 => ?_)
      have q2 : Caught X a cls d pp ss HH sI B g2 sC := ⟨q.J, q.nb, q.na, q.os, q.ag, q.up.trans up2, fl2⟩
      obtain ⟨ob2, ws2, ge2, gz2, gd2⟩ := fl2.there
      refine store_ok (X := X.suite a ((a, ob2) :: (X.pn ++ pp))) (v := .ref a) (q2.inv.suite ge2 gd2 q.na aL aF) hN hi (.inl hln) rfl (fun s5 I5 => ?_) (.inr hln)
      refine wpAny_mono ((su a ob2 cls d (X.pn ++ pp) gz2 ⟨_, gd2⟩).run [] s5 _ HH (unEnds i Z) I5 (v2 rfl a q.na)) (fun fl s6 hh => ?_) (fun _ _ z => z.elim)
      have away : ∀ {s' : L2.St} {H' : Hp} {R' : Shared → Prop}, Inv (X.suite a ((a, ob2) :: (X.pn ++ pp))) [] s' H' s6 → (∀ s7, Inv X pp (s'.set i none) H' s7 → R' s7) →
          wpAny (model X.prog X.w) X.A (do bindName X.env n .none; unbindBehindTheSuite X.env n p2) (fun _ s7 => R' s7) X.xe s6 := fun I6 z => gone_ok (I6.unsuite ok) hN hi hln z
      cases fl with
      | next => obtain ⟨s', H', I', z⟩ := hh; exact away I' fun _ I7 => ⟨_, H', I7, z⟩
      | brk => obtain ⟨s', H', I', z⟩ := hh; exact away I' fun _ I7 => ⟨_, H', I7, z⟩
      | cont => obtain ⟨s', H', I', z⟩ := hh; exact away I' fun _ I7 => ⟨_, H', I7, z⟩
      | ret u => obtain ⟨v, s', H', I', rv, z⟩ := hh; exact away I' fun _ I7 => ⟨v, _, H', I7, rv, z⟩
theorem ps_try_mix (hs : X.stack = X.env :: X.outer) (hf : X.env.frame = some X.env.locals) (hN : X.N.Nodup) (tk : Takes X Wo)
    (hb : ∀ (W : WX) (pn : List (Addr × Obj)) (xe : Value → Shared → Prop),
      Takes (X.tr pn xe) W → PassesOwn (model X.prog X.w) X.A X.env xe → PSs (X.tr pn xe) body (tb W))
    (hh : HdM X (h0 :: hl) l) : PS X (.Try body (h0 :: hl) [] [] pos) (fun Z σ H => tb (wMix X.K Wo Z l) Z σ H) := by
  refine ⟨fun pp s ss HH Z I z => ?_⟩
  have ok := I.ok
  have rows : X.A.frames = some (X.env :: X.outer) := ok.frames.trans (congrArg some hs)
  refine wpAny_Try_except (wpAny_mono ((hb (wMix X.K Wo Z l) (X.pn ++ pp) (fun er t1 => wpAny (model X.prog X.w) X.A (noteFrame er X.env) (fun _ t2 => wpAny (model X.prog X.w) X.A (setFlight er none)
    (fun _ t3 => wpAny (model X.prog X.w) X.A (handleBy er X.env (h0 :: hl)) (SP X pp Z) X.xe t3) X.xe t2) X.xe t1) (fun u sC xx => ?_) PassesOwn.looking).run [] s ss HH Z (I.toTry _) z) (fun fl s1 hsp => ?_) (fun _ _ y => y))
  · obtain ⟨a, B, sI, p', ss', HH', cls, d, rfl, J', nb, up, sky, na, os, ag, w⟩ := xx
    have sky' : Sky B (X.env :: X.outer) a (Zc cls d) X.env.locals sC.heap := hs ▸ sky
    exact Sky.land Zc.steady rows hf sky' fun g fl3 up3 => caught_go hs hf tk hN ⟨J'.ofTry ok, nb, na, os, ag, up.trans up3, fl3⟩ hh w
  · cases fl with
    | next => obtain ⟨s', H', I', y⟩ := hsp; exact wpAny_execs_nil ⟨s', H', I'.ofTry ok, y⟩
    | brk => obtain ⟨s', H', I', y⟩ := hsp; exact ⟨s', H', I'.ofTry ok, y⟩
    | cont => obtain ⟨s', H', I', y⟩ := hsp; exact ⟨s', H', I'.ofTry ok, y⟩
    | ret u => obtain ⟨v, s', H', I', y⟩ := hsp; exact ⟨v, s', H', I'.ofTry ok, y⟩
end
end DL

/-! DLf -/
namespace DL
open PySem L2 PySem.Spec PyProof.Rows
open Evl (Ex ex_l ex_t ex_rd)

/-! ### calls of defs -/
theorem semOf_len {n m : Nat} {g : Env → Out} (ds : List D) (h : ds.length ≠ m) : semOf n m g ds = .bad := by unfold semOf; rw [if_neg h]
def cCall (sem : List D → R D) (q : Env → R (List D)) : Env → R D := fun ρ => (q ρ).bind sem
/-- a def of the text as it is called: by its name, at a level -/
structure Callee (P : Program) (w : World) (K : PySem.W.Frag) (mg : Str → Option Value) (base : Heap) (k : Nat) (x : Str) (m : Nat) (sem : List D → R D) : Prop where
  ex : ∃ (f : Addr) (fd : FuncData) (ps : List Str), mg x = some (.ref f) ∧ PySem.W.keepIn K (.ref f) = true ∧ Binds K fd ps [] ∧ FnOk P w K mg base (L2.CX P w) k f fd ps (spD K mg m sem)
  len : ∀ ds, ds.length ≠ m → sem ds = .bad
section
variable {X : Cx} {W : WX} {x : Str} {p pos : Pos} {e : Expr} {es : List Expr} {q : Env → R (List D)} {k j m : Nat} {sem : List D → R D}
theorem de_call (C : Callee X.prog X.w X.K X.mg X.base k x m sem) (hr : Room j X.A) (hkj : k ≤ j) (hg : Gl X x) (tk : Takes X W) (ha : DA X W (e :: es) q) (hdb : (x == ("__debug__" : Str)) = false := by decide)
    (he : starEach (e :: es) X.env = (false, eval e X.env) :: starEach es X.env := by rfl) (hpl : (backTo pos (starEach es X.env)).any (·.1) = false := by rfl) : DE X W (.Call (.Name x p) (e :: es) [] pos) (cCall sem q) := by
  obtain ⟨f, fd, ps, hm, hk, hb, Fn⟩ := C.ex
  exact ⟨pe_imp (pe_callS Fn (hr.mono hkj) hg hm hk hb (fun σ => passAt tk σ) ha.pa hdb he hpl) fun σ H Q ⟨F0, H0, F, ρ, r, z⟩ => ⟨F0, H0, F, ρ, r, (ROk.step (r := q ρ) z).imp fun ds F1 H1 _ g1 q1 vs hv => by
    refine ⟨F1, ds, g1.in_, hv, ?_, q1⟩
    by_cases h : ds.length = m
    · exact h
    · rw [C.len ds h] at q1
      exact q1.elim⟩⟩
end

/-! ### own exceptions without fields -/
structure ExcF (K : PySem.W.Frag) (mg : Str → Option Value) (x : Str) (C : Addr) : Prop where
  gC : mg x = some (.ref C)
  xC : PySem.W.excIn K C [.type "ValueError", .type "Exception", .type "BaseException", .type "object"] "ValueError.__new__" = true
  kC : (PySem.W.keepIn K (.ref C)) = true
  bC : PySem.W.subIn K (.ref C) (.type "BaseException") = some true
  tC : PySem.W.typeIn K (.ref C) = some (.type "type")
  hC : PySem.W.hasDictIn K C = true
def sRaise (x : Str) : Env → Out := fun ρ => .ex ⟨x, []⟩ ρ
section
variable {X : Cx} {W : WX} {x m : Str} {C : Addr} {p p2 pos pos' : Pos} {j : Nat}
theorem ds_raise (hc : X.calm = true) (T : ExcF X.K X.mg x C) (tk : Takes X W) (hg : Gl X x) (hdb : (x == ("__debug__" : Str)) = false := by decide) : DS X W (.Raise (some (.Call (.Name x p) [.Constant (.str m) j p2] [] pos)) none pos') (sRaise x) :=
  ⟨ps_imp (ps_raise hc tk (pmk_own PySem.F.excBase_ValueError T.xC T.gC T.kC (raises_own T.bC T.tC) hg hdb)) fun Z σ H ⟨F0, H0, F, ρ, r, k⟩ => k (.ref C) none F H σ (.refl F) r ⟨C, T.gC, rfl, .inl ⟨rfl, rfl⟩⟩⟩
end

/-! ### suites: expressions that may look at the error -/
def tEx (K : PySem.W.Frag) (mg : Str → Option Value) (i : Nat) (a : Addr) (cls : Value) (dd : Option Addr) (f : Exc → Env → R D) : TE := fun σ H Q => ∃ F0 H0 F ρ x, Rep K F0 H0 F H ρ σ ∧ σ[i]? = some (some (.ref a)) ∧ XRep K mg F x cls dd ∧
  ROk K mg (fun _ _ _ => False) F H (fun d F' H' => ∀ v, Da K F' v d → Q v H') (f x ρ)
def tDx (K : PySem.W.Frag) (mg : Str → Option Value) (i : Nat) (a : Addr) (cls : Value) (dd : Option Addr) (f : Exc → Env → R Bool) : TT := fun σ H Q => ∃ F0 H0 F ρ x, Rep K F0 H0 F H ρ σ ∧ σ[i]? = some (some (.ref a)) ∧ XRep K mg F x cls dd ∧
  ROk K mg (fun _ _ _ => False) F H (fun b F' H' => Q b H') (f x ρ)
/-- in the suite that holds the error at a -/
structure EX (X : Cx) (i : Nat) (e : Expr) (f : Exc → Env → R D) : Prop where
  pe : ∀ (a : Addr) (ob : Obj) (cls : Value) (dd : Option Addr) (pn : List (Addr × Obj)), Zc cls dd ob → (∃ ws, ob.data = .fields ws) → PE (X.suite a ((a, ob) :: pn)) e (tEx X.K X.mg i a cls dd f)
structure ET (X : Cx) (i : Nat) (e : Expr) (f : Exc → Env → R Bool) : Prop where
  pt : ∀ (a : Addr) (ob : Obj) (cls : Value) (dd : Option Addr) (pn : List (Addr × Obj)), Zc cls dd ob → (∃ ws, ob.data = .fields ws) → PT (X.suite a ((a, ob) :: pn)) e (tDx X.K X.mg i a cls dd f)
section
variable {X : Cx} {i : Nat} {e e1 e2 : Expr} {pos : Pos}
theorem ex_de {f : Env → R D} (h : ∀ (a : Addr) (pn : List (Addr × Obj)), DE (X.suite a pn) W0 e f) : EX X i e (fun _ => f) := ⟨fun a ob cls dd pn _ _ => pe_imp (h a ((a, ob) :: pn)).pe fun σ H Q ⟨F0, H0, F, ρ, x, r, _, _, k⟩ => ⟨F0, H0, F, ρ, r, k⟩⟩
def xIf (t : Exc → Env → R Bool) (f g : Exc → Env → R D) : Exc → Env → R D := fun x ρ => (t x ρ).bind fun b => if b = true then f x ρ else g x ρ
theorem ex_if {t : Exc → Env → R Bool} {f g : Exc → Env → R D} (hc : ET X i e t) (ha : EX X i e1 f) (hb : EX X i e2 g) : EX X i (.IfExp e e1 e2 pos) (xIf t f g) :=
  ⟨fun a ob cls dd pn z w => pe_imp (pe_ifExp (hc.pt a ob cls dd pn z w) (ha.pe a ob cls dd pn z w) (hb.pe a ob cls dd pn z w)) fun σ H Q ⟨F0, H0, F, ρ, x, r, hs, hx, k⟩ => ⟨F0, H0, F, ρ, x, r, hs, hx, (ROk.step (r := t x ρ) k).imp fun b F' H' _ gr z => by
    cases b with
    | true => exact ⟨F0, H0, F', ρ, x, r.grow gr, hs, hx.up gr.f, z⟩
    | false => exact ⟨F0, H0, F', ρ, x, r.grow gr, hs, hx.up gr.f, z⟩⟩⟩
/-- isinstance(e, C), e the error: ns are all classes that may be here, sub those of them that are C's -/
def xIs (ns : List Str) (sub : List Str) : Exc → Env → R Bool := fun x _ => if ns.contains x.cls = true ∧ x.args = [] then .ok (sub.contains x.cls) else .bad
def xIsV (ns : List Str) (sub : List Str) : Exc → Env → R D := fun x _ => if ns.contains x.cls = true ∧ x.args = [] then .ok (.bool (sub.contains x.cls)) else .bad
structure IsF (K : PySem.W.Frag) (mg : Str → Option Value) (C : Addr) (ns sub : List Str) : Prop where
  all : ∀ n ∈ ns, ∃ Dn, mg n = some (.ref Dn) ∧ ExcC K Dn ∧ PySem.W.kitOne K (.ref Dn) (.ref C) = some (sub.contains n)
theorem pe_isx {xn cn : Str} {p1 p2 p3 : Pos} {C : Addr} {ns sub : List Str} (T : IsF X.K X.mg C ns sub) (hg : Gl X "isinstance") (hm : X.mg "isinstance" = none) (hgC : Gl X cn) (hC : X.mg cn = some (.ref C)) (hN : X.N[i]? = some xn) (hv : Vis X.env.scope xn)
    (hd : (xn == ("__debug__" : Str)) = false) (hcd : (xn == ("__classdict__" : Str)) = false) (hdc : (cn == ("__debug__" : Str)) = false)
    (he : ∀ X' : Cx, X'.env = X.env → starEach [.Name xn p1, .Name cn p2] X'.env = (false, eval (.Name xn p1) X'.env) :: starEach [.Name cn p2] X'.env) (hpl : (backTo pos (starEach [.Name cn p2] X.env)).any (·.1) = false)
    (a : Addr) (ob : Obj) (cls : Value) (dd : Option Addr) (pn : List (Addr × Obj)) (hz : Zc cls dd ob) (hw : ∃ ws, ob.data = .fields ws) :
    PE (X.suite a ((a, ob) :: pn)) (.Call (.Name "isinstance" p3) [.Name xn p1, .Name cn p2] [] pos) (fun σ H Q => ∃ F x, σ[i]? = some (some (.ref a)) ∧ XRep X.K X.mg F x cls dd ∧ ns.contains x.cls = true ∧ x.args = [] ∧ Q (.bl (sub.contains x.cls)) H) := by
  by_cases hcl : ∃ n ∈ ns, dd = none ∧ ∃ Dn, X.mg n = some (.ref Dn) ∧ cls = .ref Dn
  · obtain ⟨n, hn, rfl, Dn, hDn, rfl⟩ := hcl
    obtain ⟨Dn', h1, h2, h3⟩ := T.all n hn
    rw [hDn] at h1
    cases h1
    refine pe_imp (pe_callB (call_isE h2 hz hw) hg hm PyProof.Rows.boot_isinstance (pa_cons (pe_var hN hv hd hcd) (pa_cons (pe_glob hgC hC (v := .ref C) rfl hdc) pa_nil) (he (X.suite a ((a, ob) :: pn)) rfl)) (by decide) (by decide) (he (X.suite a ((a, ob) :: pn)) rfl) hpl) fun σ H Q ⟨F, x, hs, hx, hc, ha, q⟩ => ?_
    obtain ⟨C', c1, c2, c3⟩ := hx
    cases c2
    obtain ⟨Dm, m1, m2, m3⟩ := T.all x.cls (by simpa using hc)
    rw [c1] at m1
    cases m1
    exact ⟨.ref a, hs, .ref C, .ref C, _, rfl, fun u r => r, m3, q⟩
  · refine pe_imp (t := fun _ _ _ => False) ⟨fun _ _ _ _ _ _ z => z.elim⟩ fun σ H Q ⟨F, x, hs, hx, hc, ha, q⟩ => ?_
    obtain ⟨C', c1, c2, c3⟩ := hx
    refine hcl ⟨x.cls, by simpa using hc, ?_, C', c1, c2⟩
    rcases c3 with ⟨_, c3⟩ | ⟨dx, fs, c3, _⟩
    · exact c3
    · exact absurd ha c3
theorem isx_cases {ns sub : List Str} {x : Exc} {α : Type} {K : PySem.W.Frag} {mg : Str → Option Value} {W : XK} {F H : Hp} {P : α → Hp → Hp → Prop} {r : R α} (h : ROk K mg W F H P (if ns.contains x.cls = true ∧ x.args = [] then r else .bad)) :
    ns.contains x.cls = true ∧ x.args = [] ∧ ROk K mg W F H P r := by
  split at h
  · rename_i z; exact ⟨z.1, z.2, h⟩
  · exact h.elim
theorem ex_isx {xn cn : Str} {p1 p2 p3 : Pos} {C : Addr} {ns sub : List Str} (T : IsF X.K X.mg C ns sub) (hg : Gl X "isinstance") (hm : X.mg "isinstance" = none) (hgC : Gl X cn) (hC : X.mg cn = some (.ref C)) (hN : X.N[i]? = some xn := by rfl) (hv : Vis X.env.scope xn := by first | exact Or.inl rfl | exact Or.inr (Or.inl rfl) | exact Or.inr (Or.inr rfl))
    (hd : (xn == ("__debug__" : Str)) = false := by decide) (hcd : (xn == ("__classdict__" : Str)) = false := by decide) (hdc : (cn == ("__debug__" : Str)) = false := by decide)
    (he : ∀ X' : Cx, X'.env = X.env → starEach [.Name xn p1, .Name cn p2] X'.env = (false, eval (.Name xn p1) X'.env) :: starEach [.Name cn p2] X'.env := by intro _ _; rfl) (hpl : (backTo pos (starEach [.Name cn p2] X.env)).any (·.1) = false := by rfl) :
    EX X i (.Call (.Name "isinstance" p3) [.Name xn p1, .Name cn p2] [] pos) (xIsV ns sub) :=
  ⟨fun a ob cls dd pn z w => pe_imp (pe_isx T hg hm hgC hC hN hv hd hcd hdc he hpl a ob cls dd pn z w) fun σ H Q ⟨F0, H0, F, ρ, x, r, hs, hx, k⟩ => by
    obtain ⟨k1, k2, k3⟩ := isx_cases (sub := sub) k
    exact ⟨F, x, hs, hx, k1, k2, k3 F H (.refl r.g.in_) _ (.bl _)⟩⟩
theorem et_isx {xn cn : Str} {p1 p2 p3 : Pos} {C : Addr} {ns sub : List Str} (T : IsF X.K X.mg C ns sub) (hg : Gl X "isinstance") (hm : X.mg "isinstance" = none) (hgC : Gl X cn) (hC : X.mg cn = some (.ref C)) (hN : X.N[i]? = some xn := by rfl) (hv : Vis X.env.scope xn := by first | exact Or.inl rfl | exact Or.inr (Or.inl rfl) | exact Or.inr (Or.inr rfl))
    (hd : (xn == ("__debug__" : Str)) = false := by decide) (hcd : (xn == ("__classdict__" : Str)) = false := by decide) (hdc : (cn == ("__debug__" : Str)) = false := by decide)
    (he : ∀ X' : Cx, X'.env = X.env → starEach [.Name xn p1, .Name cn p2] X'.env = (false, eval (.Name xn p1) X'.env) :: starEach [.Name cn p2] X'.env := by intro _ _; rfl) (hpl : (backTo pos (starEach [.Name cn p2] X.env)).any (·.1) = false := by rfl) :
    ET X i (.Call (.Name "isinstance" p3) [.Name xn p1, .Name cn p2] [] pos) (xIs ns sub) :=
  ⟨fun a ob cls dd pn z w => pt_imp (pt_val (pe_isx T hg hm hgC hC hN hv hd hcd hdc he hpl a ob cls dd pn z w)) fun σ H Q ⟨F0, H0, F, ρ, x, r, hs, hx, k⟩ => by
    obtain ⟨k1, k2, k3⟩ := isx_cases (sub := sub) k
    exact ⟨F, x, hs, hx, k1, k2, _, rfl, k3 F H (.refl r.g.in_)⟩⟩
end

/-! ### try, by data -/
abbrev ClD := List Str × Option Nat × (Exc → Env → Out)
def noXO : Out → Out
  | .ex _ _ => .bad
  | o => o
def handle : List ClD → Exc → Env → Out
  | [], x, ρ => .ex x ρ
  | (sub, _, s) :: r, x, ρ => if sub.contains x.cls = true then noXO (s x ρ) else handle r x ρ
def sTry (ns : List Str) (g : Env → Out) (cl : List ClD) : Env → Out := fun ρ => match g ρ with
  | .ex x ρ' => if ns.contains x.cls = true then handle cl x ρ' else .bad
  | o => o
/-- the classes ns as the clause's class c tells them -/
structure HF (K : PySem.W.Frag) (mg : Str → Option Value) (c : Value) (ns sub : List Str) : Prop where
  all : ∀ n ∈ ns, ∃ Dn, mg n = some (.ref Dn) ∧ PySem.W.exmOne K (.ref Dn) c = some (sub.contains n)
def xRet (i : Nat) (f : Exc → Env → R D) : Exc → Env → Out := fun x ρ => if i < ρ.length then exB ρ (f x (ρ.set i .no)) fun d => .rt d else .bad
inductive HdD (X : Cx) (ns : List Str) : List ExceptHandler → List ClD → Prop
  | nil : HdD X ns [] []
  | plain {x : Str} {c : Value} {sub : List Str} {g : Env → Out} {b : Stmt} {rest : List Stmt} {p1 p2 : Pos} {hs : List ExceptHandler} {l : List ClD} (nm : Names X x c) (F : HF X.K X.mg c ns sub)
      (su : ∀ (a : Addr) (pn : List (Addr × Obj)), DSs (X.suite a pn) W0 (b :: rest) g) (r : HdD X ns hs l) : HdD X ns (.ExceptHandler (some (.Name x p1)) none (b :: rest) p2 :: hs) ((sub, none, fun _ => g) :: l)
  | named {x n : Str} {i : Nat} {c : Value} {sub : List Str} {e : Expr} {f : Exc → Env → R D} {p1 p2 p3 : Pos} {hs : List ExceptHandler} {l : List ClD} (nm : Names X x c) (F : HF X.K X.mg c ns sub) (hi : X.N[i]? = some n) (hl : X.env.kindOf n = some .local)
      (su : EX X i e f) (r : HdD X ns hs l) : HdD X ns (.ExceptHandler (some (.Name x p1)) (some n) [.Return (some e) p3] p2 :: hs) ((sub, some i, xRet i f) :: l)
section
variable {X : Cx} {W : WX} {ns : List Str}
theorem noXO_ok {K : PySem.W.Frag} {mg : Str → Option Value} {W W' : WX} {F0 H0 F : Hp} {Z : Ends} {o : Out} (h : OOk K mg W F0 H0 F Z (noXO o)) : OOk K mg W' F0 H0 F Z o := by
  cases o with
  | ex x ρ => exact h.elim
  | nx ρ => exact h
  | rt d => exact h
  | bk ρ => exact h
  | ct ρ => exact h
  | bad => exact h
theorem mix_ok {hl : List ExceptHandler} {cl : List ClD} (hh : HdD X ns hl cl) : ∃ l, HdM X hl l ∧ ∀ (Z : Ends) (F0 H0 F H : Hp) (ρ : Env) (σ : L2.St) (x : Exc) (cls : Value) (dd : Option Addr), OOk X.K X.mg W F0 H0 F Z (handle cl x ρ) → ns.contains x.cls = true →
    Rep X.K F0 H0 F H ρ σ → XRep X.K X.mg F x cls dd → wMix X.K W Z l cls dd σ H := by
  induction hh with
  | nil => exact ⟨[], .nil, fun Z F0 H0 F H ρ σ x cls dd k _ r xr => k cls dd F H σ (.refl F) r xr⟩
  | @plain x c sub g b rest p1 p2 hs l nm Fc su _ ih =>
    obtain ⟨l', i1, i2⟩ := ih
    refine ⟨(c, none, fun a cls d => tS X.K X.mg W0 g) :: l', .plain nm (fun a ob cls d pn _ _ => (su a ((a, ob) :: pn)).pss) i1, fun Z F0 H0 F H ρ σ x cls dd k hc r xr => ?_⟩
    obtain ⟨C, c1, c2, _⟩ := id xr
    obtain ⟨Dn, d1, d2⟩ := Fc.all x.cls (by simpa using hc)
    rw [c1] at d1
    cases d1
    subst c2
    refine ⟨_, d2, fun hb a _ => ?_, fun hb => i2 Z F0 H0 F H ρ σ x _ dd ?_ hc r xr⟩
    · unfold handle at k
      rw [if_pos hb] at k
      exact ⟨F0, H0, F, ρ, r, noXO_ok k⟩
    · unfold handle at k
      rw [if_neg (by rw [hb]; exact Bool.false_ne_true)] at k
      exact k
  | @named x n i c sub e f p1 p2 p3 hs l nm Fc hi hln su _ ih =>
    obtain ⟨l', i1, i2⟩ := ih
    refine ⟨(c, some i, fun a cls d => tRet (tEx X.K X.mg i a cls d f)) :: l', .named nm hi hln (fun a ob cls d pn z w => pss_one (ps_ret (su.pe a ob cls d pn z w))) i1, fun Z F0 H0 F H ρ σ x cls dd k hc r xr => ?_⟩
    obtain ⟨C, c1, c2, _⟩ := id xr
    obtain ⟨Dn, d1, d2⟩ := Fc.all x.cls (by simpa using hc)
    rw [c1] at d1
    cases d1
    subst c2
    refine ⟨_, d2, fun hb a ha => ?_, fun hb => i2 Z F0 H0 F H ρ σ x _ dd ?_ hc r xr⟩
    · unfold handle at k
      rw [if_pos hb] at k
      have k : OOk X.K X.mg W F0 H0 F Z (noXO (if i < ρ.length then exB ρ (f x (ρ.set i .no)) fun d => .rt d else .bad)) := k
      by_cases hlen : i < σ.length
      · refine ⟨F0, H0, F, ρ.set i .no, x, r.drop i _, List.getElem?_set_self hlen, xr, ?_⟩
        rw [if_pos (by rw [r.len]; exact hlen)] at k
        cases hf : f x (ρ.set i .no) with
        | ok d =>
          rw [hf] at k
          exact fun F' H' gr v hv => k v F' H' gr.f (r.g.trans gr) hv
        | exc y => rw [hf] at k; exact k.elim
        | bad => rw [hf] at k; exact k.elim
      · rw [if_neg (by rw [r.len]; exact hlen)] at k
        exact k.elim
    · unfold handle at k
      rw [if_neg (by rw [hb]; exact Bool.false_ne_true)] at k
      exact k
theorem ds_try {body : List Stmt} {g : Env → Out} {h0 : ExceptHandler} {hl : List ExceptHandler} {cl : List ClD} {pos : Pos} (hs : X.stack = X.env :: X.outer) (hf : X.env.frame = some X.env.locals) (hN : X.N.Nodup) (tk : Takes X W)
    (hb : ∀ (W : WX) (pn : List (Addr × Obj)) (xe : Value → Shared → Prop),
      Takes (X.tr pn xe) W → PassesOwn (model X.prog X.w) X.A X.env xe → DSs (X.tr pn xe) W body g)
    (hh : HdD X ns (h0 :: hl) cl) : DS X W (.Try body (h0 :: hl) [] [] pos) (sTry ns g cl) := by
  obtain ⟨l, h1, h2⟩ := mix_ok (W := W) hh
  refine ⟨ps_imp (ps_try_mix (tb := fun W => tS X.K X.mg W g) hs hf hN tk (fun W pn xe t p => (hb W pn xe t p).pss) h1) fun Z σ H ⟨F0, H0, F, ρ, r, k⟩ => ⟨F0, H0, F, ρ, r, ?_⟩⟩
  have k : OOk X.K X.mg W F0 H0 F Z (match g ρ with | .ex x ρ' => if ns.contains x.cls = true then handle cl x ρ' else .bad | o => o) := k
  cases hg : g ρ with
  | ex x ρ' =>
    rw [hg] at k
    have k : OOk X.K X.mg W F0 H0 F Z (if ns.contains x.cls = true then handle cl x ρ' else .bad) := k
    split at k
    · rename_i hc
      exact fun cls dd F' H' σ' e r' xr => h2 Z F0 H0 F' H' ρ' σ' x cls dd (k.up e) hc r' xr
    · exact k.elim
  | nx ρ' => rw [hg] at k; exact k
  | rt d => rw [hg] at k; exact k
  | bk ρ' => rw [hg] at k; exact k
  | ct ρ' => rw [hg] at k; exact k
  | bad => rw [hg] at k; exact k
end
end DL

/-! DLg -/
namespace DL
open PySem L2 PySem.Spec PyProof.Rows
open Evl (Ex ex_l ex_t ex_rd)
theorem bt_len : bootBuiltins "len" = some (.builtin "len") := by decide +kernel
theorem bt_abs : bootBuiltins "abs" = some (.builtin "abs") := by decide +kernel
theorem bt_max : bootBuiltins "max" = some (.builtin "max") := by decide +kernel
theorem bt_min : bootBuiltins "min" = some (.builtin "min") := by decide +kernel
theorem bt_sum : bootBuiltins "sum" = some (.builtin "sum") := by decide +kernel
theorem bt_all : bootBuiltins "all" = some (.builtin "all") := by decide +kernel
theorem bt_any : bootBuiltins "any" = some (.builtin "any") := by decide +kernel
theorem bt_sorted : bootBuiltins "sorted" = some (.builtin "sorted") := by decide +kernel
theorem bt_int : bootBuiltins "int" = some (.type "int") := by decide +kernel
theorem bt_str : bootBuiltins "str" = some (.type "str") := by decide +kernel
theorem bt_tuple : bootBuiltins "tuple" = some (.type "tuple") := by decide +kernel
theorem bt_list : bootBuiltins "list" = some (.type "list") := by decide +kernel
theorem room64 {k : Nat} {A : Around} (r : Room k A) : A.units + 64 < cLine := r.units
theorem room65 {k : Nat} {A : Around} (r : Room k A) : A.units + 65 < cLine := by have := r.un; omega
def oNeg : D → Option D
  | .int i => some (.int (-i))
  | _ => none
def cUn (o : D → Option D) (f : Env → R D) : Env → R D := fun ρ => (f ρ).bind fun a => ofO (o a)
/-- in, of lists, texts, tuples -/
def oInA (a b : D) : Option D := match b with
  | .tuple _ => oInT a b
  | _ => oIn a b
def oNotInA (a b : D) : Option D := match b with
  | .tuple _ => oNotInT a b
  | _ => oNotIn a b
section
variable {X : Cx} {W : WX} {e e1 e2 e3 : Expr} {pos : Pos} {f : Env → R D}
theorem de_neg (ha : DE X W e f) : DE X W (.UnaryOp .USub e pos) (cUn oNeg f) :=
  ⟨pe_imp (pe_un un_neg ha.pe) fun σ H Q ⟨F0, H0, F, ρ, r, k⟩ => ⟨F0, H0, F, ρ, r, (ROk.step (r := f ρ) k).imp fun a F' H' _ gr z v hv => by
    obtain ⟨c, e, q⟩ := z.ofO
    cases a <;> simp only [oNeg] at e <;> try (cases e; done)
    cases e
    cases hv
    exact ⟨_, rfl, q F' H' (.refl gr.in_) _ (.int _)⟩⟩⟩
theorem op_inA (hu : X.A.units + 65 < cLine) : OpR X (compareOp .In) (fun x y H Q => rInDD X.K x y H Q ∨ rIn X.K false x y H Q) := (op_inDD hu).or op_in_seq
theorem op_notinA (hu : X.A.units + 65 < cLine) : OpR X (compareOp .NotIn) (fun x y H Q => rNotInDD X.K x y H Q ∨ rIn X.K true x y H Q) := (op_notinDD hu).or op_notIn_seq
theorem rd_inA {K : PySem.W.Frag} : RdO K (fun x y H Q => rInDD K x y H Q ∨ rIn K false x y H Q) oInA := RdO.or rd_in rd_inT fun a b c h => by
  unfold oInA at h
  split at h
  · exact .inr h
  · exact .inl h
theorem rd_notinA {K : PySem.W.Frag} : RdO K (fun x y H Q => rNotInDD K x y H Q ∨ rIn K true x y H Q) oNotInA := RdO.or rd_notin rd_notinT fun a b c h => by
  unfold oNotInA at h
  split at h
  · exact .inr h
  · exact .inl h
/-- a, b, c = e1, e2, e3, frozen data alone -/
def sPar3 (i j l : Nat) (q : Env → R (List D)) : Env → Out := fun ρ => exB ρ (q ρ) fun ds => match ds with
  | [x, y, z] => .nx (((ρ.set i (.val x)).set j (.val y)).set l (.val z))
  | _ => .bad
theorem ds_par3 {i j l : Nat} {x y z : Str} {q : Env → R (List D)} {px py pz pt : Pos} {kt k2 pt2} (hc : X.calm = true) (hN : X.N.Nodup) (hi : X.N[i]? = some x) (hj : X.N[j]? = some y) (hl : X.N[l]? = some z) (hij : i ≠ j) (hil : i ≠ l) (hjl : j ≠ l)
    (hx : X.env.scope.names.lookup x = some .local) (hy : X.env.scope.names.lookup y = some .local) (hz : X.env.scope.names.lookup z = some .local) (ha : DA X W [e1, e2, e3] q)
    (hw : swappedStores [.Tuple [.Name x px, .Name y py, .Name z pz] kt pt] (.Tuple [e1, e2, e3] k2 pt2) X.env = pure (some [x, y, z]))
    (hs : swapsWithSole [.Tuple [.Name x px, .Name y py, .Name z pz] kt pt] (.Tuple [e1, e2, e3] k2 pt2) pos.line X.env = pure false := by rfl) :
    DS X W (.Assign [.Tuple [.Name x px, .Name y py, .Name z pz] kt pt] (.Tuple [e1, e2, e3] k2 pt2) pos) (sPar3 i j l q) :=
  ⟨ps_imp (ps_par3 hc hN hi hj hl hij hil hjl hx hy hz ha.pa hw hs) fun Z σ H ⟨F0, H0, F, ρ, r, k⟩ => ⟨F0, H0, F, ρ, r, exB_ok r k fun ds F1 H1 g1 q1 vs hv => by
    split at q1
    · rename_i a b c
      cases hv with
      | cons h1 hv => cases hv with
        | cons h2 hv => cases hv with
          | cons h3 hv =>
            cases hv
            exact ⟨_, _, _, rfl, q1 F1 H1 _ (.refl _) ((((r.grow g1).setVal h1 i).setVal h2 j).setVal h3 l)⟩
    · exact q1.elim⟩⟩
/-- x = [.. for ..], x not changed later -/
theorem ds_setLcV {i : Nat} {y : Str} {py : Pos} {tg iter elt : Expr} {ifs : List Expr} {scope : Scope} {own : List (Str × Nat)} {p : Pos} {it : Env → R (List D)} {s : D → Env → Option Env} {t : Env → R Bool} {el : Env → R D} {ts vs : List Nat}
    (hc : X.calm = true) (hN : X.N.Nodup) (hy : X.N[i]? = some y) (hyl : X.env.scope.names.lookup y = some .local)
    (hsw : swapsWith (.ListComp elt [⟨tg, iter, ifs, 0⟩] scope p) (some (.Name y py)) pos.line X.env = pure true) (hi : DIB X W tg iter it) (ok : BlkOk X.N X.env.scope scope own)
    (hg : ∀ (s' : Shared) (H : Hp) (C : Addr) (cl : List (Str × Addr)) (fp : List Addr), DG (X.blk s' H scope (compEnvC scope cl C X.env) fp) ts tg s)
    (ht : ∀ (s' : Shared) (H : Hp) (C : Addr) (cl : List (Str × Addr)) (fp : List Addr), DTs (X.blk s' H scope (compEnvC scope cl C X.env) fp) W0 ifs t)
    (he : ∀ (s' : Shared) (H : Hp) (C : Addr) (cl : List (Str × Addr)) (fp : List Addr), DE (X.blk s' H scope (compEnvC scope cl C X.env) fp) W0 elt el)
    (hvs : own.map (·.2) = vs) (hts : ∀ j ∈ ts, j ∈ vs) (hs : ∀ x, foldedSetIterable iter X.env x = pure x := by intro _; rfl) :
    DS X W (.Assign [.Name y py] (.ListComp elt [⟨tg, iter, ifs, 0⟩] scope p) pos) (sAsg i (asVal (asList (cLc it s t el vs)))) := by
  subst hvs
  exact
  ⟨ps_imp (ps_setLc (wi := tIB X.K X.mg W it) (g := tG X.K ts s) (tt := tD X.K X.mg W0 t) (te := tE X.K X.mg W0 el) hc hN hy hyl hsw hi.pi ok (fun a b c d e => (hg a b c d e).pg) (fun a b c d e => (ht a b c d e).pts) (fun a b c d e => (he a b c d e).pe) hs) fun Z σ H ⟨F0, H0, F, ρ, r, k⟩ => by
    refine lc_read hts ⟨F0, H0, F, ρ, r, ?_⟩
    have k : OOk X.K X.mg W F0 H0 F Z (exB ρ (((cLc it s t el (own.map (·.2)) ρ).bind fun d => .ok (.list d)).bind fun d => .ok (.val d)) fun sv => .nx (ρ.set i sv)) := k
    have q := exB_ok (P := fun (sv : SV) F' H' => ∀ v, SVal X.K H F' H' v sv → Z.nx (σ.set i (some v)) H') r k fun sv F' H' gr q v hv => q F' H' _ (.refl _) (r.setSV gr hv i)
    have q2 := map_ok (k := fun d => SV.val d) q
    cases hq : cLc it s t el (own.map (·.2)) ρ with
    | ok ds =>
      rw [hq] at q2
      intro F' H' gr p vs h1 h2 h3 h4
      have q2 : ∀ F2 H2, Grow F H F2 H2 → ∀ v, Da X.K F2 v (.list ds) → Z.nx (σ.set i (some v)) H2 := q2
      exact q2 _ _ (grow_lay (K := X.K) gr h1 h2 h3) (.ref p) (.lst upd_same (h4.up (Grow.freeze gr.in_ h3 h2).1))
    | exc x => rw [hq] at q2; exact q2
    | bad => rw [hq] at q2; exact q2⟩
end
/-- isinstance of own classes, by what is a subclass of what -/
theorem kit_sub {K : PySem.W.Frag} {A C : Addr} {b : Bool} (hd : PySem.W.hasDictIn K C = true) (ht : PySem.W.typeIn K (.ref C) = some (.type "type")) (hs : PySem.W.subIn K (.ref C) (.ref C) = some true) (h : PySem.W.subIn K (.ref A) (.ref C) = some b) : PySem.W.kitOne K (.ref A) (.ref C) = some b := by
  unfold PySem.W.kitOne
  split
  · rename_i e
    have e' := eq_of_beq e
    cases e'
    rw [hs] at h
    exact h
  · obtain ⟨cd, hc, _⟩ := PySem.W.any_some hd
    show (if ((PySem.W.clsIn K C).isSome && PySem.W.typeIn K (.ref C) == some (.type "type")) = true then PySem.W.subIn K (.ref A) (.ref C) else none) = some b
    rw [hc, ht, if_pos (by rfl)]
    exact h
/-! ### the law's end -/
def spLawD (K : PySem.W.Frag) : Sp := fun vs H Q _ => ∃ (a : Addr) (ns : List Int), vs = [.ref a] ∧ SqL K H a (ns.map V.int) ∧ ns.length ≤ 63 ∧ ∀ H', Q (.bl true) H'
theorem law_end {P : Program} {w : World} {K : PySem.W.Frag} {mg : Str → Option Value} {base : Heap} {k : Nat} {f : Addr} {fd : FuncData} {x : Str} {sem : List D → R D} (ht : ∀ ns : List Int, ns.length ≤ 63 → sem [scrD ns] = .ok (.bool true))
    (Fn : FnOk P w K mg base (L2.CX P w) k f fd [x] (spD K mg 1 sem)) : FnOk P w K mg base (L2.CX P w) k f fd [x] (spLawD K) :=
  Fn.imp fun vs H Q E ⟨a, ns, e, hS, hl, q⟩ => by
    subst e
    refine ⟨H, [scrD ns], fun _ _ z => z, .cons (.scr hS) .nil, rfl, ?_⟩
    rw [ht ns hl]
    intro F' H' _ v hv
    cases hv
    exact q H'
end DL

/-! DLh -/
namespace DL
open PySem L2 PySem.Spec PyProof.Rows
open Evl (Ex ex_l ex_t ex_rd)
/-! ### sorted rows of ints -/
def ins (x : Int) : List Int → List Int
  | [] => [x]
  | y :: l => if x ≤ y then x :: y :: l else y :: ins x l
def srt : List Int → List Int
  | [] => []
  | x :: l => ins x (srt l)
theorem ins_perm (x : Int) : ∀ l : List Int, (ins x l).Perm (x :: l)
  | [] => .refl _
  | y :: l => by
    unfold ins
    split
    · exact .refl _
    · exact ((ins_perm x l).cons y).trans (.swap x y l)
theorem srt_perm : ∀ l : List Int, (srt l).Perm l
  | [] => .refl _
  | x :: l => (ins_perm x (srt l)).trans ((srt_perm l).cons x)
theorem ins_up (x : Int) : ∀ l : List Int, l.Pairwise (· ≤ ·) → (ins x l).Pairwise (· ≤ ·)
  | [], _ => by simp [ins]
  | y :: l, h => by
    obtain ⟨h1, h2⟩ := (List.pairwise_cons).mp h
    unfold ins
    split
    · rename_i hxy
      refine List.pairwise_cons.mpr ⟨fun z hz => ?_, h⟩
      rcases (List.mem_cons.mp hz) with e | hz
      · omega
      · have := h1 z hz
        omega
    · rename_i hxy
      refine List.pairwise_cons.mpr ⟨fun z hz => ?_, ins_up x l h2⟩
      rcases List.mem_cons.mp ((ins_perm x l).mem_iff.mp hz) with e | hz
      · omega
      · exact h1 z hz
theorem srt_up : ∀ l : List Int, (srt l).Pairwise (· ≤ ·)
  | [] => .nil
  | x :: l => ins_up x _ (srt_up l)
theorem up_one : ∀ {l m : List Int}, l.Pairwise (· ≤ ·) → m.Pairwise (· ≤ ·) → l.Perm m → l = m
  | [], m, _, _, p => by rw [List.nil_perm.mp p]
  | x :: l, [], _, _, p => by have := p.length_eq; simp at this
  | x :: l, y :: m, h, k, p => by
    obtain ⟨h1, h2⟩ := (List.pairwise_cons).mp h
    obtain ⟨k1, k2⟩ := List.pairwise_cons.mp k
    have e : x = y := by
      have a := p.mem_iff.mp (List.mem_cons_self (a := x) (l := l))
      have b := p.mem_iff.mpr (List.mem_cons_self (a := y) (l := m))
      rcases List.mem_cons.mp a with a | a
      · exact a
      · rcases List.mem_cons.mp b with b | b
        · exact b.symm
        · have := h1 y b
          have := k1 x a
          omega
    subst e
    rw [up_one h2 k2 p.cons_inv]
theorem srt_one {l m : List Int} (p : m.Perm l) (h : m.Pairwise (· ≤ ·)) : m = srt l := up_one h (srt_up l) (p.trans (srt_perm l).symm)
theorem srt_len (l : List Int) : (srt l).length = l.length := (srt_perm l).length_eq
theorem mem_srt {l : List Int} {x : Int} : x ∈ srt l ↔ x ∈ l := (srt_perm l).mem_iff
/-! the greatest and the least of a row that is not empty -/
def top : Int → List Int → Int
  | x, [] => x
  | x, y :: l => top (if x < y then y else x) l
def low : Int → List Int → Int
  | x, [] => x
  | x, y :: l => low (if y < x then y else x) l
theorem top_spec : ∀ (l : List Int) (x : Int), top x l ∈ x :: l ∧ ∀ y ∈ x :: l, y ≤ top x l
  | [], x => ⟨List.mem_cons_self, fun y h => by rcases List.mem_cons.mp h with e | h; exact Int.le_of_eq e; cases h⟩
  | z :: l, x => by
    obtain ⟨a, b⟩ := top_spec l (if x < z then z else x)
    have q : top x (z :: l) = top (if x < z then z else x) l := rfl
    rw [q]
    refine ⟨?_, fun y hy => ?_⟩
    · rcases List.mem_cons.mp a with e | a
      · rw [e]
        split
        · simp
        · simp
      · simp [a]
    · have b0 := b _ List.mem_cons_self
      rcases (List.mem_cons.mp hy) with e | hy
      · subst e
        split at b0 <;> split <;> omega
      · rcases (List.mem_cons.mp hy) with e | hy
        · subst e
          split at b0 <;> split <;> omega
        · exact b y (.tail _ hy)
theorem low_spec : ∀ (l : List Int) (x : Int), low x l ∈ x :: l ∧ ∀ y ∈ x :: l, low x l ≤ y
  | [], x => ⟨List.mem_cons_self, fun y h => by rcases List.mem_cons.mp h with e | h; exact Int.le_of_eq e.symm; cases h⟩
  | z :: l, x => by
    obtain ⟨a, b⟩ := low_spec l (if z < x then z else x)
    have q : low x (z :: l) = low (if z < x then z else x) l := rfl
    rw [q]
    refine ⟨?_, fun y hy => ?_⟩
    · rcases List.mem_cons.mp a with e | a
      · rw [e]
        split
        · simp
        · simp
      · simp [a]
    · have b0 := b _ List.mem_cons_self
      rcases (List.mem_cons.mp hy) with e | hy
      · subst e
        split at b0 <;> split <;> omega
      · rcases (List.mem_cons.mp hy) with e | hy
        · subst e
          split at b0 <;> split <;> omega
        · exact b y (.tail _ hy)
def bSorted : List D → Option D
  | [.list xs] => (intsD xs).map fun ns => .list ((srt ns).map .int)
  | _ => none
def bMax1 : List D → Option D
  | [.list xs] => match intsD xs with
    | some (n :: ns) => some (.int (top n ns))
    | _ => none
  | _ => none
def bMin1 : List D → Option D
  | [.list xs] => match intsD xs with
    | some (n :: ns) => some (.int (low n ns))
    | _ => none
  | _ => none
section
variable {X : Cx} {K : PySem.W.Frag}
theorem Bw.ints {F H : Hp} {x : V} {xs : List D} {ns : List Int} (b : Bw K F H x (.list xs)) (e : Ex F H) (h1 : intsD xs = some ns) : ∃ p, x = .ref p ∧ SqL K H p (ns.map V.int) := by
  obtain ⟨p, vs, rfl, h2, h3⟩ := b.list e
  rw [intsD_some h1] at h3
  have e3 := dpa_toInts h3
  subst e3
  exact ⟨p, rfl, Or.inl (Or.inl h2)⟩
theorem rc_sorted : RdC K (rSortedI K) bSorted := fun F H xs as c e hx hc Q k => by
  unfold bSorted at hc
  split at hc
  · obtain ⟨ns, h1, h2⟩ := Option.map_eq_some_iff.mp hc
    subst h2
    obtain ⟨x, rfl, b⟩ := bw1 hx
    obtain ⟨p, rfl, h⟩ := b.ints e h1
    refine ⟨p, ns, rfl, h, fun ns' l hp hu hz => ?_⟩
    rw [srt_one hp hu]
    exact k _ _ (Grow.made e hz) _ (.lst upd_same dpa_ints)
  · cases hc
theorem rc_max1 : RdC K (rMax K) bMax1 := fun F H xs as c e hx hc Q k => by
  unfold bMax1 at hc
  split at hc
  · split at hc
    · rename_i n ns h1
      cases hc
      obtain ⟨x, rfl, b⟩ := bw1 hx
      obtain ⟨p, rfl, h⟩ := b.ints e h1
      obtain ⟨t1, t2⟩ := top_spec ns n
      refine ⟨p, n :: ns, rfl, h, Nat.succ_pos _, fun m hm hy => ?_⟩
      have : m = top n ns := Int.le_antisymm (t2 m hm) (hy _ t1)
      subst this
      exact flat_q e (.int _) k
    · cases hc
  · cases hc
theorem rc_min1 : RdC K (rMin K) bMin1 := fun F H xs as c e hx hc Q k => by
  unfold bMin1 at hc
  split at hc
  · split at hc
    · rename_i n ns h1
      cases hc
      obtain ⟨x, rfl, b⟩ := bw1 hx
      obtain ⟨p, rfl, h⟩ := b.ints e h1
      obtain ⟨t1, t2⟩ := low_spec ns n
      refine ⟨p, n :: ns, rfl, h, Nat.succ_pos _, fun m hm hy => ?_⟩
      have : m = low n ns := Int.le_antisymm (hy _ t1) (t2 m hm)
      subst this
      exact flat_q e (.int _) k
    · cases hc
  · cases hc
/-! ### data of the module that stand as names -/
def gD (K : PySem.W.Frag) : Nat → Value → D → Bool
  | _, .int i _, .int j => i == j
  | _, .none, .none => true
  | _, .bool i, .bool j => i == j
  | _, .str i _, .str j => i == j
  | n + 1, .ref a, .tuple ds => match K.lookup a with
    | some ⟨.type "tuple", _, .seq its _, _⟩ => decide (its.size ≤ sizeLine) && its.toList.length == ds.length && (its.toList.zip ds).all fun p => gD K n p.1 p.2
    | _ => false
  | _, _, _ => false
theorem gD_ok {K : PySem.W.Frag} : ∀ (n : Nat) (v : Value) (d : D), gD K n v d = true → ∃ x, RelV x v ∧ ∀ H, Da K H x d
  | 0, v, d, h => by
    unfold gD at h
    split at h
    · exact ⟨.int _, ⟨_, rfl⟩, fun H => by rw [eq_of_beq h]; exact .int _⟩
    · exact ⟨.non, rfl, fun H => .non⟩
    · exact ⟨.bl _, rfl, fun H => by rw [eq_of_beq h]; exact .bl _⟩
    · exact ⟨.str _, ⟨_, rfl⟩, fun H => by rw [eq_of_beq h]; exact .str _⟩
    · rename_i e; cases e
    · cases h
  | n + 1, v, d, h => by
    unfold gD at h
    split at h
    · exact ⟨.int _, ⟨_, rfl⟩, fun H => by rw [eq_of_beq h]; exact .int _⟩
    · exact ⟨.non, rfl, fun H => .non⟩
    · exact ⟨.bl _, rfl, fun H => by rw [eq_of_beq h]; exact .bl _⟩
    · exact ⟨.str _, ⟨_, rfl⟩, fun H => by rw [eq_of_beq h]; exact .str _⟩
    · rename_i m a ds e
      cases e
      split at h
      · rename_i its sz _ hl
        simp only [decide_eq_true_eq, Bool.and_eq_true] at h
        obtain ⟨⟨h1, h2⟩, h3⟩ := h
        have go : ∀ (vs : List Value) (ds : List D), vs.length = ds.length → (vs.zip ds).all (fun p => gD K n p.1 p.2) = true → ∃ xs, Vals xs vs ∧ ∀ H, DaAll K H xs ds := by
          intro vs
          induction vs with
          | nil =>
            intro ds h1 _
            cases ds with
            | nil => exact ⟨[], .nil, fun H => .nil⟩
            | cons d ds => cases h1
          | cons v vs ih =>
            intro ds h1 h2
            cases ds with
            | nil => cases h1
            | cons d ds =>
              simp only [List.zip_cons_cons, List.all_cons, Bool.and_eq_true] at h2
              obtain ⟨x, q1, q2⟩ := gD_ok n v d h2.1
              obtain ⟨xs, q3, q4⟩ := ih ds (by simpa using h1) h2.2
              exact ⟨x :: xs, .cons q1 q3, fun H => .cons (q2 H) (q4 H)⟩
        obtain ⟨xs, q1, q2⟩ := go its.toList ds (eq_of_beq h2) h3
        exact ⟨.ref a, rfl, fun H => .tup (Or.inr ⟨_, its, sz, hl, rfl, rfl, h1, q1⟩) (q2 H)⟩
      · cases h
    · cases h
theorem de_gd {W : WX} {pos : Pos} {x : Str} {v : Value} {d : D} {n : Nat} (hg : Gl X x) (hm : X.mg x = some v) (h : gD X.K n v d = true) (hd : (x == ("__debug__" : Str)) = false := by decide) : DE X W (.Name x pos) (cC d) := by
  obtain ⟨y, r, a⟩ := gD_ok n v d h
  exact de_c (v := y) (pe_glob hg hm r hd) a
end
end DL

/-! DLk -/
namespace DL
open PySem L2 PySem.Spec PyProof.Rows
open Evl (Ex ex_l ex_t ex_rd)
/-- sorted(d), the keys ints -/
def rSortedDk : List V → Hp → VK → Prop := fun vs H Q => ∃ (a : Addr) (kvs : List (Key × V)) (ns : List Int), vs = [V.ref a] ∧ Rd H a (.dK kvs) ∧ kvs.map (·.1) = ns.map Sum.inl ∧
  ∀ (ms : List Int) (p : Addr), ms.Perm ns → ms.Pairwise (· ≤ ·) → H p = none → Q (.ref p) (upd H p (.lst (ms.map V.int)))
section
variable {X : Cx}
theorem ints_at : ∀ {vs : List Value} {ns : List Int}, vs.length = ns.length → (∀ (j : Nat) v i, vs[j]? = some v → ns[j]? = some i → ∃ t, v = Value.int i t) → IntsAre vs ns
  | [], [], _, _ => .nil
  | [], _ :: _, hl, _ => nomatch hl
  | _ :: _, [], hl, _ => nomatch hl
  | v :: vs, i :: ns, h, q => by
    obtain ⟨t, rfl⟩ := q 0 v i rfl rfl
    exact .cons i t (ints_at (by simpa using h) fun j v i a b => q (j + 1) v i a b)
theorem kv_at {κ : Type} : ∀ {kvs : List (κ × V)} {vs : List (κ × Value)}, KV kvs vs → ∀ (j : Nat) (k : κ) (x : Value), vs[j]? = some (k, x) → ∃ y, kvs[j]? = some (k, y)
  | _, _, .nil, j, k, x, h => by simp at h
  | _, _, .cons r t, 0, k, x, h => by
    simp only [Option.some.injEq, List.getElem?_cons_zero] at h
    subst h
    rename_i p _ _
    obtain ⟨p1, p2⟩ := p
    exact ⟨p2, by simp only [List.getElem?_cons_zero]; rw [show p1 = k from r.1]⟩
  | _, _, .cons r t, j + 1, k, x, h => kv_at t j k x h
theorem cr_sortedDk (hc : X.calm = true) : CallR X (.builtin "sorted") rSortedDk := by
  intro pins s σ H vs us Q
  intro I r h
  obtain ⟨a, kvs, ns, rfl, ha, hk, q⟩ := h
  rw [Vals.ref1 r]
  obtain ⟨z, hd, vs', rel, dd⟩ := dk_rd I.hok ha
  obtain ⟨ep, hat⟩ := dd.dictAt
  have hlen : vs'.length = kvs.length := rel.length.symm
  have hlk : kvs.length = ns.length := by
    have := congrArg List.length hk
    simpa using this
  refine Calls.call_function_entry (kind_sorted) plain_sorted entry_sorted (args_sorted1 _) ?_
  unfold Builtin.«sorted»
  refine wpAny_bind (m := (checkCount "sorted" 1 1 _)) (wpAny_pure ?_)
  refine wpAny_bind (PySem.W.kdu_collect (A := X.A.in1) (PySem.W.kdl_dict (kvs := vs') (ep := ep) hd) (by have := I.ok.hd hc; simpa using this) hat (by rw [hlen]; exact z) fun h' tk acc hk2 hacc => ?_)
  have hl : acc.toList.length = vs'.length := by rw [Array.length_toList]; exact hacc.1
  have hI : IntsAre acc.toList ns := ints_at (by rw [hl, hlen, hlk]) fun j v i e1 e2 => by
    obtain ⟨k, x, hx, hi⟩ := hacc.2 j v (by rw [← Array.getElem?_toList]; exact e1)
    obtain ⟨y, hy⟩ := kv_at rel j k x hx
    have e3 : (kvs.map (·.1))[j]? = some k := by rw [List.getElem?_map, hy]; rfl
    rw [hk, List.getElem?_map, e2] at e3
    have e4 : k = Sum.inl i := (Option.some.inj e3).symm
    subst e4
    rcases keyIs_shape (show keyIs (Sum.inl i) v = true from hi) with ⟨i', t, e5, e6⟩ | ⟨x', t, e5, e6⟩
    · injection e5 with e5
      exact ⟨t, by rw [e6, e5]⟩
    · cases e5
  have hsz : acc.toList.length ≤ sizeLine := by rw [hl, hlen]; exact z
  refine wpAny_bind (wpAny_newList ?_ hsz)
  have hoL : (h'.push (seqObj "list" acc.toList.toArray 0)).get? h'.objs.size = some (seqObj "list" acc.toList.toArray 0) :=
    Heap.get?_push_size _ rfl
  refine wpAny_bind (wpAny_holding (wpAny_call_entry slot_list_sort ⟨_, hoL, rfl⟩ entry_list_sort (SrtO.list_sort_ord SrtO.swo_int hoL hsz (fun h2 => SrtO.ints_sortable hI h2) fun out h1 h2 => ⟨_, rfl, ?_⟩) (args_list_sort _)))
  obtain ⟨k1, k2, k3⟩ := SrtO.ints_out hI h1 h2
  obtain ⟨c, hc2⟩ := sortedHeap_at (vs := acc.toList) (out := out.toArray) hoL
  have hln : ((out.map SrtO.iv).map V.int).length ≤ sizeLine := by
    rw [List.length_map, k2.length_eq, ← hlk, ← hlen, ← hl]
    exact hsz
  have fr : H h'.objs.size = none := (I.hok.kept hk2).fresh (Nat.le_refl _)
  have fr2 : s.heap.get? h'.objs.size = none := by
    cases g : s.heap.get? h'.objs.size with
    | none => rfl
    | some u => exact absurd (Heap.lt_size (hk2 _ _ g)) (Nat.lt_irrefl _)
  refine wpAny_pure ⟨_, rfl, .ref _, upd H h'.objs.size (.lst ((out.map SrtO.iv).map V.int)), I.laidN (t' := tk) (fun b o e => ?_) fr2 fr ⟨hln, out, c, vals_of_ints k1, hc2⟩, rfl, q _ _ k2 k3 fr⟩
  have hb := hk2 _ _ e
  have hlt := Heap.lt_size hb
  rw [sortedHeap_old (Nat.ne_of_lt hlt) (by rw [size_push']; exact (Nat.lt_succ_of_lt hlt))]
  exact (Heap.get?_push_of_some _ hb)
end
/-! ### dicts, the keys ints and texts -/
def keyD : D → Option Key
  | .int i => some (.inl i)
  | .str x => some (.inr x)
  | _ => none
theorem keyD_some {d : D} {k : Key} (h : keyD d = some k) : d = kD k := by
  cases d <;> simp only [keyD] at h <;> cases h <;> rfl
theorem keyD_kD (k : Key) : keyD (kD k) = some k := by cases k <;> rfl
def getK (ks : List (Key × D)) (k : Key) : Option D := (ks.find? fun q => decide (q.1 = k)).map (·.2)
def setK (ks : List (Key × D)) (k : Key) (d : D) : List (Key × D) := if (ks.any fun q => decide (q.1 = k)) = true then ks.map (fun q => if q.1 = k then (q.1, d) else q) else ks ++ [(k, d)]
/-- the row of a dict -/
def rowK : List (D × D) → Option (List (Key × D))
  | [] => some []
  | (a, d) :: r => (keyD a).bind fun k => (rowK r).map fun ks => (k, d) :: ks
def dctK : D → Option (List (Key × D))
  | .dict ((.none, .none) :: r) => rowK r
  | _ => none
theorem rowK_map : ∀ ks : List (Key × D), rowK (ks.map fun q => (kD q.1, q.2)) = some ks
  | [] => rfl
  | (k, d) :: ks => by simp [rowK, keyD_kD, rowK_map ks]
theorem dctK_dcD (ks : List (Key × D)) : dctK (dcD ks) = some ks := rowK_map ks
theorem rowK_some : ∀ {r : List (D × D)} {ks : List (Key × D)}, rowK r = some ks → r = ks.map fun q => (kD q.1, q.2)
  | [], ks, h => by simp [rowK] at h; subst h; rfl
  | (a, d) :: r, ks, h => by
    simp only [rowK] at h
    cases h1 : keyD a with
    | none => rw [h1] at h; exact nomatch h
    | some k =>
      rw [h1] at h
      simp only [Option.bind_some, Option.map_eq_some_iff] at h
      obtain ⟨ks', h2, h3⟩ := h
      subst h3
      rw [List.map_cons, ← rowK_some h2, ← keyD_some h1]
theorem dctK_some {d : D} {ks : List (Key × D)} (h : dctK d = some ks) : d = dcD ks := by
  unfold dctK at h
  split at h
  · rw [rowK_some h]
  · cases h
section
variable {K : PySem.W.Frag} {F H : Hp}
theorem dks_len : ∀ {kvs : List (Key × V)} {ks : List (Key × D)}, DKs K F kvs ks → kvs.length = ks.length
  | [], _, h => by cases h; rfl
  | _ :: _, _, h => by
    cases h with
    | cons h1 h2 => simp [dks_len h2]
theorem dks_get : ∀ {kvs : List (Key × V)} {ks : List (Key × D)} (k : Key), DKs K F kvs ks → (∀ d, getK ks k = some d → ∃ v, valV kvs k = some v ∧ Da K F v d) ∧ (getK ks k = none → valV kvs k = none)
  | [], _, k, h => by cases h; exact ⟨fun d e => (by cases e), fun _ => rfl⟩
  | (k', v) :: kvs, _, k, h => by
    cases h with
    | cons h1 h2 =>
      rename_i d ds
      obtain ⟨a, b⟩ := dks_get k h2
      by_cases e : k' = k
      · rw [valV_pos (p := (k', v)) e]
        have g : getK ((k', d) :: ds) k = some d := by simp [getK, List.find?_cons, e]
        rw [g]
        exact ⟨fun d' z => by cases z; exact ⟨v, rfl, h1⟩, fun z => by cases z⟩
      · rw [valV_neg (p := (k', v)) e]
        have g : getK ((k', d) :: ds) k = getK ds k := by simp [getK, List.find?_cons, e]
        rw [g]
        exact ⟨a, b⟩
theorem dks_any : ∀ {kvs : List (Key × V)} {ks : List (Key × D)} (k : Key), DKs K F kvs ks → (kvs.any fun q => decide (q.1 = k)) = (ks.any fun q => decide (q.1 = k))
  | [], _, k, h => by cases h; rfl
  | _ :: _, _, k, h => by
    cases h with
    | cons h1 h2 => simp only [List.any_cons, dks_any k h2]
theorem dks_map {v : V} {d : D} (hv : Da K F v d) (k : Key) : ∀ {kvs : List (Key × V)} {ks : List (Key × D)}, DKs K F kvs ks → DKs K F (kvs.map fun q => if q.1 = k then (q.1, v) else q) (ks.map fun q => if q.1 = k then (q.1, d) else q)
  | [], _, h => by cases h; exact .nil
  | (k', v') :: kvs, _, h => by
    cases h with
    | cons h1 h2 =>
      simp only [List.map_cons]
      by_cases e : k' = k
      · rw [if_pos e, if_pos e]
        exact .cons hv (dks_map hv k h2)
      · rw [if_neg e, if_neg e]
        exact .cons h1 (dks_map hv k h2)
theorem dks_app {v : V} {d : D} (hv : Da K F v d) (k : Key) : ∀ {kvs : List (Key × V)} {ks : List (Key × D)}, DKs K F kvs ks → DKs K F (kvs ++ [(k, v)]) (ks ++ [(k, d)])
  | [], _, h => by cases h; exact .cons hv .nil
  | _ :: _, _, h => by
    cases h with
    | cons h1 h2 => exact .cons h1 (dks_app hv k h2)
theorem dks_put {v : V} {d : D} {kvs : List (Key × V)} {ks : List (Key × D)} (h : DKs K F kvs ks) (hv : Da K F v d) (k : Key) : DKs K F (putK kvs k v) (setK ks k d) := by
  unfold putK setK
  rw [dks_any k h]
  split
  · exact dks_map hv k h
  · exact dks_app hv k h
theorem Bw.dict {v : V} {ks : List (Key × D)} (b : Bw K F H v (dcD ks)) (e : Ex F H) : ∃ p kvs, v = .ref p ∧ H p = some (.dK kvs) ∧ DKs K F kvs ks := by
  have inj : ∀ {ks' : List (Key × D)}, ((PyData.none, PyData.none) :: ks.map (fun q => (kD q.1, q.2)) : List (D × D)) = (.none, .none) :: ks'.map (fun q => (kD q.1, q.2)) → ks' = ks := fun {ks'} z => by
    have z1 := (List.cons.inj z).2
    have a := rowK_map ks
    rw [z1, rowK_map ks'] at a
    exact Option.some.inj a
  generalize hd : dcD ks = dd at b
  cases b with
  | fr h =>
    cases h with
    | scr hs =>
      rename_i a ns
      exfalso
      have z := PyData.dict.inj hd
      cases ns with
      | nil => cases z
      | cons n ns => cases z
    | dct h1 h2 q =>
      have z := PyData.dict.inj hd
      rw [q] at z
      have w := inj z
      subst w
      exact ⟨_, _, rfl, e _ _ h1, h2⟩
    | _ => cases hd
  | ow h n a => cases hd
  | od h n a q =>
    have z := PyData.dict.inj hd
    rw [q] at z
    have w := inj z
    subst w
    exact ⟨_, _, rfl, h, a⟩
end
def oDGet (a b : D) : Option D := (dctK a).bind fun ks => (keyD b).bind fun k => getK ks k
def oDIn (a b : D) : Option D := (dctK b).bind fun ks => (keyD a).map fun k => .bool (getK ks k).isSome
def oDNotIn (a b : D) : Option D := (dctK b).bind fun ks => (keyD a).map fun k => .bool (!(getK ks k).isSome)
def rDIx : R2 := fun x y H Q => ∃ a v, x = .ref a ∧ DGet H a y (some v) ∧ Q v H
def rDIn (z : Bool) : R2 := fun x y H Q => ∃ a o, y = .ref a ∧ DGet H a x o ∧ Q (.bl (z ^^ o.isSome)) H
section
variable {X : Cx} {K : PySem.W.Frag}
theorem ix_dk (hu : X.A.units + 1 < cLine) : IxR X rDIx := by
  intro value slice pins s σ H x y v u Q
  intro I rx ry h hs
  obtain ⟨a, r, rfl, g, q⟩ := h
  obtain rfl : v = .ref a := rx
  exact tail_any (dict_typeIs I g) PySem.F.slot_dict_getitem.lookup (d_getItem hu I g ry fun w' s' I' rw' => ⟨r, H, I', rw', q⟩) hs
theorem op_dkIn (hu : X.A.units + 1 < cLine) : OpR X (compareOp .In) (rDIn false) := by
  intro pins s σ H x y v u Q
  intro I rx ry h
  obtain ⟨a, o, rfl, g, q⟩ := h
  obtain rfl : u = .ref a := ry
  exact d_in hu I g rx fun s' I' => ⟨.bl o.isSome, H, I', rfl, by simpa using q⟩
theorem op_dkNotIn (hu : X.A.units + 1 < cLine) : OpR X (compareOp .NotIn) (rDIn true) := by
  intro pins s σ H x y v u Q
  intro I rx ry h
  obtain ⟨a, o, rfl, g, q⟩ := h
  obtain rfl : u = .ref a := ry
  exact d_notIn hu I g rx fun s' I' => ⟨.bl (!o.isSome), H, I', rfl, by simpa using q⟩
theorem bw_key {F H : Hp} {x : V} {a : D} {k : Key} (h : Bw K F H x a) (e : keyD a = some k) : x = kV k := by
  have := keyD_some e
  subst this
  cases k with
  | inl i => exact h.int
  | inr z => exact h.str
theorem rd_dIx : RdO K rDIx oDGet := fun F H x y a b c e hx hy hc Q k => by
  unfold oDGet at hc
  obtain ⟨ks, h1, hc⟩ := Option.bind_eq_some_iff.mp hc
  obtain ⟨kk, h2, hc⟩ := Option.bind_eq_some_iff.mp hc
  rw [dctK_some h1] at hx
  obtain ⟨p, kvs, rfl, h3, h4⟩ := hx.dict e
  obtain ⟨v, h5, h6⟩ := (dks_get kk h4).1 c hc
  refine ⟨p, v, rfl, .inl ⟨kvs, kk, .inl h3, bw_key hy h2, h5.symm⟩, flat_q e h6 k⟩
theorem rd_dIn (z : Bool) {o : D → D → Option D} (ho : ∀ a b, o a b = (dctK b).bind fun ks => (keyD a).map fun k => .bool (z ^^ (getK ks k).isSome)) : RdO K (rDIn z) o := fun F H x y a b c e hx hy hc Q k => by
  rw [ho] at hc
  obtain ⟨ks, h1, hc⟩ := Option.bind_eq_some_iff.mp hc
  obtain ⟨kk, h2, hc⟩ := Option.map_eq_some_iff.mp hc
  subst hc
  rw [dctK_some h1] at hy
  obtain ⟨p, kvs, rfl, h3, h4⟩ := hy.dict e
  obtain ⟨g1, g2⟩ := dks_get kk h4
  have e2 : (valV kvs kk).isSome = (getK ks kk).isSome := by
    cases hg : getK ks kk with
    | none => rw [g2 hg]; rfl
    | some d =>
      obtain ⟨v, h5, _⟩ := g1 d hg
      rw [h5] <;> rfl
  refine ⟨p, valV kvs kk, rfl, .inl ⟨kvs, kk, .inl h3, bw_key hx h2, rfl⟩, ?_⟩
  rw [e2]
  exact flat_q e (.bl _) k
theorem room1 {k : Nat} {A : Around} (r : Room k A) : A.units + 1 < cLine := by have := r.units; omega
/-- all subscripts, all kinds of in -/
def oIxA (a b : D) : Option D := match a with
  | .dict _ => oDGet a b
  | _ => oIx a b
def oInB (a b : D) : Option D := match b with
  | .dict _ => oDIn a b
  | _ => oInA a b
def oNotInB (a b : D) : Option D := match b with
  | .dict _ => oDNotIn a b
  | _ => oNotInA a b
theorem ixA (hu : X.A.units + 1 < cLine) : IxR X (fun x y H Q => rIx X.K x y H Q ∨ rDIx x y H Q) := ixD.or (ix_dk hu)
theorem rd_ixA : RdO K (fun x y H Q => rIx K x y H Q ∨ rDIx x y H Q) oIxA := RdO.or rd_ix rd_dIx fun a b c h => by
  unfold oIxA at h
  split at h
  · exact .inr h
  · exact .inl h
theorem op_inB (hu : X.A.units + 65 < cLine) : OpR X (compareOp .In) (fun x y H Q => (rInDD X.K x y H Q ∨ rIn X.K false x y H Q) ∨ rDIn false x y H Q) := (op_inA hu).or (op_dkIn (by omega))
theorem op_notinB (hu : X.A.units + 65 < cLine) : OpR X (compareOp .NotIn) (fun x y H Q => (rNotInDD X.K x y H Q ∨ rIn X.K true x y H Q) ∨ rDIn true x y H Q) := (op_notinA hu).or (op_dkNotIn (by omega))
theorem rd_inB : RdO K (fun x y H Q => (rInDD K x y H Q ∨ rIn K false x y H Q) ∨ rDIn false x y H Q) oInB := RdO.or rd_inA (rd_dIn false (o := oDIn) fun a b => by simp [oDIn]) fun a b c h => by
  unfold oInB at h
  split at h
  · exact .inr h
  · exact .inl h
theorem rd_notinB : RdO K (fun x y H Q => (rNotInDD K x y H Q ∨ rIn K true x y H Q) ∨ rDIn true x y H Q) oNotInB := RdO.or rd_notinA (rd_dIn true (o := oDNotIn) fun a b => by simp [oDNotIn]) fun a b c h => by
  unfold oNotInB at h
  split at h
  · exact .inr h
  · exact .inl h
/-! sorted, of a list of ints or of a dict whose keys are ints -/
def intKs : List (Key × D) → Option (List Int)
  | [] => some []
  | (.inl i, _) :: r => (intKs r).map (i :: ·)
  | _ => none
theorem intKs_some : ∀ {ks : List (Key × D)} {ns : List Int}, intKs ks = some ns → ks.map (·.1) = ns.map Sum.inl
  | [], ns, h => by simp [intKs] at h; subst h; rfl
  | (.inl i, d) :: r, ns, h => by
    simp only [intKs] at h
    obtain ⟨m, h1, h2⟩ := Option.map_eq_some_iff.mp h
    subst h2
    rw [List.map_cons, intKs_some h1] <;> rfl
  | (.inr x, d) :: r, ns, h => by cases h
theorem dks_keys {F : Hp} : ∀ {kvs : List (Key × V)} {ks : List (Key × D)}, DKs K F kvs ks → kvs.map (·.1) = ks.map (·.1)
  | [], _, h => by cases h; rfl
  | _ :: _, _, h => by
    cases h with
    | cons h1 h2 => simp only [List.map_cons, dks_keys h2]
def bSortedA : List D → Option D
  | [.dict r] => (dctK (.dict r)).bind fun ks => (intKs ks).map fun ns => .list ((srt ns).map .int)
  | as => bSorted as
theorem cr_sortedA (hc : X.calm = true) : CallR X (.builtin "sorted") (fun xs H Q => rSortedI X.K xs H Q ∨ rSortedDk xs H Q) := cr_sortedI.or (cr_sortedDk hc)
theorem rc_sortedA : RdC K (fun xs H Q => rSortedI K xs H Q ∨ rSortedDk xs H Q) bSortedA := fun F H xs as c e hx hc Q k => by
  unfold bSortedA at hc
  split at hc
  · right
    obtain ⟨ks, h1, hc⟩ := Option.bind_eq_some_iff.mp hc
    obtain ⟨ns, h2, hc⟩ := Option.map_eq_some_iff.mp hc
    subst hc
    obtain ⟨x, rfl, b⟩ := bw1 hx
    rw [dctK_some h1] at b
    obtain ⟨p, kvs, rfl, h3, h4⟩ := b.dict e
    refine ⟨p, kvs, ns, rfl, .inl h3, (dks_keys h4).trans (intKs_some h2), fun ns' l hp hu hz => ?_⟩
    rw [srt_one hp hu]
    exact k _ _ (Grow.made e hz) _ (.lst upd_same dpa_ints)
  · exact .inl (rc_sorted F H xs as c e hx hc Q k)
end
/-! ### {}, d[k] = v -/
def asDic : Env → R SV := fun _ => .ok (.dic [])
section
variable {X : Cx} {W : WX} {o i e value : Expr} {pos pos' : Pos} {f g h : Env → R D}
theorem dx_dic {W : WX} : DX X W (.Dict [] [] pos) asDic := ⟨pe_imp pe_dnewK fun σ H Q ⟨F0, H0, F, ρ, r, k⟩ p hp => by
  have e := r.g.in_
  have fp : F p = none := Evl.fresh_back e hp
  exact k F (upd H p (.dK [])) (Grow.held e hp) _ ⟨p, [], rfl, hp, fp, upd_same, .nil⟩⟩
def sPut (i : Nat) (f g : Env → R D) : Env → Out := fun ρ => exB ρ (f ρ) fun d => match ρ[i]? with
  | some (.dic ks) => exB ρ (g ρ) fun b => match keyD b with
    | some k => if ks.length < 100000 then .nx (ρ.set i (.dic (setK ks k d))) else .bad
    | none => .bad
  | _ => .bad
theorem ds_put {i : Nat} {x : Str} {p1 : Pos} {ix : Expr} (hu : X.A.units + 1 < cLine) (hN : X.N[i]? = some x) (hv : Vis X.env.scope x) (ha : DE X W value f) (hb : DE X W ix g)
    (hs : swapsWith value (some (.Subscript (.Name x p1) ix pos')) pos.line X.env = pure false := by rfl) (hd : (x == ("__debug__" : Str)) = false := by decide) (hcd : (x == ("__classdict__" : Str)) = false := by decide) :
    DS X W (.Assign [.Subscript (.Name x p1) ix pos'] value pos) (sPut i f g) :=
  ⟨ps_imp (ps_dput hu (pe_var hN hv hd hcd) hb.pe ha.pe hs) fun Z σ H ⟨F0, H0, F, ρ, r, k⟩ => ⟨F0, H0, F, ρ, r, exB_ok r k fun d F1 H1 g1 q1 v hv => by
    split at q1
    · rename_i ks hi
      obtain ⟨p, kvs, e1, e2, e3, e4, e5⟩ := (r.grow g1).dic i ks hi
      refine ⟨.ref p, e1, F0, H0, F1, ρ, r.grow g1, exB_ok (r.grow g1) q1 fun b F2 H2 g2 q2 y hy => ?_⟩
      split at q2
      · rename_i kk hk
        split at q2
        · rename_i hlen
          have r2 := (r.grow g1).grow g2
          have e4' := g2.h _ _ e4
          have fp : F2 p = none := by
            cases z : F2 p with
            | none => rfl
            | some o =>
              have w := g2.new p o z e3
              rw [e4] at w; cases w
          have l5 := dks_len e5
          have ey : y = kV kk := bw_key (H := H2) (.fr hy) hk
          refine ⟨p, _, rfl, .inl ⟨kvs, kk, e4', ey, Evl.sz_lt (by omega), rfl⟩, ?_⟩
          exact q2 F2 _ σ (.refl _) (r2.mutD hi e1 ⟨_, e4'⟩ e2 fp (dks_put (e5.up g2.f) (hv.up g2.f) kk))
        · exact q2.elim
      · exact q2.elim
    · exact q1.elim⟩⟩
end
end DL

/-! DLi -/
namespace DL
open PySem L2 PySem.Spec PyProof.Rows
open Evl (Ex ex_l ex_t ex_rd)
section
variable {X : Cx} {W : WX} {e e1 e2 e3 o i value : Expr} {es : List Expr} {pos pos' : Pos} {f g h : Env → R D}
/-- x[k] = v, x an own list -/
def sPutL (i : Nat) (f g : Env → R D) : Env → Out := fun ρ => exB ρ (f ρ) fun d => match ρ[i]? with
  | some (.own ds) => exB ρ (g ρ) fun b => match intD b with
    | some k => match ixN ds.length k with
      | some j => .nx (ρ.set i (.own (ds.set j d)))
      | none => .bad
    | none => .bad
  | _ => .bad
theorem ds_putL {i : Nat} {x : Str} {p1 : Pos} {ix : Expr} (hN : X.N[i]? = some x) (hv : Vis X.env.scope x) (ha : DE X W value f) (hb : DE X W ix g)
    (hs : swapsWithSole [.Subscript (.Name x p1) ix pos'] value pos.line X.env = pure false := by rfl) (hw : swappedStores [.Subscript (.Name x p1) ix pos'] value X.env = pure none := by rfl)
    (h1 : (assignEach [.Subscript (.Name x p1) ix pos'] X.env).map (·.2) = [assign (.Subscript (.Name x p1) ix pos') X.env] := by rfl)
    (hq : ∀ v, assign (.Subscript (.Name x p1) ix pos') X.env v = (do
      let ov ← holding [v] (eval (.Name x p1) X.env)
      let iv ← holding [v, ov] (eval ix X.env)
      standAt pos'; holding [v, ov, iv] (setItem ov iv v)
      release [v, ov, iv] []) := by intro _; rfl)
    (hdb : (x == ("__debug__" : Str)) = false := by decide) (hcd : (x == ("__classdict__" : Str)) = false := by decide) :
    DS X W (.Assign [.Subscript (.Name x p1) ix pos'] value pos) (sPutL i f g) :=
  ⟨ps_imp (ps_asg ha.pe (pg_sub (pe_var hN hv hdb hcd) hb.pe set_list hq) hs hw h1) fun Z σ H ⟨F0, H0, F, ρ, r, k⟩ => ⟨F0, H0, F, ρ, r, exB_ok r k fun d F1 H1 g1 q1 v hv => by
    split at q1
    · rename_i ds hi
      obtain ⟨p, vs, e1, e2, e3, e4, e5⟩ := (r.grow g1).own i ds hi
      refine ⟨.ref p, e1, F0, H0, F1, ρ, r.grow g1, exB_ok (r.grow g1) q1 fun b F2 H2 g2 q2 y hy => ?_⟩
      split at q2
      · rename_i kk hk
        split at q2
        · rename_i j hj
          have hk' := intD_some hk
          subst hk'
          cases hy
          have r2 := (r.grow g1).grow g2
          have e4' := g2.h _ _ e4
          have fp : F2 p = none := by
            cases z : F2 p with
            | none => rfl
            | some o =>
              have w := g2.new p o z e3
              rw [e4] at w; cases w
          refine ⟨p, vs, kk, j, rfl, rfl, e4', by rw [dpa_len e5]; exact hj, ?_⟩
          exact q2 F2 _ σ (.refl _) (r2.mut hi e1 ⟨_, e4'⟩ e2 fp (dpa_set j (e5.up g2.f) (hv.up g2.f)))
        · exact q2.elim
      · exact q2.elim
    · exact q1.elim⟩⟩
/-! ### methods by values -/
def RdM (K : PySem.W.Frag) (T : String) (r : V → List V → Hp → VK → Prop) (o : D → List D → Option D) : Prop :=
  ∀ (F H : Hp) (x : V) (a : D) (c : D) (xs : List V) (as : List D), Ex F H → Bw K F H x a → BwAll K F H xs as → o a as = some c → ∀ Q : VK, (∀ F' H', Grow F H F' H' → ∀ v, Da K F' v c → Q v H') → r x xs H Q
def lstB : D → Bool
  | .list _ => true
  | _ => false
def cMt (o : D → List D → Option D) (f : Env → R D) (q : Env → R (List D)) : Env → R D := fun ρ => (f ρ).bind fun a => if lstB a = true then (q ρ).bind fun as => ofO (o a as) else .bad
/-- list.index of data -/
def idxD : List D → D → Option Nat
  | [], _ => none
  | x :: xs, d => if PyData.eqv x d = true then some 0 else (idxD xs d).map (· + 1)
def mIndexL (a : D) (as : List D) : Option D := match a, as with
  | .list xs, [d] => if SeqAt.shaped (.list xs) = true ∧ SeqAt.shaped d = true then (idxD xs d).map fun j => .int (j : Nat) else none
  | _, _ => none
theorem idxD_some : ∀ {xs : List D} {d : D} {j : Nat}, idxD xs d = some j → ∃ z, xs[j]? = some z ∧ PyData.eqv z d = true ∧ ∀ (m : Nat) (z' : D), m < j → xs[m]? = some z' → PyData.eqv z' d = false
  | [], d, j, h => by cases h
  | x :: xs, d, j, h => by
    unfold idxD at h
    split at h
    · rename_i e
      cases h
      exact ⟨x, rfl, e, fun m z' hm => absurd hm (Nat.not_lt_zero _)⟩
    · rename_i e
      obtain ⟨j', h1, h2⟩ := Option.map_eq_some_iff.mp h
      subst h2
      obtain ⟨z, a, b, c⟩ := idxD_some h1
      refine ⟨z, a, b, fun m z' hm hz => ?_⟩
      cases m with
      | zero =>
        cases hz
        cases q : PyData.eqv x d with
        | false => rfl
        | true => exact absurd q e
      | succ m => exact c m z' (by omega) hz
theorem rm_indexL {K : PySem.W.Frag} : RdM K "list" (fun x xs H Q => tyV K "list" x H ∧ rIndexD K x xs H Q) mIndexL := fun F H x a c xs as e hx hxs hc Q k => by
  unfold mIndexL at hc
  split at hc
  · rename_i ds d
    split at hc
    · rename_i sh
      obtain ⟨j, h1, h2⟩ := Option.map_eq_some_iff.mp hc
      subst h2
      obtain ⟨z, q1, q2, q3⟩ := idxD_some h1
      obtain ⟨y, rfl, b⟩ := bw1 hxs
      have hda := hx.da e
      obtain ⟨p, vs, rfl, h3, h4⟩ := hx.list e
      refine ⟨.inl ⟨rfl, vs, Or.inl (Or.inl h3)⟩, p, y, d, ds, j, z, rfl, rfl, da_dp _ _ (SeqAt.canLay_of_shaped sh.1) hda, da_dp _ _ (SeqAt.canLay_of_shaped sh.2) (b.da e), sh.1, sh.2, q1, q2, q3, flat_q e (.int _) k⟩
    · cases hc
  · cases hc
/-- list.count of ints -/
def mCountL (a : D) (as : List D) : Option D := match a, as with
  | .list xs, [.int k] => (intsD xs).map fun ns => .int (ns.count k : Nat)
  | _, _ => none
theorem rm_countL {K : PySem.W.Frag} : RdM K "list" (fun x xs H Q => tyV K "list" x H ∧ rCntI K x xs H Q) mCountL := fun F H x a c xs as e hx hxs hc Q k => by
  unfold mCountL at hc
  split at hc
  · rename_i ds n
    obtain ⟨ns, h1, h2⟩ := Option.map_eq_some_iff.mp hc
    subst h2
    obtain ⟨y, rfl, b⟩ := bw1 hxs
    obtain ⟨p, rfl, h⟩ := hx.ints e h1
    exact ⟨.inl ⟨rfl, _, h⟩, p, ns, n, rfl, by rw [b.int], h, flat_q e (.int _) k⟩
  · cases hc
theorem de_meth {id : String} {name : Str} {apos : Pos} {r : V → List V → Hp → VK → Prop} {m : D → List D → Option D} {q : Env → R (List D)} (hr : RdM X.K "list" (fun x xs H Q => tyV X.K "list" x H ∧ r x xs H Q) m)
    (slot : Slot "list" name id) (hty : typeOf (.builtin id) = pure (.type "method_descriptor")) (hm : MtR X id r) (ho : DB X W o f) (ha : DAB X W (e :: es) q)
    (hbase : attributeBase o name X.env (eval o X.env) = eval o X.env := by rfl) (hfew : ((backTo pos (starEach (e :: es) X.env)).all (fun x => !x.1) && (backToKw pos (keywordEach [] X.env)).all (fun x => x.1.isSome) && decide ((e :: es).length + ([] : List Keyword).length + (if ([] : List Keyword).isEmpty then 0 else 1) < 30)) = true := by rfl)
    (hline : (apos.endLine == pos.line) = true := by rfl) (hs : starEach (e :: es) X.env = (false, eval e X.env) :: starEach es X.env := by rfl) (hplain : (backTo pos (starEach es X.env)).any (·.1) = false := by rfl) :
    DE X W (.Call (.Attribute o name apos) (e :: es) [] pos) (cMt m f q) :=
  ⟨pe_imp (pe_bm PySem.F.plainAttrs_list slot hty hm ho.pe ha.pa hbase hfew hline hs hplain) fun σ H Q ⟨F0, H0, F, ρ, rp, k⟩ => ⟨F0, H0, F, ρ, rp, (ROk.step (r := f ρ) k).imp fun a F1 H1 _ g1 q1 x hx => by
    split at q1
    · rename_i la
      have ty : tyV X.K "list" x H1 := by
        cases a with
        | list ds =>
          obtain ⟨p, vs, rfl, h3, h4⟩ := hx.list g1.in_
          exact .inl ⟨rfl, vs, Or.inl (Or.inl h3)⟩
        | _ => cases la
      exact ⟨ty, F0, H0, F1, ρ, rp.grow g1, (ROk.step (r := q ρ) q1).imp fun as F2 H2 _ g2 q2 vs hvs => by
        obtain ⟨c2, e2, z2⟩ := q2.ofO
        exact (hr F2 H2 x a c2 vs as g2.in_ (hx.grow g2) hvs e2 Q fun F3 H3 g3 v hv => z2 F3 H3 g3 v hv).2⟩
    · exact q1.elim⟩⟩
/-- a call without arguments -/
theorem de_call0 {x : Str} {p : Pos} {k j : Nat} {sem : List D → R D} (C : Callee X.prog X.w X.K X.mg X.base k x 0 sem) (hr : Room j X.A) (hkj : k ≤ j) (hg : Gl X x) (tk : Takes X W) (hdb : (x == ("__debug__" : Str)) = false := by decide) :
    DE X W (.Call (.Name x p) [] [] pos) (cCall sem aNil) := by
  obtain ⟨f, fd, ps, hm, hk, hb, Fn⟩ := C.ex
  refine ⟨⟨fun pins s σ H Q I ⟨F0, H0, F, ρ, r, z⟩ => ?_⟩⟩
  have z : ROk X.K X.mg (fun c d H' => W c d σ H') F H (fun d F' H' => ∀ v, Da X.K F' v d → Q v H') (sem []) := z
  refine wpAny_Call_Name_kw (ld_glob I hg hm ?_ (hdb))
  exact PySem.W.callWith_K0 I.kIn hk (run_fnSD (us := []) (vs := []) Fn (hr.mono hkj) hb .nil (passAt tk σ) I .nil ⟨F, [], r.g.in_, .nil, rfl, z⟩)
/-- x.extend(e), x an own list -/
def sExt (i : Nat) (f : Env → R D) : Env → Out := fun ρ => match ρ[i]? with
  | some (.own ds) => exB ρ (f ρ) fun d => match d with
    | .list es => if ds.length + es.length ≤ 100000 then .nx (ρ.set i (.own (ds ++ es))) else .bad
    | _ => .bad
  | _ => .bad
theorem ds_ext {i : Nat} {x : Str} {p1 p2 p3 : Pos} (hN : X.N[i]? = some x) (hv : Vis X.env.scope x) (ha : DE X W e f) (hd : (x == ("__debug__" : Str)) = false := by decide) (hcd : (x == ("__classdict__" : Str)) = false := by decide)
    (hbase : attributeBase (.Name x p1) "extend" X.env (eval (.Name x p1) X.env) = eval (.Name x p1) X.env := by rfl)
    (hfew : ((backTo p3 (starEach [e] X.env)).all (fun x => !x.1) && (backToKw p3 (keywordEach [] X.env)).all (fun x => x.1.isSome) && decide ([e].length + ([] : List Keyword).length + (if ([] : List Keyword).isEmpty then 0 else 1) < 30)) = true := by rfl)
    (hline : (p2.endLine == p3.line) = true := by rfl) (hs : starEach [e] X.env = (false, eval e X.env) :: starEach [] X.env := by rfl) (hplain : (backTo p3 (starEach [] X.env)).any (·.1) = false := by rfl)
    (hsw : swapsWith (.Call (.Attribute (.Name x p1) "extend" p2) [e] [] p3) none pos.line X.env = pure false := by rfl) :
    DS X W (.Expr (.Call (.Attribute (.Name x p1) "extend" p2) [e] [] p3) pos) (sExt i f) :=
  ⟨ps_imp (ps_expr (pe_bm PySem.F.plainAttrs_list PySem.F.slot_list_extend PySem.F.type_list_extend mt_extend (pe_var hN hv hd hcd) (pa_cons ha.pe pa_nil hs) hbase hfew hline hs hplain) hsw) fun Z σ H ⟨F0, H0, F, ρ, r, k⟩ => by
    have k : OOk X.K X.mg W F0 H0 F Z (match ρ[i]? with | some (.own ds) => exB ρ (f ρ) fun d => (match d with | .list es => if ds.length + es.length ≤ 100000 then .nx (ρ.set i (.own (ds ++ es))) else .bad | _ => .bad) | _ => .bad) := k
    split at k
    · rename_i ds hi
      obtain ⟨p, vs, e1, e2, e3, e4, e5⟩ := r.own i ds hi
      refine ⟨.ref p, e1, .inl ⟨rfl, _, Or.inl (Or.inl e4)⟩, F0, H0, F, ρ, r, exB_ok r k fun d F' H' gr q v hv => ?_⟩
      split at q
      · rename_i es
        split at q
        · rename_i hlen
          have r' := r.grow gr
          have fp : F' p = none := by
            cases z : F' p with
            | none => rfl
            | some o =>
              have w := gr.new p o z e3
              rw [e4] at w; cases w
          cases hv with
          | lst h1 h2 =>
            have l5 := dpa_len e5
            have l6 := dpa_len h2
            refine ⟨p, _, vs, _, rfl, rfl, gr.h _ _ e4, gr.in_ _ _ h1, Evl.sz_of (by omega), ?_⟩
            exact q F' _ σ (.refl _) (r'.mut hi e1 ⟨_, gr.h _ _ e4⟩ e2 fp (dpa_app (e5.up gr.f) h2))
        · exact q.elim
      · exact q.elim
    · exact k.elim⟩
/-- d.get(k, x) -/
def cGet2 (f g h : Env → R D) : Env → R D := fun ρ => (f ρ).bind fun a => (ofO (dctK a)).bind fun ks => (g ρ).bind fun b => (h ρ).bind fun d => (ofO (keyD b)).bind fun k => .ok ((getK ks k).getD d)
theorem de_get2 {apos cpos : Pos} (hu : X.A.units + 1 < cLine) (ho : DB X W o f) (ha : DE X W e1 g) (hb : DE X W e2 h)
    (m1 : attributeBase o "get" X.env (eval o X.env) = eval o X.env := by rfl)
    (m2 : ((backTo cpos (starEach [e1, e2] X.env)).all (fun x => !x.1) && (backToKw cpos (keywordEach [] X.env)).all (fun x => x.1.isSome) && decide (([e1, e2] : List Expr).length + ([] : List Keyword).length + (if ([] : List Keyword).isEmpty then 0 else 1) < 30)) = true := by rfl)
    (m3 : (apos.endLine == cpos.line) = true := by rfl) (m4 : backTo cpos (starEach [e1, e2] X.env) = [(false, eval e1 X.env), (false, eval e2 X.env)] := by rfl) :
    DE X W (.Call (.Attribute o "get" apos) [e1, e2] [] cpos) (cGet2 f g h) :=
  ⟨pe_imp (pe_dget2 hu ho.pe ha.pe hb.pe ⟨m1, m2, m3, m4⟩) fun σ H Q ⟨F0, H0, F, ρ, rp, k⟩ => ⟨F0, H0, F, ρ, rp, (ROk.step (r := f ρ) k).imp fun a F1 H1 _ g1 q1 x hx => by
    cases hk : dctK a with
    | none => rw [hk] at q1; exact q1.elim
    | some ks =>
      rw [hk] at q1
      have q1 : ROk X.K X.mg (fun c d H' => W c d σ H') F1 H1 (fun a F' H' => ∀ v, Da X.K F' v a → Q v H') ((g ρ).bind fun b => (h ρ).bind fun d => (ofO (keyD b)).bind fun k => .ok ((getK ks k).getD d)) := q1
      rw [dctK_some hk] at hx
      obtain ⟨p, kvs, rfl, h3, h4⟩ := hx.dict g1.in_
      refine ⟨p, rfl, .inl ⟨kvs, .inl h3⟩, F0, H0, F1, ρ, rp.grow g1, (ROk.step (r := g ρ) q1).imp fun b F2 H2 _ g2 q2 y hy => ⟨F0, H0, F2, ρ, (rp.grow g1).grow g2, (ROk.step (r := h ρ) q2).imp fun d F3 H3 _ g3 q3 z hz => ?_⟩⟩
      cases hb : keyD b with
      | none => rw [hb] at q3; exact q3.elim
      | some kk =>
        rw [hb] at q3
        have q3 : ∀ F4 H4, Grow F3 H3 F4 H4 → ∀ v, Da X.K F4 v ((getK ks kk).getD d) → Q v H4 := q3
        have h4' := (h4.up g2.f).up g3.f
        obtain ⟨n1, n2⟩ := dks_get kk h4'
        have ey : y = kV kk := bw_key (H := H3) (.fr (hy.up g3.f)) hb
        refine ⟨valV kvs kk, .inl ⟨kvs, kk, .inl (g3.h _ _ (g2.h _ _ h3)), ey, rfl⟩, ?_⟩
        cases hg : getK ks kk with
        | none =>
          rw [n2 hg]
          rw [hg] at q3
          exact q3 F3 H3 (.refl g3.in_) z hz
        | some d' =>
          obtain ⟨v, h5, h6⟩ := n1 d' hg
          rw [h5]
          rw [hg] at q3
          exact q3 F3 H3 (.refl g3.in_) v h6⟩⟩
end
end DL

/-! DLj -/
/-! set(x), x a list of ints -/
namespace DL
open PySem L2 PySem.Spec PyProof.Rows
section
variable {P : Program} {w : World} {A : Around} {s : Shared} {E : Value → Shared → Prop}
/-- the new set as it is made -/
def nset (w : World) : Obj := { cls := .type "set", dict := none, data := .set #[] 0 (.fresh 0 0 (!w.params.followText "set-order")) }
/-- what set.__init__ leaves at the new set's place -/
def Filled (w : World) (s : Shared) (ns : List Int) (r : Value) (t : Shared) : Prop :=
  r = .none ∧ ∃ h1 k c, t = { s with heap := h1, toks := k } ∧ SetR w h1 s.heap.objs.size (fun j => decide (j ∈ ns)) c ∧ c ≤ ns.length ∧ ∀ b u, s.heap.get? b = some u → h1.get? b = some u
set_option maxHeartbeats 3300000 in
theorem set_list {l : Addr} {items : Array Value} (ns : List Int) {Q : Value → Shared → Prop} (nh : A.handled = none) (li : s.heap.IsList l items) (ia : IntsAre items.toList ns) (hb : ns.length + 1 < scanBound)
    (goal : ∀ (h1 : Heap) (k c : Nat), SetR w h1 s.heap.objs.size (fun j => decide (j ∈ ns)) c → c ≤ ns.length → (∀ b u, s.heap.get? b = some u → h1.get? b = some u) → Q (.ref s.heap.objs.size) { s with heap := h1, toks := k }) :
    (wpAny (model P w) A (call (.type "set") [.ref l]) Q E s) := by
  have len : items.size = ns.length := (Array.length_toList (xs := items)).symm.trans (IntsAre.length ia)
  obtain ⟨mc, mt, mm⟩ := F.called_set.mro
  have m1 := F.called_set.made; have m2 := F.called_set.sub; have m3 := F.called_set.notType; have m4 := F.called_set.canCreate; have m5 := F.typeCall_set_1 (.ref l)
  refine wpAny_call (codeAny_of_tree (show wpAny _ _ (callAny (.type "set") _) _ _ _ from wpAny_pure ⟨Code.quiet_builtin _ (by decide +kernel), codeAny_builtin F.entry_type_call ?_⟩))
  rw [Around.under_plain (weight_type_call_type "set" [.ref l] []) (by rfl)]
  repeat (any_goals (first | wp_step | assumption))
  refine codeAny_mono (code_set_led1 (.ref l) (E := E) (Q₁ := fun v t => v = .ref s.heap.objs.size ∧ t = { s with heap := s.heap.push (nset w) }) ⟨by rfl, by rfl⟩) fun r t hr => ?_
  match r, hr with
  | .error _, hr => exact hr
  | .ok (.ret v), hr =>
    obtain ⟨rfl, rfl⟩ := hr
    have at0 : (s.heap.push (nset w)).get? s.heap.objs.size = some (nset w) := Heap.get?_push_size _ (by rfl)
    have ty : Shared.TypeIs { s with heap := s.heap.push (nset w) } (.ref s.heap.objs.size) "set" := ⟨_, at0, by rfl⟩
    have i1 := F.called_set.init.lookup; have i2 := F.called_set.init.bind (.ref s.heap.objs.size)
    repeat (any_goals (first | wp_step | assumption))
    refine codeAny_mono (codeAny_call_builtin (R := wants (Filled w s ns) E) F.called_set.init.plain F.entry_set_init (check_set_init_1 ty ?_)) fun r t hr => ?_
    · obtain ⟨⟨oc, od, oda, osl⟩, g1, g2, nl, g3⟩ := li
      simp only at g2 g3; subst g2; subst g3
      have g1' : (s.heap.push (nset w)).get? l = some ⟨.type "list", od, .seq items nl, osl⟩ := Heap.get?_push_of_some _ g1
      have q1 := F.sub_list_set; have q2 := F.sub_list_frozenset; have q3 : (Value.type "list" == Value.type "dict") = false := by decide
      have li1 : (s.heap.push (nset w)).IsList l items := ⟨_, g1', by rfl, nl, by rfl⟩
      unfold Builtin.«set.__init__» noKeywords; unfold Builtin.Frozenset.updateFrom
      generalize hq : pyIter = PI
      wp_walk
      subst hq
      refine wpAny_pyIter_list li1 (wpAny_bind (wpAny_runValue ?_))
      have lt := Heap.lt_size g1
      have nh3 : A.in1.in1.in1.handled = none := by simp [nh]
      have sz := Heap.size_push s.heap (nset w)
      have ne1 : l ≠ (s.heap.push (nset w)).objs.size := Nat.ne_of_lt (by rw [sz]; exact Nat.lt_succ_of_lt lt)
      have ni : s.heap.objs.size ∉ [(s.heap.push (nset w)).objs.size, l] := fun z => by
        rw [sz] at z
        rcases (List.mem_cons.mp z) with z | z
        · exact Nat.lt_irrefl _ (Nat.lt_of_lt_of_eq (Nat.lt_succ_self _) z.symm)
        · exact Nat.lt_irrefl _ (Nat.lt_of_le_of_lt (Nat.le_of_eq (List.mem_singleton.mp z)) lt)
      refine set_update_ints ((Walks.list nh3 _ l ne1 items).toS) s.heap.objs.size ni ns len hb (fun i v hv => ?_) items.size 0 _ (by omega) (Nat.zero_le _) ⟨⟨_, Heap.get?_push_size _ (by rfl), by rfl, by rfl⟩, li1.push _⟩
        ⟨0, Nat.le_refl 0, setR_new_at (Heap.get?_push_of_some _ at0)⟩ fun t c hm hc hS => ?_
      · have hi : i < ns.length := by rw [← len]; exact (Array.getElem?_eq_some_iff.mp hv).1
        obtain ⟨tk, e⟩ := PyProof.Rows.IntsAre.int_at ia i v (by rw [Array.getElem?_toList]; exact hv)
        exact ⟨ns[i], tk, List.getElem?_eq_getElem hi, by rw [e, List.getD_eq_getElem?_getD, List.getElem?_eq_getElem hi] <;> rfl⟩
      · obtain ⟨h1, ge, dr, k, os⟩ := t
        obtain rfl : ge = s.gens := hm.gens
        obtain rfl : dr = s.drawn := hm.drawn
        obtain rfl : os = s.os := hm.os
        show wpAny _ _ _ _ _ _
        refine wpAny_pure ?_
        show wpAny _ _ (ret .none) _ _ _
        rw [len] at hc
        refine wpAny_pure ⟨rfl, h1, k, c, rfl, hS, hc, fun b u e => hm.heap b u (fun z => ?_) (Heap.get?_push_of_some _ (Heap.get?_push_of_some _ e))⟩
        have lb := Heap.lt_size e
        rcases (List.mem_cons.mp z) with z | z
        · exact Nat.lt_irrefl _ (Nat.lt_of_le_of_lt (Nat.le_of_eq z.symm) lb)
        · have z2 := List.mem_singleton.mp z
          rw [sz] at z2
          exact Nat.lt_irrefl _ (Nat.lt_trans (Nat.lt_of_le_of_lt (Nat.le_of_eq z2.symm) lb) (Nat.lt_succ_self _))
    · match r, hr with
      | .error _, hr => exact hr
      | .ok (.ret _), hr =>
        obtain ⟨rfl, h1, k, c, rfl, g1, g2, g3⟩ := hr
        repeat (any_goals (first | wp_step | assumption))
        exact goal _ _ _ g1 g2 g3
      | .ok .next, hr => exact hr.elim
      | .ok .brk, hr => exact hr.elim
      | .ok .cont, hr => exact hr.elim
  | .ok .next, hr => exact hr.elim
  | .ok .brk, hr => exact hr.elim
  | .ok .cont, hr => exact hr.elim
end
end DL

/-! DLl -/
/-! sorted(set(x)) of ints, any number -/
namespace DL
open PySem L2 PySem.Spec PyProof.Rows
section
variable {X : Cx}
/-- set(x), x a list or tuple of ints -/
def rSetI (K : PySem.W.Frag) (w : World) : List V → Hp → VK → Prop := fun xs H Q => ∃ (l : Addr) (ns : List Int), xs = [V.ref l] ∧ (SqL K H l (ns.map V.int) ∨ SqT K H l (ns.map V.int)) ∧ ns.length ≤ 4000 ∧
  ∀ (p : Addr) (c : Nat), H p = none → c ≤ ns.length → Q (.ref p) (upd H p (SetO w p (fun j => decide (j ∈ ns)) c))
theorem cr_setI (hc : X.calm = true) : CallR X (.type "set") (rSetI X.K X.w) := by
  intro pins s σ H xs us Q I r; intro h
  obtain ⟨l, ns, rfl, hs, hl, q⟩ := h
  rw [Vals.ref1 r]
  have bd : ns.length + 1 < scanBound := by unfold scanBound; omega
  have fin : ∀ (h1 : Heap) (k c : Nat), SetR X.w h1 s.heap.objs.size (fun j => decide (j ∈ ns)) c → c ≤ ns.length → (∀ b u, s.heap.get? b = some u → h1.get? b = some u) → EP X pins σ Q (.ref s.heap.objs.size) { s with heap := h1, toks := k } := fun h1 k c R hc1 keep =>
    ⟨.ref _, upd H s.heap.objs.size (SetO X.w s.heap.objs.size (fun j => decide (j ∈ ns)) c), I.laid (t' := k) keep (Nat.le_refl _) (setO_new R), rfl, q _ c (I.hok.fresh (Nat.le_refl _)) hc1⟩
  rcases hs with hs | hs
  · obtain ⟨its, rv, hq, hz⟩ := I.list hs
    exact set_list ns (I.ok.hd hc) hq.isList (by simpa using rv.ints) bd fin
  · obtain ⟨its, rv, hq, hz⟩ := I.tuple hs
    exact call_set_tupI ns (I.ok.hd hc) (show s.heap.IsTuple l its.toArray from hq) (by simpa using rv.ints) bd fin
/-- sorted(s), s a set of ints -/
def rSortedSA (w : World) : List V → Hp → VK → Prop := fun vs H Q => ∃ (a : Addr) (S : Int → Bool) (n : Nat), vs = [V.ref a] ∧ H a = some (SetO w a S n) ∧ n ≤ 4000 ∧
  ∀ (ns : List Int) (p : Addr), ns.Pairwise (· < ·) → (∀ k : Int, k ∈ ns ↔ S k = true) → H p = none → Q (.ref p) (upd H p (.lst (ns.map V.int)))
theorem cr_sortedSA (hc : X.calm = true) : CallR X (.builtin "sorted") (rSortedSA X.w) := by
  intro pins s σ H vs us Q I r; intro h
  obtain ⟨a, S, n, rfl, ha, hn4, q⟩ := h
  obtain ⟨o, es, ep, t, ho, hex, hd, good, nd, mem, hb, hf, hn, ris, led⟩ := setO_get I ha
  rw [Vals.ref1 r]
  refine Calls.call_function_entry kind_sorted plain_sorted entry_sorted (args_sorted1 _) (?_)
  unfold Builtin.«sorted»
  refine wpAny_bind (m := checkCount "sorted" 1 1 _) (wpAny_pure (wpAny_bind (collect_set (A := X.A.in1) (I.ok.hd hc) ⟨o, ho, hex.1, hd⟩ hf hb ris led fun s1 vs1 k1 z1 g1 o1 pm => ?_)))
  have vl : vs1.length = n := by rw [pm.length_eq, List.length_map, Array.length_toList]; exact hn
  have vz : vs1.length ≤ sizeLine := by rw [vl, sizeLine_eq]; omega
  have ia : IntsAre vs1 (vs1.map Builtin.Re.reRawOf) := ints_of vs1 fun v hv => by
    obtain ⟨e, he, z⟩ := List.mem_map.mp (pm.mem_iff.mp hv)
    obtain ⟨k, tk, h1, _⟩ := good e he
    exact ⟨k, tk, z.symm.trans h1⟩
  have pk : (vs1.map Builtin.Re.reRawOf).Perm (es.toList.map keyOf) := by
    have z := pm.map Builtin.Re.reRawOf
    rwa [List.map_map] at z
  refine wpAny_bind (wpAny_newList ?_ vz)
  have hL : (s1.heap.push (seqObj "list" vs1.toArray 0)).get? s1.heap.objs.size = some (seqObj "list" vs1.toArray 0) := Heap.get?_push_size _ (by rfl)
  refine wpAny_bind (wpAny_holding (wpAny_call_entry slot_list_sort ⟨_, hL, by rfl⟩ entry_list_sort (SrtO.list_sort_ord SrtO.swo_int hL vz (fun h2 => SrtO.ints_sortable ia h2) fun out h1 h2 => ⟨.none, rfl, ?_⟩) (args_list_sort _)))
  obtain ⟨k1', k2, k3⟩ := SrtO.ints_out ia h1 h2
  obtain ⟨c, hcs⟩ := sortedHeap_at (vs := vs1) (out := out.toArray) hL
  have pn := k2.trans pk
  have old : ∀ b u, s.heap.get? b = some u → (sortedHeap (s1.heap.push (seqObj "list" vs1.toArray 0)) s1.heap.objs.size vs1 out.toArray).get? b = some u := fun b u e => by
    have e1 := k1 b u e
    have lt := Heap.lt_size e1
    rw [sortedHeap_old (Nat.ne_of_lt lt) (by rw [size_push']; exact Nat.lt_succ_of_lt lt)]
    exact Heap.get?_push_of_some _ e1
  have hlen : (((out.map SrtO.iv).map V.int).length ≤ sizeLine) := by
    rw [List.length_map, k2.length_eq, List.length_map]
    exact vz
  have fresh : H s1.heap.objs.size = none := I.hok.fresh z1
  refine wpAny_pure ⟨_, rfl, .ref s1.heap.objs.size, upd H s1.heap.objs.size (.lst ((out.map SrtO.iv).map V.int)), ?_, rfl, q (out.map SrtO.iv) s1.heap.objs.size (lt_of_le_nodup _ k3 (pn.nodup_iff.mpr nd)) (fun k => by rw [pn.mem_iff, ← mem k]) fresh⟩
  have J : Inv X pins σ (upd H s1.heap.objs.size (.lst ((out.map SrtO.iv).map V.int))) { s with heap := sortedHeap (s1.heap.push (seqObj "list" vs1.toArray 0)) s1.heap.objs.size vs1 out.toArray, gens := s1.gens, drawn := s1.drawn, toks := s1.toks } :=
    I.call (ch := []) (Un.laid old z1 fresh) (I.hok.laid old z1 ⟨hlen, out, c, vals_of_ints k1', hcs⟩) (by rw [g1]; exact I.bare) (fun _ z => nomatch z)
  cases s1
  cases s
  cases o1
  exact J
end
/-! ### the list -/
def nub : List Int → List Int
  | [] => []
  | x :: l => if x ∈ l then nub l else x :: nub l
theorem mem_nub {k : Int} : ∀ {l : List Int}, k ∈ nub l ↔ k ∈ l
  | [] => Iff.rfl
  | x :: l => by
    unfold nub
    split
    · rename_i h
      rw [mem_nub (l := l)]
      exact ⟨fun z => .tail _ z, fun z => by
        rcases List.mem_cons.mp z with rfl | z
        · exact h
        · exact z⟩
    · rw [List.mem_cons, List.mem_cons, mem_nub (l := l)]
theorem nub_nodup : ∀ l : List Int, (nub l).Nodup
  | [] => List.nodup_nil
  | x :: l => by
    unfold nub
    split
    · exact nub_nodup l
    · rename_i h
      exact List.nodup_cons.mpr ⟨fun z => h (mem_nub.mp z), nub_nodup l⟩
theorem nub_len : ∀ l : List Int, (nub l).length ≤ l.length
  | [] => Nat.le_refl _
  | x :: l => by
    have := nub_len l
    unfold nub
    split <;> simp <;> omega
/-- sorted(set(ns)) -/
def sset (ns : List Int) : List Int := srt (nub ns)
theorem mem_sset {k : Int} {ns : List Int} : k ∈ sset ns ↔ k ∈ ns := by
  unfold sset
  rw [mem_srt, mem_nub]
theorem le_nodup_lt : ∀ l : List Int, l.Pairwise (· ≤ ·) → l.Nodup → l.Pairwise (· < ·)
  | [], _, _ => .nil
  | x :: l, h, d => by
    obtain ⟨a, b⟩ := List.pairwise_cons.mp h
    obtain ⟨e, f⟩ := List.nodup_cons.mp d
    refine List.pairwise_cons.mpr ⟨fun y hy => ?_, le_nodup_lt l b f⟩
    have q := a y hy
    have n : x ≠ y := fun z => e (z.symm ▸ hy)
    omega
theorem sset_up (ns : List Int) : (sset ns).Pairwise (· < ·) := le_nodup_lt _ (srt_up _) ((srt_perm _).nodup_iff.mpr (nub_nodup ns))
theorem sset_len (ns : List Int) : (sset ns).length ≤ ns.length := by
  unfold sset
  rw [srt_len]
  exact nub_len ns
theorem lt_one : ∀ {l m : List Int}, l.Pairwise (· < ·) → m.Pairwise (· < ·) → (∀ k, k ∈ l ↔ k ∈ m) → l = m
  | [], [], _, _, _ => rfl
  | [], y :: m, _, _, e => absurd ((e y).mpr List.mem_cons_self) (by simp)
  | x :: l, [], _, _, e => absurd ((e x).mp List.mem_cons_self) (by simp)
  | x :: l, y :: m, h, k, e => by
    obtain ⟨h1, h2⟩ := (List.pairwise_cons).mp h
    obtain ⟨k1, k2⟩ := List.pairwise_cons.mp k
    have xy : x = y := by
      rcases List.mem_cons.mp ((e x).mp List.mem_cons_self) with z | z
      · exact z
      · rcases List.mem_cons.mp ((e y).mpr List.mem_cons_self) with z2 | z2
        · exact z2.symm
        · have := k1 x z
          have := h1 y z2
          omega
    subst xy
    congr 1
    refine lt_one h2 k2 fun j => ⟨fun z => ?_, fun z => ?_⟩
    · rcases List.mem_cons.mp ((e j).mp (.tail _ z)) with q | q
      · subst q
        exact absurd (h1 j z) (by omega)
      · exact q
    · rcases List.mem_cons.mp ((e j).mpr (.tail _ z)) with q | q
      · subst q
        exact absurd (k1 j z) (by omega)
      · exact q
theorem sset_one {ns m : List Int} (h : m.Pairwise (· < ·)) (e : ∀ k, k ∈ m ↔ k ∈ ns) : m = sset ns := lt_one h (sset_up ns) fun k => (e k).trans mem_sset.symm
def bSet1 : List D → Option D
  | [.list xs] => (intsD xs).bind fun ns => if ns.length ≤ 4000 then some (.list ((sset ns).map .int)) else none
  | [.tuple xs] => (intsD xs).bind fun ns => if ns.length ≤ 4000 then some (.list ((sset ns).map .int)) else none
  | _ => none
section
variable {X : Cx} {W : WX} {e : Expr} {q : Env → R (List D)} {pos : Pos}
/-- sorted(set(e)) of ints -/
theorem de_sset {p p2 pos2 : Pos} (hc : X.calm = true) (hg : Gl X "sorted") (hm : X.mg "sorted" = none) (hg2 : Gl X "set") (hm2 : X.mg "set" = none) (ha : DAB X W [e] q)
    (he : starEach [.Call (.Name "set" p2) [e] [] pos2] X.env = (false, eval (.Call (.Name "set" p2) [e] [] pos2) X.env) :: starEach [] X.env := by rfl) (he2 : starEach [e] X.env = (false, eval e X.env) :: starEach [] X.env := by rfl)
    (hpl : (backTo pos (starEach [] X.env)).any (·.1) = false := by rfl) (hpl2 : (backTo pos2 (starEach [] X.env)).any (·.1) = false := by rfl) :
    DE X W (.Call (.Name "sorted" p) [.Call (.Name "set" p2) [e] [] pos2] [] pos) (cBt bSet1 q) :=
  ⟨pe_imp (pe_callB (cr_sortedSA hc) hg hm boot_sorted (pa_cons (pe_callTy (cr_setI hc) hg2 hm2 boot_set ha.pa (by decide) (by decide) he2 hpl2) pa_nil he) (by decide) (by decide) he hpl) fun σ H Q ⟨F0, H0, F, ρ, rp, k⟩ => ⟨F0, H0, F, ρ, rp, (ROk.step (r := q ρ) k).imp fun as F1 H1 _ g1 q1 vs hvs => by
    obtain ⟨c, e1, z⟩ := q1.ofO
    have key : ∃ (l : Addr) (ns : List Int), vs = [V.ref l] ∧ (SqL X.K H1 l (ns.map V.int) ∨ SqT X.K H1 l (ns.map V.int)) ∧ ns.length ≤ 4000 ∧ c = .list ((sset ns).map .int) := by
      unfold bSet1 at e1
      split at e1
      · obtain ⟨ns, h1, e2⟩ := Option.bind_eq_some_iff.mp e1
        split at e2
        · rename_i hl
          cases e2
          obtain ⟨x, rfl, b⟩ := bw1 hvs
          obtain ⟨p, rfl, hs⟩ := b.ints g1.in_ h1
          exact ⟨p, ns, rfl, .inl hs, hl, rfl⟩
        · cases e2
      · obtain ⟨ns, h1, e2⟩ := Option.bind_eq_some_iff.mp e1
        split at e2
        · rename_i hl
          cases e2
          obtain ⟨x, rfl, b⟩ := bw1 hvs
          obtain ⟨p, us, rfl, hs, hd⟩ := b.tuple g1.in_
          rw [intsD_some h1] at hd
          rw [dpa_toInts hd] at hs
          exact ⟨p, ns, rfl, .inr hs, hl, rfl⟩
        · cases e2
      · cases e1
    obtain ⟨l, ns, rfl, hs, hl, rfl⟩ := key
    refine ⟨l, ns, rfl, hs, hl, fun p cc hp hcc => ⟨p, _, cc, rfl, upd_same, by omega, fun ms p2 up mm hp2 => ?_⟩⟩
    have em : ms = sset ns := sset_one up fun k => by rw [mm k, decide_eq_true_eq]
    subst em
    have g2 := Grow.held (o := SetO X.w p (fun j => decide (j ∈ ns)) cc) g1.in_ hp
    have g3 := Grow.made (o := .lst ((sset ns).map V.int)) g2.in_ hp2
    exact z _ _ (g2.trans g3) (.ref p2) (.lst upd_same dpa_ints)⟩⟩
end
end DL

/-! DLm -/
/-! is of bools -/
namespace DL
open PySem L2 PySem.Spec PyProof.Rows
section
variable {K : PySem.W.Frag}
def oIsB : D → D → Option D
  | .bool a, .bool b => some (.bool (decide (a = b)))
  | _, _ => none
def oIsNotB : D → D → Option D
  | .bool a, .bool b => some (.bool (!decide (a = b)))
  | _, _ => none
theorem rd_isB : RdO K rIsB oIsB := fun F H x y a b c e hx hy hc Q k => by
  unfold oIsB at hc
  split at hc
  · cases hc
    exact ⟨_, _, hx.bool, hy.bool, flat_q e (.bl _) k⟩
  · cases hc
theorem rd_isnotB : RdO K rNotB oIsNotB := fun F H x y a b c e hx hy hc Q k => by
  unfold oIsNotB at hc
  split at hc
  · cases hc
    exact ⟨_, _, hx.bool, hy.bool, flat_q e (.bl _) k⟩
  · cases hc
@[simp] theorem oIsB_b {a b : Bool} : oIsB (.bool a) (.bool b) = some (.bool (decide (a = b))) := id rfl
@[simp] theorem oIsNotB_b {a b : Bool} : oIsNotB (.bool a) (.bool b) = some (.bool (!decide (a = b))) := id rfl
end
end DL

/-! DLn -/
/-! enumerate(t), t a tuple -/
namespace DL
open PySem L2 PySem.Spec PyProof.Rows
open Evl (Ex ex_l ex_t ex_rd)
section
variable {P : Program} {w : World} {A : Around} {s : Shared} {E : Value → Shared → Prop}
/-- the tuple's iterator, the enumerate object over it -/
def tIt (t : Addr) : Obj := { cls := .type "tuple_iterator", data := .fields #[.ref t, .int 0 0] }
def enO (I : Addr) : Obj := { cls := .type "enumerate", data := .fields #[.none, .bool false, .ref I, rawInt 0, .none, .none] }
theorem enum_newT (t : Addr) (items : Array Value) (n : Nat) (d : Option Addr) (sl : Array (Option Value)) :
    Meets (Builtin.«enumerate.__new__» ⟨[.type "enumerate", .ref t], []⟩) (fun _ R s => s.heap.get? t = some ⟨.type "tuple", d, .seq items n, sl⟩ ∧
      R (.ok (.ret (.ref (s.heap.push (tIt t)).objs.size))) { s with heap := (s.heap.push (tIt t)).push (enO s.heap.objs.size) }) :=
  .of_wp fun P0 w0 A R s h => by
    obtain ⟨h0, g, dr, tk, os⟩ := s
    obtain ⟨ht, h⟩ := h
    have su := sub_enumerate
    have it : Heap.IsTuple (Shared.heap ⟨h0, g, dr, tk, os⟩) t items := ⟨_, ht, rfl, n, rfl⟩
    wp_walk using AutoSeq1.wpAny_loadPart' ht
    refine wpAny_stack_any fun st => wpAny_pure (?_)
    split
    · rename_i c _ _ _ _ _
      cases (c == Value.type "enumerate") <;> (wp_walk using AutoSeq1.wpAny_loadPart' ht, wpAny_pyIter_tuple it; exact ⟨_, rfl, h⟩)
    · wp_walk using AutoSeq1.wpAny_loadPart' ht, wpAny_pyIter_tuple it
      exact ⟨_, rfl, h⟩
theorem call_enumT {t : Addr} {items : Array Value} {Q : Value → Shared → Prop} (ht : s.heap.IsTuple t items)
    (h : ∀ h1, IsEnum h1 (s.heap.objs.size + 1) s.heap.objs.size 0 .none → h1.IsTupleIter s.heap.objs.size t 0 → (∀ b o, s.heap.get? b = some o → h1.get? b = some o) → Q (.ref (s.heap.objs.size + 1)) { s with heap := h1 }) :
    wpAny (model P w) A (call (.type "enumerate") [.ref t]) Q E s := by
  obtain ⟨⟨c, d, dt, sl⟩, g1, g2, n, g3⟩ := ht
  obtain rfl : c = .type "tuple" := g2
  obtain rfl : dt = .seq items n := g3
  refine callType_new F.called_enumerate (by decide) (F.typeCall_enumerate_1 _) (F.newCall_enumerate_1 _) (fun obj => F.args_object_init_2 obj _) F.entry_enumerate_new (enum_newT t items n d sl) ⟨g1, ?_⟩
  have sz : (s.heap.push (tIt t)).objs.size = s.heap.objs.size + 1 := Heap.size_push ..
  have at0 : (s.heap.push (tIt t)).get? s.heap.objs.size = some (tIt t) := Heap.get?_push_size _ rfl
  have en : IsEnum ((s.heap.push (tIt t)).push (enO s.heap.objs.size)) (s.heap.objs.size + 1) s.heap.objs.size 0 .none := by
    have z := Heap.get?_push_size (s.heap.push (tIt t)) (o := enO s.heap.objs.size) rfl
    rw [sz] at z
    exact z
  show _ ∧ _
  rw [sz]
  exact ⟨⟨_, en, rfl⟩, h _ en ⟨_, Heap.get?_push_of_some _ at0, rfl, rfl⟩ fun b o x => Heap.get?_push_of_some _ (Heap.get?_push_of_some _ x)⟩
end
theorem enT_end {P : Program} {w : World} {A : Around} {E : Value → Shared → Prop} {s : Shared} {e it a : Addr} {i : Int} {j : Nat} {items : Array Value} {old : Value} {Q : Option Value → Shared → Prop} (hh : A.handled = none)
    (he : IsEnum s.heap e it i old) (hit : s.heap.IsTupleIter it a j) (ht : s.heap.IsTuple a items) (hx : items[j]? = none) (hQ : ∀ h1, Heap.ExtBut it s.heap h1 → Q none { s with heap := h1 }) : wpAny (model P w) A (pyNext (.ref e)) Q E s := by
  have ty : s.TypeIs (.ref e) "enumerate" := ⟨_, he, rfl⟩
  unfold pyNext
  refine wpAny_bind (wpAny_attempt (wpAny_callSpecial?_slot (name := Str.ofString "__next__") ty F.slot_enumerate_next (wpAny_call_entry F.slot_enumerate_next ty F.entry_enumerate_next ?_ (F.args_enumerate_next_1 _))))
  show wpAny _ _ (field (.ref e) 2 >>= _) _ _ s
  refine wpAny_bind (wpAny_field he rfl (x := .ref it) rfl (wpAny_bind (wpAny_nextOf_tuple_end (by simp [hh]) hit ht hx fun h1 x eb ⟨o, ho, hc⟩ => ?_)))
  exact wpAny_bind (wpAny_isInstance (T := "StopIteration") (b := true) ⟨o, ho, hc⟩ isSubtype_stop (wpAny_pure (hQ _ eb)))
/-- the tuple at a as it stands at each turn, each item in a new pair -/
def IteT (K : PySem.W.Frag) (a : Addr) : It :=
  ⟨fun i H => ∃ (xs : List V) (x : V), SqT K H a xs ∧ xs[i]? = some x, fun i H v H' => ∃ T x, v = .ref T ∧ H T = none ∧ H' = upd H T (.tup [.int (i : Nat), x]) ∧ ∀ xs, SqT K H a xs → xs[i]? = some x, fun i H => ∃ xs : List V, SqT K H a xs ∧ xs.length ≤ i⟩
theorem turn_enT {P : Program} {w : World} {K : PySem.W.Frag} {elts : List Expr} {kk : Nat} {tpos : Pos} (a e it : Addr) (hai : a ≠ it) (hae : e ≠ a) :
    Turn P w K (.Tuple elts kk tpos) (IteT K a) [e, it] e (fun i h => (∃ old, IsEnum h e it ((i : Nat) : Int) old) ∧ h.IsTupleIter it a i ∧ e ≠ it) where
  mem := List.mem_cons_self
  obj := fun i h st b hb => by
    obtain ⟨⟨was, he⟩, ⟨o, ho, hc, hd⟩, _⟩ := st
    rcases (List.mem_cons.mp hb) with z | z
    · rw [z]
      exact ⟨_, he, fun v q => nomatch q⟩
    · rw [List.mem_singleton.mp z]; exact ⟨o, ho, fun v q => by rw [hd] at q; cases q⟩
  keep := fun i h h1 st k => ⟨⟨st.1.choose, k e (by simp) _ st.1.choose_spec⟩, st.2.1.at fun o q => k it (by simp) o q, st.2.2⟩
  item := by
    intro X eP ew eK hc i pins s σ H E I hf st hg
    subst eP ew eK
    obtain ⟨⟨was, he⟩, hit, hne⟩ := st
    obtain ⟨xs, x, hq, hx⟩ := hg
    obtain ⟨its, rv, p, -⟩ := I.tuple hq
    obtain ⟨u, hu, ru⟩ := (rv.get hx)
    have hil : i < its.toArray.size := by simpa using (List.getElem?_eq_some_iff.mp hu).1
    have hel : e < s.heap.objs.size := (Heap.lt_size he)
    have hitl : it < s.heap.objs.size := by obtain ⟨_, q, _⟩ := hit; exact Heap.lt_size q
    have D := Draws.tuple (prog := X.prog) (w := X.w) (A := X.A.in1) (by simp [I.ok.hd hc]) it a hai its.toArray
    refine wpAny_pyNext_enum_itemD D he ⟨hit, p⟩ hil hne (by simp [hne, hae]) fun y h1 tk hy ho hst hT hsz hk => ?_
    have hyu : y = u := by
      have z : its.toArray[i]? = some y := hy
      rw [List.getElem?_toArray, hu] at z
      exact (Option.some.inj z).symm
    subst hyu
    refine ⟨_, rfl, wpAny_letOwnedTupleGo_enum (s := { s with heap := h1, toks := tk + 1 }) ho fun h2 he2 sb => ?_⟩
    have hT2 : h2.get? s.heap.objs.size = some { cls := .type "tuple", data := .seq #[.int i tk, y] } := (sb.2 _ (Nat.ne_of_gt hel)).trans hT
    have new : ObjOk X.prog X.w (upd H s.heap.objs.size (.tup [.int (i : Nat), x])) h2 s.heap.objs.size (.tup [.int (i : Nat), x]) :=
      ⟨(by show 2 ≤ sizeLine; decide), [.int i tk, y], .cons ⟨_, rfl⟩ (.cons ru .nil), ⟨_, hT2, rfl, _, rfl⟩⟩
    have I1 : Inv X pins σ (upd H s.heap.objs.size (.tup [.int (i : Nat), x])) { s with heap := h2, toks := tk + 1 } :=
      I.turnedNew (ch := [e, it]) (fun b o hb q => (sb.2 b (fun z => hb (by simp [z]))).trans (hk b o (fun z => hb (by simp [z])) (fun z => hb (by simp [z])) q)) hf (Nat.le_refl _) new
    refine ⟨.ref s.heap.objs.size, _, I1, rfl, ⟨_, x, rfl, I.hok.fresh (Nat.le_refl _), rfl, fun ys hy => by rw [I.tuple_inj hy hq]; exact hx⟩, ⟨⟨y, ?_⟩, hst.1.at fun o q => (sb.2 it (Ne.symm hne)).trans q, hne⟩, fun b hb => ?_⟩
    · rw [show ((i + 1 : Nat) : Int) = (i : Int) + 1 by omega]
      exact he2
    · have hbl : b < s.heap.objs.size := by
        rcases (List.mem_cons.mp hb) with z | z
        · rw [z]; exact hel
        · rw [List.mem_singleton.mp z]; exact hitl
      rw [upd_ne (Nat.ne_of_lt hbl)]
      exact (hf b hb).1
  done := by
    intro X eP ew eK hc i pins s σ H E I hf st hg
    subst eP ew eK
    obtain ⟨⟨was, he⟩, hit, hne⟩ := st
    obtain ⟨xs, hq, hx⟩ := hg
    obtain ⟨its, rv, p, -⟩ := I.tuple hq
    obtain ⟨f0, f1, f2, f3, f4, f5⟩ := hf it (by (simp))
    have hl := rv.length
    exact enT_end (I.ok.hd hc) he hit p (by simp; omega) fun h1 eb => ⟨rfl, I.turned (t' := s.toks) (fun b o hb q => eb b o hb q) f0 f1 f3 f4 f5⟩
  self := fun A i s Q E st h => wpAny_pyIter_enum st.1.choose_spec h
def iEnT (K : PySem.W.Frag) (ta : TA) : TI := fun σ H R => ta σ H fun vs H1 => ∃ a xs, vs = [.ref a] ∧ SqT K H1 a xs ∧ R (IteT K a) H1
theorem pi_enT {X : Cx} {e : Expr} {ta : TA} {p pos tpos : Pos} {elts : List Expr} {kk : Nat} (hg : Gl X "enumerate") (hm : X.mg "enumerate" = none) (ha : PA X [e] ta) (hs : starEach [e] X.env = [(false, eval e X.env)] := by rfl) :
    PI X (.Tuple elts kk tpos) (.Call (.Name "enumerate" p) [e] [] pos) (iEnT X.K ta) := by
  refine ⟨fun pins s σ H R I h => Call_ (ld_blt I hg hm boot_enumerate (PyProof.Rows.callWith_type1 (thn (ha.run pos pins s σ H _ I h) fun us s1 ⟨vs, H1, I1, r1, a, xs, ex, hq, q⟩ => ?_) hs rfl))⟩
  subst ex
  rw [Vals.ref1 r1]
  obtain ⟨its, rv, p', hz⟩ := I1.tuple hq
  have lt : a < s1.heap.objs.size := p'.lt
  refine call_enumT (show s1.heap.IsTuple a its.toArray from p') fun h1 he hit hk => wpAny_pyIter_enum he ?_
  have I2 : Inv X pins σ H1 { s1 with heap := h1 } := I1.kept (t' := s1.toks) hk
  refine ⟨s1.heap.objs.size + 1, [s1.heap.objs.size + 1, s1.heap.objs.size], _, _, H1, rfl, I2, turn_enT a (s1.heap.objs.size + 1) s1.heap.objs.size (Nat.ne_of_lt lt) (Nat.ne_of_gt (Nat.lt_succ_of_lt lt)), ⟨⟨.none, he⟩, hit, Nat.succ_ne_self _⟩, fun b hb => ?_, q⟩
  have hle : (s1.heap.objs.size ≤ b) := by
    rcases (List.mem_cons.mp hb) with z | z
    · rw [z]; exact Nat.le_succ _
    · rw [List.mem_singleton.mp z]; exact Nat.le_refl _
  exact (I1.fpOk hle (I1.hok.fresh hle))
section
variable {K : PySem.W.Frag} {S : Hp → Hp → Prop} {p : Addr} {ds : List D}
theorem itd_enT (hs : ∀ F1 H1, S F1 H1 → Ex F1 H1 ∧ Bw K F1 H1 (.ref p) (.tuple ds)) : ItD K (IteT K p) S (enumD 0 ds) where
  goes := fun i F1 H1 s hi => by
    rw [enumD_len] at hi
    obtain ⟨e, b⟩ := hs F1 H1 s
    obtain ⟨p', vs, h0, h1, h2⟩ := b.tuple e
    cases h0
    obtain ⟨v, h3, h4⟩ := dpa_get h2 (List.getElem?_eq_getElem hi)
    exact ⟨vs, v, h1, h3⟩
  stops := fun F1 H1 s => by
    obtain ⟨e, b⟩ := hs F1 H1 s
    obtain ⟨p', vs, h0, h1, h2⟩ := b.tuple e
    cases h0
    exact ⟨vs, h1, by rw [dpa_len h2, enumD_len]; exact Nat.le_refl _⟩
  yields := fun i F1 H1 x H2 d s _ hd y => by
    obtain ⟨e, b⟩ := hs F1 H1 s
    obtain ⟨p', vs, h0, h1, h2⟩ := b.tuple e
    cases h0
    obtain ⟨T, x', rfl, hT, rfl, y⟩ := y
    obtain ⟨d', h3, h4⟩ := dpa_getV h2 (y vs h1)
    obtain ⟨z, h5, rfl⟩ := enumD_get ds 0 i d hd
    rw [h3] at h5
    cases h5
    rw [Nat.zero_add]
    exact pair_new e hT (.int _) h4
end
def enumAD : List D → Option (List D)
  | [.list ds] => some (enumD 0 ds)
  | [.tuple ds] => some (enumD 0 ds)
  | _ => none
@[simp] theorem enumA_l {xs : List D} : enumAD [.list xs] = some (enumD 0 xs) := id rfl
@[simp] theorem enumA_t {xs : List D} : enumAD [.tuple xs] = some (enumD 0 xs) := id rfl
section
variable {X : Cx} {W : WX} {e : Expr} {es : List Expr} {pos p : Pos} {q : Env → R (List D)}
theorem dib_enumA {k : Nat} {tpos : Pos} (hg : Gl X "enumerate") (hm : X.mg "enumerate" = none) (ha : DAB X W [e] q) (hs : starEach [e] X.env = [(false, eval e X.env)] := by rfl) : DIB X W (.Tuple es k tpos) (.Call (.Name "enumerate" p) [e] [] pos) (cIt enumAD q) :=
  ⟨pi_imp (pi_or (pi_enum hg hm ha.pa hs) (pi_enT hg hm ha.pa hs)) fun σ H R' ⟨F0, H0, F, ρ, r, k⟩ => by
    have k : ROk X.K X.mg (fun c d H' => W c d σ H') F H (fun ds F' H' => ∀ J, ItD X.K J (Grow F' H') ds → R' J H') ((q ρ).bind fun a => ofO (enumAD a)) := k
    cases hf : q ρ with
    | ok as =>
      rw [hf] at k
      obtain ⟨ds, e, k⟩ := ROk.ofO (o := enumAD as) k
      unfold enumAD at e
      split at e
      · cases e
        refine .inl ⟨F0, H0, F, ρ, r, ?_⟩
        rw [hf]
        intro F' H' g vs hvs
        obtain ⟨x, rfl, b⟩ := bw1 hvs
        obtain ⟨p', vs, rfl, h1, h2⟩ := b.list g.in_
        exact ⟨p', vs, rfl, Or.inl (Or.inl h1), k F' H' g _ (itd_enum (stay_bw b))⟩
      · cases e
        refine .inr ⟨F0, H0, F, ρ, r, ?_⟩
        rw [hf]
        intro F' H' g vs hvs
        obtain ⟨x, rfl, b⟩ := bw1 hvs
        obtain ⟨p', vs, rfl, h1, h2⟩ := b.tuple g.in_
        exact ⟨p', vs, rfl, h1, k F' H' g _ (itd_enT (stay_bw b))⟩
      · cases e
    | exc x =>
      rw [hf] at k
      refine .inl ⟨F0, H0, F, ρ, r, ?_⟩
      rw [hf]
      exact k
    | bad =>
      rw [hf] at k
      exact k.elim⟩
theorem di_enumA {k : Nat} {tpos : Pos} (hg : Gl X "enumerate") (hm : X.mg "enumerate" = none) (ha : DA X W [e] q) (hs : starEach [e] X.env = [(false, eval e X.env)] := by rfl) : DI X W (.Tuple es k tpos) (.Call (.Name "enumerate" p) [e] [] pos) (cIt enumAD q) :=
  ⟨pi_imp (pi_or (pi_enum hg hm ha.pa hs) (pi_enT hg hm ha.pa hs)) fun σ H R' ⟨F0, H0, F, ρ, r, k⟩ => by
    have k : ROk X.K X.mg (fun c d H' => W c d σ H') F H (fun ds F' H' => ∀ J, ItD X.K J (fun F1 H1 => Ex F' F1 ∧ Ex F1 H1) ds → R' J H') ((q ρ).bind fun a => ofO (enumAD a)) := k
    cases hf : q ρ with
    | ok as =>
      rw [hf] at k
      obtain ⟨ds, e, k⟩ := ROk.ofO (o := enumAD as) k
      unfold enumAD at e
      split at e
      · cases e
        refine .inl ⟨F0, H0, F, ρ, r, ?_⟩
        rw [hf]
        intro F' H' g vs hvs
        cases hvs with
        | cons h1 h2 =>
          cases h2
          cases h1 with
          | lst h3 h4 => exact ⟨_, _, rfl, Or.inl (Or.inl (g.in_ _ _ h3)), k F' H' g _ (itd_enum (stay_da (.lst h3 h4)))⟩
      · cases e
        refine .inr ⟨F0, H0, F, ρ, r, ?_⟩
        rw [hf]
        intro F' H' g vs hvs
        cases hvs with
        | cons h1 h2 =>
          cases h2
          cases h1 with
          | tup h3 h4 => exact ⟨_, _, rfl, ex_t g.in_ h3, k F' H' g _ (itd_enT (stay_da (.tup h3 h4)))⟩
      · cases e
    | exc x =>
      rw [hf] at k
      refine .inl ⟨F0, H0, F, ρ, r, ?_⟩
      rw [hf]
      exact k
    | bad =>
      rw [hf] at k
      exact k.elim⟩
end
end DL

/-! DLo -/
/-! t[::-1], t a list or a tuple -/
namespace DL
open PySem L2 PySem.Spec PyProof.Rows HT
open Evl (Ex ex_l ex_t ex_rd)
section
variable {prog : Program} {w : World} {A : Around} {s : Shared} {E : Value → Shared → Prop}
theorem rev_adj (n : Nat) : Builtin.Slice.sliceAdjust none none (-1) (n : Int) = ((n : Int) - 1, -1) := rfl
theorem rev_places (n : Nat) : Builtin.Slice.slicePlaces ((n : Int) - 1) (-1) (-1) = n := by
  (unfold Builtin.Slice.slicePlaces)
  have h1 : ¬ ((-1 : Int) > 0) := by omega
  simp only [h1, if_false, Int.neg_neg, Int.ediv_one]
  split <;> omega
theorem sliceApplied_rev {sl : Addr} {vl vu vs : Value} {n : Nat} {Q : Int × Int × Nat → Shared → Prop} (hs : s.heap.IsSliceOf sl vl vu vs) (pl : IsPart vl none) (pu : IsPart vu none) (ps : IsPart vs (some (-1)))
    (h : Q ((n : Int) - 1, -1, n) s) : wpAny (model prog w) A (Builtin.Slice.sliceApplied (.ref sl) (pure (n : Int))) Q E s := by
  obtain ⟨o0, g0, c0, d0⟩ := id hs
  unfold Builtin.Slice.sliceApplied; unfold Builtin.Slice.sliceFields
  refine wpAny_bind (wpAny_bind (wpAny_field g0 d0 (x := vl) rfl (wpAny_bind (wpAny_field g0 d0 (x := vu) rfl (wpAny_bind (wpAny_field g0 d0 (x := vs) rfl (wpAny_pure (?_))))))))
  refine wpAny_bind (slicePart_ ps ?_)
  show wpAny _ _ (if ((-1 : Int) == 0) = true then _ else _) _ _ s
  rw [if_neg (by decide)]
  refine wpAny_bind (slicePart_ pl (wpAny_bind (slicePart_ pu (wpAny_bind (wpAny_pure (?_))))))
  show wpAny _ _ (match Builtin.Slice.sliceAdjust none none (-1) (n : Int) with | (lo, hi) => pure (lo, (-1 : Int), Builtin.Slice.slicePlaces lo hi (-1))) _ _ s
  rw [rev_adj n]
  show wpAny _ _ (pure (((n : Int) - 1), (-1 : Int), Builtin.Slice.slicePlaces ((n : Int) - 1) (-1) (-1))) _ _ s
  rw [rev_places]
  exact wpAny_pure h
theorem fm_congr {α β : Type} {f g : α → Option β} : ∀ {l : List α}, (∀ x ∈ l, f x = g x) → l.filterMap f = l.filterMap g
  | [], _ => rfl
  | x :: l, h => by
    rw [List.filterMap_cons, List.filterMap_cons, h x (by simp), fm_congr (l := l) fun y hy => h y (by simp [hy])]
theorem rev_pick (xs : Array Value) : ((List.range xs.size).filterMap fun (m : Nat) => xs[(((xs.size : Int) - 1) + (m : Int) * (-1)).toNat]?).toArray = xs.toList.reverse.toArray := by
  congr 1
  have e : ∀ m ∈ List.range xs.size, xs[(((xs.size : Int) - 1) + (m : Int) * (-1)).toNat]? = (fun m => xs[xs.size - 1 - m]?) m := by
    intro m hm
    have := List.mem_range.mp hm
    have : (((xs.size : Int) - 1) + (m : Int) * (-1)).toNat = xs.size - 1 - m := by omega
    rw [this]
  have e2 : (List.range xs.size).filterMap (fun (m : Nat) => xs[(((xs.size : Int) - 1) + (m : Int) * (-1)).toNat]?) = (List.range xs.size).filterMap (fun m => xs[xs.size - 1 - m]?) := by
    exact fm_congr e
  rw [e2]
  have e3 : (fun m => xs[xs.size - 1 - m]?) = (fun k => xs[k]?) ∘ (fun k => xs.size - 1 - k) := rfl
  rw [e3, ← List.filterMap_map, PySem.W.krv_range, List.filterMap_reverse, PySem.W.krv_all]
theorem getItem_tuple_rev {t sl : Addr} {items : Array Value} {vl vu vs : Value} {Q : Value → Shared → Prop} (ht : IsTup s.heap t items) (hs : s.heap.IsSliceOf sl vl vu vs) (pl : IsPart vl none) (pu : IsPart vu none) (ps : IsPart vs (some (-1)))
    (h : Q (.ref s.heap.objs.size) { s with heap := s.heap.push { cls := .type "tuple", data := .seq items.toList.reverse.toArray } })
    (zs : items.size ≤ sizeLine) : wpAny (model prog w) A (getItem (.ref t) (.ref sl)) Q E s := by
  have zk : sizeOk (.seq items.toList.reverse.toArray) := by
    show items.toList.reverse.toArray.size ≤ sizeLine
    rw [List.size_toArray, List.length_reverse, Array.length_toList]
    omega
  obtain ⟨o0, g0, c0, d0⟩ := id hs
  have tS : s.TypeIs (.ref sl) "slice" := ⟨o0, g0, c0⟩
  unfold getItem
  try with_reducible refine wpAny_holding (?_)
  first | refine wpAny_bind (wpAny_pure (?_)) | skip
  refine wpAny_bind (wpAny_sequenceKey ht.typeIs (by decide) (?_))
  refine wpAny_bind (wpAny_callSpecial?_slot (name := Str.ofString "__getitem__") ht.typeIs PyProof.Rows.slot_tuple_getitem (wpAny_call_entry PyProof.Rows.slot_tuple_getitem ht.typeIs entry_tuple_getitem (?_) (args_tuple_getitem _ _)))
  show wpAny _ _ ((Builtin.Tuple.tupleItemsOf (.ref t)) >>= _) _ _ s
  refine wpAny_bind (tupleItemsOf_ ht (?_))
  refine wpAny_bind (wpAny_typeOf tS (?_))
  rw [if_pos (by decide)]
  refine wpAny_bind (sliceApplied_rev hs pl pu ps (?_))
  have hno : ¬ ((((items.size : Int) - 1) == 0 && (-1 : Int) == 1 && items.size == items.size) = true) := by
    intro q
    rw [Bool.and_eq_true] at q; rw [Bool.and_eq_true] at q
    have q1 : (-1 : Int) = 1 := eq_of_beq q.1.2
    omega
  show wpAny _ _ (if (((items.size : Int) - 1) == 0 && (-1 : Int) == 1 && items.size == items.size) = true then _ else _) _ _ s
  rw [if_neg hno, rev_pick]
  first
    | exact wpAny_bind (m := Builtin.Tuple.tupleExact _) (wpAny_newObj_type (wpAny_pure ⟨_, rfl, wpAny_pure h⟩) zk)
    | exact wpAny_bind (m := Builtin.Tuple.tupleExact _) (wpAny_newObj_type (wpAny_bind (wpAny_pure (wpAny_pure ⟨_, rfl, wpAny_pure h⟩))) zk)
    | exact wpAny_bind (wpAny_bind (m := Builtin.Tuple.tupleExact _) (wpAny_newObj_type (wpAny_pure (wpAny_pure ⟨_, rfl, wpAny_pure h⟩)) zk))
    | exact wpAny_bind (wpAny_bind (m := Builtin.Tuple.tupleExact _) (wpAny_newObj_type (wpAny_pure ⟨_, rfl, wpAny_pure h⟩) zk))
end
section
variable {X : Cx}
def tRevA (K : PySem.W.Frag) (te : TE) : TE := fun σ H Q => te σ H fun x H1 => ∃ a xs, x = .ref a ∧ ((SqL K H1 a xs ∧ ∀ p, H1 p = none → Q (.ref p) (upd H1 p (.lst xs.reverse))) ∨ (SqT K H1 a xs ∧ ∀ p, H1 p = none → Q (.ref p) (upd H1 p (.tup xs.reverse))))
theorem pe_revA {e : Expr} {te : TE} {k : Nat} {p1 p2 p3 pos : Pos} (he : PE X e te) : PE X (.Subscript e (.Slice none none (some (.UnaryOp .USub (.Constant (.int 1) k p1) p2)) p3) pos) (tRevA X.K te) := by
  refine ⟨fun pins s σ H Q I h => (?_)⟩
  refine Subscript_ (thn (he.run pins s σ H _ I h) fun v s1 ⟨x, H1, I1, r1, q1⟩ => (?_))
  obtain ⟨a, xs, ex, q⟩ := q1
  subst ex
  cases r1
  have st1 : PO X (some (.UnaryOp .USub (.Constant (.int 1) k p1) p2)) (tPart (tUn (rU fun i => .int (-i)) (tC (.int 1)))) := po_some (pe_un un_neg pe_int)
  refine wpAny_Slice (thn (po_none.run pins s1 σ H1 (fun o H2 => o = none ∧ H2 = H1) I1 ⟨rfl, rfl⟩) fun vl s2 ⟨l, H2, I2, pl, el, e2⟩ => (?_))
  subst el e2
  refine thn (po_none.run pins s2 σ H2 (fun o H3 => o = none ∧ H3 = H2) I2 ⟨rfl, rfl⟩) fun vu s3 ⟨u, H3, I3, pu, eu, e3⟩ => (?_)
  subst eu e3
  refine thn (st1.run pins s3 σ H3 (fun o H4 => o = some (-1) ∧ H4 = H3) I3 ⟨1, rfl, -1, rfl, rfl, rfl⟩) fun vs s4 ⟨o, H4, I4, ps, eo, e4⟩ => (?_)
  subst eo e4
  have J5 : Inv X pins σ H4 { s4 with heap := s4.heap.push { cls := .type "slice", data := .fields #[vl, vu, vs] } } := I4.kept (t' := s4.toks) fun b ob q => Heap.get?_push_of_some _ q
  show wpAny (model X.prog X.w) X.A ((subscriptTail e) (.Slice none none (some (.UnaryOp .USub (.Constant (.int 1) k p1) p2)) p3) (.ref a) (.ref s4.heap.objs.size)) (EP X pins σ Q) X.xe { s4 with heap := s4.heap.push { cls := .type "slice", data := .fields #[vl, vu, vs] } }
  rcases q with ⟨hx, q⟩ | ⟨hx, q⟩
  · obtain ⟨its, r, ht, hz⟩ := J5.list hx
    have hlen := r.length
    refine tail_any (ops := [.ref a, .ref s4.heap.objs.size]) ht.isList.typeIs (PySem.slot_list_getitem.lookup) (?_) (by with_unfolding_all rfl)
    refine wpAny_getItem_list_slice ht.isList (Heap.IsSliceOf.new _ vl vu vs) pl pu ps (by decide) (?_) (by rw [List.size_toArray]; omega)
    rw [PySem.W.krv_pick]
    refine ⟨.ref _, _, J5.laid (t' := s4.toks) (o := .lst xs.reverse) (fun b ob q => Heap.get?_push_of_some _ q) (Nat.le_refl _) (?_), rfl, q _ (J5.hok.fresh (Nat.le_refl _))⟩
    exact ⟨by rw [List.length_reverse]; exact (hz), _, 0, r.reverse, Heap.get?_push_size _ rfl⟩
  · obtain ⟨its, r, ht, hz⟩ := J5.tuple hx
    have hlen := r.length
    refine tail_any (ops := [.ref a, .ref s4.heap.objs.size]) ht.typeIs (PyProof.Rows.slot_tuple_getitem.lookup) (?_) (by with_unfolding_all rfl)
    refine getItem_tuple_rev ht (Heap.IsSliceOf.new _ vl vu vs) pl pu ps (?_) (by rw [List.size_toArray]; omega)
    refine ⟨.ref _, _, J5.laid (t' := s4.toks) (o := .tup xs.reverse) (fun b ob q => Heap.get?_push_of_some _ q) (Nat.le_refl _) (?_), rfl, q _ (J5.hok.fresh (Nat.le_refl _))⟩
    exact ⟨by rw [List.length_reverse]; exact hz, _, r.reverse, _, Heap.get?_push_size _ rfl, rfl, _, rfl⟩
def oRev : D → Option D
  | .list xs => some (.list xs.reverse)
  | .tuple xs => some (.tuple xs.reverse)
  | _ => none
def cRev (f : Env → R D) : Env → R D := fun ρ => (f ρ).bind fun a => ofO (oRev a)
@[simp] theorem ev_cRev {f : Env → R D} {ρ : Env} : cRev f ρ = (f ρ).bind fun a => ofO (oRev a) := id rfl
@[simp] theorem oRev_list {xs : List D} : oRev (.list xs) = some (.list xs.reverse) := id rfl
@[simp] theorem oRev_tuple {xs : List D} : oRev (.tuple xs) = some (.tuple xs.reverse) := id rfl
theorem de_rev {W : WX} {e : Expr} {f : Env → R D} {k : Nat} {p1 p2 p3 pos : Pos} (ha : DB X W e f) : DE X W (.Subscript e (.Slice none none (some (.UnaryOp .USub (.Constant (.int 1) k p1) p2)) p3) pos) (cRev f) :=
  ⟨pe_imp (pe_revA ha.pe) fun σ H Q ⟨F0, H0, F, ρ, r, k⟩ => ⟨F0, H0, F, ρ, r, (ROk.step (r := f ρ) k).imp fun a F1 H1 _ g1 q1 x hx => by
    obtain ⟨c, e, q⟩ := q1.ofO
    cases a <;> simp only [oRev] at e <;> try (cases e; done)
    · cases e
      obtain ⟨p, vs, rfl, h2, h3⟩ := hx.list g1.in_
      exact ⟨p, vs, rfl, .inl ⟨Or.inl (Or.inl h2), fun z hz => q _ _ (Grow.made g1.in_ hz) _ (.lst upd_same (dpa_rev (h3.up (Evl.Ex.new (Evl.fresh_back g1.in_ hz)))))⟩⟩
    · cases e
      obtain ⟨p, vs, rfl, h2, h3⟩ := hx.tuple g1.in_
      exact ⟨p, vs, rfl, .inr ⟨h2, fun z hz => q _ _ (Grow.made g1.in_ hz) _ (.tup (Or.inl (Or.inl upd_same)) (dpa_rev (h3.up (Evl.Ex.new (Evl.fresh_back g1.in_ hz)))))⟩⟩⟩⟩
end
end DL

/-! DLp -/
/-! sorted(t), t a tuple of ints -/
namespace DL
open PySem L2 PySem.Spec PyProof.Rows
section
variable {prog : Program} {w : World} {A : Around} {s : Shared} {E : Value → Shared → Prop}
/-- the heap behind the gathering of a tuple's items -/
def gathered (h : Heap) (its : Array Value) : Heap := (h.push { cls := .type "list", data := .seq ([] : List Value).toArray }).update h.objs.size (Obj.mapSeq (· ++ its))
theorem gathered_keep {h : Heap} {its : Array Value} (b : Addr) (u : Obj) (e : h.get? b = some u) : (gathered h its).get? b = some u :=
  (Heap.get?_update_other _ _ (Nat.ne_of_gt (Heap.lt_size e))).trans (Heap.get?_push_of_some _ e)
theorem gathered_size {h : Heap} {its : Array Value} : (gathered h its).objs.size = h.objs.size + 1 := by
  unfold gathered
  rw [Heap.size_after_update]
  exact size_push' _ _
theorem collect_tup {t : Addr} {o : Obj} {its : Array Value} {n : Nat} {Q : List Value → Shared → Prop} (ho : s.heap.get? t = some o) (hc : o.cls = .type "tuple") (hd : o.data = .seq its n) (hsz : its.size ≤ sizeLine)
    (hQ : Q its.toList { s with heap := gathered s.heap its }) : wpAny (model prog w) A (collect (.ref t)) Q E s := by
  unfold collect
  refine wpAny_bind (wpAny_runValue (codeAny_builtin F.entry_proto_collect (?_)))
  rw [(Around.under_plainId F.plain_proto_collect _)]
  show wpAny _ A.in1 (newList [] >>= fun l => again (.builtin "list.__iadd__" ⟨[l, .ref t], []⟩)) _ _ s
  refine wpAny_bind (wpAny_newObj_type (?_))
  refine wpAny_pure ⟨plainId_quiet F.plain_list_iadd _, codeAny_builtin F.entry_list_iadd (?_)⟩
  rw [(Around.under_plainId F.plain_list_iadd _)]
  show wpAny _ A.in1 (Builtin.List.listExtendWith (.ref s.heap.objs.size) (.ref t) (.ref s.heap.objs.size)) _ _ _
  have g1 : (s.heap.push { cls := .type "list", data := .seq ([] : List Value).toArray }).get? s.heap.objs.size = some { cls := .type "list", data := .seq #[] 0 } := Heap.get?_push_size _ rfl
  have h2 := Heap.get?_update_self (Obj.mapSeq (· ++ its)) g1 rfl
  have fin : wpAny (model prog w) A (match Value.ref s.heap.objs.size with
      | Value.ref a => do
        match (← load a).data with
          | Data.seq ys _ => pure ys.toList
          | _ => (unsupported "internal:collect")
      | _ => unsupported "internal:collect") Q E { s with heap := gathered s.heap its } := by
    show wpAny _ A ((load s.heap.objs.size) >>= _) _ _ _
    refine wpAny_bind (wpAny_load h2 (wpAny_pure (?_)))
    have e : ((#[] : Array Value) ++ its).toList = its.toList := by simp
    show Q ((#[] : Array Value) ++ its).toList _
    rw [e]
    exact hQ
  refine wpAny_mono (wpAny_extend_seq (hsz := hsz) (A := A) (R := fun r s' => r = .ok (.ret (.ref s.heap.objs.size)) ∧ s' = { s with heap := gathered s.heap its })
    (s := { s with heap := s.heap.push { cls := .type "list", data := .seq ([] : List Value).toArray } }) _ t _ 0 (.inr rfl) g1 (Heap.get?_push_of_some _ ho) hc hd ⟨rfl, rfl⟩) (fun z s' h => (?_)) (fun e s' h => (?_))
  · cases z with
    | done f =>
      obtain ⟨e, rfl⟩ := h
      cases e
      exact fin
    | again c' => exact ⟨h.1, codeAny_mono h.2 fun r s'' hr => by obtain ⟨rfl, rfl⟩ := hr; exact fin⟩
  · exact absurd h.1 (by simp)
end
section
variable {X : Cx}
def rSortedTI (K : PySem.W.Frag) : List V → Hp → VK → Prop := fun vs H Q => ∃ (a : Addr) (ns : List Int), vs = [V.ref a] ∧ SqT K H a (ns.map V.int) ∧
  ∀ (ms : List Int) (p : Addr), ms.Perm ns → ms.Pairwise (· ≤ ·) → H p = none → Q (.ref p) (upd H p (.lst (ms.map V.int)))
theorem cr_sortedTI (hc : X.calm = true) : CallR X (.builtin "sorted") (rSortedTI X.K) := by
  intro pins s σ H vs us Q I r; intro h
  obtain ⟨a, ns, rfl, ha, q⟩ := h
  obtain ⟨its, rv, ht, hz⟩ := I.tuple ha
  obtain ⟨o, ho, oc, m, od⟩ := id ht
  have hz1 : its.toArray.size ≤ sizeLine := by rw [List.size_toArray, ← rv.length]; exact hz
  rw [Vals.ref1 r]
  refine Calls.call_function_entry kind_sorted plain_sorted entry_sorted (args_sorted1 _) (?_)
  unfold Builtin.«sorted»
  refine wpAny_bind (m := checkCount "sorted" 1 1 _) (wpAny_pure (wpAny_bind (collect_tup (A := X.A.in1) ho oc od hz1 (?_))))
  have vz : its.length ≤ sizeLine := by rw [List.size_toArray] at hz1; exact hz1
  have ia : IntsAre its ns := rv.ints
  refine wpAny_bind (wpAny_newList ?_ vz)
  have hL : ((gathered s.heap its.toArray).push (seqObj "list" its.toArray 0)).get? (gathered s.heap its.toArray).objs.size = some (seqObj "list" its.toArray 0) := Heap.get?_push_size _ (by rfl)
  refine wpAny_bind (wpAny_holding (wpAny_call_entry slot_list_sort ⟨_, hL, by rfl⟩ entry_list_sort (SrtO.list_sort_ord SrtO.swo_int hL vz (fun h2 => SrtO.ints_sortable ia h2) fun out h1 h2 => ⟨.none, rfl, ?_⟩) (args_list_sort _)))
  obtain ⟨k1', k2, k3⟩ := SrtO.ints_out ia h1 h2
  obtain ⟨c, hcs⟩ := sortedHeap_at (vs := its) (out := out.toArray) hL
  have z1 : s.heap.objs.size ≤ (gathered s.heap its.toArray).objs.size := by rw [gathered_size]; omega
  have old : ∀ b u, s.heap.get? b = some u → (sortedHeap ((gathered s.heap its.toArray).push (seqObj "list" its.toArray 0)) (gathered s.heap its.toArray).objs.size its out.toArray).get? b = some u := fun b u e => by
    have e1 := gathered_keep (its := its.toArray) b u e
    have lt := Heap.lt_size e1
    rw [sortedHeap_old (Nat.ne_of_lt lt) (by rw [size_push']; exact Nat.lt_succ_of_lt lt)]
    exact Heap.get?_push_of_some _ e1
  have hlen : (((out.map SrtO.iv).map V.int).length ≤ sizeLine) := by
    rw [List.length_map]; rw [k2.length_eq]
    rw [List.length_map] at hz
    exact hz
  have fresh : H (gathered s.heap its.toArray).objs.size = none := I.hok.fresh z1
  exact wpAny_pure ⟨_, rfl, .ref _, upd H (gathered s.heap its.toArray).objs.size (.lst ((out.map SrtO.iv).map V.int)), I.laid (t' := s.toks) old z1 ⟨hlen, out, c, vals_of_ints k1', hcs⟩, rfl, q (out.map SrtO.iv) _ k2 k3 fresh⟩
def bSortedB : List D → Option D
  | [.tuple xs] => (intsD xs).map fun ns => .list ((srt ns).map .int)
  | as => bSortedA as
theorem cr_sortedB (hc : X.calm = true) : CallR X (.builtin "sorted") (fun xs H Q => (rSortedI X.K xs H Q ∨ rSortedDk xs H Q) ∨ rSortedTI X.K xs H Q) := (cr_sortedA hc).or (cr_sortedTI hc)
theorem rc_sortedB {K : PySem.W.Frag} : RdC K (fun xs H Q => (rSortedI K xs H Q ∨ rSortedDk xs H Q) ∨ rSortedTI K xs H Q) bSortedB := fun F H xs as c e hx hc Q k => by
  unfold bSortedB at hc
  split at hc
  · rename_i ds
    cases hx with
    | cons h1 h2 =>
      cases h2
      obtain ⟨p, vs, rfl, t2, t3⟩ := h1.tuple e
      cases hi : intsD ds with
      | none => rw [hi] at hc; cases hc
      | some ns =>
        rw [hi] at hc
        cases hc
        have ed := intsD_some hi
        subst ed
        have ev := dpa_toInts t3
        subst ev
        exact .inr ⟨p, ns, rfl, t2, fun ms z pm up hz => by
          rw [srt_one pm up]
          exact k _ _ (Grow.made e hz) _ (.lst upd_same dpa_ints)⟩
  · exact .inl (rc_sortedA F H xs as c e hx hc Q k)
@[simp] theorem bSortedB_t {ns : List Int} : bSortedB [.tuple (ns.map PyData.int)] = some (.list ((srt ns).map .int)) := by
  simp [bSortedB, intsD_map]
@[simp] theorem bSortedB_l {ns : List Int} : bSortedB [.list (ns.map PyData.int)] = some (.list ((srt ns).map .int)) := by
  simp [bSortedB, bSortedA, bSorted, intsD_map]
end
end DL

/-! DLq -/
/-! defs that call themselves: by the depth that is left -/
namespace DL
open PySem L2 PySem.Spec PyProof.Rows
theorem fn_bad {P : Program} {w : World} {K : PySem.W.Frag} {mg : Str → Option Value} {base : Heap} {CX : CXT} {k m : Nat} {f : Addr} {fd : FuncData} {ps : List Str} : FnOk P w K mg base CX k f fd ps (spD K mg m fun _ => .bad) :=
  ⟨fun _ _ _ _ ⟨_, _, _, _, _, h⟩ => h.elim, fun _ _ _ _ _ _ _ _ _ _ _ _ _ ⟨_, _, _, _, _, h⟩ => h.elim⟩
end DL

/-! DLr -/
/-! a statement that is told nothing of: where a law does not come to it -/
namespace DL
open PySem L2 PySem.Spec PyProof.Rows
def sBad : Env → Out := fun _ => .bad
@[simp] theorem ev_sBad {ρ : Env} : sBad ρ = .bad := id rfl
theorem ds_bad {X : Cx} {W : WX} {st : Stmt} : DS X W st sBad := ⟨⟨fun _ _ _ _ _ _ ⟨_, _, _, _, _, h⟩ => h.elim⟩⟩
end DL

/-! DLs -/
namespace DL
open PySem L2 PySem.Spec PyProof.Rows

/-! ### rewriting rules: what the functions of the layer come to -/
section
variable {α β : Type} {ρ : Env} {f g h : Env → R D} {t u : Env → R Bool} {q : Env → R (List D)} {b c : Env → Out} {o o' : D → D → Option D} {i j k : Nat}
@[simp] theorem bind_okS {a : α} {f : α → R β} : (R.ok a).bind f = f a := id rfl
@[simp] theorem bind_excS {x : Exc} {f : α → R β} : (R.exc x : R α).bind f = .exc x := id rfl
@[simp] theorem bind_badS {f : α → R β} : (R.bad : R α).bind f = .bad := id rfl
@[simp] theorem bind_ite {p : Prop} [Decidable p] {x y : R α} {f : α → R β} : (if p then x else y).bind f = if p then x.bind f else y.bind f := by split <;> rfl
@[simp] theorem ofO_someS {a : α} : ofO (some a) = .ok a := id rfl
@[simp] theorem ofO_noneS : ofO (none : Option α) = .bad := id rfl
@[simp] theorem ofO_ite {p : Prop} [Decidable p] {x y : Option α} : ofO (if p then x else y) = if p then ofO x else ofO y := by split <;> rfl
def lkV : Option SV → R D
  | some (.val d) => .ok d
  | _ => .bad
def lkB : Option SV → R D
  | some (.val d) => .ok d
  | some (.own ds) => .ok (.list ds)
  | some (.dic ks) => .ok (dcD ks)
  | _ => .bad
@[simp] theorem lkV_val {d : D} : lkV (some (.val d)) = .ok d := id rfl
@[simp] theorem lkB_val {d : D} : lkB (some (.val d)) = .ok d := id rfl
@[simp] theorem lkB_own {d : List D} : lkB (some (.own d)) = .ok (.list d) := id rfl
@[simp] theorem lkB_dic {ks : List (Key × D)} : lkB (some (.dic ks)) = .ok (dcD ks) := id rfl
@[simp] theorem ev_cVar : cVar i ρ = lkV ρ[i]? := id rfl
@[simp] theorem ev_cBor : cBor i ρ = lkB ρ[i]? := id rfl
@[simp] theorem ev_cC {d : D} : cC d ρ = .ok d := id rfl
@[simp] theorem ev_cOp : cOp o f g ρ = (f ρ).bind fun a => (g ρ).bind fun b => ofO (o a b) := id rfl
@[simp] theorem ev_cUn {o : D → Option D} : cUn o f ρ = (f ρ).bind fun a => ofO (o a) := id rfl
@[simp] theorem ev_cTest : cTest f ρ = (f ρ).bind fun a => ofO (truB a) := id rfl
@[simp] theorem ev_cChain : cChain o o' f g h ρ = (f ρ).bind fun a => (g ρ).bind fun b => (ofO ((o a b).bind truB)).bind fun k => if k = true then (h ρ).bind fun c => ofO (o' b c) else .ok (.bool false) := id rfl
@[simp] theorem ev_cAnd : cAnd t u ρ = (t ρ).bind fun k => if k = true then u ρ else .ok false := id rfl
@[simp] theorem ev_cOr : cOr t u ρ = (t ρ).bind fun k => if k = true then .ok true else u ρ := id rfl
@[simp] theorem ev_cNot : cNot t ρ = (t ρ).bind fun k => .ok (!k) := id rfl
@[simp] theorem ev_cAndV : cAndV f g ρ = (f ρ).bind fun a => (ofO (truB a)).bind fun k => if k = true then g ρ else .ok (.bool false) := by simp only [cAndV, cTest]; cases f ρ <;> rfl
@[simp] theorem ev_cOrV : cOrV f g ρ = (f ρ).bind fun a => (ofO (truB a)).bind fun k => if k = true then .ok (.bool true) else g ρ := by simp only [cOrV, cTest]; cases f ρ <;> rfl
@[simp] theorem ev_cNotV : cNotV f ρ = (f ρ).bind fun a => (ofO (truB a)).bind fun k => .ok (.bool (!k)) := by simp only [cNotV, cTest]; cases f ρ <;> rfl
@[simp] theorem ev_cIf : cIf t f g ρ = (t ρ).bind fun k => if k = true then f ρ else g ρ := id rfl
@[simp] theorem ev_aNil : aNil ρ = .ok [] := id rfl
@[simp] theorem ev_aCons : aCons f q ρ = (f ρ).bind fun x => (q ρ).bind fun xs => .ok (x :: xs) := id rfl
@[simp] theorem ev_cTup : cTup q ρ = (q ρ).bind fun ds => if ds.length ≤ 100000 then .ok (.tuple ds) else .bad := id rfl
@[simp] theorem ev_cLst : cLst q ρ = (q ρ).bind fun ds => if ds.length ≤ 100000 then .ok ds else .bad := id rfl
@[simp] theorem ev_asList {f : Env → R (List D)} : asList f ρ = (f ρ).bind fun ds => .ok (.list ds) := id rfl
@[simp] theorem ev_asVal : asVal f ρ = (f ρ).bind fun ds => .ok (.val ds) := id rfl
@[simp] theorem ev_asOwn {f : Env → R (List D)} : asOwn f ρ = (f ρ).bind fun ds => .ok (.own ds) := id rfl
@[simp] theorem ev_cBt {o : List D → Option D} : cBt o q ρ = (q ρ).bind fun as => ofO (o as) := id rfl
@[simp] theorem ev_cIs {p : D → Bool} : cIs p f ρ = (f ρ).bind fun a => .ok (.bool (p a)) := id rfl
@[simp] theorem ev_cCall {s : List D → R D} : cCall s q ρ = (q ρ).bind s := id rfl
@[simp] theorem ev_pNone : pNone ρ = .ok none := id rfl
@[simp] theorem ev_pSome : pSome f ρ = (f ρ).bind fun a => (ofO (intD a)).bind fun i => .ok (some i) := id rfl
@[simp] theorem ev_cSl {lo hi : Env → R (Option Int)} : cSl f lo hi ρ = (f ρ).bind fun a => (lo ρ).bind fun l => (hi ρ).bind fun h => ofO (oSl a l h) := id rfl
@[simp] theorem ev_cItems : cItems f ρ = (f ρ).bind fun a => ofO (itemsD a) := id rfl
@[simp] theorem ev_cIt {o : List D → Option (List D)} : cIt o q ρ = (q ρ).bind fun as => ofO (o as) := id rfl
@[simp] theorem ev_cLc {it : Env → R (List D)} {s : D → Env → Option Env} {vs : List Nat} : cLc it s t f vs ρ = (it ρ).bind fun ds => if ds.length ≤ 100000 then noX (lcGo s t f (wipeR ρ vs) ds) else .bad := id rfl
@[simp] theorem ev_cYes : cYes ρ = .ok true := id rfl
@[simp] theorem ev_noX {a : α} : noX (.ok a) = .ok a := id rfl
@[simp] theorem ev_sName {d : D} : sName i d ρ = some (ρ.set i (.val d)) := id rfl
@[simp] theorem ev_sNil : sNil [] ρ = some ρ := id rfl
@[simp] theorem ev_sCons {s : D → Env → Option Env} {r : List D → Env → Option Env} {d : D} {ds : List D} : sCons s r (d :: ds) ρ = (s d ρ).bind fun ρ' => r ds ρ' := id rfl
@[simp] theorem ev_sTup {r : List D → Env → Option Env} {ds : List D} : sTup r (.tuple ds) ρ = r ds ρ := id rfl
@[simp] theorem exB_okS {a : α} {k : α → Out} : exB ρ (.ok a) k = k a := id rfl
@[simp] theorem exB_excS {x : Exc} {k : α → Out} : exB ρ (.exc x : R α) k = .ex x ρ := id rfl
@[simp] theorem exB_badS {k : α → Out} : exB ρ (.bad : R α) k = .bad := id rfl
@[simp] theorem exB_ite {p : Prop} [Decidable p] {x y : R α} {k : α → Out} : exB ρ (if p then x else y) k = if p then exB ρ x k else exB ρ y k := by split <;> rfl
@[simp] theorem ev_sNx : sNx ρ = .nx ρ := id rfl
def thenO (x : Out) (h : Env → Out) : Out := match x with
  | .nx ρ' => h ρ'
  | o => o
@[simp] theorem ev_sSeq : sSeq b c ρ = thenO (b ρ) c := id rfl
@[simp] theorem thenO_nx : thenO (.nx ρ) c = c ρ := id rfl
@[simp] theorem thenO_rt {d : D} : thenO (.rt d) c = .rt d := id rfl
@[simp] theorem thenO_ex {x : Exc} : thenO (.ex x ρ) c = .ex x ρ := id rfl
@[simp] theorem thenO_ct : thenO (.ct ρ) c = .ct ρ := id rfl
@[simp] theorem thenO_bk : thenO (.bk ρ) c = .bk ρ := id rfl
@[simp] theorem thenO_bad : thenO .bad c = .bad := id rfl
@[simp] theorem thenO_ite {p : Prop} [Decidable p] {x y : Out} : thenO (if p then x else y) c = if p then thenO x c else thenO y c := by split <;> rfl
@[simp] theorem ev_sRet : sRet f ρ = exB ρ (f ρ) fun d => .rt d := id rfl
@[simp] theorem ev_sRetN : sRetN ρ = .rt .none := id rfl
@[simp] theorem ev_sIf : sIf t b c ρ = exB ρ (t ρ) fun k => if k = true then b ρ else c ρ := id rfl
@[simp] theorem ev_sDrop : sDrop f ρ = exB ρ (f ρ) fun _ => .nx ρ := id rfl
@[simp] theorem ev_sAsg {f : Env → R SV} : sAsg i f ρ = exB ρ (f ρ) fun sv => .nx (ρ.set i sv) := id rfl
def optO : Option Env → Out
  | some ρ' => .nx ρ'
  | none => .bad
@[simp] theorem optO_some : optO (some ρ) = .nx ρ := id rfl
@[simp] theorem ev_sTo {s : D → Env → Option Env} : sTo s f ρ = exB ρ (f ρ) fun d => optO (s d ρ) := id rfl
@[simp] theorem ev_sPar {f g : Env → R SV} : sPar i j f g ρ = exB ρ (f ρ) fun x => exB ρ (g ρ) fun y => .nx ((ρ.set i x).set j y) := id rfl
def par3 (ρ : Env) (i j k : Nat) : List D → Out
  | [x, y, z] => .nx (((ρ.set i (.val x)).set j (.val y)).set k (.val z))
  | _ => .bad
@[simp] theorem par3_ok {x y z : D} : par3 ρ i j k [x, y, z] = .nx (((ρ.set i (.val x)).set j (.val y)).set k (.val z)) := id rfl
@[simp] theorem ev_sPar3 : sPar3 i j k q ρ = exB ρ (q ρ) fun ds => par3 ρ i j k ds := by
  unfold sPar3
  congr 1
@[simp] theorem ev_sFrz : sFrz i b ρ = b (frz i ρ) := id rfl
@[simp] theorem ev_sRaise {x : Str} : sRaise x ρ = .ex ⟨x, []⟩ ρ := id rfl
def lkA (ρ : Env) (i : Nat) (f : R D) : Option SV → Out
  | some (.own ds) => exB ρ f fun d => if ds.length < 100000 then .nx (ρ.set i (.own (ds ++ [d]))) else .bad
  | _ => .bad
@[simp] theorem lkA_own {r : R D} {ds : List D} : lkA ρ i r (some (.own ds)) = exB ρ r fun d => if ds.length < 100000 then .nx (ρ.set i (.own (ds ++ [d]))) else .bad := id rfl
@[simp] theorem ev_sApp : sApp i f ρ = lkA ρ i (f ρ) ρ[i]? := by
  unfold sApp lkA
  split <;> simp_all
def lkP (ρ : Env) (i : Nat) (d : D) (g : R D) : Option SV → Out
  | some (.dic ks) => exB ρ g fun b => match keyD b with
    | some k => if ks.length < 100000 then .nx (ρ.set i (.dic (setK ks k d))) else .bad
    | none => .bad
  | _ => .bad
@[simp] theorem lkP_i {d : D} {n : Int} {ks : List (Key × D)} : lkP ρ i d (.ok (.int n)) (some (.dic ks)) = if ks.length < 100000 then .nx (ρ.set i (.dic (setK ks (.inl n) d))) else .bad := id rfl
@[simp] theorem ev_sPut : sPut i f g ρ = exB ρ (f ρ) fun d => lkP ρ i d (g ρ) ρ[i]? := by
  unfold sPut lkP
  congr 1
def lkPL (ρ : Env) (i : Nat) (d : D) (g : R D) : Option SV → Out
  | some (.own ds) => exB ρ g fun b => match intD b with
    | some k => match ixN ds.length k with
      | some j => .nx (ρ.set i (.own (ds.set j d)))
      | none => .bad
    | none => .bad
  | _ => .bad
@[simp] theorem lkPL_i {d : D} {n : Int} {ds : List D} : lkPL ρ i d (.ok (.int n)) (some (.own ds)) = (match ixN ds.length n with | some j => .nx (ρ.set i (.own (ds.set j d))) | none => .bad) := id rfl
@[simp] theorem ev_sPutL : sPutL i f g ρ = exB ρ (f ρ) fun d => lkPL ρ i d (g ρ) ρ[i]? := by
  unfold sPutL lkPL
  congr 1
def lkE (ρ : Env) (i : Nat) (r : R D) : Option SV → Out
  | some (.own ds) => exB ρ r fun d => match d with
    | .list es => if ds.length + es.length ≤ 100000 then .nx (ρ.set i (.own (ds ++ es))) else .bad
    | _ => .bad
  | _ => .bad
@[simp] theorem lkE_l {ds es : List D} : lkE ρ i (.ok (.list es)) (some (.own ds)) = if ds.length + es.length ≤ 100000 then .nx (ρ.set i (.own (ds ++ es))) else .bad := id rfl
@[simp] theorem ev_sExt : sExt i f ρ = lkE ρ i (f ρ) ρ[i]? := by
  unfold sExt lkE
  generalize ρ[i]? = x
  cases x with
  | none => rfl
  | some sv =>
    cases sv <;> first
      | rfl
      | (congr 1; funext d; cases d <;> rfl)
@[simp] theorem ev_cMt {m : D → List D → Option D} : cMt m f q ρ = (f ρ).bind fun a => if lstB a = true then (q ρ).bind fun as => ofO (m a as) else .bad := id rfl
@[simp] theorem lstB_l {xs : List D} : lstB (.list xs) = true := id rfl
@[simp] theorem ev_cGet2 : cGet2 f g h ρ = (f ρ).bind fun a => (ofO (dctK a)).bind fun ks => (g ρ).bind fun b => (h ρ).bind fun d => (ofO (keyD b)).bind fun k => .ok ((getK ks k).getD d) := id rfl
@[simp] theorem dctK_d {ks : List (Key × D)} : dctK (dcD ks) = some ks := dctK_dcD ks
@[simp] theorem keyD_i {n : Int} : keyD (.int n) = some (.inl n) := id rfl
@[simp] theorem ev_asDic : asDic ρ = .ok (.dic []) := id rfl
def lkG (ρ : Env) (i : Nat) (o : D → D → Option D) (r : R D) : R D → Out
  | .ok a => exB ρ r fun b => match o a b with
    | some c => .nx (ρ.set i (.val c))
    | none => .bad
  | _ => .bad
@[simp] theorem ev_sAug : sAug i o f ρ = lkG ρ i o (f ρ) (lkV ρ[i]?) := id rfl
@[simp] theorem lkG_ok {a : D} {r : R D} : lkG ρ i o r (.ok a) = exB ρ r fun b => match o a b with | some c => .nx (ρ.set i (.val c)) | none => .bad := id rfl
@[simp] theorem ev_sFor {it : Env → R (List D)} {s : D → Env → Option Env} : sFor it s b ρ = exB ρ (it ρ) fun ds => forLoop s b ds ρ := id rfl
@[simp] theorem ev_sWhile : sWhile t b ρ = whileLoop t b FUEL ρ := id rfl
@[simp] theorem toR_nx : toR (.nx ρ) = .ok .none := id rfl
@[simp] theorem toR_rt {d : D} : toR (.rt d) = .ok d := id rfl
@[simp] theorem toR_ex {x : Exc} : toR (.ex x ρ) = .exc x := id rfl
@[simp] theorem toR_bad : toR .bad = .bad := id rfl
@[simp] theorem toR_ite {p : Prop} [Decidable p] {x y : Out} : toR (if p then x else y) = if p then toR x else toR y := by split <;> rfl
end
/-! operators on data of known kind -/
section
variable {i j : Int} {x y : Str} {xs ys : List D} {a b : D}
@[simp] theorem oAdd_ii : oAdd (.int i) (.int j) = some (.int (i + j)) := id rfl
@[simp] theorem oAdd_ss : oAdd (.str x) (.str y) = if x.length + y.length ≤ 100000 then some (.str (x ++ y)) else none := id rfl
@[simp] theorem oAdd_tt : oAdd (.tuple xs) (.tuple ys) = if xs.length + ys.length ≤ 100000 then some (.tuple (xs ++ ys)) else none := id rfl
@[simp] theorem oAdd_ll : oAdd (.list xs) (.list ys) = if xs.length + ys.length ≤ 100000 then some (.list (xs ++ ys)) else none := id rfl
@[simp] theorem oAugAdd_ii : oAugAdd (.int i) (.int j) = some (.int (i + j)) := id rfl
@[simp] theorem oSub_ii : oSub (.int i) (.int j) = some (.int (i - j)) := id rfl
@[simp] theorem oMul_ii : oMul1 (.int i) (.int j) = if CMul i j then some (.int (i * j)) else none := id rfl
@[simp] theorem oMul_li : oMul1 (.list xs) (.int j) = if 0 ≤ j ∧ j ≤ 100000 ∧ xs.length * j.toNat ≤ 100000 then some (.list (List.replicate j.toNat xs).flatten) else none := id rfl
@[simp] theorem oMul_ti : oMul1 (.tuple xs) (.int j) = if xs ≠ [] ∧ 2 ≤ j ∧ j ≤ 1000 ∧ xs.length ≤ 1000 then some (.tuple (List.replicate j.toNat xs).flatten) else none := id rfl
@[simp] theorem oMod_ii : oMod (.int i) (.int j) = if 0 < j then some (.int (i % j)) else none := id rfl
@[simp] theorem oDiv_ii : oDiv (.int i) (.int j) = if CDivW i j then some (.int (i / j)) else none := id rfl
@[simp] theorem oPow_ii : oPow (.int i) (.int j) = if CPow i j then some (.int (i ^ j.toNat)) else none := id rfl
@[simp] theorem oLt_ii : oLt (.int i) (.int j) = some (.bool (decide (i < j))) := id rfl
@[simp] theorem oLe_ii : oLe (.int i) (.int j) = some (.bool (decide (i ≤ j))) := id rfl
@[simp] theorem oGt_ii : oGt (.int i) (.int j) = some (.bool (decide (j < i))) := id rfl
@[simp] theorem oGe_ii : oGe (.int i) (.int j) = some (.bool (decide (j ≤ i))) := id rfl
@[simp] theorem oNeg_i : oNeg (.int i) = some (.int (-i)) := id rfl
@[simp] theorem oIs_n : oIs a .none = some (.bool (isNone a)) := id rfl
@[simp] theorem oIsNot_n : oIsNot a .none = some (.bool (!isNone a)) := id rfl
@[simp] theorem oIx_l : oIx (.list xs) (.int i) = atI xs i := id rfl
@[simp] theorem oIx_t : oIx (.tuple xs) (.int i) = atI xs i := id rfl
@[simp] theorem oIxA_l : oIxA (.list xs) (.int i) = atI xs i := id rfl
@[simp] theorem oIxA_t : oIxA (.tuple xs) (.int i) = atI xs i := id rfl
@[simp] theorem oIxA_d {ks : List (Key × D)} : oIxA (dcD ks) (.int i) = getK ks (.inl i) := by
  show oDGet (dcD ks) (.int i) = _
  unfold oDGet
  rw [dctK_dcD] <;> rfl
@[simp] theorem bSorted_i {ns : List Int} : bSortedA [.list (ns.map PyData.int)] = some (.list ((srt ns).map .int)) := by
  simp [bSortedA, bSorted, intsD_map]
@[simp] theorem bMax1_i {n : Int} {ns : List Int} : bMax1 [.list (.int n :: ns.map PyData.int)] = some (.int (top n ns)) := by simp [bMax1, intsD, intsD_map]
@[simp] theorem bMin1_i {n : Int} {ns : List Int} : bMin1 [.list (.int n :: ns.map PyData.int)] = some (.int (low n ns)) := by simp [bMin1, intsD, intsD_map]
@[simp] theorem oSl_l {l u : Option Int} : oSl (.list xs) l u = some (.list (cut xs l u)) := id rfl
@[simp] theorem oSl_t {l u : Option Int} : oSl (.tuple xs) l u = some (.tuple (cut xs l u)) := id rfl
@[simp] theorem truB_b {k : Bool} : truB (.bool k) = some k := id rfl
@[simp] theorem intD_i : intD (.int i) = some i := id rfl
@[simp] theorem items_l : itemsD (.list xs) = some xs := id rfl
@[simp] theorem items_t : itemsD (.tuple xs) = some xs := id rfl
@[simp] theorem bLen_l : bLen [.list xs] = some (.int xs.length) := id rfl
@[simp] theorem bLen_t : bLen [.tuple xs] = some (.int xs.length) := id rfl
@[simp] theorem bAbs_i : bAbs [.int i] = some (.int (if i < 0 then -i else i)) := id rfl
@[simp] theorem bMax2_i : bMax2 [.int i, .int j] = some (.int (if j > i then j else i)) := id rfl
@[simp] theorem bMin2_i : bMin2 [.int i, .int j] = some (.int (if j < i then j else i)) := id rfl
@[simp] theorem bInt_i : bInt [.int i] = some (.int i) := id rfl
@[simp] theorem bTuple_l : bTuple [.list xs] = some (.tuple xs) := id rfl
@[simp] theorem bTuple_t : bTuple [.tuple xs] = some (.tuple xs) := id rfl
@[simp] theorem bList_l : bList [.list xs] = some (.list xs) := id rfl
@[simp] theorem bList_t : bList [.tuple xs] = some (.list xs) := id rfl
@[simp] theorem bAll_b {bs : List Bool} : bAll [.list (bs.map PyData.bool)] = some (.bool (bs.all id)) := by simp [bAll, blsD_map]
@[simp] theorem bAny_b {bs : List Bool} : bAny [.list (bs.map PyData.bool)] = some (.bool (bs.any id)) := by simp [bAny, blsD_map]
@[simp] theorem bSum_i {ns : List Int} : bSum [.list (ns.map PyData.int)] = some (.int ns.sum) := by simp [bSum, intsD_map]
@[simp] theorem range1_i : range1D [.int i] = if -1000000 < i ∧ i < 1000000 then some (rangeD 0 i.toNat) else none := id rfl
@[simp] theorem zip2_l : zip2D [.list xs, .list ys] = some (zipD xs ys) := id rfl
@[simp] theorem zip2_t : zip2D [.tuple xs, .tuple ys] = some (zipD xs ys) := id rfl
@[simp] theorem enum1_l : enum1D [.list xs] = some (enumD 0 xs) := id rfl
theorem cmul_l (h : -18446744073709551616 < i ∧ i < 18446744073709551616) : CMul i j := .inl (by omega)
theorem cmul_r (h : -18446744073709551616 < j ∧ j < 18446744073709551616) : CMul i j := .inr (by omega)
theorem cdivw (h : 0 < j ∧ j < 18446744073709551616) : CDivW i j := wide_div (b := 64) h.1 (by omega) (by decide) (by decide)
end

def tryO (ns : List Str) (cl : List ClD) : Out → Out
  | .ex x ρ => if ns.contains x.cls = true then handle cl x ρ else .bad
  | o => o
@[simp] theorem ev_sTry {ns : List Str} {g : Env → Out} {cl : List ClD} {ρ : Env} : sTry ns g cl ρ = tryO ns cl (g ρ) := id rfl
@[simp] theorem tryO_nx {ns : List Str} {cl : List ClD} {ρ : Env} : tryO ns cl (.nx ρ) = .nx ρ := id rfl
@[simp] theorem tryO_rt {ns : List Str} {cl : List ClD} {d : D} : tryO ns cl (.rt d) = .rt d := id rfl
@[simp] theorem tryO_ex {ns : List Str} {cl : List ClD} {x : Exc} {ρ : Env} : tryO ns cl (.ex x ρ) = if ns.contains x.cls = true then handle cl x ρ else .bad := id rfl
@[simp] theorem handle_nil {x : Exc} {ρ : Env} : handle [] x ρ = .ex x ρ := id rfl
@[simp] theorem handle_cons {sub : List Str} {o : Option Nat} {s : Exc → Env → Out} {r : List ClD} {x : Exc} {ρ : Env} : handle ((sub, o, s) :: r) x ρ = if sub.contains x.cls = true then noXO (s x ρ) else handle r x ρ := id rfl
@[simp] theorem noXO_rt {d : D} : noXO (.rt d) = .rt d := id rfl
@[simp] theorem noXO_nx {ρ : Env} : noXO (.nx ρ) = .nx ρ := id rfl
@[simp] theorem noXO_ct {ρ : Env} : noXO (.ct ρ) = .ct ρ := id rfl
@[simp] theorem ev_xRet {i : Nat} {f : Exc → Env → R D} {x : Exc} {ρ : Env} : xRet i f x ρ = if i < ρ.length then exB ρ (f x (ρ.set i .no)) fun d => .rt d else .bad := id rfl
@[simp] theorem ev_xIf {t : Exc → Env → R Bool} {f g : Exc → Env → R D} {x : Exc} {ρ : Env} : xIf t f g x ρ = (t x ρ).bind fun b => if b = true then f x ρ else g x ρ := id rfl
@[simp] theorem ev_xIs {ns sub : List Str} {x : Exc} {ρ : Env} : xIs ns sub x ρ = if ns.contains x.cls = true ∧ x.args = [] then .ok (sub.contains x.cls) else .bad := id rfl
@[simp] theorem ev_xIsV {ns sub : List Str} {x : Exc} {ρ : Env} : xIsV ns sub x ρ = if ns.contains x.cls = true ∧ x.args = [] then .ok (.bool (sub.contains x.cls)) else .bad := id rfl

/-! ### loops -/
theorem for_nil {s : D → Env → Option Env} {b : Env → Out} {ρ : Env} : forLoop s b [] ρ = .nx ρ := rfl
theorem for_eq {s : D → Env → Option Env} {b : Env → Out} {ρ : Env} {d : D} {ds : List D} : forLoop s b (d :: ds) ρ = (match s d ρ with
    | none => .bad
    | some ρ1 => match b ρ1 with
      | .nx ρ2 => forLoop s b ds ρ2
      | .ct ρ2 => forLoop s b ds ρ2
      | .bk ρ2 => .nx ρ2
      | o => o) := rfl
theorem for_cons {s : D → Env → Option Env} {b : Env → Out} {ρ ρ1 ρ2 : Env} {d : D} {ds : List D} (h : s d ρ = some ρ1) (h2 : b ρ1 = .nx ρ2) : forLoop s b (d :: ds) ρ = forLoop s b ds ρ2 := by simp only [for_eq, h, h2]
theorem for_cont {s : D → Env → Option Env} {b : Env → Out} {ρ ρ1 ρ2 : Env} {d : D} {ds : List D} (h : s d ρ = some ρ1) (h2 : b ρ1 = .ct ρ2) : forLoop s b (d :: ds) ρ = forLoop s b ds ρ2 := by simp only [for_eq, h, h2]
theorem for_ret {s : D → Env → Option Env} {b : Env → Out} {ρ ρ1 : Env} {d x : D} {ds : List D} (h : s d ρ = some ρ1) (h2 : b ρ1 = .rt x) : forLoop s b (d :: ds) ρ = .rt x := by simp only [for_eq, h, h2]
theorem for_brk {s : D → Env → Option Env} {b : Env → Out} {ρ ρ1 ρ2 : Env} {d : D} {ds : List D} (h : s d ρ = some ρ1) (h2 : b ρ1 = .bk ρ2) : forLoop s b (d :: ds) ρ = .nx ρ2 := by simp only [for_eq, h, h2]
/-- a loop whose turns all go on, by an invariant over what is left -/
theorem for_inv {s : D → Env → Option Env} {b : Env → Out} (I : List D → Env → Prop) : ∀ (ds : List D) (ρ : Env), I ds ρ → (∀ d r ρ, I (d :: r) ρ → ∃ ρ1 ρ2, s d ρ = some ρ1 ∧ (b ρ1 = .nx ρ2 ∨ b ρ1 = .ct ρ2) ∧ I r ρ2) → ∃ ρ', forLoop s b ds ρ = .nx ρ' ∧ I [] ρ'
  | [], ρ, h, _ => ⟨ρ, rfl, h⟩
  | d :: r, ρ, h, st => by
    obtain ⟨ρ1, ρ2, h1, h2, h3⟩ := st d r ρ h
    obtain ⟨ρ', h4, h5⟩ := for_inv I r ρ2 h3 st
    refine ⟨ρ', ?_, h5⟩
    rcases h2 with h2 | h2
    · rw [for_cons h1 h2, h4]
    · rw [for_cont h1 h2, h4]
theorem while_eq {t : Env → R Bool} {b : Env → Out} {ρ : Env} {n : Nat} : whileLoop t b (n + 1) ρ = exB ρ (t ρ) fun k => if k = true then (match b ρ with
      | .nx ρ2 => whileLoop t b n ρ2
      | .ct ρ2 => whileLoop t b n ρ2
      | .bk ρ2 => .nx ρ2
      | o => o) else .nx ρ := rfl
theorem while_stop {t : Env → R Bool} {b : Env → Out} {ρ : Env} {n : Nat} (h : t ρ = .ok false) : whileLoop t b (n + 1) ρ = .nx ρ := by simp [while_eq, h]
theorem while_go {t : Env → R Bool} {b : Env → Out} {ρ ρ' : Env} {n : Nat} (h : t ρ = .ok true) (h2 : b ρ = .nx ρ') : whileLoop t b (n + 1) ρ = whileLoop t b n ρ' := by simp [while_eq, h, h2]
/-- a comprehension without tests whose element is told -/
theorem lc_map {s : D → Env → Option Env} {t : Env → R Bool} {el : Env → R D} {ρ : Env} {φ : D → D} : ∀ (ds : List D), (∀ d ∈ ds, ∃ ρ', s d ρ = some ρ' ∧ t ρ' = .ok true ∧ el ρ' = .ok (φ d)) → lcGo s t el ρ ds = .ok (ds.map φ)
  | [], _ => rfl
  | d :: ds, h => by
    obtain ⟨ρ', h1, h2, h3⟩ := h d List.mem_cons_self
    unfold lcGo
    rw [h1]
    simp only [ofO_someS, bind_okS, h2, if_true, h3]
    rw [lc_map ds fun x hx => h x (.tail _ hx)]
    rfl
/-- .. with tests -/
theorem lc_filter {s : D → Env → Option Env} {t : Env → R Bool} {el : Env → R D} {ρ : Env} {φ : D → D} {p : D → Bool} : ∀ (ds : List D), (∀ d ∈ ds, ∃ ρ', s d ρ = some ρ' ∧ t ρ' = .ok (p d) ∧ (p d = true → el ρ' = .ok (φ d))) → lcGo s t el ρ ds = .ok ((ds.filter p).map φ)
  | [], _ => rfl
  | d :: ds, h => by
    obtain ⟨ρ', h1, h2, h3⟩ := h d List.mem_cons_self
    unfold lcGo
    rw [h1]
    simp only [ofO_someS, bind_okS, h2]
    rw [lc_filter ds fun x hx => h x (.tail _ hx)]
    cases hp : p d with
    | true =>
      simp only [if_true, h3 hp, List.filter_cons_of_pos hp, bind_okS, List.map_cons]
    | false =>
      rw [if_neg Bool.false_ne_true, List.filter_cons_of_neg (by rw [hp]; exact Bool.false_ne_true)]
@[simp] theorem lcGo_nil {s : D → Env → Option Env} {t : Env → R Bool} {el : Env → R D} {ρ : Env} : lcGo s t el ρ [] = .ok [] := id rfl
theorem lcGo_cons {s : D → Env → Option Env} {t : Env → R Bool} {el : Env → R D} {ρ : Env} {d : D} {ds : List D} : lcGo s t el ρ (d :: ds) = (ofO (s d ρ)).bind fun ρ' => (t ρ').bind fun b => if b = true then (el ρ').bind fun y => (lcGo s t el ρ ds).bind fun ys => .ok (y :: ys) else lcGo s t el ρ ds := rfl
/-! ### shapes of data, for == -/
structure Sh (n : Nat) (d : D) : Prop where
  lay : d.canLay0 = true
  dep : d.depth ≤ n
theorem Sh.ok {n : Nat} {d : D} (h : Sh n d) (hn : n ≤ 64 := by decide) : SeqAt.shaped d = true := by
  unfold SeqAt.shaped
  rw [h.lay, decide_eq_true (Nat.le_trans h.dep hn)]
  rfl
theorem Sh.mono {n m : Nat} {d : D} (h : Sh n d) (k : n ≤ m) : Sh m d := ⟨h.lay, Nat.le_trans h.dep k⟩
theorem sh_int {n : Nat} {i : Int} : Sh n (.int i) := ⟨by simp [PyData.canLay0], by simp [PyData.depth]⟩
theorem sh_bool {n : Nat} {i : Bool} : Sh n (.bool i) := ⟨by simp [PyData.canLay0], by simp [PyData.depth]⟩
theorem sh_none {n : Nat} : Sh n .none := ⟨by simp [PyData.canLay0], by simp [PyData.depth]⟩
theorem sh_all {n : Nat} : ∀ {ds : List D}, (∀ d ∈ ds, Sh n d) → PyData.canLayAll0 ds = true ∧ PyData.depthAll ds ≤ n
  | [], _ => ⟨by simp [PyData.canLayAll0], by simp [PyData.depthAll]⟩
  | d :: ds, h => by
    obtain ⟨a, b⟩ := sh_all (ds := ds) fun x hx => h x (.tail _ hx)
    have c := h d List.mem_cons_self
    exact ⟨by simp [PyData.canLayAll0, a, c.lay], by simp only [PyData.depthAll]; have := c.dep; omega⟩
theorem sh_tup {n : Nat} {ds : List D} (h : ∀ d ∈ ds, Sh n d) : Sh (n + 1) (.tuple ds) := by
  obtain ⟨a, b⟩ := sh_all h
  exact ⟨by simpa [PyData.canLay0] using a, by simp only [PyData.depth]; omega⟩
theorem sh_lst {n : Nat} {ds : List D} (h : ∀ d ∈ ds, Sh n d) : Sh (n + 1) (.list ds) := by
  obtain ⟨a, b⟩ := sh_all h
  exact ⟨by simpa [PyData.canLay0] using a, by simp only [PyData.depth]; omega⟩
theorem oEq_of {a b : D} {n m : Nat} (h : Sh n a) (k : Sh m b) (hn : n ≤ 64 := by decide) (hm : m ≤ 64 := by decide) : oEq a b = some (.bool (PyData.eqv a b)) := by
  unfold oEq
  rw [if_pos ⟨h.ok hn, k.ok hm⟩]
theorem oNe_of {a b : D} {n m : Nat} (h : Sh n a) (k : Sh m b) (hn : n ≤ 64 := by decide) (hm : m ≤ 64 := by decide) : oNe a b = some (.bool (!PyData.eqv a b)) := by
  unfold oNe
  rw [if_pos ⟨h.ok hn, k.ok hm⟩]
mutual
theorem eqv_same : ∀ d : D, d.canLay0 = true → PyData.eqv d d = true
  | .none, _ => by simp only [PyData.eqv]
  | .bool k, _ => by simp only [PyData.eqv, beq_self_eq_true]
  | .int k, _ => by simp only [PyData.eqv, beq_self_eq_true]
  | .str s, _ => by simp [PyData.eqv]
  | .list xs, h => by simp only [PyData.eqv]; exact eqvs_same xs (by simpa [PyData.canLay0] using h)
  | .tuple xs, h => by simp only [PyData.eqv]; exact eqvs_same xs (by simpa [PyData.canLay0] using h)
  | .dict kvs, h => by simp [PyData.canLay0] at h
theorem eqvs_same : ∀ ds : List D, PyData.canLayAll0 ds = true → PyData.eqvAll ds ds = true
  | [], _ => by simp only [PyData.eqvAll]
  | d :: ds, h => by
    have h' : d.canLay0 = true ∧ PyData.canLayAll0 ds = true := by simpa [PyData.canLayAll0] using h
    simp only [PyData.eqvAll, eqv_same d h'.1, eqvs_same ds h'.2, Bool.and_self]
end
theorem oEq_same {a : D} {n : Nat} (h : Sh n a) (hn : n ≤ 64 := by decide) : oEq a a = some (.bool true) := by rw [oEq_of h h hn hn, eqv_same a h.lay]
theorem oNe_same {a : D} {n : Nat} (h : Sh n a) (hn : n ≤ 64 := by decide) : oNe a a = some (.bool false) := by rw [oNe_of h h hn hn, eqv_same a h.lay]; rfl
@[simp] theorem oEq_ii {i j : Int} : oEq (.int i) (.int j) = some (.bool (decide (i = j))) := by
  rw [oEq_of (n := 0) (m := 0) sh_int sh_int]
  simp only [PyData.eqv]
  congr 2
@[simp] theorem oNe_ii {i j : Int} : oNe (.int i) (.int j) = some (.bool (!decide (i = j))) := by
  rw [oNe_of (n := 0) (m := 0) sh_int sh_int]
  simp only [PyData.eqv]
  congr 2
end DL

/-! MD -/
namespace DL.Dr
open PySem L2
def b2_dr : Env → Out := (sIf (cTest (cOp oLt (cBt bLen (aCons (cBor 2) aNil)) (cBor 1))) (sSeq (sAsg 3 (asVal (cOp oMod (cBt bInt (aCons (cOp oAdd (cOp oAdd (cOp oMul1 (cBor 3) (cC (.int 69621))) (cBor 6)) (cC (.int 1))) aNil)) (cC (.int 2147483647)))))
  (sApp 2 (cOp oMod (cOp oDiv (cBt bInt (aCons (cBor 3) aNil)) (cC (.int 7))) (cC (.int 65521))))) sNx)
def b1_dr : Env → Out := (sIf (cTest (cOp oGt (cBor 5) (cC (.int 0)))) (sSeq (sApp 2 (cOp oMod (cBt bInt (aCons (cBor 5) aNil)) (cC (.int 1009))))
  (sAsg 5 (asVal (cOp oDiv (cBor 5) (cC (.int 1009)))))) sNx)
def b0_dr : Env → Out := (sSeq (sAsg 5 (asVal (cBt bAbs (aCons (cBor 4) aNil))))
  (sSeq (sAsg 3 (asVal (cOp oMod (cBt bInt (aCons (cOp oAdd (cOp oAdd (cOp oMul1 (cBor 3) (cC (.int 48271))) (cBor 5)) (cC (.int 11))) aNil)) (cC (.int 2147483647)))))
  (sIf (cTest (cOp oGe (cBor 5) (cOp oPow (cC (.int 10)) (cC (.int 18))))) (sFor (cIt range1D (aCons (cC (.int 60)) aNil)) (sName 6) b1_dr) (sApp 2 (cOp oMod (cOp oDiv (cBt bInt (aCons (cOp oAdd (cOp oMul1 (cBor 3) (cC (.int 16807))) (cC (.int 5))) aNil)) (cC (.int 3))) (cC (.int 65521)))))))
def c_dr : Env → Out := (sSeq (sAsg 2 (asOwn (cLst aNil)))
  (sSeq (sAsg 3 (asVal (cC (.int 7))))
  (sSeq (sFor (cItems (cSl (cBor 0) pNone (pSome (cC (.int 63))))) (sName 4) b0_dr)
  (sSeq (sFor (cIt range1D (aCons (cVar 1) aNil)) (sName 6) b2_dr)
  (sRet (cSl (cBor 2) pNone (pSome (cVar 1))))))))
def f_dr : List D → R D := semOf 7 2 c_dr
/-- draws: so many, each from 0 to less than 65521 -/
def InR (l : List Int) : Prop := ∀ d ∈ l, 0 ≤ d ∧ d < 65521
theorem InR.app {l : List Int} {x : Int} (h : InR l) (hx : 0 ≤ x ∧ x < 65521) : InR (l ++ [x]) := fun d hd => by
  rcases List.mem_append.mp hd with z | z
  · exact h d z
  · rw [List.mem_singleton.mp z]; exact hx
theorem pow18 : (10 : Int) ^ (18 : Int).toNat = 1000000000000000000 := by decide
theorem cpow18 : CPow 10 18 := by decide
theorem b1_ok (s m : D) (acc : List Int) (x3 x4 x6 : SV) (n : Int) (hn : 0 ≤ n) (hl : acc.length < 99999) : ∃ acc' n', b1_dr [.val s, .val m, .own (acc.map .int), x3, x4, .val (.int n), x6] = .nx [.val s, .val m, .own (acc'.map .int), x3, x4, .val (.int n'), x6] ∧
    0 ≤ n' ∧ acc'.length ≤ acc.length + 1 ∧ (InR acc → InR acc') := by
  by_cases h : 0 < n
  · refine ⟨acc ++ [n % 1009], n / 1009, ?_, by omega, by simp, fun q => q.app (by omega)⟩
    simp [b1_dr, h, hl, show acc.length < 100000 by omega, cdivw (i := n) (j := 1009) (by omega)]
  · refine ⟨acc, n, ?_, hn, by omega, id⟩
    simp [b1_dr, h]
theorem set_at {α : Type} (a b c d e f g x : α) : [a, b, c, d, e, f, g].set 6 x = [a, b, c, d, e, f, x] := rfl
/-- the inner loop -/
theorem loop1 (s m : D) (x3 x4 : SV) : ∀ (l : List D) (acc : List Int) (n : Int) (x6 : SV), 0 ≤ n → acc.length + l.length < 99999 → ∃ acc' n' x6', forLoop (sName 6) b1_dr l [.val s, .val m, .own (acc.map .int), x3, x4, .val (.int n), x6] =
    .nx [.val s, .val m, .own (acc'.map .int), x3, x4, .val (.int n'), x6'] ∧ acc'.length ≤ acc.length + l.length ∧ (InR acc → InR acc')
  | [], acc, n, x6, _, _ => ⟨acc, n, x6, rfl, by simp, id⟩
  | d :: l, acc, n, x6, hn, hl => by
    simp only [List.length_cons] at hl
    obtain ⟨a1, n1, e1, h1, h2, h3⟩ := b1_ok s m acc x3 x4 (.val d) n hn (by omega)
    obtain ⟨a2, n2, y, e2, h4, h5⟩ := loop1 s m x3 x4 l a1 n1 (.val d) h1 (by omega)
    refine ⟨a2, n2, y, ?_, by simp; omega, fun q => h5 (h3 q)⟩
    rw [for_cons rfl e1, e2]
theorem b0_ok (s m : D) (acc : List Int) (sd c : Int) (x5 x6 : SV) (hs : 0 ≤ sd ∧ sd < 2147483647) (hl : acc.length < 99900) : ∃ acc' sd' x5' x6', b0_dr [.val s, .val m, .own (acc.map .int), .val (.int sd), .val (.int c), x5, x6] =
    .nx [.val s, .val m, .own (acc'.map .int), .val (.int sd'), .val (.int c), x5', x6'] ∧ (0 ≤ sd' ∧ sd' < 2147483647) ∧ acc'.length ≤ acc.length + 60 ∧ (InR acc → InR acc') := by
  generalize hab : (if c < 0 then -c else c) = n
  have hn : 0 ≤ n := by split at hab <;> omega
  have hsd : 0 ≤ (sd * 48271 + n + 11) % 2147483647 ∧ (sd * 48271 + n + 11) % 2147483647 < 2147483647 := by omega
  generalize hs2 : (sd * 48271 + n + 11) % 2147483647 = s2 at hsd
  by_cases hb : 1000000000000000000 ≤ n
  · obtain ⟨a1, n1, y, e1, h1, h2⟩ := loop1 s m (.val (.int s2)) (.val (.int c)) (rangeD 0 60) acc n x6 hn (by rw [rangeD_len]; omega)
    refine ⟨a1, s2, .val (.int n1), y, ?_, hsd, by rw [rangeD_len] at h1; exact h1, h2⟩
    simp [b0_dr, hab, cmul_l (i := sd) (j := 48271) (by omega), hs2, cpow18, hb, e1]
  · refine ⟨acc ++ [(s2 * 16807 + 5) / 3 % 65521], s2, .val (.int n), x6, ?_, hsd, by simp, fun q => q.app (by omega)⟩
    simp [b0_dr, hab, cmul_l (i := sd) (j := 48271) (by omega), cmul_l (i := s2) (j := 16807) (by omega), hs2, cpow18, hb, show acc.length < 100000 by omega, cdivw (i := s2 * 16807 + 5) (j := 3) (by omega)]
theorem loop0 (s m : D) : ∀ (l : List Int) (acc : List Int) (sd : Int) (x4 x5 x6 : SV), (0 ≤ sd ∧ sd < 2147483647) → acc.length + 60 * l.length < 99900 → ∃ acc' sd' x4' x5' x6', forLoop (sName 4) b0_dr (l.map .int) [.val s, .val m, .own (acc.map .int), .val (.int sd), x4, x5, x6] =
    .nx [.val s, .val m, .own (acc'.map .int), .val (.int sd'), x4', x5', x6'] ∧ (0 ≤ sd' ∧ sd' < 2147483647) ∧ acc'.length ≤ acc.length + 60 * l.length ∧ (InR acc → InR acc')
  | [], acc, sd, x4, x5, x6, hs, _ => ⟨acc, sd, x4, x5, x6, rfl, hs, by simp, id⟩
  | c :: l, acc, sd, x4, x5, x6, hs, hl => by
    simp only [List.length_cons] at hl
    obtain ⟨a1, s1, y5, y6, e1, h1, h2, h3⟩ := b0_ok s m acc sd c x5 x6 hs (by omega)
    obtain ⟨a2, s2, z4, z5, z6, e2, h4, h5, h6⟩ := loop0 s m l a1 s1 (.val (.int c)) y5 y6 h1 (by omega)
    refine ⟨a2, s2, z4, z5, z6, ?_, h4, by simp; omega, fun q => h6 (h3 q)⟩
    rw [List.map_cons, for_cons rfl e1, e2]
theorem b2_ok (s : D) (m : Int) (acc : List Int) (sd k : Int) (x4 x5 : SV) (hs : 0 ≤ sd ∧ sd < 2147483647) (hk : 0 ≤ k) (hl : acc.length < 99900) : ∃ acc' sd', b2_dr [.val s, .val (.int m), .own (acc.map .int), .val (.int sd), x4, x5, .val (.int k)] =
    .nx [.val s, .val (.int m), .own (acc'.map .int), .val (.int sd'), x4, x5, .val (.int k)] ∧ (0 ≤ sd' ∧ sd' < 2147483647) ∧ acc'.length ≤ acc.length + 1 ∧ ((acc.length : Int) < m → acc'.length = acc.length + 1) ∧ (m ≤ acc.length → acc' = acc) ∧ (InR acc → InR acc') := by
  have hsd : 0 ≤ (sd * 69621 + k + 1) % 2147483647 ∧ (sd * 69621 + k + 1) % 2147483647 < 2147483647 := by omega
  generalize hs2 : (sd * 69621 + k + 1) % 2147483647 = s2 at hsd
  by_cases hb : (acc.length : Int) < m
  · refine ⟨acc ++ [s2 / 7 % 65521], s2, ?_, hsd, by simp, fun _ => by simp, fun _ => by omega, fun q => q.app (by omega)⟩
    simp [b2_dr, hb, cmul_l (i := sd) (j := 69621) (by omega), hs2, show acc.length < 100000 by omega, cdivw (i := s2) (j := 7) (by omega)]
  · refine ⟨acc, sd, ?_, hs, by omega, fun q => absurd q hb, fun _ => rfl, id⟩
    simp [b2_dr, hb]
theorem loop2 (s : D) (m : Int) (x4 x5 : SV) : ∀ (l : List Nat) (acc : List Int) (sd : Int) (x6 : SV), (0 ≤ sd ∧ sd < 2147483647) → acc.length + l.length < 99900 → ∃ acc' sd' x6', forLoop (sName 6) b2_dr (l.map fun i => .int (0 + (i : Nat))) [.val s, .val (.int m), .own (acc.map .int), .val (.int sd), x4, x5, x6] =
    .nx [.val s, .val (.int m), .own (acc'.map .int), .val (.int sd'), x4, x5, x6'] ∧ (m ≤ acc.length + l.length → m ≤ acc'.length) ∧ acc'.length ≤ acc.length + l.length ∧ (InR acc → InR acc')
  | [], acc, sd, x6, hs, _ => ⟨acc, sd, x6, rfl, by simp, by simp, id⟩
  | c :: l, acc, sd, x6, hs, hl => by
    simp only [List.length_cons] at hl
    obtain ⟨a1, s1, e1, h1, h2, h3, h3', h4⟩ := b2_ok s m acc sd (0 + (c : Nat)) x4 x5 hs (by omega) (by omega)
    obtain ⟨a2, s2, z6, e2, h5, h6, h7⟩ := loop2 s m x4 x5 l a1 s1 (.val (.int (0 + (c : Nat)))) h1 (by omega)
    refine ⟨a2, s2, z6, ?_, ?_, by simp; omega, fun q => h7 (h4 q)⟩
    · rw [List.map_cons, for_cons rfl e1, e2]
    · intro q
      simp only [List.length_cons] at q
      by_cases hb : (acc.length : Int) < m
      · exact h5 (by have := h3 hb; omega)
      · have := h3' (by omega)
        subst this
        exact h5 (by omega)
theorem cut_most {α : Type} (l : List α) (n : Nat) : cut l none (some (n : Int)) = l.take n := by
  unfold cut
  rw [HT.sIx_none, HT.sIx_nat, List.drop_zero, Nat.sub_zero]
  rcases Nat.le_total n l.length with h | h
  · rw [Nat.min_eq_left h]
  · rw [Nat.min_eq_right h, List.take_of_length_le h, List.take_length]
theorem oSl_scr (ns : List Int) (l u : Option Int) : oSl (scrD ns) l u = some (.list (cut (ns.map PyData.int) l u)) := by
  have g : isScr (ns.map fun n => (PyData.int n, PyData.none)) = true := by cases ns <;> rfl
  show (if isScr (ns.map fun n => (PyData.int n, PyData.none)) = true then some (PyData.list (cut ((ns.map fun n => (PyData.int n, PyData.none)).map (fun p => p.1)) l u)) else none) = _
  rw [if_pos g, fst_ints]
/-- the draws of a script -/
theorem draws (ns : List Int) (h : ns.length ≤ 63) (m : Nat) (hm : m ≤ 1000) : ∃ ds : List Int, f_dr [scrD ns, .int m] = .ok (.list (ds.map .int)) ∧ ds.length = m ∧ InR ds := by
  obtain ⟨a1, s1, y4, y5, y6, e1, h1, h2, h3⟩ := loop0 (scrD ns) (.int m) ((ns.take 63)) [] 7 .no .no .no (by omega) (by simp; omega)
  obtain ⟨a2, s2, y6', e2, h4, h5, h6⟩ := loop2 (scrD ns) m y4 y5 (List.range m) a1 s1 y6 h1 (by simp at h2 ⊢; omega)
  have hlen : m ≤ a2.length := by simp at h4; omega
  refine ⟨a2.take m, ?_, by simp; omega, fun d hd => h6 (h3 fun _ z => by cases z) d (List.mem_of_mem_take hd)⟩
  have e1' : forLoop (sName 4) b0_dr (List.take 63 (ns.map PyData.int)) [.val (scrD ns), .val (.int (m : Int)), .own [], .val (.int 7), .no, .no, .no] = .nx [.val (scrD ns), .val (.int (m : Int)), .own (a1.map .int), .val (.int s1), y4, y5, y6] := by
    rw [← List.map_take]; exact e1
  have e2' : forLoop (sName 6) b2_dr (rangeD 0 m) [.val (scrD ns), .val (.int (m : Int)), .own (a1.map .int), .val (.int s1), y4, y5, y6] = .nx [.val (scrD ns), .val (.int (m : Int)), .own (a2.map .int), .val (.int s2), y4, y5, y6'] := e2
  have st : f_dr [scrD ns, .int m] = toR (c_dr [.val (scrD ns), .val (.int m), .no, .no, .no, .no, .no]) := rfl
  rw [st]
  have q1 : cut (ns.map PyData.int) none (some 63) = List.take 63 (ns.map PyData.int) := cut_most _ 63
  have q2 : cut (a2.map PyData.int) none (some (m : Int)) = (a2.map PyData.int).take m := cut_most _ m
  simp [c_dr, oSl_scr, q1, e1', show (-1000000 < (m : Int) ∧ (m : Int) < 1000000) by omega, e2', q2]
end DL.Dr

/-! MQ -/
namespace DL.Q
open PySem
/-! ### quotients in lowest terms -/
structure Low (x y : Int) : Prop where
  pos : 0 < y
  cop : x.gcd y = 1
theorem low_unique {x y u v : Int} (h : Low x y) (k : Low u v) (e : x * v = u * y) : x = u ∧ y = v := by
  have e' : x.natAbs * v.natAbs = u.natAbs * y.natAbs := by rw [← Int.natAbs_mul, ← Int.natAbs_mul, e]
  have hc : Nat.Coprime x.natAbs y.natAbs := h.cop
  have kc : Nat.Coprime u.natAbs v.natAbs := k.cop
  have d1 : y.natAbs ∣ v.natAbs := Nat.Coprime.dvd_of_dvd_mul_left hc.symm (show y.natAbs ∣ x.natAbs * v.natAbs from e' ▸ Nat.dvd_mul_left _ _)
  have d2 : v.natAbs ∣ y.natAbs := Nat.Coprime.dvd_of_dvd_mul_left kc.symm (show v.natAbs ∣ u.natAbs * y.natAbs from e' ▸ Nat.dvd_mul_left _ _)
  have ev : y.natAbs = v.natAbs := Nat.dvd_antisymm d1 d2
  have h1 := h.pos
  have h2 := k.pos
  have yv : y = v := by omega
  subst yv
  exact ⟨Int.eq_of_mul_eq_mul_right (by omega) e, rfl⟩
/-- the quotient up / down in lowest terms -/
def num (p q : Int) : Int := if 0 < q then p / p.gcd q else 0 - p / p.gcd q
def den (p q : Int) : Int := if 0 < q then q / p.gcd q else 0 - q / p.gcd q
theorem gcd_facts {p q : Int} (hq : q ≠ 0) : ∃ a b : Int, p = a * (p.gcd q : Int) ∧ q = b * (p.gcd q : Int) ∧ a.gcd b = 1 ∧ 0 < (p.gcd q : Int) ∧ p / (p.gcd q : Int) = a ∧ q / (p.gcd q : Int) = b := by
  have g0 : 0 < p.gcd q := Int.gcd_pos_of_ne_zero_right p hq
  have g0' : 0 < (p.gcd q : Int) := by omega
  refine ⟨p / (p.gcd q : Int), q / (p.gcd q : Int), (Int.ediv_mul_cancel (Int.gcd_dvd_left p q)).symm, (Int.ediv_mul_cancel (Int.gcd_dvd_right p q)).symm, ?_, g0', rfl, rfl⟩
  have c := Nat.coprime_div_gcd_div_gcd (m := p.natAbs) (n := q.natAbs) g0
  have e1 : (p / (p.gcd q : Int)).natAbs = p.natAbs / p.natAbs.gcd q.natAbs := by
    rw [Int.natAbs_ediv_of_dvd (Int.gcd_dvd_left p q)]; rfl
  have e2 : (q / (p.gcd q : Int)).natAbs = q.natAbs / p.natAbs.gcd q.natAbs := by
    rw [Int.natAbs_ediv_of_dvd (Int.gcd_dvd_right p q)]; rfl
  show (p / (p.gcd q : Int)).natAbs.gcd (q / (p.gcd q : Int)).natAbs = 1
  rw [e1, e2]
  exact c
theorem low_num {p q : Int} (hq : q ≠ 0) : Low (num p q) (den p q) ∧ num p q * q = p * den p q := by
  obtain ⟨a, b, ha, hb, hc, hg, ea, eb⟩ := gcd_facts (p := p) hq
  unfold num den
  rw [ea, eb]
  generalize (p.gcd q : Int) = g at *
  have pq : a * q = p * b := by rw [ha, hb]; simp only [Int.mul_assoc, Int.mul_comm, Int.mul_left_comm]
  by_cases h : 0 < q
  · rw [if_pos h, if_pos h]
    refine ⟨⟨?_, hc⟩, pq⟩
    rw [hb] at h
    exact Int.pos_of_mul_pos_left h hg
  · rw [if_neg h, if_neg h]
    refine ⟨⟨?_, ?_⟩, ?_⟩
    · have h' : 0 < -q := by omega
      have e : -q = (-b) * g := by rw [hb]; simp [Int.neg_mul]
      rw [e] at h'
      have := Int.pos_of_mul_pos_left h' hg
      omega
    · have e1 : (0 - a).gcd (0 - b) = a.gcd b := by simp
      rw [e1]; exact hc
    · rw [show (0 - a) * q = -(a * q) by simp [Int.neg_mul], show p * (0 - b) = -(p * b) by rw [Int.zero_sub, Int.mul_neg], pq]
/-- the data of a quotient -/
def fr (p q : Int) : D := .tuple [.int (num p q), .int (den p q)]
theorem num_eq {p q r s : Int} (hq : q ≠ 0) (hs : s ≠ 0) (e : p * s = r * q) : num p q = num r s ∧ den p q = den r s := by
  obtain ⟨l1, c1⟩ := low_num (p := p) hq
  obtain ⟨l2, c2⟩ := low_num (p := r) hs
  refine low_unique l1 l2 ?_
  -- n1 * q = p * d1, n2 * s = r * d2
  have : (num p q * den r s) * (q * s) = (num r s * den p q) * (q * s) := by
    calc (num p q * den r s) * (q * s) = (num p q * q) * (den r s * s) := by simp only [Int.mul_assoc, Int.mul_comm, Int.mul_left_comm]
      _ = (p * den p q) * (den r s * s) := by rw [c1]
      _ = (p * s) * (den p q * den r s) := by simp only [Int.mul_assoc, Int.mul_comm, Int.mul_left_comm]
      _ = (r * q) * (den p q * den r s) := by rw [e]
      _ = (r * den r s) * (den p q * q) := by simp only [Int.mul_assoc, Int.mul_comm, Int.mul_left_comm]
      _ = (num r s * s) * (den p q * q) := by rw [c2]
      _ = (num r s * den p q) * (q * s) := by simp only [Int.mul_assoc, Int.mul_comm, Int.mul_left_comm]
  exact Int.eq_of_mul_eq_mul_right (Int.mul_ne_zero hq hs) this
theorem fr_eq {p q r s : Int} (hq : q ≠ 0) (hs : s ≠ 0) (e : p * s = r * q) : fr p q = fr r s := by
  unfold fr
  obtain ⟨e1, e2⟩ := num_eq hq hs e
  rw [e1, e2]
theorem num_iff {p q r s : Int} (hq : q ≠ 0) (hs : s ≠ 0) (h1 : num p q = num r s) (h2 : den p q = den r s) : p * s = r * q := by
  obtain ⟨l1, c1⟩ := low_num (p := p) hq
  obtain ⟨l2, c2⟩ := low_num (p := r) hs
  have d := l1.pos
  rw [h1, h2] at c1
  rw [h2] at d
  have : (p * s) * den r s = (r * q) * den r s := by
    calc (p * s) * den r s = (p * den r s) * s := by simp only [Int.mul_assoc, Int.mul_comm, Int.mul_left_comm]
      _ = (num r s * q) * s := by rw [c1]
      _ = (num r s * s) * q := by simp only [Int.mul_assoc, Int.mul_comm, Int.mul_left_comm]
      _ = (r * den r s) * q := by rw [c2]
      _ = (r * q) * den r s := by simp only [Int.mul_assoc, Int.mul_comm, Int.mul_left_comm]
  exact Int.eq_of_mul_eq_mul_right (by omega) this
/-- what is in lowest terms stays -/
theorem num_low {x y : Int} (h : Low x y) : num x y = x ∧ den x y = y := by
  have := h.pos
  unfold num den
  rw [if_pos this, if_pos this, h.cop]
  simp
theorem fr_low {x y : Int} (h : Low x y) : fr x y = .tuple [.int x, .int y] := by
  unfold fr
  obtain ⟨a, b⟩ := num_low h
  rw [a, b]
/-- sizes -/
theorem num_le {p q : Int} (hq : 0 < q) (hp : 0 < p) : 0 < num p q ∧ num p q ≤ p ∧ 0 < den p q ∧ den p q ≤ q := by
  obtain ⟨a, b, ha, hb, hc, hg, ea, eb⟩ := gcd_facts (p := p) (q := q) (by omega)
  unfold num den
  rw [if_pos hq, if_pos hq, ea, eb]
  generalize (p.gcd q : Int) = g at *
  have a0 : 0 < a := Int.pos_of_mul_pos_left (by rw [← ha]; exact hp) hg
  have b0 : 0 < b := Int.pos_of_mul_pos_left (by rw [← hb]; exact hq) hg
  have one : ∀ z : Int, 0 < z → z ≤ z * g := fun z hz => by
    have := Int.mul_le_mul_of_nonneg_left (show (1 : Int) ≤ g by omega) (show 0 ≤ z by omega)
    omega
  exact ⟨a0, by have := one a a0; omega, b0, by have := one b b0; omega⟩
theorem num_abs {p q : Int} (hq : q ≠ 0) : (num p q).natAbs ≤ p.natAbs ∧ (den p q).natAbs ≤ q.natAbs := by
  obtain ⟨a, b, ha, hb, hc, hg, ea, eb⟩ := gcd_facts (p := p) (q := q) hq
  unfold num den
  rw [ea, eb]
  generalize (p.gcd q : Int) = g at *
  have one : ∀ z : Int, z.natAbs ≤ (z * g).natAbs := fun z => by
    rw [Int.natAbs_mul]
    exact Nat.le_mul_of_pos_right _ (by omega)
  have h1 := one a
  have h2 := one b
  rw [← ha] at h1
  rw [← hb] at h2
  split <;> omega
/-- small enough for products -/
structure Sm (p q : Int) : Prop where
  q0 : 0 < q
  n : (num p q).natAbs < 2147483648
  d : (den p q).natAbs < 2147483648
theorem sm {p q : Int} (hq : 0 < q) (h1 : p.natAbs < 2147483648) (h2 : q < 2147483648) : Sm p q := by
  obtain ⟨a, b⟩ := num_abs (p := p) (q := q) (by omega)
  exact ⟨hq, by omega, by omega⟩
theorem Sm.c {p q : Int} (h : Sm p q) : num p q * q = p * den p q ∧ 0 < den p q := by
  obtain ⟨l, c⟩ := low_num (p := p) (q := q) (by have := h.q0; omega)
  exact ⟨c, l.pos⟩
theorem mul_lt {a b : Int} (ha : a.natAbs < 2147483648) (hb : b.natAbs < 2147483648) : (a * b).natAbs < 4611686018427387905 := by
  rw [Int.natAbs_mul]
  exact Nat.lt_of_le_of_lt (Nat.mul_le_mul (Nat.le_of_lt_succ (show a.natAbs < 2147483648 from ha)) (Nat.le_of_lt_succ (show b.natAbs < 2147483648 from hb))) (by decide)
theorem sm_cm {a b : Int} (ha : a.natAbs < 2147483648) : L2.CMul a b := cmul_l (by omega)
theorem x_mul {a b c d : Int} (h : Sm a b) (k : Sm c d) : fr (num a b * num c d) (den a b * den c d) = fr (a * c) (b * d) ∧ 0 < den a b * den c d ∧ (den a b * den c d).natAbs < 9000000000000000000 := by
  obtain ⟨c1, p1⟩ := h.c
  obtain ⟨c2, p2⟩ := k.c
  have hp := Int.mul_pos p1 p2
  have hb := Int.mul_pos h.q0 k.q0
  refine ⟨fr_eq (by omega) (by omega) ?_, hp, by have := mul_lt h.d k.d; omega⟩
  calc num a b * num c d * (b * d) = (num a b * b) * (num c d * d) := by simp only [Int.mul_assoc, Int.mul_comm, Int.mul_left_comm]
    _ = (a * den a b) * (c * den c d) := by rw [c1, c2]
    _ = a * c * (den a b * den c d) := by simp only [Int.mul_assoc, Int.mul_comm, Int.mul_left_comm]
theorem x_div {a b c d : Int} (h : Sm a b) (k : Sm c d) (hc : 0 < c) : fr (num a b * den c d) (den a b * num c d) = fr (a * d) (b * c) ∧ 0 < den a b * num c d ∧ (den a b * num c d).natAbs < 9000000000000000000 := by
  obtain ⟨c1, p1⟩ := h.c
  obtain ⟨c2, p2⟩ := k.c
  have p3 : 0 < num c d := by
    have : 0 < num c d * d := by rw [c2]; exact Int.mul_pos hc p2
    exact Int.pos_of_mul_pos_left this k.q0
  have hp := Int.mul_pos p1 p3
  have hb := Int.mul_pos h.q0 hc
  refine ⟨fr_eq (by omega) (by omega) ?_, hp, by have := mul_lt h.d k.n; omega⟩
  calc num a b * den c d * (b * c) = (num a b * b) * (c * den c d) := by simp only [Int.mul_assoc, Int.mul_comm, Int.mul_left_comm]
    _ = (a * den a b) * (num c d * d) := by rw [c1, c2]
    _ = a * d * (den a b * num c d) := by simp only [Int.mul_assoc, Int.mul_comm, Int.mul_left_comm]
theorem x_add {a b c d : Int} (h : Sm a b) (k : Sm c d) : fr (num a b * den c d + num c d * den a b) (den a b * den c d) = fr (a * d + c * b) (b * d) ∧ 0 < den a b * den c d ∧ (den a b * den c d).natAbs < 9000000000000000000 := by
  obtain ⟨c1, p1⟩ := h.c
  obtain ⟨c2, p2⟩ := k.c
  have hp := Int.mul_pos p1 p2
  have hb := Int.mul_pos h.q0 k.q0
  refine ⟨fr_eq (by omega) (by omega) ?_, hp, by have := mul_lt h.d k.d; omega⟩
  calc (num a b * den c d + num c d * den a b) * (b * d) = (num a b * b) * (den c d * d) + (num c d * d) * (den a b * b) := by (simp only [Int.add_mul, Int.mul_add, Int.mul_assoc, Int.mul_comm, Int.mul_left_comm])
    _ = (a * den a b) * (den c d * d) + (c * den c d) * (den a b * b) := by rw [c1, c2]
    _ = (a * d + c * b) * (den a b * den c d) := by (simp only [Int.add_mul, Int.mul_add, Int.mul_assoc, Int.mul_comm, Int.mul_left_comm])
theorem x_sub {a b c d : Int} (h : Sm a b) (k : Sm c d) : fr (num a b * den c d - num c d * den a b) (den a b * den c d) = fr (a * d - c * b) (b * d) ∧ 0 < den a b * den c d ∧ (den a b * den c d).natAbs < 9000000000000000000 := by
  obtain ⟨c1, p1⟩ := h.c
  obtain ⟨c2, p2⟩ := k.c
  have hp := Int.mul_pos p1 p2
  have hb := Int.mul_pos h.q0 k.q0
  refine ⟨fr_eq (by omega) (by omega) ?_, hp, by have := mul_lt h.d k.d; omega⟩
  calc (num a b * den c d - num c d * den a b) * (b * d) = (num a b * b) * (den c d * d) - (num c d * d) * (den a b * b) := by (simp only [Int.sub_mul, Int.mul_sub, Int.mul_assoc, Int.mul_comm, Int.mul_left_comm])
    _ = (a * den a b) * (den c d * d) - (c * den c d) * (den a b * b) := by rw [c1, c2]
    _ = (a * d - c * b) * (den a b * den c d) := by (simp only [Int.sub_mul, Int.mul_sub, Int.mul_assoc, Int.mul_comm, Int.mul_left_comm])
/-- which of two is less -/
theorem x_lt {a b c d : Int} (h : Sm a b) (k : Sm c d) : num a b * den c d < num c d * den a b ↔ a * d < c * b := by
  obtain ⟨c1, p1⟩ := h.c
  obtain ⟨c2, p2⟩ := k.c
  have hp := Int.mul_pos p1 p2
  have hb := Int.mul_pos h.q0 k.q0
  have e1 : (num a b * den c d) * (b * d) = (a * d) * (den a b * den c d) := by
    calc (num a b * den c d) * (b * d) = (num a b * b) * (den c d * d) := by simp only [Int.mul_assoc, Int.mul_comm, Int.mul_left_comm]
      _ = (a * den a b) * (den c d * d) := by rw [c1]
      _ = (a * d) * (den a b * den c d) := by simp only [Int.mul_assoc, Int.mul_comm, Int.mul_left_comm]
  have e2 : (num c d * den a b) * (b * d) = (c * b) * (den a b * den c d) := by
    calc (num c d * den a b) * (b * d) = (num c d * d) * (den a b * b) := by simp only [Int.mul_assoc, Int.mul_comm, Int.mul_left_comm]
      _ = (c * den c d) * (den a b * b) := by rw [c2]
      _ = (c * b) * (den a b * den c d) := by simp only [Int.mul_assoc, Int.mul_comm, Int.mul_left_comm]
  constructor
  · intro q
    have := Int.mul_lt_mul_of_pos_right q hb
    rw [e1, e2] at this
    exact Int.lt_of_mul_lt_mul_right this (Int.le_of_lt hp)
  · intro q
    have := Int.mul_lt_mul_of_pos_right q hp
    rw [← e1, ← e2] at this
    exact Int.lt_of_mul_lt_mul_right this (Int.le_of_lt hb)
/-! the loop of Euclid -/
theorem euclid {t : Env → R Bool} {b : Env → Out} {E : Nat → Nat → Env} (ht : ∀ x y, t (E x y) = .ok (decide (0 < y))) (hb : ∀ x y, 0 < y → b (E x y) = .nx (E y (x % y))) : ∀ (n : Nat) (x y : Nat), y < n → whileLoop t b n (E x y) = .nx (E (Nat.gcd x y) 0)
  | 0, x, y, h => by omega
  | n + 1, x, y, h => by
    by_cases hy : 0 < y
    · rw [while_go (by rw [ht, decide_eq_true hy]) (hb x y hy)]
      have := Nat.mod_lt x hy
      rw [euclid ht hb n y (x % y) (by omega), Nat.gcd_comm x y, Nat.gcd_rec y x]
      rw [Nat.gcd_comm]
    · have : y = 0 := by omega
      subst this
      rw [while_stop (by rw [ht]; rfl), Nat.gcd_zero_right]
end DL.Q

/-! MR -/
namespace DL.Q
open PySem L2
def c_is_whole : Env → Out := (sRet (cAndV (cIs isIntD (cBor 0)) (cAndV (cNotV (cIs isBoolD (cBor 0))) (cChain oLe oLe (cBor 1) (cBor 0) (cBor 2)))))
def f_is_whole : List D → R D := semOf 3 3 c_is_whole
def b0_divisor : Env → Out := (sPar 0 1 (asVal (cVar 1)) (asVal (cOp oMod (cBor 0) (cBor 1))))
def c_divisor : Env → Out := (sSeq (sPar 0 1 (asVal (cBt bAbs (aCons (cBor 0) aNil))) (asVal (cBt bAbs (aCons (cBor 1) aNil))))
  (sSeq (sWhile (cTest (cOp oGt (cBor 1) (cC (.int 0)))) b0_divisor)
  (sRet (cVar 0))))
def f_divisor : List D → R D := semOf 2 2 c_divisor
def c_ratio : Env → Out := (sSeq (sAsg 2 (asVal (cCall f_divisor (aCons (cVar 0) (aCons (cVar 1) aNil)))))
  (sRet (cIf (cTest (cOp oGt (cBor 1) (cC (.int 0)))) (cTup (aCons (cOp oDiv (cBor 0) (cBor 2)) (aCons (cOp oDiv (cBor 1) (cBor 2)) aNil))) (cTup (aCons (cOp oSub (cC (.int 0)) (cOp oDiv (cBor 0) (cBor 2))) (aCons (cOp oSub (cC (.int 0)) (cOp oDiv (cBor 1) (cBor 2))) aNil))))))
def f_ratio : List D → R D := semOf 3 2 c_ratio
def c_plus : Env → Out := (sRet (cCall f_ratio (aCons (cOp oAdd (cOp oMul1 (cOp oIxA (cBor 0) (cC (.int 0))) (cOp oIxA (cBor 1) (cC (.int 1)))) (cOp oMul1 (cOp oIxA (cBor 1) (cC (.int 0))) (cOp oIxA (cBor 0) (cC (.int 1))))) (aCons (cOp oMul1 (cOp oIxA (cBor 0) (cC (.int 1))) (cOp oIxA (cBor 1) (cC (.int 1)))) aNil))))
def f_plus : List D → R D := semOf 2 2 c_plus
def c_minus : Env → Out := (sRet (cCall f_ratio (aCons (cOp oSub (cOp oMul1 (cOp oIxA (cBor 0) (cC (.int 0))) (cOp oIxA (cBor 1) (cC (.int 1)))) (cOp oMul1 (cOp oIxA (cBor 1) (cC (.int 0))) (cOp oIxA (cBor 0) (cC (.int 1))))) (aCons (cOp oMul1 (cOp oIxA (cBor 0) (cC (.int 1))) (cOp oIxA (cBor 1) (cC (.int 1)))) aNil))))
def f_minus : List D → R D := semOf 2 2 c_minus
def c_times : Env → Out := (sRet (cCall f_ratio (aCons (cOp oMul1 (cOp oIxA (cBor 0) (cC (.int 0))) (cOp oIxA (cBor 1) (cC (.int 0)))) (aCons (cOp oMul1 (cOp oIxA (cBor 0) (cC (.int 1))) (cOp oIxA (cBor 1) (cC (.int 1)))) aNil))))
def f_times : List D → R D := semOf 2 2 c_times
def c_over : Env → Out := (sRet (cCall f_ratio (aCons (cOp oMul1 (cOp oIxA (cBor 0) (cC (.int 0))) (cOp oIxA (cBor 1) (cC (.int 1)))) (aCons (cOp oMul1 (cOp oIxA (cBor 0) (cC (.int 1))) (cOp oIxA (cBor 1) (cC (.int 0)))) aNil))))
def f_over : List D → R D := semOf 2 2 c_over
def c_is_less : Env → Out := (sRet (cOp oLt (cOp oMul1 (cOp oIxA (cBor 0) (cC (.int 0))) (cOp oIxA (cBor 1) (cC (.int 1)))) (cOp oMul1 (cOp oIxA (cBor 1) (cC (.int 0))) (cOp oIxA (cBor 0) (cC (.int 1))))))
def f_is_less : List D → R D := semOf 2 2 c_is_less
def c_is_ratio : Env → Out := (sSeq (sIf (cOr (cNot (cTest (cIs isTupleD (cBor 0)))) (cTest (cOp oNe (cBt bLen (aCons (cBor 0) aNil)) (cC (.int 2))))) (sRet (cC (.bool false))) sNx)
  (sSeq (sIf (cNot (cTest (cBt bAll (aCons (asList (cLc (cItems (cBor 0)) (sName 1) cYes (cAndV (cIs isIntD (cBor 1)) (cNotV (cIs isBoolD (cBor 1)))) [1])) aNil)))) (sRet (cC (.bool false))) sNx)
  (sRet (cAndV (cOp oGt (cOp oIxA (cBor 0) (cC (.int 1))) (cC (.int 0))) (cOp oEq (cCall f_divisor (aCons (cOp oIxA (cBor 0) (cC (.int 0))) (aCons (cOp oIxA (cBor 0) (cC (.int 1))) aNil))) (cC (.int 1)))))))
def f_is_ratio : List D → R D := semOf 2 1 c_is_ratio
def c_is_small : Env → Out := (sRet (cAndV (cCall f_is_ratio (aCons (cVar 0) aNil)) (cAndV (cCall f_is_whole (aCons (cOp oIxA (cBor 0) (cC (.int 0))) (aCons (cOp oSub (cC (.int 0)) (cC (.int 1000000))) (aCons (cC (.int 1000000)) aNil)))) (cOp oLe (cOp oIxA (cBor 0) (cC (.int 1))) (cC (.int 1000000))))))
def f_is_small : List D → R D := semOf 1 1 c_is_small
def b0__law_plain : Env → Out := (sPar 2 3 (asVal (cVar 3)) (asVal (cOp oMod (cBt bInt (aCons (cBor 2) aNil)) (cBor 3))))
def c__law_plain : Env → Out := (sSeq (sPar 2 3 (asVal (cBt bMax2 (aCons (cBor 0) (aCons (cOp oSub (cC (.int 0)) (cBor 0)) aNil)))) (asVal (cBt bMax2 (aCons (cBor 1) (aCons (cOp oSub (cC (.int 0)) (cBor 1)) aNil)))))
  (sSeq (sWhile (cTest (cOp oGt (cBor 3) (cC (.int 0)))) b0__law_plain)
  (sRet (cIf (cTest (cOp oGt (cBor 1) (cC (.int 0)))) (cTup (aCons (cOp oDiv (cBor 0) (cBor 2)) (aCons (cOp oDiv (cBor 1) (cBor 2)) aNil))) (cTup (aCons (cOp oSub (cC (.int 0)) (cOp oDiv (cBor 0) (cBor 2))) (aCons (cOp oSub (cC (.int 0)) (cOp oDiv (cBor 1) (cBor 2))) aNil)))))))
def f__law_plain : List D → R D := semOf 4 2 c__law_plain
def c__law_plus : Env → Out := (sRet (cCall f__law_plain (aCons (cOp oAdd (cOp oMul1 (cOp oIxA (cBor 0) (cC (.int 0))) (cOp oIxA (cBor 1) (cC (.int 1)))) (cOp oMul1 (cOp oIxA (cBor 1) (cC (.int 0))) (cOp oIxA (cBor 0) (cC (.int 1))))) (aCons (cOp oMul1 (cOp oIxA (cBor 0) (cC (.int 1))) (cOp oIxA (cBor 1) (cC (.int 1)))) aNil))))
def f__law_plus : List D → R D := semOf 2 2 c__law_plus
def c__law_minus : Env → Out := (sRet (cCall f__law_plain (aCons (cOp oSub (cOp oMul1 (cOp oIxA (cBor 0) (cC (.int 0))) (cOp oIxA (cBor 1) (cC (.int 1)))) (cOp oMul1 (cOp oIxA (cBor 1) (cC (.int 0))) (cOp oIxA (cBor 0) (cC (.int 1))))) (aCons (cOp oMul1 (cOp oIxA (cBor 0) (cC (.int 1))) (cOp oIxA (cBor 1) (cC (.int 1)))) aNil))))
def f__law_minus : List D → R D := semOf 2 2 c__law_minus
def c__law_by : Env → Out := (sRet (cCall f__law_plain (aCons (cOp oMul1 (cOp oIxA (cBor 0) (cC (.int 0))) (cOp oIxA (cBor 1) (cC (.int 0)))) (aCons (cOp oMul1 (cOp oIxA (cBor 0) (cC (.int 1))) (cOp oIxA (cBor 1) (cC (.int 1)))) aNil))))
def f__law_by : List D → R D := semOf 2 2 c__law_by
def c__law_over : Env → Out := (sRet (cCall f__law_plain (aCons (cOp oMul1 (cOp oIxA (cBor 0) (cC (.int 0))) (cOp oIxA (cBor 1) (cC (.int 1)))) (aCons (cOp oMul1 (cOp oIxA (cBor 0) (cC (.int 1))) (cOp oIxA (cBor 1) (cC (.int 0)))) aNil))))
def f__law_over : List D → R D := semOf 2 2 c__law_over
def c__law_less : Env → Out := (sRet (cOp oLt (cOp oMul1 (cOp oIxA (cBor 0) (cC (.int 0))) (cOp oIxA (cBor 1) (cC (.int 1)))) (cOp oMul1 (cOp oIxA (cBor 1) (cC (.int 0))) (cOp oIxA (cBor 0) (cC (.int 1))))))
def f__law_less : List D → R D := semOf 2 2 c__law_less
def c_ascends : Env → Out := (sRet (cBt bAll (aCons (asList (cLc (cIt zip2D (aCons (cBor 0) (aCons (cSl (cBor 0) (pSome (cC (.int 1))) pNone) aNil))) (sTup (sCons (sName 1) (sCons (sName 2) sNil))) cYes (cOp oLt (cBor 1) (cBor 2)) [1, 2])) aNil)))
def f_ascends : List D → R D := semOf 3 1 c_ascends
def c_is_post : Env → Out := (sSeq (sIf (cOr (cNot (cTest (cIs isTupleD (cBor 0)))) (cTest (cOp oNe (cBt bLen (aCons (cBor 0) aNil)) (cC (.int 2))))) (sRet (cC (.bool false))) sNx)
  (sRet (cAndV (cCall f_is_whole (aCons (cOp oIxA (cBor 0) (cC (.int 0))) (aCons (cC (.int 0)) (aCons (cC (.int 1000)) aNil)))) (cCall f_is_whole (aCons (cOp oIxA (cBor 0) (cC (.int 1))) (aCons (cC (.int 1)) (aCons (cC (.int 1000)) aNil)))))))
def f_is_post : List D → R D := semOf 1 1 c_is_post
def c_are_posts : Env → Out := (sSeq (sIf (cOr (cNot (cTest (cIs isTupleD (cBor 0)))) (cOr (cNot (cTest (cChain oLe oLe (cC (.int 1)) (cBt bLen (aCons (cBor 0) aNil)) (cC (.int 8))))) (cNot (cTest (cBt bAll (aCons (asList (cLc (cItems (cBor 0)) (sName 1) cYes (cCall f_is_post (aCons (cVar 1) aNil)) [1])) aNil)))))) (sRet (cC (.bool false))) sNx)
  (sRet (cCall f_ascends (aCons (asList (cLc (cItems (cBor 0)) (sName 1) cYes (cOp oIxA (cBor 1) (cC (.int 0))) [1])) aNil))))
def f_are_posts : List D → R D := semOf 2 1 c_are_posts
def b0__law_posts : Env → Out := (sSeq (sAsg 4 (asVal (cBt bInt (aCons (cOp oIxA (cBor 0) (cOp oAdd (cC (.int 1)) (cBor 3))) aNil))))
  (sPut 2 (cOp oAdd (cC (.int 1)) (cOp oMod (cOp oDiv (cBor 4) (cC (.int 32))) (cC (.int 20)))) (cOp oMod (cBor 4) (cC (.int 30)))))
def c__law_posts : Env → Out := (sSeq (sAsg 2 asDic)
  (sSeq (sFor (cIt range1D (aCons (cOp oAdd (cC (.int 1)) (cOp oMod (cBt bInt (aCons (cOp oIxA (cBor 0) (cC (.int 0))) aNil)) (cBor 1))) aNil)) (sName 3) b0__law_posts)
  (sRet (cBt bTuple (aCons (asList (cLc (cItems (cBt bSortedB (aCons (cBor 2) aNil))) (sName 5) cYes (cTup (aCons (cVar 5) (aCons (cOp oIxA (cBor 2) (cBor 5)) aNil))) [5])) aNil)))))
def f__law_posts : List D → R D := semOf 6 2 c__law_posts
def isW (d : D) (a b : Int) : Bool := match d with
  | .int i => decide (a ≤ i ∧ i ≤ b)
  | _ => false
theorem is_whole_ok (d : D) (a b : Int) : f_is_whole [d, .int a, .int b] = .ok (.bool (isW d a b)) := by
  cases d with
  | int i =>
    by_cases h : a ≤ i
    · simp [f_is_whole, semOf, c_is_whole, isIntD, isBoolD, isW, h]
    · simp [f_is_whole, semOf, c_is_whole, isIntD, isBoolD, isW, h]
  | _ => simp [f_is_whole, semOf, c_is_whole, isIntD, isBoolD, isW]
theorem absI (i : Int) : (if i < 0 then -i else i) = (i.natAbs : Int) := by split <;> omega
theorem divisor_ok (a b : Int) (hb : b.natAbs < FUEL) : f_divisor [.int a, .int b] = .ok (.int (a.gcd b)) := by
  have e := euclid (t := cTest (cOp oGt (cBor 1) (cC (.int 0)))) (b := b0_divisor) (E := fun x y => [.val (.int (x : Nat)), .val (.int (y : Nat))]) (fun x y => by simp) (fun x y hy => by
    simp [b0_divisor]
    omega) FUEL a.natAbs b.natAbs hb
  simp [f_divisor, semOf, c_divisor, absI, e]
  rfl
theorem ratio_ok (p q : Int) (hq : q ≠ 0) (hb : q.natAbs < 9000000000000000000) : f_ratio [.int p, .int q] = .ok (fr p q) := by
  have g0 : 0 < p.gcd q := Int.gcd_pos_of_ne_zero_right p hq
  have g1 : p.gcd q ≤ q.natAbs := Int.gcd_le_natAbs_right p hq
  have d := divisor_ok p q (by unfold FUEL; omega)
  have c1 : CDivW p (p.gcd q) := cdivw (by omega)
  have c2 : CDivW q (p.gcd q) := cdivw (by omega)
  by_cases h : 0 < q
  · simp [f_ratio, semOf, c_ratio, d, h, c1, c2, fr, num, den]
  · simp [f_ratio, semOf, c_ratio, d, h, c1, c2, fr, num, den]
theorem atI0 {α : Type} (x : α) (l : List α) : atI (x :: l) 0 = some x := atI_nat (j := 0) rfl
theorem atI1 {α : Type} (x y : α) (l : List α) : atI (x :: y :: l) 1 = some y := atI_nat (j := 1) rfl
theorem plain_ok (p q : Int) (hq : q ≠ 0) (hb : q.natAbs < 9000000000000000000) : f__law_plain [.int p, .int q] = .ok (fr p q) := by
  have g0 : 0 < p.gcd q := Int.gcd_pos_of_ne_zero_right p hq
  have g1 : p.gcd q ≤ q.natAbs := Int.gcd_le_natAbs_right p hq
  have c1 : CDivW p (p.gcd q) := cdivw (by omega)
  have c2 : CDivW q (p.gcd q) := cdivw (by omega)
  have m : ∀ i : Int, (if i < -i then -i else i) = (i.natAbs : Int) := fun i => by split <;> omega
  have e := euclid (t := cTest (cOp oGt (cBor 3) (cC (.int 0)))) (b := b0__law_plain) (E := fun x y => [.val (.int p), .val (.int q), .val (.int (x : Nat)), .val (.int (y : Nat))]) (fun x y => by simp) (fun x y hy => by
    simp [b0__law_plain]
    omega) FUEL p.natAbs q.natAbs (by unfold FUEL; omega)
  have e' : whileLoop (cTest (cOp oGt (cBor 3) (cC (.int 0)))) b0__law_plain FUEL [.val (.int p), .val (.int q), .val (.int (p.natAbs : Int)), .val (.int (q.natAbs : Int))] = .nx [.val (.int p), .val (.int q), .val (.int (p.gcd q : Int)), .val (.int 0)] := e
  by_cases h : 0 < q
  · simp only [f__law_plain, semOf, c__law_plain]
    simp [m, e', h, c1, c2, fr, num, den]
  · simp only [f__law_plain, semOf, c__law_plain]
    simp [m, e', h, c1, c2, fr, num, den]
theorem times_ok {a b c d : Int} (h : Sm a b) (k : Sm c d) : f_times [fr a b, fr c d] = .ok (fr (a * c) (b * d)) := by
  obtain ⟨e1, e2, e3⟩ := x_mul h k
  have r := ratio_ok (num a b * num c d) (den a b * den c d) (by omega) e3
  rw [e1] at r
  simp [f_times, semOf, c_times, fr, atI0, atI1, sm_cm h.n, sm_cm h.d, r]
theorem x_divS {a b c d : Int} (h : Sm a b) (k : Sm c d) (hc : c ≠ 0) : fr (num a b * den c d) (den a b * num c d) = fr (a * d) (b * c) ∧ den a b * num c d ≠ 0 ∧ (den a b * num c d).natAbs < 9000000000000000000 := by
  obtain ⟨c1, p1⟩ := h.c
  obtain ⟨c2, p2⟩ := k.c
  have p3 : num c d ≠ 0 := fun z => by
    rw [z, Int.zero_mul] at c2
    exact Int.mul_ne_zero hc (by omega) c2.symm
  have hb := h.q0
  refine ⟨fr_eq (Int.mul_ne_zero (by omega) p3) (Int.mul_ne_zero (by omega) hc) ?_, Int.mul_ne_zero (by omega) p3, by have := mul_lt h.d k.n; omega⟩
  calc num a b * den c d * (b * c) = (num a b * b) * (c * den c d) := by simp only [Int.mul_assoc, Int.mul_comm, Int.mul_left_comm]
    _ = (a * den a b) * (num c d * d) := by rw [c1, c2]
    _ = a * d * (den a b * num c d) := by simp only [Int.mul_assoc, Int.mul_comm, Int.mul_left_comm]
theorem over_ok {a b c d : Int} (h : Sm a b) (k : Sm c d) (hc : c ≠ 0) : f_over [fr a b, fr c d] = .ok (fr (a * d) (b * c)) := by
  obtain ⟨e1, e2, e3⟩ := x_divS h k hc
  have r := ratio_ok (num a b * den c d) (den a b * num c d) e2 e3
  rw [e1] at r
  simp [f_over, semOf, c_over, fr, atI0, atI1, sm_cm h.n, sm_cm h.d, r]
theorem minus_ok {a b c d : Int} (h : Sm a b) (k : Sm c d) : f_minus [fr a b, fr c d] = .ok (fr (a * d - c * b) (b * d)) := by
  obtain ⟨e1, e2, e3⟩ := x_sub h k
  have r := ratio_ok (num a b * den c d - num c d * den a b) (den a b * den c d) (by omega) e3
  rw [e1] at r
  simp [f_minus, semOf, c_minus, fr, atI0, atI1, sm_cm h.n, sm_cm h.d, sm_cm k.n, r]
theorem less_ok {a b c d : Int} (h : Sm a b) (k : Sm c d) : f_is_less [fr a b, fr c d] = .ok (.bool (decide (a * d < c * b))) := by
  have e := x_lt h k
  simp [f_is_less, semOf, c_is_less, fr, atI0, atI1, sm_cm h.n, sm_cm h.d, sm_cm k.n, e]
theorem plus_ok {a b c d : Int} (h : Sm a b) (k : Sm c d) : f_plus [fr a b, fr c d] = .ok (fr (a * d + c * b) (b * d)) := by
  obtain ⟨e1, e2, e3⟩ := x_add h k
  have r := ratio_ok (num a b * den c d + num c d * den a b) (den a b * den c d) (by omega) e3
  rw [e1] at r
  simp [f_plus, semOf, c_plus, fr, atI0, atI1, sm_cm h.n, sm_cm h.d, sm_cm k.n, r]
theorem lminus_ok {a b c d : Int} (h : Sm a b) (k : Sm c d) : f__law_minus [fr a b, fr c d] = .ok (fr (a * d - c * b) (b * d)) := by
  obtain ⟨e1, e2, e3⟩ := x_sub h k
  have r := plain_ok (num a b * den c d - num c d * den a b) (den a b * den c d) (by omega) e3
  rw [e1] at r
  simp [f__law_minus, semOf, c__law_minus, fr, atI0, atI1, sm_cm h.n, sm_cm h.d, sm_cm k.n, r]
theorem lless_ok {a b c d : Int} (h : Sm a b) (k : Sm c d) : f__law_less [fr a b, fr c d] = .ok (.bool (decide (a * d < c * b))) := by
  have e := x_lt h k
  simp [f__law_less, semOf, c__law_less, fr, atI0, atI1, sm_cm h.n, sm_cm h.d, sm_cm k.n, e]
theorem by_ok {a b c d : Int} (h : Sm a b) (k : Sm c d) : f__law_by [fr a b, fr c d] = .ok (fr (a * c) (b * d)) := by
  obtain ⟨e1, e2, e3⟩ := x_mul h k
  have r := plain_ok (num a b * num c d) (den a b * den c d) (by omega) e3
  rw [e1] at r
  simp [f__law_by, semOf, c__law_by, fr, atI0, atI1, sm_cm h.n, sm_cm h.d, r]
theorem lover_ok {a b c d : Int} (h : Sm a b) (k : Sm c d) (hc : c ≠ 0) : f__law_over [fr a b, fr c d] = .ok (fr (a * d) (b * c)) := by
  obtain ⟨e1, e2, e3⟩ := x_divS h k hc
  have r := plain_ok (num a b * den c d) (den a b * num c d) e2 e3
  rw [e1] at r
  simp [f__law_over, semOf, c__law_over, fr, atI0, atI1, sm_cm h.n, sm_cm h.d, r]
theorem lplus_ok {a b c d : Int} (h : Sm a b) (k : Sm c d) : f__law_plus [fr a b, fr c d] = .ok (fr (a * d + c * b) (b * d)) := by
  obtain ⟨e1, e2, e3⟩ := x_add h k
  have r := plain_ok (num a b * den c d + num c d * den a b) (den a b * den c d) (by omega) e3
  rw [e1] at r
  simp [f__law_plus, semOf, c__law_plus, fr, atI0, atI1, sm_cm h.n, sm_cm h.d, sm_cm k.n, r]
theorem sh_fr {n : Nat} (a b : Int) : Sh (n + 1) (fr a b) := sh_tup fun d hd => by
  simp only [List.mem_cons, List.not_mem_nil, or_false] at hd
  rcases hd with rfl | rfl <;> exact sh_int
theorem is_ratio_ok {x y : Int} (h : Low x y) (hb : y.natAbs < FUEL) : f_is_ratio [.tuple [.int x, .int y]] = .ok (.bool true) := by
  have d := divisor_ok x y hb
  rw [h.cop] at d
  have := h.pos
  simp [f_is_ratio, semOf, c_is_ratio, isTupleD, lcGo_cons, isIntD, isBoolD, wipeR, bAll, blsD, atI0, atI1, d, this]

theorem fr_one (h : Int) : fr h 1 = .tuple [.int h, .int 1] := fr_low ⟨by decide, by simp⟩
/-- equal as data: equal as quotients -/
theorem eqv_fr {p q r s : Int} (hq : q ≠ 0) (hs : s ≠ 0) : PyData.eqv (fr p q) (fr r s) = decide (p * s = r * q) := by
  have e : PyData.eqv (fr p q) (fr r s) = (decide (num p q = num r s) && decide (den p q = den r s)) := by
    simp [fr, PyData.eqv, PyData.eqvAll]
    rfl
  rw [e]
  by_cases h : p * s = r * q
  · obtain ⟨h1, h2⟩ := num_eq hq hs h
    simp [h1, h2, h]
  · rw [decide_eq_false h]
    by_cases h1 : num p q = num r s
    · by_cases h2 : den p q = den r s
      · exact absurd (num_iff hq hs h1 h2) h
      · simp [h2]
    · simp [h1]
theorem oEq_fr {p q r s : Int} (hq : q ≠ 0) (hs : s ≠ 0) : oEq (fr p q) (fr r s) = some (.bool (decide (p * s = r * q))) := by
  rw [oEq_of (sh_fr (n := 0) p q) (sh_fr (n := 0) r s), eqv_fr hq hs]
theorem oNe_fr {p q r s : Int} (hq : q ≠ 0) (hs : s ≠ 0) : oNe (fr p q) (fr r s) = some (.bool (!decide (p * s = r * q))) := by
  rw [oNe_of (sh_fr (n := 0) p q) (sh_fr (n := 0) r s), eqv_fr hq hs]
end DL.Q

/-! MT -/
namespace DL.Q
open PySem L2
/-! ### quotients as rationals -/
/-- a rational's data -/
def rd (r : Rat) : D := .tuple [.int r.num, .int (r.den : Nat)]
theorem rat_low (r : Rat) : Low r.num (r.den : Nat) := ⟨by have := r.den_pos; omega, by
  have h := r.reduced
  show r.num.natAbs.gcd (r.den : Int).natAbs = 1
  exact h⟩
theorem den_ne (r : Rat) : ((r.den : Int) : Rat) ≠ 0 := fun z => by
  have z2 : ((r.den : Int) : Rat) = ((0 : Int) : Rat) := z
  have z3 := Rat.intCast_inj.mp z2
  have := r.den_pos
  omega
theorem rat_mul_den (r : Rat) : r * (r.den : Int) = (r.num : Rat) := by
  have h := den_ne r
  have e : (r.num : Rat) / ((r.den : Int) : Rat) = r := by rw [← Rat.divInt_eq_div, Rat.num_divInt_den]
  generalize ((r.den : Int) : Rat) = d at h e ⊢
  generalize (r.num : Rat) = n at e ⊢
  rw [← e]
  grind
theorem fr_rd {p q : Int} (hq : q ≠ 0) : fr p q = rd ((p : Rat) / (q : Rat)) := by
  have hq' : (q : Rat) ≠ 0 := fun z => hq (Rat.intCast_inj.mp z)
  generalize hr : (p : Rat) / (q : Rat) = r
  have e : r * q = p := by rw [← hr]; grind
  have m := rat_mul_den r
  have d0 := r.den_pos
  have c : p * (r.den : Int) = r.num * q := by
    apply Rat.intCast_inj.mp
    rw [Rat.intCast_mul, Rat.intCast_mul]
    grind
  rw [fr_eq (r := r.num) (s := (r.den : Nat)) hq (by omega) c]
  exact fr_low (rat_low r)
theorem rd_fr (r : Rat) : rd r = fr r.num (r.den : Nat) := (fr_low (rat_low r)).symm
theorem rd_inj {a b : Rat} (h : rd a = rd b) : a = b := by
  simp only [rd, PyData.tuple.injEq, List.cons.injEq, PyData.int.injEq, and_true] at h
  exact Rat.ext h.1 (by omega)
theorem sh_rd {n : Nat} (r : Rat) : Sh (n + 1) (rd r) := sh_tup fun d hd => by
  simp only [List.not_mem_nil, List.mem_cons, or_false] at hd
  rcases hd with rfl | rfl <;> exact sh_int
theorem eqv_rd (a b : Rat) : PyData.eqv (rd a) (rd b) = decide (a = b) := by
  have e : PyData.eqv (rd a) (rd b) = (decide (a.num = b.num) && decide ((a.den : Int) = (b.den : Int))) := by
    simp [rd, PyData.eqv, PyData.eqvAll]
    rfl
  rw [e]
  by_cases h : a = b
  · subst h
    simp
  · rw [decide_eq_false h]
    by_cases h1 : a.num = b.num
    · by_cases h2 : (a.den : Int) = b.den
      · exact absurd (Rat.ext h1 (by omega)) h
      · simp [h2]
    · simp [h1]
theorem oEq_rd (a b : Rat) : oEq (rd a) (rd b) = some (.bool (decide (a = b))) := by rw [oEq_of (sh_rd (n := 0) a) (sh_rd (n := 0) b), eqv_rd]
theorem oNe_rd (a b : Rat) : oNe (rd a) (rd b) = some (.bool (!decide (a = b))) := by rw [oNe_of (sh_rd (n := 0) a) (sh_rd (n := 0) b), eqv_rd]
theorem rd_int (i : Int) : rd (i : Rat) = .tuple [.int i, .int 1] := by simp [rd]
/-! the functions, on rationals: denominators small -/
structure Dn (a : Rat) (n : Nat) : Prop where
  le : a.den ≤ n
theorem rd_num (a : Rat) : oIxA (rd a) (.int 0) = some (.int a.num) := rfl
theorem rd_den (a : Rat) : oIxA (rd a) (.int 1) = some (.int (a.den : Nat)) := rfl
theorem div_rd {p q : Int} {r : Rat} (hq : q ≠ 0) (h : (p : Rat) = r * (q : Rat)) : fr p q = rd r := by
  rw [fr_rd hq]
  have hq' : (q : Rat) ≠ 0 := fun z => hq (Rat.intCast_inj.mp z)
  congr 1
  rw [h]
  generalize (q : Rat) = x at hq'
  grind
theorem den_add_le (a b : Rat) : (a + b).den ≤ a.den * b.den := by
  rw [Rat.den_add]
  exact Nat.div_le_self _ _
theorem den_mul_le (a b : Rat) : (a * b).den ≤ a.den * b.den := by
  rw [Rat.den_mul]
  exact Nat.div_le_self _ _
theorem den_neg (a : Rat) : (-a).den = a.den := rfl
theorem den_sub_le (a b : Rat) : (a - b).den ≤ a.den * b.den := by
  have e : a - b = a + -b := by grind
  rw [e]
  exact den_add_le a (-b)
end DL.Q

/-! MP -/
namespace DL.Q
open PySem L2 DL.Dr
theorem cut_from {α : Type} (l : List α) (n : Nat) : cut l (some (n : Int)) none = l.drop n := by
  unfold cut
  rw [HT.sIx_none, HT.sIx_nat]
  rcases Nat.le_total n l.length with h | h
  · rw [Nat.min_eq_left h]
    exact List.take_of_length_le (by rw [List.length_drop]; exact Nat.le_refl _)
  · rw [Nat.min_eq_right h, Nat.sub_self, List.take_zero, List.drop_of_length_le h]
/-- a post: where, how high -/
def pd (x : Int × Int) : D := .tuple [.int x.1, .int x.2]
theorem asc_go (y0 : SV) : ∀ (l : List Int) (x : Int) (y1 y2 : SV), (x :: l).Pairwise (· < ·) → ∃ bs, lcGo (sTup (sCons (sName 1) (sCons (sName 2) sNil))) cYes (cOp oLt (cBor 1) (cBor 2)) [y0, y1, y2] (zipD ((x :: l).map .int) (l.map .int)) = .ok bs ∧ blsD bs = some (l.map fun _ => true)
  | [], x, y1, y2, _ => ⟨[], rfl, rfl⟩
  | z :: l, x, y1, y2, h => by
    obtain ⟨h1, h2⟩ := (List.pairwise_cons).mp h
    obtain ⟨bs, e, e2⟩ := asc_go y0 l z y1 y2 h2
    refine ⟨.bool true :: bs, ?_, by simp [blsD, e2]⟩
    have q := h1 z List.mem_cons_self
    rw [show zipD ((x :: z :: l).map PyData.int) ((z :: l).map PyData.int) = .tuple [.int x, .int z] :: zipD ((z :: l).map PyData.int) (l.map PyData.int) from rfl, lcGo_cons]
    generalize zipD ((z :: l).map PyData.int) (l.map PyData.int) = rr at e ⊢
    simp [q, e]
theorem ascends_ok (l : List Int) (h : l.Pairwise (· < ·)) (hn : l.length ≤ 1000) : f_ascends [.list (l.map .int)] = .ok (.bool true) := by
  have c : cut (l.map PyData.int) (some 1) none = (l.map PyData.int).drop 1 := cut_from _ 1
  match l, h with
  | [], _ =>
    simp [f_ascends, semOf, c_ascends, c, zipD, bAll, blsD]
  | x :: l, h =>
    obtain ⟨bs, e, e2⟩ := asc_go (.val (.list ((x :: l).map .int))) l x .no .no h
    have ea : bAll [.list bs] = some (.bool true) := by
      simp only [bAll, e2, Option.map_some]
      congr 2
      simp
    have zl : (zipD ((x :: l).map PyData.int) (l.map PyData.int)).length ≤ 100000 := by
      rw [zipD_len]
      simp at hn ⊢
      omega
    simp only [List.map_cons] at c e zl
    simp [f_ascends, semOf, c_ascends, c, wipeR]
    rw [if_pos zl, e]
    simp [ea]
structure Pst (P : List (Int × Int)) : Prop where
  n0 : 1 ≤ P.length
  n1 : P.length ≤ 8
  b : ∀ x ∈ P, 0 ≤ x.1 ∧ x.1 < 30 ∧ 1 ≤ x.2 ∧ x.2 ≤ 20
  up : (P.map (·.1)).Pairwise (· < ·)
theorem is_post_ok {x : Int × Int} (h : 0 ≤ x.1 ∧ x.1 ≤ 1000 ∧ 1 ≤ x.2 ∧ x.2 ≤ 1000) : f_is_post [pd x] = .ok (.bool true) := by
  have w1 := is_whole_ok (.int x.1) 0 1000
  have w2 := is_whole_ok (.int x.2) 1 1000
  have w1' : isW (.int x.1) 0 1000 = true := by simp [isW]; omega
  have w2' : isW (.int x.2) 1 1000 = true := by simp [isW]; omega
  simp [f_is_post, semOf, c_is_post, pd, isTupleD, atI0, atI1, w1, w2, w1', w2']
theorem are_posts_ok {P : List (Int × Int)} (h : Pst P) : f_are_posts [.tuple (P.map pd)] = .ok (.bool true) := by
  have n0 := h.n0
  have n1 := h.n1
  have q1 : lcGo (sName 1) cYes (cCall f_is_post (aCons (cVar 1) aNil)) [.val (.tuple (P.map pd)), .no] (P.map pd) = .ok ((P.map pd).map fun _ => .bool true) := by
    refine lc_map _ fun d hd => ?_
    obtain ⟨x, hx, rfl⟩ := List.mem_map.mp hd
    have b := h.b x hx
    exact ⟨_, rfl, rfl, by simp [is_post_ok (x := x) ⟨b.1, by omega, b.2.2.1, by omega⟩]⟩
  have e1 : (P.map pd).map (fun _ => PyData.bool true) = (P.map fun _ => true).map PyData.bool := by simp
  rw [e1] at q1
  have q2 : ∀ l : List (Int × Int), lcGo (sName 1) cYes (cOp oIxA (cBor 1) (cC (.int 0))) [.val (.tuple (P.map pd)), .no] (l.map pd) = .ok ((l.map (·.1)).map PyData.int) := by
    intro l
    induction l with
    | nil => rfl
    | cons x l ih =>
      rw [List.map_cons, lcGo_cons]
      simp [pd, atI0]
      rw [ih]
      simp
  have q3 := q2 P
  have as := ascends_ok (P.map (·.1)) h.up (by rw [List.length_map]; omega)
  have ea : bAll [.list ((P.map fun _ => true).map PyData.bool)] = some (.bool true) := by rw [bAll_b]; simp
  have n2 : (1 : Int) ≤ (P.length : Nat) := by omega
  have n3 : ((P.length : Nat) : Int) ≤ 8 := by omega
  have n4 : P.length ≤ 100000 := by omega
  generalize hP : P.map pd = PD at q1 q3 ⊢
  have ln : PD.length = P.length := by rw [← hP]; simp
  generalize (P.map fun _ => true).map PyData.bool = bs at q1 ea
  generalize (P.map (·.1)).map PyData.int = ns at q3 as
  simp [f_are_posts, semOf, c_are_posts, isTupleD, ln, n2, n3, n4, wipeR, q1, q3, ea, as]
theorem up_nodup : ∀ l : List Int, l.Pairwise (· ≤ ·) → l.Nodup → l.Pairwise (· < ·)
  | [], _, _ => .nil
  | x :: l, h, d => by
    obtain ⟨a, b⟩ := List.pairwise_cons.mp h
    obtain ⟨e, f⟩ := List.nodup_cons.mp d
    refine List.pairwise_cons.mpr ⟨fun y hy => ?_, up_nodup l b f⟩
    have q := a y hy
    have n : x ≠ y := fun z => e (z.symm ▸ hy)
    omega
/-! ### the posts of a row of draws -/
def kp (x : Int × Int) : Key × D := (.inl x.1, .int x.2)
def ups (L : List (Int × Int)) (p h : Int) : List (Int × Int) := if (L.any fun x => decide (x.1 = p)) = true then L.map (fun x => if x.1 = p then (x.1, h) else x) else L ++ [(p, h)]
theorem ups_ok (L : List (Int × Int)) (p h : Int) : setK (L.map kp) (.inl p) (.int h) = (ups L p h).map kp := by
  have e : ((L.map kp).any fun q => decide (q.1 = Sum.inl p)) = L.any fun x => decide (x.1 = p) := by
    rw [List.any_map]
    congr 1
    funext x
    simp [kp]
  unfold setK ups
  rw [e]
  split
  · rw [List.map_map, List.map_map]
    refine List.map_congr_left (fun x _ => ?_)
    show (if (kp x).1 = Sum.inl p then ((kp x).1, PyData.int h) else kp x) = kp (if x.1 = p then (x.1, h) else x)
    by_cases hx : x.1 = p
    · rw [if_pos (show (kp x).1 = Sum.inl p from congrArg Sum.inl hx), if_pos hx]
      rfl
    · rw [if_neg (show ¬ (kp x).1 = Sum.inl p from fun z => hx (Sum.inl.inj z)), if_neg hx]
  · simp [kp]
structure Fd (L : List (Int × Int)) : Prop where
  nd : (L.map (·.1)).Nodup
  b : ∀ x ∈ L, 0 ≤ x.1 ∧ x.1 < 30 ∧ 1 ≤ x.2 ∧ x.2 ≤ 20
theorem ups_fd {L : List (Int × Int)} {p h : Int} (f : Fd L) (hp : 0 ≤ p ∧ p < 30) (hh : 1 ≤ h ∧ h ≤ 20) : Fd (ups L p h) ∧ 1 ≤ (ups L p h).length ∧ (ups L p h).length ≤ L.length + 1 := by
  unfold ups
  split
  · rename_i a
    refine ⟨⟨?_, fun x hx => ?_⟩, ?_, by simp⟩
    · have e : (L.map (fun x => if x.1 = p then (x.1, h) else x)).map (·.1) = L.map (·.1) := by
        rw [List.map_map]
        refine List.map_congr_left (fun x _ => ?_)
        simp only [Function.comp]
        split <;> rfl
      rw [e]
      exact f.nd
    · obtain ⟨z, hz, e⟩ := List.mem_map.mp hx
      have b := f.b z hz
      split at e
      · rw [← e]; exact ⟨b.1, b.2.1, hh⟩
      · rw [← e]; exact b
    · obtain ⟨x, hx, _⟩ := List.any_eq_true.mp a
      rw [List.length_map]
      exact List.length_pos_of_mem hx
  · rename_i a
    refine ⟨⟨?_, fun x hx => ?_⟩, by simp, by simp⟩
    · rw [List.map_append, List.map_cons, List.map_nil]
      refine List.nodup_append.mpr ⟨f.nd, by simp, fun x hx y hy => ?_⟩
      rw [List.mem_singleton.mp hy]
      intro e
      refine a ?_
      obtain ⟨z, hz, e2⟩ := List.mem_map.mp hx
      exact List.any_eq_true.mpr ⟨z, hz, decide_eq_true (e2.trans e)⟩
    · rcases (List.mem_append.mp hx) with hx | hx
      · exact f.b x hx
      · rw [List.mem_singleton.mp hx]; exact ⟨hp.1, hp.2, hh⟩
theorem intKs_kp : ∀ L : List (Int × Int), intKs (L.map kp) = some (L.map (·.1))
  | [] => rfl
  | x :: L => by
    show (intKs (L.map kp)).map (x.1 :: ·) = _
    rw [intKs_kp L]
    rfl
theorem sorted_kp (L : List (Int × Int)) : bSortedB [dcD (L.map kp)] = some (.list ((srt (L.map (·.1))).map .int)) := by
  show (dctK (dcD (L.map kp))).bind (fun ks => (intKs ks).map fun ns => PyData.list ((srt ns).map .int)) = _
  rw [dctK_dcD, Option.bind_some, intKs_kp] <;> rfl
def look (L : List (Int × Int)) (p : Int) : Int := ((L.find? fun x => decide (x.1 = p)).map (·.2)).getD 1
theorem get_kp (L : List (Int × Int)) (p : Int) (h : p ∈ L.map (·.1)) : getK (L.map kp) (.inl p) = some (.int (look L p)) ∧ (p, look L p) ∈ L := by
  induction L with
  | nil => simp at h
  | cons x L ih =>
    by_cases e : x.1 = p
    · refine ⟨by simp [getK, kp, look, e], ?_⟩
      have : look (x :: L) p = x.2 := by simp [look, e]
      rw [this, ← e]
      exact List.mem_cons_self
    · have h' : p ∈ L.map (·.1) := by
        rw [List.map_cons] at h
        rcases (List.mem_cons.mp h) with q | q
        · exact absurd q.symm e
        · exact q
      obtain ⟨a, b⟩ := ih h'
      have e1 : look (x :: L) p = look L p := by simp [look, e]
      have e2 : getK ((x :: L).map kp) (.inl p) = getK (L.map kp) (.inl p) := by simp [getK, kp, e]
      rw [e1, e2]
      exact ⟨a, .tail _ b⟩
theorem posts_loop {ds : List Int} (many : Int) (hr : InR ds) : ∀ (l : List Nat) (L : List (Int × Int)) (y3 y4 y5 : SV), (∀ i ∈ l, 1 + i < ds.length) → Fd L → L.length + l.length ≤ 1000 → ∃ L' y3' y4',
    forLoop (sName 3) b0__law_posts (l.map fun i => .int (0 + (i : Nat))) [.val (.list (ds.map .int)), .val (.int many), .dic (L.map kp), y3, y4, y5] = .nx [.val (.list (ds.map .int)), .val (.int many), .dic (L'.map kp), y3', y4', y5] ∧ Fd L' ∧ L'.length ≤ L.length + l.length ∧ (l ≠ [] → 1 ≤ L'.length)
  | [], L, y3, y4, y5, _, f, _ => ⟨L, y3, y4, rfl, f, by simp, fun h => absurd rfl h⟩
  | i :: l, L, y3, y4, y5, hi, f, hl => by
    have h1 := hi i List.mem_cons_self
    simp only [List.length_cons] at hl
    obtain ⟨v, hv⟩ : ∃ v, ds[1 + i]? = some v := ⟨_, List.getElem?_eq_getElem h1⟩
    have r0 := hr v (List.mem_of_getElem? hv)
    have at1 : atI (ds.map PyData.int) (1 + (i : Int)) = some (.int v) := by
      have := atI_nat (j := 1 + i) (v := PyData.int v) (xs := ds.map PyData.int) (by simp [hv])
      rw [← this]
      congr 1
    obtain ⟨f', l0, l1⟩ := ups_fd f (p := v % 30) (h := 1 + v / 32 % 20) (by omega) (by omega)
    obtain ⟨L', y3', y4', e, g1, g2, g3⟩ := posts_loop many hr l (ups L (v % 30) (1 + v / 32 % 20)) (.val (.int (i : Nat))) (.val (.int v)) y5 (fun j hj => hi j (.tail _ hj)) f' (by omega)
    refine ⟨L', y3', y4', ?_, g1, by simp; omega, fun _ => ?_⟩
    · rw [List.map_cons, show ((0 : Int) + (i : Nat)) = (i : Int) by omega]
      rw [for_cons (ρ1 := [.val (.list (ds.map .int)), .val (.int many), .dic (L.map kp), .val (.int (i : Nat)), y4, y5]) (ρ2 := [.val (.list (ds.map .int)), .val (.int many), .dic ((ups L (v % 30) (1 + v / 32 % 20)).map kp), .val (.int (i : Nat)), .val (.int v), y5]) rfl ?_, e]
      simp [b0__law_posts, at1, cdivw (i := v) (j := 32) (by omega), ups_ok, show L.length < 100000 by omega]
    · by_cases e : l = []
      · subst e
        have : forLoop (sName 3) b0__law_posts (([] : List Nat).map fun i => .int (0 + (i : Nat))) [.val (.list (ds.map .int)), .val (.int many), .dic ((ups L (v % 30) (1 + v / 32 % 20)).map kp), .val (.int (i : Nat)), .val (.int v), y5] = .nx [.val (.list (ds.map .int)), .val (.int many), .dic ((ups L (v % 30) (1 + v / 32 % 20)).map kp), .val (.int (i : Nat)), .val (.int v), y5] := rfl
        rw [this] at e
        have q := Out.nx.inj e
        simp only [List.cons.injEq, SV.dic.injEq] at q
        have q2 := congrArg List.length q.2.2.1
        simp at q2
        omega
      · exact g3 e
theorem law_posts_ok {ds : List Int} (hr : InR ds) (hl : 20 ≤ ds.length) (many : Int) (hm : 1 ≤ many ∧ many ≤ 8) : ∃ P, f__law_posts [.list (ds.map .int), .int many] = .ok (.tuple (P.map pd)) ∧ Pst P := by
  obtain ⟨v, hv⟩ : ∃ v, ds[0]? = some v := ⟨_, List.getElem?_eq_getElem (by omega)⟩
  have at0 : atI (ds.map PyData.int) 0 = some (.int v) := atI_nat (j := 0) (by simp [hv])
  obtain ⟨n, hn, n0, n1⟩ : ∃ n, 1 + v % many = n ∧ 1 ≤ n ∧ n ≤ 8 := ⟨_, rfl, by have := Int.emod_nonneg v (show many ≠ 0 by omega); omega, by have := Int.emod_lt_of_pos v (show 0 < many by omega); omega⟩
  obtain ⟨L, y3, y4, e, f, l1, l2⟩ := posts_loop many hr (List.range n.toNat) [] .no .no .no (fun i hi => by have := List.mem_range.mp hi; omega) ⟨by simp, fun x hx => by cases hx⟩ (by simp; omega)
  rw [show (List.range n.toNat).map (fun i : Nat => PyData.int (0 + (i : Int))) = rangeD 0 n.toNat from rfl] at e
  simp only [List.map_nil, List.length_nil, List.length_range, Nat.zero_add] at e l1
  have l3 : 1 ≤ L.length := l2 (by
    intro h
    have q := congrArg List.length h
    simp at q
    omega)
  have sl := srt_len (L.map (·.1))
  rw [List.length_map] at sl
  have go : ∀ l : List Int, (∀ p ∈ l, p ∈ L.map (·.1)) → lcGo (sName 5) cYes (cTup (aCons (cVar 5) (aCons (cOp oIxA (cBor 2) (cBor 5)) aNil))) [.val (.list (ds.map .int)), .val (.int many), .dic (L.map kp), y3, y4, .no] (l.map .int) = .ok ((l.map fun p => (p, look L p)).map pd) := by
    intro l hl
    induction l with
    | nil => rfl
    | cons p l ih =>
      rw [List.map_cons, lcGo_cons]
      have g := (get_kp L p (hl p List.mem_cons_self)).1
      have ih' := ih fun q hq => hl q (.tail _ hq)
      generalize l.map PyData.int = rr at ih' ⊢
      simp [g, ih', pd]
  have go1 := go (srt (L.map (·.1))) fun p hp => mem_srt.mp hp
  refine ⟨(srt (L.map (·.1))).map fun p => (p, look L p), ?_, ?_, ?_, fun x hx => ?_, ?_⟩
  · have lr : (rangeD 0 n.toNat).length ≤ 100000 := by rw [rangeD_len]; omega
    have ls : (srt (L.map (·.1))).length ≤ 100000 := by omega
    have so := sorted_kp L
    generalize ((srt (L.map (·.1))).map fun p => (p, look L p)).map pd = PD at go1 ⊢
    simp [f__law_posts, semOf, c__law_posts, at0, show 0 < many by omega, hn, show -1000000 < n ∧ n < 1000000 by omega, e, so, ls, wipeR, go1]
  · rw [List.length_map]; omega
  · rw [List.length_map]; omega
  · obtain ⟨p, hp, rfl⟩ := List.mem_map.mp hx
    exact f.b _ (get_kp L p (mem_srt.mp hp)).2
  · rw [List.map_map]
    have e2 : (srt (L.map (·.1))).map ((·.1) ∘ fun p => (p, look L p)) = srt (L.map (·.1)) := by
      refine (List.map_congr_left fun x _ => ?_).trans (List.map_id _)
      rfl
    rw [e2]
    exact up_nodup _ (srt_up _) ((srt_perm _).nodup_iff.mpr f.nd)
/-! ### for the laws' turns -/
theorem dget {ds : List Int} (hr : InR ds) (i : Nat) (hi : i < ds.length) : ∃ v, atI (ds.map PyData.int) (i : Int) = some (.int v) ∧ 0 ≤ v := by
  refine ⟨ds[i], ?_, (hr _ (List.getElem_mem hi)).1⟩
  exact atI_nat (by simp [hi])
/-- one of 0 to n - 1, and so on -/
theorem pick {v : Int} (a n : Int) (hn : 0 < n) : ∃ h, a + v % n = h ∧ a ≤ h ∧ h ≤ a + n - 1 := ⟨_, rfl, by have := Int.emod_nonneg v (show n ≠ 0 by omega); omega, by have := Int.emod_lt_of_pos v hn; omega⟩
/-- a loop whose turns change nothing but the name of the loop -/
theorem for_same {i : Nat} {b : Env → Out} {ρ : Env} : ∀ (ds : List D) (x : SV), (∀ d ∈ ds, b (ρ.set i (.val d)) = .nx (ρ.set i (.val d))) → ∃ y, forLoop (sName i) b ds (ρ.set i x) = .nx (ρ.set i y)
  | [], x, _ => ⟨x, rfl⟩
  | d :: ds, x, h => by
    obtain ⟨y, e⟩ := for_same ds (.val d) fun z hz => h z (.tail _ hz)
    refine ⟨y, ?_⟩
    rw [for_cons (ρ1 := ρ.set i (.val d)) (ρ2 := ρ.set i (.val d)) (by simp) (h d List.mem_cons_self), e]
end DL.Q

/-! ME -/
namespace DL
open PySem L2
/-! ### slots that stay -/
/-- nothing but the slots of S has changed -/
structure Same (S : List Nat) (ρ ρ' : Env) : Prop where
  len : ρ'.length = ρ.length
  at' : ∀ i, S.contains i = false → ρ'[i]? = ρ[i]?
section
variable {S T : List Nat} {ρ ρ1 ρ2 : Env} {i : Nat} {v : SV}
theorem Same.refl : Same S ρ ρ := ⟨rfl, fun _ _ => rfl⟩
theorem Same.trans (a : Same S ρ ρ1) (b : Same S ρ1 ρ2) : Same S ρ ρ2 := ⟨b.len.trans a.len, fun i h => (b.at' i h).trans (a.at' i h)⟩
theorem Same.mono (a : Same S ρ ρ1) (h : S.all T.contains = true) : Same T ρ ρ1 := ⟨a.len, fun i hi => a.at' i (by
  cases e : S.contains i with
  | false => rfl
  | true =>
    have m := List.contains_iff_mem.mp e
    have := List.all_eq_true.mp h i m
    rw [hi] at this
    cases this)⟩
theorem Same.set (a : Same S ρ ρ1) (h : S.contains i = true) : Same S ρ (ρ1.set i v) := ⟨by rw [List.length_set, a.len], fun j hj => by
  have n : i ≠ j := fun e => by
    subst e
    rw [h] at hj
    cases hj
  rw [List.getElem?_set_ne n]
  exact a.at' j hj⟩
theorem Same.get (a : Same S ρ ρ1) {x : Option SV} (h : ρ[i]? = x) (hi : S.contains i = false := by decide) : ρ1[i]? = x := (a.at' i hi).trans h
theorem set_get (h : i < ρ.length) : (ρ.set i v)[i]? = some v := by rw [List.getElem?_set_self h]
end
/-- a loop whose turns change only the slots of S -/
theorem for_keep {S : List Nat} {i : Nat} {b : Env → Out} {ρ0 : Env} (hi : S.contains i = true) : ∀ (ds : List D) (ρ : Env), Same S ρ0 ρ → (∀ d ∈ ds, ∀ ρ, Same S ρ0 ρ → ∃ ρ', b (ρ.set i (.val d)) = .nx ρ' ∧ Same S ρ0 ρ') → ∃ ρ', forLoop (sName i) b ds ρ = .nx ρ' ∧ Same S ρ0 ρ'
  | [], ρ, h, _ => ⟨ρ, rfl, h⟩
  | d :: ds, ρ, h, st => by
    obtain ⟨ρ1, e1, h1⟩ := st d List.mem_cons_self ρ h
    obtain ⟨ρ2, e2, h2⟩ := for_keep hi ds ρ1 h1 fun x hx => st x (.tail _ hx)
    exact ⟨ρ2, by rw [for_cons (ρ1 := ρ.set i (.val d)) rfl e1, e2], h2⟩
/-- .. with an invariant of the turns' number -/
theorem for_step {S : List Nat} {i : Nat} {b : Env → Out} {ρ0 : Env} (I : Nat → Env → Prop) : ∀ (ds : List D) (n : Nat) (ρ : Env), Same S ρ0 ρ → I n ρ → (∀ (k : Nat) d, ds[k]? = some d → ∀ ρ, Same S ρ0 ρ → I (n + k) ρ → ∃ ρ', (b (ρ.set i (.val d)) = .nx ρ' ∨ b (ρ.set i (.val d)) = .ct ρ') ∧ Same S ρ0 ρ' ∧ I (n + k + 1) ρ') → ∃ ρ', forLoop (sName i) b ds ρ = .nx ρ' ∧ Same S ρ0 ρ' ∧ I (n + ds.length) ρ'
  | [], n, ρ, h, hI, _ => ⟨ρ, rfl, h, hI⟩
  | d :: ds, n, ρ, h, hI, st => by
    obtain ⟨ρ1, e1, h1, h1'⟩ := st 0 d rfl ρ h hI
    obtain ⟨ρ2, e2, h2, h2'⟩ := for_step (S := S) (i := i) (b := b) (ρ0 := ρ0) I ds (n + 1) ρ1 h1 h1' fun k x hx ρ s z => by
      rw [show n + 1 + k = n + (k + 1) by omega] at z ⊢
      exact st (k + 1) x (by simpa using hx) ρ s z
    refine ⟨ρ2, ?_, h2, by rw [show n + (d :: ds).length = n + 1 + ds.length by simp; omega]; exact h2'⟩
    rcases e1 with e1 | e1
    · rw [for_cons (ρ1 := ρ.set i (.val d)) rfl e1, e2]
    · rw [for_cont (ρ1 := ρ.set i (.val d)) rfl e1, e2]
/-- a comprehension over items of one shape -/
theorem lc_mapA {α : Type} {s : D → Env → Option Env} {t : Env → R Bool} {el : Env → R D} {ρ : Env} {g φ : α → D} : ∀ (N : List α), (∀ a ∈ N, ∃ ρ', s (g a) ρ = some ρ' ∧ t ρ' = .ok true ∧ el ρ' = .ok (φ a)) → lcGo s t el ρ (N.map g) = .ok (N.map φ)
  | [], _ => rfl
  | a :: N, h => by
    obtain ⟨ρ', h1, h2, h3⟩ := h a List.mem_cons_self
    rw [List.map_cons, lcGo_cons, h1, ofO_someS, bind_okS, h2, bind_okS, if_pos rfl, h3, bind_okS, lc_mapA N fun x hx => h x (.tail _ hx)]
    rfl
theorem lc_filterA {α : Type} {s : D → Env → Option Env} {t : Env → R Bool} {el : Env → R D} {ρ : Env} {g φ : α → D} {p : α → Bool} : ∀ (N : List α), (∀ a ∈ N, ∃ ρ', s (g a) ρ = some ρ' ∧ t ρ' = .ok (p a) ∧ (p a = true → el ρ' = .ok (φ a))) → lcGo s t el ρ (N.map g) = .ok ((N.filter p).map φ)
  | [], _ => rfl
  | a :: N, h => by
    obtain ⟨ρ', h1, h2, h3⟩ := h a List.mem_cons_self
    rw [List.map_cons, lcGo_cons, h1, ofO_someS, bind_okS, h2, bind_okS, lc_filterA N fun x hx => h x (.tail _ hx)]
    cases hp : p a with
    | true => rw [if_pos rfl, h3 hp, bind_okS, List.filter_cons_of_pos hp] <;> rfl
    | false => rw [if_neg Bool.false_ne_true, List.filter_cons_of_neg (by rw [hp]; exact Bool.false_ne_true)]
theorem nx_of {b : Env → Out} {ρ ρ' : Env} {c : Env → Out} (h : b ρ = .nx ρ') : sSeq b c ρ = c ρ' := by rw [ev_sSeq, h, thenO_nx]
end DL

/-! MV -/
namespace DL.Q
open PySem L2 DL.Dr
def c_least : Env → Out := (sRet (cIf (cTest (cCall f_is_less (aCons (cVar 1) (aCons (cVar 0) aNil)))) (cVar 1) (cVar 0)))
def f_least : List D → R D := semOf 2 2 c_least
def c_greatest : Env → Out := (sRet (cIf (cTest (cCall f_is_less (aCons (cVar 1) (aCons (cVar 0) aNil)))) (cVar 0) (cVar 1)))
def f_greatest : List D → R D := semOf 2 2 c_greatest
def b0_in_order : Env → Out := (sSeq (sAsg 3 (asVal (cBt bLen (aCons (asList (cLc (cItems (cBor 1)) (sName 4) (cNot (cTest (cCall f_is_less (aCons (cVar 2) (aCons (cVar 4) aNil))))) (cVar 4) [4])) aNil))))
  (sAsg 1 (asVal (cOp oAdd (cOp oAdd (cSl (cBor 1) pNone (pSome (cVar 3))) (asList (cLst (aCons (cVar 2) aNil)))) (cSl (cBor 1) (pSome (cVar 3)) pNone)))))
def c_in_order : Env → Out := (sSeq (sAsg 1 (asVal (asList (cLst aNil))))
  (sSeq (sFor (cItems (cVar 0)) (sName 2) b0_in_order)
  (sRet (cVar 1))))
def f_in_order : List D → R D := semOf 5 1 c_in_order
def c_check_posts : Env → Out := (sIf (cNot (cTest (cCall f_are_posts (aCons (cVar 0) aNil)))) (sRaise "BadPosts") sNx)
def f_check_posts : List D → R D := semOf 1 1 c_check_posts
def c_check_place : Env → Out := (sIf (cNot (cTest (cCall f_is_ratio (aCons (cVar 0) aNil)))) (sRaise "BadPlace") sNx)
def f_check_place : List D → R D := semOf 1 1 c_check_place
def c_check_post : Env → Out := (sIf (cNot (cTest (cCall f_is_whole (aCons (cVar 1) (aCons (cC (.int 0)) (aCons (cOp oSub (cBt bLen (aCons (cBor 0) aNil)) (cC (.int 1))) aNil)))))) (sRaise "BadPost") sNx)
def f_check_post : List D → R D := semOf 2 2 c_check_post
def c_is_light : Env → Out := (sRet (cAndV (cCall f_is_small (aCons (cVar 0) aNil)) (cAndV (cNotV (cCall f_is_less (aCons (cVar 0) (aCons (cC (.tuple [.int (-100), .int 1])) aNil)))) (cNotV (cCall f_is_less (aCons (cC (.tuple [.int 100, .int 1])) (aCons (cVar 0) aNil)))))))
def f_is_light : List D → R D := semOf 1 1 c_is_light
def c__check : Env → Out := (sSeq (sDrop (cCall f_check_posts (aCons (cVar 0) aNil)))
  (sIf (cNot (cTest (cCall f_is_light (aCons (cVar 1) aNil)))) (sRaise "BadLight") sNx))
def f__check : List D → R D := semOf 2 2 c__check
def c_tip_in : Env → Out := (sRet (cCall f_plus (aCons (cTup (aCons (cOp oIxA (cBor 0) (cC (.int 0))) (aCons (cC (.int 1)) aNil))) (aCons (cCall f_times (aCons (cTup (aCons (cOp oIxA (cBor 0) (cC (.int 1))) (aCons (cC (.int 1)) aNil))) (aCons (cVar 1) aNil))) aNil))))
def f_tip_in : List D → R D := semOf 2 2 c_tip_in
def c_tips_of : Env → Out := (sSeq (sDrop (cCall f__check (aCons (cVar 0) (aCons (cVar 1) aNil))))
  (sRet (cBt bTuple (aCons (asList (cLc (cItems (cBor 0)) (sName 2) cYes (cCall f_tip_in (aCons (cVar 2) (aCons (cVar 1) aNil))) [2])) aNil))))
def f_tips_of : List D → R D := semOf 3 2 c_tips_of
def b1_put_together : Env → Out := (sAsg 5 (asVal (cIf (cTest (cOp oEq (cOp oIxA (cBor 1) (cC (.int 0))) (cBor 4))) (cCall f_greatest (aCons (cVar 5) (aCons (cOp oIxA (cBor 1) (cC (.int 1))) aNil))) (cVar 5))))
def b0_put_together : Env → Out := (sSeq (sAsg 5 (asVal (cVar 4)))
  (sSeq (sFor (cItems (cVar 2)) (sName 1) b1_put_together)
  (sIf (cAnd (cTest (cOp oGt (cBt bLen (aCons (cBor 3) aNil)) (cC (.int 0)))) (cNot (cTest (cCall f_is_less (aCons (cOp oIxA (cOp oIxA (cBor 3) (cUn oNeg (cC (.int 1)))) (cC (.int 1))) (aCons (cVar 4) aNil)))))) (sPutL 3 (cTup (aCons (cOp oIxA (cOp oIxA (cBor 3) (cUn oNeg (cC (.int 1)))) (cC (.int 0))) (aCons (cCall f_greatest (aCons (cOp oIxA (cOp oIxA (cBor 3) (cUn oNeg (cC (.int 1)))) (cC (.int 1))) (aCons (cVar 5) aNil))) aNil))) (cUn oNeg (cC (.int 1)))) (sApp 3 (cTup (aCons (cVar 4) (aCons (cVar 5) aNil)))))))
def c_put_together : Env → Out := (sSeq (sAsg 2 (asVal (asList (cLc (cItems (cBor 0)) (sName 1) (cTest (cCall f_is_less (aCons (cOp oIxA (cBor 1) (cC (.int 0))) (aCons (cOp oIxA (cBor 1) (cC (.int 1))) aNil)))) (cVar 1) [1]))))
  (sSeq (sAsg 3 (asOwn (cLst aNil)))
  (sSeq (sFor (cItems (cCall f_in_order (aCons (asList (cLc (cItems (cBor 2)) (sName 1) cYes (cOp oIxA (cBor 1) (cC (.int 0))) [1])) aNil))) (sName 4) b0_put_together)
  (sFrz 3 (sRet (cVar 3))))))
def f_put_together : List D → R D := semOf 6 1 c_put_together
def b0__law_sorted : Env → Out := (sAsg 1 (asVal (cOp oMul1 (cBor 1) (cOp oIxA (cBor 2) (cC (.int 1))))))
def c__law_sorted : Env → Out := (sSeq (sAsg 1 (asVal (cC (.int 1))))
  (sSeq (sFor (cItems (cVar 0)) (sName 2) b0__law_sorted)
  (sRet (asList (cLc (cItems (cBt bSet1 (aCons (asList (cLc (cItems (cBor 0)) (sName 2) cYes (cOp oMul1 (cOp oIxA (cBor 2) (cC (.int 0))) (cOp oDiv (cBor 1) (cOp oIxA (cBor 2) (cC (.int 1))))) [2])) aNil))) (sName 3) cYes (cCall f__law_plain (aCons (cVar 3) (aCons (cVar 1) aNil))) [3])))))
def f__law_sorted : List D → R D := semOf 4 1 c__law_sorted
def c__law_in : Env → Out := (sRet (cBt bAny (aCons (asList (cLc (cItems (cBor 0)) (sTup (sCons (sName 2) (sCons (sName 3) sNil))) cYes (cAndV (cCall f__law_less (aCons (cVar 2) (aCons (cVar 3) aNil))) (cAndV (cNotV (cCall f__law_less (aCons (cVar 1) (aCons (cVar 2) aNil)))) (cNotV (cCall f__law_less (aCons (cVar 3) (aCons (cVar 1) aNil)))))) [2, 3])) aNil)))
def f__law_in : List D → R D := semOf 4 2 c__law_in
def b1__law_joined : Env → Out := (sSeq (sAsg 6 (asVal (cCall f__law_by (aCons (cCall f__law_plus (aCons (cOp oIxA (cBor 1) (cBor 5)) (aCons (cOp oIxA (cBor 1) (cOp oAdd (cBor 5) (cC (.int 1)))) aNil))) (aCons (cTup (aCons (cC (.int 1)) (aCons (cC (.int 2)) aNil))) aNil)))))
  (sIf (cTest (cCall f__law_in (aCons (cVar 0) (aCons (cVar 6) aNil)))) (sIf (cAnd (cTest (cOp oGt (cBt bLen (aCons (cBor 4) aNil)) (cC (.int 0)))) (cTest (cOp oEq (cOp oIxA (cOp oIxA (cBor 4) (cUn oNeg (cC (.int 1)))) (cC (.int 1))) (cOp oIxA (cBor 1) (cBor 5))))) (sPutL 4 (cTup (aCons (cOp oIxA (cOp oIxA (cBor 4) (cUn oNeg (cC (.int 1)))) (cC (.int 0))) (aCons (cOp oIxA (cBor 1) (cOp oAdd (cBor 5) (cC (.int 1)))) aNil))) (cUn oNeg (cC (.int 1)))) (sApp 4 (cTup (aCons (cOp oIxA (cBor 1) (cBor 5)) (aCons (cOp oIxA (cBor 1) (cOp oAdd (cBor 5) (cC (.int 1)))) aNil))))) sNx))
def b0__law_joined : Env → Out := (sAsg 1 (asVal (cOp oAdd (cBor 1) (cIf (cTest (cCall f__law_less (aCons (cVar 2) (aCons (cVar 3) aNil)))) (asList (cLst (aCons (cVar 2) (aCons (cVar 3) aNil)))) (asList (cLst aNil))))))
def c__law_joined : Env → Out := (sSeq (sAsg 1 (asVal (asList (cLst aNil))))
  (sSeq (sFor (cItems (cVar 0)) (sTup (sCons (sName 2) (sCons (sName 3) sNil))) b0__law_joined)
  (sSeq (sAsg 4 (asOwn (cLst aNil)))
  (sSeq (sAsg 1 (asVal (cCall f__law_sorted (aCons (cVar 1) aNil))))
  (sSeq (sFor (cIt range1D (aCons (cOp oSub (cBt bLen (aCons (cBor 1) aNil)) (cC (.int 1))) aNil)) (sName 5) b1__law_joined)
  (sRet (cBt bTuple (aCons (cBor 4) aNil))))))))
def f__law_joined : List D → R D := semOf 7 1 c__law_joined
def c_check_two : Env → Out := (sSeq (sDrop (cCall f_check_posts (aCons (cVar 0) aNil)))
  (sSeq (sDrop (cCall f_check_post (aCons (cVar 0) (aCons (cVar 1) aNil))))
  (sSeq (sDrop (cCall f_check_post (aCons (cVar 0) (aCons (cVar 2) aNil))))
  (sIf (cTest (cOp oEq (cBor 1) (cBor 2))) (sRaise "BadPost") sNx))))
def f_check_two : List D → R D := semOf 3 3 c_check_two
/-! ### the quotient functions on rationals -/
theorem nat_ne {n : Nat} (h : 0 < n) : (n : Int) ≠ 0 := by omega
theorem ratio_rd (p q : Int) (hq : q ≠ 0) (hb : q.natAbs < 9000000000000000000) : f_ratio [.int p, .int q] = .ok (rd ((p : Rat) / (q : Rat))) := by rw [ratio_ok p q hq hb, fr_rd hq]
theorem plain_rd (p q : Int) (hq : q ≠ 0) (hb : q.natAbs < 9000000000000000000) : f__law_plain [.int p, .int q] = .ok (rd ((p : Rat) / (q : Rat))) := by rw [plain_ok p q hq hb, fr_rd hq]
theorem dd_cast (a b : Rat) : ((a.den : Int) * (b.den : Int)) = ((a.den * b.den : Nat) : Int) := by rw [Int.natCast_mul]
theorem dd_le {a b : Rat} {N : Nat} (h : a.den * b.den < N) : a.den < N ∧ b.den < N := by
  have l1 : a.den ≤ a.den * b.den := Nat.le_mul_of_pos_right _ b.den_pos
  have l2 : b.den ≤ a.den * b.den := Nat.le_mul_of_pos_left _ a.den_pos
  omega
theorem add_c (a b : Rat) : (((a.num * (b.den : Int) + b.num * (a.den : Int) : Int)) : Rat) = (a + b) * (((a.den : Int) * (b.den : Int) : Int) : Rat) := by
  rw [Rat.intCast_add, Rat.intCast_mul, Rat.intCast_mul, Rat.intCast_mul, ← rat_mul_den a, ← rat_mul_den b]
  grind
theorem sub_c (a b : Rat) : (((a.num * (b.den : Int) - b.num * (a.den : Int) : Int)) : Rat) = (a - b) * (((a.den : Int) * (b.den : Int) : Int) : Rat) := by
  rw [Rat.intCast_sub, Rat.intCast_mul, Rat.intCast_mul, Rat.intCast_mul, ← rat_mul_den a, ← rat_mul_den b]
  grind
theorem mul_c (a b : Rat) : (((a.num * b.num : Int)) : Rat) = (a * b) * (((a.den : Int) * (b.den : Int) : Int) : Rat) := by
  rw [Rat.intCast_mul, Rat.intCast_mul, ← rat_mul_den a, ← rat_mul_den b]
  grind
theorem num_ne {b : Rat} (h : b ≠ 0) : b.num ≠ 0 := fun z => h (Rat.num_eq_zero.mp z)
theorem div_c (a : Rat) {b : Rat} (h : b ≠ 0) : (((a.num * (b.den : Int) : Int)) : Rat) = (a / b) * (((a.den : Int) * b.num : Int) : Rat) := by
  rw [Rat.intCast_mul, Rat.intCast_mul, ← rat_mul_den a, ← rat_mul_den b]
  grind
section
variable {a b : Rat}
theorem dd_ne (a b : Rat) : ((a.den : Int) * (b.den : Int)) ≠ 0 := by
  have := Nat.mul_pos a.den_pos b.den_pos
  rw [dd_cast]
  omega
theorem plus_rd (h : a.den * b.den < 9000000000000000000) : f_plus [rd a, rd b] = .ok (rd (a + b)) := by
  obtain ⟨l1, l2⟩ := dd_le h
  have q := ratio_ok (a.num * b.den + b.num * a.den) (a.den * b.den) (dd_ne a b) (by rw [dd_cast]; omega)
  rw [div_rd (r := a + b) (dd_ne a b) (add_c a b)] at q
  simp [f_plus, semOf, c_plus, rd_num, rd_den, cmul_r (i := a.num) (j := (b.den : Int)) (by omega), cmul_r (i := b.num) (j := (a.den : Int)) (by omega), cmul_r (i := (a.den : Int)) (j := (b.den : Int)) (by omega), q]
theorem minus_rd (h : a.den * b.den < 9000000000000000000) : f_minus [rd a, rd b] = .ok (rd (a - b)) := by
  obtain ⟨l1, l2⟩ := dd_le h
  have q := ratio_ok (a.num * b.den - b.num * a.den) (a.den * b.den) (dd_ne a b) (by rw [dd_cast]; omega)
  rw [div_rd (r := a - b) (dd_ne a b) (sub_c a b)] at q
  simp [f_minus, semOf, c_minus, rd_num, rd_den, cmul_r (i := a.num) (j := (b.den : Int)) (by omega), cmul_r (i := b.num) (j := (a.den : Int)) (by omega), cmul_r (i := (a.den : Int)) (j := (b.den : Int)) (by omega), q]
theorem times_rd (h : a.den * b.den < 9000000000000000000) (hm : CMul a.num b.num) : f_times [rd a, rd b] = .ok (rd (a * b)) := by
  obtain ⟨l1, l2⟩ := dd_le h
  have q := ratio_ok (a.num * b.num) (a.den * b.den) (dd_ne a b) (by rw [dd_cast]; omega)
  rw [div_rd (r := a * b) (dd_ne a b) (mul_c a b)] at q
  simp [f_times, semOf, c_times, rd_num, rd_den, hm, cmul_r (i := (a.den : Int)) (j := (b.den : Int)) (by omega), q]
theorem over_rd (hb : b ≠ 0) (h : a.den * b.num.natAbs < 9000000000000000000) (h2 : b.den < 9000000000000000000) : f_over [rd a, rd b] = .ok (rd (a / b)) := by
  have n0 := num_ne hb
  have l1 : a.den ≤ a.den * b.num.natAbs := Nat.le_mul_of_pos_right _ (by omega)
  have ne : (a.den : Int) * b.num ≠ 0 := Int.mul_ne_zero (by have := a.den_pos; omega) n0
  have q := ratio_ok (a.num * b.den) (a.den * b.num) ne (by rw [Int.natAbs_mul]; exact h)
  rw [div_rd (r := a / b) ne (div_c a hb)] at q
  simp [f_over, semOf, c_over, rd_num, rd_den, cmul_r (i := a.num) (j := (b.den : Int)) (by omega), cmul_l (i := (a.den : Int)) (j := b.num) (by omega), q]
theorem less_rd (ha : a.den < 9000000000000000000) (hb : b.den < 9000000000000000000) : f_is_less [rd a, rd b] = .ok (.bool (decide (a < b))) := by
  simp [f_is_less, semOf, c_is_less, rd_num, rd_den, cmul_r (i := a.num) (j := (b.den : Int)) (by omega), cmul_r (i := b.num) (j := (a.den : Int)) (by omega)]
  exact (Rat.lt_iff a b).symm
theorem lplus_rd (h : a.den * b.den < 9000000000000000000) : f__law_plus [rd a, rd b] = .ok (rd (a + b)) := by
  obtain ⟨l1, l2⟩ := dd_le h
  have q := plain_ok (a.num * b.den + b.num * a.den) (a.den * b.den) (dd_ne a b) (by rw [dd_cast]; omega)
  rw [div_rd (r := a + b) (dd_ne a b) (add_c a b)] at q
  simp [f__law_plus, semOf, c__law_plus, rd_num, rd_den, cmul_r (i := a.num) (j := (b.den : Int)) (by omega), cmul_r (i := b.num) (j := (a.den : Int)) (by omega), cmul_r (i := (a.den : Int)) (j := (b.den : Int)) (by omega), q]
theorem lminus_rd (h : a.den * b.den < 9000000000000000000) : f__law_minus [rd a, rd b] = .ok (rd (a - b)) := by
  obtain ⟨l1, l2⟩ := dd_le h
  have q := plain_ok (a.num * b.den - b.num * a.den) (a.den * b.den) (dd_ne a b) (by rw [dd_cast]; omega)
  rw [div_rd (r := a - b) (dd_ne a b) (sub_c a b)] at q
  simp [f__law_minus, semOf, c__law_minus, rd_num, rd_den, cmul_r (i := a.num) (j := (b.den : Int)) (by omega), cmul_r (i := b.num) (j := (a.den : Int)) (by omega), cmul_r (i := (a.den : Int)) (j := (b.den : Int)) (by omega), q]
theorem by_rd (h : a.den * b.den < 9000000000000000000) (hm : CMul a.num b.num) : f__law_by [rd a, rd b] = .ok (rd (a * b)) := by
  obtain ⟨l1, l2⟩ := dd_le h
  have q := plain_ok (a.num * b.num) (a.den * b.den) (dd_ne a b) (by rw [dd_cast]; omega)
  rw [div_rd (r := a * b) (dd_ne a b) (mul_c a b)] at q
  simp [f__law_by, semOf, c__law_by, rd_num, rd_den, hm, cmul_r (i := (a.den : Int)) (j := (b.den : Int)) (by omega), q]
theorem lover_rd (hb : b ≠ 0) (h : a.den * b.num.natAbs < 9000000000000000000) (h2 : b.den < 9000000000000000000) : f__law_over [rd a, rd b] = .ok (rd (a / b)) := by
  have n0 := num_ne hb
  have l1 : a.den ≤ a.den * b.num.natAbs := Nat.le_mul_of_pos_right _ (by omega)
  have ne : (a.den : Int) * b.num ≠ 0 := Int.mul_ne_zero (by have := a.den_pos; omega) n0
  have q := plain_ok (a.num * b.den) (a.den * b.num) ne (by rw [Int.natAbs_mul]; exact h)
  rw [div_rd (r := a / b) ne (div_c a hb)] at q
  simp [f__law_over, semOf, c__law_over, rd_num, rd_den, cmul_r (i := a.num) (j := (b.den : Int)) (by omega), cmul_l (i := (a.den : Int)) (j := b.num) (by omega), q]
theorem lless_rd (ha : a.den < 9000000000000000000) (hb : b.den < 9000000000000000000) : f__law_less [rd a, rd b] = .ok (.bool (decide (a < b))) := by
  simp [f__law_less, semOf, c__law_less, rd_num, rd_den, cmul_r (i := a.num) (j := (b.den : Int)) (by omega), cmul_r (i := b.num) (j := (a.den : Int)) (by omega)]
  exact (Rat.lt_iff a b).symm
def mn (a b : Rat) : Rat := if b < a then b else a
def mx (a b : Rat) : Rat := if b < a then a else b
theorem least_rd (ha : a.den < 9000000000000000000) (hb : b.den < 9000000000000000000) : f_least [rd a, rd b] = .ok (rd (mn a b)) := by
  have l := less_rd hb ha
  by_cases c : b < a
  · rw [decide_eq_true c] at l
    simp [f_least, semOf, c_least, l, mn, c]
  · rw [decide_eq_false c] at l
    simp [f_least, semOf, c_least, l, mn, c]
theorem greatest_rd (ha : a.den < 9000000000000000000) (hb : b.den < 9000000000000000000) : f_greatest [rd a, rd b] = .ok (rd (mx a b)) := by
  have l := less_rd hb ha
  by_cases c : b < a
  · rw [decide_eq_true c] at l
    simp [f_greatest, semOf, c_greatest, l, mx, c]
  · rw [decide_eq_false c] at l
    simp [f_greatest, semOf, c_greatest, l, mx, c]
theorem mn_or (a b : Rat) : mn a b = a ∨ mn a b = b := by unfold mn; split <;> simp
theorem mx_or (a b : Rat) : mx a b = a ∨ mx a b = b := by unfold mx; split <;> simp
theorem mn_den {n : Nat} (ha : a.den ≤ n) (hb : b.den ≤ n) : (mn a b).den ≤ n := by unfold mn; split <;> assumption
theorem mx_den {n : Nat} (ha : a.den ≤ n) (hb : b.den ≤ n) : (mx a b).den ≤ n := by unfold mx; split <;> assumption
end
/-! ### in order -/
theorem take_le (x : Rat) : ∀ L : List Rat, L.Pairwise (· ≤ ·) → L.take (L.filter fun o => !decide (x < o)).length = L.filter (fun o => !decide (x < o)) ∧ L.drop (L.filter fun o => !decide (x < o)).length = L.filter (fun o => decide (x < o))
  | [], _ => ⟨rfl, rfl⟩
  | y :: L, h => by
    obtain ⟨h1, h2⟩ := (List.pairwise_cons).mp h
    obtain ⟨i1, i2⟩ := take_le x L h2
    by_cases c : x < y
    · have all : ∀ o ∈ L, x < o := fun o ho => by have := h1 o ho; grind
      have e1 : L.filter (fun o => !decide (x < o)) = [] := List.filter_eq_nil_iff.mpr fun o ho => by simp [all o ho]
      have e2 : L.filter (fun o => decide (x < o)) = L := List.filter_eq_self.mpr fun o ho => by simp [all o ho]
      simp [c, e1, e2]
    · simp [c, i1, i2]
theorem put_up (x : Rat) (L : List Rat) (h : L.Pairwise (· ≤ ·)) : (L.take (L.filter fun o => !decide (x < o)).length ++ [x] ++ L.drop (L.filter fun o => !decide (x < o)).length).Pairwise (· ≤ ·) := by
  obtain ⟨e1, e2⟩ := take_le x L h
  rw [e1, e2]
  refine List.pairwise_append.mpr ⟨List.pairwise_append.mpr ⟨h.filter _, List.pairwise_singleton _ _, fun a ha b hb => ?_⟩, h.filter _, fun a ha b hb => ?_⟩
  · rw [(List.mem_singleton.mp hb)]
    have := (List.mem_filter.mp ha).2
    simp at this
    grind
  · have hb' := (List.mem_filter.mp hb).2
    simp at hb'
    rcases List.mem_append.mp ha with q | q
    · have := (List.mem_filter.mp q).2
      simp at this
      grind
    · rw [List.mem_singleton.mp q]
      grind
theorem put_perm (x : Rat) (L : List Rat) (k : Nat) : (L.take k ++ [x] ++ L.drop k).Perm (L ++ [x]) := by
  have : (L.take k ++ L.drop k).Perm L := by rw [List.take_append_drop]
  refine (List.perm_append_right_iff _ |>.mpr List.perm_append_comm).trans ?_
  rw [List.append_assoc]
  exact List.perm_append_comm.trans (List.perm_append_right_iff _ |>.mpr this)
theorem order_go (V : D) : ∀ (L M : List Rat) (y2 y3 y4 : SV), (∀ x ∈ L, x.den < 9000000000000000000) → (∀ x ∈ M, x.den < 9000000000000000000) → M.Pairwise (· ≤ ·) → M.length + L.length ≤ 10000 → ∃ (M' : List Rat) (y2' y3' y4' : SV), M'.Pairwise (· ≤ ·) ∧ M'.Perm (M ++ L) ∧
    forLoop (sName 2) b0_in_order (L.map rd) [.val V, .val (.list (M.map rd)), y2, y3, y4] = .nx [.val V, .val (.list (M'.map rd)), y2', y3', y4']
  | [], M, y2, y3, y4, _, _, hM, _ => ⟨M, y2, y3, y4, hM, by simp, rfl⟩
  | x :: L, M, y2, y3, y4, hL, hd, hM, hl => by
    simp only [List.length_cons] at hl
    have hx := hL x List.mem_cons_self
    obtain ⟨k, hk⟩ : ∃ k, (M.filter fun o => !decide (x < o)).length = k := ⟨_, rfl⟩
    have pu := put_up x M hM
    rw [hk] at pu
    have pp := put_perm x M k
    have kl : k ≤ M.length := by rw [← hk]; exact List.length_filter_le _ _
    obtain ⟨M', y2', y3', y4', g1, g2, g3⟩ := order_go V L (M.take k ++ [x] ++ M.drop k) (.val (rd x)) (.val (.int (k : Nat))) y4 (fun z hz => hL z (.tail _ hz)) (fun z hz => by
      rcases List.mem_append.mp (pp.mem_iff.mp hz) with q | q
      · exact hd z q
      · rw [List.mem_singleton.mp q]; exact hx) pu (by rw [pp.length_eq]; simp; omega)
    refine ⟨M', y2', y3', y4', g1, g2.trans ?_, ?_⟩
    · have : (M ++ [x] ++ L).Perm (M ++ x :: L) := by simp
      exact (List.perm_append_right_iff _ |>.mpr pp).trans this
    · rw [List.map_cons, for_cons (ρ1 := [.val V, .val (.list (M.map rd)), .val (rd x), y3, y4]) (ρ2 := [.val V, .val (.list ((M.take k ++ [x] ++ M.drop k).map rd)), .val (rd x), .val (.int (k : Nat)), y4]) rfl ?_, g3]
      have go : ∀ N : List Rat, (∀ z ∈ N, z.den < 9000000000000000000) → lcGo (sName 4) (cNot (cTest (cCall f_is_less (aCons (cVar 2) (aCons (cVar 4) aNil))))) (cVar 4) [.val V, .val (.list (M.map rd)), .val (rd x), y3, .no] (N.map rd) = .ok ((N.filter fun o => !decide (x < o)).map rd) := by
        intro N hN
        induction N with
        | nil => rfl
        | cons z N ih =>
          have l := less_rd hx (hN z List.mem_cons_self)
          have ih' := ih fun u hu => hN u (.tail _ hu)
          rw [List.map_cons, lcGo_cons]
          generalize N.map rd = RR at ih' ⊢
          by_cases c : x < z
          · rw [decide_eq_true c] at l
            simp [l, ih', c]
          · rw [decide_eq_false c] at l
            simp [l, ih', c]
      have g := go M hd
      have c1 : cut (M.map rd) none (some (k : Int)) = (M.take k).map rd := by rw [cut_most, List.map_take]
      have c2 : cut (M.map rd) (some (k : Int)) none = (M.drop k).map rd := by rw [cut_from, List.map_drop]
      have ml : (M.map rd).length ≤ 100000 := by simp; omega
      have fl : ((M.filter fun o => !decide (x < o)).map rd).length = k := by rw [List.length_map, hk]
      have t1 : ((M.take k).map rd).length + 1 ≤ 100000 := by simp; omega
      have t2 : ((M.take k).map rd).length + 1 + ((M.drop k).map rd).length ≤ 100000 := by simp; omega
      generalize (M.filter fun o => !decide (x < o)).map rd = FF at g fl
      simp only [List.map_append, List.map_cons, List.map_nil]
      generalize (M.take k).map rd = TK at c1 t1 t2 ⊢
      generalize (M.drop k).map rd = DR at c2 t2 ⊢
      generalize M.map rd = MM at g c1 c2 ml ⊢
      simp [b0_in_order, wipeR, ml, g, fl, c1, c2, t1]
      omega
theorem in_order_rd {L : List Rat} (hL : ∀ x ∈ L, x.den < 9000000000000000000) (hl : L.length ≤ 10000) : ∃ M : List Rat, f_in_order [.list (L.map rd)] = .ok (.list (M.map rd)) ∧ M.Perm L ∧ M.Pairwise (· ≤ ·) := by
  obtain ⟨M, y2, y3, y4, g1, g2, g3⟩ := order_go (.list (L.map rd)) L [] .no .no .no hL (by simp) .nil (by simp; omega)
  refine ⟨M, ?_, by simpa using g2, g1⟩
  rw [List.map_nil] at g3
  generalize L.map rd = LL at g3 ⊢
  simp [f_in_order, semOf, c_in_order, g3]
end DL.Q

/-! MW -/
namespace DL.Q
open PySem L2 DL.Dr
/-! ### Euclid's loop on great numbers -/
theorem mod_half {y z : Nat} (h : 0 < z) (k : z ≤ y) : 2 * (y % z) < 2 * y ∧ 2 * (y % z) ≤ y := by
  have e := Nat.div_add_mod y z
  have l := Nat.mod_lt y h
  have q : 1 ≤ y / z := (Nat.le_div_iff_mul_le h).mpr (by omega)
  have m : z ≤ z * (y / z) := Nat.le_mul_of_pos_right _ q
  omega
theorem euclid2 {t : Env → R Bool} {b : Env → Out} {E : Nat → Nat → Env} (ht : ∀ x y, t (E x y) = .ok (decide (0 < y))) (hb : ∀ x y, 0 < y → b (E x y) = .nx (E y (x % y))) : ∀ (n f x y : Nat), y < 2 ^ n → 2 * n + 1 ≤ f → whileLoop t b f (E x y) = .nx (E (Nat.gcd x y) 0)
  | 0, f + 1, x, y, h, _ => by
    have : y = 0 := by simpa using h
    subst this
    rw [while_stop (by rw [ht]; rfl), Nat.gcd_zero_right]
  | n + 1, f + 1, x, y, h, hf => by
    by_cases hy : 0 < y
    · rw [while_go (by rw [ht, decide_eq_true hy]) (hb x y hy)]
      match f, hf with
      | f + 1, hf =>
        by_cases hz : 0 < x % y
        · rw [while_go (by rw [ht, decide_eq_true hz]) (hb y (x % y) hz)]
          have m := mod_half hz (Nat.le_of_lt (Nat.mod_lt x hy))
          have p2 : 2 ^ (n + 1) = 2 * 2 ^ n := by rw [Nat.pow_succ, Nat.mul_comm]
          rw [euclid2 ht hb n f (x % y) (y % (x % y)) (by omega) (by omega)]
          congr 2
          rw [Nat.gcd_comm (x % y), ← Nat.gcd_rec, Nat.gcd_comm, Nat.gcd_comm x, Nat.gcd_rec y x, Nat.gcd_comm]
        · have z0 : x % y = 0 := by omega
          rw [z0, while_stop (by rw [ht]; rfl)]
          congr 2
          rw [Nat.gcd_comm, Nat.gcd_rec, z0, Nat.gcd_zero_left]
    · have : y = 0 := by omega
      subst this
      rw [while_stop (by rw [ht]; rfl), Nat.gcd_zero_right]
theorem plain_okW (p q : Int) {n : Nat} (hq : q ≠ 0) (hb : q.natAbs < 2 ^ n) (h0 : 0 < n) (hn : n ≤ 4000) : f__law_plain [.int p, .int q] = .ok (fr p q) := by
  have g0 : 0 < p.gcd q := Int.gcd_pos_of_ne_zero_right p hq
  have g1 : p.gcd q ≤ q.natAbs := Int.gcd_le_natAbs_right p hq
  have g2 : ((p.gcd q : Nat) : Int).natAbs < 2 ^ n := Nat.lt_of_le_of_lt g1 hb
  have c1 : CDivW p (p.gcd q) := wide_div (b := n) (by omega) g2 h0 (by omega)
  have c2 : CDivW q (p.gcd q) := wide_div (b := n) (by omega) g2 h0 (by omega)
  have m : ∀ i : Int, (if i < -i then -i else i) = (i.natAbs : Int) := fun i => by split <;> omega
  have e := euclid2 (t := cTest (cOp oGt (cBor 3) (cC (.int 0)))) (b := b0__law_plain) (E := fun x y => [.val (.int p), .val (.int q), .val (.int (x : Nat)), .val (.int (y : Nat))]) (fun x y => by simp) (fun x y hy => by
    simp [b0__law_plain]
    omega) n FUEL p.natAbs q.natAbs hb (by unfold FUEL; omega)
  have e' : whileLoop (cTest (cOp oGt (cBor 3) (cC (.int 0)))) b0__law_plain FUEL [.val (.int p), .val (.int q), .val (.int (p.natAbs : Int)), .val (.int (q.natAbs : Int))] = .nx [.val (.int p), .val (.int q), .val (.int (p.gcd q : Int)), .val (.int 0)] := e
  clear hb g2
  by_cases h : 0 < q
  · simp only [f__law_plain, semOf, c__law_plain]
    simp [m, e', h, c1, c2, fr, num, den]
  · simp only [f__law_plain, semOf, c__law_plain]
    simp [m, e', h, c1, c2, fr, num, den]
theorem plain_rdW (p q : Int) {n : Nat} (hq : q ≠ 0) (hb : q.natAbs < 2 ^ n) (h0 : 0 < n) (hn : n ≤ 4000) : f__law_plain [.int p, .int q] = .ok (rd ((p : Rat) / (q : Rat))) := by rw [plain_okW p q hq hb h0 hn, fr_rd hq]
/-! ### the law's sorting, with no quotient twice -/
def prodD : List Rat → Nat
  | [] => 1
  | a :: L => a.den * prodD L
theorem prodD_pos : ∀ L : List Rat, 0 < prodD L
  | [] => Nat.one_pos
  | a :: L => Nat.mul_pos a.den_pos (prodD_pos L)
theorem prodD_dvd {x : Rat} : ∀ {L : List Rat}, x ∈ L → x.den ∣ prodD L
  | a :: L, h => by
    rcases (List.mem_cons.mp h) with rfl | h
    · exact Nat.dvd_mul_right _ _
    · exact Nat.dvd_mul_left_of_dvd (prodD_dvd h) _
theorem prodD_le (n : Nat) : ∀ L : List Rat, (∀ x ∈ L, x.den ≤ n) → prodD L ≤ n ^ L.length
  | [], _ => Nat.le_refl _
  | a :: L, h => by
    rw [List.length_cons, Nat.pow_succ, Nat.mul_comm]
    exact Nat.mul_le_mul (h a List.mem_cons_self) (prodD_le n L fun x hx => h x (.tail _ hx))
theorem prod_go (V : D) : ∀ (L : List Rat) (w : Nat) (y2 y3 : SV), (∀ x ∈ L, x.den < 9000000000000000000) → ∃ y2', forLoop (sName 2) b0__law_sorted (L.map rd) [.val V, .val (.int (w : Nat)), y2, y3] = .nx [.val V, .val (.int ((w * prodD L : Nat) : Int)), y2', y3]
  | [], w, y2, y3, _ => ⟨y2, by simp [prodD, for_nil]⟩
  | a :: L, w, y2, y3, h => by
    have ha := h a List.mem_cons_self
    obtain ⟨y2', e⟩ := prod_go V L (w * a.den) (.val (rd a)) y3 fun x hx => h x (.tail _ hx)
    refine ⟨y2', ?_⟩
    rw [List.map_cons, for_cons (ρ1 := [.val V, .val (.int (w : Nat)), .val (rd a), y3]) (ρ2 := [.val V, .val (.int ((w * a.den : Nat) : Int)), .val (rd a), y3]) rfl ?_, e, show prodD (a :: L) = a.den * prodD L from rfl, Nat.mul_assoc]
    simp [b0__law_sorted, rd_den, cmul_r (i := (w : Int)) (j := (a.den : Int)) (by omega)]
theorem mul_div_w {z w : Rat} (h : 0 < w) : z * w / w = z := by grind
theorem div_lt_w {p r w : Rat} (h : 0 < w) (k : p < r) : p / w < r / w := by
  have e : r / w * w = r := by grind
  rw [Rat.div_lt_iff h, e]
  exact k
theorem div_dvd_w (x : Rat) (W k : Nat) (hk : W = x.den * k) : ((x.num * (k : Int) : Int) : Rat) = x * ((W : Int) : Rat) := by
  rw [hk, Rat.intCast_mul, Int.natCast_mul, Rat.intCast_mul, ← rat_mul_den x]
  grind
theorem law_sorted_rd {L : List Rat} {n : Nat} (hW : prodD L < 2 ^ n) (h0 : 0 < n) (hn : n ≤ 4000) (hd : ∀ x ∈ L, x.den < 9000000000000000000) (hnum : ∀ x ∈ L, -18446744073709551616 < x.num ∧ x.num < 18446744073709551616) (hl : L.length ≤ 4000) : ∃ M : List Rat, f__law_sorted [.list (L.map rd)] = .ok (.list (M.map rd)) ∧ M.Pairwise (· < ·) ∧ (∀ x, x ∈ M ↔ x ∈ L) ∧ M.length ≤ L.length := by
  have W0 := prodD_pos L
  obtain ⟨y2, e1⟩ := prod_go (.list (L.map rd)) L 1 .no .no hd
  rw [Nat.one_mul] at e1
  obtain ⟨W, eW⟩ : ∃ W, prodD L = W := ⟨_, rfl⟩
  have dv : ∀ x ∈ L, x.den ∣ W := fun x hx => by rw [← eW]; exact prodD_dvd hx
  rw [eW] at e1 W0 hW
  have wq : (0 : Rat) < ((W : Int) : Rat) := Rat.intCast_lt_intCast.mpr (show (0 : Int) < W by omega)
  have up : ∀ x ∈ L, ((x.num * ((W : Int) / (x.den : Int)) : Int) : Rat) = x * ((W : Int) : Rat) := fun x hx => by
    obtain ⟨k, hk⟩ := dv x hx
    have e : (W : Int) / (x.den : Int) = (k : Int) := by
      rw [hk, Int.natCast_mul]
      exact Int.mul_ediv_cancel_left _ (by have := x.den_pos; omega)
    rw [e]
    exact div_dvd_w x W k hk
  have g1 : ∀ N : List Rat, (∀ x ∈ N, x ∈ L) → lcGo (sName 2) cYes (cOp oMul1 (cOp oIxA (cBor 2) (cC (.int 0))) (cOp oDiv (cBor 1) (cOp oIxA (cBor 2) (cC (.int 1))))) [.val (.list (L.map rd)), .val (.int (W : Int)), .no, .no] (N.map rd) = .ok ((N.map fun x => x.num * ((W : Int) / (x.den : Int))).map .int) := by
    intro N hN
    induction N with
    | nil => rfl
    | cons z N ih =>
      have hz := hN z List.mem_cons_self
      have d0 := z.den_pos
      have d1 := hd z hz
      have ih' := ih fun u hu => hN u (.tail _ hu)
      rw [List.map_cons, lcGo_cons]
      generalize N.map rd = RR at ih' ⊢
      simp [rd_num, rd_den, cdivw (i := (W : Int)) (j := (z.den : Int)) (by omega), cmul_l (i := z.num) (j := (W : Int) / (z.den : Int)) (hnum z hz), ih']
  have g1' := g1 L fun x hx => hx
  have s1 : bSet1 [.list ((L.map fun x => x.num * ((W : Int) / (x.den : Int))).map .int)] = some (.list ((sset (L.map fun x => x.num * ((W : Int) / (x.den : Int)))).map .int)) := by
    have ln : (L.map fun x => x.num * ((W : Int) / (x.den : Int))).length ≤ 4000 := by rw [List.length_map]; exact hl
    generalize (L.map fun x => x.num * ((W : Int) / (x.den : Int))) = Z at ln ⊢
    simp only [bSet1, intsD_map, Option.bind_some, if_pos ln]
  have g2 : ∀ N : List Int, lcGo (sName 3) cYes (cCall f__law_plain (aCons (cVar 3) (aCons (cVar 1) aNil))) [.val (.list (L.map rd)), .val (.int (W : Int)), y2, .no] (N.map .int) = .ok ((N.map fun u : Int => (u : Rat) / ((W : Int) : Rat)).map rd) := by
    intro N
    induction N with
    | nil => rfl
    | cons u N ih =>
      have p := plain_rdW u (W : Int) (n := n) (by omega) hW h0 hn
      rw [List.map_cons, lcGo_cons]
      generalize N.map PyData.int = RR at ih ⊢
      simp [p, ih]
  have g2' := g2 (sset (L.map fun x => x.num * ((W : Int) / (x.den : Int))))
  have sl := sset_len (L.map fun x => x.num * ((W : Int) / (x.den : Int)))
  rw [List.length_map] at sl
  refine ⟨(sset (L.map fun x => x.num * ((W : Int) / (x.den : Int)))).map fun u : Int => (u : Rat) / ((W : Int) : Rat), ?_, ?_, fun x => ?_, by rw [List.length_map]; exact sl⟩
  · generalize (sset (L.map fun x => x.num * ((W : Int) / (x.den : Int)))) = SS at *
    have sl2 : (SS.map PyData.int).length ≤ 100000 := by simp; omega
    have ll : (L.map rd).length ≤ 100000 := by simp; omega
    generalize (L.map fun x => x.num * ((W : Int) / (x.den : Int))).map PyData.int = TT at *
    generalize (SS.map fun u : Int => (u : Rat) / ((W : Int) : Rat)).map rd = UU at *
    generalize SS.map PyData.int = S2 at *
    generalize L.map rd = LL at *
    have e1' : forLoop (sName 2) b0__law_sorted LL [.val (.list LL), .val (.int 1), .no, .no] = .nx [.val (.list LL), .val (.int (W : Int)), y2, .no] := e1
    simp only [f__law_sorted, semOf, c__law_sorted]
    simp [e1', wipeR, ll, g1', s1, sl2, g2']
  · rw [List.pairwise_map]
    refine (sset_up _).imp fun {a b} hab => ?_
    exact div_lt_w wq (Rat.intCast_lt_intCast.mpr hab)
  · rw [List.mem_map]
    constructor
    · rintro ⟨u, hu, rfl⟩
      obtain ⟨z, hz, rfl⟩ := List.mem_map.mp (mem_sset.mp hu)
      rw [up z hz, mul_div_w wq]
      exact hz
    · intro hx
      refine ⟨x.num * ((W : Int) / (x.den : Int)), mem_sset.mpr (List.mem_map.mpr ⟨x, hx, rfl⟩), ?_⟩
      rw [up x hx, mul_div_w wq]
/-! ### what is a quotient, a light -/
theorem is_ratio_rd {a : Rat} (h : a.den < FUEL) : f_is_ratio [rd a] = .ok (.bool true) := is_ratio_ok (rat_low a) (by omega)
theorem is_small_rd {a : Rat} (h : a.den < FUEL) : f_is_small [rd a] = .ok (.bool (decide (-1000000 ≤ a.num ∧ a.num ≤ 1000000 ∧ a.den ≤ 1000000))) := by
  have r := is_ratio_rd h
  have w1 := is_whole_ok (.int a.num) (-1000000) 1000000
  have w2 := is_whole_ok (.int (a.den : Nat)) 1 1000000
  have dp := a.den_pos
  have cp : CPow 10 6 := by decide
  have pw : (10 : Int) ^ (6 : Int).toNat = 1000000 := by decide
  by_cases c : -1000000 ≤ a.num ∧ a.num ≤ 1000000
  · by_cases c2 : a.den ≤ 1000000
    · have v1 : isW (.int a.num) (-1000000) 1000000 = true := by simp [isW]; omega
      have v2 : isW (.int (a.den : Nat)) 1 1000000 = true := by simp [isW]; omega
      rw [v1] at w1; rw [v2] at w2
      simp [f_is_small, semOf, c_is_small, r, rd_num, rd_den, cp, pw, w1, w2, c, c2]
      omega
    · have v1 : isW (.int a.num) (-1000000) 1000000 = true := by simp [isW]; omega
      have v2 : isW (.int (a.den : Nat)) 1 1000000 = false := by simp [isW]; omega
      rw [v1] at w1; rw [v2] at w2
      simp [f_is_small, semOf, c_is_small, r, rd_num, rd_den, cp, pw, w1, w2, c, c2]
      omega
  · have v1 : isW (.int a.num) (-1000000) 1000000 = false := by simp [isW]; omega
    rw [v1] at w1
    have c' : -1000000 ≤ a.num → a.num ≤ 1000000 → ¬ a.den ≤ 1000000 := fun h1 h2 => absurd ⟨h1, h2⟩ c
    simp [f_is_small, semOf, c_is_small, r, rd_num, rd_den, cp, pw, w1]
    omega
/-- a light -/
def Lit (a : Rat) : Prop := (-1000000 ≤ a.num ∧ a.num ≤ 1000000 ∧ a.den ≤ 1000000) ∧ -100 ≤ a ∧ a ≤ 100
instance (a : Rat) : Decidable (Lit a) := by unfold Lit; infer_instance
theorem is_light_rd {a : Rat} (h : a.den < 9000000000000000000) : f_is_light [rd a] = .ok (.bool (decide (Lit a))) := by
  have s := is_small_rd (a := a) (by unfold FUEL; omega)
  have l1 := less_rd (a := a) (b := ((-100 : Int) : Rat)) h (by decide)
  have l2 := less_rd (a := ((100 : Int) : Rat)) (b := a) (by decide) h
  rw [rd_int] at l1 l2
  have e1 : ((-100 : Int) : Rat) = -100 := rfl
  have e2 : ((100 : Int) : Rat) = 100 := rfl
  rw [e1] at l1
  rw [e2] at l2
  by_cases c : -1000000 ≤ a.num ∧ a.num ≤ 1000000 ∧ a.den ≤ 1000000
  · rw [decide_eq_true c] at s
    by_cases c1 : a < -100
    · rw [decide_eq_true c1] at l1
      have n : ¬ Lit a := fun z => by have := z.2.1; grind
      simp [f_is_light, semOf, c_is_light, s, l1, n]
    · rw [decide_eq_false c1] at l1
      by_cases c2 : 100 < a
      · rw [decide_eq_true c2] at l2
        have n : ¬ Lit a := fun z => by have := z.2.2; grind
        simp [f_is_light, semOf, c_is_light, s, l1, l2, n]
      · rw [decide_eq_false c2] at l2
        have n : Lit a := ⟨c, by grind, by grind⟩
        simp [f_is_light, semOf, c_is_light, s, l1, l2, n]
  · rw [decide_eq_false c] at s
    have n : ¬ Lit a := fun z => c z.1
    simp [f_is_light, semOf, c_is_light, s, n]
end DL.Q

/-! MJ -/
namespace DL.Q
open PySem L2 DL.Dr
/-! ### stretches put together: pairs (from, to), as they can be told in one way alone -/
abbrev Sn := Rat × Rat
def sp (s : Sn) : D := .tuple [rd s.1, rd s.2]
def Mem (L : List Sn) (x : Rat) : Prop := ∃ s ∈ L, s.1 ≤ x ∧ x ≤ s.2
structure Can (L : List Sn) : Prop where
  pos : ∀ s ∈ L, s.1 < s.2
  gap : L.Pairwise fun s t => s.2 < t.1
theorem Can.tail {s : Sn} {L : List Sn} (h : Can (s :: L)) : Can L := ⟨fun u hu => h.pos u (.tail _ hu), (List.pairwise_cons.mp h.gap).2⟩
theorem Can.head {s : Sn} {L : List Sn} (h : Can (s :: L)) : s.1 < s.2 ∧ ∀ u ∈ L, s.2 < u.1 := ⟨h.pos s List.mem_cons_self, (List.pairwise_cons.mp h.gap).1⟩
theorem Can.nil : Can [] := ⟨fun _ h => (by cases h), List.Pairwise.nil⟩
theorem first_le {s t : Sn} {L M : List Sn} (h : Can (s :: L)) (k : Can (t :: M)) (e : ∀ x, Mem (s :: L) x → Mem (t :: M) x) : t.1 ≤ s.1 := by
  obtain ⟨h1, h2⟩ := h.head
  obtain ⟨k1, k2⟩ := k.head
  obtain ⟨v, hv, v1, v2⟩ := e s.1 ⟨s, List.mem_cons_self, by grind, by grind⟩
  rcases (List.mem_cons.mp hv) with rfl | hv
  · exact v1
  · have := k2 v hv
    grind
theorem end_le {s t : Sn} {L M : List Sn} (h : Can (s :: L)) (k : Can (t :: M)) (a : s.1 = t.1) (e : ∀ x, Mem (t :: M) x → Mem (s :: L) x) : t.2 ≤ s.2 := by
  obtain ⟨h1, h2⟩ := h.head
  obtain ⟨k1, k2⟩ := k.head
  by_cases c : t.2 ≤ s.2
  · exact c
  · exfalso
    match L, h, h2, e with
    | [], h, h2, e =>
      obtain ⟨v, hv, v1, v2⟩ := e t.2 ⟨t, List.mem_cons_self, by grind, by grind⟩
      rw [List.mem_singleton.mp hv] at v2
      exact c v2
    | u :: L, h, h2, e =>
      have hu := h2 u List.mem_cons_self
      obtain ⟨x, x1, x2, x3⟩ : ∃ x : Rat, s.2 < x ∧ x ≤ t.2 ∧ x < u.1 := by
        by_cases q : t.2 < u.1
        · exact ⟨t.2, by grind, by grind, q⟩
        · exact ⟨(s.2 + u.1) / 2, by grind, by grind, by grind⟩
      obtain ⟨v, hv, v1, v2⟩ := e x ⟨t, List.mem_cons_self, by grind, x2⟩
      rcases (List.mem_cons.mp hv) with rfl | hv
      · grind
      · rcases List.mem_cons.mp hv with rfl | hv
        · grind
        · obtain ⟨m1, m2⟩ := h.tail.head
          have := m2 v hv
          grind
theorem rest_mem {s t : Sn} {L M : List Sn} (h : Can (s :: L)) (k : Can (t :: M)) (b : s.2 = t.2) (e : ∀ x, Mem (s :: L) x → Mem (t :: M) x) (x : Rat) (hx : Mem L x) : Mem M x := by
  obtain ⟨h1, h2⟩ := h.head
  obtain ⟨v, hv, v1, v2⟩ := hx
  have := h2 v hv
  obtain ⟨w, hw, w1, w2⟩ := e x ⟨v, .tail _ hv, v1, v2⟩
  rcases List.mem_cons.mp hw with rfl | hw
  · grind
  · exact ⟨w, hw, w1, w2⟩
theorem can_one : ∀ {L M : List Sn}, Can L → Can M → (∀ x, Mem L x ↔ Mem M x) → L = M
  | [], [], _, _, _ => rfl
  | [], t :: M, _, k, e => by
    obtain ⟨v, hv, _⟩ := (e t.1).mpr ⟨t, List.mem_cons_self, by grind, by have := k.head.1; grind⟩
    cases hv
  | s :: L, [], h, _, e => by
    obtain ⟨v, hv, _⟩ := (e s.1).mp ⟨s, List.mem_cons_self, by grind, by have := h.head.1; grind⟩
    cases hv
  | s :: L, t :: M, h, k, e => by
    have a : s.1 = t.1 := by
      have := first_le h k fun x => (e x).mp
      have := first_le k h fun x => (e x).mpr
      grind
    have b : s.2 = t.2 := by
      have := end_le h k a fun x => (e x).mpr
      have := end_le k h a.symm fun x => (e x).mp
      grind
    have c := can_one h.tail k.tail fun x => ⟨rest_mem h k b (fun x => (e x).mp) x, rest_mem k h b.symm (fun x => (e x).mpr) x⟩
    rw [c, Prod.ext a b]
/-! a list's last item -/
theorem ixN_last {n : Nat} : ixN (n + 1) (-1) = some n := by
  unfold ixN
  simp
  omega
theorem atI_last {α : Type} (l : List α) (x : α) : atI (l ++ [x]) (-1) = some x := by
  unfold atI
  rw [List.length_append, List.length_singleton, ixN_last]
  simp
theorem set_last {α : Type} (l : List α) (x y : α) : (l ++ [x]).set l.length y = l ++ [y] := by
  rw [List.set_append_right _ _ (Nat.le_refl _)]
  simp
/-! ### put_together -/
theorem sp0 (s : Sn) : oIxA (sp s) (.int 0) = some (rd s.1) := rfl
theorem sp1 (s : Sn) : oIxA (sp s) (.int 1) = some (rd s.2) := rfl
section
variable {P : Rat → Prop}
theorem pt_in (hP : ∀ x, P x → x.den < 9000000000000000000) {b : Rat} (hb : P b) {x0 x2 x3 : SV} : ∀ (l : List Sn) (e : Rat) (y1 : SV), (∀ s ∈ l, P s.1 ∧ P s.2) → P e → ∃ (e' : Rat) (y1' : SV), P e' ∧ e ≤ e' ∧ (∀ s ∈ l, s.1 = b → s.2 ≤ e') ∧ (e' = e ∨ ∃ s ∈ l, s.1 = b ∧ s.2 = e') ∧
    forLoop (sName 1) b1_put_together (l.map sp) [x0, y1, x2, x3, .val (rd b), .val (rd e)] = .nx [x0, y1', x2, x3, .val (rd b), .val (rd e')]
  | [], e, y1, _, he => ⟨e, y1, he, Rat.le_refl, fun s hs => (by cases hs), .inl rfl, rfl⟩
  | s :: l, e, y1, hl, he => by
    obtain ⟨p1, p2⟩ := hl s List.mem_cons_self
    have q := oEq_rd s.1 b
    have gr := greatest_rd (hP _ he) (hP _ p2)
    by_cases c : s.1 = b
    · have hm : P (mx e s.2) := by rcases mx_or e s.2 with z | z <;> rw [z] <;> assumption
      obtain ⟨e', y1', g1, g2, g3, g4, g5⟩ := pt_in hP hb (x0 := x0) (x2 := x2) (x3 := x3) l (mx e s.2) (.val (sp s)) (fun u hu => hl u (.tail _ hu)) hm
      have m1 : e ≤ mx e s.2 ∧ s.2 ≤ mx e s.2 := by unfold mx; split <;> grind
      refine ⟨e', y1', g1, by grind, fun u hu hub => ?_, ?_, ?_⟩
      · rcases (List.mem_cons.mp hu) with rfl | hu
        · grind
        · exact g3 u hu hub
      · rcases g4 with g4 | ⟨u, hu, u1, u2⟩
        · rcases mx_or e s.2 with z | z
          · exact .inl (by rw [g4, z])
          · exact .inr ⟨s, List.mem_cons_self, c, by rw [g4, z]⟩
        · exact .inr ⟨u, .tail _ hu, u1, u2⟩
      · rw [decide_eq_true c] at q
        rw [List.map_cons, for_cons (ρ1 := [x0, .val (sp s), x2, x3, .val (rd b), .val (rd e)]) (ρ2 := [x0, .val (sp s), x2, x3, .val (rd b), .val (rd (mx e s.2))]) rfl ?_, g5]
        simp [b1_put_together, sp0, sp1, q, gr]
    · obtain ⟨e', y1', g1, g2, g3, g4, g5⟩ := pt_in hP hb (x0 := x0) (x2 := x2) (x3 := x3) l e (.val (sp s)) (fun u hu => hl u (.tail _ hu)) he
      refine ⟨e', y1', g1, g2, fun u hu hub => ?_, ?_, ?_⟩
      · rcases (List.mem_cons.mp hu) with rfl | hu
        · exact absurd hub c
        · exact g3 u hu hub
      · rcases g4 with g4 | ⟨u, hu, u1, u2⟩
        · exact .inl g4
        · exact .inr ⟨u, .tail _ hu, u1, u2⟩
      · rw [decide_eq_false c] at q
        rw [List.map_cons, for_cons (ρ1 := [x0, .val (sp s), x2, x3, .val (rd b), .val (rd e)]) (ρ2 := [x0, .val (sp s), x2, x3, .val (rd b), .val (rd e)]) rfl ?_, g5]
        simp [b1_put_together, sp0, sp1, q, gr]
theorem can_app {G : List Sn} {s : Sn} (h : Can G) (k : s.1 < s.2) (e : ∀ u ∈ G, u.2 < s.1) : Can (G ++ [s]) := by
  refine ⟨fun u hu => ?_, List.pairwise_append.mpr ⟨h.gap, List.pairwise_singleton _ _, fun a ha b hb => ?_⟩⟩
  · rcases List.mem_append.mp hu with hu | hu
    · exact h.pos u hu
    · rw [List.mem_singleton.mp hu]; exact k
  · rw [List.mem_singleton.mp hb]; exact e a ha
theorem can_init {G : List Sn} {s : Sn} (h : Can (G ++ [s])) : Can G ∧ s.1 < s.2 ∧ ∀ u ∈ G, u.2 < s.1 := by
  obtain ⟨g1, _, g2⟩ := List.pairwise_append.mp h.gap
  exact ⟨⟨fun u hu => h.pos u (List.mem_append_left _ hu), g1⟩, h.pos s (List.mem_append_right _ (List.mem_singleton.mpr rfl)), fun u hu => g2 u hu s (List.mem_singleton.mpr rfl)⟩
theorem mem_app {G : List Sn} {s : Sn} {x : Rat} : Mem (G ++ [s]) x ↔ Mem G x ∨ (s.1 ≤ x ∧ x ≤ s.2) := by
  unfold Mem
  constructor
  · rintro ⟨u, hu, h⟩
    rcases (List.mem_append.mp hu) with hu | hu
    · exact .inl ⟨u, hu, h⟩
    · rw [List.mem_singleton.mp hu] at h
      exact .inr h
  · rintro (⟨u, hu, h⟩ | h)
    · exact ⟨u, List.mem_append_left _ hu, h⟩
    · exact ⟨s, List.mem_append_right _ (List.mem_singleton.mpr rfl), h⟩
/-- one turn of the outer loop: what becomes of the stretches found -/
theorem pt_turn (hP : ∀ x, P x → x.den < 9000000000000000000) {left : List Sn} (hl : ∀ s ∈ left, P s.1 ∧ P s.2) (hpos : ∀ s ∈ left, s.1 < s.2) {b : Rat} (hb : P b) (hex : ∃ s ∈ left, s.1 = b) {F : List Sn} (hF : Can F) (hFP : ∀ s ∈ F, P s.1 ∧ P s.2) (hFb : ∀ u ∈ F, u.1 ≤ b) (hn : F.length < 100000) (x0 y1 y5 : SV) :
    ∃ (F' : List Sn) (y1' y5' : SV), Can F' ∧ (∀ s ∈ F', P s.1 ∧ P s.2) ∧ (∀ u ∈ F', u.1 ≤ b) ∧ F'.length ≤ F.length + 1 ∧ (∀ x, Mem F' x ↔ Mem F x ∨ ∃ s ∈ left, s.1 = b ∧ s.1 ≤ x ∧ x ≤ s.2) ∧
      b0_put_together [x0, y1, .val (.list (left.map sp)), .own (F.map sp), .val (rd b), y5] = .nx [x0, y1', .val (.list (left.map sp)), .own (F'.map sp), .val (rd b), y5'] := by
  obtain ⟨E, y1', g1, g2, g3, g4, g5⟩ := pt_in hP hb (x0 := x0) (x2 := .val (.list (left.map sp))) (x3 := .own (F.map sp)) left b y1 hl hb
  obtain ⟨s0, h0, e0⟩ := hex
  have bE : b < E := by
    have := g3 s0 h0 e0
    have := hpos s0 h0
    grind
  have range : ∀ x, (∃ s ∈ left, s.1 = b ∧ s.1 ≤ x ∧ x ≤ s.2) ↔ (b ≤ x ∧ x ≤ E) := fun x => by
    constructor
    · rintro ⟨s, hs, a1, a2, a3⟩
      have := g3 s hs a1
      exact ⟨by grind, by grind⟩
    · rintro ⟨a1, a2⟩
      rcases g4 with g4 | ⟨u, hu, u1, u2⟩
      · grind
      · exact ⟨u, hu, u1, by grind, by grind⟩
  rcases List.eq_nil_or_concat F with rfl | ⟨G, s, rfl⟩
  · refine ⟨[(b, E)], y1', .val (rd E), ⟨fun u hu => ?_, List.pairwise_singleton _ _⟩, fun u hu => ?_, fun u hu => ?_, by simp, fun x => ?_, ?_⟩
    · rw [List.mem_singleton.mp hu]; exact bE
    · rw [List.mem_singleton.mp hu]; exact ⟨hb, g1⟩
    · rw [List.mem_singleton.mp hu]; exact Rat.le_refl
    · rw [range x]
      unfold Mem
      constructor
      · rintro ⟨u, hu, k⟩
        rw [List.mem_singleton.mp hu] at k
        exact .inr k
      · rintro (⟨u, hu, _⟩ | k)
        · cases hu
        · exact ⟨_, List.mem_singleton.mpr rfl, k⟩
    · generalize left.map sp = LL at g5 ⊢
      simp only [List.map_nil] at g5 ⊢
      simp [b0_put_together, g5, sp]
  · simp only [List.concat_eq_append] at *
    obtain ⟨c1, c2, c3⟩ := can_init hF
    have hs := hFP s (List.mem_append_right _ (List.mem_singleton.mpr rfl))
    have sb := hFb s (List.mem_append_right _ (List.mem_singleton.mpr rfl))
    have hG : ∀ u ∈ G, P u.1 ∧ P u.2 := fun u hu => hFP u (List.mem_append_left _ hu)
    have hGb : ∀ u ∈ G, u.1 ≤ b := fun u hu => hFb u (List.mem_append_left _ hu)
    have ls := less_rd (hP _ hs.2) (hP _ hb)
    have gr := greatest_rd (hP _ hs.2) (hP _ g1)
    have al := atI_last (G.map sp) (sp s)
    have sl := set_last (G.map sp) (sp s) (sp (s.1, mx s.2 E))
    rw [List.length_append, List.length_singleton] at hn
    rw [List.length_map] at sl
    have ixl : ixN (G.length + 1) (-1) = some G.length := ixN_last
    by_cases c : s.2 < b
    · rw [decide_eq_true c] at ls
      refine ⟨G ++ [s] ++ [(b, E)], y1', .val (rd E), can_app hF bE fun u hu => ?_, fun u hu => ?_, fun u hu => ?_, by simp, fun x => by rw [range x, mem_app], ?_⟩
      · rcases List.mem_append.mp hu with hu | hu
        · have := c3 u hu
          grind
        · rw [List.mem_singleton.mp hu]; exact c
      · rcases List.mem_append.mp hu with hu | hu
        · exact hFP u hu
        · rw [List.mem_singleton.mp hu]; exact ⟨hb, g1⟩
      · rcases List.mem_append.mp hu with hu | hu
        · exact hFb u hu
        · rw [List.mem_singleton.mp hu]; exact Rat.le_refl
      · generalize left.map sp = LL at g5 ⊢
        simp only [List.map_append, List.map_cons, List.map_nil] at g5 ⊢
        have tk : (G.map sp).length + 1 < 100000 := by simp; omega
        generalize hGG : G.map sp = GG at g5 al tk ⊢
        simp [b0_put_together, g5, al, sp1, ls, tk]
        first | rfl | simp [sp]
    · rw [decide_eq_false c] at ls
      have m1 : s.2 ≤ mx s.2 E ∧ E ≤ mx s.2 E ∧ (mx s.2 E = s.2 ∨ mx s.2 E = E) := ⟨by unfold mx; split <;> grind, by unfold mx; split <;> grind, mx_or _ _⟩
      refine ⟨G ++ [(s.1, mx s.2 E)], y1', .val (rd E), can_app c1 (by grind) fun u hu => c3 u hu, fun u hu => ?_, fun u hu => ?_, by simp, fun x => ?_, ?_⟩
      · rcases List.mem_append.mp hu with hu | hu
        · exact hG u hu
        · rw [List.mem_singleton.mp hu]
          refine ⟨hs.1, ?_⟩
          show P (mx s.2 E)
          rcases m1.2.2 with z | z <;> rw [z]
          · exact hs.2
          · exact g1
      · rcases List.mem_append.mp hu with hu | hu
        · exact hGb u hu
        · rw [List.mem_singleton.mp hu]; exact sb
      · rw [range x, mem_app, mem_app]
        constructor
        · rintro (h | ⟨h1, h2⟩)
          · exact .inl (.inl h)
          · by_cases d : x ≤ s.2
            · exact .inl (.inr ⟨h1, d⟩)
            · exact .inr ⟨by grind, by rcases m1.2.2 with z | z <;> simp only [z] at h2 <;> grind⟩
        · rintro ((h | ⟨h1, h2⟩) | ⟨h1, h2⟩)
          · exact .inl h
          · exact .inr ⟨h1, by simp only; grind⟩
          · exact .inr ⟨by simp only; grind, by simp only; grind⟩
      · generalize left.map sp = LL at g5 ⊢
        simp only [List.map_append, List.map_cons, List.map_nil] at g5 ⊢
        have gl : (G.map sp).length = G.length := List.length_map _
        generalize hGG : G.map sp = GG at g5 al sl gl ⊢
        simp [b0_put_together, g5, al, sp0, sp1, ls, gr, gl, ixl]
        first | rfl | (rw [← sl]; rfl) | rw [sl]
end
end DL.Q

/-! MK -/
namespace DL.Q
open PySem L2 DL.Dr
section
variable {P : Rat → Prop}
theorem pt_go (hP : ∀ x, P x → x.den < 9000000000000000000) {left : List Sn} (hl : ∀ s ∈ left, P s.1 ∧ P s.2) (hpos : ∀ s ∈ left, s.1 < s.2) (x0 : SV) : ∀ (B : List Rat) (F : List Sn) (y1 y4 y5 : SV), B.Pairwise (· ≤ ·) → (∀ b ∈ B, P b ∧ ∃ s ∈ left, s.1 = b) → Can F → (∀ s ∈ F, P s.1 ∧ P s.2) → (∀ u ∈ F, ∀ b ∈ B, u.1 ≤ b) → F.length + B.length < 100000 →
    ∃ (F' : List Sn) (y1' y4' y5' : SV), Can F' ∧ (∀ s ∈ F', P s.1 ∧ P s.2) ∧ F'.length ≤ F.length + B.length ∧ (∀ x, Mem F' x ↔ Mem F x ∨ ∃ s ∈ left, s.1 ∈ B ∧ s.1 ≤ x ∧ x ≤ s.2) ∧
      forLoop (sName 4) b0_put_together (B.map rd) [x0, y1, .val (.list (left.map sp)), .own (F.map sp), y4, y5] = .nx [x0, y1', .val (.list (left.map sp)), .own (F'.map sp), y4', y5']
  | [], F, y1, y4, y5, _, _, hF, hFP, _, _ => ⟨F, y1, y4, y5, hF, hFP, Nat.le_refl _, fun x => ⟨.inl, fun h => by
      rcases h with h | ⟨s, _, h, _⟩
      · exact h
      · cases h⟩, rfl⟩
  | b :: B, F, y1, y4, y5, hB, hBe, hF, hFP, hFb, hn => by
    obtain ⟨b1, b2⟩ := List.pairwise_cons.mp hB
    obtain ⟨pb, ex⟩ := hBe b List.mem_cons_self
    rw [List.length_cons] at hn
    obtain ⟨F1, y1', y5', g1, g2, g3, g4, g5, g6⟩ := pt_turn hP hl hpos pb ex hF hFP (fun u hu => hFb u hu b List.mem_cons_self) (by omega) x0 y1 y5
    obtain ⟨F2, y1'', y4'', y5'', k1, k2, k3, k4, k5⟩ := pt_go hP hl hpos x0 B F1 y1' (.val (rd b)) y5' b2 (fun c hc => hBe c (.tail _ hc)) g1 g2 (fun u hu c hc => by
      have := g3 u hu
      have := b1 c hc
      grind) (by omega)
    refine ⟨F2, y1'', y4'', y5'', k1, k2, by rw [List.length_cons]; omega, fun x => ?_, ?_⟩
    · rw [k4, g5]
      constructor
      · rintro ((h | ⟨s, hs, e, r⟩) | ⟨s, hs, e, r⟩)
        · exact .inl h
        · exact .inr ⟨s, hs, by rw [e]; exact List.mem_cons_self, r⟩
        · exact .inr ⟨s, hs, .tail _ e, r⟩
      · rintro (h | ⟨s, hs, e, r⟩)
        · exact .inl (.inl h)
        · rcases (List.mem_cons.mp e) with e | e
          · exact .inl (.inr ⟨s, hs, e, r⟩)
          · exact .inr ⟨s, hs, e, r⟩
    · rw [List.map_cons, for_cons (ρ1 := [x0, y1, .val (.list (left.map sp)), .own (F.map sp), .val (rd b), y5]) rfl g6, k5]
/-- what lies in some stretch of a length -/
def InS (S : List Sn) (x : Rat) : Prop := ∃ s ∈ S, s.1 < s.2 ∧ s.1 ≤ x ∧ x ≤ s.2
theorem put_together_ok (hP : ∀ x, P x → x.den < 9000000000000000000) {S : List Sn} (hS : ∀ s ∈ S, P s.1 ∧ P s.2) (hn : S.length ≤ 3000) : ∃ F : List Sn, f_put_together [.list (S.map sp)] = .ok (.list (F.map sp)) ∧ Can F ∧ (∀ x, Mem F x ↔ InS S x) ∧ (∀ s ∈ F, P s.1 ∧ P s.2) ∧ F.length ≤ S.length := by
  obtain ⟨left, eL⟩ : ∃ l, S.filter (fun s => decide (s.1 < s.2)) = l := ⟨_, rfl⟩
  have hl : ∀ s ∈ left, s ∈ S ∧ s.1 < s.2 := fun s hs => by
    rw [← eL] at hs
    obtain ⟨h1, h2⟩ := List.mem_filter.mp hs
    exact ⟨h1, by simpa using h2⟩
  have ll : left.length ≤ S.length := by rw [← eL]; exact List.length_filter_le _ _
  have c1 : ∀ N : List Sn, (∀ s ∈ N, P s.1 ∧ P s.2) → lcGo (sName 1) (cTest (cCall f_is_less (aCons (cOp oIxA (cBor 1) (cC (.int 0))) (aCons (cOp oIxA (cBor 1) (cC (.int 1))) aNil)))) (cVar 1) [.val (.list (S.map sp)), .no, .no, .no, .no, .no] (N.map sp) = .ok ((N.filter fun s => decide (s.1 < s.2)).map sp) := by
    intro N hN
    induction N with
    | nil => rfl
    | cons s N ih =>
      obtain ⟨p1, p2⟩ := hN s List.mem_cons_self
      have l := less_rd (hP _ p1) (hP _ p2)
      have ih' := ih fun u hu => hN u (.tail _ hu)
      rw [List.map_cons, lcGo_cons]
      generalize N.map sp = RR at ih' ⊢
      by_cases c : s.1 < s.2
      · rw [decide_eq_true c] at l
        simp [sp0, sp1, l, ih', c]
      · rw [decide_eq_false c] at l
        simp [sp0, sp1, l, ih', c]
  have g1 := c1 S hS
  rw [eL] at g1
  have c2 : ∀ N : List Sn, lcGo (sName 1) cYes (cOp oIxA (cBor 1) (cC (.int 0))) [.val (.list (S.map sp)), .no, .val (.list (left.map sp)), .own [], .no, .no] (N.map sp) = .ok ((N.map (·.1)).map rd) := by
    intro N
    induction N with
    | nil => rfl
    | cons s N ih =>
      rw [List.map_cons, lcGo_cons]
      generalize N.map sp = RR at ih ⊢
      simp [sp0, ih]
  have g2 := c2 left
  obtain ⟨B, i1, i2, i3⟩ := in_order_rd (L := left.map (·.1)) (fun x hx => by
    obtain ⟨s, hs, rfl⟩ := List.mem_map.mp hx
    exact hP _ (hS s (hl s hs).1).1) (by rw [List.length_map]; omega)
  have bl : B.length = left.length := by rw [i2.length_eq, List.length_map]
  have bm : ∀ b, b ∈ B ↔ ∃ s ∈ left, s.1 = b := fun b => by rw [i2.mem_iff, List.mem_map]
  obtain ⟨F, y1, y4, y5, k1, k2, k3, k4, k5⟩ := pt_go hP (fun s hs => hS s (hl s hs).1) (fun s hs => (hl s hs).2) (.val (.list (S.map sp))) B [] .no .no .no i3 (fun b hb => by
    obtain ⟨s, hs, e⟩ := (bm b).mp hb
    exact ⟨by rw [← e]; exact (hS s (hl s hs).1).1, s, hs, e⟩) Can.nil (fun s hs => (by cases hs)) (fun u hu => (by cases hu)) (by simp; omega)
  refine ⟨F, ?_, k1, fun x => ?_, k2, by simp at k3; omega⟩
  · have l1 : (S.map sp).length ≤ 100000 := by simp; omega
    have l2 : (left.map sp).length ≤ 100000 := by simp; omega
    generalize (left.map (·.1)).map rd = BB at g2 i1
    rw [List.map_nil] at k5
    generalize B.map rd = B2 at i1 k5
    generalize left.map sp = LL at g1 g2 k5 l2
    generalize F.map sp = FF at k5 ⊢
    generalize S.map sp = SS at g1 g2 k5 l1 ⊢
    simp only [f_put_together, semOf, c_put_together]
    simp [wipeR, l1, g1, l2, g2, i1, k5]
    simp [frz]
  · rw [k4]
    constructor
    · rintro (⟨s, hs, _⟩ | ⟨s, hs, _, r⟩)
      · cases hs
      · exact ⟨s, (hl s hs).1, (hl s hs).2, r⟩
    · rintro ⟨s, hs, p, r⟩
      have hs' : s ∈ left := by rw [← eL]; exact List.mem_filter.mpr ⟨hs, by simpa using p⟩
      exact .inr ⟨s, hs', (bm _).mpr ⟨s, hs', rfl⟩, r⟩
end
end DL.Q

/-! ML -/
namespace DL.Q
open PySem L2 DL.Dr
/-! ### the law's way: between all ends, what lies in some stretch by its middle -/
def inB (S : List Sn) (x : Rat) : Bool := S.any fun s => decide (s.1 < s.2) && (!decide (x < s.1) && !decide (s.2 < x))
theorem inB_iff (S : List Sn) (x : Rat) : inB S x = true ↔ InS S x := by
  unfold inB InS
  rw [List.any_eq_true]
  constructor
  · rintro ⟨s, hs, h⟩
    simp at h
    exact ⟨s, hs, h.1, by grind, by grind⟩
  · rintro ⟨s, hs, h1, h2, h3⟩
    refine ⟨s, hs, ?_⟩
    simp
    exact ⟨h1, by grind, by grind⟩
theorem law_in_ok {S : List Sn} (hS : ∀ s ∈ S, s.1.den < 9000000000000000000 ∧ s.2.den < 9000000000000000000) {V : D} (hV : itemsD V = some (S.map sp)) {m : Rat} (hm : m.den < 9000000000000000000) (hn : S.length ≤ 100000) : f__law_in [V, rd m] = .ok (.bool (inB S m)) := by
  have go : ∀ N : List Sn, (∀ s ∈ N, s.1.den < 9000000000000000000 ∧ s.2.den < 9000000000000000000) → lcGo (sTup (sCons (sName 2) (sCons (sName 3) sNil))) cYes (cAndV (cCall f__law_less (aCons (cVar 2) (aCons (cVar 3) aNil))) (cAndV (cNotV (cCall f__law_less (aCons (cVar 1) (aCons (cVar 2) aNil)))) (cNotV (cCall f__law_less (aCons (cVar 3) (aCons (cVar 1) aNil)))))) [.val V, .val (rd m), .no, .no] (N.map sp) =
      .ok ((N.map fun s => decide (s.1 < s.2) && (!decide (m < s.1) && !decide (s.2 < m))).map PyData.bool) := by
    intro N hN
    induction N with
    | nil => rfl
    | cons s N ih =>
      obtain ⟨p1, p2⟩ := hN s List.mem_cons_self
      have l1 := lless_rd p1 p2
      have l2 := lless_rd hm p1
      have l3 := lless_rd p2 hm
      have ih' := ih fun u hu => hN u (.tail _ hu)
      rw [List.map_cons, lcGo_cons]
      generalize N.map sp = RR at ih' ⊢
      by_cases c1 : s.1 < s.2
      · rw [decide_eq_true c1] at l1
        by_cases c2 : m < s.1
        · rw [decide_eq_true c2] at l2
          simp [sp, l1, l2, ih', c1, c2]
        · rw [decide_eq_false c2] at l2
          by_cases c3 : s.2 < m
          · rw [decide_eq_true c3] at l3
            simp [sp, l1, l2, l3, ih', c1, c2, c3]
          · rw [decide_eq_false c3] at l3
            simp [sp, l1, l2, l3, ih', c1, c2, c3]
      · rw [decide_eq_false c1] at l1
        simp [sp, l1, ih', c1]
  have g := go S hS
  have e : (S.map fun s => decide (s.1 < s.2) && (!decide (m < s.1) && !decide (s.2 < m))).any id = inB S m := by
    unfold inB
    rw [List.any_map]
    rfl
  have sl : (S.map sp).length ≤ 100000 := by simp; omega
  generalize (S.map fun s => decide (s.1 < s.2) && (!decide (m < s.1) && !decide (s.2 < m))) = bs at g e
  generalize S.map sp = SS at g sl hV ⊢
  have ba := bAny_b (bs := bs)
  rw [e] at ba
  generalize bs.map PyData.bool = BB at g ba
  simp only [f__law_in, semOf, c__law_in]
  simp [wipeR, hV, sl, g, ba]
theorem up_idx {M : List Rat} (h : M.Pairwise (· < ·)) {i j : Nat} {a b : Rat} (hi : M[i]? = some a) (hj : M[j]? = some b) (k : i < j) : a < b := by
  obtain ⟨h1, e1⟩ := List.getElem?_eq_some_iff.mp hi
  obtain ⟨h2, e2⟩ := List.getElem?_eq_some_iff.mp hj
  rw [← e1, ← e2]
  exact List.pairwise_iff_getElem.mp h i j h1 h2 k
/-- what lies in the stretches up to the k-th end -/
def Upto (M : List Rat) (S : List Sn) (k : Nat) (x : Rat) : Prop := ∃ j a b, j < k ∧ M[j]? = some a ∧ M[j + 1]? = some b ∧ inB S ((a + b) * (1 / 2)) = true ∧ a ≤ x ∧ x ≤ b
theorem between {M : List Rat} {x : Rat} : ∀ (d i : Nat) (a b : Rat), 0 < d → M[i]? = some a → M[i + d]? = some b → a ≤ x → x ≤ b → ∃ j p q, i ≤ j ∧ j < i + d ∧ M[j]? = some p ∧ M[j + 1]? = some q ∧ p ≤ x ∧ x ≤ q
  | 1, i, a, b, _, ha, hb, h1, h2 => ⟨i, a, b, Nat.le_refl _, by omega, ha, hb, h1, h2⟩
  | d + 2, i, a, b, _, ha, hb, h1, h2 => by
    have lt : i + 1 < M.length := by
      have := (List.getElem?_eq_some_iff.mp hb).1
      omega
    have hc : M[i + 1]? = some M[i + 1] := List.getElem?_eq_getElem lt
    by_cases c : x ≤ M[i + 1]
    · exact ⟨i, a, M[i + 1], Nat.le_refl _, by omega, ha, hc, h1, c⟩
    · obtain ⟨j, p, q, j1, j2, r⟩ := between (d + 1) (i + 1) M[i + 1] b (by omega) hc (by rw [show i + 1 + (d + 1) = i + (d + 2) by omega]; exact hb) (by grind) h2
      exact ⟨j, p, q, by omega, by omega, r⟩
theorem upto_all {M : List Rat} {S : List Sn} (hM : M.Pairwise (· < ·)) (hm : ∀ x, x ∈ M ↔ ∃ s ∈ S, s.1 < s.2 ∧ (x = s.1 ∨ x = s.2)) (x : Rat) : Upto M S (M.length - 1) x ↔ InS S x := by
  constructor
  · rintro ⟨j, a, b, hj, ha, hb, hi, h1, h2⟩
    obtain ⟨s, hs, p, q1, q2⟩ := (inB_iff _ _).mp hi
    have ab := up_idx hM ha hb (by omega)
    obtain ⟨i1, e1⟩ := List.mem_iff_getElem?.mp ((hm s.1).mpr ⟨s, hs, p, .inl rfl⟩)
    obtain ⟨i2, e2⟩ := List.mem_iff_getElem?.mp ((hm s.2).mpr ⟨s, hs, p, .inr rfl⟩)
    have s1 : s.1 ≤ a := by
      rcases Nat.lt_trichotomy i1 j with z | z | z
      · have := up_idx hM e1 ha z
        grind
      · rw [z, ha] at e1
        cases e1
        grind
      · rcases Nat.lt_or_ge (j + 1) i1 with w | w
        · have := up_idx hM hb e1 w
          grind
        · have : i1 = j + 1 := by omega
          rw [this, hb] at e1
          cases e1
          grind
    have s2 : b ≤ s.2 := by
      rcases Nat.lt_trichotomy i2 (j + 1) with z | z | z
      · rcases Nat.lt_or_ge i2 j with w | w
        · have := up_idx hM e2 ha w
          grind
        · have : i2 = j := by omega
          rw [this, ha] at e2
          cases e2
          grind
      · rw [z, hb] at e2
        cases e2
        grind
      · have := up_idx hM hb e2 z
        grind
    exact ⟨s, hs, p, by grind, by grind⟩
  · rintro ⟨s, hs, p, h1, h2⟩
    obtain ⟨i1, e1⟩ := List.mem_iff_getElem?.mp ((hm s.1).mpr ⟨s, hs, p, .inl rfl⟩)
    obtain ⟨i2, e2⟩ := List.mem_iff_getElem?.mp ((hm s.2).mpr ⟨s, hs, p, .inr rfl⟩)
    have lt : i1 < i2 := by
      rcases Nat.lt_trichotomy i1 i2 with z | z | z
      · exact z
      · rw [z, e2] at e1
        have := Option.some.inj e1
        grind
      · have := up_idx hM e2 e1 z
        grind
    obtain ⟨j, a, b, j1, j2, ha, hb, k1, k2⟩ := between (x := x) (i2 - i1) i1 s.1 s.2 (by omega) e1 (by rw [show i1 + (i2 - i1) = i2 by omega]; exact e2) h1 h2
    have l2 := (List.getElem?_eq_some_iff.mp e2).1
    refine ⟨j, a, b, by omega, ha, hb, (inB_iff _ _).mpr ⟨s, hs, p, ?_, ?_⟩, k1, k2⟩
    · have ab := up_idx hM ha hb (by omega)
      rcases Nat.lt_or_ge i1 j with z | z
      · have := up_idx hM e1 ha z
        grind
      · have : i1 = j := by omega
        rw [this, ha] at e1
        cases e1
        grind
    · have ab := up_idx hM ha hb (by omega)
      rcases Nat.lt_or_ge (j + 1) i2 with z | z
      · have := up_idx hM hb e2 z
        grind
      · have : i2 = j + 1 := by omega
        rw [this, hb] at e2
        cases e2
        grind
theorem half_den : ((1 : Rat) / 2).den = 2 ∧ ((1 : Rat) / 2).num = 1 := by decide +kernel
theorem rd_half : rd (1 / 2) = .tuple [.int 1, .int 2] := by
  show PyData.tuple [.int ((1 : Rat) / 2).num, .int ((((1 : Rat) / 2).den : Nat) : Int)] = _
  rw [half_den.1, half_den.2] <;> rfl
/-! the walk -/
def ends (S : List Sn) : List Rat := S.flatMap fun s => if s.1 < s.2 then [s.1, s.2] else []
theorem ends_len : ∀ S : List Sn, (ends S).length ≤ 2 * S.length
  | [] => Nat.le_refl _
  | s :: S => by
    have := ends_len S
    unfold ends at *
    rw [List.flatMap_cons, List.length_append, List.length_cons]
    split
    · simp only [List.length_cons, List.length_nil]
      omega
    · simp only [List.length_nil]
      omega
theorem mem_ends {S : List Sn} {x : Rat} : x ∈ ends S ↔ ∃ s ∈ S, s.1 < s.2 ∧ (x = s.1 ∨ x = s.2) := by
  unfold ends
  rw [List.mem_flatMap]
  constructor
  · rintro ⟨s, hs, h⟩
    split at h
    · rename_i c
      exact ⟨s, hs, c, by simpa using h⟩
    · cases h
  · rintro ⟨s, hs, c, h⟩
    exact ⟨s, hs, by rw [if_pos c]; simpa using h⟩
theorem ends_go {x0 x4 x5 x6 : SV} : ∀ (N : List Sn) (acc : List Rat) (y2 y3 : SV), (∀ s ∈ N, s.1.den < 9000000000000000000 ∧ s.2.den < 9000000000000000000) → acc.length + 2 * N.length ≤ 50000 → ∃ y2' y3' : SV,
    forLoop (sTup (sCons (sName 2) (sCons (sName 3) sNil))) b0__law_joined (N.map sp) [x0, .val (.list (acc.map rd)), y2, y3, x4, x5, x6] = .nx [x0, .val (.list ((acc ++ ends N).map rd)), y2', y3', x4, x5, x6]
  | [], acc, y2, y3, _, _ => ⟨y2, y3, by simp [for_nil, ends]⟩
  | s :: N, acc, y2, y3, hN, hl => by
    obtain ⟨p1, p2⟩ := hN s List.mem_cons_self
    have l := lless_rd p1 p2
    rw [List.length_cons] at hl
    obtain ⟨y2', y3', e⟩ := ends_go (x0 := x0) (x4 := x4) (x5 := x5) (x6 := x6) N (acc ++ if s.1 < s.2 then [s.1, s.2] else []) (.val (rd s.1)) (.val (rd s.2)) (fun u hu => hN u (.tail _ hu)) (by rw [List.length_append]; split <;> simp <;> omega)
    refine ⟨y2', y3', ?_⟩
    rw [List.map_cons, for_cons (ρ1 := [x0, .val (.list (acc.map rd)), .val (rd s.1), .val (rd s.2), x4, x5, x6]) (ρ2 := [x0, .val (.list ((acc ++ if s.1 < s.2 then [s.1, s.2] else []).map rd)), .val (rd s.1), .val (rd s.2), x4, x5, x6]) rfl ?_, e]
    · rw [List.append_assoc]
      rfl
    · have al : (acc.map rd).length ≤ 50000 := by rw [List.length_map]; omega
      rw [List.map_append]
      generalize acc.map rd = AA at al ⊢
      by_cases c : s.1 < s.2
      · rw [decide_eq_true c] at l
        simp [b0__law_joined, l, c]
        omega
      · rw [decide_eq_false c] at l
        simp [b0__law_joined, l, c]
        omega
section
variable {P : Rat → Prop}
theorem jo_turn (hP : ∀ x, P x → x.den ≤ 10000) {S : List Sn} (hS : ∀ s ∈ S, P s.1 ∧ P s.2) (hSn : S.length ≤ 2000) {M : List Rat} (hM : M.Pairwise (· < ·)) (hMP : ∀ x ∈ M, P x) {k : Nat} {a b : Rat} (ha : M[k]? = some a) (hb : M[k + 1]? = some b) {V : D} (hV : itemsD V = some (S.map sp)) {F : List Sn} (hF : Can F) (hFP : ∀ s ∈ F, P s.1 ∧ P s.2) (hFb : ∀ u ∈ F, u.2 ≤ a) (hn : F.length < 100000) (y2 y3 y6 : SV) :
    ∃ (F' : List Sn) (y6' : SV), Can F' ∧ (∀ s ∈ F', P s.1 ∧ P s.2) ∧ (∀ u ∈ F', u.2 ≤ b) ∧ F'.length ≤ F.length + 1 ∧ (∀ x, Mem F' x ↔ Mem F x ∨ (inB S ((a + b) * (1 / 2)) = true ∧ a ≤ x ∧ x ≤ b)) ∧
      b1__law_joined [.val V, .val (.list (M.map rd)), y2, y3, .own (F.map sp), .val (.int (k : Nat)), y6] = .nx [.val V, .val (.list (M.map rd)), y2, y3, .own (F'.map sp), .val (.int (k : Nat)), y6'] := by
  have pa := hMP a (List.mem_of_getElem? ha)
  have pb := hMP b (List.mem_of_getElem? hb)
  have ab := up_idx hM ha hb (by omega)
  have da := hP _ pa
  have db := hP _ pb
  have pl := lplus_rd (a := a) (b := b) (Nat.lt_of_le_of_lt (Nat.mul_le_mul da db) (by decide))
  have sd : (a + b).den ≤ 100000000 := Nat.le_trans (den_add_le a b) (Nat.mul_le_mul da db)
  have hh := half_den
  have by' := by_rd (a := a + b) (b := 1 / 2) (by rw [hh.1]; omega) (by rw [hh.2]; exact cmul_r (by decide))
  have md : ((a + b) * (1 / 2)).den ≤ 200000000 := Nat.le_trans (den_mul_le _ _) (by rw [hh.1]; omega)
  rw [rd_half] at by'
  have li := law_in_ok (S := S) (V := V) (hV := hV) (fun s hs => ⟨by have := hP _ (hS s hs).1; omega, by have := hP _ (hS s hs).2; omega⟩) (m := (a + b) * (1 / 2)) (by omega) (by omega)
  have i1 : atI (M.map rd) (k : Int) = some (rd a) := atI_nat (by rw [List.getElem?_map, ha] <;> rfl)
  have i2 : atI (M.map rd) ((k : Int) + 1) = some (rd b) := by
    rw [show ((k : Int) + 1) = ((k + 1 : Nat) : Int) by omega]
    exact atI_nat (by rw [List.getElem?_map, hb] <;> rfl)
  cases hin : inB S ((a + b) * (1 / 2)) with
  | false =>
    rw [hin] at li
    refine ⟨F, .val (rd ((a + b) * (1 / 2))), hF, hFP, fun u hu => by have := hFb u hu; grind, by omega, fun x => ⟨.inl, fun h => ?_⟩, ?_⟩
    · rcases h with h | ⟨h, _⟩
      · exact h
      · cases h
    · generalize F.map sp = FF
      generalize M.map rd = MM at i1 i2 ⊢
      skip
      simp [b1__law_joined, i1, i2, pl, by', li]
  | true =>
    rw [hin] at li
    have cl : ∀ x, (true = true ∧ a ≤ x ∧ x ≤ b) ↔ (a ≤ x ∧ x ≤ b) := fun x => by simp
    rcases List.eq_nil_or_concat F with rfl | ⟨G, s, rfl⟩
    · refine ⟨[(a, b)], .val (rd ((a + b) * (1 / 2))), ⟨fun u hu => ?_, List.pairwise_singleton _ _⟩, fun u hu => ?_, fun u hu => ?_, by simp, fun x => ?_, ?_⟩
      · rw [List.mem_singleton.mp hu]; exact ab
      · rw [List.mem_singleton.mp hu]; exact ⟨pa, pb⟩
      · rw [List.mem_singleton.mp hu]; exact Rat.le_refl
      · rw [cl]
        unfold Mem
        constructor
        · rintro ⟨u, hu, k⟩
          rw [List.mem_singleton.mp hu] at k
          exact .inr k
        · rintro (⟨u, hu, _⟩ | k)
          · cases hu
          · exact ⟨_, List.mem_singleton.mpr rfl, k⟩
      · simp only [List.map_nil]
        generalize M.map rd = MM at i1 i2 ⊢
        skip
        simp [b1__law_joined, i1, i2, pl, by', li, sp]
    · simp only [List.concat_eq_append] at *
      obtain ⟨c1, c2, c3⟩ := can_init hF
      have hs := hFP s (List.mem_append_right _ (List.mem_singleton.mpr rfl))
      have sa := hFb s (List.mem_append_right _ (List.mem_singleton.mpr rfl))
      have al := atI_last (G.map sp) (sp s)
      have sl := set_last (G.map sp) (sp s) (sp (s.1, b))
      have eq := oEq_rd s.2 a
      rw [List.length_append, List.length_singleton] at hn
      rw [List.length_map] at sl
      have ixl : ixN (G.length + 1) (-1) = some G.length := ixN_last
      by_cases c : s.2 = a
      · rw [decide_eq_true c] at eq
        refine ⟨G ++ [(s.1, b)], .val (rd ((a + b) * (1 / 2))), can_app c1 (by grind) fun u hu => c3 u hu, fun u hu => ?_, fun u hu => ?_, by simp, fun x => ?_, ?_⟩
        · rcases List.mem_append.mp hu with hu | hu
          · exact hFP u (List.mem_append_left _ hu)
          · rw [List.mem_singleton.mp hu]; exact ⟨hs.1, pb⟩
        · rcases List.mem_append.mp hu with hu | hu
          · have := hFb u (List.mem_append_left _ hu)
            grind
          · rw [List.mem_singleton.mp hu]; exact Rat.le_refl
        · rw [cl, mem_app, mem_app]
          constructor
          · rintro (h | ⟨h1, h2⟩)
            · exact .inl (.inl h)
            · by_cases d : x ≤ s.2
              · exact .inl (.inr ⟨h1, d⟩)
              · exact .inr ⟨by grind, h2⟩
          · rintro ((h | ⟨h1, h2⟩) | ⟨h1, h2⟩)
            · exact .inl h
            · exact .inr ⟨h1, by simp only; grind⟩
            · exact .inr ⟨by simp only; grind, h2⟩
        · simp only [List.map_append, List.map_cons, List.map_nil]
          have gl : (G.map sp).length = G.length := List.length_map _
          generalize hGG : G.map sp = GG at al sl gl ⊢
          generalize M.map rd = MM at i1 i2 ⊢
          skip
          simp [b1__law_joined, i1, i2, pl, by', li, al, sp0, sp1, eq, gl, ixl]
          first | rfl | (rw [← sl]; rfl) | rw [sl]
      · rw [decide_eq_false c] at eq
        refine ⟨G ++ [s] ++ [(a, b)], .val (rd ((a + b) * (1 / 2))), can_app hF ab fun u hu => ?_, fun u hu => ?_, fun u hu => ?_, by simp, fun x => by rw [cl, mem_app], ?_⟩
        · rcases List.mem_append.mp hu with hu | hu
          · have := c3 u hu
            grind
          · rw [List.mem_singleton.mp hu]; grind
        · rcases List.mem_append.mp hu with hu | hu
          · exact hFP u hu
          · rw [List.mem_singleton.mp hu]; exact ⟨pa, pb⟩
        · rcases List.mem_append.mp hu with hu | hu
          · have := hFb u hu
            grind
          · rw [List.mem_singleton.mp hu]; exact Rat.le_refl
        · simp only [List.map_append, List.map_cons, List.map_nil]
          have tk : (G.map sp).length + 1 < 100000 := by simp; omega
          generalize hGG : G.map sp = GG at al tk ⊢
          generalize M.map rd = MM at i1 i2 ⊢
          skip
          simp [b1__law_joined, i1, i2, pl, by', li, al, sp1, eq, tk]
          first | rfl | simp [sp]
theorem jo_go (hP : ∀ x, P x → x.den ≤ 10000) {S : List Sn} (hS : ∀ s ∈ S, P s.1 ∧ P s.2) (hSn : S.length ≤ 2000) {M : List Rat} (hM : M.Pairwise (· < ·)) (hMP : ∀ x ∈ M, P x) {V : D} (hV : itemsD V = some (S.map sp)) (y2 y3 : SV) : ∀ (n k : Nat) (F : List Sn) (y5 y6 : SV), k + n + 1 = M.length → Can F → (∀ s ∈ F, P s.1 ∧ P s.2) → (∀ u ∈ F, ∀ a, M[k]? = some a → u.2 ≤ a) → (∀ x, Mem F x ↔ Upto M S k x) → F.length ≤ k → M.length ≤ 50000 →
    ∃ (F' : List Sn) (y5' y6' : SV), Can F' ∧ (∀ s ∈ F', P s.1 ∧ P s.2) ∧ (∀ x, Mem F' x ↔ Upto M S (k + n) x) ∧ F'.length ≤ k + n ∧
      forLoop (sName 5) b1__law_joined ((List.range' k n).map fun j => .int (j : Nat)) [.val V, .val (.list (M.map rd)), y2, y3, .own (F.map sp), y5, y6] = .nx [.val V, .val (.list (M.map rd)), y2, y3, .own (F'.map sp), y5', y6']
  | 0, k, F, y5, y6, _, hF, hFP, _, hU, hn, _ => ⟨F, y5, y6, hF, hFP, hU, hn, rfl⟩
  | n + 1, k, F, y5, y6, hk, hF, hFP, hFb, hU, hn, hl => by
    have ha : M[k]? = some M[k] := List.getElem?_eq_getElem (by omega)
    have hb : M[k + 1]? = some M[k + 1] := List.getElem?_eq_getElem (by omega)
    obtain ⟨F1, y6', g1, g2, g3, g4, g5, g6⟩ := jo_turn hP hS hSn hM hMP ha hb hV hF hFP (fun u hu => hFb u hu _ ha) (by omega) y2 y3 y6
    obtain ⟨F2, y5'', y6'', k1, k2, k3, k4, k5⟩ := jo_go hP hS hSn hM hMP hV y2 y3 n (k + 1) F1 (.val (.int (k : Nat))) y6' (by omega) g1 g2 (fun u hu a' ha' => by
      rw [hb] at ha'
      cases ha'
      exact g3 u hu) (fun x => by
      rw [g5, hU]
      constructor
      · rintro (⟨j, a, b, hj, r⟩ | ⟨h1, h2⟩)
        · exact ⟨j, a, b, by omega, r⟩
        · exact ⟨k, _, _, by omega, ha, hb, h1, h2⟩
      · rintro ⟨j, a, b, hj, r1, r2, r3⟩
        by_cases e : j = k
        · subst e
          rw [ha] at r1
          rw [hb] at r2
          cases r1
          cases r2
          exact .inr r3
        · exact .inl ⟨j, a, b, by omega, r1, r2, r3⟩) (by omega) hl
    refine ⟨F2, y5'', y6'', k1, k2, fun x => by rw [k3, show k + 1 + n = k + (n + 1) by omega], by omega, ?_⟩
    rw [List.range'_succ, List.map_cons, for_cons (ρ1 := [.val V, .val (.list (M.map rd)), y2, y3, .own (F.map sp), .val (.int (k : Nat)), y6]) rfl g6, k5]
theorem law_joined_ok (hP : ∀ x, P x → x.den ≤ 10000 ∧ -18446744073709551616 < x.num ∧ x.num < 18446744073709551616) {S : List Sn} (hS : ∀ s ∈ S, P s.1 ∧ P s.2) (hSn : S.length ≤ 100) {V : D} (hV : itemsD V = some (S.map sp)) : ∃ F : List Sn, f__law_joined [V] = .ok (.tuple (F.map sp)) ∧ Can F ∧ (∀ x, Mem F x ↔ InS S x) ∧ (∀ s ∈ F, P s.1 ∧ P s.2) ∧ F.length ≤ 200 := by
  have hd : ∀ s ∈ S, s.1.den < 9000000000000000000 ∧ s.2.den < 9000000000000000000 := fun s hs => ⟨by have := (hP _ (hS s hs).1).1; omega, by have := (hP _ (hS s hs).2).1; omega⟩
  obtain ⟨y2, y3, e1⟩ := ends_go (x0 := .val V) (x4 := .no) (x5 := .no) (x6 := .no) S [] .no .no hd (by simp; omega)
  have el := ends_len S
  have eP : ∀ x ∈ ends S, P x := fun x hx => by
    obtain ⟨s, hs, _, h⟩ := mem_ends.mp hx
    rcases h with rfl | rfl
    · exact (hS s hs).1
    · exact (hS s hs).2
  have pr : prodD (ends S) < 2 ^ 4000 := by
    refine Nat.lt_of_le_of_lt (prodD_le 10000 (ends S) fun x hx => (hP x (eP x hx)).1) (Nat.lt_of_le_of_lt (Nat.pow_le_pow_right (by decide) (show (ends S).length ≤ 200 by omega)) ?_)
    decide +kernel
  obtain ⟨M, m1, m2, m3, m4⟩ := law_sorted_rd (L := ends S) (n := 4000) pr (by decide) (by decide) (fun x hx => by have := (hP x (eP x hx)).1; omega) (fun x hx => (hP x (eP x hx)).2) (by omega)
  have mP : ∀ x ∈ M, P x := fun x hx => eP x ((m3 x).mp hx)
  have mm : ∀ x, x ∈ M ↔ ∃ s ∈ S, s.1 < s.2 ∧ (x = s.1 ∨ x = s.2) := fun x => (m3 x).trans mem_ends
  have ua := upto_all m2 mm
  have hP' : ∀ x, P x → x.den ≤ 10000 := fun x hx => (hP x hx).1
  rw [List.nil_append, List.map_nil] at e1
  by_cases h0 : M.length = 0
  · have eM : M = [] := List.length_eq_zero_iff.mp h0
    subst eM
    refine ⟨[], ?_, Can.nil, fun x => ?_, fun s hs => (by cases hs), by simp⟩
    · generalize (ends S).map rd = EE at e1 m1
      have sl : (S.map sp).length ≤ 100000 := by simp; omega
      generalize S.map sp = SS at e1 hV ⊢
      simp only [List.map_nil] at m1
      simp only [f__law_joined, semOf, c__law_joined]
      simp [hV, e1, m1, rangeD, for_nil]
    · rw [← ua x]
      constructor
      · rintro ⟨u, hu, _⟩
        cases hu
      · rintro ⟨j, a, b, hj, _⟩
        simp at hj
  · obtain ⟨F, y5, y6, k1, k2, k3, k4, k5⟩ := jo_go hP' hS (by omega) m2 mP hV y2 y3 (M.length - 1) 0 [] .no .no (by omega) Can.nil (fun s hs => (by cases hs)) (fun u hu => (by cases hu)) (fun x => ⟨fun ⟨u, hu, _⟩ => (by cases hu), fun ⟨j, a, b, hj, _⟩ => (by omega)⟩) (by simp) (by omega)
    rw [Nat.zero_add] at k3 k4
    refine ⟨F, ?_, k1, fun x => (k3 x).trans (ua x), k2, by omega⟩
    have rg : rangeD 0 (M.length - 1) = (List.range' 0 (M.length - 1)).map fun j => .int (j : Nat) := by
      unfold rangeD
      rw [List.range_eq_range']
      refine List.map_congr_left fun j _ => ?_
      rw [Int.zero_add]
    have r1 : range1D [.int ((M.map rd).length - 1)] = some (rangeD 0 (M.length - 1)) := by
      rw [range1_i, List.length_map, if_pos (by omega)]
      congr 2
      omega
    rw [← rg] at k5
    generalize rangeD 0 (M.length - 1) = RR at k5 r1
    generalize (ends S).map rd = EE at e1 m1
    rw [List.map_nil] at k5
    generalize M.map rd = MM at *
    generalize F.map sp = FF at *
    generalize S.map sp = SS at *
    simp only [f__law_joined, semOf, c__law_joined]
    simp [-range1_i, hV, e1, m1, r1, k5]
end
end DL.Q

/-! MX -/
namespace DL.Q
open PySem L2 DL.Dr
/-! ### bounds of quotients -/
theorem den_div_le {p q : Int} (hq : 0 < q) : (((p : Rat) / (q : Rat)).den : Int) ≤ q := by
  have e := fr_rd (p := p) (q := q) (by omega)
  simp only [fr, rd, PyData.tuple.injEq, List.cons.injEq, PyData.int.injEq, and_true] at e
  have n := (num_abs (p := p) (q := q) (by omega)).2
  rw [e.2] at n
  omega
theorem cast_pos {i : Int} (h : 0 < i) : (0 : Rat) < (i : Rat) := Rat.intCast_lt_intCast.mpr h
theorem cast_ne {i : Int} (h : i ≠ 0) : (i : Rat) ≠ 0 := fun z => h (Rat.intCast_inj.mp z)
theorem cast_le {i j : Int} (h : i ≤ j) : (i : Rat) ≤ (j : Rat) := Rat.intCast_le_intCast.mpr h
theorem cast_lt {i j : Int} (h : i < j) : (i : Rat) < (j : Rat) := Rat.intCast_lt_intCast.mpr h
theorem div_mul_w {a w : Rat} (h : w ≠ 0) : a / w * w = a := by grind
theorem div_up {p q n : Int} (hq : 0 < q) (h : p ≤ n * q) : (p : Rat) / (q : Rat) ≤ (n : Rat) := by
  have q0 := cast_pos hq
  refine Rat.le_of_mul_le_mul_right (c := (q : Rat)) ?_ q0
  rw [div_mul_w (cast_ne (by omega)), ← Rat.intCast_mul]
  exact cast_le h
theorem div_dn {p q n : Int} (hq : 0 < q) (h : n * q ≤ p) : (n : Rat) ≤ (p : Rat) / (q : Rat) := by
  have q0 := cast_pos hq
  refine Rat.le_of_mul_le_mul_right (c := (q : Rat)) ?_ q0
  rw [div_mul_w (cast_ne (by omega)), ← Rat.intCast_mul]
  exact cast_le h
/-- a bounded quotient's number -/
theorem num_bd {t : Rat} {n : Int} {d : Nat} (h0 : ((-n : Int) : Rat) ≤ t) (h1 : t ≤ (n : Rat)) (hd : t.den ≤ d) (hn : 0 ≤ n) : -(n * d) ≤ t.num ∧ t.num ≤ n * d := by
  have dp := t.den_pos
  have d0 : (0 : Rat) ≤ ((t.den : Int) : Rat) := Rat.le_of_lt (cast_pos (by omega))
  have e := rat_mul_den t
  have u1 := Rat.mul_le_mul_of_nonneg_right h1 d0
  have u0 := Rat.mul_le_mul_of_nonneg_right h0 d0
  rw [e, ← Rat.intCast_mul] at u1 u0
  have v1 := Rat.intCast_le_intCast.mp u1
  have v0 := Rat.intCast_le_intCast.mp u0
  have m := Int.mul_le_mul_of_nonneg_left (show (t.den : Int) ≤ (d : Int) by omega) hn
  have m' : -n * (t.den : Int) = -(n * (t.den : Int)) := Int.neg_mul _ _
  omega
theorem den_int_add (i : Int) (a : Rat) : ((i : Rat) + a).den ≤ a.den := by
  refine Nat.le_trans (den_add_le _ _) ?_
  rw [Rat.den_intCast, Nat.one_mul]
  exact Nat.le_refl _
/-! stretching outside the middle -/
def sc (c x : Rat) : Rat := if x ≤ 1000 then (if -1000 ≤ x then x else -1000 + (x + 1000) * c) else 1000 + (x - 1000) * c
theorem sc_lt {c a b : Rat} (hc : 0 < c) (h : a < b) : sc c a < sc c b := by
  have m1 := Rat.mul_pos (show 0 < b - a by grind) hc
  unfold sc
  by_cases a1 : a ≤ 1000
  · by_cases b1 : b ≤ 1000
    · by_cases a2 : -1000 ≤ a
      · have b2 : -1000 ≤ b := by grind
        rw [if_pos a1, if_pos b1, if_pos a2, if_pos b2]; exact h
      · by_cases b2 : -1000 ≤ b
        · have m2 := Rat.mul_pos (show 0 < -1000 - a by grind) hc
          rw [if_pos a1, if_pos b1, if_neg a2, if_pos b2]; grind
        · rw [if_pos a1, if_pos b1, if_neg a2, if_neg b2]; grind
    · have m3 := Rat.mul_pos (show 0 < b - 1000 by grind) hc
      by_cases a2 : -1000 ≤ a
      · rw [if_pos a1, if_neg b1, if_pos a2]; grind
      · have m2 := Rat.mul_pos (show 0 < -1000 - a by grind) hc
        rw [if_pos a1, if_neg b1, if_neg a2]; grind
  · have b1 : ¬ b ≤ 1000 := by grind
    rw [if_neg a1, if_neg b1]; grind
theorem sc_inv {c x : Rat} (hc : 0 < c) : sc c (sc (1 / c) x) = x := by
  have i0 : 0 < 1 / c := by rw [Rat.lt_div_iff hc]; grind
  have ci : 1 / c * c = 1 := by grind
  by_cases x1 : x ≤ 1000
  · by_cases x2 : -1000 ≤ x
    · have e : sc (1 / c) x = x := by unfold sc; rw [if_pos x1, if_pos x2]
      rw [e]
      unfold sc
      rw [if_pos x1, if_pos x2]
    · have e : sc (1 / c) x = -1000 + (x + 1000) * (1 / c) := by unfold sc; rw [if_pos x1, if_neg x2]
      have m := Rat.mul_pos (show 0 < -1000 - x by grind) i0
      rw [e]
      generalize 1 / c = d at *
      unfold sc
      rw [if_pos (by grind), if_neg (by grind)]
      grind
  · have e : sc (1 / c) x = 1000 + (x - 1000) * (1 / c) := by unfold sc; rw [if_neg x1]
    have m := Rat.mul_pos (show 0 < x - 1000 by grind) i0
    rw [e]
    generalize 1 / c = d at *
    unfold sc
    rw [if_neg (by grind)]
    grind
def scm (c : Rat) (s : Sn) : Sn := (sc c s.1, sc c s.2)
theorem sc_le {c a b : Rat} (hc : 0 < c) : sc c a ≤ sc c b ↔ a ≤ b := by
  constructor
  · intro h
    by_cases k : a ≤ b
    · exact k
    · have := sc_lt hc (show b < a by grind)
      grind
  · intro h
    by_cases k : a = b
    · rw [k]; exact Rat.le_refl
    · have := sc_lt hc (show a < b by grind)
      grind
theorem can_sc {c : Rat} (hc : 0 < c) {L : List Sn} (h : Can L) : Can (L.map (scm c)) := by
  refine ⟨fun s hs => ?_, ?_⟩
  · obtain ⟨u, hu, rfl⟩ := List.mem_map.mp hs
    exact sc_lt hc (h.pos u hu)
  · rw [List.pairwise_map]
    exact h.gap.imp fun {a b} k => sc_lt hc k
theorem mem_sc {c x : Rat} (hc : 0 < c) {L : List Sn} : Mem (L.map (scm c)) (sc c x) ↔ Mem L x := by
  unfold Mem
  constructor
  · rintro ⟨s, hs, h1, h2⟩
    obtain ⟨u, hu, rfl⟩ := List.mem_map.mp hs
    exact ⟨u, hu, (sc_le hc).mp h1, (sc_le hc).mp h2⟩
  · rintro ⟨u, hu, h1, h2⟩
    exact ⟨scm c u, List.mem_map.mpr ⟨u, hu, rfl⟩, (sc_le hc).mpr h1, (sc_le hc).mpr h2⟩
theorem in_sc {c x : Rat} (hc : 0 < c) {L : List Sn} : InS (L.map (scm c)) (sc c x) ↔ InS L x := by
  unfold InS
  constructor
  · rintro ⟨s, hs, p, h1, h2⟩
    obtain ⟨u, hu, rfl⟩ := List.mem_map.mp hs
    refine ⟨u, hu, ?_, (sc_le hc).mp h1, (sc_le hc).mp h2⟩
    by_cases k : u.1 < u.2
    · exact k
    · have := (sc_le hc).mpr (show u.2 ≤ u.1 by grind)
      unfold scm at p
      grind
  · rintro ⟨u, hu, p, h1, h2⟩
    exact ⟨scm c u, List.mem_map.mpr ⟨u, hu, rfl⟩, sc_lt hc p, (sc_le hc).mpr h1, (sc_le hc).mpr h2⟩
/-- what is put together of stretched ones -/
theorem sc_one {c : Rat} (hc : 0 < c) {F G S : List Sn} (hF : Can F) (hG : Can G) (fm : ∀ x, Mem F x ↔ InS S x) (gm : ∀ x, Mem G x ↔ InS (S.map (scm c)) x) : G = F.map (scm c) := by
  refine can_one hG (can_sc hc hF) fun x => ?_
  obtain ⟨y, rfl⟩ : ∃ y, sc c y = x := ⟨sc (1 / c) x, sc_inv hc⟩
  rw [gm, in_sc hc, mem_sc hc, fm]
theorem sc_mid {c x : Rat} (h0 : -1000 ≤ x) (h1 : x ≤ 1000) : sc c x = x := by unfold sc; rw [if_pos h1, if_pos h0]
theorem sc_mx {c a b : Rat} (hc : 0 < c) : sc c (mx a b) = mx (sc c a) (sc c b) := by
  unfold mx
  by_cases h : b < a
  · rw [if_pos h, if_pos (sc_lt hc h)]
  · rw [if_neg h, if_neg (by have := (sc_le hc).mpr (show a ≤ b by grind); grind)]
theorem sc_mn {c a b : Rat} (hc : 0 < c) : sc c (mn a b) = mn (sc c a) (sc c b) := by
  unfold mn
  by_cases h : b < a
  · rw [if_pos h, if_pos (sc_lt hc h)]
  · rw [if_neg h, if_neg (by have := (sc_le hc).mpr (show a ≤ b by grind); grind)]
end DL.Q

/-! C_K28 -/
namespace DL.K28
open PySem
abbrev errs : List Str := ["BadPlace", "BadDial", "BadPosts", "BadLight", "BadPost", "BadLamp", "BadHeight"]
def b2__law_draws : Env → Out := (sIf (cTest (cOp oLt (cBt bLen (aCons (cBor 2) aNil)) (cBor 1))) (sSeq (sAsg 3 (asVal (cOp oMod (cBt bInt (aCons (cOp oAdd (cOp oAdd (cOp oMul1 (cBor 3) (cC (.int 69621))) (cBor 6)) (cC (.int 1))) aNil)) (cC (.int 2147483647)))))
  (sApp 2 (cOp oMod (cOp oDiv (cBt bInt (aCons (cBor 3) aNil)) (cC (.int 7))) (cC (.int 65521))))) sNx)
def b1__law_draws : Env → Out := (sIf (cTest (cOp oGt (cBor 5) (cC (.int 0)))) (sSeq (sApp 2 (cOp oMod (cBt bInt (aCons (cBor 5) aNil)) (cC (.int 1009))))
  (sAsg 5 (asVal (cOp oDiv (cBor 5) (cC (.int 1009)))))) sNx)
def b0__law_draws : Env → Out := (sSeq (sAsg 5 (asVal (cBt bAbs (aCons (cBor 4) aNil))))
  (sSeq (sAsg 3 (asVal (cOp oMod (cBt bInt (aCons (cOp oAdd (cOp oAdd (cOp oMul1 (cBor 3) (cC (.int 48271))) (cBor 5)) (cC (.int 11))) aNil)) (cC (.int 2147483647)))))
  (sIf (cTest (cOp oGe (cBor 5) (cOp oPow (cC (.int 10)) (cC (.int 18))))) (sFor (cIt range1D (aCons (cC (.int 60)) aNil)) (sName 6) b1__law_draws) (sApp 2 (cOp oMod (cOp oDiv (cBt bInt (aCons (cOp oAdd (cOp oMul1 (cBor 3) (cC (.int 16807))) (cC (.int 5))) aNil)) (cC (.int 3))) (cC (.int 65521)))))))
def c__law_draws : Env → Out := (sSeq (sAsg 2 (asOwn (cLst aNil)))
  (sSeq (sAsg 3 (asVal (cC (.int 7))))
  (sSeq (sFor (cItems (cSl (cBor 0) pNone (pSome (cC (.int 63))))) (sName 4) b0__law_draws)
  (sSeq (sFor (cIt range1D (aCons (cVar 1) aNil)) (sName 6) b2__law_draws)
  (sRet (cSl (cBor 2) pNone (pSome (cVar 1))))))))
def f__law_draws : List D → R D := semOf 7 2 c__law_draws
def b0__law_posts : Env → Out := (sSeq (sAsg 4 (asVal (cBt bInt (aCons (cOp oIxA (cBor 0) (cOp oAdd (cC (.int 1)) (cBor 3))) aNil))))
  (sPut 2 (cOp oAdd (cC (.int 1)) (cOp oMod (cOp oDiv (cBor 4) (cC (.int 32))) (cC (.int 20)))) (cOp oMod (cBor 4) (cC (.int 30)))))
def c__law_posts : Env → Out := (sSeq (sAsg 2 asDic)
  (sSeq (sFor (cIt range1D (aCons (cOp oAdd (cC (.int 1)) (cOp oMod (cBt bInt (aCons (cOp oIxA (cBor 0) (cC (.int 0))) aNil)) (cBor 1))) aNil)) (sName 3) b0__law_posts)
  (sRet (cBt bTuple (aCons (asList (cLc (cItems (cBt bSortedB (aCons (cBor 2) aNil))) (sName 5) cYes (cTup (aCons (cVar 5) (aCons (cOp oIxA (cBor 2) (cBor 5)) aNil))) [5])) aNil)))))
def f__law_posts : List D → R D := semOf 6 2 c__law_posts
def b0__law_plain : Env → Out := (sPar 2 3 (asVal (cVar 3)) (asVal (cOp oMod (cBt bInt (aCons (cBor 2) aNil)) (cBor 3))))
def c__law_plain : Env → Out := (sSeq (sPar 2 3 (asVal (cBt bMax2 (aCons (cBor 0) (aCons (cOp oSub (cC (.int 0)) (cBor 0)) aNil)))) (asVal (cBt bMax2 (aCons (cBor 1) (aCons (cOp oSub (cC (.int 0)) (cBor 1)) aNil)))))
  (sSeq (sWhile (cTest (cOp oGt (cBor 3) (cC (.int 0)))) b0__law_plain)
  (sRet (cIf (cTest (cOp oGt (cBor 1) (cC (.int 0)))) (cTup (aCons (cOp oDiv (cBor 0) (cBor 2)) (aCons (cOp oDiv (cBor 1) (cBor 2)) aNil))) (cTup (aCons (cOp oSub (cC (.int 0)) (cOp oDiv (cBor 0) (cBor 2))) (aCons (cOp oSub (cC (.int 0)) (cOp oDiv (cBor 1) (cBor 2))) aNil)))))))
def f__law_plain : List D → R D := semOf 4 2 c__law_plain
def c__law_light : Env → Out := (sRet (cCall f__law_plain (aCons (cOp oSub (cOp oMod (cBor 0) (cC (.int 25))) (cC (.int 12))) (aCons (cOp oAdd (cC (.int 1)) (cOp oMod (cOp oDiv (cBor 0) (cC (.int 32))) (cC (.int 6)))) aNil))))
def f__law_light : List D → R D := semOf 1 1 c__law_light
def c_ascends : Env → Out := (sRet (cBt bAll (aCons (asList (cLc (cIt zip2D (aCons (cBor 0) (aCons (cSl (cBor 0) (pSome (cC (.int 1))) pNone) aNil))) (sTup (sCons (sName 1) (sCons (sName 2) sNil))) cYes (cOp oLt (cBor 1) (cBor 2)) [1, 2])) aNil)))
def f_ascends : List D → R D := semOf 3 1 c_ascends
def c_is_whole : Env → Out := (sRet (cAndV (cIs isIntD (cBor 0)) (cAndV (cNotV (cIs isBoolD (cBor 0))) (cChain oLe oLe (cBor 1) (cBor 0) (cBor 2)))))
def f_is_whole : List D → R D := semOf 3 3 c_is_whole
def c_is_post : Env → Out := (sSeq (sIf (cOr (cNot (cTest (cIs isTupleD (cBor 0)))) (cTest (cOp oNe (cBt bLen (aCons (cBor 0) aNil)) (cC (.int 2))))) (sRet (cC (.bool false))) sNx)
  (sRet (cAndV (cCall f_is_whole (aCons (cOp oIxA (cBor 0) (cC (.int 0))) (aCons (cC (.int 0)) (aCons (cC (.int 1000)) aNil)))) (cCall f_is_whole (aCons (cOp oIxA (cBor 0) (cC (.int 1))) (aCons (cC (.int 1)) (aCons (cC (.int 1000)) aNil)))))))
def f_is_post : List D → R D := semOf 1 1 c_is_post
def c_are_posts : Env → Out := (sSeq (sIf (cOr (cNot (cTest (cIs isTupleD (cBor 0)))) (cOr (cNot (cTest (cChain oLe oLe (cC (.int 1)) (cBt bLen (aCons (cBor 0) aNil)) (cC (.int 8))))) (cNot (cTest (cBt bAll (aCons (asList (cLc (cItems (cBor 0)) (sName 1) cYes (cCall f_is_post (aCons (cVar 1) aNil)) [1])) aNil)))))) (sRet (cC (.bool false))) sNx)
  (sRet (cCall f_ascends (aCons (asList (cLc (cItems (cBor 0)) (sName 1) cYes (cOp oIxA (cBor 1) (cC (.int 0))) [1])) aNil))))
def f_are_posts : List D → R D := semOf 2 1 c_are_posts
def c_check_posts : Env → Out := (sIf (cNot (cTest (cCall f_are_posts (aCons (cVar 0) aNil)))) (sRaise "BadPosts") sNx)
def f_check_posts : List D → R D := semOf 1 1 c_check_posts
def b0_divisor : Env → Out := (sPar 0 1 (asVal (cVar 1)) (asVal (cOp oMod (cBor 0) (cBor 1))))
def c_divisor : Env → Out := (sSeq (sPar 0 1 (asVal (cBt bAbs (aCons (cBor 0) aNil))) (asVal (cBt bAbs (aCons (cBor 1) aNil))))
  (sSeq (sWhile (cTest (cOp oGt (cBor 1) (cC (.int 0)))) b0_divisor)
  (sRet (cVar 0))))
def f_divisor : List D → R D := semOf 2 2 c_divisor
def c_is_ratio : Env → Out := (sSeq (sIf (cOr (cNot (cTest (cIs isTupleD (cBor 0)))) (cTest (cOp oNe (cBt bLen (aCons (cBor 0) aNil)) (cC (.int 2))))) (sRet (cC (.bool false))) sNx)
  (sSeq (sIf (cNot (cTest (cBt bAll (aCons (asList (cLc (cItems (cBor 0)) (sName 1) cYes (cAndV (cIs isIntD (cBor 1)) (cNotV (cIs isBoolD (cBor 1)))) [1])) aNil)))) (sRet (cC (.bool false))) sNx)
  (sRet (cAndV (cOp oGt (cOp oIxA (cBor 0) (cC (.int 1))) (cC (.int 0))) (cOp oEq (cCall f_divisor (aCons (cOp oIxA (cBor 0) (cC (.int 0))) (aCons (cOp oIxA (cBor 0) (cC (.int 1))) aNil))) (cC (.int 1)))))))
def f_is_ratio : List D → R D := semOf 2 1 c_is_ratio
def c_is_small : Env → Out := (sRet (cAndV (cCall f_is_ratio (aCons (cVar 0) aNil)) (cAndV (cCall f_is_whole (aCons (cOp oIxA (cBor 0) (cC (.int 0))) (aCons (cOp oSub (cC (.int 0)) (cC (.int 1000000))) (aCons (cC (.int 1000000)) aNil)))) (cOp oLe (cOp oIxA (cBor 0) (cC (.int 1))) (cC (.int 1000000))))))
def f_is_small : List D → R D := semOf 1 1 c_is_small
def c_is_less : Env → Out := (sRet (cOp oLt (cOp oMul1 (cOp oIxA (cBor 0) (cC (.int 0))) (cOp oIxA (cBor 1) (cC (.int 1)))) (cOp oMul1 (cOp oIxA (cBor 1) (cC (.int 0))) (cOp oIxA (cBor 0) (cC (.int 1))))))
def f_is_less : List D → R D := semOf 2 2 c_is_less
def c_is_light : Env → Out := (sRet (cAndV (cCall f_is_small (aCons (cVar 0) aNil)) (cAndV (cNotV (cCall f_is_less (aCons (cVar 0) (aCons (cC (.tuple [.int (-100), .int 1])) aNil)))) (cNotV (cCall f_is_less (aCons (cC (.tuple [.int 100, .int 1])) (aCons (cVar 0) aNil)))))))
def f_is_light : List D → R D := semOf 1 1 c_is_light
def c__check : Env → Out := (sSeq (sDrop (cCall f_check_posts (aCons (cVar 0) aNil)))
  (sIf (cNot (cTest (cCall f_is_light (aCons (cVar 1) aNil)))) (sRaise "BadLight") sNx))
def f__check : List D → R D := semOf 2 2 c__check
def c_ratio : Env → Out := (sSeq (sAsg 2 (asVal (cCall f_divisor (aCons (cVar 0) (aCons (cVar 1) aNil)))))
  (sRet (cIf (cTest (cOp oGt (cBor 1) (cC (.int 0)))) (cTup (aCons (cOp oDiv (cBor 0) (cBor 2)) (aCons (cOp oDiv (cBor 1) (cBor 2)) aNil))) (cTup (aCons (cOp oSub (cC (.int 0)) (cOp oDiv (cBor 0) (cBor 2))) (aCons (cOp oSub (cC (.int 0)) (cOp oDiv (cBor 1) (cBor 2))) aNil))))))
def f_ratio : List D → R D := semOf 3 2 c_ratio
def c_plus : Env → Out := (sRet (cCall f_ratio (aCons (cOp oAdd (cOp oMul1 (cOp oIxA (cBor 0) (cC (.int 0))) (cOp oIxA (cBor 1) (cC (.int 1)))) (cOp oMul1 (cOp oIxA (cBor 1) (cC (.int 0))) (cOp oIxA (cBor 0) (cC (.int 1))))) (aCons (cOp oMul1 (cOp oIxA (cBor 0) (cC (.int 1))) (cOp oIxA (cBor 1) (cC (.int 1)))) aNil))))
def f_plus : List D → R D := semOf 2 2 c_plus
def c_times : Env → Out := (sRet (cCall f_ratio (aCons (cOp oMul1 (cOp oIxA (cBor 0) (cC (.int 0))) (cOp oIxA (cBor 1) (cC (.int 0)))) (aCons (cOp oMul1 (cOp oIxA (cBor 0) (cC (.int 1))) (cOp oIxA (cBor 1) (cC (.int 1)))) aNil))))
def f_times : List D → R D := semOf 2 2 c_times
def c_tip_in : Env → Out := (sRet (cCall f_plus (aCons (cTup (aCons (cOp oIxA (cBor 0) (cC (.int 0))) (aCons (cC (.int 1)) aNil))) (aCons (cCall f_times (aCons (cTup (aCons (cOp oIxA (cBor 0) (cC (.int 1))) (aCons (cC (.int 1)) aNil))) (aCons (cVar 1) aNil))) aNil))))
def f_tip_in : List D → R D := semOf 2 2 c_tip_in
def c_tips_of : Env → Out := (sSeq (sDrop (cCall f__check (aCons (cVar 0) (aCons (cVar 1) aNil))))
  (sRet (cBt bTuple (aCons (asList (cLc (cItems (cBor 0)) (sName 2) cYes (cCall f_tip_in (aCons (cVar 2) (aCons (cVar 1) aNil))) [2])) aNil))))
def f_tips_of : List D → R D := semOf 3 2 c_tips_of
def c_least : Env → Out := (sRet (cIf (cTest (cCall f_is_less (aCons (cVar 1) (aCons (cVar 0) aNil)))) (cVar 1) (cVar 0)))
def f_least : List D → R D := semOf 2 2 c_least
def c_greatest : Env → Out := (sRet (cIf (cTest (cCall f_is_less (aCons (cVar 1) (aCons (cVar 0) aNil)))) (cVar 0) (cVar 1)))
def f_greatest : List D → R D := semOf 2 2 c_greatest
def c__shadow : Env → Out := (sSeq (sPar 2 3 (asVal (cTup (aCons (cOp oIxA (cBor 0) (cC (.int 0))) (aCons (cC (.int 1)) aNil)))) (asVal (cCall f_tip_in (aCons (cVar 0) (aCons (cVar 1) aNil)))))
  (sRet (cTup (aCons (cCall f_least (aCons (cVar 2) (aCons (cVar 3) aNil))) (aCons (cCall f_greatest (aCons (cVar 2) (aCons (cVar 3) aNil))) aNil)))))
def f__shadow : List D → R D := semOf 4 2 c__shadow
def c_shadows_of : Env → Out := (sSeq (sDrop (cCall f__check (aCons (cVar 0) (aCons (cVar 1) aNil))))
  (sRet (cBt bTuple (aCons (asList (cLc (cItems (cBor 0)) (sName 2) cYes (cCall f__shadow (aCons (cVar 2) (aCons (cVar 1) aNil))) [2])) aNil))))
def f_shadows_of : List D → R D := semOf 3 2 c_shadows_of
def c__law_is_number : Env → Out := (sRet (cAndV (cIs isIntD (cBor 0)) (cNotV (cIs isBoolD (cBor 0)))))
def f__law_is_number : List D → R D := semOf 1 1 c__law_is_number
def b0__law_are_posts : Env → Out := (sSeq (sIf (cOr (cNot (cTest (cIs isTupleD (cBor 1)))) (cOr (cTest (cOp oNe (cBt bLen (aCons (cBor 1) aNil)) (cC (.int 2)))) (cOr (cNot (cTest (cCall f__law_is_number (aCons (cOp oIxA (cBor 1) (cC (.int 0))) aNil)))) (cNot (cTest (cCall f__law_is_number (aCons (cOp oIxA (cBor 1) (cC (.int 1))) aNil))))))) (sRet (cC (.bool false))) sNx)
  (sIf (cOr (cNot (cTest (cChain oLe oLe (cC (.int 0)) (cOp oIxA (cBor 1) (cC (.int 0))) (cC (.int 1000))))) (cNot (cTest (cChain oLe oLe (cC (.int 1)) (cOp oIxA (cBor 1) (cC (.int 1))) (cC (.int 1000)))))) (sRet (cC (.bool false))) sNx))
def c__law_are_posts : Env → Out := (sSeq (sIf (cOr (cNot (cTest (cIs isTupleD (cBor 0)))) (cNot (cTest (cChain oLe oLe (cC (.int 1)) (cBt bLen (aCons (cBor 0) aNil)) (cC (.int 8)))))) (sRet (cC (.bool false))) sNx)
  (sSeq (sFor (cItems (cVar 0)) (sName 1) b0__law_are_posts)
  (sRet (cOp oEq (asList (cLc (cItems (cBor 0)) (sName 1) cYes (cOp oIxA (cBor 1) (cC (.int 0))) [1])) (cBt bSet1 (aCons (asList (cLc (cItems (cBor 0)) (sName 1) cYes (cOp oIxA (cBor 1) (cC (.int 0))) [1])) aNil))))))
def f__law_are_posts : List D → R D := semOf 2 1 c__law_are_posts
def c__law_is_light : Env → Out := (sSeq (sIf (cOr (cNot (cTest (cIs isTupleD (cBor 0)))) (cOr (cTest (cOp oNe (cBt bLen (aCons (cBor 0) aNil)) (cC (.int 2)))) (cNot (cTest (cBt bAll (aCons (asList (cLc (cItems (cBor 0)) (sName 1) cYes (cAndV (cCall f__law_is_number (aCons (cVar 1) aNil)) (cChain oLe oLe (cUn oNeg (cOp oPow (cC (.int 10)) (cC (.int 6)))) (cBor 1) (cOp oPow (cC (.int 10)) (cC (.int 6))))) [1])) aNil)))))) (sRet (cC (.bool false))) sNx)
  (sRet (cAndV (cOp oGt (cOp oIxA (cBor 0) (cC (.int 1))) (cC (.int 0))) (cAndV (cOp oEq (cCall f__law_plain (aCons (cOp oIxA (cBor 0) (cC (.int 0))) (aCons (cOp oIxA (cBor 0) (cC (.int 1))) aNil))) (cBor 0)) (cChain oLe oLe (cOp oMul1 (cUn oNeg (cC (.int 100))) (cOp oIxA (cBor 0) (cC (.int 1)))) (cOp oIxA (cBor 0) (cC (.int 0))) (cOp oMul1 (cC (.int 100)) (cOp oIxA (cBor 0) (cC (.int 1)))))))))
def f__law_is_light : List D → R D := semOf 2 1 c__law_is_light
def b0_in_order : Env → Out := (sSeq (sAsg 3 (asVal (cBt bLen (aCons (asList (cLc (cItems (cBor 1)) (sName 4) (cNot (cTest (cCall f_is_less (aCons (cVar 2) (aCons (cVar 4) aNil))))) (cVar 4) [4])) aNil))))
  (sAsg 1 (asVal (cOp oAdd (cOp oAdd (cSl (cBor 1) pNone (pSome (cVar 3))) (asList (cLst (aCons (cVar 2) aNil)))) (cSl (cBor 1) (pSome (cVar 3)) pNone)))))
def c_in_order : Env → Out := (sSeq (sAsg 1 (asVal (asList (cLst aNil))))
  (sSeq (sFor (cItems (cVar 0)) (sName 2) b0_in_order)
  (sRet (cVar 1))))
def f_in_order : List D → R D := semOf 5 1 c_in_order
def b1_put_together : Env → Out := (sAsg 5 (asVal (cIf (cTest (cOp oEq (cOp oIxA (cBor 1) (cC (.int 0))) (cBor 4))) (cCall f_greatest (aCons (cVar 5) (aCons (cOp oIxA (cBor 1) (cC (.int 1))) aNil))) (cVar 5))))
def b0_put_together : Env → Out := (sSeq (sAsg 5 (asVal (cVar 4)))
  (sSeq (sFor (cItems (cVar 2)) (sName 1) b1_put_together)
  (sIf (cAnd (cTest (cOp oGt (cBt bLen (aCons (cBor 3) aNil)) (cC (.int 0)))) (cNot (cTest (cCall f_is_less (aCons (cOp oIxA (cOp oIxA (cBor 3) (cUn oNeg (cC (.int 1)))) (cC (.int 1))) (aCons (cVar 4) aNil)))))) (sPutL 3 (cTup (aCons (cOp oIxA (cOp oIxA (cBor 3) (cUn oNeg (cC (.int 1)))) (cC (.int 0))) (aCons (cCall f_greatest (aCons (cOp oIxA (cOp oIxA (cBor 3) (cUn oNeg (cC (.int 1)))) (cC (.int 1))) (aCons (cVar 5) aNil))) aNil))) (cUn oNeg (cC (.int 1)))) (sApp 3 (cTup (aCons (cVar 4) (aCons (cVar 5) aNil)))))))
def c_put_together : Env → Out := (sSeq (sAsg 2 (asVal (asList (cLc (cItems (cBor 0)) (sName 1) (cTest (cCall f_is_less (aCons (cOp oIxA (cBor 1) (cC (.int 0))) (aCons (cOp oIxA (cBor 1) (cC (.int 1))) aNil)))) (cVar 1) [1]))))
  (sSeq (sAsg 3 (asOwn (cLst aNil)))
  (sSeq (sFor (cItems (cCall f_in_order (aCons (asList (cLc (cItems (cBor 2)) (sName 1) cYes (cOp oIxA (cBor 1) (cC (.int 0))) [1])) aNil))) (sName 4) b0_put_together)
  (sFrz 3 (sRet (cVar 3))))))
def f_put_together : List D → R D := semOf 6 1 c_put_together
def c__shade : Env → Out := (sRet (cCall f_put_together (aCons (asList (cLc (cItems (cBor 0)) (sName 2) cYes (cCall f__shadow (aCons (cVar 2) (aCons (cVar 1) aNil))) [2])) aNil)))
def f__shade : List D → R D := semOf 3 2 c__shade
def c_shade_of : Env → Out := (sSeq (sDrop (cCall f__check (aCons (cVar 0) (aCons (cVar 1) aNil))))
  (sRet (cBt bTuple (aCons (cCall f__shade (aCons (cVar 0) (aCons (cVar 1) aNil))) aNil))))
def f_shade_of : List D → R D := semOf 2 2 c_shade_of
def c_minus : Env → Out := (sRet (cCall f_ratio (aCons (cOp oSub (cOp oMul1 (cOp oIxA (cBor 0) (cC (.int 0))) (cOp oIxA (cBor 1) (cC (.int 1)))) (cOp oMul1 (cOp oIxA (cBor 1) (cC (.int 0))) (cOp oIxA (cBor 0) (cC (.int 1))))) (aCons (cOp oMul1 (cOp oIxA (cBor 0) (cC (.int 1))) (cOp oIxA (cBor 1) (cC (.int 1)))) aNil))))
def f_minus : List D → R D := semOf 2 2 c_minus
def b0_shade_length : Env → Out := (sAsg 2 (asVal (cCall f_plus (aCons (cVar 2) (aCons (cCall f_minus (aCons (cVar 4) (aCons (cVar 3) aNil))) aNil)))))
def c_shade_length : Env → Out := (sSeq (sDrop (cCall f__check (aCons (cVar 0) (aCons (cVar 1) aNil))))
  (sSeq (sAsg 2 (asVal (cC (.tuple [.int 0, .int 1]))))
  (sSeq (sFor (cItems (cCall f__shade (aCons (cVar 0) (aCons (cVar 1) aNil)))) (sTup (sCons (sName 3) (sCons (sName 4) sNil))) b0_shade_length)
  (sRet (cVar 2)))))
def f_shade_length : List D → R D := semOf 5 2 c_shade_length
def c_check_place : Env → Out := (sIf (cNot (cTest (cCall f_is_ratio (aCons (cVar 0) aNil)))) (sRaise "BadPlace") sNx)
def f_check_place : List D → R D := semOf 1 1 c_check_place
def c_is_shaded : Env → Out := (sSeq (sDrop (cCall f__check (aCons (cVar 0) (aCons (cVar 1) aNil))))
  (sSeq (sDrop (cCall f_check_place (aCons (cVar 2) aNil)))
  (sRet (cBt bAny (aCons (asList (cLc (cItems (cCall f__shade (aCons (cVar 0) (aCons (cVar 1) aNil)))) (sTup (sCons (sName 3) (sCons (sName 4) sNil))) cYes (cAndV (cNotV (cCall f_is_less (aCons (cVar 2) (aCons (cVar 3) aNil)))) (cNotV (cCall f_is_less (aCons (cVar 4) (aCons (cVar 2) aNil))))) [3, 4])) aNil)))))
def f_is_shaded : List D → R D := semOf 5 3 c_is_shaded
def c_check_post : Env → Out := (sIf (cNot (cTest (cCall f_is_whole (aCons (cVar 1) (aCons (cC (.int 0)) (aCons (cOp oSub (cBt bLen (aCons (cBor 0) aNil)) (cC (.int 1))) aNil)))))) (sRaise "BadPost") sNx)
def f_check_post : List D → R D := semOf 2 2 c_check_post
def c_over : Env → Out := (sRet (cCall f_ratio (aCons (cOp oMul1 (cOp oIxA (cBor 0) (cC (.int 0))) (cOp oIxA (cBor 1) (cC (.int 1)))) (aCons (cOp oMul1 (cOp oIxA (cBor 0) (cC (.int 1))) (cOp oIxA (cBor 1) (cC (.int 0)))) aNil))))
def f_over : List D → R D := semOf 2 2 c_over
def c__height_at : Env → Out := (sSeq (sAsg 3 (asVal (cTup (aCons (cOp oSub (cBor 2) (cOp oIxA (cBor 0) (cC (.int 0)))) (aCons (cC (.int 1)) aNil)))))
  (sSeq (sIf (cOr (cTest (cOp oEq (cBor 1) (cC (.tuple [.int 0, .int 1])))) (cOr (cTest (cOp oEq (cBor 3) (cC (.tuple [.int 0, .int 1])))) (cTest (cOp oNe (cCall f_is_less (aCons (cC (.tuple [.int 0, .int 1])) (aCons (cVar 3) aNil))) (cCall f_is_less (aCons (cC (.tuple [.int 0, .int 1])) (aCons (cVar 1) aNil))))))) (sRet (cC (.tuple [.int 0, .int 1]))) sNx)
  (sRet (cCall f_greatest (aCons (cC (.tuple [.int 0, .int 1])) (aCons (cCall f_minus (aCons (cTup (aCons (cOp oIxA (cBor 0) (cC (.int 1))) (aCons (cC (.int 1)) aNil))) (aCons (cCall f_over (aCons (cVar 3) (aCons (cVar 1) aNil))) aNil))) aNil))))))
def f__height_at : List D → R D := semOf 4 3 c__height_at
def b0__shade_on : Env → Out := (sAsg 5 (asVal (cCall f_greatest (aCons (cVar 5) (aCons (cCall f__height_at (aCons (cVar 6) (aCons (cVar 1) (aCons (cVar 3) aNil)))) aNil)))))
def c__shade_on : Env → Out := (sSeq (sTo (sTup (sCons (sName 3) (sCons (sName 4) sNil))) (cOp oIxA (cBor 0) (cBor 2)))
  (sSeq (sAsg 5 (asVal (cC (.tuple [.int 0, .int 1]))))
  (sSeq (sFor (cItems (cVar 0)) (sName 6) b0__shade_on)
  (sRet (cCall f_least (aCons (cVar 5) (aCons (cTup (aCons (cVar 4) (aCons (cC (.int 1)) aNil))) aNil)))))))
def f__shade_on : List D → R D := semOf 7 3 c__shade_on
def c_shade_on : Env → Out := (sSeq (sDrop (cCall f__check (aCons (cVar 0) (aCons (cVar 1) aNil))))
  (sSeq (sDrop (cCall f_check_post (aCons (cVar 0) (aCons (cVar 2) aNil))))
  (sRet (cCall f__shade_on (aCons (cVar 0) (aCons (cVar 1) (aCons (cVar 2) aNil)))))))
def f_shade_on : List D → R D := semOf 3 3 c_shade_on
def c_hidden_by : Env → Out := (sSeq (sDrop (cCall f__check (aCons (cVar 0) (aCons (cVar 1) aNil))))
  (sRet (cBt bTuple (aCons (asList (cLc (cIt enumAD (aCons (cBor 0) aNil)) (sTup (sCons (sName 2) (sCons (sName 3) sNil))) (cTest (cOp oEq (cCall f__shade_on (aCons (cVar 0) (aCons (cVar 1) (aCons (cVar 2) aNil)))) (cTup (aCons (cOp oIxA (cBor 3) (cC (.int 1))) (aCons (cC (.int 1)) aNil))))) (cVar 2) [2, 3])) aNil))))
def f_hidden_by : List D → R D := semOf 4 2 c_hidden_by
def c__law_first : Env → Out := (sIf (cTest (cOp oEq (cBor 0) (cC (.int 0)))) (sDrop (cCall f_tips_of (aCons (cVar 1) (aCons (cVar 2) aNil)))) (sIf (cTest (cOp oEq (cBor 0) (cC (.int 1)))) (sDrop (cCall f_shadows_of (aCons (cVar 1) (aCons (cVar 2) aNil)))) (sIf (cTest (cOp oEq (cBor 0) (cC (.int 2)))) (sDrop (cCall f_shade_of (aCons (cVar 1) (aCons (cVar 2) aNil)))) (sIf (cTest (cOp oEq (cBor 0) (cC (.int 3)))) (sDrop (cCall f_shade_length (aCons (cVar 1) (aCons (cVar 2) aNil)))) (sIf (cTest (cOp oEq (cBor 0) (cC (.int 4)))) (sDrop (cCall f_is_shaded (aCons (cVar 1) (aCons (cVar 2) (aCons (cC .none) aNil))))) (sIf (cTest (cOp oEq (cBor 0) (cC (.int 5)))) (sDrop (cCall f_shade_on (aCons (cVar 1) (aCons (cVar 2) (aCons (cC .none) aNil))))) (sDrop (cCall f_hidden_by (aCons (cVar 1) (aCons (cVar 2) aNil))))))))))
def f__law_first : List D → R D := semOf 3 3 c__law_first
def c_check_two : Env → Out := (sSeq (sDrop (cCall f_check_posts (aCons (cVar 0) aNil)))
  (sSeq (sDrop (cCall f_check_post (aCons (cVar 0) (aCons (cVar 1) aNil))))
  (sSeq (sDrop (cCall f_check_post (aCons (cVar 0) (aCons (cVar 2) aNil))))
  (sIf (cTest (cOp oEq (cBor 1) (cBor 2))) (sRaise "BadPost") sNx))))
def f_check_two : List D → R D := semOf 3 3 c_check_two
def c__meeting : Env → Out := (sSeq (sIf (cTest (cOp oEq (cOp oIxA (cBor 0) (cC (.int 1))) (cOp oIxA (cBor 1) (cC (.int 1))))) (sRet (cC .none)) sNx)
  sBad)
def f__meeting : List D → R D := semOf 2 2 c__meeting
def c_light_meeting : Env → Out := (sSeq (sDrop (cCall f_check_two (aCons (cVar 0) (aCons (cVar 1) (aCons (cVar 2) aNil)))))
  (sRet (cCall f__meeting (aCons (cOp oIxA (cBor 0) (cBor 1)) (aCons (cOp oIxA (cBor 0) (cBor 2)) aNil)))))
def f_light_meeting : List D → R D := semOf 3 3 c_light_meeting
def c_light_hiding : Env → Out := (sSeq (sDrop (cCall f_check_two (aCons (cVar 0) (aCons (cVar 1) (aCons (cVar 2) aNil)))))
  (sRet (cIf (cTest (cOp oGt (cOp oIxA (cOp oIxA (cBor 0) (cBor 1)) (cC (.int 1))) (cOp oIxA (cOp oIxA (cBor 0) (cBor 2)) (cC (.int 1))))) (cCall f__meeting (aCons (cOp oIxA (cBor 0) (cBor 1)) (aCons (cOp oIxA (cBor 0) (cBor 2)) aNil))) (cC .none))))
def f_light_hiding : List D → R D := semOf 3 3 c_light_hiding
def b1_meeting_lights : Env → Out := (sPut 1 (cC (.bool true)) (cCall f__meeting (aCons (cVar 3) (aCons (cVar 4) aNil))))
def b0_meeting_lights : Env → Out := (sFor (cItems (cSl (cBor 0) (pSome (cOp oAdd (cBor 2) (cC (.int 1)))) pNone)) (sName 4) b1_meeting_lights)
def c_meeting_lights : Env → Out := (sSeq (sDrop (cCall f_check_posts (aCons (cVar 0) aNil)))
  (sSeq (sAsg 1 asDic)
  (sSeq (sFor (cIt enumAD (aCons (cVar 0) aNil)) (sTup (sCons (sName 2) (sCons (sName 3) sNil))) b0_meeting_lights)
  (sRet (cBt bTuple (aCons (cCall f_in_order (aCons (asList (cLc (cItems (cBor 1)) (sName 5) (cTest (cOp oIsNot (cBor 5) (cC .none))) (cVar 5) [5])) aNil)) aNil))))))
def f_meeting_lights : List D → R D := semOf 6 1 c_meeting_lights
def c__check_lamp : Env → Out := (sSeq (sIf (cOr (cNot (cTest (cIs isTupleD (cBor 0)))) (cOr (cTest (cOp oNe (cBt bLen (aCons (cBor 0) aNil)) (cC (.int 2)))) (cNot (cTest (cCall f_is_whole (aCons (cOp oIxA (cBor 0) (cC (.int 0))) (aCons (cC (.int 0)) (aCons (cC (.int 1000)) aNil)))))))) (sRaise "BadLamp") sNx)
  (sIf (cNot (cTest (cCall f_is_whole (aCons (cOp oIxA (cBor 0) (cC (.int 1))) (aCons (cC (.int 1)) (aCons (cC (.int 2000)) aNil)))))) (sRaise "BadLamp") sNx))
def f__check_lamp : List D → R D := semOf 1 1 c__check_lamp
def c__tip : Env → Out := (sSeq (sIf (cTest (cOp oGe (cOp oIxA (cBor 0) (cC (.int 1))) (cOp oIxA (cBor 1) (cC (.int 1))))) (sRet (cC .none)) sNx)
  (sRet (cCall f_plus (aCons (cTup (aCons (cOp oIxA (cBor 0) (cC (.int 0))) (aCons (cC (.int 1)) aNil))) (aCons (cCall f_ratio (aCons (cOp oMul1 (cOp oIxA (cBor 0) (cC (.int 1))) (cOp oSub (cOp oIxA (cBor 0) (cC (.int 0))) (cOp oIxA (cBor 1) (cC (.int 0))))) (aCons (cOp oSub (cOp oIxA (cBor 1) (cC (.int 1))) (cOp oIxA (cBor 0) (cC (.int 1)))) aNil))) aNil)))))
def f__tip : List D → R D := semOf 2 2 c__tip
def c_lamp_tips : Env → Out := (sSeq (sDrop (cCall f_check_posts (aCons (cVar 0) aNil)))
  (sSeq (sDrop (cCall f__check_lamp (aCons (cVar 1) aNil)))
  (sRet (cBt bTuple (aCons (asList (cLc (cItems (cBor 0)) (sName 2) cYes (cCall f__tip (aCons (cVar 2) (aCons (cVar 1) aNil))) [2])) aNil)))))
def f_lamp_tips : List D → R D := semOf 3 2 c_lamp_tips
def c__span : Env → Out := (sSeq (sPar 2 3 (asVal (cTup (aCons (cOp oIxA (cBor 0) (cC (.int 0))) (aCons (cC (.int 1)) aNil)))) (asVal (cCall f__tip (aCons (cVar 0) (aCons (cVar 1) aNil)))))
  (sSeq (sIf (cAnd (cTest (cOp oIs (cBor 3) (cC .none))) (cTest (cOp oEq (cOp oIxA (cBor 0) (cC (.int 0))) (cOp oIxA (cBor 1) (cC (.int 0)))))) (sRet (cTup (aCons (cC (.tuple [.int (-1000000000000), .int 1])) (aCons (cC (.tuple [.int 1000000000000, .int 1])) aNil)))) sNx)
  (sSeq (sIf (cTest (cOp oIs (cBor 3) (cC .none))) (sRet (cIf (cTest (cOp oGt (cOp oIxA (cBor 0) (cC (.int 0))) (cOp oIxA (cBor 1) (cC (.int 0))))) (cTup (aCons (cVar 2) (aCons (cC (.tuple [.int 1000000000000, .int 1])) aNil))) (cTup (aCons (cC (.tuple [.int (-1000000000000), .int 1])) (aCons (cVar 2) aNil))))) sNx)
  (sRet (cTup (aCons (cCall f_least (aCons (cVar 2) (aCons (cVar 3) aNil))) (aCons (cCall f_greatest (aCons (cVar 2) (aCons (cVar 3) aNil))) aNil)))))))
def f__span : List D → R D := semOf 4 2 c__span
def c__dark : Env → Out := (sRet (cCall f_put_together (aCons (asList (cLc (cItems (cBor 0)) (sName 2) cYes (cCall f__span (aCons (cVar 2) (aCons (cVar 1) aNil))) [2])) aNil)))
def f__dark : List D → R D := semOf 3 2 c__dark
def c_dark_of : Env → Out := (sSeq (sDrop (cCall f_check_posts (aCons (cVar 0) aNil)))
  (sSeq (sDrop (cCall f__check_lamp (aCons (cVar 1) aNil)))
  sBad))
def f_dark_of : List D → R D := semOf 2 2 c_dark_of
def b1_both_dark : Env → Out := (sApp 3 (cTup (aCons (cCall f_greatest (aCons (cOp oIxA (cBor 4) (cC (.int 0))) (aCons (cOp oIxA (cBor 5) (cC (.int 0))) aNil))) (aCons (cCall f_least (aCons (cOp oIxA (cBor 4) (cC (.int 1))) (aCons (cOp oIxA (cBor 5) (cC (.int 1))) aNil))) aNil))))
def b0_both_dark : Env → Out := (sFor (cItems (cCall f__dark (aCons (cVar 0) (aCons (cVar 2) aNil)))) (sName 5) b1_both_dark)
def c_both_dark : Env → Out := (sSeq (sDrop (cCall f_check_posts (aCons (cVar 0) aNil)))
  (sSeq (sDrop (cCall f__check_lamp (aCons (cVar 1) aNil)))
  (sSeq (sDrop (cCall f__check_lamp (aCons (cVar 2) aNil)))
  (sSeq (sAsg 3 (asOwn (cLst aNil)))
  (sSeq (sFor (cItems (cCall f__dark (aCons (cVar 0) (aCons (cVar 1) aNil)))) (sName 4) b0_both_dark)
  sBad)))))
def f_both_dark : List D → R D := semOf 6 3 c_both_dark
def c_lamp_meeting : Env → Out := (sSeq (sDrop (cCall f_check_two (aCons (cVar 0) (aCons (cVar 1) (aCons (cVar 2) aNil)))))
  (sSeq (sIf (cNot (cTest (cCall f_is_whole (aCons (cVar 3) (aCons (cC (.int 1)) (aCons (cC (.int 2000)) aNil)))))) (sRaise "BadHeight") sNx)
  (sSeq (sPar 4 5 (asVal (cOp oIxA (cBor 0) (cBor 1))) (asVal (cOp oIxA (cBor 0) (cBor 2))))
  (sSeq (sIf (cTest (cOp oGe (cBt bMax2 (aCons (cOp oIxA (cBor 4) (cC (.int 1))) (aCons (cOp oIxA (cBor 5) (cC (.int 1))) aNil))) (cBor 3))) (sRet (cC .none)) sNx)
  (sSeq (sPar 6 7 (asVal (cCall f_ratio (aCons (cOp oIxA (cBor 4) (cC (.int 1))) (aCons (cOp oSub (cBor 3) (cOp oIxA (cBor 4) (cC (.int 1)))) aNil)))) (asVal (cCall f_ratio (aCons (cOp oIxA (cBor 5) (cC (.int 1))) (aCons (cOp oSub (cBor 3) (cOp oIxA (cBor 5) (cC (.int 1)))) aNil)))))
  (sSeq (sIf (cTest (cOp oEq (cBor 6) (cBor 7))) (sRet (cC .none)) sNx)
  (sSeq (sAsg 8 (asVal (cCall f_minus (aCons (cCall f_times (aCons (cCall f_plus (aCons (cTup (aCons (cC (.int 1)) (aCons (cC (.int 1)) aNil))) (aCons (cVar 6) aNil))) (aCons (cTup (aCons (cOp oIxA (cBor 4) (cC (.int 0))) (aCons (cC (.int 1)) aNil))) aNil))) (aCons (cCall f_times (aCons (cCall f_plus (aCons (cTup (aCons (cC (.int 1)) (aCons (cC (.int 1)) aNil))) (aCons (cVar 7) aNil))) (aCons (cTup (aCons (cOp oIxA (cBor 5) (cC (.int 0))) (aCons (cC (.int 1)) aNil))) aNil))) aNil)))))
  (sRet (cCall f_over (aCons (cVar 8) (aCons (cCall f_minus (aCons (cVar 6) (aCons (cVar 7) aNil))) aNil)))))))))))
def f_lamp_meeting : List D → R D := semOf 9 4 c_lamp_meeting
def c_light_from : Env → Out := (sSeq (sDrop (cCall f_check_posts (aCons (cTup (aCons (cVar 0) aNil)) aNil)))
  (sSeq (sDrop (cCall f_check_place (aCons (cVar 1) aNil)))
  sBad))
def f_light_from : List D → R D := semOf 2 2 c_light_from
def c__check_dial : Env → Out := (sSeq (sIf (cOr (cNot (cTest (cIs isTupleD (cBor 0)))) (cNot (cTest (cChain oLe oLe (cC (.int 2)) (cBt bLen (aCons (cBor 0) aNil)) (cC (.int 24)))))) (sRaise "BadDial") sNx)
  (sSeq (sIf (cNot (cTest (cBt bAll (aCons (asList (cLc (cItems (cBor 0)) (sName 1) cYes (cCall f_is_light (aCons (cVar 1) aNil)) [1])) aNil)))) (sRaise "BadDial") sNx)
  (sIf (cNot (cTest (cBt bAll (aCons (asList (cLc (cIt zip2D (aCons (cBor 0) (aCons (cSl (cBor 0) (pSome (cC (.int 1))) pNone) aNil))) (sTup (sCons (sName 1) (sCons (sName 2) sNil))) cYes (cCall f_is_less (aCons (cVar 1) (aCons (cVar 2) aNil))) [1, 2])) aNil)))) (sRaise "BadDial") sNx)))
def f__check_dial : List D → R D := semOf 3 1 c__check_dial
def c_dial_marks : Env → Out := (sSeq (sDrop (cCall f_check_posts (aCons (cTup (aCons (cTup (aCons (cVar 0) (aCons (cVar 1) aNil))) aNil)) aNil)))
  (sSeq (sDrop (cCall f__check_dial (aCons (cVar 2) aNil)))
  (sRet (cBt bTuple (aCons (asList (cLc (cItems (cBor 2)) (sName 3) cYes (cCall f_tip_in (aCons (cTup (aCons (cVar 0) (aCons (cVar 1) aNil))) (aCons (cVar 3) aNil))) [3])) aNil)))))
def f_dial_marks : List D → R D := semOf 4 3 c_dial_marks
def c_hour_of : Env → Out := (sSeq (sAsg 4 (asVal (cCall f_dial_marks (aCons (cVar 0) (aCons (cVar 1) (aCons (cVar 2) aNil))))))
  (sSeq (sDrop (cCall f_check_place (aCons (cVar 3) aNil)))
  (sSeq (sIf (cTest (cOp oInB (cBor 3) (cBor 4))) (sRet (cTup (aCons (cC (.str "at")) (aCons (cMt mIndexL (cBor 4) (aCons (cBor 3) aNil)) aNil)))) sNx)
  (sRet (cTup (aCons (cC (.str "behind")) (aCons (cOp oSub (cBt bLen (aCons (asList (cLc (cItems (cBor 4)) (sName 5) (cTest (cCall f_is_less (aCons (cVar 5) (aCons (cVar 3) aNil)))) (cVar 5) [5])) aNil)) (cC (.int 1))) aNil)))))))
def f_hour_of : List D → R D := semOf 6 4 c_hour_of
def c__law_second : Env → Out := (sIf (cTest (cOp oEq (cBor 0) (cC (.int 7)))) (sDrop (cCall f_light_meeting (aCons (cVar 1) (aCons (cC .none) (aCons (cC .none) aNil))))) (sIf (cTest (cOp oEq (cBor 0) (cC (.int 8)))) (sDrop (cCall f_light_hiding (aCons (cVar 1) (aCons (cC .none) (aCons (cC .none) aNil))))) (sIf (cTest (cOp oEq (cBor 0) (cC (.int 9)))) (sDrop (cCall f_meeting_lights (aCons (cVar 1) aNil))) (sIf (cTest (cOp oEq (cBor 0) (cC (.int 10)))) (sDrop (cCall f_lamp_tips (aCons (cVar 1) (aCons (cC .none) aNil)))) (sIf (cTest (cOp oEq (cBor 0) (cC (.int 11)))) (sDrop (cCall f_dark_of (aCons (cVar 1) (aCons (cC .none) aNil)))) (sIf (cTest (cOp oEq (cBor 0) (cC (.int 12)))) (sDrop (cCall f_both_dark (aCons (cVar 1) (aCons (cC .none) (aCons (cC .none) aNil))))) (sIf (cTest (cOp oEq (cBor 0) (cC (.int 13)))) (sDrop (cCall f_lamp_meeting (aCons (cVar 1) (aCons (cC .none) (aCons (cC .none) (aCons (cC .none) aNil)))))) (sIf (cTest (cOp oEq (cBor 0) (cC (.int 14)))) (sDrop (cCall f_light_from (aCons (cVar 1) (aCons (cC .none) aNil)))) (sIf (cTest (cOp oEq (cBor 0) (cC (.int 15)))) (sDrop (cCall f_dial_marks (aCons (cVar 1) (aCons (cC .none) (aCons (cC .none) aNil))))) (sDrop (cCall f_hour_of (aCons (cVar 1) (aCons (cC .none) (aCons (cC .none) (aCons (cC .none) aNil)))))))))))))))
def f__law_second : List D → R D := semOf 2 2 c__law_second
def b0__law_error : Env → Out := (sIf (cTest (cOp oLt (cBor 0) (cC (.int 7)))) (sDrop (cCall f__law_first (aCons (cVar 0) (aCons (cVar 1) (aCons (cVar 2) aNil))))) (sDrop (cCall f__law_second (aCons (cVar 0) (aCons (cVar 1) aNil)))))
def c__law_error : Env → Out := (sSeq (sTry errs b0__law_error ((["BadPosts"], none, fun _ => (sRet (cC (.str "posts")))) :: ((["BadLight"], none, fun _ => (sRet (cC (.str "light")))) :: ((["BadPost"], none, fun _ => (sRet (cC (.str "post")))) :: ((["BadPlace", "BadDial", "BadPosts", "BadLight", "BadPost", "BadLamp", "BadHeight"], some 3, xRet 3 (xIf (xIs errs ["BadPlace"]) (fun _ => (cC (.str "place"))) (fun _ => (cC (.str "other"))))) :: [])))))
  (sRet (cC (.str "none"))))
def f__law_error : List D → R D := semOf 4 3 c__law_error
def c__law_plus : Env → Out := (sRet (cCall f__law_plain (aCons (cOp oAdd (cOp oMul1 (cOp oIxA (cBor 0) (cC (.int 0))) (cOp oIxA (cBor 1) (cC (.int 1)))) (cOp oMul1 (cOp oIxA (cBor 1) (cC (.int 0))) (cOp oIxA (cBor 0) (cC (.int 1))))) (aCons (cOp oMul1 (cOp oIxA (cBor 0) (cC (.int 1))) (cOp oIxA (cBor 1) (cC (.int 1)))) aNil))))
def f__law_plus : List D → R D := semOf 2 2 c__law_plus
def c__law_less : Env → Out := (sRet (cOp oLt (cOp oMul1 (cOp oIxA (cBor 0) (cC (.int 0))) (cOp oIxA (cBor 1) (cC (.int 1)))) (cOp oMul1 (cOp oIxA (cBor 1) (cC (.int 0))) (cOp oIxA (cBor 0) (cC (.int 1))))))
def f__law_less : List D → R D := semOf 2 2 c__law_less
def c__law_by : Env → Out := (sRet (cCall f__law_plain (aCons (cOp oMul1 (cOp oIxA (cBor 0) (cC (.int 0))) (cOp oIxA (cBor 1) (cC (.int 0)))) (aCons (cOp oMul1 (cOp oIxA (cBor 0) (cC (.int 1))) (cOp oIxA (cBor 1) (cC (.int 1)))) aNil))))
def f__law_by : List D → R D := semOf 2 2 c__law_by
def c__law_span : Env → Out := (sSeq (sPar 2 3 (asVal (cTup (aCons (cOp oIxA (cBor 0) (cC (.int 0))) (aCons (cC (.int 1)) aNil)))) (asVal (cCall f__law_plus (aCons (cTup (aCons (cOp oIxA (cBor 0) (cC (.int 0))) (aCons (cC (.int 1)) aNil))) (aCons (cCall f__law_by (aCons (cTup (aCons (cOp oIxA (cBor 0) (cC (.int 1))) (aCons (cC (.int 1)) aNil))) (aCons (cVar 1) aNil))) aNil)))))
  (sRet (cIf (cTest (cCall f__law_less (aCons (cVar 3) (aCons (cVar 2) aNil)))) (cTup (aCons (cVar 3) (aCons (cVar 2) aNil))) (cTup (aCons (cVar 2) (aCons (cVar 3) aNil))))))
def f__law_span : List D → R D := semOf 4 2 c__law_span
def b2_law : Env → Out := (sSeq (sAsg 10 (asVal (cCall f__law_is_light (aCons (cVar 9) aNil))))
  (sIf (cOr (cTest (cOp oNe (cCall f_is_light (aCons (cVar 9) aNil)) (cBor 10))) (cOr (cNot (cTest (cIs isBoolD (cCall f_is_light (aCons (cVar 9) aNil))))) (cAnd (cNot (cTest (cVar 10))) (cTest (cOp oNe (asList (cLc (cIt range1D (aCons (cC (.int 7)) aNil)) (sName 13) cYes (cCall f__law_error (aCons (cVar 13) (aCons (cVar 3) (aCons (cVar 9) aNil)))) [13])) (cOp oMul1 (asList (cLst (aCons (cC (.str "light")) aNil))) (cC (.int 7)))))))) (sRet (cC (.bool false))) sNx))
def b1_law : Env → Out := (sSeq (sAsg 10 (asVal (cCall f__law_are_posts (aCons (cVar 9) aNil))))
  (sIf (cOr (cTest (cOp oNe (cCall f_are_posts (aCons (cVar 9) aNil)) (cBor 10))) (cOr (cNot (cTest (cIs isBoolD (cCall f_are_posts (aCons (cVar 9) aNil))))) (cAnd (cNot (cTest (cVar 10))) (cTest (cOp oNe (asList (cLc (cIt range1D (aCons (cC (.int 14)) aNil)) (sName 13) cYes (cCall f__law_error (aCons (cVar 13) (aCons (cVar 9) (aCons (cC .none) aNil)))) [13])) (cOp oMul1 (asList (cLst (aCons (cC (.str "posts")) aNil))) (cC (.int 14)))))))) (sRet (cC (.bool false))) sNx))
def b0_law : Env → Out := (sSeq (sTo (sTup (sCons (sName 3) (sCons (sName 4) sNil))) (cTup (aCons (cCall f__law_posts (aCons (cSl (cBor 1) (pSome (cOp oMul1 (cC (.int 7)) (cBor 2))) pNone) (aCons (cC (.int 8)) aNil))) (aCons (cCall f__law_light (aCons (cBt bInt (aCons (cOp oIxA (cBor 1) (cOp oAdd (cC (.int 50)) (cBor 2))) aNil)) aNil)) aNil))))
  (sSeq (sIf (cTest (cOp oNe (cCall f_tips_of (aCons (cVar 3) (aCons (cVar 4) aNil))) (cBt bTuple (aCons (asList (cLc (cItems (cBor 3)) (sName 14) cYes (cCall f__law_plus (aCons (cTup (aCons (cOp oIxA (cBor 14) (cC (.int 0))) (aCons (cC (.int 1)) aNil))) (aCons (cCall f__law_by (aCons (cTup (aCons (cOp oIxA (cBor 14) (cC (.int 1))) (aCons (cC (.int 1)) aNil))) (aCons (cVar 4) aNil))) aNil))) [14])) aNil)))) (sRet (cC (.bool false))) sNx)
  (sSeq (sIf (cTest (cOp oNe (cCall f_shadows_of (aCons (cVar 3) (aCons (cVar 4) aNil))) (cBt bTuple (aCons (asList (cLc (cItems (cBor 3)) (sName 14) cYes (cCall f__law_span (aCons (cVar 14) (aCons (cVar 4) aNil))) [14])) aNil)))) (sRet (cC (.bool false))) sNx)
  (sSeq (sAsg 5 (asVal (cOp oMod (cBt bInt (aCons (cOp oIxA (cBor 1) (cOp oAdd (cC (.int 45)) (cBor 2))) aNil)) (cBt bLen (aCons (cBor 3) aNil)))))
  (sSeq (sTo (sTup (sCons (sName 6) (sCons (sName 7) sNil))) (cOp oIxA (cBor 3) (cBor 5)))
  (sSeq (sAsg 8 (asVal (asList (cLst (aCons (cTup (aCons (cVar 6) (aCons (cC (.int 0)) aNil))) (aCons (cTup (aCons (cVar 6) (aCons (cC (.int 1001)) aNil))) (aCons (cTup (aCons (cUn oNeg (cC (.int 1))) (aCons (cVar 7) aNil))) (aCons (cTup (aCons (cC (.int 1001)) (aCons (cVar 7) aNil))) (aCons (cTup (aCons (cC (.bool true)) (aCons (cVar 7) aNil))) (aCons (cTup (aCons (cVar 6) (aCons (cC (.bool true)) aNil))) (aCons (cTup (aCons (cVar 6) (aCons (cC .none) aNil))) (aCons (cTup (aCons (cC (.str "1")) (aCons (cVar 7) aNil))) (aCons (cTup (aCons (cVar 6) aNil)) aNil)))))))))))))
  (sSeq (sAsg 8 (asVal (cOp oAdd (cBor 8) (asList (cLst (aCons (cTup (aCons (cVar 6) (aCons (cVar 7) (aCons (cC (.int 0)) aNil)))) (aCons (asList (cLst (aCons (cVar 6) (aCons (cVar 7) aNil)))) (aCons (cC .none) (aCons (cTup (aCons (cC (.int 1000)) (aCons (cC (.int 1000)) aNil))) (aCons (cTup (aCons (cC (.int 0)) (aCons (cC (.int 1)) aNil))) (aCons (cOp oIxA (cBor 3) (cOp oSub (cBor 5) (cC (.int 1)))) aNil)))))))))))
  (sSeq (sFor (cItems (cOp oAdd (asList (cLc (cItems (cBor 8)) (sName 12) cYes (cOp oAdd (cOp oAdd (cSl (cBor 3) pNone (pSome (cVar 5))) (cTup (aCons (cVar 12) aNil))) (cSl (cBor 3) (pSome (cOp oAdd (cBor 5) (cC (.int 1)))) pNone)) [12])) (asList (cLst (aCons (cVar 3) (aCons (cBt bList (aCons (cBor 3) aNil)) (aCons (cTup aNil) (aCons (cC .none) (aCons (cC (.int 7)) (aCons (cRev (cBor 3)) (aCons (cOp oAdd (cBor 3) (cSl (cBor 3) pNone (pSome (cC (.int 1))))) (aCons (cOp oMul1 (cBor 3) (cC (.int 9))) aNil)))))))))))) (sName 9) b1_law)
  (sSeq (sAsg 11 (asVal (asList (cLst (aCons (cTup (aCons (cC (.int 101)) (aCons (cC (.int 1)) aNil))) (aCons (cTup (aCons (cUn oNeg (cC (.int 101))) (aCons (cC (.int 1)) aNil))) (aCons (cTup (aCons (cC (.int 2)) (aCons (cC (.int 4)) aNil))) (aCons (cTup (aCons (cC (.int 1)) (aCons (cC (.int 0)) aNil))) (aCons (cTup (aCons (cC (.int 1)) (aCons (cUn oNeg (cC (.int 1))) aNil))) (aCons (cTup (aCons (cC (.bool true)) (aCons (cC (.int 1)) aNil))) (aCons (cTup (aCons (cC (.int 1)) (aCons (cC (.bool true)) aNil))) (aCons (cC .none) (aCons (cC (.int 1)) (aCons (cTup (aCons (cC (.int 1)) aNil)) (aCons (asList (cLst (aCons (cC (.int 1)) (aCons (cC (.int 1)) aNil)))) (aCons (cTup (aCons (cC (.str "1")) (aCons (cC (.int 1)) aNil))) (aCons (cTup (aCons (cC (.int 1)) (aCons (cOp oAdd (cOp oPow (cC (.int 10)) (cC (.int 6))) (cC (.int 1))) aNil))) (aCons (cTup (aCons (cOp oPow (cC (.int 10)) (cC (.int 6))) (aCons (cOp oPow (cC (.int 10)) (cC (.int 4))) aNil))) (aCons (cTup (aCons (cC (.int 0)) (aCons (cC (.int 2)) aNil))) aNil)))))))))))))))))))
  (sSeq (sFor (cItems (cOp oAdd (cBor 11) (asList (cLst (aCons (cVar 4) (aCons (cTup (aCons (cC (.int 100)) (aCons (cC (.int 1)) aNil))) (aCons (cTup (aCons (cUn oNeg (cC (.int 100))) (aCons (cC (.int 1)) aNil))) (aCons (cTup (aCons (cC (.int 0)) (aCons (cC (.int 1)) aNil))) (aCons (cTup (aCons (cC (.int 1)) (aCons (cOp oPow (cC (.int 10)) (cC (.int 6))) aNil))) (aCons (cTup (aCons (cC (.int 999999)) (aCons (cOp oPow (cC (.int 10)) (cC (.int 6))) aNil))) aNil)))))))))) (sName 9) b2_law)
  (sSeq (sIf (cOr (cTest (cOp oNe (asList (cLc (cIt range1D (aCons (cC (.int 17)) aNil)) (sName 13) cYes (cCall f__law_error (aCons (cVar 13) (aCons (cC .none) (aCons (cC .none) aNil)))) [13])) (cOp oMul1 (asList (cLst (aCons (cC (.str "posts")) aNil))) (cC (.int 17))))) (cOr (cTest (cOp oNe (cCall f__law_error (aCons (cC (.int 14)) (aCons (cOp oIxA (cBor 3) (cC (.int 0))) (aCons (cC .none) aNil)))) (cC (.str "place")))) (cTest (cOp oNe (cCall f__law_error (aCons (cC (.int 4)) (aCons (cVar 3) (aCons (cVar 4) aNil)))) (cC (.str "place")))))) (sRet (cC (.bool false))) sNx)
  (sIf (cTest (cOp oNe (asList (cLc (cItems (cTup (aCons (cC (.int 5)) (aCons (cC (.int 7)) (aCons (cC (.int 8)) (aCons (cC (.int 13)) aNil)))))) (sName 13) cYes (cCall f__law_error (aCons (cVar 13) (aCons (cVar 3) (aCons (cVar 4) aNil)))) [13])) (cOp oMul1 (asList (cLst (aCons (cC (.str "post")) aNil))) (cC (.int 4))))) (sRet (cC (.bool false))) sNx))))))))))))
def c_law : Env → Out := (sSeq (sAsg 1 (asVal (cCall f__law_draws (aCons (cVar 0) (aCons (cC (.int 60)) aNil)))))
  (sSeq (sFor (cIt range1D (aCons (cC (.int 5)) aNil)) (sName 2) b0_law)
  (sRet (cAndV (cOp oEq (cCall f_tips_of (aCons (cTup (aCons (cTup (aCons (cC (.int 10)) (aCons (cC (.int 6)) aNil))) (aCons (cTup (aCons (cC (.int 12)) (aCons (cC (.int 1)) aNil))) aNil))) (aCons (cTup (aCons (cC (.int 1)) (aCons (cC (.int 2)) aNil))) aNil))) (cTup (aCons (cTup (aCons (cC (.int 13)) (aCons (cC (.int 1)) aNil))) (aCons (cTup (aCons (cC (.int 25)) (aCons (cC (.int 2)) aNil))) aNil)))) (cOp oEq (cCall f_shadows_of (aCons (cTup (aCons (cTup (aCons (cC (.int 3)) (aCons (cC (.int 2)) aNil))) aNil)) (aCons (cTup (aCons (cUn oNeg (cC (.int 3))) (aCons (cC (.int 4)) aNil))) aNil))) (cTup (aCons (cTup (aCons (cTup (aCons (cC (.int 3)) (aCons (cC (.int 2)) aNil))) (aCons (cTup (aCons (cC (.int 3)) (aCons (cC (.int 1)) aNil))) aNil))) aNil)))))))
def f_law : List D → R D := semOf 15 1 c_law
end DL.K28

/-! M_K28 -/
namespace DL.K28
open PySem L2 DL.Q DL.Dr
theorem k_whole : f_is_whole = Q.f_is_whole := rfl
theorem k_posts : f_check_posts = Q.f_check_posts := rfl
theorem k_check : f__check = Q.f__check := rfl
theorem k_place : f_check_place = Q.f_check_place := rfl
theorem k_post : f_check_post = Q.f_check_post := rfl
theorem k_light : f_is_light = Q.f_is_light := rfl
theorem k_tip : f_tip_in = Q.f_tip_in := rfl
theorem k_plus : f_plus = Q.f_plus := rfl
theorem k_times : f_times = Q.f_times := rfl
theorem k_less : f_is_less = Q.f_is_less := rfl
theorem k_least : f_least = Q.f_least := rfl
theorem k_greatest : f_greatest = Q.f_greatest := rfl
theorem k_lplain : f__law_plain = Q.f__law_plain := rfl
theorem k_lplus : f__law_plus = Q.f__law_plus := rfl
theorem k_by : f__law_by = Q.f__law_by := rfl
theorem k_lless : f__law_less = Q.f__law_less := rfl
theorem k_lposts : f__law_posts = Q.f__law_posts := rfl
/-! ### lights, tips, shadows -/
structure Lg (L : Rat) : Prop where
  d : L.den ≤ 6
  lo : -12 ≤ L
  hi : L ≤ 12
structure Po (x : Int × Int) : Prop where
  p0 : 0 ≤ x.1
  p1 : x.1 < 30
  h0 : 1 ≤ x.2
  h1 : x.2 ≤ 20
theorem Lg.num {L : Rat} (g : Lg L) : -72 ≤ L.num ∧ L.num ≤ 72 := by
  have := num_bd (t := L) (n := 12) (d := 6) g.lo g.hi g.d (by decide)
  omega
theorem Lg.lit {L : Rat} (g : Lg L) : Lit L := by
  have n := g.num
  have d := g.d
  have lo := g.lo
  have hi := g.hi
  exact ⟨⟨by omega, by omega, by omega⟩, by grind, by grind⟩
/-- so many parts of the light's own size -/
def It (d : Nat) (t : Rat) : Prop := ∃ k : Int, t = (k : Rat) / (((d : Nat) : Int) : Rat)
section
variable {d : Nat} {a b : Rat}
theorem It.den (hd : 0 < d) (h : It d a) : a.den ≤ d := by
  obtain ⟨k, rfl⟩ := h
  have := den_div_le (p := k) (q := (d : Int)) (by omega)
  omega
theorem div_add_w {p q w : Rat} (h : w ≠ 0) : p / w + q / w = (p + q) / w := by grind
theorem div_sub_w {p q w : Rat} (h : w ≠ 0) : p / w - q / w = (p - q) / w := by grind
theorem It.add (hd : 0 < d) (h : It d a) (k : It d b) : It d (a + b) := by
  obtain ⟨i, rfl⟩ := h
  obtain ⟨j, rfl⟩ := k
  exact ⟨i + j, by rw [Rat.intCast_add, div_add_w (cast_ne (by omega))]⟩
theorem It.sub (hd : 0 < d) (h : It d a) (k : It d b) : It d (a - b) := by
  obtain ⟨i, rfl⟩ := h
  obtain ⟨j, rfl⟩ := k
  exact ⟨i - j, by rw [Rat.intCast_sub, div_sub_w (cast_ne (by omega))]⟩
theorem It.int (hd : 0 < d) (i : Int) : It d (i : Rat) := ⟨i * d, by rw [Rat.intCast_mul, mul_div_w (cast_pos (by omega))]⟩
theorem rat_num_den (L : Rat) : L = (L.num : Rat) / (((L.den : Nat) : Int) : Rat) := by
  have := rat_mul_den L
  have n := den_ne L
  generalize (((L.den : Nat) : Int) : Rat) = w at *
  rw [← this]
  grind
theorem It.mul (L : Rat) (i : Int) : It L.den ((i : Rat) * L) := ⟨i * L.num, by
  rw [Rat.intCast_mul]
  have := rat_mul_den L
  have n := den_ne L
  generalize (((L.den : Nat) : Int) : Rat) = w at *
  rw [← this]
  grind⟩
theorem It.zero (hd : 0 < d) : It d 0 := It.int hd 0
end
def tp (L : Rat) (x : Int × Int) : Rat := (x.1 : Rat) + (x.2 : Rat) * L
structure En (L t : Rat) : Prop where
  i : It L.den t
  lo : -1000 ≤ t
  hi : t ≤ 1000
theorem pd0 (x : Int × Int) : oIxA (pd x) (.int 0) = some (.int x.1) := rfl
theorem pd1 (x : Int × Int) : oIxA (pd x) (.int 1) = some (.int x.2) := rfl
section
variable {L : Rat} {x : Int × Int}
theorem En.d (g : Lg L) {t : Rat} (e : En L t) : t.den ≤ 6 := Nat.le_trans (It.den L.den_pos e.i) g.d
theorem En.big (g : Lg L) {t : Rat} (e : En L t) : t.den < 9000000000000000000 := by have := En.d g e; omega
theorem En.all (g : Lg L) {t : Rat} (e : En L t) : t.den ≤ 10000 ∧ -18446744073709551616 < t.num ∧ t.num < 18446744073709551616 := by
  have dd := En.d g e
  have b := num_bd (t := t) (n := 1000) (d := 6) e.lo e.hi dd (by decide)
  exact ⟨by (omega), by omega, by omega⟩
theorem int_en (L : Rat) {i : Int} (h0 : 0 ≤ i) (h1 : i ≤ 1000) : En L (i : Rat) := ⟨It.int L.den_pos i, by
  have := cast_le (show (-1000 : Int) ≤ i by omega)
  exact this, by
  have := cast_le h1
  exact this⟩
theorem tp_en (g : Lg L) (p : Po x) : En L (tp L x) := by
  refine ⟨It.add L.den_pos (It.int L.den_pos _) (It.mul L x.2), ?_, ?_⟩
  · have x1 : ((0 : Int) : Rat) ≤ (x.1 : Rat) := cast_le p.p0
    have x2 : ((1 : Int) : Rat) ≤ (x.2 : Rat) := cast_le p.h0
    have x3 : (x.2 : Rat) ≤ ((20 : Int) : Rat) := cast_le p.h1
    have e0 : ((0 : Int) : Rat) = 0 := rfl
    have e1 : ((1 : Int) : Rat) = 1 := rfl
    have e2 : ((20 : Int) : Rat) = 20 := rfl
    rw [e0] at x1
    rw [e1] at x2
    rw [e2] at x3
    have m := Rat.mul_le_mul_of_nonneg_left g.lo (show (0 : Rat) ≤ (x.2 : Rat) by grind)
    unfold tp
    grind
  · have x1 : (x.1 : Rat) ≤ ((30 : Int) : Rat) := cast_le (by have := p.p1; omega)
    have x2 : ((1 : Int) : Rat) ≤ (x.2 : Rat) := cast_le p.h0
    have x3 : (x.2 : Rat) ≤ ((20 : Int) : Rat) := cast_le p.h1
    have e0 : ((30 : Int) : Rat) = 30 := rfl
    have e1 : ((1 : Int) : Rat) = 1 := rfl
    have e2 : ((20 : Int) : Rat) = 20 := rfl
    rw [e0] at x1
    rw [e1] at x2
    rw [e2] at x3
    have m := Rat.mul_le_mul_of_nonneg_left g.hi (show (0 : Rat) ≤ (x.2 : Rat) by grind)
    unfold tp
    grind
theorem mul_den (g : Lg L) : ((x.2 : Rat) * L).den ≤ 6 := by
  refine Nat.le_trans (den_mul_le _ _) ?_
  rw [Rat.den_intCast, Nat.one_mul]
  exact g.d
theorem tip_ok (g : Lg L) (p : Po x) : f_tip_in [pd x, rd L] = .ok (rd (tp L x)) := by
  have d := g.d
  have md := mul_den (x := x) g
  have t := times_rd (a := (x.2 : Rat)) (b := L) (by rw [Rat.den_intCast, Nat.one_mul]; omega) (cmul_l (by rw [Rat.num_intCast]; have := p.h0; have := p.h1; omega))
  have pl := plus_rd (a := (x.1 : Rat)) (b := (x.2 : Rat) * L) (by rw [Rat.den_intCast, Nat.one_mul]; omega)
  rw [rd_int, ← k_times] at t
  rw [rd_int, ← k_plus] at pl
  unfold tp
  generalize (x.1 : Rat) + (x.2 : Rat) * L = A at *
  generalize (x.2 : Rat) * L = B at *
  simp [f_tip_in, semOf, c_tip_in, pd0, pd1, t, pl]
def sh (L : Rat) (x : Int × Int) : Sn := (mn (x.1 : Rat) (tp L x), mx (x.1 : Rat) (tp L x))
theorem sh_en (g : Lg L) (p : Po x) : En L (sh L x).1 ∧ En L (sh L x).2 := by
  have a := int_en L p.p0 (by have := p.p1; omega)
  have b := tp_en g p
  refine ⟨?_, ?_⟩
  · show En L (mn _ _)
    rcases mn_or (x.1 : Rat) (tp L x) with z | z <;> rw [z] <;> assumption
  · show En L (mx _ _)
    rcases mx_or (x.1 : Rat) (tp L x) with z | z <;> rw [z] <;> assumption
theorem shadow_ok (g : Lg L) (p : Po x) : f__shadow [pd x, rd L] = .ok (sp (sh L x)) := by
  have t := tip_ok g p
  have a := int_en L p.p0 (by have := p.p1; omega)
  have b := tp_en g p
  have le := least_rd (a := (x.1 : Rat)) (b := tp L x) (En.big g a) (En.big g b)
  have gr := greatest_rd (a := (x.1 : Rat)) (b := tp L x) (En.big g a) (En.big g b)
  rw [rd_int] at le gr
  rw [← k_least] at le
  rw [← k_greatest] at gr
  have q : sp (sh L x) = .tuple [rd (mn (x.1 : Rat) (tp L x)), rd (mx (x.1 : Rat) (tp L x))] := rfl
  rw [q]
  generalize rd (tp L x) = T at *
  simp [f__shadow, semOf, c__shadow, t, pd0, le, gr]
theorem law_span_ok (g : Lg L) (p : Po x) : f__law_span [pd x, rd L] = .ok (sp (sh L x)) := by
  have d := g.d
  have md := mul_den (x := x) g
  have t := by_rd (a := (x.2 : Rat)) (b := L) (by rw [Rat.den_intCast, Nat.one_mul]; omega) (cmul_l (by rw [Rat.num_intCast]; have := p.h0; have := p.h1; omega))
  have pl := lplus_rd (a := (x.1 : Rat)) (b := (x.2 : Rat) * L) (by rw [Rat.den_intCast, Nat.one_mul]; omega)
  have a := int_en L p.p0 (by have := p.p1; omega)
  have b := tp_en g p
  have ls := lless_rd (a := tp L x) (b := (x.1 : Rat)) (En.big g b) (En.big g a)
  rw [rd_int, ← k_by] at t
  rw [rd_int, ← k_lplus] at pl
  rw [rd_int, ← k_lless] at ls
  have q : sp (sh L x) = .tuple [rd (mn (x.1 : Rat) (tp L x)), rd (mx (x.1 : Rat) (tp L x))] := rfl
  have e : (x.1 : Rat) + (x.2 : Rat) * L = tp L x := rfl
  rw [e] at pl
  rw [q]
  unfold mn mx
  generalize rd ((x.2 : Rat) * L) = B at *
  by_cases c : tp L x < (x.1 : Rat)
  · rw [decide_eq_true c] at ls
    rw [if_pos c, if_pos c, rd_int]
    generalize rd (tp L x) = T at *
    simp [f__law_span, semOf, c__law_span, pd0, pd1, t, pl, ls]
  · rw [decide_eq_false c] at ls
    rw [if_neg c, if_neg c, rd_int]
    generalize rd (tp L x) = T at *
    simp [f__law_span, semOf, c__law_span, pd0, pd1, t, pl, ls]
end
section
variable {L : Rat} {P : List (Int × Int)}
theorem po_of (hP : Pst P) : ∀ x ∈ P, Po x := fun x hx => by
  have b := hP.b x hx
  exact ⟨b.1, b.2.1, b.2.2.1, b.2.2.2⟩
theorem chk_posts (hP : Pst P) : f_check_posts [.tuple (P.map pd)] = .ok .none := by
  have a := are_posts_ok hP
  rw [k_posts]
  simp [Q.f_check_posts, semOf, Q.c_check_posts, a]
theorem chk (hP : Pst P) (g : Lg L) : f__check [.tuple (P.map pd), rd L] = .ok .none := by
  have a := chk_posts hP
  have l := is_light_rd (a := L) (by have := g.d; omega)
  rw [decide_eq_true g.lit, ← k_light] at l
  simp [f__check, semOf, c__check, a, l]
theorem shs_en (hP : Pst P) (g : Lg L) : ∀ s ∈ P.map (sh L), En L s.1 ∧ En L s.2 := fun s hs => by
  obtain ⟨x, hx, rfl⟩ := List.mem_map.mp hs
  exact sh_en g (po_of hP x hx)
theorem shadows_go (hP : Pst P) (g : Lg L) {y : SV} : lcGo (sName 2) cYes (cCall f__shadow (aCons (cVar 2) (aCons (cVar 1) aNil))) [.val (.tuple (P.map pd)), .val (rd L), y] (P.map pd) = .ok ((P.map (sh L)).map sp) := by
  rw [List.map_map]
  exact lc_mapA P fun x hx => by
    have s := shadow_ok g (po_of hP x hx)
    exact ⟨_, rfl, rfl, by simp [s]⟩
theorem shadows_of_ok (hP : Pst P) (g : Lg L) : f_shadows_of [.tuple (P.map pd), rd L] = .ok (.tuple ((P.map (sh L)).map sp)) := by
  have c := chk hP g
  have go := shadows_go hP g (y := .no)
  have n1 := hP.n1
  have pl : (P.map pd).length ≤ 100000 := by rw [List.length_map]; omega
  generalize (P.map (sh L)).map sp = SS at *
  generalize P.map pd = PP at *
  generalize rd L = LL at *
  simp [f_shadows_of, semOf, c_shadows_of, c, wipeR, pl, go]
theorem tips_of_ok (hP : Pst P) (g : Lg L) : f_tips_of [.tuple (P.map pd), rd L] = .ok (.tuple (P.map fun x => rd (tp L x))) := by
  have c := chk hP g
  have n1 := hP.n1
  have go : lcGo (sName 2) cYes (cCall f_tip_in (aCons (cVar 2) (aCons (cVar 1) aNil))) [.val (.tuple (P.map pd)), .val (rd L), .no] (P.map pd) = .ok (P.map fun x => rd (tp L x)) :=
    lc_mapA P fun x hx => by
      have s := tip_ok g (po_of hP x hx)
      exact ⟨_, rfl, rfl, by simp [s]⟩
  have pl : (P.map pd).length ≤ 100000 := by rw [List.length_map]; omega
  generalize (P.map fun x => rd (tp L x)) = SS at *
  generalize P.map pd = PP at *
  generalize rd L = LL at *
  simp [f_tips_of, semOf, c_tips_of, c, wipeR, pl, go]
end
theorem light_of (v : Int) : ∃ L, f__law_light [.int v] = .ok (rd L) ∧ Lg L := by
  have lp := plain_rd (v % 25 - 12) (1 + v / 32 % 6) (by omega) (by omega)
  rw [← k_lplain] at lp
  obtain ⟨L, hL⟩ : ∃ L, ((v % 25 - 12 : Int) : Rat) / ((1 + v / 32 % 6 : Int) : Rat) = L := ⟨_, rfl⟩
  rw [hL] at lp
  refine ⟨L, by simp [f__law_light, semOf, c__law_light, cdivw (i := v) (j := 32) (by decide), lp], ?_⟩
  rw [← hL]
  have d := den_div_le (p := v % 25 - 12) (q := 1 + v / 32 % 6) (by omega)
  have u := div_up (p := v % 25 - 12) (q := 1 + v / 32 % 6) (n := 12) (by omega) (by omega)
  have w := div_dn (p := v % 25 - 12) (q := 1 + v / 32 % 6) (n := -12) (by omega) (by omega)
  exact ⟨by omega, w, u⟩

/-! ### posts of any kind -/
def pOk : D → Bool
  | .tuple [a, b] => isW a 0 1000 && isW b 1 1000
  | _ => false
theorem is_post_gen (d : D) : f_is_post [d] = .ok (.bool (pOk d)) := by
  cases d with
  | tuple xs =>
    match xs with
    | [] => simp [f_is_post, semOf, c_is_post, isTupleD, pOk]
    | [a] => simp [f_is_post, semOf, c_is_post, isTupleD, pOk]
    | [a, b] =>
      have w1 := Q.is_whole_ok a 0 1000
      have w2 := Q.is_whole_ok b 1 1000
      cases h : isW a 0 1000 <;> simp [f_is_post, semOf, c_is_post, isTupleD, pOk, Q.atI0, Q.atI1, k_whole, w1, w2, h]
    | a :: b :: c :: r =>
      have n : ¬ ((r.length : Int) + 1 + 1 + 1 = 2) := by omega
      simp [f_is_post, semOf, c_is_post, isTupleD, pOk, n]
  | _ => simp [f_is_post, semOf, c_is_post, isTupleD, pOk]
abbrev Asc (m : List Int) : Prop := m.Pairwise (· < ·)
def fst' : D → Int
  | .tuple (.int a :: _) => a
  | _ => 0
/-- what posts are -/
def ap : D → Bool
  | .tuple xs => decide (1 ≤ xs.length ∧ xs.length ≤ 8) && (xs.all pOk && decide (Asc (xs.map fst')))
  | _ => false
theorem pOk_inv {d : D} (h : pOk d = true) : ∃ a b : Int, d = .tuple [.int a, .int b] ∧ (0 ≤ a ∧ a ≤ 1000) ∧ (1 ≤ b ∧ b ≤ 1000) := by
  unfold pOk at h
  split at h
  · rename_i a b
    rw [Bool.and_eq_true] at h
    cases a <;> simp [isW] at h
    cases b <;> simp [isW] at h
    exact ⟨_, _, rfl, h.1, h.2⟩
  · cases h
theorem fst_ix {d : D} (h : pOk d = true) : oIxA d (.int 0) = some (.int (fst' d)) := by
  obtain ⟨a, b, rfl, _, _⟩ := pOk_inv h
  rfl
theorem zip_i : ∀ a b : List Int, zipD (a.map .int) (b.map .int) = (a.zip b).map fun p => .tuple [.int p.1, .int p.2]
  | [], b => by simp [zipD]
  | x :: a, [] => by simp [zipD]
  | x :: a, y :: b => by simp [zipD, zip_i a b]
theorem asc_zip : ∀ m : List Int, ((m.zip (m.drop 1)).all fun p => decide (p.1 < p.2)) = decide (Asc m)
  | [] => by simp
  | [x] => by simp
  | x :: y :: m => by
    have ih := asc_zip (y :: m)
    simp only [List.drop_succ_cons, List.drop_zero] at ih
    simp only [List.drop_succ_cons, List.drop_zero, List.zip_cons_cons, List.all_cons]
    rw [ih, Bool.eq_iff_iff, Bool.and_eq_true, decide_eq_true_eq, decide_eq_true_eq, decide_eq_true_eq]
    constructor
    · rintro ⟨h1, h2⟩
      refine List.pairwise_cons.mpr ⟨fun z hz => ?_, h2⟩
      rcases (List.mem_cons.mp hz) with e | e
      · omega
      · have := (List.pairwise_cons.mp h2).1 z e
        omega
    · intro h
      obtain ⟨h1, h2⟩ := (List.pairwise_cons).mp h
      exact ⟨h1 y (by simp), h2⟩
theorem ascends_gen (m : List Int) (h : m.length ≤ 100) : f_ascends [.list (m.map .int)] = .ok (.bool (decide (Asc m))) := by
  have z := asc_zip m
  have c : cut (m.map PyData.int) (some 1) none = (m.drop 1).map .int := by rw [List.map_drop]; exact cut_from _ 1
  have ld : (m.zip (m.drop 1)).length ≤ 100000 := by rw [List.length_zip]; omega
  generalize m.drop 1 = t at c z ld
  have e : lcGo (sTup (sCons (sName 1) (sCons (sName 2) sNil))) cYes (cOp oLt (cBor 1) (cBor 2)) [.val (.list (m.map .int)), .no, .no] ((m.zip t).map fun p => .tuple [.int p.1, .int p.2]) = .ok (((m.zip t).map fun p => decide (p.1 < p.2)).map .bool) := by
    rw [List.map_map]
    exact lc_mapA _ fun p hp => ⟨_, rfl, rfl, by simp⟩
  have bt := bAll_b (bs := (m.zip t).map fun p => decide (p.1 < p.2))
  have ba : ((m.zip t).map fun p => decide (p.1 < p.2)).all id = decide (Asc m) := by
    rw [← z, List.all_map]
    rfl
  rw [ba] at bt
  generalize ((m.zip t).map fun p => decide (p.1 < p.2)).map PyData.bool = BB at e bt
  rw [List.length_zip] at ld
  simp [f_ascends, semOf, c_ascends, c, zip_i, wipeR, e, bt, ld]
theorem are_posts_gen (d : D) : f_are_posts [d] = .ok (.bool (ap d)) := by
  cases d with
  | tuple xs =>
    by_cases hl : 1 ≤ xs.length ∧ xs.length ≤ 8
    · have e : lcGo (sName 1) cYes (cCall f_is_post (aCons (cVar 1) aNil)) [.val (.tuple xs), .no] (xs.map id) = .ok ((xs.map pOk).map .bool) := by
        rw [List.map_map]
        exact lc_mapA xs fun x hx => ⟨_, rfl, rfl, by simp [is_post_gen x]⟩
      rw [List.map_id] at e
      have bt := bAll_b (bs := xs.map pOk)
      have ba : (xs.map pOk).all id = xs.all pOk := by rw [List.all_map]; rfl
      rw [ba] at bt
      generalize (xs.map pOk).map PyData.bool = BB at e bt
      have l1 : (1 : Int) ≤ (xs.length : Int) := by omega
      have l2 : (xs.length : Int) ≤ 8 := by omega
      have l3 : xs.length ≤ 100000 := by omega
      cases ha : xs.all pOk with
      | false =>
        rw [ha] at bt
        simp [f_are_posts, semOf, c_are_posts, isTupleD, l1, l2, l3, wipeR, e, bt, ap, ha]
      | true =>
        rw [ha] at bt
        have g : lcGo (sName 1) cYes (cOp oIxA (cBor 1) (cC (.int 0))) [.val (.tuple xs), .no] (xs.map id) = .ok ((xs.map fst').map .int) := by
          rw [List.map_map]
          exact lc_mapA xs fun x hx => ⟨_, rfl, rfl, by
            have := fst_ix (List.all_eq_true.mp ha x hx)
            simp [this]⟩
        rw [List.map_id] at g
        have as := ascends_gen (xs.map fst') (by rw [List.length_map]; omega)
        have a2 : ap (.tuple xs) = decide (Asc (xs.map fst')) := by simp [ap, hl, ha]
        rw [a2]
        generalize (xs.map fst').map PyData.int = FF at g as
        simp [f_are_posts, semOf, c_are_posts, isTupleD, l1, l2, l3, wipeR, e, bt, g, as]
    · have n : ¬ ((1 : Int) ≤ (xs.length : Int) ∧ (xs.length : Int) ≤ 8) := by omega
      have a2 : ap (.tuple xs) = false := by simp [ap]; intro h1 h2; omega
      rw [a2]
      by_cases l1 : (1 : Int) ≤ (xs.length : Int)
      · have l2 : ¬ (xs.length : Int) ≤ 8 := fun z => n ⟨l1, z⟩
        simp [f_are_posts, semOf, c_are_posts, isTupleD, l1, l2]
      · simp [f_are_posts, semOf, c_are_posts, isTupleD, l1]
  | _ => simp [f_are_posts, semOf, c_are_posts, isTupleD, ap]
/-! ### .. and by the law -/
theorem is_num (d : D) : (∃ i, d = .int i ∧ f__law_is_number [d] = .ok (.bool true)) ∨ (f__law_is_number [d] = .ok (.bool false) ∧ ∀ a b, isW d a b = false) := by
  cases d with
  | int i => exact .inl ⟨i, rfl, by simp [f__law_is_number, semOf, c__law_is_number, isIntD, isBoolD]⟩
  | _ => exact .inr ⟨by simp [f__law_is_number, semOf, c__law_is_number, isIntD, isBoolD], fun _ _ => rfl⟩
theorem post_step (V d : D) : b0__law_are_posts [.val V, .val d] = if pOk d = true then .nx [.val V, .val d] else .rt (.bool false) := by
  cases d with
  | tuple xs =>
    match xs with
    | [] => simp [b0__law_are_posts, isTupleD, pOk]
    | [a] => simp [b0__law_are_posts, isTupleD, pOk]
    | [a, b] =>
      rcases is_num a with ⟨i, rfl, ha⟩ | ⟨ha, wa⟩
      · rcases is_num b with ⟨j, rfl, hb⟩ | ⟨hb, wb⟩
        · by_cases h1 : 0 ≤ i
          · by_cases h2 : i ≤ 1000
            · by_cases h3 : 1 ≤ j
              · by_cases h4 : j ≤ 1000
                · simp [b0__law_are_posts, isTupleD, Q.atI0, Q.atI1, ha, hb, pOk, isW, h1, h2, h3, h4]
                · simp [b0__law_are_posts, isTupleD, Q.atI0, Q.atI1, ha, hb, pOk, isW, h1, h2, h3, h4]
              · simp [b0__law_are_posts, isTupleD, Q.atI0, Q.atI1, ha, hb, pOk, isW, h1, h2, h3]
            · simp [b0__law_are_posts, isTupleD, Q.atI0, Q.atI1, ha, hb, pOk, isW, h1, h2]
          · simp [b0__law_are_posts, isTupleD, Q.atI0, Q.atI1, ha, hb, pOk, isW, h1]
        · simp [b0__law_are_posts, isTupleD, Q.atI0, Q.atI1, ha, hb, pOk, wb]
      · simp [b0__law_are_posts, isTupleD, Q.atI0, Q.atI1, ha, pOk, wa]
    | a :: b :: c :: r =>
      have n : ¬ ((r.length : Int) + 1 + 1 + 1 = 2) := by omega
      simp [b0__law_are_posts, isTupleD, pOk, n]
  | _ => simp [b0__law_are_posts, isTupleD, pOk]
theorem posts_loop' (V : D) : ∀ (xs : List D) (y : SV), (xs.all pOk = true → ∃ y', forLoop (sName 1) b0__law_are_posts xs [.val V, y] = .nx [.val V, y']) ∧ (xs.all pOk = false → forLoop (sName 1) b0__law_are_posts xs [.val V, y] = .rt (.bool false))
  | [], y => ⟨fun _ => ⟨y, rfl⟩, fun h => by simp at h⟩
  | x :: xs, y => by
    have st := post_step V x
    obtain ⟨i1, i2⟩ := posts_loop' V xs (.val x)
    cases hx : pOk x with
    | true =>
      rw [if_pos hx] at st
      rw [List.all_cons, hx, Bool.true_and]
      constructor
      · intro h
        obtain ⟨y', e⟩ := i1 h
        exact ⟨y', by rw [for_cons (ρ1 := [.val V, .val x]) rfl st, e]⟩
      · intro h
        rw [for_cons (ρ1 := [.val V, .val x]) rfl st, i2 h]
    | false =>
      rw [if_neg (by rw [hx]; exact Bool.false_ne_true)] at st
      rw [List.all_cons, hx, Bool.false_and]
      exact And.intro (fun h => by cases h) (fun _ => for_ret (ρ1 := [.val V, .val x]) rfl st)
theorem eqv_is : ∀ a b : List Int, PyData.eqvAll (a.map .int) (b.map .int) = decide (a = b)
  | [], [] => by (simp [PyData.eqvAll])
  | [], _ :: _ => by (simp [PyData.eqvAll])
  | _ :: _, [] => by (simp [PyData.eqvAll])
  | x :: a, y :: b => by
    simp only [List.map_cons, PyData.eqvAll, PyData.eqv, eqv_is a b]
    rw [Bool.eq_iff_iff]
    simp
theorem shaped_l (ns : List Int) : SeqAt.shaped (.list (ns.map .int)) = true := (sh_lst (n := 0) fun d hd => by
  obtain ⟨i, _, rfl⟩ := List.mem_map.mp hd
  exact sh_int).ok
theorem eq_l (a b : List Int) : oEq (.list (a.map .int)) (.list (b.map .int)) = some (.bool (decide (a = b))) := by
  unfold oEq
  rw [if_pos ⟨shaped_l a, shaped_l b⟩]
  simp only [PyData.eqv, eqv_is]
theorem law_are_posts_gen (d : D) : f__law_are_posts [d] = .ok (.bool (ap d)) := by
  cases d with
  | tuple xs =>
    by_cases hl : 1 ≤ xs.length ∧ xs.length ≤ 8
    · have l1 : (1 : Int) ≤ (xs.length : Int) := by omega
      have l2 : (xs.length : Int) ≤ 8 := by omega
      have l3 : xs.length ≤ 100000 := by omega
      obtain ⟨i1, i2⟩ := posts_loop' (.tuple xs) xs .no
      cases ha : xs.all pOk with
      | false =>
        have e := i2 ha
        simp [f__law_are_posts, semOf, c__law_are_posts, isTupleD, l1, l2, e, ap, ha]
      | true =>
        obtain ⟨y, e⟩ := i1 ha
        have g : lcGo (sName 1) cYes (cOp oIxA (cBor 1) (cC (.int 0))) [.val (.tuple xs), .no] (xs.map id) = .ok ((xs.map fst').map .int) := by
          rw [List.map_map]
          exact lc_mapA xs fun x hx => ⟨_, rfl, rfl, by
            have := fst_ix (List.all_eq_true.mp ha x hx)
            simp [this]⟩
        rw [List.map_id] at g
        have bs : bSet1 [.list ((xs.map fst').map .int)] = some (.list ((sset (xs.map fst')).map .int)) := by
          show (intsD ((xs.map fst').map .int)).bind _ = _
          rw [intsD_map]
          show (if (xs.map fst').length ≤ 4000 then _ else _) = _
          rw [List.length_map, if_pos (by omega)]
        have eq := eq_l (xs.map fst') (sset (xs.map fst'))
        have de : decide (xs.map fst' = sset (xs.map fst')) = decide (Asc (xs.map fst')) := by
          rw [decide_eq_decide]
          constructor
          · intro h
            rw [h]
            exact sset_up _
          · exact fun h => sset_one h fun k => Iff.rfl
        rw [de] at eq
        have a2 : ap (.tuple xs) = decide (Asc (xs.map fst')) := by simp [ap, hl, ha]
        rw [a2]
        generalize (sset (xs.map fst')).map PyData.int = GG at bs eq
        generalize (xs.map fst').map PyData.int = FF at g bs eq
        simp [f__law_are_posts, semOf, c__law_are_posts, isTupleD, l1, l2, l3, e, wipeR, g, bs, eq]
    · have n : ¬ ((1 : Int) ≤ (xs.length : Int) ∧ (xs.length : Int) ≤ 8) := by omega
      have a2 : ap (.tuple xs) = false := by simp [ap]; intro h1 h2; omega
      rw [a2]
      by_cases l1 : (1 : Int) ≤ (xs.length : Int)
      · have l2 : ¬ (xs.length : Int) ≤ 8 := fun z => n ⟨l1, z⟩
        simp [f__law_are_posts, semOf, c__law_are_posts, isTupleD, l1, l2]
      · simp [f__law_are_posts, semOf, c__law_are_posts, isTupleD, l1]
  | _ => simp [f__law_are_posts, semOf, c__law_are_posts, isTupleD, ap]
end DL.K28


namespace DL.K28
open PySem L2 DL.Q DL.Dr
/-! ### errors -/
def clauses : List ClD := (["BadPosts"], none, fun _ => (sRet (cC (.str "posts")))) :: ((["BadLight"], none, fun _ => (sRet (cC (.str "light")))) :: ((["BadPost"], none, fun _ => (sRet (cC (.str "post")))) :: ((["BadPlace", "BadDial", "BadPosts", "BadLight", "BadPost", "BadLamp", "BadHeight"], some 3, xRet 3 (xIf (xIs errs ["BadPlace"]) (fun _ => (cC (.str "place"))) (fun _ => (cC (.str "other"))))) :: [])))
theorem err_of {way : Int} {a b : D} {x : Str} (hb : b0__law_error [.val (.int way), .val a, .val b, .no] = .ex ⟨x, []⟩ [.val (.int way), .val a, .val b, .no]) : f__law_error [.int way, a, b] = toR (thenO (tryO errs clauses (.ex ⟨x, []⟩ [.val (.int way), .val a, .val b, .no])) (sRet (cC (.str "none")))) := by
  simp [f__law_error, semOf, c__law_error, hb, clauses]
section
variable {way : Int} {a b : D}
theorem err_posts (hb : b0__law_error [.val (.int way), .val a, .val b, .no] = .ex ⟨"BadPosts", []⟩ [.val (.int way), .val a, .val b, .no]) : f__law_error [.int way, a, b] = .ok (.str "posts") :=
  (err_of hb).trans (by simp (decide := true) [clauses])
theorem err_light (hb : b0__law_error [.val (.int way), .val a, .val b, .no] = .ex ⟨"BadLight", []⟩ [.val (.int way), .val a, .val b, .no]) : f__law_error [.int way, a, b] = .ok (.str "light") :=
  (err_of hb).trans (by simp (decide := true) [clauses])
theorem err_post (hb : b0__law_error [.val (.int way), .val a, .val b, .no] = .ex ⟨"BadPost", []⟩ [.val (.int way), .val a, .val b, .no]) : f__law_error [.int way, a, b] = .ok (.str "post") :=
  (err_of hb).trans (by simp (decide := true) [clauses])
theorem err_place (hb : b0__law_error [.val (.int way), .val a, .val b, .no] = .ex ⟨"BadPlace", []⟩ [.val (.int way), .val a, .val b, .no]) : f__law_error [.int way, a, b] = .ok (.str "place") :=
  (err_of hb).trans (by simp (decide := true) [clauses])
/-- ways 0 to 6 raise what the first look raises -/
theorem first_err {x : Str} (h : f__check [a, b] = .exc ⟨x, []⟩) (h0 : 0 ≤ way) (h1 : way < 7) : b0__law_error [.val (.int way), .val a, .val b, .no] = .ex ⟨x, []⟩ [.val (.int way), .val a, .val b, .no] := by
  have w : way = 0 ∨ way = 1 ∨ way = 2 ∨ way = 3 ∨ way = 4 ∨ way = 5 ∨ way = 6 := by omega
  rcases w with rfl | rfl | rfl | rfl | rfl | rfl | rfl <;> simp [b0__law_error, f__law_first, semOf, c__law_first, f_tips_of, c_tips_of, f_shadows_of, c_shadows_of, f_shade_of, c_shade_of, f_shade_length, c_shade_length, f_is_shaded, c_is_shaded, f_shade_on, c_shade_on, f_hidden_by, c_hidden_by, h]
theorem second_err (h : f_check_posts [a] = .exc ⟨"BadPosts", []⟩) (h0 : 7 ≤ way) (h1 : way < 14) : b0__law_error [.val (.int way), .val a, .val b, .no] = .ex ⟨"BadPosts", []⟩ [.val (.int way), .val a, .val b, .no] := by
  have w : way = 7 ∨ way = 8 ∨ way = 9 ∨ way = 10 ∨ way = 11 ∨ way = 12 ∨ way = 13 := by omega
  rcases w with rfl | rfl | rfl | rfl | rfl | rfl | rfl <;> simp [b0__law_error, f__law_second, semOf, c__law_second, f_light_meeting, c_light_meeting, f_light_hiding, c_light_hiding, f_check_two, c_check_two, f_meeting_lights, c_meeting_lights, f_lamp_tips, c_lamp_tips, f_dark_of, c_dark_of, f_both_dark, c_both_dark, f_lamp_meeting, c_lamp_meeting, h]
theorem bad_posts (h : ap a = false) : f_check_posts [a] = .exc ⟨"BadPosts", []⟩ := by
  have g := are_posts_gen a
  rw [h] at g
  simp [f_check_posts, semOf, c_check_posts, g]
theorem bad_check (h : ap a = false) : f__check [a, b] = .exc ⟨"BadPosts", []⟩ := by
  simp [f__check, semOf, c__check, bad_posts h]
theorem posts_err (h : ap a = false) (h0 : 0 ≤ way) (h1 : way < 14) : f__law_error [.int way, a, b] = .ok (.str "posts") := by
  by_cases c : way < 7
  · exact err_posts (first_err (bad_check h) h0 c)
  · exact err_posts (second_err (bad_posts h) (by omega) h1)
/-- the ways without posts -/
theorem none_err (h0 : 0 ≤ way) (h1 : way < 17) : f__law_error [.int way, .none, .none] = .ok (.str "posts") := by
  by_cases c : way < 14
  · exact posts_err rfl h0 c
  · have p1 := bad_posts (a := .tuple [.none]) (by decide +kernel)
    have p2 := bad_posts (a := .tuple [.tuple [.none, .none]]) (by decide +kernel)
    have w : way = 14 ∨ way = 15 ∨ way = 16 := by omega
    rcases w with rfl | rfl | rfl <;> refine err_posts ?_ <;> simp [b0__law_error, f__law_second, semOf, c__law_second, f_light_from, c_light_from, f_dial_marks, c_dial_marks, f_hour_of, c_hour_of, p1, p2]
end
section
variable {L : Rat} {P : List (Int × Int)} {way : Int}
theorem light_err (hP : Pst P) {v : D} (h : f_is_light [v] = .ok (.bool false)) (h0 : 0 ≤ way) (h1 : way < 7) : f__law_error [.int way, .tuple (P.map pd), v] = .ok (.str "light") := by
  have c := chk_posts hP
  refine err_light (first_err ?_ h0 h1)
  generalize P.map pd = PP at *
  simp [f__check, semOf, c__check, c, h]
theorem place_none : f_check_place [.none] = .exc ⟨"BadPlace", []⟩ := by
  simp [k_place, Q.f_check_place, semOf, Q.c_check_place, Q.f_is_ratio, Q.c_is_ratio, isTupleD]
theorem shaded_err (hP : Pst P) (g : Lg L) : f__law_error [.int 4, .tuple (P.map pd), rd L] = .ok (.str "place") := by
  have c := chk hP g
  have p := place_none
  refine err_place ?_
  generalize P.map pd = PP at *
  generalize rd L = LL at *
  simp [b0__law_error, f__law_first, semOf, c__law_first, f_is_shaded, c_is_shaded, c, p]
theorem from_err {x : Int × Int} (h : ap (.tuple [pd x]) = true) : f__law_error [.int 14, pd x, .none] = .ok (.str "place") := by
  have c := are_posts_gen (.tuple [pd x])
  rw [h] at c
  have p := place_none
  refine err_place ?_
  generalize pd x = XX at *
  simp [b0__law_error, f__law_second, semOf, c__law_second, f_light_from, c_light_from, f_check_posts, c_check_posts, c, p]
theorem post_err (hP : Pst P) (g : Lg L) (h : way = 5 ∨ way = 7 ∨ way = 8 ∨ way = 13) : f__law_error [.int way, .tuple (P.map pd), rd L] = .ok (.str "post") := by
  have c := chk hP g
  have cp := chk_posts hP
  have w := is_whole_ok .none 0 ((P.length : Nat) - 1)
  rw [show isW .none 0 ((P.length : Nat) - 1) = false from rfl, ← k_whole] at w
  have k : f_check_post [.tuple (P.map pd), .none] = .exc ⟨"BadPost", []⟩ := by
    have pl : (P.map pd).length = P.length := List.length_map _
    generalize P.map pd = PP at *
    simp [f_check_post, semOf, c_check_post, pl, w]
  refine err_post ?_
  generalize P.map pd = PP at *
  generalize rd L = LL at *
  rcases h with rfl | rfl | rfl | rfl <;> simp [b0__law_error, f__law_first, f__law_second, semOf, c__law_first, c__law_second, f_shade_on, c_shade_on, f_light_meeting, c_light_meeting, f_light_hiding, c_light_hiding, f_lamp_meeting, c_lamp_meeting, f_check_two, c_check_two, c, cp, k]
end
/-! ### lights -/
def badL : List D := [.tuple [.int 101, .int 1], .tuple [.int (-101), .int 1], .tuple [.int 2, .int 4], .tuple [.int 1, .int 0], .tuple [.int 1, .int (-1)], .tuple [.bool true, .int 1], .tuple [.int 1, .bool true], .none, .int 1, .tuple [.int 1], .list [.int 1, .int 1], .tuple [.str "1", .int 1], .tuple [.int 1, .int 1000001], .tuple [.int 1000000, .int 10000], .tuple [.int 0, .int 2]]
def goodL : List D := [.tuple [.int 100, .int 1], .tuple [.int (-100), .int 1], .tuple [.int 0, .int 1], .tuple [.int 1, .int 1000000], .tuple [.int 999999, .int 1000000]]
theorem bad_lights : ∀ v ∈ badL, f_is_light [v] = .ok (.bool false) ∧ f__law_is_light [v] = .ok (.bool false) := by
  intro v hv
  simp only [badL, List.not_mem_nil, List.mem_cons, or_false] at hv
  rcases hv with rfl | rfl | rfl | rfl | rfl | rfl | rfl | rfl | rfl | rfl | rfl | rfl | rfl | rfl | rfl <;> exact ⟨by rfl, by rfl⟩
theorem good_lights : ∀ v ∈ goodL, f_is_light [v] = .ok (.bool true) ∧ f__law_is_light [v] = .ok (.bool true) := by
  intro v hv
  simp only [goodL, List.not_mem_nil, List.mem_cons, or_false] at hv
  rcases hv with rfl | rfl | rfl | rfl | rfl <;> exact ⟨by rfl, by rfl⟩
theorem law_light_rd {L : Rat} (g : Lg L) : f__law_is_light [rd L] = .ok (.bool true) := by
  have n := g.num
  have d := g.d
  have dp := L.den_pos
  have lp := plain_rd L.num (L.den : Nat) (by omega) (by omega)
  rw [← k_lplain, ← rat_num_den L] at lp
  have cp : CPow 10 6 := by decide
  have pw : (10 : Int) ^ (6 : Int).toNat = 1000000 := by decide
  have e := oEq_same (sh_rd (n := 0) L)
  have b1 : -(100 * (L.den : Int)) ≤ L.num := by omega
  have b2 : L.num ≤ 100 * (L.den : Int) := by omega
  have m1 : CMul (-100) (L.den : Int) := cmul_l (by decide)
  have m2 : CMul 100 (L.den : Int) := cmul_l (by decide)
  have b1' : -100 * (L.den : Int) ≤ L.num := by omega
  have num1 : f__law_is_number [.int L.num] = .ok (.bool true) := by simp [f__law_is_number, semOf, c__law_is_number, isIntD, isBoolD]
  have num2 : f__law_is_number [.int (L.den : Nat)] = .ok (.bool true) := by simp [f__law_is_number, semOf, c__law_is_number, isIntD, isBoolD]
  have i0 := rd_num L
  have i1 := rd_den L
  have bl : bLen [rd L] = some (.int 2) := rfl
  have it : itemsD (rd L) = some [.int L.num, .int (L.den : Nat)] := rfl
  have ty : isTupleD (rd L) = true := rfl
  have go : ∀ ρ0 : Env, ρ0 = [.val (rd L), .no] → lcGo (sName 1) cYes (cAndV (cCall f__law_is_number (aCons (cVar 1) aNil)) (cChain oLe oLe (cUn oNeg (cOp oPow (cC (.int 10)) (cC (.int 6)))) (cBor 1) (cOp oPow (cC (.int 10)) (cC (.int 6))))) ρ0 [.int L.num, .int (L.den : Nat)] = .ok [.bool true, .bool true] := fun ρ0 h => by
    subst h
    simp [lcGo_cons, num1, num2, cp, pw, show (-1000000 : Int) ≤ L.num by omega, show L.num ≤ 1000000 by omega, show (-1000000 : Int) ≤ (L.den : Int) by omega, show (L.den : Int) ≤ 1000000 by omega]
  have go' := go _ rfl
  have ba : bAll [.list [.bool true, .bool true]] = some (.bool true) := rfl
  generalize rd L = LL at *
  simp [f__law_is_light, semOf, c__law_is_light, ty, bl, it, wipeR, go', ba, i0, i1, dp, lp, e, m1, m2, b1', b2]
end DL.K28


namespace DL.K28
open PySem L2 DL.Q DL.Dr
def st0_b0_law : Env → Out := (sTo (sTup (sCons (sName 3) (sCons (sName 4) sNil))) (cTup (aCons (cCall f__law_posts (aCons (cSl (cBor 1) (pSome (cOp oMul1 (cC (.int 7)) (cBor 2))) pNone) (aCons (cC (.int 8)) aNil))) (aCons (cCall f__law_light (aCons (cBt bInt (aCons (cOp oIxA (cBor 1) (cOp oAdd (cC (.int 50)) (cBor 2))) aNil)) aNil)) aNil))))
def st1_b0_law : Env → Out := (sIf (cTest (cOp oNe (cCall f_tips_of (aCons (cVar 3) (aCons (cVar 4) aNil))) (cBt bTuple (aCons (asList (cLc (cItems (cBor 3)) (sName 14) cYes (cCall f__law_plus (aCons (cTup (aCons (cOp oIxA (cBor 14) (cC (.int 0))) (aCons (cC (.int 1)) aNil))) (aCons (cCall f__law_by (aCons (cTup (aCons (cOp oIxA (cBor 14) (cC (.int 1))) (aCons (cC (.int 1)) aNil))) (aCons (cVar 4) aNil))) aNil))) [14])) aNil)))) (sRet (cC (.bool false))) sNx)
def st2_b0_law : Env → Out := (sIf (cTest (cOp oNe (cCall f_shadows_of (aCons (cVar 3) (aCons (cVar 4) aNil))) (cBt bTuple (aCons (asList (cLc (cItems (cBor 3)) (sName 14) cYes (cCall f__law_span (aCons (cVar 14) (aCons (cVar 4) aNil))) [14])) aNil)))) (sRet (cC (.bool false))) sNx)
def st3_b0_law : Env → Out := (sAsg 5 (asVal (cOp oMod (cBt bInt (aCons (cOp oIxA (cBor 1) (cOp oAdd (cC (.int 45)) (cBor 2))) aNil)) (cBt bLen (aCons (cBor 3) aNil)))))
def st4_b0_law : Env → Out := (sTo (sTup (sCons (sName 6) (sCons (sName 7) sNil))) (cOp oIxA (cBor 3) (cBor 5)))
def st5_b0_law : Env → Out := (sAsg 8 (asVal (asList (cLst (aCons (cTup (aCons (cVar 6) (aCons (cC (.int 0)) aNil))) (aCons (cTup (aCons (cVar 6) (aCons (cC (.int 1001)) aNil))) (aCons (cTup (aCons (cUn oNeg (cC (.int 1))) (aCons (cVar 7) aNil))) (aCons (cTup (aCons (cC (.int 1001)) (aCons (cVar 7) aNil))) (aCons (cTup (aCons (cC (.bool true)) (aCons (cVar 7) aNil))) (aCons (cTup (aCons (cVar 6) (aCons (cC (.bool true)) aNil))) (aCons (cTup (aCons (cVar 6) (aCons (cC .none) aNil))) (aCons (cTup (aCons (cC (.str "1")) (aCons (cVar 7) aNil))) (aCons (cTup (aCons (cVar 6) aNil)) aNil)))))))))))))
def st6_b0_law : Env → Out := (sAsg 8 (asVal (cOp oAdd (cBor 8) (asList (cLst (aCons (cTup (aCons (cVar 6) (aCons (cVar 7) (aCons (cC (.int 0)) aNil)))) (aCons (asList (cLst (aCons (cVar 6) (aCons (cVar 7) aNil)))) (aCons (cC .none) (aCons (cTup (aCons (cC (.int 1000)) (aCons (cC (.int 1000)) aNil))) (aCons (cTup (aCons (cC (.int 0)) (aCons (cC (.int 1)) aNil))) (aCons (cOp oIxA (cBor 3) (cOp oSub (cBor 5) (cC (.int 1)))) aNil)))))))))))
def st7_b0_law : Env → Out := (sFor (cItems (cOp oAdd (asList (cLc (cItems (cBor 8)) (sName 12) cYes (cOp oAdd (cOp oAdd (cSl (cBor 3) pNone (pSome (cVar 5))) (cTup (aCons (cVar 12) aNil))) (cSl (cBor 3) (pSome (cOp oAdd (cBor 5) (cC (.int 1)))) pNone)) [12])) (asList (cLst (aCons (cVar 3) (aCons (cBt bList (aCons (cBor 3) aNil)) (aCons (cTup aNil) (aCons (cC .none) (aCons (cC (.int 7)) (aCons (cRev (cBor 3)) (aCons (cOp oAdd (cBor 3) (cSl (cBor 3) pNone (pSome (cC (.int 1))))) (aCons (cOp oMul1 (cBor 3) (cC (.int 9))) aNil)))))))))))) (sName 9) b1_law)
def st8_b0_law : Env → Out := (sAsg 11 (asVal (asList (cLst (aCons (cTup (aCons (cC (.int 101)) (aCons (cC (.int 1)) aNil))) (aCons (cTup (aCons (cUn oNeg (cC (.int 101))) (aCons (cC (.int 1)) aNil))) (aCons (cTup (aCons (cC (.int 2)) (aCons (cC (.int 4)) aNil))) (aCons (cTup (aCons (cC (.int 1)) (aCons (cC (.int 0)) aNil))) (aCons (cTup (aCons (cC (.int 1)) (aCons (cUn oNeg (cC (.int 1))) aNil))) (aCons (cTup (aCons (cC (.bool true)) (aCons (cC (.int 1)) aNil))) (aCons (cTup (aCons (cC (.int 1)) (aCons (cC (.bool true)) aNil))) (aCons (cC .none) (aCons (cC (.int 1)) (aCons (cTup (aCons (cC (.int 1)) aNil)) (aCons (asList (cLst (aCons (cC (.int 1)) (aCons (cC (.int 1)) aNil)))) (aCons (cTup (aCons (cC (.str "1")) (aCons (cC (.int 1)) aNil))) (aCons (cTup (aCons (cC (.int 1)) (aCons (cOp oAdd (cOp oPow (cC (.int 10)) (cC (.int 6))) (cC (.int 1))) aNil))) (aCons (cTup (aCons (cOp oPow (cC (.int 10)) (cC (.int 6))) (aCons (cOp oPow (cC (.int 10)) (cC (.int 4))) aNil))) (aCons (cTup (aCons (cC (.int 0)) (aCons (cC (.int 2)) aNil))) aNil)))))))))))))))))))
def st9_b0_law : Env → Out := (sFor (cItems (cOp oAdd (cBor 11) (asList (cLst (aCons (cVar 4) (aCons (cTup (aCons (cC (.int 100)) (aCons (cC (.int 1)) aNil))) (aCons (cTup (aCons (cUn oNeg (cC (.int 100))) (aCons (cC (.int 1)) aNil))) (aCons (cTup (aCons (cC (.int 0)) (aCons (cC (.int 1)) aNil))) (aCons (cTup (aCons (cC (.int 1)) (aCons (cOp oPow (cC (.int 10)) (cC (.int 6))) aNil))) (aCons (cTup (aCons (cC (.int 999999)) (aCons (cOp oPow (cC (.int 10)) (cC (.int 6))) aNil))) aNil)))))))))) (sName 9) b2_law)
def st10_b0_law : Env → Out := (sIf (cOr (cTest (cOp oNe (asList (cLc (cIt range1D (aCons (cC (.int 17)) aNil)) (sName 13) cYes (cCall f__law_error (aCons (cVar 13) (aCons (cC .none) (aCons (cC .none) aNil)))) [13])) (cOp oMul1 (asList (cLst (aCons (cC (.str "posts")) aNil))) (cC (.int 17))))) (cOr (cTest (cOp oNe (cCall f__law_error (aCons (cC (.int 14)) (aCons (cOp oIxA (cBor 3) (cC (.int 0))) (aCons (cC .none) aNil)))) (cC (.str "place")))) (cTest (cOp oNe (cCall f__law_error (aCons (cC (.int 4)) (aCons (cVar 3) (aCons (cVar 4) aNil)))) (cC (.str "place")))))) (sRet (cC (.bool false))) sNx)
def st11_b0_law : Env → Out := (sIf (cTest (cOp oNe (asList (cLc (cItems (cTup (aCons (cC (.int 5)) (aCons (cC (.int 7)) (aCons (cC (.int 8)) (aCons (cC (.int 13)) aNil)))))) (sName 13) cYes (cCall f__law_error (aCons (cVar 13) (aCons (cVar 3) (aCons (cVar 4) aNil)))) [13])) (cOp oMul1 (asList (cLst (aCons (cC (.str "post")) aNil))) (cC (.int 4))))) (sRet (cC (.bool false))) sNx)
theorem eq_b0_law : b0_law = (sSeq st0_b0_law (sSeq st1_b0_law (sSeq st2_b0_law (sSeq st3_b0_law (sSeq st4_b0_law (sSeq st5_b0_law (sSeq st6_b0_law (sSeq st7_b0_law (sSeq st8_b0_law (sSeq st9_b0_law (sSeq st10_b0_law st11_b0_law))))))))))) := rfl
def st0_c_law : Env → Out := (sAsg 1 (asVal (cCall f__law_draws (aCons (cVar 0) (aCons (cC (.int 60)) aNil)))))
def st1_c_law : Env → Out := (sFor (cIt range1D (aCons (cC (.int 5)) aNil)) (sName 2) b0_law)
def st2_c_law : Env → Out := (sRet (cAndV (cOp oEq (cCall f_tips_of (aCons (cTup (aCons (cTup (aCons (cC (.int 10)) (aCons (cC (.int 6)) aNil))) (aCons (cTup (aCons (cC (.int 12)) (aCons (cC (.int 1)) aNil))) aNil))) (aCons (cTup (aCons (cC (.int 1)) (aCons (cC (.int 2)) aNil))) aNil))) (cTup (aCons (cTup (aCons (cC (.int 13)) (aCons (cC (.int 1)) aNil))) (aCons (cTup (aCons (cC (.int 25)) (aCons (cC (.int 2)) aNil))) aNil)))) (cOp oEq (cCall f_shadows_of (aCons (cTup (aCons (cTup (aCons (cC (.int 3)) (aCons (cC (.int 2)) aNil))) aNil)) (aCons (cTup (aCons (cUn oNeg (cC (.int 3))) (aCons (cC (.int 4)) aNil))) aNil))) (cTup (aCons (cTup (aCons (cTup (aCons (cC (.int 3)) (aCons (cC (.int 2)) aNil))) (aCons (cTup (aCons (cC (.int 3)) (aCons (cC (.int 1)) aNil))) aNil))) aNil)))))
theorem eq_c_law : c_law = (sSeq st0_c_law (sSeq st1_c_law st2_c_law)) := rfl
/-! ### a turn -/
structure Tn (ρ : Env) (ds : List Int) (P : List (Int × Int)) (L : Rat) : Prop where
  len : ρ.length = 15
  e1 : ρ[1]? = some (.val (.list (ds.map .int)))
  e3 : ρ[3]? = some (.val (.tuple (P.map pd)))
  e4 : ρ[4]? = some (.val (rd L))
section
variable {L : Rat} {P : List (Int × Int)} {ds : List Int} {ρ : Env}
theorem Tn.keep {S : List Nat} {ρ' : Env} (T : Tn ρ ds P L) (s : Same S ρ ρ') (h : S.contains 1 = false ∧ S.contains 3 = false ∧ S.contains 4 = false := by decide) : Tn ρ' ds P L := ⟨s.len.trans T.len, s.get T.e1 h.1, s.get T.e3 h.2.1, s.get T.e4 h.2.2⟩
theorem sh_rds (f : Int × Int → Rat) (P : List (Int × Int)) : Sh 2 (.tuple (P.map fun x => rd (f x))) := sh_tup fun d hd => by
  obtain ⟨x, _, rfl⟩ := List.mem_map.mp hd
  exact sh_rd (n := 0) _
theorem sh_sp (s : Sn) : Sh 2 (sp s) := sh_tup fun d hd => by
  simp only [List.not_mem_nil, List.mem_cons, or_false] at hd
  rcases hd with rfl | rfl
  · exact sh_rd (n := 0) _
  · exact sh_rd (n := 0) _
theorem sh_sps (F : List Sn) : Sh 3 (.tuple (F.map sp)) := sh_tup fun d hd => by
  obtain ⟨s, _, rfl⟩ := List.mem_map.mp hd
  exact sh_sp s
theorem ltip_ok {x : Int × Int} (g : Lg L) (p : Po x) : f__law_by [.tuple [.int x.2, .int 1], rd L] = .ok (rd ((x.2 : Rat) * L)) ∧ f__law_plus [.tuple [.int x.1, .int 1], rd ((x.2 : Rat) * L)] = .ok (rd (tp L x)) := by
  have d := g.d
  have n := g.num
  have h1 := p.h0
  have h2 := p.h1
  have b := by_rd (a := (x.2 : Rat)) (b := L) (by
    rw [Rat.den_intCast]
    omega) (cmul_l (by rw [Rat.num_intCast]; omega))
  have q := lplus_rd (a := (x.1 : Rat)) (b := (x.2 : Rat) * L) (by
    have := mul_den (x := x) g
    rw [Rat.den_intCast]
    omega)
  rw [rd_int, ← k_by] at b
  rw [rd_int, ← k_lplus] at q
  exact ⟨b, q⟩
theorem x1 (hP : Pst P) (g : Lg L) (T : Tn ρ ds P L) : st1_b0_law ρ = .nx ρ := by
  have n1 := hP.n1
  have t := tips_of_ok hP g
  have go : lcGo (sName 14) cYes (cCall f__law_plus (aCons (cTup (aCons (cOp oIxA (cBor 14) (cC (.int 0))) (aCons (cC (.int 1)) aNil))) (aCons (cCall f__law_by (aCons (cTup (aCons (cOp oIxA (cBor 14) (cC (.int 1))) (aCons (cC (.int 1)) aNil))) (aCons (cVar 4) aNil))) aNil))) (ρ.set 14 .no) (P.map pd) = .ok (P.map fun x => rd (tp L x)) :=
    lc_mapA P fun x hx => ⟨_, rfl, rfl, by
      obtain ⟨l1, l2⟩ := ltip_ok g (po_of hP x hx)
      simp [-getElem?_pos, T.len, T.e4, pd0, pd1, l1, l2]⟩
  have ne := oNe_same (sh_rds (tp L) P)
  have pl : (P.map pd).length ≤ 100000 := by rw [List.length_map]; omega
  have T3 := T.e3
  have T4 := T.e4
  generalize (P.map fun x => rd (tp L x)) = SS at *
  generalize P.map pd = PP at *
  generalize rd L = LL at *
  simp [-getElem?_pos, st1_b0_law, T3, T4, t, wipeR, pl, go, ne]
theorem x2 (hP : Pst P) (g : Lg L) (T : Tn ρ ds P L) : st2_b0_law ρ = .nx ρ := by
  have n1 := hP.n1
  have t := shadows_of_ok hP g
  have go : lcGo (sName 14) cYes (cCall f__law_span (aCons (cVar 14) (aCons (cVar 4) aNil))) (ρ.set 14 .no) (P.map pd) = .ok ((P.map (sh L)).map sp) := by
    rw [List.map_map]
    exact lc_mapA P fun x hx => ⟨_, rfl, rfl, by
      have l := law_span_ok g (po_of hP x hx)
      simp [-getElem?_pos, T.len, T.e4, l]⟩
  have ne := oNe_same (sh_sps (P.map (sh L)))
  have pl : (P.map pd).length ≤ 100000 := by rw [List.length_map]; omega
  have T3 := T.e3
  have T4 := T.e4
  generalize (P.map (sh L)).map sp = SS at *
  generalize P.map pd = PP at *
  generalize rd L = LL at *
  simp [-getElem?_pos, st2_b0_law, T3, T4, t, wipeR, pl, go, ne]
/-- what a look at the words comes to -/
def words (w : Str) (n : Nat) : D := .list (List.replicate n (.str w))
theorem sh_str {n : Nat} {x : Str} (h : PyData.strOk x = true) : Sh n (.str x) := ⟨by simp [PyData.canLay0, h], by simp [PyData.depth]⟩
theorem ne_words {w : Str} (h : PyData.strOk w = true) (n : Nat) : oNe (words w n) (words w n) = some (.bool false) := oNe_same (n := 1) (sh_lst fun d hd => by
  rw [List.eq_of_mem_replicate hd]
  exact sh_str h)
theorem ways_go {w : Str} {a b : Env → R D} {A B : D} (n : Nat) (hn : n ≤ 20) (len : ρ.length = 15) (ha : ∀ v, a ((ρ.set 13 .no).set 13 v) = .ok A) (hb : ∀ v, b ((ρ.set 13 .no).set 13 v) = .ok B) (h : ∀ k : Int, 0 ≤ k → k < n → f__law_error [.int k, A, B] = .ok (.str w)) :
    lcGo (sName 13) cYes (cCall f__law_error (aCons (cVar 13) (aCons a (aCons b aNil)))) (ρ.set 13 .no) (rangeD 0 n) = .ok (List.replicate n (.str w)) := by
  have e : rangeD 0 n = (List.range n).map fun i => .int (0 + (i : Nat)) := rfl
  rw [e]
  have := lc_mapA (s := sName 13) (t := cYes) (el := cCall f__law_error (aCons (cVar 13) (aCons a (aCons b aNil)))) (ρ := ρ.set 13 .no) (g := fun i : Nat => PyData.int (0 + (i : Nat))) (φ := fun _ => PyData.str w) (List.range n) fun i hi => ⟨_, rfl, rfl, by
    have hi := List.mem_range.mp hi
    have hh := h (0 + (i : Int)) (by omega) (by omega)
    rw [ev_cCall, ev_aCons, ev_cVar, set_get (by simp [len]), lkV_val, bind_okS, ev_aCons, ha, bind_okS, ev_aCons, hb, bind_okS, ev_aNil, bind_okS, bind_okS, bind_okS]
    exact hh⟩
  rw [this]
  simp [List.map_const']
theorem b1_ok (T : Tn ρ ds P L) (d : D) : ∃ ρ', b1_law (ρ.set 9 (.val d)) = .nx ρ' ∧ Same [9, 10] ρ ρ' := by
  refine ⟨((ρ.set 9 (.val d)).set 10 (.val (.bool (ap d)))), ?_, (Same.refl.set (i := 9) rfl).set (i := 10) rfl⟩
  have l1 := are_posts_gen d
  have l2 := law_are_posts_gen d
  have nb := oNe_same (n := 0) (a := .bool (ap d)) sh_bool
  cases h : ap d with
  | true =>
    rw [h] at l1 l2 nb
    simp [-getElem?_pos, b1_law, T.len, l1, l2, nb, isBoolD]
  | false =>
    rw [h] at l1 l2 nb
    have go := ways_go (ρ := (ρ.set 9 (.val d)).set 10 (.val (.bool false))) (w := "posts") (a := cVar 9) (b := cC .none) (A := d) (B := .none) 14 (by decide) (by simp [T.len]) (fun v => by simp [-getElem?_pos, T.len]) (fun v => rfl) fun k h0 h1 => posts_err h h0 (by omega)
    have ne := ne_words (w := "posts") (by decide +kernel) 14
    have mu : oMul1 (.list [.str "posts"]) (.int 14) = some (words "posts" 14) := rfl
    have rl : (rangeD 0 14).length = 14 := rfl
    unfold words at ne mu
    generalize List.replicate 14 (PyData.str "posts") = RR at *
    simp [-getElem?_pos, -oMul_li, b1_law, T.len, l1, l2, nb, isBoolD, wipeR, go, mu, ne, rl]
theorem b2_ok (hP : Pst P) (T : Tn ρ ds P L) (d : D) {k : Bool} (l1 : f_is_light [d] = .ok (.bool k)) (l2 : f__law_is_light [d] = .ok (.bool k)) : ∃ ρ', b2_law (ρ.set 9 (.val d)) = .nx ρ' ∧ Same [9, 10] ρ ρ' := by
  refine ⟨((ρ.set 9 (.val d)).set 10 (.val (.bool k))), ?_, (Same.refl.set (i := 9) rfl).set (i := 10) rfl⟩
  have nb := oNe_same (n := 0) (a := .bool k) sh_bool
  have T3 := T.e3
  cases k with
  | true => simp [-getElem?_pos, b2_law, T.len, l1, l2, nb, isBoolD]
  | false =>
    have go := ways_go (ρ := (ρ.set 9 (.val d)).set 10 (.val (.bool false))) (w := "light") (a := cVar 3) (b := cVar 9) (A := .tuple (P.map pd)) (B := d) 7 (by decide) (by simp [T.len]) (fun v => by
      rw [ev_cVar]
      have : (((((ρ.set 9 (.val d)).set 10 (.val (.bool false))).set 13 .no).set 13 v)[3]? = some (.val (.tuple (P.map pd)))) := by
        rw [List.getElem?_set_ne (by decide), List.getElem?_set_ne (by decide), List.getElem?_set_ne (by decide), List.getElem?_set_ne (by decide)]
        exact T3
      rw [this]
      rfl) (fun v => by simp [-getElem?_pos, T.len]) fun k h0 h1 => light_err hP l1 h0 (by omega)
    have ne := ne_words (w := "light") (by decide +kernel) 7
    have mu : oMul1 (.list [.str "light"]) (.int 7) = some (words "light" 7) := rfl
    have rl : (rangeD 0 7).length = 7 := rfl
    unfold words at ne mu
    generalize List.replicate 7 (PyData.str "light") = RR at *
    generalize P.map pd = PP at *
    simp [-getElem?_pos, -oMul_li, b2_law, T.len, T3, l1, l2, nb, isBoolD, wipeR, go, mu, ne, rl]
theorem b1_go : ∀ (ds' : List D) (ρ : Env), Tn ρ ds P L → ∃ ρ', forLoop (sName 9) b1_law ds' ρ = .nx ρ' ∧ Same [9, 10] ρ ρ'
  | [], ρ, _ => ⟨ρ, rfl, Same.refl⟩
  | d :: ds', ρ, T => by
    obtain ⟨ρ1, e1, s1⟩ := b1_ok T d
    obtain ⟨ρ2, e2, s2⟩ := b1_go ds' ρ1 (T.keep s1)
    exact ⟨ρ2, by rw [for_cons (ρ1 := ρ.set 9 (.val d)) rfl e1, e2], s1.trans s2⟩
theorem b2_go (hP : Pst P) : ∀ (ds' : List D) (ρ : Env), Tn ρ ds P L → (∀ d ∈ ds', ∃ k, f_is_light [d] = .ok (.bool k) ∧ f__law_is_light [d] = .ok (.bool k)) → ∃ ρ', forLoop (sName 9) b2_law ds' ρ = .nx ρ' ∧ Same [9, 10] ρ ρ'
  | [], ρ, _, _ => ⟨ρ, rfl, Same.refl⟩
  | d :: ds', ρ, T, h => by
    obtain ⟨k, l1, l2⟩ := h d (by simp)
    obtain ⟨ρ1, e1, s1⟩ := b2_ok hP T d l1 l2
    obtain ⟨ρ2, e2, s2⟩ := b2_go hP ds' ρ1 (T.keep s1) fun x hx => h x (by simp [hx])
    exact ⟨ρ2, by rw [for_cons (ρ1 := ρ.set 9 (.val d)) rfl e1, e2], s1.trans s2⟩
end
end DL.K28


namespace DL.K28
open PySem L2 DL.Q DL.Dr
section
variable {L : Rat} {P : List (Int × Int)} {ds : List Int} {ρ : Env}
theorem at_pd {k : Nat} {y : Int × Int} (hk : P[k]? = some y) : atI (P.map pd) (k : Int) = some (pd y) := atI_nat (by rw [List.getElem?_map, hk] <;> rfl)
theorem to_pd {s : List D → Env → Option Env} {ρ : Env} {x : Int × Int} : sTup s (pd x) ρ = s [.int x.1, .int x.2] ρ := rfl
theorem before {k : Nat} (hk : k < P.length) : ∃ d, atI (P.map pd) ((k : Int) - 1) = some d := by
  cases k with
  | zero =>
    have h : (P.map pd) ≠ [] := by
      intro z
      have := congrArg List.length z
      rw [List.length_map] at this
      have this : P.length = 0 := this
      omega
    refine ⟨(P.map pd).getLast h, ?_⟩
    unfold atI ixN
    have l : 0 < (P.map pd).length := List.length_pos_iff.mpr h
    rw [if_neg (by omega), if_pos (by omega)]
    have e : ((0 : Nat) : Int) - 1 + ((P.map pd).length : Int) = (((P.map pd).length - 1 : Nat) : Int) := by omega
    rw [e]
    rw [List.getLast_eq_getElem]
    exact List.getElem?_eq_getElem _
  | succ k =>
    refine ⟨pd P[k], ?_⟩
    rw [show ((k + 1 : Nat) : Int) - 1 = (k : Int) by omega]
    exact at_pd (List.getElem?_eq_getElem (by omega))
def items1 (x : Int × Int) : List D := [.tuple [.int x.1, .int 0], .tuple [.int x.1, .int 1001], .tuple [.int (-1), .int x.2], .tuple [.int 1001, .int x.2], .tuple [.bool true, .int x.2], .tuple [.int x.1, .bool true], .tuple [.int x.1, .none], .tuple [.str "1", .int x.2], .tuple [.int x.1]]
theorem x5 {x : Int × Int} (e6 : ρ[6]? = some (.val (.int x.1))) (e7 : ρ[7]? = some (.val (.int x.2))) : st5_b0_law ρ = .nx (ρ.set 8 (.val (.list (items1 x)))) := by
  simp [-getElem?_pos, st5_b0_law, e6, e7, items1]
theorem x6 {x : Int × Int} {k : Nat} (T : Tn ρ ds P L) (hk : k < P.length) (e5 : ρ[5]? = some (.val (.int (k : Nat)))) (e6 : ρ[6]? = some (.val (.int x.1))) (e7 : ρ[7]? = some (.val (.int x.2))) (e8 : ρ[8]? = some (.val (.list (items1 x)))) : ∃ I : List D, I.length = 15 ∧ st6_b0_law ρ = .nx (ρ.set 8 (.val (.list I))) := by
  obtain ⟨d, hd⟩ := before (P := P) hk
  have T3 := T.e3
  have il : (items1 x).length = 9 := rfl
  generalize items1 x = II at *
  generalize P.map pd = PP at *
  refine ⟨II ++ [.tuple [.int x.1, .int x.2, .int 0], .list [.int x.1, .int x.2], .none, .tuple [.int 1000, .int 1000], .tuple [.int 0, .int 1], d], by simp [il], ?_⟩
  simp [-getElem?_pos, st6_b0_law, T3, e5, e6, e7, e8, hd, il]
theorem cut_len {α : Type} (l : List α) (a b : Option Int) : (cut l a b).length ≤ l.length := by
  unfold cut
  rw [List.length_take]; rw [List.length_drop]
  omega
theorem x7 (hP : Pst P) {k : Nat} (T : Tn ρ ds P L) (e5 : ρ[5]? = some (.val (.int (k : Nat)))) {I : List D} (il : I.length = 15) (e8 : ρ[8]? = some (.val (.list I))) : ∃ ρ', st7_b0_law ρ = .nx ρ' ∧ Same [9, 10] ρ ρ' := by
  have n0 := hP.n0
  have n1 := hP.n1
  have T3 := T.e3
  have pl : (P.map pd).length = P.length := List.length_map _
  have pn : P.map pd ≠ [] := fun z => by
    rw [z] at pl
    simp at pl
    omega
  have c1 := cut_len (P.map pd) none (some (k : Int))
  have c2 := cut_len (P.map pd) (some ((k : Int) + 1)) none
  have c3 := cut_len (P.map pd) none (some 1)
  have go : lcGo (sName 12) cYes (cOp oAdd (cOp oAdd (cSl (cBor 3) pNone (pSome (cVar 5))) (cTup (aCons (cVar 12) aNil))) (cSl (cBor 3) (pSome (cOp oAdd (cBor 5) (cC (.int 1)))) pNone)) (ρ.set 12 .no) (I.map id) = .ok (I.map fun d => .tuple (cut (P.map pd) none (some (k : Int)) ++ [d] ++ cut (P.map pd) (some ((k : Int) + 1)) none)) :=
    lc_mapA I fun d hd => ⟨_, rfl, rfl, by
      generalize P.map pd = PP at *
      simp [-getElem?_pos, T.len, T3, e5, show (cut PP none (some (k : Int))).length + 1 ≤ 100000 by omega, show (cut PP none (some (k : Int))).length + (1 + (cut PP (some ((k : Int) + 1)) none).length) ≤ 100000 by omega, show (cut PP none (some (k : Int))).length + 1 + (cut PP (some ((k : Int) + 1)) none).length ≤ 100000 by omega]⟩
  rw [List.map_id] at go
  have jl : (I.map fun d => PyData.tuple (cut (P.map pd) none (some (k : Int)) ++ [d] ++ cut (P.map pd) (some ((k : Int) + 1)) none)).length = 15 := by rw [List.length_map, il]
  generalize (I.map fun d => PyData.tuple (cut (P.map pd) none (some (k : Int)) ++ [d] ++ cut (P.map pd) (some ((k : Int) + 1)) none)) = JJ at go jl
  have m9 : oMul1 (.tuple (P.map pd)) (.int 9) = some (.tuple (List.replicate 9 (P.map pd)).flatten) := by
    rw [oMul_ti, if_pos ⟨pn, by decide, by decide, by omega⟩]
    rfl
  obtain ⟨ρ', e, s⟩ := b1_go (JJ ++ [.tuple (P.map pd), .list (P.map pd), .tuple [], .none, .int 7, .tuple (P.map pd).reverse, .tuple (P.map pd ++ cut (P.map pd) none (some 1)), .tuple (List.replicate 9 (P.map pd)).flatten]) ρ T
  refine ⟨ρ', ?_, s⟩
  generalize (List.replicate 9 (P.map pd)).flatten = NN at *
  generalize P.map pd = PP at *
  simp [-getElem?_pos, -oMul_ti, st7_b0_law, T3, e5, e8, il, wipeR, go, jl, m9, show PP.length + (cut PP none (some 1)).length ≤ 100000 by omega, e]
theorem x8 : st8_b0_law ρ = .nx (ρ.set 11 (.val (.list badL))) := by
  have c6 : CPow 10 6 := by decide
  have c4 : CPow 10 4 := by decide
  have p6 : (10 : Int) ^ (6 : Int).toNat = 1000000 := by decide
  have p4 : (10 : Int) ^ (4 : Int).toNat = 10000 := by decide
  simp [-getElem?_pos, st8_b0_law, badL, c6, c4, p6, p4]
theorem x9 (hP : Pst P) (g : Lg L) (T : Tn ρ ds P L) (e11 : ρ[11]? = some (.val (.list badL))) : ∃ ρ', st9_b0_law ρ = .nx ρ' ∧ Same [9, 10] ρ ρ' := by
  have c6 : CPow 10 6 := by decide
  have p6 : (10 : Int) ^ (6 : Int).toNat = 1000000 := by decide
  have lg := is_light_rd (a := L) (by have := g.d; omega)
  rw [decide_eq_true g.lit, ← k_light] at lg
  obtain ⟨ρ', e, s⟩ := b2_go hP (badL ++ (rd L :: goodL)) ρ T fun d hd => by
    rcases (List.mem_append.mp hd) with h | h
    · exact ⟨false, bad_lights d h⟩
    · rcases (List.mem_cons.mp h) with z | z
      · subst z
        exact ⟨true, lg, law_light_rd g⟩
      · exact ⟨true, good_lights d z⟩
  refine ⟨ρ', ?_, s⟩
  have T4 := T.e4
  have bl : badL.length = 15 := rfl
  generalize badL = BL at *
  generalize rd L = LL at *
  unfold goodL at e
  simp [-getElem?_pos, st9_b0_law, e11, T4, c6, p6, bl, e]
theorem one_ap (hP : Pst P) : ∀ x ∈ P, ap (.tuple [pd x]) = true := fun x hx => by
  have b := po_of hP x hx
  have := b.p0
  have := b.p1
  have := b.h0
  have := b.h1
  simp [ap, pd, pOk, isW]
  omega
theorem x10 (hP : Pst P) (g : Lg L) (T : Tn ρ ds P L) : st10_b0_law ρ = .nx ρ := by
  have n0 := hP.n0
  obtain ⟨x, hx⟩ : ∃ x, P[0]? = some x := ⟨P[0], List.getElem?_eq_getElem (by omega)⟩
  have a0 : atI (P.map pd) 0 = some (pd x) := at_pd (k := 0) hx
  have f := from_err (one_ap hP x (List.mem_of_getElem? hx))
  have s := shaded_err hP g
  have go := ways_go (ρ := ρ) (w := "posts") (a := cC .none) (b := cC .none) (A := .none) (B := .none) 17 (by decide) T.len (fun v => rfl) (fun v => rfl) fun k h0 h1 => none_err h0 (by omega)
  have ne := ne_words (w := "posts") (by decide +kernel) 17
  have ne2 := oNe_same (n := 0) (a := .str "place") (sh_str (by decide +kernel))
  have mu : oMul1 (.list [.str "posts"]) (.int 17) = some (words "posts" 17) := rfl
  have rl : (rangeD 0 17).length = 17 := rfl
  have T3 := T.e3
  have T4 := T.e4
  unfold words at ne mu
  generalize List.replicate 17 (PyData.str "posts") = RR at *
  generalize P.map pd = PP at *
  generalize rd L = LL at *
  generalize pd x = XX at *
  simp [-getElem?_pos, -oMul_li, st10_b0_law, T3, T4, wipeR, go, mu, ne, ne2, rl, a0, f, s]
theorem x11 (hP : Pst P) (g : Lg L) (T : Tn ρ ds P L) : st11_b0_law ρ = .nx ρ := by
  have p5 := post_err (way := 5) hP g (by simp)
  have p7 := post_err (way := 7) hP g (by simp)
  have p8 := post_err (way := 8) hP g (by simp)
  have p13 := post_err (way := 13) hP g (by simp)
  have T3 := T.e3
  have T4 := T.e4
  generalize P.map pd = PP at *
  generalize rd L = LL at *
  have go : lcGo (sName 13) cYes (cCall f__law_error (aCons (cVar 13) (aCons (cVar 3) (aCons (cVar 4) aNil)))) (ρ.set 13 .no) [.int 5, .int 7, .int 8, .int 13] = .ok [.str "post", .str "post", .str "post", .str "post"] := by
    simp [-getElem?_pos, lcGo_cons, T.len, T3, T4, p5, p7, p8, p13]
  have ne := ne_words (w := "post") (by decide +kernel) 4
  have mu : oMul1 (.list [.str "post"]) (.int 4) = some (words "post" 4) := rfl
  have w4 : words "post" 4 = .list [.str "post", .str "post", .str "post", .str "post"] := rfl
  rw [w4] at ne mu
  generalize [PyData.str "post", PyData.str "post", PyData.str "post", PyData.str "post"] = RR at *
  simp [-getElem?_pos, -oMul_li, st11_b0_law, wipeR, go, mu, ne]
abbrev TS : List Nat := [3, 4, 5, 6, 7, 8, 9, 10, 11, 12, 13, 14]
theorem turn_ok (hr : InR ds) (hl : ds.length = 60) (len : ρ.length = 15) (e1 : ρ[1]? = some (.val (.list (ds.map .int)))) {tn : Nat} (ht : tn < 5) (e2 : ρ[2]? = some (.val (.int (tn : Nat)))) : ∃ ρ', b0_law ρ = .nx ρ' ∧ Same TS ρ ρ' := by
  have hr' : InR (ds.drop (7 * tn)) := fun d hd => hr d (List.mem_of_mem_drop hd)
  obtain ⟨P, eP, hP⟩ := law_posts_ok hr' (by rw [List.length_drop]; omega) 8 ⟨by decide, by decide⟩
  have ct : cut (ds.map PyData.int) (some (7 * (tn : Int))) none = (ds.drop (7 * tn)).map PyData.int := by
    have := cut_from (ds.map PyData.int) (7 * tn)
    rw [List.map_drop, ← this]
    congr 2
  rw [← k_lposts] at eP
  obtain ⟨v, d1, v0⟩ := dget hr (50 + tn) (by omega)
  rw [Int.natCast_add] at d1
  simp only [Int.cast_ofNat_Int] at d1
  obtain ⟨u, d2, u0⟩ := dget hr (45 + tn) (by omega)
  rw [Int.natCast_add] at d2
  simp only [Int.cast_ofNat_Int] at d2
  obtain ⟨L, eL, g⟩ := light_of v
  have n0 := hP.n0
  have n1 := hP.n1
  rw [eq_b0_law]
  have y0 : st0_b0_law ρ = .nx ((ρ.set 3 (.val (.tuple (P.map pd)))).set 4 (.val (rd L))) := by
    generalize (ds.drop (7 * tn)).map PyData.int = DD at ct eP
    generalize P.map pd = PP at *
    generalize rd L = LL at *
    simp [-getElem?_pos, st0_b0_law, e1, e2, cmul_l (i := 7) (j := (tn : Int)) (by decide), ct, eP, d1, eL]
  rw [nx_of y0]
  obtain ⟨ρ1, h1⟩ : ∃ x, (ρ.set 3 (.val (.tuple (P.map pd)))).set 4 (.val (rd L)) = x := ⟨_, rfl⟩
  have s1 : Same TS ρ ρ1 := by rw [← h1]; exact (Same.refl.set (i := 3) rfl).set (i := 4) rfl
  have T1 : Tn ρ1 ds P L := ⟨s1.len.trans len, s1.get e1, by rw [← h1]; simp [len], by rw [← h1]; simp [len]⟩
  rw [h1, nx_of (x1 hP g T1), nx_of (x2 hP g T1)]
  have pl : (P.map pd).length = P.length := List.length_map _
  have m0 : 0 ≤ u % (P.length : Int) := Int.emod_nonneg _ (by omega)
  have m1 : u % (P.length : Int) < P.length := Int.emod_lt_of_pos _ (by omega)
  obtain ⟨k, hk⟩ : ∃ k : Nat, u % (P.length : Int) = k := ⟨(u % (P.length : Int)).toNat, by omega⟩
  have kl : k < P.length := by omega
  obtain ⟨x, hx⟩ : ∃ x, P[k]? = some x := ⟨P[k], List.getElem?_eq_getElem kl⟩
  have ax := at_pd hx
  have e2' := s1.get e2
  have y3 : st3_b0_law ρ1 = .nx (ρ1.set 5 (.val (.int (k : Nat)))) := by
    have T3 := T1.e3
    have T2 := T1.e1
    generalize P.map pd = PP at *
    simp [-getElem?_pos, st3_b0_law, T2, T3, e2', d2, pl, hk, show 0 < P.length by omega]
  rw [nx_of y3]
  have y4 : st4_b0_law (ρ1.set 5 (.val (.int (k : Nat)))) = .nx (((ρ1.set 5 (.val (.int (k : Nat)))).set 6 (.val (.int x.1))).set 7 (.val (.int x.2))) := by
    have T3 := T1.e3
    generalize P.map pd = PP at *
    simp [-getElem?_pos, st4_b0_law, T1.len, T3, ax, to_pd]
  rw [nx_of y4]
  obtain ⟨ρ2, h2⟩ : ∃ z, ((ρ1.set 5 (.val (.int (k : Nat)))).set 6 (.val (.int x.1))).set 7 (.val (.int x.2)) = z := ⟨_, rfl⟩
  have s2 : Same [5, 6, 7] ρ1 ρ2 := by rw [← h2]; exact ((Same.refl.set (i := 5) rfl).set (i := 6) rfl).set (i := 7) rfl
  have T2 := T1.keep s2
  have q5 : ρ2[5]? = some (.val (.int (k : Nat))) := by rw [← h2]; simp [T1.len]
  have q6 : ρ2[6]? = some (.val (.int x.1)) := by rw [← h2]; simp [T1.len]
  have q7 : ρ2[7]? = some (.val (.int x.2)) := by rw [← h2]; simp [T1.len]
  rw [h2, nx_of (x5 q6 q7)]
  have s12 := s1.trans (s2.mono (T := TS) (by decide))
  have s3 : Same [8] ρ2 (ρ2.set 8 (.val (.list (items1 x)))) := Same.refl.set (i := 8) rfl
  have q8 : (ρ2.set 8 (.val (.list (items1 x))))[8]? = some (.val (.list (items1 x))) := set_get (by rw [T2.len]; decide)
  have T3 := T2.keep s3
  have q5' := s3.get q5
  have q6' := s3.get q6
  have q7' := s3.get q7
  have s13 := s12.trans (s3.mono (T := TS) (by decide))
  generalize ρ2.set 8 (.val (.list (items1 x))) = ρ3 at *
  obtain ⟨I, il, y6⟩ := x6 T3 kl q5' q6' q7' q8
  rw [nx_of y6]
  have s4 : Same [8] ρ3 (ρ3.set 8 (.val (.list I))) := Same.refl.set (i := 8) rfl
  have q8' : (ρ3.set 8 (.val (.list I)))[8]? = some (.val (.list I)) := set_get (by rw [T3.len]; decide)
  have T4 := T3.keep s4
  have q5'' := s4.get q5'
  have s14 := s13.trans (s4.mono (T := TS) (by decide))
  obtain ⟨ρ5, y7, s5⟩ := x7 hP T4 q5'' il q8'
  have T5 := T4.keep s5
  have s15 := s14.trans (s5.mono (T := TS) (by decide))
  rw [nx_of y7, nx_of (x8 (ρ := ρ5))]
  have s6 : Same [11] ρ5 (ρ5.set 11 (.val (.list badL))) := Same.refl.set (i := 11) rfl
  have q11 : (ρ5.set 11 (.val (.list badL)))[11]? = some (.val (.list badL)) := set_get (by rw [T5.len]; decide)
  have T6 := T5.keep s6
  obtain ⟨ρ7, y9, s7⟩ := x9 hP g T6 q11
  have T7 := T6.keep s7
  rw [nx_of y9, nx_of (x10 hP g T7), x11 hP g T7]
  exact ⟨ρ7, rfl, (s15.trans (s6.mono (by decide))).trans (s7.mono (by decide))⟩
end
theorem turns (ds : List Int) (hr : InR ds) (hl : ds.length = 60) (s : SV) : ∃ ρ', forLoop (sName 2) b0_law (rangeD 0 5) [s, .val (.list (ds.map .int)), .no, .no, .no, .no, .no, .no, .no, .no, .no, .no, .no, .no, .no] = .nx ρ' ∧ Same (2 :: TS) [s, .val (.list (ds.map .int)), .no, .no, .no, .no, .no, .no, .no, .no, .no, .no, .no, .no, .no] ρ' := by
  refine for_keep (S := 2 :: TS) rfl _ _ Same.refl fun d hd ρ sm => ?_
  obtain ⟨t, ht, rfl⟩ := List.mem_map.mp hd
  have ht := List.mem_range.mp ht
  have sm' := sm.set (i := 2) (v := .val (.int ((0 : Int) + (t : Nat)))) rfl
  have z : (0 : Int) + (t : Nat) = (t : Nat) := by omega
  rw [z] at sm' ⊢
  obtain ⟨ρ', e, s2⟩ := turn_ok (ρ := ρ.set 2 (.val (.int (t : Nat)))) hr hl (sm'.len.trans rfl) (sm'.get rfl) ht (set_get (by rw [sm.len]; exact (by decide : 2 < 15)))
  exact ⟨ρ', e, sm'.trans (s2.mono (by decide))⟩
theorem law_true (ns : List Int) (h : ns.length ≤ 63) : f_law [scrD ns] = .ok (.bool true) := by
  obtain ⟨ds, e, hl, hr⟩ := draws ns h 60 (by decide)
  obtain ⟨ρ', e2, sm⟩ := turns ds hr hl (.val (scrD ns))
  have dr : f__law_draws [scrD ns, .int 60] = .ok (.list (ds.map .int)) := e
  have a1 : f_tips_of [.tuple [.tuple [.int 10, .int 6], .tuple [.int 12, .int 1]], .tuple [.int 1, .int 2]] = .ok (.tuple [.tuple [.int 13, .int 1], .tuple [.int 25, .int 2]]) := by rfl
  have a2 : f_shadows_of [.tuple [.tuple [.int 3, .int 2]], .tuple [.int (-3), .int 4]] = .ok (.tuple [.tuple [.tuple [.int 3, .int 2], .tuple [.int 3, .int 1]]]) := by rfl
  have q1 := oEq_same (a := .tuple [.tuple [.int 13, .int 1], .tuple [.int 25, .int 2]]) (n := 4) ⟨by decide +kernel, by decide +kernel⟩
  have q2 := oEq_same (a := .tuple [.tuple [.tuple [.int 3, .int 2], .tuple [.int 3, .int 1]]]) (n := 4) ⟨by decide +kernel, by decide +kernel⟩
  have st : f_law [scrD ns] = toR (c_law [.val (scrD ns), .no, .no, .no, .no, .no, .no, .no, .no, .no, .no, .no, .no, .no, .no]) := rfl
  rw [st, eq_c_law]
  have z0 : st0_c_law [.val (scrD ns), .no, .no, .no, .no, .no, .no, .no, .no, .no, .no, .no, .no, .no, .no] = .nx [.val (scrD ns), .val (.list (ds.map .int)), .no, .no, .no, .no, .no, .no, .no, .no, .no, .no, .no, .no, .no] := by
    simp [st0_c_law, dr]
  rw [nx_of z0]
  have z1 : st1_c_law [.val (scrD ns), .val (.list (ds.map .int)), .no, .no, .no, .no, .no, .no, .no, .no, .no, .no, .no, .no, .no] = .nx ρ' := by
    simp [st1_c_law, e2]
  rw [nx_of z1]
  simp [-getElem?_pos, st2_c_law, a1, a2, q1, q2]
end DL.K28

/-! W_K28 -/
namespace DL.K28
open PySem L2 PySem.Spec PyProof.Rows
def topS (i : Nat) : Stmt := PySem.Challenge.pw_sandwright_k28_posts_and_lights.main.body.getD i (.Pass ⟨0, 0, 0, 0⟩)
abbrev s__law_draws : Stmt := topS 82
abbrev N__law_draws : List Str := ["script", "many", "draws", "seed", "cell", "number", "k"]
theorem sc__law_draws : FnScope N__law_draws ["script", "many"] (defScope s__law_draws) := ⟨rfl, rfl, rfl, by decide +kernel, rfl, by decide +kernel, by decide +kernel⟩
abbrev s__law_posts : Stmt := topS 87
abbrev N__law_posts : List Str := ["draws", "many", "found", "k", "draw", "place"]
theorem sc__law_posts : FnScope N__law_posts ["draws", "many"] (defScope s__law_posts) := ⟨rfl, rfl, rfl, by decide +kernel, rfl, by decide +kernel, by decide +kernel⟩
abbrev s__law_plain : Stmt := topS 83
abbrev N__law_plain : List Str := ["up", "down", "one", "other"]
theorem sc__law_plain : FnScope N__law_plain ["up", "down"] (defScope s__law_plain) := ⟨rfl, rfl, rfl, by decide +kernel, rfl, by decide +kernel, by decide +kernel⟩
abbrev s__law_light : Stmt := topS 88
abbrev N__law_light : List Str := ["draw"]
theorem sc__law_light : FnScope N__law_light ["draw"] (defScope s__law_light) := ⟨rfl, rfl, rfl, by decide +kernel, rfl, by decide +kernel, by decide +kernel⟩
abbrev s_ascends : Stmt := topS 11
abbrev N_ascends : List Str := ["values", "one", "later"]
theorem sc_ascends : FnScope N_ascends ["values"] (defScope s_ascends) := ⟨rfl, rfl, rfl, by decide +kernel, rfl, by decide +kernel, by decide +kernel⟩
abbrev s_is_whole : Stmt := topS 10
abbrev N_is_whole : List Str := ["value", "least", "most"]
theorem sc_is_whole : FnScope N_is_whole ["value", "least", "most"] (defScope s_is_whole) := ⟨rfl, rfl, rfl, by decide +kernel, rfl, by decide +kernel, by decide +kernel⟩
abbrev s_is_post : Stmt := topS 33
abbrev N_is_post : List Str := ["value"]
theorem sc_is_post : FnScope N_is_post ["value"] (defScope s_is_post) := ⟨rfl, rfl, rfl, by decide +kernel, rfl, by decide +kernel, by decide +kernel⟩
abbrev s_are_posts : Stmt := topS 34
abbrev N_are_posts : List Str := ["value", "one"]
theorem sc_are_posts : FnScope N_are_posts ["value"] (defScope s_are_posts) := ⟨rfl, rfl, rfl, by decide +kernel, rfl, by decide +kernel, by decide +kernel⟩
abbrev s_check_posts : Stmt := topS 36
abbrev N_check_posts : List Str := ["posts"]
theorem sc_check_posts : FnScope N_check_posts ["posts"] (defScope s_check_posts) := ⟨rfl, rfl, rfl, by decide +kernel, rfl, by decide +kernel, by decide +kernel⟩
abbrev s_divisor : Stmt := topS 15
abbrev N_divisor : List Str := ["one", "other"]
theorem sc_divisor : FnScope N_divisor ["one", "other"] (defScope s_divisor) := ⟨rfl, rfl, rfl, by decide +kernel, rfl, by decide +kernel, by decide +kernel⟩
abbrev s_is_ratio : Stmt := topS 25
abbrev N_is_ratio : List Str := ["value", "one"]
theorem sc_is_ratio : FnScope N_is_ratio ["value"] (defScope s_is_ratio) := ⟨rfl, rfl, rfl, by decide +kernel, rfl, by decide +kernel, by decide +kernel⟩
abbrev s_is_small : Stmt := topS 26
abbrev N_is_small : List Str := ["value"]
theorem sc_is_small : FnScope N_is_small ["value"] (defScope s_is_small) := ⟨rfl, rfl, rfl, by decide +kernel, rfl, by decide +kernel, by decide +kernel⟩
abbrev s_is_less : Stmt := topS 21
abbrev N_is_less : List Str := ["one", "other"]
theorem sc_is_less : FnScope N_is_less ["one", "other"] (defScope s_is_less) := ⟨rfl, rfl, rfl, by decide +kernel, rfl, by decide +kernel, by decide +kernel⟩
abbrev s_is_light : Stmt := topS 35
abbrev N_is_light : List Str := ["value"]
theorem sc_is_light : FnScope N_is_light ["value"] (defScope s_is_light) := ⟨rfl, rfl, rfl, by decide +kernel, rfl, by decide +kernel, by decide +kernel⟩
abbrev s__check : Stmt := topS 37
abbrev N__check : List Str := ["posts", "light"]
theorem sc__check : FnScope N__check ["posts", "light"] (defScope s__check) := ⟨rfl, rfl, rfl, by decide +kernel, rfl, by decide +kernel, by decide +kernel⟩
abbrev s_ratio : Stmt := topS 16
abbrev N_ratio : List Str := ["up", "down", "size"]
theorem sc_ratio : FnScope N_ratio ["up", "down"] (defScope s_ratio) := ⟨rfl, rfl, rfl, by decide +kernel, rfl, by decide +kernel, by decide +kernel⟩
abbrev s_plus : Stmt := topS 17
abbrev N_plus : List Str := ["one", "other"]
theorem sc_plus : FnScope N_plus ["one", "other"] (defScope s_plus) := ⟨rfl, rfl, rfl, by decide +kernel, rfl, by decide +kernel, by decide +kernel⟩
abbrev s_times : Stmt := topS 19
abbrev N_times : List Str := ["one", "other"]
theorem sc_times : FnScope N_times ["one", "other"] (defScope s_times) := ⟨rfl, rfl, rfl, by decide +kernel, rfl, by decide +kernel, by decide +kernel⟩
abbrev s_tip_in : Stmt := topS 40
abbrev N_tip_in : List Str := ["post", "light"]
theorem sc_tip_in : FnScope N_tip_in ["post", "light"] (defScope s_tip_in) := ⟨rfl, rfl, rfl, by decide +kernel, rfl, by decide +kernel, by decide +kernel⟩
abbrev s_tips_of : Stmt := topS 41
abbrev N_tips_of : List Str := ["posts", "light", "post"]
theorem sc_tips_of : FnScope N_tips_of ["posts", "light"] (defScope s_tips_of) := ⟨rfl, rfl, rfl, by decide +kernel, rfl, by decide +kernel, by decide +kernel⟩
abbrev s_least : Stmt := topS 22
abbrev N_least : List Str := ["one", "other"]
theorem sc_least : FnScope N_least ["one", "other"] (defScope s_least) := ⟨rfl, rfl, rfl, by decide +kernel, rfl, by decide +kernel, by decide +kernel⟩
abbrev s_greatest : Stmt := topS 23
abbrev N_greatest : List Str := ["one", "other"]
theorem sc_greatest : FnScope N_greatest ["one", "other"] (defScope s_greatest) := ⟨rfl, rfl, rfl, by decide +kernel, rfl, by decide +kernel, by decide +kernel⟩
abbrev s__shadow : Stmt := topS 42
abbrev N__shadow : List Str := ["post", "light", "place", "tip"]
theorem sc__shadow : FnScope N__shadow ["post", "light"] (defScope s__shadow) := ⟨rfl, rfl, rfl, by decide +kernel, rfl, by decide +kernel, by decide +kernel⟩
abbrev s_shadows_of : Stmt := topS 43
abbrev N_shadows_of : List Str := ["posts", "light", "post"]
theorem sc_shadows_of : FnScope N_shadows_of ["posts", "light"] (defScope s_shadows_of) := ⟨rfl, rfl, rfl, by decide +kernel, rfl, by decide +kernel, by decide +kernel⟩
abbrev s__law_is_number : Stmt := topS 90
abbrev N__law_is_number : List Str := ["value"]
theorem sc__law_is_number : FnScope N__law_is_number ["value"] (defScope s__law_is_number) := ⟨rfl, rfl, rfl, by decide +kernel, rfl, by decide +kernel, by decide +kernel⟩
abbrev s__law_are_posts : Stmt := topS 91
abbrev N__law_are_posts : List Str := ["value", "one"]
theorem sc__law_are_posts : FnScope N__law_are_posts ["value"] (defScope s__law_are_posts) := ⟨rfl, rfl, rfl, by decide +kernel, rfl, by decide +kernel, by decide +kernel⟩
abbrev s__law_is_light : Stmt := topS 92
abbrev N__law_is_light : List Str := ["value", "one"]
theorem sc__law_is_light : FnScope N__law_is_light ["value"] (defScope s__law_is_light) := ⟨rfl, rfl, rfl, by decide +kernel, rfl, by decide +kernel, by decide +kernel⟩
abbrev s_in_order : Stmt := topS 24
abbrev N_in_order : List Str := ["values", "found", "value", "at", "one"]
theorem sc_in_order : FnScope N_in_order ["values"] (defScope s_in_order) := ⟨rfl, rfl, rfl, by decide +kernel, rfl, by decide +kernel, by decide +kernel⟩
abbrev s_put_together : Stmt := topS 44
abbrev N_put_together : List Str := ["spans", "span", "left", "found", "begin", "end"]
theorem sc_put_together : FnScope N_put_together ["spans"] (defScope s_put_together) := ⟨rfl, rfl, rfl, by decide +kernel, rfl, by decide +kernel, by decide +kernel⟩
abbrev s__shade : Stmt := topS 45
abbrev N__shade : List Str := ["posts", "light", "post"]
theorem sc__shade : FnScope N__shade ["posts", "light"] (defScope s__shade) := ⟨rfl, rfl, rfl, by decide +kernel, rfl, by decide +kernel, by decide +kernel⟩
abbrev s_shade_of : Stmt := topS 46
abbrev N_shade_of : List Str := ["posts", "light"]
theorem sc_shade_of : FnScope N_shade_of ["posts", "light"] (defScope s_shade_of) := ⟨rfl, rfl, rfl, by decide +kernel, rfl, by decide +kernel, by decide +kernel⟩
abbrev s_minus : Stmt := topS 18
abbrev N_minus : List Str := ["one", "other"]
theorem sc_minus : FnScope N_minus ["one", "other"] (defScope s_minus) := ⟨rfl, rfl, rfl, by decide +kernel, rfl, by decide +kernel, by decide +kernel⟩
abbrev s_shade_length : Stmt := topS 47
abbrev N_shade_length : List Str := ["posts", "light", "whole", "begin", "end"]
theorem sc_shade_length : FnScope N_shade_length ["posts", "light"] (defScope s_shade_length) := ⟨rfl, rfl, rfl, by decide +kernel, rfl, by decide +kernel, by decide +kernel⟩
abbrev s_check_place : Stmt := topS 38
abbrev N_check_place : List Str := ["place"]
theorem sc_check_place : FnScope N_check_place ["place"] (defScope s_check_place) := ⟨rfl, rfl, rfl, by decide +kernel, rfl, by decide +kernel, by decide +kernel⟩
abbrev s_is_shaded : Stmt := topS 48
abbrev N_is_shaded : List Str := ["posts", "light", "place", "begin", "end"]
theorem sc_is_shaded : FnScope N_is_shaded ["posts", "light", "place"] (defScope s_is_shaded) := ⟨rfl, rfl, rfl, by decide +kernel, rfl, by decide +kernel, by decide +kernel⟩
abbrev s_check_post : Stmt := topS 39
abbrev N_check_post : List Str := ["posts", "number"]
theorem sc_check_post : FnScope N_check_post ["posts", "number"] (defScope s_check_post) := ⟨rfl, rfl, rfl, by decide +kernel, rfl, by decide +kernel, by decide +kernel⟩
abbrev s_over : Stmt := topS 20
abbrev N_over : List Str := ["one", "other"]
theorem sc_over : FnScope N_over ["one", "other"] (defScope s_over) := ⟨rfl, rfl, rfl, by decide +kernel, rfl, by decide +kernel, by decide +kernel⟩
abbrev s__height_at : Stmt := topS 49
abbrev N__height_at : List Str := ["post", "light", "place", "away"]
theorem sc__height_at : FnScope N__height_at ["post", "light", "place"] (defScope s__height_at) := ⟨rfl, rfl, rfl, by decide +kernel, rfl, by decide +kernel, by decide +kernel⟩
abbrev s__shade_on : Stmt := topS 50
abbrev N__shade_on : List Str := ["posts", "light", "number", "place", "high", "found", "post"]
theorem sc__shade_on : FnScope N__shade_on ["posts", "light", "number"] (defScope s__shade_on) := ⟨rfl, rfl, rfl, by decide +kernel, rfl, by decide +kernel, by decide +kernel⟩
abbrev s_shade_on : Stmt := topS 51
abbrev N_shade_on : List Str := ["posts", "light", "number"]
theorem sc_shade_on : FnScope N_shade_on ["posts", "light", "number"] (defScope s_shade_on) := ⟨rfl, rfl, rfl, by decide +kernel, rfl, by decide +kernel, by decide +kernel⟩
abbrev s_hidden_by : Stmt := topS 52
abbrev N_hidden_by : List Str := ["posts", "light", "number", "post"]
theorem sc_hidden_by : FnScope N_hidden_by ["posts", "light"] (defScope s_hidden_by) := ⟨rfl, rfl, rfl, by decide +kernel, rfl, by decide +kernel, by decide +kernel⟩
abbrev s__law_first : Stmt := topS 93
abbrev N__law_first : List Str := ["way", "posts", "light"]
theorem sc__law_first : FnScope N__law_first ["way", "posts", "light"] (defScope s__law_first) := ⟨rfl, rfl, rfl, by decide +kernel, rfl, by decide +kernel, by decide +kernel⟩
abbrev s_check_two : Stmt := topS 56
abbrev N_check_two : List Str := ["posts", "one", "other"]
theorem sc_check_two : FnScope N_check_two ["posts", "one", "other"] (defScope s_check_two) := ⟨rfl, rfl, rfl, by decide +kernel, rfl, by decide +kernel, by decide +kernel⟩
abbrev s__meeting : Stmt := topS 57
abbrev N__meeting : List Str := ["first", "second"]
theorem sc__meeting : FnScope N__meeting ["first", "second"] (defScope s__meeting) := ⟨rfl, rfl, rfl, by decide +kernel, rfl, by decide +kernel, by decide +kernel⟩
abbrev s_light_meeting : Stmt := topS 58
abbrev N_light_meeting : List Str := ["posts", "one", "other"]
theorem sc_light_meeting : FnScope N_light_meeting ["posts", "one", "other"] (defScope s_light_meeting) := ⟨rfl, rfl, rfl, by decide +kernel, rfl, by decide +kernel, by decide +kernel⟩
abbrev s_light_hiding : Stmt := topS 59
abbrev N_light_hiding : List Str := ["posts", "one", "other"]
theorem sc_light_hiding : FnScope N_light_hiding ["posts", "one", "other"] (defScope s_light_hiding) := ⟨rfl, rfl, rfl, by decide +kernel, rfl, by decide +kernel, by decide +kernel⟩
abbrev s_meeting_lights : Stmt := topS 60
abbrev N_meeting_lights : List Str := ["posts", "found", "number", "post", "other", "light"]
theorem sc_meeting_lights : FnScope N_meeting_lights ["posts"] (defScope s_meeting_lights) := ⟨rfl, rfl, rfl, by decide +kernel, rfl, by decide +kernel, by decide +kernel⟩
abbrev s__check_lamp : Stmt := topS 71
abbrev N__check_lamp : List Str := ["lamp"]
theorem sc__check_lamp : FnScope N__check_lamp ["lamp"] (defScope s__check_lamp) := ⟨rfl, rfl, rfl, by decide +kernel, rfl, by decide +kernel, by decide +kernel⟩
abbrev s__tip : Stmt := topS 72
abbrev N__tip : List Str := ["post", "lamp"]
theorem sc__tip : FnScope N__tip ["post", "lamp"] (defScope s__tip) := ⟨rfl, rfl, rfl, by decide +kernel, rfl, by decide +kernel, by decide +kernel⟩
abbrev s_lamp_tips : Stmt := topS 73
abbrev N_lamp_tips : List Str := ["posts", "lamp", "post"]
theorem sc_lamp_tips : FnScope N_lamp_tips ["posts", "lamp"] (defScope s_lamp_tips) := ⟨rfl, rfl, rfl, by decide +kernel, rfl, by decide +kernel, by decide +kernel⟩
abbrev s__span : Stmt := topS 74
abbrev N__span : List Str := ["post", "lamp", "place", "tip"]
theorem sc__span : FnScope N__span ["post", "lamp"] (defScope s__span) := ⟨rfl, rfl, rfl, by decide +kernel, rfl, by decide +kernel, by decide +kernel⟩
abbrev s__dark : Stmt := topS 75
abbrev N__dark : List Str := ["posts", "lamp", "post"]
theorem sc__dark : FnScope N__dark ["posts", "lamp"] (defScope s__dark) := ⟨rfl, rfl, rfl, by decide +kernel, rfl, by decide +kernel, by decide +kernel⟩
abbrev s_dark_of : Stmt := topS 78
abbrev N_dark_of : List Str := ["posts", "lamp"]
theorem sc_dark_of : FnScope N_dark_of ["posts", "lamp"] (defScope s_dark_of) := ⟨rfl, rfl, rfl, by decide +kernel, rfl, by decide +kernel, by decide +kernel⟩
abbrev s_both_dark : Stmt := topS 79
abbrev N_both_dark : List Str := ["posts", "lamp", "other", "spans", "one", "two"]
theorem sc_both_dark : FnScope N_both_dark ["posts", "lamp", "other"] (defScope s_both_dark) := ⟨rfl, rfl, rfl, by decide +kernel, rfl, by decide +kernel, by decide +kernel⟩
abbrev s_lamp_meeting : Stmt := topS 80
abbrev N_lamp_meeting : List Str := ["posts", "one", "other", "height", "first", "second", "own", "more", "rest"]
theorem sc_lamp_meeting : FnScope N_lamp_meeting ["posts", "one", "other", "height"] (defScope s_lamp_meeting) := ⟨rfl, rfl, rfl, by decide +kernel, rfl, by decide +kernel, by decide +kernel⟩
abbrev s_light_from : Stmt := topS 55
abbrev N_light_from : List Str := ["post", "tip"]
theorem sc_light_from : FnScope N_light_from ["post", "tip"] (defScope s_light_from) := ⟨rfl, rfl, rfl, by decide +kernel, rfl, by decide +kernel, by decide +kernel⟩
abbrev s__check_dial : Stmt := topS 64
abbrev N__check_dial : List Str := ["dial", "one", "later"]
theorem sc__check_dial : FnScope N__check_dial ["dial"] (defScope s__check_dial) := ⟨rfl, rfl, rfl, by decide +kernel, rfl, by decide +kernel, by decide +kernel⟩
abbrev s_dial_marks : Stmt := topS 65
abbrev N_dial_marks : List Str := ["place", "height", "dial", "light"]
theorem sc_dial_marks : FnScope N_dial_marks ["place", "height", "dial"] (defScope s_dial_marks) := ⟨rfl, rfl, rfl, by decide +kernel, rfl, by decide +kernel, by decide +kernel⟩
abbrev s_hour_of : Stmt := topS 66
abbrev N_hour_of : List Str := ["place", "height", "dial", "tip", "marks", "mark"]
theorem sc_hour_of : FnScope N_hour_of ["place", "height", "dial", "tip"] (defScope s_hour_of) := ⟨rfl, rfl, rfl, by decide +kernel, rfl, by decide +kernel, by decide +kernel⟩
abbrev s__law_second : Stmt := topS 94
abbrev N__law_second : List Str := ["way", "posts"]
theorem sc__law_second : FnScope N__law_second ["way", "posts"] (defScope s__law_second) := ⟨rfl, rfl, rfl, by decide +kernel, rfl, by decide +kernel, by decide +kernel⟩
abbrev s__law_error : Stmt := topS 95
abbrev N__law_error : List Str := ["way", "posts", "light", "e"]
theorem sc__law_error : FnScope N__law_error ["way", "posts", "light"] (defScope s__law_error) := ⟨rfl, rfl, rfl, by decide +kernel, rfl, by decide +kernel, by decide +kernel⟩
abbrev s__law_plus : Stmt := topS 84
abbrev N__law_plus : List Str := ["one", "two"]
theorem sc__law_plus : FnScope N__law_plus ["one", "two"] (defScope s__law_plus) := ⟨rfl, rfl, rfl, by decide +kernel, rfl, by decide +kernel, by decide +kernel⟩
abbrev s__law_less : Stmt := topS 86
abbrev N__law_less : List Str := ["one", "two"]
theorem sc__law_less : FnScope N__law_less ["one", "two"] (defScope s__law_less) := ⟨rfl, rfl, rfl, by decide +kernel, rfl, by decide +kernel, by decide +kernel⟩
abbrev s__law_by : Stmt := topS 85
abbrev N__law_by : List Str := ["one", "two"]
theorem sc__law_by : FnScope N__law_by ["one", "two"] (defScope s__law_by) := ⟨rfl, rfl, rfl, by decide +kernel, rfl, by decide +kernel, by decide +kernel⟩
abbrev s__law_span : Stmt := topS 89
abbrev N__law_span : List Str := ["post", "light", "place", "tip"]
theorem sc__law_span : FnScope N__law_span ["post", "light"] (defScope s__law_span) := ⟨rfl, rfl, rfl, by decide +kernel, rfl, by decide +kernel, by decide +kernel⟩
abbrev s_law : Stmt := topS 96
abbrev N_law : List Str := ["script", "draws", "turn", "posts", "light", "at", "place", "high", "items", "value", "good", "bad", "item", "way", "post"]
theorem sc_law : FnScope N_law ["script"] (defScope s_law) := ⟨rfl, rfl, rfl, by decide +kernel, rfl, by decide +kernel, by decide +kernel⟩
structure Txt (K : PySem.W.Frag) (mg : Str → Option Value) (C_SandError C_BadPlace C_BadDial C_BadPosts C_BadLight C_BadPost C_BadLamp C_BadHeight A_LEAST_LIGHT A_MOST_LIGHT A_ZERO A_NEAR A_FAR : Addr) (t_MOST_PLACE t_MOST_POST t_MOST_POSTS t_MOST_NUMBER t_MOST_LAMP t_LEAST_HOURS t_MOST_HOURS : Tok) : Prop where
  b_abs : mg "abs" = none
  b_all : mg "all" = none
  b_any : mg "any" = none
  b_bool : mg "bool" = none
  b_enumerate : mg "enumerate" = none
  b_int : mg "int" = none
  b_isinstance : mg "isinstance" = none
  b_len : mg "len" = none
  b_list : mg "list" = none
  b_max : mg "max" = none
  b_range : mg "range" = none
  b_set : mg "set" = none
  b_sorted : mg "sorted" = none
  b_tuple : mg "tuple" = none
  b_zip : mg "zip" = none
  c_MOST_PLACE : mg "MOST_PLACE" = some (.int 1000 t_MOST_PLACE)
  c_MOST_POST : mg "MOST_POST" = some (.int 1000 t_MOST_POST)
  c_MOST_POSTS : mg "MOST_POSTS" = some (.int 8 t_MOST_POSTS)
  c_MOST_NUMBER : mg "MOST_NUMBER" = some (.int 1000000 t_MOST_NUMBER)
  c_MOST_LAMP : mg "MOST_LAMP" = some (.int 2000 t_MOST_LAMP)
  c_LEAST_HOURS : mg "LEAST_HOURS" = some (.int 2 t_LEAST_HOURS)
  c_MOST_HOURS : mg "MOST_HOURS" = some (.int 24 t_MOST_HOURS)
  c_LEAST_LIGHT : mg "LEAST_LIGHT" = some (.ref A_LEAST_LIGHT) ∧ gD K 1 (.ref A_LEAST_LIGHT) (.tuple [.int (-100), .int 1]) = true
  c_MOST_LIGHT : mg "MOST_LIGHT" = some (.ref A_MOST_LIGHT) ∧ gD K 1 (.ref A_MOST_LIGHT) (.tuple [.int 100, .int 1]) = true
  c_ZERO : mg "ZERO" = some (.ref A_ZERO) ∧ gD K 1 (.ref A_ZERO) (.tuple [.int 0, .int 1]) = true
  c_NEAR : mg "NEAR" = some (.ref A_NEAR) ∧ gD K 1 (.ref A_NEAR) (.tuple [.int (-1000000000000), .int 1]) = true
  c_FAR : mg "FAR" = some (.ref A_FAR) ∧ gD K 1 (.ref A_FAR) (.tuple [.int 1000000000000, .int 1]) = true
  x_SandError : ExcF K mg "SandError" C_SandError
  x_BadPlace : ExcF K mg "BadPlace" C_BadPlace
  x_BadDial : ExcF K mg "BadDial" C_BadDial
  x_BadPosts : ExcF K mg "BadPosts" C_BadPosts
  x_BadLight : ExcF K mg "BadLight" C_BadLight
  x_BadPost : ExcF K mg "BadPost" C_BadPost
  x_BadLamp : ExcF K mg "BadLamp" C_BadLamp
  x_BadHeight : ExcF K mg "BadHeight" C_BadHeight
  h_SandError : HF K mg (.ref C_SandError) errs ["BadPlace", "BadDial", "BadPosts", "BadLight", "BadPost", "BadLamp", "BadHeight"]
  h_BadPosts : HF K mg (.ref C_BadPosts) errs ["BadPosts"]
  h_BadLight : HF K mg (.ref C_BadLight) errs ["BadLight"]
  h_BadPost : HF K mg (.ref C_BadPost) errs ["BadPost"]
  i_BadPlace : IsF K mg C_BadPlace errs ["BadPlace"]
section
variable {P : Program} {w : World} {K : PySem.W.Frag} {mg : Str → Option Value} {base : Heap} {C_SandError C_BadPlace C_BadDial C_BadPosts C_BadLight C_BadPost C_BadLamp C_BadHeight A_LEAST_LIGHT A_MOST_LIGHT A_ZERO A_NEAR A_FAR : Addr} {t_MOST_PLACE t_MOST_POST t_MOST_POSTS t_MOST_NUMBER t_MOST_LAMP t_LEAST_HOURS t_MOST_HOURS : Tok}
theorem ok__law_draws {f : Addr} {fd : FuncData} (T : Txt K mg C_SandError C_BadPlace C_BadDial C_BadPosts C_BadLight C_BadPost C_BadLamp C_BadHeight A_LEAST_LIGHT A_MOST_LIGHT A_ZERO A_NEAR A_FAR t_MOST_PLACE t_MOST_POST t_MOST_POSTS t_MOST_NUMBER t_MOST_LAMP t_LEAST_HOURS t_MOST_HOURS) (Fn : Fun K "_law_draws" "_law_draws" s__law_draws f fd) : FnOk P w K mg base (L2.CX P w) 1 f fd ["script", "many"] (spD K mg 2 f__law_draws) :=
  fn_okD (k := 0) (g := c__law_draws) rfl rfl rfl Fn sc__law_draws fun cdv A outer s H E hr tk hp =>
  (dss_cons (ds_asg (i := 2) sc__law_draws.nd rfl (by first | exact Or.inl rfl | exact Or.inr rfl) (DN.x (dn_lst da_nil)))
  (dss_cons (ds_asg (i := 3) sc__law_draws.nd rfl (by first | exact Or.inl rfl | exact Or.inr rfl) (DE.x de_int))
  (dss_cons (ds_for hp rfl (di_seq (de_sl (db_var 0) do_none (do_some de_int))) (dg_name (i := 4) sc__law_draws.nd rfl (by first | exact Or.inl rfl | exact Or.inr rfl)) (dss_cons (ds_asg (i := 5) sc__law_draws.nd rfl (by first | exact Or.inl rfl | exact Or.inr rfl) (DE.x (de_callB rc_abs call_abs (by rfl) T.b_abs bt_abs (dab_cons (db_var 4) dab_nil))))
  (dss_cons (ds_asg (i := 3) sc__law_draws.nd rfl (by first | exact Or.inl rfl | exact Or.inr rfl) (DE.x (de_op op_mod rd_mod (DE.bor (de_callTy rc_int call_intD (by rfl) T.b_int bt_int (dab_cons (DE.bor (de_op op_addD rd_add (DE.bor (de_op op_addD rd_add (DE.bor (de_op op_mulD rd_mul (db_var 3) (DE.bor de_int))) (db_var 5))) (DE.bor de_int))) dab_nil))) (DE.bor de_int))))
  (dss_one (ds_if (dt_cmp op_ge rd_ge (db_var 5) (DE.bor (de_op op_pow rd_pow (DE.bor de_int) (DE.bor de_int))) (nomark _)) (dss_one (ds_for hp rfl (di_range1 (by rfl) T.b_range (da_cons de_int da_nil)) (dg_name (i := 6) sc__law_draws.nd rfl (by first | exact Or.inl rfl | exact Or.inr rfl)) (dss_one (ds_if (dt_cmp op_gt rd_gt (db_var 5) (DE.bor de_int) (nomark _)) (dss_cons (ds_app (i := 2) rfl (by first | exact Or.inl rfl | exact Or.inr (Or.inl rfl)) (de_op op_mod rd_mod (DE.bor (de_callTy rc_int call_intD (by rfl) T.b_int bt_int (dab_cons (db_var 5) dab_nil))) (DE.bor de_int)))
  (dss_one (ds_asg (i := 5) sc__law_draws.nd rfl (by first | exact Or.inl rfl | exact Or.inr rfl) (DE.x (de_op op_fdivW rd_div (db_var 5) (DE.bor de_int)))))) dss_nil)))) (dss_one (ds_app (i := 2) rfl (by first | exact Or.inl rfl | exact Or.inr (Or.inl rfl)) (de_op op_mod rd_mod (DE.bor (de_op op_fdivW rd_div (DE.bor (de_callTy rc_int call_intD (by rfl) T.b_int bt_int (dab_cons (DE.bor (de_op op_addD rd_add (DE.bor (de_op op_mulD rd_mul (db_var 3) (DE.bor de_int))) (DE.bor de_int))) dab_nil))) (DE.bor de_int))) (DE.bor de_int)))))))))
  (dss_cons (ds_for hp rfl (di_range1 (by rfl) T.b_range (da_cons (de_var 1) da_nil)) (dg_name (i := 6) sc__law_draws.nd rfl (by first | exact Or.inl rfl | exact Or.inr rfl)) (dss_one (ds_if (dt_cmp op_ltD rd_lt (DE.bor (de_callB rc_len call_len (by rfl) T.b_len bt_len (dab_cons (db_var 2) dab_nil))) (db_var 1) (nomark _)) (dss_cons (ds_asg (i := 3) sc__law_draws.nd rfl (by first | exact Or.inl rfl | exact Or.inr rfl) (DE.x (de_op op_mod rd_mod (DE.bor (de_callTy rc_int call_intD (by rfl) T.b_int bt_int (dab_cons (DE.bor (de_op op_addD rd_add (DE.bor (de_op op_addD rd_add (DE.bor (de_op op_mulD rd_mul (db_var 3) (DE.bor de_int))) (db_var 6))) (DE.bor de_int))) dab_nil))) (DE.bor de_int))))
  (dss_one (ds_app (i := 2) rfl (by first | exact Or.inl rfl | exact Or.inr (Or.inl rfl)) (de_op op_mod rd_mod (DE.bor (de_op op_fdivW rd_div (DE.bor (de_callTy rc_int call_intD (by rfl) T.b_int bt_int (dab_cons (db_var 3) dab_nil))) (DE.bor de_int))) (DE.bor de_int))))) dss_nil)))
  (dss_one (ds_ret (de_sl (db_var 2) do_none (do_some (de_var 1)))))))))
theorem ok__law_posts {f : Addr} {fd : FuncData} (T : Txt K mg C_SandError C_BadPlace C_BadDial C_BadPosts C_BadLight C_BadPost C_BadLamp C_BadHeight A_LEAST_LIGHT A_MOST_LIGHT A_ZERO A_NEAR A_FAR t_MOST_PLACE t_MOST_POST t_MOST_POSTS t_MOST_NUMBER t_MOST_LAMP t_LEAST_HOURS t_MOST_HOURS) (Fn : Fun K "_law_posts" "_law_posts" s__law_posts f fd) : FnOk P w K mg base (L2.CX P w) 1 f fd ["draws", "many"] (spD K mg 2 f__law_posts) :=
  fn_okD (k := 0) (g := c__law_posts) rfl rfl rfl Fn sc__law_posts fun cdv A outer s H E hr tk hp =>
  (dss_cons (ds_asg (i := 2) sc__law_posts.nd rfl (by first | exact Or.inl rfl | exact Or.inr rfl) dx_dic)
  (dss_cons (ds_for hp rfl (di_range1 (by rfl) T.b_range (da_cons (de_op op_addD rd_add (DE.bor de_int) (DE.bor (de_op op_mod rd_mod (DE.bor (de_callTy rc_int call_intD (by rfl) T.b_int bt_int (dab_cons (DE.bor (de_ix (ixA (room1 hr)) rd_ixA (db_var 0) (DE.bor de_int))) dab_nil))) (db_var 1)))) da_nil)) (dg_name (i := 3) sc__law_posts.nd rfl (by first | exact Or.inl rfl | exact Or.inr rfl)) (dss_cons (ds_asg (i := 4) sc__law_posts.nd rfl (by first | exact Or.inl rfl | exact Or.inr rfl) (DE.x (de_callTy rc_int call_intD (by rfl) T.b_int bt_int (dab_cons (DE.bor (de_ix (ixA (room1 hr)) rd_ixA (db_var 0) (DE.bor (de_op op_addD rd_add (DE.bor de_int) (db_var 3))))) dab_nil))))
  (dss_one (ds_put (i := 2) (room1 hr) rfl (by first | exact Or.inl rfl | exact Or.inr (Or.inl rfl)) (de_op op_addD rd_add (DE.bor de_int) (DE.bor (de_op op_mod rd_mod (DE.bor (de_op op_fdivW rd_div (db_var 4) (DE.bor de_int))) (DE.bor de_int)))) (de_op op_mod rd_mod (db_var 4) (DE.bor de_int))))))
  (dss_one (ds_ret (de_callTy rc_tuple call_tuple_of (by rfl) T.b_tuple bt_tuple (dab_cons (DE.bor (DN.val (dn_lc rfl sc__law_posts.nd (dib_seq (DE.bor (de_callB rc_sortedB (cr_sortedB rfl) (by rfl) T.b_sorted bt_sorted (dab_cons (db_var 2) dab_nil)))) (blkOk_by (N := N__law_posts) (sc := defScope s__law_posts) (own := [("place", 5)]) (by decide +kernel)) (fun _ _ _ _ _ => (dg_name (i := 5) sc__law_posts.nd rfl (by first | exact Or.inl rfl | exact Or.inr rfl))) (fun _ _ _ _ _ => dts_nil) (fun _ _ _ _ _ => (de_tup (da_cons (de_var 5) (da_cons (de_ix (ixA (room1 hr)) rd_ixA (db_var 2) (db_var 5)) da_nil)))) rfl (by decide)))) dab_nil))))))
theorem ok__law_plain {f : Addr} {fd : FuncData} (T : Txt K mg C_SandError C_BadPlace C_BadDial C_BadPosts C_BadLight C_BadPost C_BadLamp C_BadHeight A_LEAST_LIGHT A_MOST_LIGHT A_ZERO A_NEAR A_FAR t_MOST_PLACE t_MOST_POST t_MOST_POSTS t_MOST_NUMBER t_MOST_LAMP t_LEAST_HOURS t_MOST_HOURS) (Fn : Fun K "_law_plain" "_law_plain" s__law_plain f fd) : FnOk P w K mg base (L2.CX P w) 1 f fd ["up", "down"] (spD K mg 2 f__law_plain) :=
  fn_okD (k := 0) (g := c__law_plain) rfl rfl rfl Fn sc__law_plain fun cdv A outer s H E hr tk hp =>
  (dss_cons (ds_par (i := 2) (j := 3) rfl sc__law_plain.nd rfl rfl (by decide) rfl rfl (DE.x (de_callB rc_max2 (call_max2 rfl) (by rfl) T.b_max bt_max (dab_cons (db_var 0) (dab_cons (DE.bor (de_op op_sub rd_sub (DE.bor de_int) (db_var 0))) dab_nil)))) (DE.x (de_callB rc_max2 (call_max2 rfl) (by rfl) T.b_max bt_max (dab_cons (db_var 1) (dab_cons (DE.bor (de_op op_sub rd_sub (DE.bor de_int) (db_var 1))) dab_nil)))) rfl)
  (dss_cons (ds_while hp (dt_cmp op_gt rd_gt (db_var 3) (DE.bor de_int) (nomark _)) (dss_one (ds_par (i := 2) (j := 3) rfl sc__law_plain.nd rfl rfl (by decide) rfl rfl (DE.x (de_var 3)) (DE.x (de_op op_mod rd_mod (DE.bor (de_callTy rc_int call_intD (by rfl) T.b_int bt_int (dab_cons (db_var 2) dab_nil))) (db_var 3))) rfl)))
  (dss_one (ds_ret (de_if (dt_cmp op_gt rd_gt (db_var 1) (DE.bor de_int) (nomark _)) (de_tup (da_cons (de_op op_fdivW rd_div (db_var 0) (db_var 2)) (da_cons (de_op op_fdivW rd_div (db_var 1) (db_var 2)) da_nil))) (de_tup (da_cons (de_op op_sub rd_sub (DE.bor de_int) (DE.bor (de_op op_fdivW rd_div (db_var 0) (db_var 2)))) (da_cons (de_op op_sub rd_sub (DE.bor de_int) (DE.bor (de_op op_fdivW rd_div (db_var 1) (db_var 2)))) da_nil))))))))
theorem ok__law_light {f : Addr} {fd : FuncData} (T : Txt K mg C_SandError C_BadPlace C_BadDial C_BadPosts C_BadLight C_BadPost C_BadLamp C_BadHeight A_LEAST_LIGHT A_MOST_LIGHT A_ZERO A_NEAR A_FAR t_MOST_PLACE t_MOST_POST t_MOST_POSTS t_MOST_NUMBER t_MOST_LAMP t_LEAST_HOURS t_MOST_HOURS) (Fn : Fun K "_law_light" "_law_light" s__law_light f fd) (k__law_plain : Callee P w K mg base 1 "_law_plain" 2 f__law_plain) : FnOk P w K mg base (L2.CX P w) 2 f fd ["draw"] (spD K mg 1 f__law_light) :=
  fn_okD (k := 1) (g := c__law_light) rfl rfl rfl Fn sc__law_light fun cdv A outer s H E hr tk hp =>
  (dss_one (ds_ret (de_call k__law_plain hr (by decide) (by rfl) tk (da_cons (de_op op_sub rd_sub (DE.bor (de_op op_mod rd_mod (db_var 0) (DE.bor de_int))) (DE.bor de_int)) (da_cons (de_op op_addD rd_add (DE.bor de_int) (DE.bor (de_op op_mod rd_mod (DE.bor (de_op op_fdivW rd_div (db_var 0) (DE.bor de_int))) (DE.bor de_int)))) da_nil)))))
theorem ok_ascends {f : Addr} {fd : FuncData} (T : Txt K mg C_SandError C_BadPlace C_BadDial C_BadPosts C_BadLight C_BadPost C_BadLamp C_BadHeight A_LEAST_LIGHT A_MOST_LIGHT A_ZERO A_NEAR A_FAR t_MOST_PLACE t_MOST_POST t_MOST_POSTS t_MOST_NUMBER t_MOST_LAMP t_LEAST_HOURS t_MOST_HOURS) (Fn : Fun K "ascends" "ascends" s_ascends f fd) : FnOk P w K mg base (L2.CX P w) 1 f fd ["values"] (spD K mg 1 f_ascends) :=
  fn_okD (k := 0) (g := c_ascends) rfl rfl rfl Fn sc_ascends fun cdv A outer s H E hr tk hp =>
  (dss_one (ds_ret (de_callB rc_all (cr_all rfl) (by rfl) T.b_all bt_all (dab_cons (DE.bor (DN.val (dn_lc rfl sc_ascends.nd (dib_zip (by rfl) T.b_zip (dab_cons (db_var 0) (dab_cons (DE.bor (de_sl (db_var 0) (do_some de_int) do_none)) dab_nil))) (blkOk_by (N := N_ascends) (sc := defScope s_ascends) (own := [("one", 1), ("later", 2)]) (by decide +kernel)) (fun _ _ _ _ _ => (dg_tup rfl (dgs_cons (dg_name (i := 1) sc_ascends.nd rfl (by first | exact Or.inl rfl | exact Or.inr rfl)) (dgs_cons (dg_name (i := 2) sc_ascends.nd rfl (by first | exact Or.inl rfl | exact Or.inr rfl)) dgs_nil)) (sCons_len (sCons_len sNil_len)))) (fun _ _ _ _ _ => dts_nil) (fun _ _ _ _ _ => (de_cmp op_ltD rd_lt (db_var 1) (db_var 2) (nomark _))) rfl (by decide)))) dab_nil))))
theorem ok_is_whole {f : Addr} {fd : FuncData} (T : Txt K mg C_SandError C_BadPlace C_BadDial C_BadPosts C_BadLight C_BadPost C_BadLamp C_BadHeight A_LEAST_LIGHT A_MOST_LIGHT A_ZERO A_NEAR A_FAR t_MOST_PLACE t_MOST_POST t_MOST_POSTS t_MOST_NUMBER t_MOST_LAMP t_LEAST_HOURS t_MOST_HOURS) (Fn : Fun K "is_whole" "is_whole" s_is_whole f fd) : FnOk P w K mg base (L2.CX P w) 1 f fd ["value", "least", "most"] (spD K mg 3 f_is_whole) :=
  fn_okD (k := 0) (g := c_is_whole) rfl rfl rfl Fn sc_is_whole fun cdv A outer s H E hr tk hp =>
  (dss_one (ds_ret (de_and (de_isinst is_int (by rfl) T.b_isinstance (by rfl) T.b_int (db_var 0)) (de_and (de_not (de_isinst is_bool (by rfl) T.b_isinstance (by rfl) T.b_bool (db_var 0))) (de_one (de_chain op_le rd_le op_le rd_le (db_var 1) (db_var 0) (db_var 2)))))))
theorem ok_is_post {f : Addr} {fd : FuncData} (T : Txt K mg C_SandError C_BadPlace C_BadDial C_BadPosts C_BadLight C_BadPost C_BadLamp C_BadHeight A_LEAST_LIGHT A_MOST_LIGHT A_ZERO A_NEAR A_FAR t_MOST_PLACE t_MOST_POST t_MOST_POSTS t_MOST_NUMBER t_MOST_LAMP t_LEAST_HOURS t_MOST_HOURS) (Fn : Fun K "is_post" "is_post" s_is_post f fd) (k_is_whole : Callee P w K mg base 1 "is_whole" 3 f_is_whole) : FnOk P w K mg base (L2.CX P w) 2 f fd ["value"] (spD K mg 1 f_is_post) :=
  fn_okD (k := 1) (g := c_is_post) rfl rfl rfl Fn sc_is_post fun cdv A outer s H E hr tk hp =>
  (dss_cons (ds_if (DW.dt (dw_or (dt_not (dt_val (de_isinst is_tuple (by rfl) T.b_isinstance (by rfl) T.b_tuple (db_var 0)))) (dw_or1 (dt_cmp (op_neD (room64 hr)) rd_ne (DE.bor (de_callB rc_len call_len (by rfl) T.b_len bt_len (dab_cons (db_var 0) dab_nil))) (DE.bor de_int) (nomark _))))) (dss_one (ds_ret de_bl)) dss_nil)
  (dss_one (ds_ret (de_and (de_call k_is_whole hr (by decide) (by rfl) tk (da_cons (de_ix (ixA (room1 hr)) rd_ixA (db_var 0) (DE.bor de_int)) (da_cons de_int (da_cons (de_gint (by rfl) T.c_MOST_PLACE) da_nil)))) (de_one (de_call k_is_whole hr (by decide) (by rfl) tk (da_cons (de_ix (ixA (room1 hr)) rd_ixA (db_var 0) (DE.bor de_int)) (da_cons de_int (da_cons (de_gint (by rfl) T.c_MOST_POST) da_nil)))))))))
theorem ok_are_posts {f : Addr} {fd : FuncData} (T : Txt K mg C_SandError C_BadPlace C_BadDial C_BadPosts C_BadLight C_BadPost C_BadLamp C_BadHeight A_LEAST_LIGHT A_MOST_LIGHT A_ZERO A_NEAR A_FAR t_MOST_PLACE t_MOST_POST t_MOST_POSTS t_MOST_NUMBER t_MOST_LAMP t_LEAST_HOURS t_MOST_HOURS) (Fn : Fun K "are_posts" "are_posts" s_are_posts f fd) (k_is_post : Callee P w K mg base 2 "is_post" 1 f_is_post) (k_ascends : Callee P w K mg base 1 "ascends" 1 f_ascends) : FnOk P w K mg base (L2.CX P w) 3 f fd ["value"] (spD K mg 1 f_are_posts) :=
  fn_okD (k := 2) (g := c_are_posts) rfl rfl rfl Fn sc_are_posts fun cdv A outer s H E hr tk hp =>
  (dss_cons (ds_if (DW.dt (dw_or (dt_not (dt_val (de_isinst is_tuple (by rfl) T.b_isinstance (by rfl) T.b_tuple (db_var 0)))) (dw_or (dt_not (dt_chain op_le rd_le op_le rd_le (DE.bor de_int) (DE.bor (de_callB rc_len call_len (by rfl) T.b_len bt_len (dab_cons (db_var 0) dab_nil))) (DE.bor (de_gint (by rfl) T.c_MOST_POSTS)))) (dw_or1 (dt_not (dt_val (de_callB rc_all (cr_all rfl) (by rfl) T.b_all bt_all (dab_cons (DE.bor (DN.val (dn_lc rfl sc_are_posts.nd (dib_seq (db_var 0)) (blkOk_by (N := N_are_posts) (sc := defScope s_are_posts) (own := [("one", 1)]) (by decide +kernel)) (fun _ _ _ _ _ => (dg_name (i := 1) sc_are_posts.nd rfl (by first | exact Or.inl rfl | exact Or.inr rfl))) (fun _ _ _ _ _ => dts_nil) (fun _ _ _ _ _ => (de_call k_is_post hr (by decide) (by rfl) takes0 (da_cons (de_var 1) da_nil))) rfl (by decide)))) dab_nil)))))))) (dss_one (ds_ret de_bl)) dss_nil)
  (dss_one (ds_ret (de_call k_ascends hr (by decide) (by rfl) tk (da_cons (DN.val (dn_lc rfl sc_are_posts.nd (dib_seq (db_var 0)) (blkOk_by (N := N_are_posts) (sc := defScope s_are_posts) (own := [("one", 1)]) (by decide +kernel)) (fun _ _ _ _ _ => (dg_name (i := 1) sc_are_posts.nd rfl (by first | exact Or.inl rfl | exact Or.inr rfl))) (fun _ _ _ _ _ => dts_nil) (fun _ _ _ _ _ => (de_ix (ixA (room1 hr)) rd_ixA (db_var 1) (DE.bor de_int))) rfl (by decide))) da_nil)))))
theorem ok_check_posts {f : Addr} {fd : FuncData} (T : Txt K mg C_SandError C_BadPlace C_BadDial C_BadPosts C_BadLight C_BadPost C_BadLamp C_BadHeight A_LEAST_LIGHT A_MOST_LIGHT A_ZERO A_NEAR A_FAR t_MOST_PLACE t_MOST_POST t_MOST_POSTS t_MOST_NUMBER t_MOST_LAMP t_LEAST_HOURS t_MOST_HOURS) (Fn : Fun K "check_posts" "check_posts" s_check_posts f fd) (k_are_posts : Callee P w K mg base 3 "are_posts" 1 f_are_posts) : FnOk P w K mg base (L2.CX P w) 4 f fd ["posts"] (spD K mg 1 f_check_posts) :=
  fn_okD (k := 3) (g := c_check_posts) rfl rfl rfl Fn sc_check_posts fun cdv A outer s H E hr tk hp =>
  (dss_one (ds_if (dt_not (dt_val (de_call k_are_posts hr (by decide) (by rfl) tk (da_cons (de_var 0) da_nil)))) (dss_one (ds_raise rfl T.x_BadPosts tk (by rfl))) dss_nil))
theorem ok_divisor {f : Addr} {fd : FuncData} (T : Txt K mg C_SandError C_BadPlace C_BadDial C_BadPosts C_BadLight C_BadPost C_BadLamp C_BadHeight A_LEAST_LIGHT A_MOST_LIGHT A_ZERO A_NEAR A_FAR t_MOST_PLACE t_MOST_POST t_MOST_POSTS t_MOST_NUMBER t_MOST_LAMP t_LEAST_HOURS t_MOST_HOURS) (Fn : Fun K "divisor" "divisor" s_divisor f fd) : FnOk P w K mg base (L2.CX P w) 1 f fd ["one", "other"] (spD K mg 2 f_divisor) :=
  fn_okD (k := 0) (g := c_divisor) rfl rfl rfl Fn sc_divisor fun cdv A outer s H E hr tk hp =>
  (dss_cons (ds_par (i := 0) (j := 1) rfl sc_divisor.nd rfl rfl (by decide) rfl rfl (DE.x (de_callB rc_abs call_abs (by rfl) T.b_abs bt_abs (dab_cons (db_var 0) dab_nil))) (DE.x (de_callB rc_abs call_abs (by rfl) T.b_abs bt_abs (dab_cons (db_var 1) dab_nil))) rfl)
  (dss_cons (ds_while hp (dt_cmp op_gt rd_gt (db_var 1) (DE.bor de_int) (nomark _)) (dss_one (ds_par (i := 0) (j := 1) rfl sc_divisor.nd rfl rfl (by decide) rfl rfl (DE.x (de_var 1)) (DE.x (de_op op_mod rd_mod (db_var 0) (db_var 1))) rfl)))
  (dss_one (ds_ret (de_var 0)))))
theorem ok_is_ratio {f : Addr} {fd : FuncData} (T : Txt K mg C_SandError C_BadPlace C_BadDial C_BadPosts C_BadLight C_BadPost C_BadLamp C_BadHeight A_LEAST_LIGHT A_MOST_LIGHT A_ZERO A_NEAR A_FAR t_MOST_PLACE t_MOST_POST t_MOST_POSTS t_MOST_NUMBER t_MOST_LAMP t_LEAST_HOURS t_MOST_HOURS) (Fn : Fun K "is_ratio" "is_ratio" s_is_ratio f fd) (k_divisor : Callee P w K mg base 1 "divisor" 2 f_divisor) : FnOk P w K mg base (L2.CX P w) 2 f fd ["value"] (spD K mg 1 f_is_ratio) :=
  fn_okD (k := 1) (g := c_is_ratio) rfl rfl rfl Fn sc_is_ratio fun cdv A outer s H E hr tk hp =>
  (dss_cons (ds_if (DW.dt (dw_or (dt_not (dt_val (de_isinst is_tuple (by rfl) T.b_isinstance (by rfl) T.b_tuple (db_var 0)))) (dw_or1 (dt_cmp (op_neD (room64 hr)) rd_ne (DE.bor (de_callB rc_len call_len (by rfl) T.b_len bt_len (dab_cons (db_var 0) dab_nil))) (DE.bor de_int) (nomark _))))) (dss_one (ds_ret de_bl)) dss_nil)
  (dss_cons (ds_if (dt_not (dt_val (de_callB rc_all (cr_all rfl) (by rfl) T.b_all bt_all (dab_cons (DE.bor (DN.val (dn_lc rfl sc_is_ratio.nd (dib_seq (db_var 0)) (blkOk_by (N := N_is_ratio) (sc := defScope s_is_ratio) (own := [("one", 1)]) (by decide +kernel)) (fun _ _ _ _ _ => (dg_name (i := 1) sc_is_ratio.nd rfl (by first | exact Or.inl rfl | exact Or.inr rfl))) (fun _ _ _ _ _ => dts_nil) (fun _ _ _ _ _ => (de_and (de_isinst is_int (by rfl) T.b_isinstance (by rfl) T.b_int (db_var 1)) (de_one (de_not (de_isinst is_bool (by rfl) T.b_isinstance (by rfl) T.b_bool (db_var 1)))))) rfl (by decide)))) dab_nil)))) (dss_one (ds_ret de_bl)) dss_nil)
  (dss_one (ds_ret (de_and (de_cmp op_gt rd_gt (DE.bor (de_ix (ixA (room1 hr)) rd_ixA (db_var 0) (DE.bor de_int))) (DE.bor de_int) (nomark _)) (de_one (de_cmp (op_eqD (room64 hr)) rd_eq (DE.bor (de_call k_divisor hr (by decide) (by rfl) tk (da_cons (de_ix (ixA (room1 hr)) rd_ixA (db_var 0) (DE.bor de_int)) (da_cons (de_ix (ixA (room1 hr)) rd_ixA (db_var 0) (DE.bor de_int)) da_nil)))) (DE.bor de_int) (nomark _))))))))
theorem ok_is_small {f : Addr} {fd : FuncData} (T : Txt K mg C_SandError C_BadPlace C_BadDial C_BadPosts C_BadLight C_BadPost C_BadLamp C_BadHeight A_LEAST_LIGHT A_MOST_LIGHT A_ZERO A_NEAR A_FAR t_MOST_PLACE t_MOST_POST t_MOST_POSTS t_MOST_NUMBER t_MOST_LAMP t_LEAST_HOURS t_MOST_HOURS) (Fn : Fun K "is_small" "is_small" s_is_small f fd) (k_is_ratio : Callee P w K mg base 2 "is_ratio" 1 f_is_ratio) (k_is_whole : Callee P w K mg base 1 "is_whole" 3 f_is_whole) : FnOk P w K mg base (L2.CX P w) 3 f fd ["value"] (spD K mg 1 f_is_small) :=
  fn_okD (k := 2) (g := c_is_small) rfl rfl rfl Fn sc_is_small fun cdv A outer s H E hr tk hp =>
  (dss_one (ds_ret (de_and (de_call k_is_ratio hr (by decide) (by rfl) tk (da_cons (de_var 0) da_nil)) (de_and (de_call k_is_whole hr (by decide) (by rfl) tk (da_cons (de_ix (ixA (room1 hr)) rd_ixA (db_var 0) (DE.bor de_int)) (da_cons (de_op op_sub rd_sub (DE.bor de_int) (DE.bor (de_gint (by rfl) T.c_MOST_NUMBER))) (da_cons (de_gint (by rfl) T.c_MOST_NUMBER) da_nil)))) (de_one (de_cmp op_le rd_le (DE.bor (de_ix (ixA (room1 hr)) rd_ixA (db_var 0) (DE.bor de_int))) (DE.bor (de_gint (by rfl) T.c_MOST_NUMBER)) (nomark _)))))))
theorem ok_is_less {f : Addr} {fd : FuncData} (T : Txt K mg C_SandError C_BadPlace C_BadDial C_BadPosts C_BadLight C_BadPost C_BadLamp C_BadHeight A_LEAST_LIGHT A_MOST_LIGHT A_ZERO A_NEAR A_FAR t_MOST_PLACE t_MOST_POST t_MOST_POSTS t_MOST_NUMBER t_MOST_LAMP t_LEAST_HOURS t_MOST_HOURS) (Fn : Fun K "is_less" "is_less" s_is_less f fd) : FnOk P w K mg base (L2.CX P w) 1 f fd ["one", "other"] (spD K mg 2 f_is_less) :=
  fn_okD (k := 0) (g := c_is_less) rfl rfl rfl Fn sc_is_less fun cdv A outer s H E hr tk hp =>
  (dss_one (ds_ret (de_cmp op_ltD rd_lt (DE.bor (de_op op_mulD rd_mul (DE.bor (de_ix (ixA (room1 hr)) rd_ixA (db_var 0) (DE.bor de_int))) (DE.bor (de_ix (ixA (room1 hr)) rd_ixA (db_var 1) (DE.bor de_int))))) (DE.bor (de_op op_mulD rd_mul (DE.bor (de_ix (ixA (room1 hr)) rd_ixA (db_var 1) (DE.bor de_int))) (DE.bor (de_ix (ixA (room1 hr)) rd_ixA (db_var 0) (DE.bor de_int))))) (nomark _))))
theorem ok_is_light {f : Addr} {fd : FuncData} (T : Txt K mg C_SandError C_BadPlace C_BadDial C_BadPosts C_BadLight C_BadPost C_BadLamp C_BadHeight A_LEAST_LIGHT A_MOST_LIGHT A_ZERO A_NEAR A_FAR t_MOST_PLACE t_MOST_POST t_MOST_POSTS t_MOST_NUMBER t_MOST_LAMP t_LEAST_HOURS t_MOST_HOURS) (Fn : Fun K "is_light" "is_light" s_is_light f fd) (k_is_small : Callee P w K mg base 3 "is_small" 1 f_is_small) (k_is_less : Callee P w K mg base 1 "is_less" 2 f_is_less) : FnOk P w K mg base (L2.CX P w) 4 f fd ["value"] (spD K mg 1 f_is_light) :=
  fn_okD (k := 3) (g := c_is_light) rfl rfl rfl Fn sc_is_light fun cdv A outer s H E hr tk hp =>
  (dss_one (ds_ret (de_and (de_call k_is_small hr (by decide) (by rfl) tk (da_cons (de_var 0) da_nil)) (de_and (de_not (de_call k_is_less hr (by decide) (by rfl) tk (da_cons (de_var 0) (da_cons (de_gd (by rfl) T.c_LEAST_LIGHT.1 T.c_LEAST_LIGHT.2) da_nil)))) (de_one (de_not (de_call k_is_less hr (by decide) (by rfl) tk (da_cons (de_gd (by rfl) T.c_MOST_LIGHT.1 T.c_MOST_LIGHT.2) (da_cons (de_var 0) da_nil)))))))))
theorem ok__check {f : Addr} {fd : FuncData} (T : Txt K mg C_SandError C_BadPlace C_BadDial C_BadPosts C_BadLight C_BadPost C_BadLamp C_BadHeight A_LEAST_LIGHT A_MOST_LIGHT A_ZERO A_NEAR A_FAR t_MOST_PLACE t_MOST_POST t_MOST_POSTS t_MOST_NUMBER t_MOST_LAMP t_LEAST_HOURS t_MOST_HOURS) (Fn : Fun K "_check" "_check" s__check f fd) (k_check_posts : Callee P w K mg base 4 "check_posts" 1 f_check_posts) (k_is_light : Callee P w K mg base 4 "is_light" 1 f_is_light) : FnOk P w K mg base (L2.CX P w) 5 f fd ["posts", "light"] (spD K mg 2 f__check) :=
  fn_okD (k := 4) (g := c__check) rfl rfl rfl Fn sc__check fun cdv A outer s H E hr tk hp =>
  (dss_cons (ds_drop (de_call k_check_posts hr (by decide) (by rfl) tk (da_cons (de_var 0) da_nil)))
  (dss_one (ds_if (dt_not (dt_val (de_call k_is_light hr (by decide) (by rfl) tk (da_cons (de_var 1) da_nil)))) (dss_one (ds_raise rfl T.x_BadLight tk (by rfl))) dss_nil)))
theorem ok_ratio {f : Addr} {fd : FuncData} (T : Txt K mg C_SandError C_BadPlace C_BadDial C_BadPosts C_BadLight C_BadPost C_BadLamp C_BadHeight A_LEAST_LIGHT A_MOST_LIGHT A_ZERO A_NEAR A_FAR t_MOST_PLACE t_MOST_POST t_MOST_POSTS t_MOST_NUMBER t_MOST_LAMP t_LEAST_HOURS t_MOST_HOURS) (Fn : Fun K "ratio" "ratio" s_ratio f fd) (k_divisor : Callee P w K mg base 1 "divisor" 2 f_divisor) : FnOk P w K mg base (L2.CX P w) 2 f fd ["up", "down"] (spD K mg 2 f_ratio) :=
  fn_okD (k := 1) (g := c_ratio) rfl rfl rfl Fn sc_ratio fun cdv A outer s H E hr tk hp =>
  (dss_cons (ds_asg (i := 2) sc_ratio.nd rfl (by first | exact Or.inl rfl | exact Or.inr rfl) (DE.x (de_call k_divisor hr (by decide) (by rfl) tk (da_cons (de_var 0) (da_cons (de_var 1) da_nil)))))
  (dss_one (ds_ret (de_if (dt_cmp op_gt rd_gt (db_var 1) (DE.bor de_int) (nomark _)) (de_tup (da_cons (de_op op_fdivW rd_div (db_var 0) (db_var 2)) (da_cons (de_op op_fdivW rd_div (db_var 1) (db_var 2)) da_nil))) (de_tup (da_cons (de_op op_sub rd_sub (DE.bor de_int) (DE.bor (de_op op_fdivW rd_div (db_var 0) (db_var 2)))) (da_cons (de_op op_sub rd_sub (DE.bor de_int) (DE.bor (de_op op_fdivW rd_div (db_var 1) (db_var 2)))) da_nil)))))))
theorem ok_plus {f : Addr} {fd : FuncData} (T : Txt K mg C_SandError C_BadPlace C_BadDial C_BadPosts C_BadLight C_BadPost C_BadLamp C_BadHeight A_LEAST_LIGHT A_MOST_LIGHT A_ZERO A_NEAR A_FAR t_MOST_PLACE t_MOST_POST t_MOST_POSTS t_MOST_NUMBER t_MOST_LAMP t_LEAST_HOURS t_MOST_HOURS) (Fn : Fun K "plus" "plus" s_plus f fd) (k_ratio : Callee P w K mg base 2 "ratio" 2 f_ratio) : FnOk P w K mg base (L2.CX P w) 3 f fd ["one", "other"] (spD K mg 2 f_plus) :=
  fn_okD (k := 2) (g := c_plus) rfl rfl rfl Fn sc_plus fun cdv A outer s H E hr tk hp =>
  (dss_one (ds_ret (de_call k_ratio hr (by decide) (by rfl) tk (da_cons (de_op op_addD rd_add (DE.bor (de_op op_mulD rd_mul (DE.bor (de_ix (ixA (room1 hr)) rd_ixA (db_var 0) (DE.bor de_int))) (DE.bor (de_ix (ixA (room1 hr)) rd_ixA (db_var 1) (DE.bor de_int))))) (DE.bor (de_op op_mulD rd_mul (DE.bor (de_ix (ixA (room1 hr)) rd_ixA (db_var 1) (DE.bor de_int))) (DE.bor (de_ix (ixA (room1 hr)) rd_ixA (db_var 0) (DE.bor de_int)))))) (da_cons (de_op op_mulD rd_mul (DE.bor (de_ix (ixA (room1 hr)) rd_ixA (db_var 0) (DE.bor de_int))) (DE.bor (de_ix (ixA (room1 hr)) rd_ixA (db_var 1) (DE.bor de_int)))) da_nil)))))
theorem ok_times {f : Addr} {fd : FuncData} (T : Txt K mg C_SandError C_BadPlace C_BadDial C_BadPosts C_BadLight C_BadPost C_BadLamp C_BadHeight A_LEAST_LIGHT A_MOST_LIGHT A_ZERO A_NEAR A_FAR t_MOST_PLACE t_MOST_POST t_MOST_POSTS t_MOST_NUMBER t_MOST_LAMP t_LEAST_HOURS t_MOST_HOURS) (Fn : Fun K "times" "times" s_times f fd) (k_ratio : Callee P w K mg base 2 "ratio" 2 f_ratio) : FnOk P w K mg base (L2.CX P w) 3 f fd ["one", "other"] (spD K mg 2 f_times) :=
  fn_okD (k := 2) (g := c_times) rfl rfl rfl Fn sc_times fun cdv A outer s H E hr tk hp =>
  (dss_one (ds_ret (de_call k_ratio hr (by decide) (by rfl) tk (da_cons (de_op op_mulD rd_mul (DE.bor (de_ix (ixA (room1 hr)) rd_ixA (db_var 0) (DE.bor de_int))) (DE.bor (de_ix (ixA (room1 hr)) rd_ixA (db_var 1) (DE.bor de_int)))) (da_cons (de_op op_mulD rd_mul (DE.bor (de_ix (ixA (room1 hr)) rd_ixA (db_var 0) (DE.bor de_int))) (DE.bor (de_ix (ixA (room1 hr)) rd_ixA (db_var 1) (DE.bor de_int)))) da_nil)))))
theorem ok_tip_in {f : Addr} {fd : FuncData} (T : Txt K mg C_SandError C_BadPlace C_BadDial C_BadPosts C_BadLight C_BadPost C_BadLamp C_BadHeight A_LEAST_LIGHT A_MOST_LIGHT A_ZERO A_NEAR A_FAR t_MOST_PLACE t_MOST_POST t_MOST_POSTS t_MOST_NUMBER t_MOST_LAMP t_LEAST_HOURS t_MOST_HOURS) (Fn : Fun K "tip_in" "tip_in" s_tip_in f fd) (k_plus : Callee P w K mg base 3 "plus" 2 f_plus) (k_times : Callee P w K mg base 3 "times" 2 f_times) : FnOk P w K mg base (L2.CX P w) 4 f fd ["post", "light"] (spD K mg 2 f_tip_in) :=
  fn_okD (k := 3) (g := c_tip_in) rfl rfl rfl Fn sc_tip_in fun cdv A outer s H E hr tk hp =>
  (dss_one (ds_ret (de_call k_plus hr (by decide) (by rfl) tk (da_cons (de_tup (da_cons (de_ix (ixA (room1 hr)) rd_ixA (db_var 0) (DE.bor de_int)) (da_cons de_int da_nil))) (da_cons (de_call k_times hr (by decide) (by rfl) tk (da_cons (de_tup (da_cons (de_ix (ixA (room1 hr)) rd_ixA (db_var 0) (DE.bor de_int)) (da_cons de_int da_nil))) (da_cons (de_var 1) da_nil))) da_nil)))))
theorem ok_tips_of {f : Addr} {fd : FuncData} (T : Txt K mg C_SandError C_BadPlace C_BadDial C_BadPosts C_BadLight C_BadPost C_BadLamp C_BadHeight A_LEAST_LIGHT A_MOST_LIGHT A_ZERO A_NEAR A_FAR t_MOST_PLACE t_MOST_POST t_MOST_POSTS t_MOST_NUMBER t_MOST_LAMP t_LEAST_HOURS t_MOST_HOURS) (Fn : Fun K "tips_of" "tips_of" s_tips_of f fd) (k__check : Callee P w K mg base 5 "_check" 2 f__check) (k_tip_in : Callee P w K mg base 4 "tip_in" 2 f_tip_in) : FnOk P w K mg base (L2.CX P w) 6 f fd ["posts", "light"] (spD K mg 2 f_tips_of) :=
  fn_okD (k := 5) (g := c_tips_of) rfl rfl rfl Fn sc_tips_of fun cdv A outer s H E hr tk hp =>
  (dss_cons (ds_drop (de_call k__check hr (by decide) (by rfl) tk (da_cons (de_var 0) (da_cons (de_var 1) da_nil))))
  (dss_one (ds_ret (de_callTy rc_tuple call_tuple_of (by rfl) T.b_tuple bt_tuple (dab_cons (DE.bor (DN.val (dn_lc rfl sc_tips_of.nd (dib_seq (db_var 0)) (blkOk_by (N := N_tips_of) (sc := defScope s_tips_of) (own := [("post", 2)]) (by decide +kernel)) (fun _ _ _ _ _ => (dg_name (i := 2) sc_tips_of.nd rfl (by first | exact Or.inl rfl | exact Or.inr rfl))) (fun _ _ _ _ _ => dts_nil) (fun _ _ _ _ _ => (de_call k_tip_in hr (by decide) (by rfl) takes0 (da_cons (de_var 2) (da_cons (de_var 1) da_nil)))) rfl (by decide)))) dab_nil)))))
theorem ok_least {f : Addr} {fd : FuncData} (T : Txt K mg C_SandError C_BadPlace C_BadDial C_BadPosts C_BadLight C_BadPost C_BadLamp C_BadHeight A_LEAST_LIGHT A_MOST_LIGHT A_ZERO A_NEAR A_FAR t_MOST_PLACE t_MOST_POST t_MOST_POSTS t_MOST_NUMBER t_MOST_LAMP t_LEAST_HOURS t_MOST_HOURS) (Fn : Fun K "least" "least" s_least f fd) (k_is_less : Callee P w K mg base 1 "is_less" 2 f_is_less) : FnOk P w K mg base (L2.CX P w) 2 f fd ["one", "other"] (spD K mg 2 f_least) :=
  fn_okD (k := 1) (g := c_least) rfl rfl rfl Fn sc_least fun cdv A outer s H E hr tk hp =>
  (dss_one (ds_ret (de_if (dt_val (de_call k_is_less hr (by decide) (by rfl) tk (da_cons (de_var 1) (da_cons (de_var 0) da_nil)))) (de_var 1) (de_var 0))))
theorem ok_greatest {f : Addr} {fd : FuncData} (T : Txt K mg C_SandError C_BadPlace C_BadDial C_BadPosts C_BadLight C_BadPost C_BadLamp C_BadHeight A_LEAST_LIGHT A_MOST_LIGHT A_ZERO A_NEAR A_FAR t_MOST_PLACE t_MOST_POST t_MOST_POSTS t_MOST_NUMBER t_MOST_LAMP t_LEAST_HOURS t_MOST_HOURS) (Fn : Fun K "greatest" "greatest" s_greatest f fd) (k_is_less : Callee P w K mg base 1 "is_less" 2 f_is_less) : FnOk P w K mg base (L2.CX P w) 2 f fd ["one", "other"] (spD K mg 2 f_greatest) :=
  fn_okD (k := 1) (g := c_greatest) rfl rfl rfl Fn sc_greatest fun cdv A outer s H E hr tk hp =>
  (dss_one (ds_ret (de_if (dt_val (de_call k_is_less hr (by decide) (by rfl) tk (da_cons (de_var 1) (da_cons (de_var 0) da_nil)))) (de_var 0) (de_var 1))))
theorem ok__shadow {f : Addr} {fd : FuncData} (T : Txt K mg C_SandError C_BadPlace C_BadDial C_BadPosts C_BadLight C_BadPost C_BadLamp C_BadHeight A_LEAST_LIGHT A_MOST_LIGHT A_ZERO A_NEAR A_FAR t_MOST_PLACE t_MOST_POST t_MOST_POSTS t_MOST_NUMBER t_MOST_LAMP t_LEAST_HOURS t_MOST_HOURS) (Fn : Fun K "_shadow" "_shadow" s__shadow f fd) (k_tip_in : Callee P w K mg base 4 "tip_in" 2 f_tip_in) (k_least : Callee P w K mg base 2 "least" 2 f_least) (k_greatest : Callee P w K mg base 2 "greatest" 2 f_greatest) : FnOk P w K mg base (L2.CX P w) 5 f fd ["post", "light"] (spD K mg 2 f__shadow) :=
  fn_okD (k := 4) (g := c__shadow) rfl rfl rfl Fn sc__shadow fun cdv A outer s H E hr tk hp =>
  (dss_cons (ds_par (i := 2) (j := 3) rfl sc__shadow.nd rfl rfl (by decide) rfl rfl (DE.x (de_tup (da_cons (de_ix (ixA (room1 hr)) rd_ixA (db_var 0) (DE.bor de_int)) (da_cons de_int da_nil)))) (DE.x (de_call k_tip_in hr (by decide) (by rfl) tk (da_cons (de_var 0) (da_cons (de_var 1) da_nil)))) rfl)
  (dss_one (ds_ret (de_tup (da_cons (de_call k_least hr (by decide) (by rfl) tk (da_cons (de_var 2) (da_cons (de_var 3) da_nil))) (da_cons (de_call k_greatest hr (by decide) (by rfl) tk (da_cons (de_var 2) (da_cons (de_var 3) da_nil))) da_nil))))))
theorem ok_shadows_of {f : Addr} {fd : FuncData} (T : Txt K mg C_SandError C_BadPlace C_BadDial C_BadPosts C_BadLight C_BadPost C_BadLamp C_BadHeight A_LEAST_LIGHT A_MOST_LIGHT A_ZERO A_NEAR A_FAR t_MOST_PLACE t_MOST_POST t_MOST_POSTS t_MOST_NUMBER t_MOST_LAMP t_LEAST_HOURS t_MOST_HOURS) (Fn : Fun K "shadows_of" "shadows_of" s_shadows_of f fd) (k__check : Callee P w K mg base 5 "_check" 2 f__check) (k__shadow : Callee P w K mg base 5 "_shadow" 2 f__shadow) : FnOk P w K mg base (L2.CX P w) 6 f fd ["posts", "light"] (spD K mg 2 f_shadows_of) :=
  fn_okD (k := 5) (g := c_shadows_of) rfl rfl rfl Fn sc_shadows_of fun cdv A outer s H E hr tk hp =>
  (dss_cons (ds_drop (de_call k__check hr (by decide) (by rfl) tk (da_cons (de_var 0) (da_cons (de_var 1) da_nil))))
  (dss_one (ds_ret (de_callTy rc_tuple call_tuple_of (by rfl) T.b_tuple bt_tuple (dab_cons (DE.bor (DN.val (dn_lc rfl sc_shadows_of.nd (dib_seq (db_var 0)) (blkOk_by (N := N_shadows_of) (sc := defScope s_shadows_of) (own := [("post", 2)]) (by decide +kernel)) (fun _ _ _ _ _ => (dg_name (i := 2) sc_shadows_of.nd rfl (by first | exact Or.inl rfl | exact Or.inr rfl))) (fun _ _ _ _ _ => dts_nil) (fun _ _ _ _ _ => (de_call k__shadow hr (by decide) (by rfl) takes0 (da_cons (de_var 2) (da_cons (de_var 1) da_nil)))) rfl (by decide)))) dab_nil)))))
theorem ok__law_is_number {f : Addr} {fd : FuncData} (T : Txt K mg C_SandError C_BadPlace C_BadDial C_BadPosts C_BadLight C_BadPost C_BadLamp C_BadHeight A_LEAST_LIGHT A_MOST_LIGHT A_ZERO A_NEAR A_FAR t_MOST_PLACE t_MOST_POST t_MOST_POSTS t_MOST_NUMBER t_MOST_LAMP t_LEAST_HOURS t_MOST_HOURS) (Fn : Fun K "_law_is_number" "_law_is_number" s__law_is_number f fd) : FnOk P w K mg base (L2.CX P w) 1 f fd ["value"] (spD K mg 1 f__law_is_number) :=
  fn_okD (k := 0) (g := c__law_is_number) rfl rfl rfl Fn sc__law_is_number fun cdv A outer s H E hr tk hp =>
  (dss_one (ds_ret (de_and (de_isinst is_int (by rfl) T.b_isinstance (by rfl) T.b_int (db_var 0)) (de_one (de_not (de_isinst is_bool (by rfl) T.b_isinstance (by rfl) T.b_bool (db_var 0)))))))
theorem ok__law_are_posts {f : Addr} {fd : FuncData} (T : Txt K mg C_SandError C_BadPlace C_BadDial C_BadPosts C_BadLight C_BadPost C_BadLamp C_BadHeight A_LEAST_LIGHT A_MOST_LIGHT A_ZERO A_NEAR A_FAR t_MOST_PLACE t_MOST_POST t_MOST_POSTS t_MOST_NUMBER t_MOST_LAMP t_LEAST_HOURS t_MOST_HOURS) (Fn : Fun K "_law_are_posts" "_law_are_posts" s__law_are_posts f fd) (k__law_is_number : Callee P w K mg base 1 "_law_is_number" 1 f__law_is_number) : FnOk P w K mg base (L2.CX P w) 2 f fd ["value"] (spD K mg 1 f__law_are_posts) :=
  fn_okD (k := 1) (g := c__law_are_posts) rfl rfl rfl Fn sc__law_are_posts fun cdv A outer s H E hr tk hp =>
  (dss_cons (ds_if (DW.dt (dw_or (dt_not (dt_val (de_isinst is_tuple (by rfl) T.b_isinstance (by rfl) T.b_tuple (db_var 0)))) (dw_or1 (dt_not (dt_chain op_le rd_le op_le rd_le (DE.bor de_int) (DE.bor (de_callB rc_len call_len (by rfl) T.b_len bt_len (dab_cons (db_var 0) dab_nil))) (DE.bor de_int)))))) (dss_one (ds_ret de_bl)) dss_nil)
  (dss_cons (ds_for hp rfl (di_seq (de_var 0)) (dg_name (i := 1) sc__law_are_posts.nd rfl (by first | exact Or.inl rfl | exact Or.inr rfl)) (dss_cons (ds_if (DW.dt (dw_or (dt_not (dt_val (de_isinst is_tuple (by rfl) T.b_isinstance (by rfl) T.b_tuple (db_var 1)))) (dw_or (dt_cmp (op_neD (room64 hr)) rd_ne (DE.bor (de_callB rc_len call_len (by rfl) T.b_len bt_len (dab_cons (db_var 1) dab_nil))) (DE.bor de_int) (nomark _)) (dw_or (dt_not (dt_val (de_call k__law_is_number hr (by decide) (by rfl) tk (da_cons (de_ix (ixA (room1 hr)) rd_ixA (db_var 1) (DE.bor de_int)) da_nil)))) (dw_or1 (dt_not (dt_val (de_call k__law_is_number hr (by decide) (by rfl) tk (da_cons (de_ix (ixA (room1 hr)) rd_ixA (db_var 1) (DE.bor de_int)) da_nil))))))))) (dss_one (ds_ret de_bl)) dss_nil)
  (dss_one (ds_if (DW.dt (dw_or (dt_not (dt_chain op_le rd_le op_le rd_le (DE.bor de_int) (DE.bor (de_ix (ixA (room1 hr)) rd_ixA (db_var 1) (DE.bor de_int))) (DE.bor de_int))) (dw_or1 (dt_not (dt_chain op_le rd_le op_le rd_le (DE.bor de_int) (DE.bor (de_ix (ixA (room1 hr)) rd_ixA (db_var 1) (DE.bor de_int))) (DE.bor de_int)))))) (dss_one (ds_ret de_bl)) dss_nil))))
  (dss_one (ds_ret (de_cmp (op_eqD (room64 hr)) rd_eq (DE.bor (DN.val (dn_lc rfl sc__law_are_posts.nd (dib_seq (db_var 0)) (blkOk_by (N := N__law_are_posts) (sc := defScope s__law_are_posts) (own := [("one", 1)]) (by decide +kernel)) (fun _ _ _ _ _ => (dg_name (i := 1) sc__law_are_posts.nd rfl (by first | exact Or.inl rfl | exact Or.inr rfl))) (fun _ _ _ _ _ => dts_nil) (fun _ _ _ _ _ => (de_ix (ixA (room1 hr)) rd_ixA (db_var 1) (DE.bor de_int))) rfl (by decide)))) (DE.bor (de_sset rfl (by rfl) T.b_sorted (by rfl) T.b_set (dab_cons (DE.bor (DN.val (dn_lc rfl sc__law_are_posts.nd (dib_seq (db_var 0)) (blkOk_by (N := N__law_are_posts) (sc := defScope s__law_are_posts) (own := [("one", 1)]) (by decide +kernel)) (fun _ _ _ _ _ => (dg_name (i := 1) sc__law_are_posts.nd rfl (by first | exact Or.inl rfl | exact Or.inr rfl))) (fun _ _ _ _ _ => dts_nil) (fun _ _ _ _ _ => (de_ix (ixA (room1 hr)) rd_ixA (db_var 1) (DE.bor de_int))) rfl (by decide)))) dab_nil))) (nomark _))))))
theorem ok__law_is_light {f : Addr} {fd : FuncData} (T : Txt K mg C_SandError C_BadPlace C_BadDial C_BadPosts C_BadLight C_BadPost C_BadLamp C_BadHeight A_LEAST_LIGHT A_MOST_LIGHT A_ZERO A_NEAR A_FAR t_MOST_PLACE t_MOST_POST t_MOST_POSTS t_MOST_NUMBER t_MOST_LAMP t_LEAST_HOURS t_MOST_HOURS) (Fn : Fun K "_law_is_light" "_law_is_light" s__law_is_light f fd) (k__law_is_number : Callee P w K mg base 1 "_law_is_number" 1 f__law_is_number) (k__law_plain : Callee P w K mg base 1 "_law_plain" 2 f__law_plain) : FnOk P w K mg base (L2.CX P w) 2 f fd ["value"] (spD K mg 1 f__law_is_light) :=
  fn_okD (k := 1) (g := c__law_is_light) rfl rfl rfl Fn sc__law_is_light fun cdv A outer s H E hr tk hp =>
  (dss_cons (ds_if (DW.dt (dw_or (dt_not (dt_val (de_isinst is_tuple (by rfl) T.b_isinstance (by rfl) T.b_tuple (db_var 0)))) (dw_or (dt_cmp (op_neD (room64 hr)) rd_ne (DE.bor (de_callB rc_len call_len (by rfl) T.b_len bt_len (dab_cons (db_var 0) dab_nil))) (DE.bor de_int) (nomark _)) (dw_or1 (dt_not (dt_val (de_callB rc_all (cr_all rfl) (by rfl) T.b_all bt_all (dab_cons (DE.bor (DN.val (dn_lc rfl sc__law_is_light.nd (dib_seq (db_var 0)) (blkOk_by (N := N__law_is_light) (sc := defScope s__law_is_light) (own := [("one", 1)]) (by decide +kernel)) (fun _ _ _ _ _ => (dg_name (i := 1) sc__law_is_light.nd rfl (by first | exact Or.inl rfl | exact Or.inr rfl))) (fun _ _ _ _ _ => dts_nil) (fun _ _ _ _ _ => (de_and (de_call k__law_is_number hr (by decide) (by rfl) takes0 (da_cons (de_var 1) da_nil)) (de_one (de_chain op_le rd_le op_le rd_le (DE.bor (de_neg (de_op op_pow rd_pow (DE.bor de_int) (DE.bor de_int)))) (db_var 1) (DE.bor (de_op op_pow rd_pow (DE.bor de_int) (DE.bor de_int))))))) rfl (by decide)))) dab_nil)))))))) (dss_one (ds_ret de_bl)) dss_nil)
  (dss_one (ds_ret (de_and (de_cmp op_gt rd_gt (DE.bor (de_ix (ixA (room1 hr)) rd_ixA (db_var 0) (DE.bor de_int))) (DE.bor de_int) (nomark _)) (de_and (de_cmp (op_eqD (room64 hr)) rd_eq (DE.bor (de_call k__law_plain hr (by decide) (by rfl) tk (da_cons (de_ix (ixA (room1 hr)) rd_ixA (db_var 0) (DE.bor de_int)) (da_cons (de_ix (ixA (room1 hr)) rd_ixA (db_var 0) (DE.bor de_int)) da_nil)))) (db_var 0) (nomark _)) (de_one (de_chain op_le rd_le op_le rd_le (DE.bor (de_op op_mulD rd_mul (DE.bor (de_neg de_int)) (DE.bor (de_ix (ixA (room1 hr)) rd_ixA (db_var 0) (DE.bor de_int))))) (DE.bor (de_ix (ixA (room1 hr)) rd_ixA (db_var 0) (DE.bor de_int))) (DE.bor (de_op op_mulD rd_mul (DE.bor de_int) (DE.bor (de_ix (ixA (room1 hr)) rd_ixA (db_var 0) (DE.bor de_int))))))))))))
theorem ok_in_order {f : Addr} {fd : FuncData} (T : Txt K mg C_SandError C_BadPlace C_BadDial C_BadPosts C_BadLight C_BadPost C_BadLamp C_BadHeight A_LEAST_LIGHT A_MOST_LIGHT A_ZERO A_NEAR A_FAR t_MOST_PLACE t_MOST_POST t_MOST_POSTS t_MOST_NUMBER t_MOST_LAMP t_LEAST_HOURS t_MOST_HOURS) (Fn : Fun K "in_order" "in_order" s_in_order f fd) (k_is_less : Callee P w K mg base 1 "is_less" 2 f_is_less) : FnOk P w K mg base (L2.CX P w) 2 f fd ["values"] (spD K mg 1 f_in_order) :=
  fn_okD (k := 1) (g := c_in_order) rfl rfl rfl Fn sc_in_order fun cdv A outer s H E hr tk hp =>
  (dss_cons (ds_asg (i := 1) sc_in_order.nd rfl (by first | exact Or.inl rfl | exact Or.inr rfl) (DE.x (DN.val (dn_lst da_nil))))
  (dss_cons (ds_for hp rfl (di_seq (de_var 0)) (dg_name (i := 2) sc_in_order.nd rfl (by first | exact Or.inl rfl | exact Or.inr rfl)) (dss_cons (ds_asg (i := 3) sc_in_order.nd rfl (by first | exact Or.inl rfl | exact Or.inr rfl) (DE.x (de_callB rc_len call_len (by rfl) T.b_len bt_len (dab_cons (DE.bor (DN.val (dn_lc rfl sc_in_order.nd (dib_seq (db_var 1)) (blkOk_by (N := N_in_order) (sc := defScope s_in_order) (own := [("one", 4)]) (by decide +kernel)) (fun _ _ _ _ _ => (dg_name (i := 4) sc_in_order.nd rfl (by first | exact Or.inl rfl | exact Or.inr rfl))) (fun _ _ _ _ _ => (dts_one (dt_not (dt_val (de_call k_is_less hr (by decide) (by rfl) takes0 (da_cons (de_var 2) (da_cons (de_var 4) da_nil))))))) (fun _ _ _ _ _ => (de_var 4)) rfl (by decide)))) dab_nil))))
  (dss_one (ds_asg (i := 1) sc_in_order.nd rfl (by first | exact Or.inl rfl | exact Or.inr rfl) (DE.x (de_op op_addD rd_add (DE.bor (de_op op_addD rd_add (DE.bor (de_sl (db_var 1) do_none (do_some (de_var 3)))) (DE.bor (DN.val (dn_lst (da_cons (de_var 2) da_nil)))))) (DE.bor (de_sl (db_var 1) (do_some (de_var 3)) do_none))))))))
  (dss_one (ds_ret (de_var 1)))))
theorem ok_put_together {f : Addr} {fd : FuncData} (T : Txt K mg C_SandError C_BadPlace C_BadDial C_BadPosts C_BadLight C_BadPost C_BadLamp C_BadHeight A_LEAST_LIGHT A_MOST_LIGHT A_ZERO A_NEAR A_FAR t_MOST_PLACE t_MOST_POST t_MOST_POSTS t_MOST_NUMBER t_MOST_LAMP t_LEAST_HOURS t_MOST_HOURS) (Fn : Fun K "put_together" "put_together" s_put_together f fd) (k_is_less : Callee P w K mg base 1 "is_less" 2 f_is_less) (k_in_order : Callee P w K mg base 2 "in_order" 1 f_in_order) (k_greatest : Callee P w K mg base 2 "greatest" 2 f_greatest) : FnOk P w K mg base (L2.CX P w) 3 f fd ["spans"] (spD K mg 1 f_put_together) :=
  fn_okD (k := 2) (g := c_put_together) rfl rfl rfl Fn sc_put_together fun cdv A outer s H E hr tk hp =>
  (dss_cons (ds_setLcV (i := 2) rfl sc_put_together.nd rfl rfl (sw_true rfl rfl rfl (by decide +kernel)) (dib_seq (db_var 0)) (blkOk_by (N := N_put_together) (sc := defScope s_put_together) (own := [("span", 1)]) (by decide +kernel)) (fun _ _ _ _ _ => (dg_name (i := 1) sc_put_together.nd rfl (by first | exact Or.inl rfl | exact Or.inr rfl))) (fun _ _ _ _ _ => (dts_one (dt_val (de_call k_is_less hr (by decide) (by rfl) takes0 (da_cons (de_ix (ixA (room1 hr)) rd_ixA (db_var 1) (DE.bor de_int)) (da_cons (de_ix (ixA (room1 hr)) rd_ixA (db_var 1) (DE.bor de_int)) da_nil)))))) (fun _ _ _ _ _ => (de_var 1)) rfl (by decide))
  (dss_cons (ds_asg (i := 3) sc_put_together.nd rfl (by first | exact Or.inl rfl | exact Or.inr rfl) (DN.x (dn_lst da_nil)))
  (dss_cons (ds_for hp rfl (di_seq (de_call k_in_order hr (by decide) (by rfl) tk (da_cons (DN.val (dn_lc rfl sc_put_together.nd (dib_seq (db_var 2)) (blkOk_by (N := N_put_together) (sc := defScope s_put_together) (own := [("span", 1)]) (by decide +kernel)) (fun _ _ _ _ _ => (dg_name (i := 1) sc_put_together.nd rfl (by first | exact Or.inl rfl | exact Or.inr rfl))) (fun _ _ _ _ _ => dts_nil) (fun _ _ _ _ _ => (de_ix (ixA (room1 hr)) rd_ixA (db_var 1) (DE.bor de_int))) rfl (by decide))) da_nil))) (dg_name (i := 4) sc_put_together.nd rfl (by first | exact Or.inl rfl | exact Or.inr rfl)) (dss_cons (ds_asg (i := 5) sc_put_together.nd rfl (by first | exact Or.inl rfl | exact Or.inr rfl) (DE.x (de_var 4)))
  (dss_cons (ds_for hp rfl (di_seq (de_var 2)) (dg_name (i := 1) sc_put_together.nd rfl (by first | exact Or.inl rfl | exact Or.inr rfl)) (dss_one (ds_asg (i := 5) sc_put_together.nd rfl (by first | exact Or.inl rfl | exact Or.inr rfl) (DE.x (de_if (dt_cmp (op_eqD (room64 hr)) rd_eq (DE.bor (de_ix (ixA (room1 hr)) rd_ixA (db_var 1) (DE.bor de_int))) (db_var 4) (nomark _)) (de_call k_greatest hr (by decide) (by rfl) tk (da_cons (de_var 5) (da_cons (de_ix (ixA (room1 hr)) rd_ixA (db_var 1) (DE.bor de_int)) da_nil))) (de_var 5))))))
  (dss_one (ds_if (DW.dt (dw_and (dt_cmp op_gt rd_gt (DE.bor (de_callB rc_len call_len (by rfl) T.b_len bt_len (dab_cons (db_var 3) dab_nil))) (DE.bor de_int) (nomark _)) (dw_and1 (dt_not (dt_val (de_call k_is_less hr (by decide) (by rfl) tk (da_cons (de_ix (ixA (room1 hr)) rd_ixA (DE.bor (de_ix (ixA (room1 hr)) rd_ixA (db_var 3) (DE.bor (de_neg de_int)))) (DE.bor de_int)) (da_cons (de_var 4) da_nil)))))))) (dss_one (ds_putL (i := 3) rfl (by first | exact Or.inl rfl | exact Or.inr (Or.inl rfl)) (de_tup (da_cons (de_ix (ixA (room1 hr)) rd_ixA (DE.bor (de_ix (ixA (room1 hr)) rd_ixA (db_var 3) (DE.bor (de_neg de_int)))) (DE.bor de_int)) (da_cons (de_call k_greatest hr (by decide) (by rfl) tk (da_cons (de_ix (ixA (room1 hr)) rd_ixA (DE.bor (de_ix (ixA (room1 hr)) rd_ixA (db_var 3) (DE.bor (de_neg de_int)))) (DE.bor de_int)) (da_cons (de_var 5) da_nil))) da_nil))) (de_neg de_int))) (dss_one (ds_app (i := 3) rfl (by first | exact Or.inl rfl | exact Or.inr (Or.inl rfl)) (de_tup (da_cons (de_var 4) (da_cons (de_var 5) da_nil))))))))))
  (dss_one (ds_frz 3 (ds_ret (de_var 3)))))))
theorem ok__shade {f : Addr} {fd : FuncData} (T : Txt K mg C_SandError C_BadPlace C_BadDial C_BadPosts C_BadLight C_BadPost C_BadLamp C_BadHeight A_LEAST_LIGHT A_MOST_LIGHT A_ZERO A_NEAR A_FAR t_MOST_PLACE t_MOST_POST t_MOST_POSTS t_MOST_NUMBER t_MOST_LAMP t_LEAST_HOURS t_MOST_HOURS) (Fn : Fun K "_shade" "_shade" s__shade f fd) (k_put_together : Callee P w K mg base 3 "put_together" 1 f_put_together) (k__shadow : Callee P w K mg base 5 "_shadow" 2 f__shadow) : FnOk P w K mg base (L2.CX P w) 6 f fd ["posts", "light"] (spD K mg 2 f__shade) :=
  fn_okD (k := 5) (g := c__shade) rfl rfl rfl Fn sc__shade fun cdv A outer s H E hr tk hp =>
  (dss_one (ds_ret (de_call k_put_together hr (by decide) (by rfl) tk (da_cons (DN.val (dn_lc rfl sc__shade.nd (dib_seq (db_var 0)) (blkOk_by (N := N__shade) (sc := defScope s__shade) (own := [("post", 2)]) (by decide +kernel)) (fun _ _ _ _ _ => (dg_name (i := 2) sc__shade.nd rfl (by first | exact Or.inl rfl | exact Or.inr rfl))) (fun _ _ _ _ _ => dts_nil) (fun _ _ _ _ _ => (de_call k__shadow hr (by decide) (by rfl) takes0 (da_cons (de_var 2) (da_cons (de_var 1) da_nil)))) rfl (by decide))) da_nil))))
theorem ok_shade_of {f : Addr} {fd : FuncData} (T : Txt K mg C_SandError C_BadPlace C_BadDial C_BadPosts C_BadLight C_BadPost C_BadLamp C_BadHeight A_LEAST_LIGHT A_MOST_LIGHT A_ZERO A_NEAR A_FAR t_MOST_PLACE t_MOST_POST t_MOST_POSTS t_MOST_NUMBER t_MOST_LAMP t_LEAST_HOURS t_MOST_HOURS) (Fn : Fun K "shade_of" "shade_of" s_shade_of f fd) (k__check : Callee P w K mg base 5 "_check" 2 f__check) (k__shade : Callee P w K mg base 6 "_shade" 2 f__shade) : FnOk P w K mg base (L2.CX P w) 7 f fd ["posts", "light"] (spD K mg 2 f_shade_of) :=
  fn_okD (k := 6) (g := c_shade_of) rfl rfl rfl Fn sc_shade_of fun cdv A outer s H E hr tk hp =>
  (dss_cons (ds_drop (de_call k__check hr (by decide) (by rfl) tk (da_cons (de_var 0) (da_cons (de_var 1) da_nil))))
  (dss_one (ds_ret (de_callTy rc_tuple call_tuple_of (by rfl) T.b_tuple bt_tuple (dab_cons (DE.bor (de_call k__shade hr (by decide) (by rfl) tk (da_cons (de_var 0) (da_cons (de_var 1) da_nil)))) dab_nil)))))
theorem ok_minus {f : Addr} {fd : FuncData} (T : Txt K mg C_SandError C_BadPlace C_BadDial C_BadPosts C_BadLight C_BadPost C_BadLamp C_BadHeight A_LEAST_LIGHT A_MOST_LIGHT A_ZERO A_NEAR A_FAR t_MOST_PLACE t_MOST_POST t_MOST_POSTS t_MOST_NUMBER t_MOST_LAMP t_LEAST_HOURS t_MOST_HOURS) (Fn : Fun K "minus" "minus" s_minus f fd) (k_ratio : Callee P w K mg base 2 "ratio" 2 f_ratio) : FnOk P w K mg base (L2.CX P w) 3 f fd ["one", "other"] (spD K mg 2 f_minus) :=
  fn_okD (k := 2) (g := c_minus) rfl rfl rfl Fn sc_minus fun cdv A outer s H E hr tk hp =>
  (dss_one (ds_ret (de_call k_ratio hr (by decide) (by rfl) tk (da_cons (de_op op_sub rd_sub (DE.bor (de_op op_mulD rd_mul (DE.bor (de_ix (ixA (room1 hr)) rd_ixA (db_var 0) (DE.bor de_int))) (DE.bor (de_ix (ixA (room1 hr)) rd_ixA (db_var 1) (DE.bor de_int))))) (DE.bor (de_op op_mulD rd_mul (DE.bor (de_ix (ixA (room1 hr)) rd_ixA (db_var 1) (DE.bor de_int))) (DE.bor (de_ix (ixA (room1 hr)) rd_ixA (db_var 0) (DE.bor de_int)))))) (da_cons (de_op op_mulD rd_mul (DE.bor (de_ix (ixA (room1 hr)) rd_ixA (db_var 0) (DE.bor de_int))) (DE.bor (de_ix (ixA (room1 hr)) rd_ixA (db_var 1) (DE.bor de_int)))) da_nil)))))
theorem ok_shade_length {f : Addr} {fd : FuncData} (T : Txt K mg C_SandError C_BadPlace C_BadDial C_BadPosts C_BadLight C_BadPost C_BadLamp C_BadHeight A_LEAST_LIGHT A_MOST_LIGHT A_ZERO A_NEAR A_FAR t_MOST_PLACE t_MOST_POST t_MOST_POSTS t_MOST_NUMBER t_MOST_LAMP t_LEAST_HOURS t_MOST_HOURS) (Fn : Fun K "shade_length" "shade_length" s_shade_length f fd) (k__check : Callee P w K mg base 5 "_check" 2 f__check) (k__shade : Callee P w K mg base 6 "_shade" 2 f__shade) (k_plus : Callee P w K mg base 3 "plus" 2 f_plus) (k_minus : Callee P w K mg base 3 "minus" 2 f_minus) : FnOk P w K mg base (L2.CX P w) 7 f fd ["posts", "light"] (spD K mg 2 f_shade_length) :=
  fn_okD (k := 6) (g := c_shade_length) rfl rfl rfl Fn sc_shade_length fun cdv A outer s H E hr tk hp =>
  (dss_cons (ds_drop (de_call k__check hr (by decide) (by rfl) tk (da_cons (de_var 0) (da_cons (de_var 1) da_nil))))
  (dss_cons (ds_asg (i := 2) sc_shade_length.nd rfl (by first | exact Or.inl rfl | exact Or.inr rfl) (DE.x (de_gd (by rfl) T.c_ZERO.1 T.c_ZERO.2)))
  (dss_cons (ds_for hp rfl (di_seq (de_call k__shade hr (by decide) (by rfl) tk (da_cons (de_var 0) (da_cons (de_var 1) da_nil)))) (dg_tup rfl (dgs_cons (dg_name (i := 3) sc_shade_length.nd rfl (by first | exact Or.inl rfl | exact Or.inr rfl)) (dgs_cons (dg_name (i := 4) sc_shade_length.nd rfl (by first | exact Or.inl rfl | exact Or.inr rfl)) dgs_nil)) (sCons_len (sCons_len sNil_len))) (dss_one (ds_asg (i := 2) sc_shade_length.nd rfl (by first | exact Or.inl rfl | exact Or.inr rfl) (DE.x (de_call k_plus hr (by decide) (by rfl) tk (da_cons (de_var 2) (da_cons (de_call k_minus hr (by decide) (by rfl) tk (da_cons (de_var 4) (da_cons (de_var 3) da_nil))) da_nil)))))))
  (dss_one (ds_ret (de_var 2))))))
theorem ok_check_place {f : Addr} {fd : FuncData} (T : Txt K mg C_SandError C_BadPlace C_BadDial C_BadPosts C_BadLight C_BadPost C_BadLamp C_BadHeight A_LEAST_LIGHT A_MOST_LIGHT A_ZERO A_NEAR A_FAR t_MOST_PLACE t_MOST_POST t_MOST_POSTS t_MOST_NUMBER t_MOST_LAMP t_LEAST_HOURS t_MOST_HOURS) (Fn : Fun K "check_place" "check_place" s_check_place f fd) (k_is_ratio : Callee P w K mg base 2 "is_ratio" 1 f_is_ratio) : FnOk P w K mg base (L2.CX P w) 3 f fd ["place"] (spD K mg 1 f_check_place) :=
  fn_okD (k := 2) (g := c_check_place) rfl rfl rfl Fn sc_check_place fun cdv A outer s H E hr tk hp =>
  (dss_one (ds_if (dt_not (dt_val (de_call k_is_ratio hr (by decide) (by rfl) tk (da_cons (de_var 0) da_nil)))) (dss_one (ds_raise rfl T.x_BadPlace tk (by rfl))) dss_nil))
theorem ok_is_shaded {f : Addr} {fd : FuncData} (T : Txt K mg C_SandError C_BadPlace C_BadDial C_BadPosts C_BadLight C_BadPost C_BadLamp C_BadHeight A_LEAST_LIGHT A_MOST_LIGHT A_ZERO A_NEAR A_FAR t_MOST_PLACE t_MOST_POST t_MOST_POSTS t_MOST_NUMBER t_MOST_LAMP t_LEAST_HOURS t_MOST_HOURS) (Fn : Fun K "is_shaded" "is_shaded" s_is_shaded f fd) (k__check : Callee P w K mg base 5 "_check" 2 f__check) (k_check_place : Callee P w K mg base 3 "check_place" 1 f_check_place) (k__shade : Callee P w K mg base 6 "_shade" 2 f__shade) (k_is_less : Callee P w K mg base 1 "is_less" 2 f_is_less) : FnOk P w K mg base (L2.CX P w) 7 f fd ["posts", "light", "place"] (spD K mg 3 f_is_shaded) :=
  fn_okD (k := 6) (g := c_is_shaded) rfl rfl rfl Fn sc_is_shaded fun cdv A outer s H E hr tk hp =>
  (dss_cons (ds_drop (de_call k__check hr (by decide) (by rfl) tk (da_cons (de_var 0) (da_cons (de_var 1) da_nil))))
  (dss_cons (ds_drop (de_call k_check_place hr (by decide) (by rfl) tk (da_cons (de_var 2) da_nil)))
  (dss_one (ds_ret (de_callB rc_any (cr_any rfl) (by rfl) T.b_any bt_any (dab_cons (DE.bor (DN.val (dn_lc rfl sc_is_shaded.nd (dib_seq (DE.bor (de_call k__shade hr (by decide) (by rfl) tk (da_cons (de_var 0) (da_cons (de_var 1) da_nil))))) (blkOk_by (N := N_is_shaded) (sc := defScope s_is_shaded) (own := [("begin", 3), ("end", 4)]) (by decide +kernel)) (fun _ _ _ _ _ => (dg_tup rfl (dgs_cons (dg_name (i := 3) sc_is_shaded.nd rfl (by first | exact Or.inl rfl | exact Or.inr rfl)) (dgs_cons (dg_name (i := 4) sc_is_shaded.nd rfl (by first | exact Or.inl rfl | exact Or.inr rfl)) dgs_nil)) (sCons_len (sCons_len sNil_len)))) (fun _ _ _ _ _ => dts_nil) (fun _ _ _ _ _ => (de_and (de_not (de_call k_is_less hr (by decide) (by rfl) takes0 (da_cons (de_var 2) (da_cons (de_var 3) da_nil)))) (de_one (de_not (de_call k_is_less hr (by decide) (by rfl) takes0 (da_cons (de_var 4) (da_cons (de_var 2) da_nil))))))) rfl (by decide)))) dab_nil))))))
theorem ok_check_post {f : Addr} {fd : FuncData} (T : Txt K mg C_SandError C_BadPlace C_BadDial C_BadPosts C_BadLight C_BadPost C_BadLamp C_BadHeight A_LEAST_LIGHT A_MOST_LIGHT A_ZERO A_NEAR A_FAR t_MOST_PLACE t_MOST_POST t_MOST_POSTS t_MOST_NUMBER t_MOST_LAMP t_LEAST_HOURS t_MOST_HOURS) (Fn : Fun K "check_post" "check_post" s_check_post f fd) (k_is_whole : Callee P w K mg base 1 "is_whole" 3 f_is_whole) : FnOk P w K mg base (L2.CX P w) 2 f fd ["posts", "number"] (spD K mg 2 f_check_post) :=
  fn_okD (k := 1) (g := c_check_post) rfl rfl rfl Fn sc_check_post fun cdv A outer s H E hr tk hp =>
  (dss_one (ds_if (dt_not (dt_val (de_call k_is_whole hr (by decide) (by rfl) tk (da_cons (de_var 1) (da_cons de_int (da_cons (de_op op_sub rd_sub (DE.bor (de_callB rc_len call_len (by rfl) T.b_len bt_len (dab_cons (db_var 0) dab_nil))) (DE.bor de_int)) da_nil)))))) (dss_one (ds_raise rfl T.x_BadPost tk (by rfl))) dss_nil))
theorem ok_over {f : Addr} {fd : FuncData} (T : Txt K mg C_SandError C_BadPlace C_BadDial C_BadPosts C_BadLight C_BadPost C_BadLamp C_BadHeight A_LEAST_LIGHT A_MOST_LIGHT A_ZERO A_NEAR A_FAR t_MOST_PLACE t_MOST_POST t_MOST_POSTS t_MOST_NUMBER t_MOST_LAMP t_LEAST_HOURS t_MOST_HOURS) (Fn : Fun K "over" "over" s_over f fd) (k_ratio : Callee P w K mg base 2 "ratio" 2 f_ratio) : FnOk P w K mg base (L2.CX P w) 3 f fd ["one", "other"] (spD K mg 2 f_over) :=
  fn_okD (k := 2) (g := c_over) rfl rfl rfl Fn sc_over fun cdv A outer s H E hr tk hp =>
  (dss_one (ds_ret (de_call k_ratio hr (by decide) (by rfl) tk (da_cons (de_op op_mulD rd_mul (DE.bor (de_ix (ixA (room1 hr)) rd_ixA (db_var 0) (DE.bor de_int))) (DE.bor (de_ix (ixA (room1 hr)) rd_ixA (db_var 1) (DE.bor de_int)))) (da_cons (de_op op_mulD rd_mul (DE.bor (de_ix (ixA (room1 hr)) rd_ixA (db_var 0) (DE.bor de_int))) (DE.bor (de_ix (ixA (room1 hr)) rd_ixA (db_var 1) (DE.bor de_int)))) da_nil)))))
theorem ok__height_at {f : Addr} {fd : FuncData} (T : Txt K mg C_SandError C_BadPlace C_BadDial C_BadPosts C_BadLight C_BadPost C_BadLamp C_BadHeight A_LEAST_LIGHT A_MOST_LIGHT A_ZERO A_NEAR A_FAR t_MOST_PLACE t_MOST_POST t_MOST_POSTS t_MOST_NUMBER t_MOST_LAMP t_LEAST_HOURS t_MOST_HOURS) (Fn : Fun K "_height_at" "_height_at" s__height_at f fd) (k_is_less : Callee P w K mg base 1 "is_less" 2 f_is_less) (k_greatest : Callee P w K mg base 2 "greatest" 2 f_greatest) (k_minus : Callee P w K mg base 3 "minus" 2 f_minus) (k_over : Callee P w K mg base 3 "over" 2 f_over) : FnOk P w K mg base (L2.CX P w) 4 f fd ["post", "light", "place"] (spD K mg 3 f__height_at) :=
  fn_okD (k := 3) (g := c__height_at) rfl rfl rfl Fn sc__height_at fun cdv A outer s H E hr tk hp =>
  (dss_cons (ds_asg (i := 3) sc__height_at.nd rfl (by first | exact Or.inl rfl | exact Or.inr rfl) (DE.x (de_tup (da_cons (de_op op_sub rd_sub (db_var 2) (DE.bor (de_ix (ixA (room1 hr)) rd_ixA (db_var 0) (DE.bor de_int)))) (da_cons de_int da_nil)))))
  (dss_cons (ds_if (DW.dt (dw_or (dt_cmp (op_eqD (room64 hr)) rd_eq (db_var 1) (DE.bor (de_gd (by rfl) T.c_ZERO.1 T.c_ZERO.2)) (nomark _)) (dw_or (dt_cmp (op_eqD (room64 hr)) rd_eq (db_var 3) (DE.bor (de_gd (by rfl) T.c_ZERO.1 T.c_ZERO.2)) (nomark _)) (dw_or1 (dt_cmp (op_neD (room64 hr)) rd_ne (DE.bor (de_call k_is_less hr (by decide) (by rfl) tk (da_cons (de_gd (by rfl) T.c_ZERO.1 T.c_ZERO.2) (da_cons (de_var 3) da_nil)))) (DE.bor (de_call k_is_less hr (by decide) (by rfl) tk (da_cons (de_gd (by rfl) T.c_ZERO.1 T.c_ZERO.2) (da_cons (de_var 1) da_nil)))) (nomark _)))))) (dss_one (ds_ret (de_gd (by rfl) T.c_ZERO.1 T.c_ZERO.2))) dss_nil)
  (dss_one (ds_ret (de_call k_greatest hr (by decide) (by rfl) tk (da_cons (de_gd (by rfl) T.c_ZERO.1 T.c_ZERO.2) (da_cons (de_call k_minus hr (by decide) (by rfl) tk (da_cons (de_tup (da_cons (de_ix (ixA (room1 hr)) rd_ixA (db_var 0) (DE.bor de_int)) (da_cons de_int da_nil))) (da_cons (de_call k_over hr (by decide) (by rfl) tk (da_cons (de_var 3) (da_cons (de_var 1) da_nil))) da_nil))) da_nil)))))))
theorem ok__shade_on {f : Addr} {fd : FuncData} (T : Txt K mg C_SandError C_BadPlace C_BadDial C_BadPosts C_BadLight C_BadPost C_BadLamp C_BadHeight A_LEAST_LIGHT A_MOST_LIGHT A_ZERO A_NEAR A_FAR t_MOST_PLACE t_MOST_POST t_MOST_POSTS t_MOST_NUMBER t_MOST_LAMP t_LEAST_HOURS t_MOST_HOURS) (Fn : Fun K "_shade_on" "_shade_on" s__shade_on f fd) (k_greatest : Callee P w K mg base 2 "greatest" 2 f_greatest) (k__height_at : Callee P w K mg base 4 "_height_at" 3 f__height_at) (k_least : Callee P w K mg base 2 "least" 2 f_least) : FnOk P w K mg base (L2.CX P w) 5 f fd ["posts", "light", "number"] (spD K mg 3 f__shade_on) :=
  fn_okD (k := 4) (g := c__shade_on) rfl rfl rfl Fn sc__shade_on fun cdv A outer s H E hr tk hp =>
  (dss_cons (ds_to (de_ix (ixA (room1 hr)) rd_ixA (db_var 0) (db_var 2)) (dg_tup rfl (dgs_cons (dg_name (i := 3) sc__shade_on.nd rfl (by first | exact Or.inl rfl | exact Or.inr rfl)) (dgs_cons (dg_name (i := 4) sc__shade_on.nd rfl (by first | exact Or.inl rfl | exact Or.inr rfl)) dgs_nil)) (sCons_len (sCons_len sNil_len))))
  (dss_cons (ds_asg (i := 5) sc__shade_on.nd rfl (by first | exact Or.inl rfl | exact Or.inr rfl) (DE.x (de_gd (by rfl) T.c_ZERO.1 T.c_ZERO.2)))
  (dss_cons (ds_for hp rfl (di_seq (de_var 0)) (dg_name (i := 6) sc__shade_on.nd rfl (by first | exact Or.inl rfl | exact Or.inr rfl)) (dss_one (ds_asg (i := 5) sc__shade_on.nd rfl (by first | exact Or.inl rfl | exact Or.inr rfl) (DE.x (de_call k_greatest hr (by decide) (by rfl) tk (da_cons (de_var 5) (da_cons (de_call k__height_at hr (by decide) (by rfl) tk (da_cons (de_var 6) (da_cons (de_var 1) (da_cons (de_var 3) da_nil)))) da_nil)))))))
  (dss_one (ds_ret (de_call k_least hr (by decide) (by rfl) tk (da_cons (de_var 5) (da_cons (de_tup (da_cons (de_var 4) (da_cons de_int da_nil))) da_nil))))))))
theorem ok_shade_on {f : Addr} {fd : FuncData} (T : Txt K mg C_SandError C_BadPlace C_BadDial C_BadPosts C_BadLight C_BadPost C_BadLamp C_BadHeight A_LEAST_LIGHT A_MOST_LIGHT A_ZERO A_NEAR A_FAR t_MOST_PLACE t_MOST_POST t_MOST_POSTS t_MOST_NUMBER t_MOST_LAMP t_LEAST_HOURS t_MOST_HOURS) (Fn : Fun K "shade_on" "shade_on" s_shade_on f fd) (k__check : Callee P w K mg base 5 "_check" 2 f__check) (k_check_post : Callee P w K mg base 2 "check_post" 2 f_check_post) (k__shade_on : Callee P w K mg base 5 "_shade_on" 3 f__shade_on) : FnOk P w K mg base (L2.CX P w) 6 f fd ["posts", "light", "number"] (spD K mg 3 f_shade_on) :=
  fn_okD (k := 5) (g := c_shade_on) rfl rfl rfl Fn sc_shade_on fun cdv A outer s H E hr tk hp =>
  (dss_cons (ds_drop (de_call k__check hr (by decide) (by rfl) tk (da_cons (de_var 0) (da_cons (de_var 1) da_nil))))
  (dss_cons (ds_drop (de_call k_check_post hr (by decide) (by rfl) tk (da_cons (de_var 0) (da_cons (de_var 2) da_nil))))
  (dss_one (ds_ret (de_call k__shade_on hr (by decide) (by rfl) tk (da_cons (de_var 0) (da_cons (de_var 1) (da_cons (de_var 2) da_nil))))))))
theorem ok_hidden_by {f : Addr} {fd : FuncData} (T : Txt K mg C_SandError C_BadPlace C_BadDial C_BadPosts C_BadLight C_BadPost C_BadLamp C_BadHeight A_LEAST_LIGHT A_MOST_LIGHT A_ZERO A_NEAR A_FAR t_MOST_PLACE t_MOST_POST t_MOST_POSTS t_MOST_NUMBER t_MOST_LAMP t_LEAST_HOURS t_MOST_HOURS) (Fn : Fun K "hidden_by" "hidden_by" s_hidden_by f fd) (k__check : Callee P w K mg base 5 "_check" 2 f__check) (k__shade_on : Callee P w K mg base 5 "_shade_on" 3 f__shade_on) : FnOk P w K mg base (L2.CX P w) 6 f fd ["posts", "light"] (spD K mg 2 f_hidden_by) :=
  fn_okD (k := 5) (g := c_hidden_by) rfl rfl rfl Fn sc_hidden_by fun cdv A outer s H E hr tk hp =>
  (dss_cons (ds_drop (de_call k__check hr (by decide) (by rfl) tk (da_cons (de_var 0) (da_cons (de_var 1) da_nil))))
  (dss_one (ds_ret (de_callTy rc_tuple call_tuple_of (by rfl) T.b_tuple bt_tuple (dab_cons (DE.bor (DN.val (dn_lc rfl sc_hidden_by.nd (dib_enumA (by rfl) T.b_enumerate (dab_cons (db_var 0) dab_nil)) (blkOk_by (N := N_hidden_by) (sc := defScope s_hidden_by) (own := [("number", 2), ("post", 3)]) (by decide +kernel)) (fun _ _ _ _ _ => (dg_tup rfl (dgs_cons (dg_name (i := 2) sc_hidden_by.nd rfl (by first | exact Or.inl rfl | exact Or.inr rfl)) (dgs_cons (dg_name (i := 3) sc_hidden_by.nd rfl (by first | exact Or.inl rfl | exact Or.inr rfl)) dgs_nil)) (sCons_len (sCons_len sNil_len)))) (fun _ _ _ _ _ => (dts_one (dt_cmp (op_eqD (room64 hr)) rd_eq (DE.bor (de_call k__shade_on hr (by decide) (by rfl) takes0 (da_cons (de_var 0) (da_cons (de_var 1) (da_cons (de_var 2) da_nil))))) (DE.bor (de_tup (da_cons (de_ix (ixA (room1 hr)) rd_ixA (db_var 3) (DE.bor de_int)) (da_cons de_int da_nil)))) (nomark _)))) (fun _ _ _ _ _ => (de_var 2)) rfl (by decide)))) dab_nil)))))
theorem ok__law_first {f : Addr} {fd : FuncData} (T : Txt K mg C_SandError C_BadPlace C_BadDial C_BadPosts C_BadLight C_BadPost C_BadLamp C_BadHeight A_LEAST_LIGHT A_MOST_LIGHT A_ZERO A_NEAR A_FAR t_MOST_PLACE t_MOST_POST t_MOST_POSTS t_MOST_NUMBER t_MOST_LAMP t_LEAST_HOURS t_MOST_HOURS) (Fn : Fun K "_law_first" "_law_first" s__law_first f fd) (k_tips_of : Callee P w K mg base 6 "tips_of" 2 f_tips_of) (k_shadows_of : Callee P w K mg base 6 "shadows_of" 2 f_shadows_of) (k_shade_of : Callee P w K mg base 7 "shade_of" 2 f_shade_of) (k_shade_length : Callee P w K mg base 7 "shade_length" 2 f_shade_length) (k_is_shaded : Callee P w K mg base 7 "is_shaded" 3 f_is_shaded) (k_shade_on : Callee P w K mg base 6 "shade_on" 3 f_shade_on) (k_hidden_by : Callee P w K mg base 6 "hidden_by" 2 f_hidden_by) : FnOk P w K mg base (L2.CX P w) 8 f fd ["way", "posts", "light"] (spD K mg 3 f__law_first) :=
  fn_okD (k := 7) (g := c__law_first) rfl rfl rfl Fn sc__law_first fun cdv A outer s H E hr tk hp =>
  (dss_one (ds_if (dt_cmp (op_eqD (room64 hr)) rd_eq (db_var 0) (DE.bor de_int) (nomark _)) (dss_one (ds_drop (de_call k_tips_of hr (by decide) (by rfl) tk (da_cons (de_var 1) (da_cons (de_var 2) da_nil))))) (dss_one (ds_if (dt_cmp (op_eqD (room64 hr)) rd_eq (db_var 0) (DE.bor de_int) (nomark _)) (dss_one (ds_drop (de_call k_shadows_of hr (by decide) (by rfl) tk (da_cons (de_var 1) (da_cons (de_var 2) da_nil))))) (dss_one (ds_if (dt_cmp (op_eqD (room64 hr)) rd_eq (db_var 0) (DE.bor de_int) (nomark _)) (dss_one (ds_drop (de_call k_shade_of hr (by decide) (by rfl) tk (da_cons (de_var 1) (da_cons (de_var 2) da_nil))))) (dss_one (ds_if (dt_cmp (op_eqD (room64 hr)) rd_eq (db_var 0) (DE.bor de_int) (nomark _)) (dss_one (ds_drop (de_call k_shade_length hr (by decide) (by rfl) tk (da_cons (de_var 1) (da_cons (de_var 2) da_nil))))) (dss_one (ds_if (dt_cmp (op_eqD (room64 hr)) rd_eq (db_var 0) (DE.bor de_int) (nomark _)) (dss_one (ds_drop (de_call k_is_shaded hr (by decide) (by rfl) tk (da_cons (de_var 1) (da_cons (de_var 2) (da_cons de_non da_nil)))))) (dss_one (ds_if (dt_cmp (op_eqD (room64 hr)) rd_eq (db_var 0) (DE.bor de_int) (nomark _)) (dss_one (ds_drop (de_call k_shade_on hr (by decide) (by rfl) tk (da_cons (de_var 1) (da_cons (de_var 2) (da_cons de_non da_nil)))))) (dss_one (ds_drop (de_call k_hidden_by hr (by decide) (by rfl) tk (da_cons (de_var 1) (da_cons (de_var 2) da_nil)))))))))))))))))
theorem ok_check_two {f : Addr} {fd : FuncData} (T : Txt K mg C_SandError C_BadPlace C_BadDial C_BadPosts C_BadLight C_BadPost C_BadLamp C_BadHeight A_LEAST_LIGHT A_MOST_LIGHT A_ZERO A_NEAR A_FAR t_MOST_PLACE t_MOST_POST t_MOST_POSTS t_MOST_NUMBER t_MOST_LAMP t_LEAST_HOURS t_MOST_HOURS) (Fn : Fun K "check_two" "check_two" s_check_two f fd) (k_check_posts : Callee P w K mg base 4 "check_posts" 1 f_check_posts) (k_check_post : Callee P w K mg base 2 "check_post" 2 f_check_post) : FnOk P w K mg base (L2.CX P w) 5 f fd ["posts", "one", "other"] (spD K mg 3 f_check_two) :=
  fn_okD (k := 4) (g := c_check_two) rfl rfl rfl Fn sc_check_two fun cdv A outer s H E hr tk hp =>
  (dss_cons (ds_drop (de_call k_check_posts hr (by decide) (by rfl) tk (da_cons (de_var 0) da_nil)))
  (dss_cons (ds_drop (de_call k_check_post hr (by decide) (by rfl) tk (da_cons (de_var 0) (da_cons (de_var 1) da_nil))))
  (dss_cons (ds_drop (de_call k_check_post hr (by decide) (by rfl) tk (da_cons (de_var 0) (da_cons (de_var 2) da_nil))))
  (dss_one (ds_if (dt_cmp (op_eqD (room64 hr)) rd_eq (db_var 1) (db_var 2) (nomark _)) (dss_one (ds_raise rfl T.x_BadPost tk (by rfl))) dss_nil)))))
theorem ok__meeting {f : Addr} {fd : FuncData} (T : Txt K mg C_SandError C_BadPlace C_BadDial C_BadPosts C_BadLight C_BadPost C_BadLamp C_BadHeight A_LEAST_LIGHT A_MOST_LIGHT A_ZERO A_NEAR A_FAR t_MOST_PLACE t_MOST_POST t_MOST_POSTS t_MOST_NUMBER t_MOST_LAMP t_LEAST_HOURS t_MOST_HOURS) (Fn : Fun K "_meeting" "_meeting" s__meeting f fd) : FnOk P w K mg base (L2.CX P w) 1 f fd ["first", "second"] (spD K mg 2 f__meeting) :=
  fn_okD (k := 0) (g := c__meeting) rfl rfl rfl Fn sc__meeting fun cdv A outer s H E hr tk hp =>
  (dss_cons (ds_if (dt_cmp (op_eqD (room64 hr)) rd_eq (DE.bor (de_ix (ixA (room1 hr)) rd_ixA (db_var 0) (DE.bor de_int))) (DE.bor (de_ix (ixA (room1 hr)) rd_ixA (db_var 1) (DE.bor de_int))) (nomark _)) (dss_one (ds_ret de_non)) dss_nil)
  (dss_one ds_bad))
theorem ok_light_meeting {f : Addr} {fd : FuncData} (T : Txt K mg C_SandError C_BadPlace C_BadDial C_BadPosts C_BadLight C_BadPost C_BadLamp C_BadHeight A_LEAST_LIGHT A_MOST_LIGHT A_ZERO A_NEAR A_FAR t_MOST_PLACE t_MOST_POST t_MOST_POSTS t_MOST_NUMBER t_MOST_LAMP t_LEAST_HOURS t_MOST_HOURS) (Fn : Fun K "light_meeting" "light_meeting" s_light_meeting f fd) (k_check_two : Callee P w K mg base 5 "check_two" 3 f_check_two) (k__meeting : Callee P w K mg base 1 "_meeting" 2 f__meeting) : FnOk P w K mg base (L2.CX P w) 6 f fd ["posts", "one", "other"] (spD K mg 3 f_light_meeting) :=
  fn_okD (k := 5) (g := c_light_meeting) rfl rfl rfl Fn sc_light_meeting fun cdv A outer s H E hr tk hp =>
  (dss_cons (ds_drop (de_call k_check_two hr (by decide) (by rfl) tk (da_cons (de_var 0) (da_cons (de_var 1) (da_cons (de_var 2) da_nil)))))
  (dss_one (ds_ret (de_call k__meeting hr (by decide) (by rfl) tk (da_cons (de_ix (ixA (room1 hr)) rd_ixA (db_var 0) (db_var 1)) (da_cons (de_ix (ixA (room1 hr)) rd_ixA (db_var 0) (db_var 2)) da_nil))))))
theorem ok_light_hiding {f : Addr} {fd : FuncData} (T : Txt K mg C_SandError C_BadPlace C_BadDial C_BadPosts C_BadLight C_BadPost C_BadLamp C_BadHeight A_LEAST_LIGHT A_MOST_LIGHT A_ZERO A_NEAR A_FAR t_MOST_PLACE t_MOST_POST t_MOST_POSTS t_MOST_NUMBER t_MOST_LAMP t_LEAST_HOURS t_MOST_HOURS) (Fn : Fun K "light_hiding" "light_hiding" s_light_hiding f fd) (k_check_two : Callee P w K mg base 5 "check_two" 3 f_check_two) (k__meeting : Callee P w K mg base 1 "_meeting" 2 f__meeting) : FnOk P w K mg base (L2.CX P w) 6 f fd ["posts", "one", "other"] (spD K mg 3 f_light_hiding) :=
  fn_okD (k := 5) (g := c_light_hiding) rfl rfl rfl Fn sc_light_hiding fun cdv A outer s H E hr tk hp =>
  (dss_cons (ds_drop (de_call k_check_two hr (by decide) (by rfl) tk (da_cons (de_var 0) (da_cons (de_var 1) (da_cons (de_var 2) da_nil)))))
  (dss_one (ds_ret (de_if (dt_cmp op_gt rd_gt (DE.bor (de_ix (ixA (room1 hr)) rd_ixA (DE.bor (de_ix (ixA (room1 hr)) rd_ixA (db_var 0) (db_var 1))) (DE.bor de_int))) (DE.bor (de_ix (ixA (room1 hr)) rd_ixA (DE.bor (de_ix (ixA (room1 hr)) rd_ixA (db_var 0) (db_var 2))) (DE.bor de_int))) (nomark _)) (de_call k__meeting hr (by decide) (by rfl) tk (da_cons (de_ix (ixA (room1 hr)) rd_ixA (db_var 0) (db_var 1)) (da_cons (de_ix (ixA (room1 hr)) rd_ixA (db_var 0) (db_var 2)) da_nil))) de_non))))
theorem ok_meeting_lights {f : Addr} {fd : FuncData} (T : Txt K mg C_SandError C_BadPlace C_BadDial C_BadPosts C_BadLight C_BadPost C_BadLamp C_BadHeight A_LEAST_LIGHT A_MOST_LIGHT A_ZERO A_NEAR A_FAR t_MOST_PLACE t_MOST_POST t_MOST_POSTS t_MOST_NUMBER t_MOST_LAMP t_LEAST_HOURS t_MOST_HOURS) (Fn : Fun K "meeting_lights" "meeting_lights" s_meeting_lights f fd) (k_check_posts : Callee P w K mg base 4 "check_posts" 1 f_check_posts) (k__meeting : Callee P w K mg base 1 "_meeting" 2 f__meeting) (k_in_order : Callee P w K mg base 2 "in_order" 1 f_in_order) : FnOk P w K mg base (L2.CX P w) 5 f fd ["posts"] (spD K mg 1 f_meeting_lights) :=
  fn_okD (k := 4) (g := c_meeting_lights) rfl rfl rfl Fn sc_meeting_lights fun cdv A outer s H E hr tk hp =>
  (dss_cons (ds_drop (de_call k_check_posts hr (by decide) (by rfl) tk (da_cons (de_var 0) da_nil)))
  (dss_cons (ds_asg (i := 1) sc_meeting_lights.nd rfl (by first | exact Or.inl rfl | exact Or.inr rfl) dx_dic)
  (dss_cons (ds_for hp rfl (di_enumA (by rfl) T.b_enumerate (da_cons (de_var 0) da_nil)) (dg_tup rfl (dgs_cons (dg_name (i := 2) sc_meeting_lights.nd rfl (by first | exact Or.inl rfl | exact Or.inr rfl)) (dgs_cons (dg_name (i := 3) sc_meeting_lights.nd rfl (by first | exact Or.inl rfl | exact Or.inr rfl)) dgs_nil)) (sCons_len (sCons_len sNil_len))) (dss_one (ds_for hp rfl (di_seq (de_sl (db_var 0) (do_some (de_op op_addD rd_add (db_var 2) (DE.bor de_int))) do_none)) (dg_name (i := 4) sc_meeting_lights.nd rfl (by first | exact Or.inl rfl | exact Or.inr rfl)) (dss_one (ds_put (i := 1) (room1 hr) rfl (by first | exact Or.inl rfl | exact Or.inr (Or.inl rfl)) de_bl (de_call k__meeting hr (by decide) (by rfl) tk (da_cons (de_var 3) (da_cons (de_var 4) da_nil))))))))
  (dss_one (ds_ret (de_callTy rc_tuple call_tuple_of (by rfl) T.b_tuple bt_tuple (dab_cons (DE.bor (de_call k_in_order hr (by decide) (by rfl) tk (da_cons (DN.val (dn_lc rfl sc_meeting_lights.nd (dib_seq (db_var 1)) (blkOk_by (N := N_meeting_lights) (sc := defScope s_meeting_lights) (own := [("light", 5)]) (by decide +kernel)) (fun _ _ _ _ _ => (dg_name (i := 5) sc_meeting_lights.nd rfl (by first | exact Or.inl rfl | exact Or.inr rfl))) (fun _ _ _ _ _ => (dts_one (dt_cmp op_notN rd_isnot (db_var 5) (DE.bor de_non) (nomark _)))) (fun _ _ _ _ _ => (de_var 5)) rfl (by decide))) da_nil))) dab_nil)))))))
theorem ok__check_lamp {f : Addr} {fd : FuncData} (T : Txt K mg C_SandError C_BadPlace C_BadDial C_BadPosts C_BadLight C_BadPost C_BadLamp C_BadHeight A_LEAST_LIGHT A_MOST_LIGHT A_ZERO A_NEAR A_FAR t_MOST_PLACE t_MOST_POST t_MOST_POSTS t_MOST_NUMBER t_MOST_LAMP t_LEAST_HOURS t_MOST_HOURS) (Fn : Fun K "_check_lamp" "_check_lamp" s__check_lamp f fd) (k_is_whole : Callee P w K mg base 1 "is_whole" 3 f_is_whole) : FnOk P w K mg base (L2.CX P w) 2 f fd ["lamp"] (spD K mg 1 f__check_lamp) :=
  fn_okD (k := 1) (g := c__check_lamp) rfl rfl rfl Fn sc__check_lamp fun cdv A outer s H E hr tk hp =>
  (dss_cons (ds_if (DW.dt (dw_or (dt_not (dt_val (de_isinst is_tuple (by rfl) T.b_isinstance (by rfl) T.b_tuple (db_var 0)))) (dw_or (dt_cmp (op_neD (room64 hr)) rd_ne (DE.bor (de_callB rc_len call_len (by rfl) T.b_len bt_len (dab_cons (db_var 0) dab_nil))) (DE.bor de_int) (nomark _)) (dw_or1 (dt_not (dt_val (de_call k_is_whole hr (by decide) (by rfl) tk (da_cons (de_ix (ixA (room1 hr)) rd_ixA (db_var 0) (DE.bor de_int)) (da_cons de_int (da_cons (de_gint (by rfl) T.c_MOST_PLACE) da_nil)))))))))) (dss_one (ds_raise rfl T.x_BadLamp tk (by rfl))) dss_nil)
  (dss_one (ds_if (dt_not (dt_val (de_call k_is_whole hr (by decide) (by rfl) tk (da_cons (de_ix (ixA (room1 hr)) rd_ixA (db_var 0) (DE.bor de_int)) (da_cons de_int (da_cons (de_gint (by rfl) T.c_MOST_LAMP) da_nil)))))) (dss_one (ds_raise rfl T.x_BadLamp tk (by rfl))) dss_nil)))
theorem ok__tip {f : Addr} {fd : FuncData} (T : Txt K mg C_SandError C_BadPlace C_BadDial C_BadPosts C_BadLight C_BadPost C_BadLamp C_BadHeight A_LEAST_LIGHT A_MOST_LIGHT A_ZERO A_NEAR A_FAR t_MOST_PLACE t_MOST_POST t_MOST_POSTS t_MOST_NUMBER t_MOST_LAMP t_LEAST_HOURS t_MOST_HOURS) (Fn : Fun K "_tip" "_tip" s__tip f fd) (k_plus : Callee P w K mg base 3 "plus" 2 f_plus) (k_ratio : Callee P w K mg base 2 "ratio" 2 f_ratio) : FnOk P w K mg base (L2.CX P w) 4 f fd ["post", "lamp"] (spD K mg 2 f__tip) :=
  fn_okD (k := 3) (g := c__tip) rfl rfl rfl Fn sc__tip fun cdv A outer s H E hr tk hp =>
  (dss_cons (ds_if (dt_cmp op_ge rd_ge (DE.bor (de_ix (ixA (room1 hr)) rd_ixA (db_var 0) (DE.bor de_int))) (DE.bor (de_ix (ixA (room1 hr)) rd_ixA (db_var 1) (DE.bor de_int))) (nomark _)) (dss_one (ds_ret de_non)) dss_nil)
  (dss_one (ds_ret (de_call k_plus hr (by decide) (by rfl) tk (da_cons (de_tup (da_cons (de_ix (ixA (room1 hr)) rd_ixA (db_var 0) (DE.bor de_int)) (da_cons de_int da_nil))) (da_cons (de_call k_ratio hr (by decide) (by rfl) tk (da_cons (de_op op_mulD rd_mul (DE.bor (de_ix (ixA (room1 hr)) rd_ixA (db_var 0) (DE.bor de_int))) (DE.bor (de_op op_sub rd_sub (DE.bor (de_ix (ixA (room1 hr)) rd_ixA (db_var 0) (DE.bor de_int))) (DE.bor (de_ix (ixA (room1 hr)) rd_ixA (db_var 1) (DE.bor de_int)))))) (da_cons (de_op op_sub rd_sub (DE.bor (de_ix (ixA (room1 hr)) rd_ixA (db_var 1) (DE.bor de_int))) (DE.bor (de_ix (ixA (room1 hr)) rd_ixA (db_var 0) (DE.bor de_int)))) da_nil))) da_nil))))))
theorem ok_lamp_tips {f : Addr} {fd : FuncData} (T : Txt K mg C_SandError C_BadPlace C_BadDial C_BadPosts C_BadLight C_BadPost C_BadLamp C_BadHeight A_LEAST_LIGHT A_MOST_LIGHT A_ZERO A_NEAR A_FAR t_MOST_PLACE t_MOST_POST t_MOST_POSTS t_MOST_NUMBER t_MOST_LAMP t_LEAST_HOURS t_MOST_HOURS) (Fn : Fun K "lamp_tips" "lamp_tips" s_lamp_tips f fd) (k_check_posts : Callee P w K mg base 4 "check_posts" 1 f_check_posts) (k__check_lamp : Callee P w K mg base 2 "_check_lamp" 1 f__check_lamp) (k__tip : Callee P w K mg base 4 "_tip" 2 f__tip) : FnOk P w K mg base (L2.CX P w) 5 f fd ["posts", "lamp"] (spD K mg 2 f_lamp_tips) :=
  fn_okD (k := 4) (g := c_lamp_tips) rfl rfl rfl Fn sc_lamp_tips fun cdv A outer s H E hr tk hp =>
  (dss_cons (ds_drop (de_call k_check_posts hr (by decide) (by rfl) tk (da_cons (de_var 0) da_nil)))
  (dss_cons (ds_drop (de_call k__check_lamp hr (by decide) (by rfl) tk (da_cons (de_var 1) da_nil)))
  (dss_one (ds_ret (de_callTy rc_tuple call_tuple_of (by rfl) T.b_tuple bt_tuple (dab_cons (DE.bor (DN.val (dn_lc rfl sc_lamp_tips.nd (dib_seq (db_var 0)) (blkOk_by (N := N_lamp_tips) (sc := defScope s_lamp_tips) (own := [("post", 2)]) (by decide +kernel)) (fun _ _ _ _ _ => (dg_name (i := 2) sc_lamp_tips.nd rfl (by first | exact Or.inl rfl | exact Or.inr rfl))) (fun _ _ _ _ _ => dts_nil) (fun _ _ _ _ _ => (de_call k__tip hr (by decide) (by rfl) takes0 (da_cons (de_var 2) (da_cons (de_var 1) da_nil)))) rfl (by decide)))) dab_nil))))))
theorem ok__span {f : Addr} {fd : FuncData} (T : Txt K mg C_SandError C_BadPlace C_BadDial C_BadPosts C_BadLight C_BadPost C_BadLamp C_BadHeight A_LEAST_LIGHT A_MOST_LIGHT A_ZERO A_NEAR A_FAR t_MOST_PLACE t_MOST_POST t_MOST_POSTS t_MOST_NUMBER t_MOST_LAMP t_LEAST_HOURS t_MOST_HOURS) (Fn : Fun K "_span" "_span" s__span f fd) (k__tip : Callee P w K mg base 4 "_tip" 2 f__tip) (k_least : Callee P w K mg base 2 "least" 2 f_least) (k_greatest : Callee P w K mg base 2 "greatest" 2 f_greatest) : FnOk P w K mg base (L2.CX P w) 5 f fd ["post", "lamp"] (spD K mg 2 f__span) :=
  fn_okD (k := 4) (g := c__span) rfl rfl rfl Fn sc__span fun cdv A outer s H E hr tk hp =>
  (dss_cons (ds_par (i := 2) (j := 3) rfl sc__span.nd rfl rfl (by decide) rfl rfl (DE.x (de_tup (da_cons (de_ix (ixA (room1 hr)) rd_ixA (db_var 0) (DE.bor de_int)) (da_cons de_int da_nil)))) (DE.x (de_call k__tip hr (by decide) (by rfl) tk (da_cons (de_var 0) (da_cons (de_var 1) da_nil)))) rfl)
  (dss_cons (ds_if (DW.dt (dw_and (dt_cmp op_isN rd_is (db_var 3) (DE.bor de_non) (nomark _)) (dw_and1 (dt_cmp (op_eqD (room64 hr)) rd_eq (DE.bor (de_ix (ixA (room1 hr)) rd_ixA (db_var 0) (DE.bor de_int))) (DE.bor (de_ix (ixA (room1 hr)) rd_ixA (db_var 1) (DE.bor de_int))) (nomark _))))) (dss_one (ds_ret (de_tup (da_cons (de_gd (by rfl) T.c_NEAR.1 T.c_NEAR.2) (da_cons (de_gd (by rfl) T.c_FAR.1 T.c_FAR.2) da_nil))))) dss_nil)
  (dss_cons (ds_if (dt_cmp op_isN rd_is (db_var 3) (DE.bor de_non) (nomark _)) (dss_one (ds_ret (de_if (dt_cmp op_gt rd_gt (DE.bor (de_ix (ixA (room1 hr)) rd_ixA (db_var 0) (DE.bor de_int))) (DE.bor (de_ix (ixA (room1 hr)) rd_ixA (db_var 1) (DE.bor de_int))) (nomark _)) (de_tup (da_cons (de_var 2) (da_cons (de_gd (by rfl) T.c_FAR.1 T.c_FAR.2) da_nil))) (de_tup (da_cons (de_gd (by rfl) T.c_NEAR.1 T.c_NEAR.2) (da_cons (de_var 2) da_nil)))))) dss_nil)
  (dss_one (ds_ret (de_tup (da_cons (de_call k_least hr (by decide) (by rfl) tk (da_cons (de_var 2) (da_cons (de_var 3) da_nil))) (da_cons (de_call k_greatest hr (by decide) (by rfl) tk (da_cons (de_var 2) (da_cons (de_var 3) da_nil))) da_nil))))))))
theorem ok__dark {f : Addr} {fd : FuncData} (T : Txt K mg C_SandError C_BadPlace C_BadDial C_BadPosts C_BadLight C_BadPost C_BadLamp C_BadHeight A_LEAST_LIGHT A_MOST_LIGHT A_ZERO A_NEAR A_FAR t_MOST_PLACE t_MOST_POST t_MOST_POSTS t_MOST_NUMBER t_MOST_LAMP t_LEAST_HOURS t_MOST_HOURS) (Fn : Fun K "_dark" "_dark" s__dark f fd) (k_put_together : Callee P w K mg base 3 "put_together" 1 f_put_together) (k__span : Callee P w K mg base 5 "_span" 2 f__span) : FnOk P w K mg base (L2.CX P w) 6 f fd ["posts", "lamp"] (spD K mg 2 f__dark) :=
  fn_okD (k := 5) (g := c__dark) rfl rfl rfl Fn sc__dark fun cdv A outer s H E hr tk hp =>
  (dss_one (ds_ret (de_call k_put_together hr (by decide) (by rfl) tk (da_cons (DN.val (dn_lc rfl sc__dark.nd (dib_seq (db_var 0)) (blkOk_by (N := N__dark) (sc := defScope s__dark) (own := [("post", 2)]) (by decide +kernel)) (fun _ _ _ _ _ => (dg_name (i := 2) sc__dark.nd rfl (by first | exact Or.inl rfl | exact Or.inr rfl))) (fun _ _ _ _ _ => dts_nil) (fun _ _ _ _ _ => (de_call k__span hr (by decide) (by rfl) takes0 (da_cons (de_var 2) (da_cons (de_var 1) da_nil)))) rfl (by decide))) da_nil))))
theorem ok_dark_of {f : Addr} {fd : FuncData} (T : Txt K mg C_SandError C_BadPlace C_BadDial C_BadPosts C_BadLight C_BadPost C_BadLamp C_BadHeight A_LEAST_LIGHT A_MOST_LIGHT A_ZERO A_NEAR A_FAR t_MOST_PLACE t_MOST_POST t_MOST_POSTS t_MOST_NUMBER t_MOST_LAMP t_LEAST_HOURS t_MOST_HOURS) (Fn : Fun K "dark_of" "dark_of" s_dark_of f fd) (k_check_posts : Callee P w K mg base 4 "check_posts" 1 f_check_posts) (k__check_lamp : Callee P w K mg base 2 "_check_lamp" 1 f__check_lamp) : FnOk P w K mg base (L2.CX P w) 5 f fd ["posts", "lamp"] (spD K mg 2 f_dark_of) :=
  fn_okD (k := 4) (g := c_dark_of) rfl rfl rfl Fn sc_dark_of fun cdv A outer s H E hr tk hp =>
  (dss_cons (ds_drop (de_call k_check_posts hr (by decide) (by rfl) tk (da_cons (de_var 0) da_nil)))
  (dss_cons (ds_drop (de_call k__check_lamp hr (by decide) (by rfl) tk (da_cons (de_var 1) da_nil)))
  (dss_one ds_bad)))
theorem ok_both_dark {f : Addr} {fd : FuncData} (T : Txt K mg C_SandError C_BadPlace C_BadDial C_BadPosts C_BadLight C_BadPost C_BadLamp C_BadHeight A_LEAST_LIGHT A_MOST_LIGHT A_ZERO A_NEAR A_FAR t_MOST_PLACE t_MOST_POST t_MOST_POSTS t_MOST_NUMBER t_MOST_LAMP t_LEAST_HOURS t_MOST_HOURS) (Fn : Fun K "both_dark" "both_dark" s_both_dark f fd) (k_check_posts : Callee P w K mg base 4 "check_posts" 1 f_check_posts) (k__check_lamp : Callee P w K mg base 2 "_check_lamp" 1 f__check_lamp) (k__dark : Callee P w K mg base 6 "_dark" 2 f__dark) (k_greatest : Callee P w K mg base 2 "greatest" 2 f_greatest) (k_least : Callee P w K mg base 2 "least" 2 f_least) : FnOk P w K mg base (L2.CX P w) 7 f fd ["posts", "lamp", "other"] (spD K mg 3 f_both_dark) :=
  fn_okD (k := 6) (g := c_both_dark) rfl rfl rfl Fn sc_both_dark fun cdv A outer s H E hr tk hp =>
  (dss_cons (ds_drop (de_call k_check_posts hr (by decide) (by rfl) tk (da_cons (de_var 0) da_nil)))
  (dss_cons (ds_drop (de_call k__check_lamp hr (by decide) (by rfl) tk (da_cons (de_var 1) da_nil)))
  (dss_cons (ds_drop (de_call k__check_lamp hr (by decide) (by rfl) tk (da_cons (de_var 2) da_nil)))
  (dss_cons (ds_asg (i := 3) sc_both_dark.nd rfl (by first | exact Or.inl rfl | exact Or.inr rfl) (DN.x (dn_lst da_nil)))
  (dss_cons (ds_for hp rfl (di_seq (de_call k__dark hr (by decide) (by rfl) tk (da_cons (de_var 0) (da_cons (de_var 1) da_nil)))) (dg_name (i := 4) sc_both_dark.nd rfl (by first | exact Or.inl rfl | exact Or.inr rfl)) (dss_one (ds_for hp rfl (di_seq (de_call k__dark hr (by decide) (by rfl) tk (da_cons (de_var 0) (da_cons (de_var 2) da_nil)))) (dg_name (i := 5) sc_both_dark.nd rfl (by first | exact Or.inl rfl | exact Or.inr rfl)) (dss_one (ds_app (i := 3) rfl (by first | exact Or.inl rfl | exact Or.inr (Or.inl rfl)) (de_tup (da_cons (de_call k_greatest hr (by decide) (by rfl) tk (da_cons (de_ix (ixA (room1 hr)) rd_ixA (db_var 4) (DE.bor de_int)) (da_cons (de_ix (ixA (room1 hr)) rd_ixA (db_var 5) (DE.bor de_int)) da_nil))) (da_cons (de_call k_least hr (by decide) (by rfl) tk (da_cons (de_ix (ixA (room1 hr)) rd_ixA (db_var 4) (DE.bor de_int)) (da_cons (de_ix (ixA (room1 hr)) rd_ixA (db_var 5) (DE.bor de_int)) da_nil))) da_nil))))))))
  (dss_one ds_bad))))))
theorem ok_lamp_meeting {f : Addr} {fd : FuncData} (T : Txt K mg C_SandError C_BadPlace C_BadDial C_BadPosts C_BadLight C_BadPost C_BadLamp C_BadHeight A_LEAST_LIGHT A_MOST_LIGHT A_ZERO A_NEAR A_FAR t_MOST_PLACE t_MOST_POST t_MOST_POSTS t_MOST_NUMBER t_MOST_LAMP t_LEAST_HOURS t_MOST_HOURS) (Fn : Fun K "lamp_meeting" "lamp_meeting" s_lamp_meeting f fd) (k_check_two : Callee P w K mg base 5 "check_two" 3 f_check_two) (k_is_whole : Callee P w K mg base 1 "is_whole" 3 f_is_whole) (k_ratio : Callee P w K mg base 2 "ratio" 2 f_ratio) (k_minus : Callee P w K mg base 3 "minus" 2 f_minus) (k_times : Callee P w K mg base 3 "times" 2 f_times) (k_plus : Callee P w K mg base 3 "plus" 2 f_plus) (k_over : Callee P w K mg base 3 "over" 2 f_over) : FnOk P w K mg base (L2.CX P w) 6 f fd ["posts", "one", "other", "height"] (spD K mg 4 f_lamp_meeting) :=
  fn_okD (k := 5) (g := c_lamp_meeting) rfl rfl rfl Fn sc_lamp_meeting fun cdv A outer s H E hr tk hp =>
  (dss_cons (ds_drop (de_call k_check_two hr (by decide) (by rfl) tk (da_cons (de_var 0) (da_cons (de_var 1) (da_cons (de_var 2) da_nil)))))
  (dss_cons (ds_if (dt_not (dt_val (de_call k_is_whole hr (by decide) (by rfl) tk (da_cons (de_var 3) (da_cons de_int (da_cons (de_gint (by rfl) T.c_MOST_LAMP) da_nil)))))) (dss_one (ds_raise rfl T.x_BadHeight tk (by rfl))) dss_nil)
  (dss_cons (ds_par (i := 4) (j := 5) rfl sc_lamp_meeting.nd rfl rfl (by decide) rfl rfl (DE.x (de_ix (ixA (room1 hr)) rd_ixA (db_var 0) (db_var 1))) (DE.x (de_ix (ixA (room1 hr)) rd_ixA (db_var 0) (db_var 2))) rfl)
  (dss_cons (ds_if (dt_cmp op_ge rd_ge (DE.bor (de_callB rc_max2 (call_max2 rfl) (by rfl) T.b_max bt_max (dab_cons (DE.bor (de_ix (ixA (room1 hr)) rd_ixA (db_var 4) (DE.bor de_int))) (dab_cons (DE.bor (de_ix (ixA (room1 hr)) rd_ixA (db_var 5) (DE.bor de_int))) dab_nil)))) (db_var 3) (nomark _)) (dss_one (ds_ret de_non)) dss_nil)
  (dss_cons (ds_par (i := 6) (j := 7) rfl sc_lamp_meeting.nd rfl rfl (by decide) rfl rfl (DE.x (de_call k_ratio hr (by decide) (by rfl) tk (da_cons (de_ix (ixA (room1 hr)) rd_ixA (db_var 4) (DE.bor de_int)) (da_cons (de_op op_sub rd_sub (db_var 3) (DE.bor (de_ix (ixA (room1 hr)) rd_ixA (db_var 4) (DE.bor de_int)))) da_nil)))) (DE.x (de_call k_ratio hr (by decide) (by rfl) tk (da_cons (de_ix (ixA (room1 hr)) rd_ixA (db_var 5) (DE.bor de_int)) (da_cons (de_op op_sub rd_sub (db_var 3) (DE.bor (de_ix (ixA (room1 hr)) rd_ixA (db_var 5) (DE.bor de_int)))) da_nil)))) rfl)
  (dss_cons (ds_if (dt_cmp (op_eqD (room64 hr)) rd_eq (db_var 6) (db_var 7) (nomark _)) (dss_one (ds_ret de_non)) dss_nil)
  (dss_cons (ds_asg (i := 8) sc_lamp_meeting.nd rfl (by first | exact Or.inl rfl | exact Or.inr rfl) (DE.x (de_call k_minus hr (by decide) (by rfl) tk (da_cons (de_call k_times hr (by decide) (by rfl) tk (da_cons (de_call k_plus hr (by decide) (by rfl) tk (da_cons (de_tup (da_cons de_int (da_cons de_int da_nil))) (da_cons (de_var 6) da_nil))) (da_cons (de_tup (da_cons (de_ix (ixA (room1 hr)) rd_ixA (db_var 4) (DE.bor de_int)) (da_cons de_int da_nil))) da_nil))) (da_cons (de_call k_times hr (by decide) (by rfl) tk (da_cons (de_call k_plus hr (by decide) (by rfl) tk (da_cons (de_tup (da_cons de_int (da_cons de_int da_nil))) (da_cons (de_var 7) da_nil))) (da_cons (de_tup (da_cons (de_ix (ixA (room1 hr)) rd_ixA (db_var 5) (DE.bor de_int)) (da_cons de_int da_nil))) da_nil))) da_nil)))))
  (dss_one (ds_ret (de_call k_over hr (by decide) (by rfl) tk (da_cons (de_var 8) (da_cons (de_call k_minus hr (by decide) (by rfl) tk (da_cons (de_var 6) (da_cons (de_var 7) da_nil))) da_nil))))))))))))
theorem ok_light_from {f : Addr} {fd : FuncData} (T : Txt K mg C_SandError C_BadPlace C_BadDial C_BadPosts C_BadLight C_BadPost C_BadLamp C_BadHeight A_LEAST_LIGHT A_MOST_LIGHT A_ZERO A_NEAR A_FAR t_MOST_PLACE t_MOST_POST t_MOST_POSTS t_MOST_NUMBER t_MOST_LAMP t_LEAST_HOURS t_MOST_HOURS) (Fn : Fun K "light_from" "light_from" s_light_from f fd) (k_check_posts : Callee P w K mg base 4 "check_posts" 1 f_check_posts) (k_check_place : Callee P w K mg base 3 "check_place" 1 f_check_place) : FnOk P w K mg base (L2.CX P w) 5 f fd ["post", "tip"] (spD K mg 2 f_light_from) :=
  fn_okD (k := 4) (g := c_light_from) rfl rfl rfl Fn sc_light_from fun cdv A outer s H E hr tk hp =>
  (dss_cons (ds_drop (de_call k_check_posts hr (by decide) (by rfl) tk (da_cons (de_tup (da_cons (de_var 0) da_nil)) da_nil)))
  (dss_cons (ds_drop (de_call k_check_place hr (by decide) (by rfl) tk (da_cons (de_var 1) da_nil)))
  (dss_one ds_bad)))
theorem ok__check_dial {f : Addr} {fd : FuncData} (T : Txt K mg C_SandError C_BadPlace C_BadDial C_BadPosts C_BadLight C_BadPost C_BadLamp C_BadHeight A_LEAST_LIGHT A_MOST_LIGHT A_ZERO A_NEAR A_FAR t_MOST_PLACE t_MOST_POST t_MOST_POSTS t_MOST_NUMBER t_MOST_LAMP t_LEAST_HOURS t_MOST_HOURS) (Fn : Fun K "_check_dial" "_check_dial" s__check_dial f fd) (k_is_light : Callee P w K mg base 4 "is_light" 1 f_is_light) (k_is_less : Callee P w K mg base 1 "is_less" 2 f_is_less) : FnOk P w K mg base (L2.CX P w) 5 f fd ["dial"] (spD K mg 1 f__check_dial) :=
  fn_okD (k := 4) (g := c__check_dial) rfl rfl rfl Fn sc__check_dial fun cdv A outer s H E hr tk hp =>
  (dss_cons (ds_if (DW.dt (dw_or (dt_not (dt_val (de_isinst is_tuple (by rfl) T.b_isinstance (by rfl) T.b_tuple (db_var 0)))) (dw_or1 (dt_not (dt_chain op_le rd_le op_le rd_le (DE.bor (de_gint (by rfl) T.c_LEAST_HOURS)) (DE.bor (de_callB rc_len call_len (by rfl) T.b_len bt_len (dab_cons (db_var 0) dab_nil))) (DE.bor (de_gint (by rfl) T.c_MOST_HOURS))))))) (dss_one (ds_raise rfl T.x_BadDial tk (by rfl))) dss_nil)
  (dss_cons (ds_if (dt_not (dt_val (de_callB rc_all (cr_all rfl) (by rfl) T.b_all bt_all (dab_cons (DE.bor (DN.val (dn_lc rfl sc__check_dial.nd (dib_seq (db_var 0)) (blkOk_by (N := N__check_dial) (sc := defScope s__check_dial) (own := [("one", 1)]) (by decide +kernel)) (fun _ _ _ _ _ => (dg_name (i := 1) sc__check_dial.nd rfl (by first | exact Or.inl rfl | exact Or.inr rfl))) (fun _ _ _ _ _ => dts_nil) (fun _ _ _ _ _ => (de_call k_is_light hr (by decide) (by rfl) takes0 (da_cons (de_var 1) da_nil))) rfl (by decide)))) dab_nil)))) (dss_one (ds_raise rfl T.x_BadDial tk (by rfl))) dss_nil)
  (dss_one (ds_if (dt_not (dt_val (de_callB rc_all (cr_all rfl) (by rfl) T.b_all bt_all (dab_cons (DE.bor (DN.val (dn_lc rfl sc__check_dial.nd (dib_zip (by rfl) T.b_zip (dab_cons (db_var 0) (dab_cons (DE.bor (de_sl (db_var 0) (do_some de_int) do_none)) dab_nil))) (blkOk_by (N := N__check_dial) (sc := defScope s__check_dial) (own := [("one", 1), ("later", 2)]) (by decide +kernel)) (fun _ _ _ _ _ => (dg_tup rfl (dgs_cons (dg_name (i := 1) sc__check_dial.nd rfl (by first | exact Or.inl rfl | exact Or.inr rfl)) (dgs_cons (dg_name (i := 2) sc__check_dial.nd rfl (by first | exact Or.inl rfl | exact Or.inr rfl)) dgs_nil)) (sCons_len (sCons_len sNil_len)))) (fun _ _ _ _ _ => dts_nil) (fun _ _ _ _ _ => (de_call k_is_less hr (by decide) (by rfl) takes0 (da_cons (de_var 1) (da_cons (de_var 2) da_nil)))) rfl (by decide)))) dab_nil)))) (dss_one (ds_raise rfl T.x_BadDial tk (by rfl))) dss_nil))))
theorem ok_dial_marks {f : Addr} {fd : FuncData} (T : Txt K mg C_SandError C_BadPlace C_BadDial C_BadPosts C_BadLight C_BadPost C_BadLamp C_BadHeight A_LEAST_LIGHT A_MOST_LIGHT A_ZERO A_NEAR A_FAR t_MOST_PLACE t_MOST_POST t_MOST_POSTS t_MOST_NUMBER t_MOST_LAMP t_LEAST_HOURS t_MOST_HOURS) (Fn : Fun K "dial_marks" "dial_marks" s_dial_marks f fd) (k_check_posts : Callee P w K mg base 4 "check_posts" 1 f_check_posts) (k__check_dial : Callee P w K mg base 5 "_check_dial" 1 f__check_dial) (k_tip_in : Callee P w K mg base 4 "tip_in" 2 f_tip_in) : FnOk P w K mg base (L2.CX P w) 6 f fd ["place", "height", "dial"] (spD K mg 3 f_dial_marks) :=
  fn_okD (k := 5) (g := c_dial_marks) rfl rfl rfl Fn sc_dial_marks fun cdv A outer s H E hr tk hp =>
  (dss_cons (ds_drop (de_call k_check_posts hr (by decide) (by rfl) tk (da_cons (de_tup (da_cons (de_tup (da_cons (de_var 0) (da_cons (de_var 1) da_nil))) da_nil)) da_nil)))
  (dss_cons (ds_drop (de_call k__check_dial hr (by decide) (by rfl) tk (da_cons (de_var 2) da_nil)))
  (dss_one (ds_ret (de_callTy rc_tuple call_tuple_of (by rfl) T.b_tuple bt_tuple (dab_cons (DE.bor (DN.val (dn_lc rfl sc_dial_marks.nd (dib_seq (db_var 2)) (blkOk_by (N := N_dial_marks) (sc := defScope s_dial_marks) (own := [("light", 3)]) (by decide +kernel)) (fun _ _ _ _ _ => (dg_name (i := 3) sc_dial_marks.nd rfl (by first | exact Or.inl rfl | exact Or.inr rfl))) (fun _ _ _ _ _ => dts_nil) (fun _ _ _ _ _ => (de_call k_tip_in hr (by decide) (by rfl) takes0 (da_cons (de_tup (da_cons (de_var 0) (da_cons (de_var 1) da_nil))) (da_cons (de_var 3) da_nil)))) rfl (by decide)))) dab_nil))))))
theorem ok_hour_of {f : Addr} {fd : FuncData} (T : Txt K mg C_SandError C_BadPlace C_BadDial C_BadPosts C_BadLight C_BadPost C_BadLamp C_BadHeight A_LEAST_LIGHT A_MOST_LIGHT A_ZERO A_NEAR A_FAR t_MOST_PLACE t_MOST_POST t_MOST_POSTS t_MOST_NUMBER t_MOST_LAMP t_LEAST_HOURS t_MOST_HOURS) (Fn : Fun K "hour_of" "hour_of" s_hour_of f fd) (k_dial_marks : Callee P w K mg base 6 "dial_marks" 3 f_dial_marks) (k_check_place : Callee P w K mg base 3 "check_place" 1 f_check_place) (k_is_less : Callee P w K mg base 1 "is_less" 2 f_is_less) : FnOk P w K mg base (L2.CX P w) 7 f fd ["place", "height", "dial", "tip"] (spD K mg 4 f_hour_of) :=
  fn_okD (k := 6) (g := c_hour_of) rfl rfl rfl Fn sc_hour_of fun cdv A outer s H E hr tk hp =>
  (dss_cons (ds_asg (i := 4) sc_hour_of.nd rfl (by first | exact Or.inl rfl | exact Or.inr rfl) (DE.x (de_call k_dial_marks hr (by decide) (by rfl) tk (da_cons (de_var 0) (da_cons (de_var 1) (da_cons (de_var 2) da_nil))))))
  (dss_cons (ds_drop (de_call k_check_place hr (by decide) (by rfl) tk (da_cons (de_var 3) da_nil)))
  (dss_cons (ds_if (dt_cmp (op_inB (room65 hr)) rd_inB (db_var 3) (db_var 4) (by with_unfolding_all rfl)) (dss_one (ds_ret (de_tup (da_cons de_str (da_cons (de_meth rm_indexL PySem.F.slot_list_index PySem.F.type_list_index (mt_indexD (room65 hr)) (db_var 4) (dab_cons (db_var 3) dab_nil)) da_nil))))) dss_nil)
  (dss_one (ds_ret (de_tup (da_cons de_str (da_cons (de_op op_sub rd_sub (DE.bor (de_callB rc_len call_len (by rfl) T.b_len bt_len (dab_cons (DE.bor (DN.val (dn_lc rfl sc_hour_of.nd (dib_seq (db_var 4)) (blkOk_by (N := N_hour_of) (sc := defScope s_hour_of) (own := [("mark", 5)]) (by decide +kernel)) (fun _ _ _ _ _ => (dg_name (i := 5) sc_hour_of.nd rfl (by first | exact Or.inl rfl | exact Or.inr rfl))) (fun _ _ _ _ _ => (dts_one (dt_val (de_call k_is_less hr (by decide) (by rfl) takes0 (da_cons (de_var 5) (da_cons (de_var 3) da_nil)))))) (fun _ _ _ _ _ => (de_var 5)) rfl (by decide)))) dab_nil))) (DE.bor de_int)) da_nil))))))))
theorem ok__law_second {f : Addr} {fd : FuncData} (T : Txt K mg C_SandError C_BadPlace C_BadDial C_BadPosts C_BadLight C_BadPost C_BadLamp C_BadHeight A_LEAST_LIGHT A_MOST_LIGHT A_ZERO A_NEAR A_FAR t_MOST_PLACE t_MOST_POST t_MOST_POSTS t_MOST_NUMBER t_MOST_LAMP t_LEAST_HOURS t_MOST_HOURS) (Fn : Fun K "_law_second" "_law_second" s__law_second f fd) (k_light_meeting : Callee P w K mg base 6 "light_meeting" 3 f_light_meeting) (k_light_hiding : Callee P w K mg base 6 "light_hiding" 3 f_light_hiding) (k_meeting_lights : Callee P w K mg base 5 "meeting_lights" 1 f_meeting_lights) (k_lamp_tips : Callee P w K mg base 5 "lamp_tips" 2 f_lamp_tips) (k_dark_of : Callee P w K mg base 5 "dark_of" 2 f_dark_of) (k_both_dark : Callee P w K mg base 7 "both_dark" 3 f_both_dark) (k_lamp_meeting : Callee P w K mg base 6 "lamp_meeting" 4 f_lamp_meeting) (k_light_from : Callee P w K mg base 5 "light_from" 2 f_light_from) (k_dial_marks : Callee P w K mg base 6 "dial_marks" 3 f_dial_marks) (k_hour_of : Callee P w K mg base 7 "hour_of" 4 f_hour_of) : FnOk P w K mg base (L2.CX P w) 8 f fd ["way", "posts"] (spD K mg 2 f__law_second) :=
  fn_okD (k := 7) (g := c__law_second) rfl rfl rfl Fn sc__law_second fun cdv A outer s H E hr tk hp =>
  (dss_one (ds_if (dt_cmp (op_eqD (room64 hr)) rd_eq (db_var 0) (DE.bor de_int) (nomark _)) (dss_one (ds_drop (de_call k_light_meeting hr (by decide) (by rfl) tk (da_cons (de_var 1) (da_cons de_non (da_cons de_non da_nil)))))) (dss_one (ds_if (dt_cmp (op_eqD (room64 hr)) rd_eq (db_var 0) (DE.bor de_int) (nomark _)) (dss_one (ds_drop (de_call k_light_hiding hr (by decide) (by rfl) tk (da_cons (de_var 1) (da_cons de_non (da_cons de_non da_nil)))))) (dss_one (ds_if (dt_cmp (op_eqD (room64 hr)) rd_eq (db_var 0) (DE.bor de_int) (nomark _)) (dss_one (ds_drop (de_call k_meeting_lights hr (by decide) (by rfl) tk (da_cons (de_var 1) da_nil)))) (dss_one (ds_if (dt_cmp (op_eqD (room64 hr)) rd_eq (db_var 0) (DE.bor de_int) (nomark _)) (dss_one (ds_drop (de_call k_lamp_tips hr (by decide) (by rfl) tk (da_cons (de_var 1) (da_cons de_non da_nil))))) (dss_one (ds_if (dt_cmp (op_eqD (room64 hr)) rd_eq (db_var 0) (DE.bor de_int) (nomark _)) (dss_one (ds_drop (de_call k_dark_of hr (by decide) (by rfl) tk (da_cons (de_var 1) (da_cons de_non da_nil))))) (dss_one (ds_if (dt_cmp (op_eqD (room64 hr)) rd_eq (db_var 0) (DE.bor de_int) (nomark _)) (dss_one (ds_drop (de_call k_both_dark hr (by decide) (by rfl) tk (da_cons (de_var 1) (da_cons de_non (da_cons de_non da_nil)))))) (dss_one (ds_if (dt_cmp (op_eqD (room64 hr)) rd_eq (db_var 0) (DE.bor de_int) (nomark _)) (dss_one (ds_drop (de_call k_lamp_meeting hr (by decide) (by rfl) tk (da_cons (de_var 1) (da_cons de_non (da_cons de_non (da_cons de_non da_nil))))))) (dss_one (ds_if (dt_cmp (op_eqD (room64 hr)) rd_eq (db_var 0) (DE.bor de_int) (nomark _)) (dss_one (ds_drop (de_call k_light_from hr (by decide) (by rfl) tk (da_cons (de_var 1) (da_cons de_non da_nil))))) (dss_one (ds_if (dt_cmp (op_eqD (room64 hr)) rd_eq (db_var 0) (DE.bor de_int) (nomark _)) (dss_one (ds_drop (de_call k_dial_marks hr (by decide) (by rfl) tk (da_cons (de_var 1) (da_cons de_non (da_cons de_non da_nil)))))) (dss_one (ds_drop (de_call k_hour_of hr (by decide) (by rfl) tk (da_cons (de_var 1) (da_cons de_non (da_cons de_non (da_cons de_non da_nil)))))))))))))))))))))))))
theorem ok__law_error {f : Addr} {fd : FuncData} (T : Txt K mg C_SandError C_BadPlace C_BadDial C_BadPosts C_BadLight C_BadPost C_BadLamp C_BadHeight A_LEAST_LIGHT A_MOST_LIGHT A_ZERO A_NEAR A_FAR t_MOST_PLACE t_MOST_POST t_MOST_POSTS t_MOST_NUMBER t_MOST_LAMP t_LEAST_HOURS t_MOST_HOURS) (Fn : Fun K "_law_error" "_law_error" s__law_error f fd) (k__law_first : Callee P w K mg base 8 "_law_first" 3 f__law_first) (k__law_second : Callee P w K mg base 8 "_law_second" 2 f__law_second) : FnOk P w K mg base (L2.CX P w) 9 f fd ["way", "posts", "light"] (spD K mg 3 f__law_error) :=
  fn_okD (k := 8) (g := c__law_error) rfl rfl rfl Fn sc__law_error fun cdv A outer s H E hr tk hp =>
  (dss_cons (ds_try rfl rfl sc__law_error.nd tk (fun W pn xe tk hp => (dss_one (ds_if (dt_cmp op_ltD rd_lt (db_var 0) (DE.bor de_int) (nomark _)) (dss_one (ds_drop (de_call k__law_first hr (by decide) (by rfl) tk (da_cons (de_var 0) (da_cons (de_var 1) (da_cons (de_var 2) da_nil)))))) (dss_one (ds_drop (de_call k__law_second hr (by decide) (by rfl) tk (da_cons (de_var 0) (da_cons (de_var 1) da_nil)))))))) (.plain ⟨by rfl, by decide, .inl T.x_BadPosts.gC⟩ T.h_BadPosts (fun a pn => (dss_one (ds_ret de_str))) (.plain ⟨by rfl, by decide, .inl T.x_BadLight.gC⟩ T.h_BadLight (fun a pn => (dss_one (ds_ret de_str))) (.plain ⟨by rfl, by decide, .inl T.x_BadPost.gC⟩ T.h_BadPost (fun a pn => (dss_one (ds_ret de_str))) (.named ⟨by rfl, by decide, .inl T.x_SandError.gC⟩ T.h_SandError rfl rfl (ex_if (et_isx (i := 3) T.i_BadPlace (by rfl) T.b_isinstance (by rfl) T.x_BadPlace.gC) (ex_de fun a pn => de_str) (ex_de fun a pn => de_str)) .nil)))))
  (dss_one (ds_ret de_str)))
theorem ok__law_plus {f : Addr} {fd : FuncData} (T : Txt K mg C_SandError C_BadPlace C_BadDial C_BadPosts C_BadLight C_BadPost C_BadLamp C_BadHeight A_LEAST_LIGHT A_MOST_LIGHT A_ZERO A_NEAR A_FAR t_MOST_PLACE t_MOST_POST t_MOST_POSTS t_MOST_NUMBER t_MOST_LAMP t_LEAST_HOURS t_MOST_HOURS) (Fn : Fun K "_law_plus" "_law_plus" s__law_plus f fd) (k__law_plain : Callee P w K mg base 1 "_law_plain" 2 f__law_plain) : FnOk P w K mg base (L2.CX P w) 2 f fd ["one", "two"] (spD K mg 2 f__law_plus) :=
  fn_okD (k := 1) (g := c__law_plus) rfl rfl rfl Fn sc__law_plus fun cdv A outer s H E hr tk hp =>
  (dss_one (ds_ret (de_call k__law_plain hr (by decide) (by rfl) tk (da_cons (de_op op_addD rd_add (DE.bor (de_op op_mulD rd_mul (DE.bor (de_ix (ixA (room1 hr)) rd_ixA (db_var 0) (DE.bor de_int))) (DE.bor (de_ix (ixA (room1 hr)) rd_ixA (db_var 1) (DE.bor de_int))))) (DE.bor (de_op op_mulD rd_mul (DE.bor (de_ix (ixA (room1 hr)) rd_ixA (db_var 1) (DE.bor de_int))) (DE.bor (de_ix (ixA (room1 hr)) rd_ixA (db_var 0) (DE.bor de_int)))))) (da_cons (de_op op_mulD rd_mul (DE.bor (de_ix (ixA (room1 hr)) rd_ixA (db_var 0) (DE.bor de_int))) (DE.bor (de_ix (ixA (room1 hr)) rd_ixA (db_var 1) (DE.bor de_int)))) da_nil)))))
theorem ok__law_less {f : Addr} {fd : FuncData} (T : Txt K mg C_SandError C_BadPlace C_BadDial C_BadPosts C_BadLight C_BadPost C_BadLamp C_BadHeight A_LEAST_LIGHT A_MOST_LIGHT A_ZERO A_NEAR A_FAR t_MOST_PLACE t_MOST_POST t_MOST_POSTS t_MOST_NUMBER t_MOST_LAMP t_LEAST_HOURS t_MOST_HOURS) (Fn : Fun K "_law_less" "_law_less" s__law_less f fd) : FnOk P w K mg base (L2.CX P w) 1 f fd ["one", "two"] (spD K mg 2 f__law_less) :=
  fn_okD (k := 0) (g := c__law_less) rfl rfl rfl Fn sc__law_less fun cdv A outer s H E hr tk hp =>
  (dss_one (ds_ret (de_cmp op_ltD rd_lt (DE.bor (de_op op_mulD rd_mul (DE.bor (de_ix (ixA (room1 hr)) rd_ixA (db_var 0) (DE.bor de_int))) (DE.bor (de_ix (ixA (room1 hr)) rd_ixA (db_var 1) (DE.bor de_int))))) (DE.bor (de_op op_mulD rd_mul (DE.bor (de_ix (ixA (room1 hr)) rd_ixA (db_var 1) (DE.bor de_int))) (DE.bor (de_ix (ixA (room1 hr)) rd_ixA (db_var 0) (DE.bor de_int))))) (nomark _))))
theorem ok__law_by {f : Addr} {fd : FuncData} (T : Txt K mg C_SandError C_BadPlace C_BadDial C_BadPosts C_BadLight C_BadPost C_BadLamp C_BadHeight A_LEAST_LIGHT A_MOST_LIGHT A_ZERO A_NEAR A_FAR t_MOST_PLACE t_MOST_POST t_MOST_POSTS t_MOST_NUMBER t_MOST_LAMP t_LEAST_HOURS t_MOST_HOURS) (Fn : Fun K "_law_by" "_law_by" s__law_by f fd) (k__law_plain : Callee P w K mg base 1 "_law_plain" 2 f__law_plain) : FnOk P w K mg base (L2.CX P w) 2 f fd ["one", "two"] (spD K mg 2 f__law_by) :=
  fn_okD (k := 1) (g := c__law_by) rfl rfl rfl Fn sc__law_by fun cdv A outer s H E hr tk hp =>
  (dss_one (ds_ret (de_call k__law_plain hr (by decide) (by rfl) tk (da_cons (de_op op_mulD rd_mul (DE.bor (de_ix (ixA (room1 hr)) rd_ixA (db_var 0) (DE.bor de_int))) (DE.bor (de_ix (ixA (room1 hr)) rd_ixA (db_var 1) (DE.bor de_int)))) (da_cons (de_op op_mulD rd_mul (DE.bor (de_ix (ixA (room1 hr)) rd_ixA (db_var 0) (DE.bor de_int))) (DE.bor (de_ix (ixA (room1 hr)) rd_ixA (db_var 1) (DE.bor de_int)))) da_nil)))))
theorem ok__law_span {f : Addr} {fd : FuncData} (T : Txt K mg C_SandError C_BadPlace C_BadDial C_BadPosts C_BadLight C_BadPost C_BadLamp C_BadHeight A_LEAST_LIGHT A_MOST_LIGHT A_ZERO A_NEAR A_FAR t_MOST_PLACE t_MOST_POST t_MOST_POSTS t_MOST_NUMBER t_MOST_LAMP t_LEAST_HOURS t_MOST_HOURS) (Fn : Fun K "_law_span" "_law_span" s__law_span f fd) (k__law_plus : Callee P w K mg base 2 "_law_plus" 2 f__law_plus) (k__law_by : Callee P w K mg base 2 "_law_by" 2 f__law_by) (k__law_less : Callee P w K mg base 1 "_law_less" 2 f__law_less) : FnOk P w K mg base (L2.CX P w) 3 f fd ["post", "light"] (spD K mg 2 f__law_span) :=
  fn_okD (k := 2) (g := c__law_span) rfl rfl rfl Fn sc__law_span fun cdv A outer s H E hr tk hp =>
  (dss_cons (ds_par (i := 2) (j := 3) rfl sc__law_span.nd rfl rfl (by decide) rfl rfl (DE.x (de_tup (da_cons (de_ix (ixA (room1 hr)) rd_ixA (db_var 0) (DE.bor de_int)) (da_cons de_int da_nil)))) (DE.x (de_call k__law_plus hr (by decide) (by rfl) tk (da_cons (de_tup (da_cons (de_ix (ixA (room1 hr)) rd_ixA (db_var 0) (DE.bor de_int)) (da_cons de_int da_nil))) (da_cons (de_call k__law_by hr (by decide) (by rfl) tk (da_cons (de_tup (da_cons (de_ix (ixA (room1 hr)) rd_ixA (db_var 0) (DE.bor de_int)) (da_cons de_int da_nil))) (da_cons (de_var 1) da_nil))) da_nil)))) rfl)
  (dss_one (ds_ret (de_if (dt_val (de_call k__law_less hr (by decide) (by rfl) tk (da_cons (de_var 3) (da_cons (de_var 2) da_nil)))) (de_tup (da_cons (de_var 3) (da_cons (de_var 2) da_nil))) (de_tup (da_cons (de_var 2) (da_cons (de_var 3) da_nil)))))))
theorem ok_law {f : Addr} {fd : FuncData} (T : Txt K mg C_SandError C_BadPlace C_BadDial C_BadPosts C_BadLight C_BadPost C_BadLamp C_BadHeight A_LEAST_LIGHT A_MOST_LIGHT A_ZERO A_NEAR A_FAR t_MOST_PLACE t_MOST_POST t_MOST_POSTS t_MOST_NUMBER t_MOST_LAMP t_LEAST_HOURS t_MOST_HOURS) (Fn : Fun K "law" "law" s_law f fd) (k__law_draws : Callee P w K mg base 1 "_law_draws" 2 f__law_draws) (k__law_posts : Callee P w K mg base 1 "_law_posts" 2 f__law_posts) (k__law_light : Callee P w K mg base 2 "_law_light" 1 f__law_light) (k_tips_of : Callee P w K mg base 6 "tips_of" 2 f_tips_of) (k__law_plus : Callee P w K mg base 2 "_law_plus" 2 f__law_plus) (k__law_by : Callee P w K mg base 2 "_law_by" 2 f__law_by) (k_shadows_of : Callee P w K mg base 6 "shadows_of" 2 f_shadows_of) (k__law_span : Callee P w K mg base 3 "_law_span" 2 f__law_span) (k__law_are_posts : Callee P w K mg base 2 "_law_are_posts" 1 f__law_are_posts) (k_are_posts : Callee P w K mg base 3 "are_posts" 1 f_are_posts) (k__law_error : Callee P w K mg base 9 "_law_error" 3 f__law_error) (k__law_is_light : Callee P w K mg base 2 "_law_is_light" 1 f__law_is_light) (k_is_light : Callee P w K mg base 4 "is_light" 1 f_is_light) : FnOk P w K mg base (L2.CX P w) 10 f fd ["script"] (spD K mg 1 f_law) :=
  fn_okD (k := 9) (g := c_law) rfl rfl rfl Fn sc_law fun cdv A outer s H E hr tk hp =>
  (dss_cons (ds_asg (i := 1) sc_law.nd rfl (by first | exact Or.inl rfl | exact Or.inr rfl) (DE.x (de_call k__law_draws hr (by decide) (by rfl) tk (da_cons (de_var 0) (da_cons de_int da_nil)))))
  (dss_cons (ds_for hp rfl (di_range1 (by rfl) T.b_range (da_cons de_int da_nil)) (dg_name (i := 2) sc_law.nd rfl (by first | exact Or.inl rfl | exact Or.inr rfl)) (dss_cons (ds_to (de_tup (da_cons (de_call k__law_posts hr (by decide) (by rfl) tk (da_cons (de_sl (db_var 1) (do_some (de_op op_mulD rd_mul (DE.bor de_int) (db_var 2))) do_none) (da_cons de_int da_nil))) (da_cons (de_call k__law_light hr (by decide) (by rfl) tk (da_cons (de_callTy rc_int call_intD (by rfl) T.b_int bt_int (dab_cons (DE.bor (de_ix (ixA (room1 hr)) rd_ixA (db_var 1) (DE.bor (de_op op_addD rd_add (DE.bor de_int) (db_var 2))))) dab_nil)) da_nil)) da_nil))) (dg_tup rfl (dgs_cons (dg_name (i := 3) sc_law.nd rfl (by first | exact Or.inl rfl | exact Or.inr rfl)) (dgs_cons (dg_name (i := 4) sc_law.nd rfl (by first | exact Or.inl rfl | exact Or.inr rfl)) dgs_nil)) (sCons_len (sCons_len sNil_len))))
  (dss_cons (ds_if (dt_cmp (op_neD (room64 hr)) rd_ne (DE.bor (de_call k_tips_of hr (by decide) (by rfl) tk (da_cons (de_var 3) (da_cons (de_var 4) da_nil)))) (DE.bor (de_callTy rc_tuple call_tuple_of (by rfl) T.b_tuple bt_tuple (dab_cons (DE.bor (DN.val (dn_lc rfl sc_law.nd (dib_seq (db_var 3)) (blkOk_by (N := N_law) (sc := defScope s_law) (own := [("post", 14)]) (by decide +kernel)) (fun _ _ _ _ _ => (dg_name (i := 14) sc_law.nd rfl (by first | exact Or.inl rfl | exact Or.inr rfl))) (fun _ _ _ _ _ => dts_nil) (fun _ _ _ _ _ => (de_call k__law_plus hr (by decide) (by rfl) takes0 (da_cons (de_tup (da_cons (de_ix (ixA (room1 hr)) rd_ixA (db_var 14) (DE.bor de_int)) (da_cons de_int da_nil))) (da_cons (de_call k__law_by hr (by decide) (by rfl) takes0 (da_cons (de_tup (da_cons (de_ix (ixA (room1 hr)) rd_ixA (db_var 14) (DE.bor de_int)) (da_cons de_int da_nil))) (da_cons (de_var 4) da_nil))) da_nil)))) rfl (by decide)))) dab_nil))) (nomark _)) (dss_one (ds_ret de_bl)) dss_nil)
  (dss_cons (ds_if (dt_cmp (op_neD (room64 hr)) rd_ne (DE.bor (de_call k_shadows_of hr (by decide) (by rfl) tk (da_cons (de_var 3) (da_cons (de_var 4) da_nil)))) (DE.bor (de_callTy rc_tuple call_tuple_of (by rfl) T.b_tuple bt_tuple (dab_cons (DE.bor (DN.val (dn_lc rfl sc_law.nd (dib_seq (db_var 3)) (blkOk_by (N := N_law) (sc := defScope s_law) (own := [("post", 14)]) (by decide +kernel)) (fun _ _ _ _ _ => (dg_name (i := 14) sc_law.nd rfl (by first | exact Or.inl rfl | exact Or.inr rfl))) (fun _ _ _ _ _ => dts_nil) (fun _ _ _ _ _ => (de_call k__law_span hr (by decide) (by rfl) takes0 (da_cons (de_var 14) (da_cons (de_var 4) da_nil)))) rfl (by decide)))) dab_nil))) (nomark _)) (dss_one (ds_ret de_bl)) dss_nil)
  (dss_cons (ds_asg (i := 5) sc_law.nd rfl (by first | exact Or.inl rfl | exact Or.inr rfl) (DE.x (de_op op_mod rd_mod (DE.bor (de_callTy rc_int call_intD (by rfl) T.b_int bt_int (dab_cons (DE.bor (de_ix (ixA (room1 hr)) rd_ixA (db_var 1) (DE.bor (de_op op_addD rd_add (DE.bor de_int) (db_var 2))))) dab_nil))) (DE.bor (de_callB rc_len call_len (by rfl) T.b_len bt_len (dab_cons (db_var 3) dab_nil))))))
  (dss_cons (ds_to (de_ix (ixA (room1 hr)) rd_ixA (db_var 3) (db_var 5)) (dg_tup rfl (dgs_cons (dg_name (i := 6) sc_law.nd rfl (by first | exact Or.inl rfl | exact Or.inr rfl)) (dgs_cons (dg_name (i := 7) sc_law.nd rfl (by first | exact Or.inl rfl | exact Or.inr rfl)) dgs_nil)) (sCons_len (sCons_len sNil_len))))
  (dss_cons (ds_asg (i := 8) sc_law.nd rfl (by first | exact Or.inl rfl | exact Or.inr rfl) (DE.x (DN.val (dn_lst (da_cons (de_tup (da_cons (de_var 6) (da_cons de_int da_nil))) (da_cons (de_tup (da_cons (de_var 6) (da_cons de_int da_nil))) (da_cons (de_tup (da_cons (de_neg de_int) (da_cons (de_var 7) da_nil))) (da_cons (de_tup (da_cons de_int (da_cons (de_var 7) da_nil))) (da_cons (de_tup (da_cons de_bl (da_cons (de_var 7) da_nil))) (da_cons (de_tup (da_cons (de_var 6) (da_cons de_bl da_nil))) (da_cons (de_tup (da_cons (de_var 6) (da_cons de_non da_nil))) (da_cons (de_tup (da_cons de_str (da_cons (de_var 7) da_nil))) (da_cons (de_tup (da_cons (de_var 6) da_nil)) da_nil)))))))))))))
  (dss_cons (ds_asg (i := 8) sc_law.nd rfl (by first | exact Or.inl rfl | exact Or.inr rfl) (DE.x (de_op op_addD rd_add (db_var 8) (DE.bor (DN.val (dn_lst (da_cons (de_tup (da_cons (de_var 6) (da_cons (de_var 7) (da_cons de_int da_nil)))) (da_cons (DN.val (dn_lst (da_cons (de_var 6) (da_cons (de_var 7) da_nil)))) (da_cons de_non (da_cons (de_tup (da_cons de_int (da_cons de_int da_nil))) (da_cons (de_tup (da_cons de_int (da_cons de_int da_nil))) (da_cons (de_ix (ixA (room1 hr)) rd_ixA (db_var 3) (DE.bor (de_op op_sub rd_sub (db_var 5) (DE.bor de_int)))) da_nil))))))))))))
  (dss_cons (ds_for hp rfl (di_seq (de_op op_addD rd_add (DE.bor (DN.val (dn_lc rfl sc_law.nd (dib_seq (db_var 8)) (blkOk_by (N := N_law) (sc := defScope s_law) (own := [("item", 12)]) (by decide +kernel)) (fun _ _ _ _ _ => (dg_name (i := 12) sc_law.nd rfl (by first | exact Or.inl rfl | exact Or.inr rfl))) (fun _ _ _ _ _ => dts_nil) (fun _ _ _ _ _ => (de_op op_addD rd_add (DE.bor (de_op op_addD rd_add (DE.bor (de_sl (db_var 3) do_none (do_some (de_var 5)))) (DE.bor (de_tup (da_cons (de_var 12) da_nil))))) (DE.bor (de_sl (db_var 3) (do_some (de_op op_addD rd_add (db_var 5) (DE.bor de_int))) do_none)))) rfl (by decide)))) (DE.bor (DN.val (dn_lst (da_cons (de_var 3) (da_cons (de_callTy rc_list call_list_of (by rfl) T.b_list bt_list (dab_cons (db_var 3) dab_nil)) (da_cons (de_tup da_nil) (da_cons de_non (da_cons de_int (da_cons (de_rev (db_var 3)) (da_cons (de_op op_addD rd_add (db_var 3) (DE.bor (de_sl (db_var 3) do_none (do_some de_int)))) (da_cons (de_op op_mulD rd_mul (db_var 3) (DE.bor de_int)) da_nil))))))))))))) (dg_name (i := 9) sc_law.nd rfl (by first | exact Or.inl rfl | exact Or.inr rfl)) (dss_cons (ds_asg (i := 10) sc_law.nd rfl (by first | exact Or.inl rfl | exact Or.inr rfl) (DE.x (de_call k__law_are_posts hr (by decide) (by rfl) tk (da_cons (de_var 9) da_nil))))
  (dss_one (ds_if (DW.dt (dw_or (dt_cmp (op_neD (room64 hr)) rd_ne (DE.bor (de_call k_are_posts hr (by decide) (by rfl) tk (da_cons (de_var 9) da_nil))) (db_var 10) (nomark _)) (dw_or (dt_not (dt_val (de_isinst is_bool (by rfl) T.b_isinstance (by rfl) T.b_bool (DE.bor (de_call k_are_posts hr (by decide) (by rfl) tk (da_cons (de_var 9) da_nil)))))) (dw_or1 (DW.dt (dw_and (dt_not (dt_val (de_var 10))) (dw_and1 (dt_cmp (op_neD (room64 hr)) rd_ne (DE.bor (DN.val (dn_lc rfl sc_law.nd (DI.b (di_range1 (by rfl) T.b_range (da_cons de_int da_nil))) (blkOk_by (N := N_law) (sc := defScope s_law) (own := [("way", 13)]) (by decide +kernel)) (fun _ _ _ _ _ => (dg_name (i := 13) sc_law.nd rfl (by first | exact Or.inl rfl | exact Or.inr rfl))) (fun _ _ _ _ _ => dts_nil) (fun _ _ _ _ _ => (de_call k__law_error hr (by decide) (by rfl) takes0 (da_cons (de_var 13) (da_cons (de_var 9) (da_cons de_non da_nil))))) rfl (by decide)))) (DE.bor (de_op op_mulD rd_mul (DE.bor (DN.val (dn_lst (da_cons de_str da_nil)))) (DE.bor de_int))) (nomark _))))))))) (dss_one (ds_ret de_bl)) dss_nil))))
  (dss_cons (ds_asg (i := 11) sc_law.nd rfl (by first | exact Or.inl rfl | exact Or.inr rfl) (DE.x (DN.val (dn_lst (da_cons (de_tup (da_cons de_int (da_cons de_int da_nil))) (da_cons (de_tup (da_cons (de_neg de_int) (da_cons de_int da_nil))) (da_cons (de_tup (da_cons de_int (da_cons de_int da_nil))) (da_cons (de_tup (da_cons de_int (da_cons de_int da_nil))) (da_cons (de_tup (da_cons de_int (da_cons (de_neg de_int) da_nil))) (da_cons (de_tup (da_cons de_bl (da_cons de_int da_nil))) (da_cons (de_tup (da_cons de_int (da_cons de_bl da_nil))) (da_cons de_non (da_cons de_int (da_cons (de_tup (da_cons de_int da_nil)) (da_cons (DN.val (dn_lst (da_cons de_int (da_cons de_int da_nil)))) (da_cons (de_tup (da_cons de_str (da_cons de_int da_nil))) (da_cons (de_tup (da_cons de_int (da_cons (de_op op_addD rd_add (DE.bor (de_op op_pow rd_pow (DE.bor de_int) (DE.bor de_int))) (DE.bor de_int)) da_nil))) (da_cons (de_tup (da_cons (de_op op_pow rd_pow (DE.bor de_int) (DE.bor de_int)) (da_cons (de_op op_pow rd_pow (DE.bor de_int) (DE.bor de_int)) da_nil))) (da_cons (de_tup (da_cons de_int (da_cons de_int da_nil))) da_nil)))))))))))))))))))
  (dss_cons (ds_for hp rfl (di_seq (de_op op_addD rd_add (db_var 11) (DE.bor (DN.val (dn_lst (da_cons (de_var 4) (da_cons (de_tup (da_cons de_int (da_cons de_int da_nil))) (da_cons (de_tup (da_cons (de_neg de_int) (da_cons de_int da_nil))) (da_cons (de_tup (da_cons de_int (da_cons de_int da_nil))) (da_cons (de_tup (da_cons de_int (da_cons (de_op op_pow rd_pow (DE.bor de_int) (DE.bor de_int)) da_nil))) (da_cons (de_tup (da_cons de_int (da_cons (de_op op_pow rd_pow (DE.bor de_int) (DE.bor de_int)) da_nil))) da_nil))))))))))) (dg_name (i := 9) sc_law.nd rfl (by first | exact Or.inl rfl | exact Or.inr rfl)) (dss_cons (ds_asg (i := 10) sc_law.nd rfl (by first | exact Or.inl rfl | exact Or.inr rfl) (DE.x (de_call k__law_is_light hr (by decide) (by rfl) tk (da_cons (de_var 9) da_nil))))
  (dss_one (ds_if (DW.dt (dw_or (dt_cmp (op_neD (room64 hr)) rd_ne (DE.bor (de_call k_is_light hr (by decide) (by rfl) tk (da_cons (de_var 9) da_nil))) (db_var 10) (nomark _)) (dw_or (dt_not (dt_val (de_isinst is_bool (by rfl) T.b_isinstance (by rfl) T.b_bool (DE.bor (de_call k_is_light hr (by decide) (by rfl) tk (da_cons (de_var 9) da_nil)))))) (dw_or1 (DW.dt (dw_and (dt_not (dt_val (de_var 10))) (dw_and1 (dt_cmp (op_neD (room64 hr)) rd_ne (DE.bor (DN.val (dn_lc rfl sc_law.nd (DI.b (di_range1 (by rfl) T.b_range (da_cons de_int da_nil))) (blkOk_by (N := N_law) (sc := defScope s_law) (own := [("way", 13)]) (by decide +kernel)) (fun _ _ _ _ _ => (dg_name (i := 13) sc_law.nd rfl (by first | exact Or.inl rfl | exact Or.inr rfl))) (fun _ _ _ _ _ => dts_nil) (fun _ _ _ _ _ => (de_call k__law_error hr (by decide) (by rfl) takes0 (da_cons (de_var 13) (da_cons (de_var 3) (da_cons (de_var 9) da_nil))))) rfl (by decide)))) (DE.bor (de_op op_mulD rd_mul (DE.bor (DN.val (dn_lst (da_cons de_str da_nil)))) (DE.bor de_int))) (nomark _))))))))) (dss_one (ds_ret de_bl)) dss_nil))))
  (dss_cons (ds_if (DW.dt (dw_or (dt_cmp (op_neD (room64 hr)) rd_ne (DE.bor (DN.val (dn_lc rfl sc_law.nd (DI.b (di_range1 (by rfl) T.b_range (da_cons de_int da_nil))) (blkOk_by (N := N_law) (sc := defScope s_law) (own := [("way", 13)]) (by decide +kernel)) (fun _ _ _ _ _ => (dg_name (i := 13) sc_law.nd rfl (by first | exact Or.inl rfl | exact Or.inr rfl))) (fun _ _ _ _ _ => dts_nil) (fun _ _ _ _ _ => (de_call k__law_error hr (by decide) (by rfl) takes0 (da_cons (de_var 13) (da_cons de_non (da_cons de_non da_nil))))) rfl (by decide)))) (DE.bor (de_op op_mulD rd_mul (DE.bor (DN.val (dn_lst (da_cons de_str da_nil)))) (DE.bor de_int))) (nomark _)) (dw_or (dt_cmp (op_neD (room64 hr)) rd_ne (DE.bor (de_call k__law_error hr (by decide) (by rfl) tk (da_cons de_int (da_cons (de_ix (ixA (room1 hr)) rd_ixA (db_var 3) (DE.bor de_int)) (da_cons de_non da_nil))))) (DE.bor de_str) (nomark _)) (dw_or1 (dt_cmp (op_neD (room64 hr)) rd_ne (DE.bor (de_call k__law_error hr (by decide) (by rfl) tk (da_cons de_int (da_cons (de_var 3) (da_cons (de_var 4) da_nil))))) (DE.bor de_str) (nomark _)))))) (dss_one (ds_ret de_bl)) dss_nil)
  (dss_one (ds_if (dt_cmp (op_neD (room64 hr)) rd_ne (DE.bor (DN.val (dn_lc rfl sc_law.nd (dib_seq (DE.bor (de_tup (da_cons de_int (da_cons de_int (da_cons de_int (da_cons de_int da_nil))))))) (blkOk_by (N := N_law) (sc := defScope s_law) (own := [("way", 13)]) (by decide +kernel)) (fun _ _ _ _ _ => (dg_name (i := 13) sc_law.nd rfl (by first | exact Or.inl rfl | exact Or.inr rfl))) (fun _ _ _ _ _ => dts_nil) (fun _ _ _ _ _ => (de_call k__law_error hr (by decide) (by rfl) takes0 (da_cons (de_var 13) (da_cons (de_var 3) (da_cons (de_var 4) da_nil))))) rfl (by decide)))) (DE.bor (de_op op_mulD rd_mul (DE.bor (DN.val (dn_lst (da_cons de_str da_nil)))) (DE.bor de_int))) (nomark _)) (dss_one (ds_ret de_bl)) dss_nil))))))))))))))
  (dss_one (ds_ret (de_and (de_cmp (op_eqD (room64 hr)) rd_eq (DE.bor (de_call k_tips_of hr (by decide) (by rfl) tk (da_cons (de_tup (da_cons (de_tup (da_cons de_int (da_cons de_int da_nil))) (da_cons (de_tup (da_cons de_int (da_cons de_int da_nil))) da_nil))) (da_cons (de_tup (da_cons de_int (da_cons de_int da_nil))) da_nil)))) (DE.bor (de_tup (da_cons (de_tup (da_cons de_int (da_cons de_int da_nil))) (da_cons (de_tup (da_cons de_int (da_cons de_int da_nil))) da_nil)))) (nomark _)) (de_one (de_cmp (op_eqD (room64 hr)) rd_eq (DE.bor (de_call k_shadows_of hr (by decide) (by rfl) tk (da_cons (de_tup (da_cons (de_tup (da_cons de_int (da_cons de_int da_nil))) da_nil)) (da_cons (de_tup (da_cons (de_neg de_int) (da_cons de_int da_nil))) da_nil)))) (DE.bor (de_tup (da_cons (de_tup (da_cons (de_tup (da_cons de_int (da_cons de_int da_nil))) (da_cons (de_tup (da_cons de_int (da_cons de_int da_nil))) da_nil))) da_nil))) (nomark _))))))))
end
theorem all_mk {l : PySem.W.OpenLaw} {w : World} {K : PySem.W.Frag} {h : Heap} {mg : Str → Option Value} {fa : Addr} (X : K.In h) (G : h.Ns mainGlobals mg) (hfa : mg "law" = some (.ref fa))
    {p__law_draws : Addr} {od__law_draws an__law_draws : Option Addr} {sl__law_draws : Array (Option Value)} {oc__law_draws kV__law_draws dc__law_draws pm__law_draws cd__law_draws ct__law_draws : Value}
    {p__law_posts : Addr} {od__law_posts an__law_posts : Option Addr} {sl__law_posts : Array (Option Value)} {oc__law_posts kV__law_posts dc__law_posts pm__law_posts cd__law_posts ct__law_posts : Value}
    {p__law_plain : Addr} {od__law_plain an__law_plain : Option Addr} {sl__law_plain : Array (Option Value)} {oc__law_plain kV__law_plain dc__law_plain pm__law_plain cd__law_plain ct__law_plain : Value}
    {p__law_light : Addr} {od__law_light an__law_light : Option Addr} {sl__law_light : Array (Option Value)} {oc__law_light kV__law_light dc__law_light pm__law_light cd__law_light ct__law_light : Value}
    {p_ascends : Addr} {od_ascends an_ascends : Option Addr} {sl_ascends : Array (Option Value)} {oc_ascends kV_ascends dc_ascends pm_ascends cd_ascends ct_ascends : Value}
    {p_is_whole : Addr} {od_is_whole an_is_whole : Option Addr} {sl_is_whole : Array (Option Value)} {oc_is_whole kV_is_whole dc_is_whole pm_is_whole cd_is_whole ct_is_whole : Value}
    {p_is_post : Addr} {od_is_post an_is_post : Option Addr} {sl_is_post : Array (Option Value)} {oc_is_post kV_is_post dc_is_post pm_is_post cd_is_post ct_is_post : Value}
    {p_are_posts : Addr} {od_are_posts an_are_posts : Option Addr} {sl_are_posts : Array (Option Value)} {oc_are_posts kV_are_posts dc_are_posts pm_are_posts cd_are_posts ct_are_posts : Value}
    {p_check_posts : Addr} {od_check_posts an_check_posts : Option Addr} {sl_check_posts : Array (Option Value)} {oc_check_posts kV_check_posts dc_check_posts pm_check_posts cd_check_posts ct_check_posts : Value}
    {p_divisor : Addr} {od_divisor an_divisor : Option Addr} {sl_divisor : Array (Option Value)} {oc_divisor kV_divisor dc_divisor pm_divisor cd_divisor ct_divisor : Value}
    {p_is_ratio : Addr} {od_is_ratio an_is_ratio : Option Addr} {sl_is_ratio : Array (Option Value)} {oc_is_ratio kV_is_ratio dc_is_ratio pm_is_ratio cd_is_ratio ct_is_ratio : Value}
    {p_is_small : Addr} {od_is_small an_is_small : Option Addr} {sl_is_small : Array (Option Value)} {oc_is_small kV_is_small dc_is_small pm_is_small cd_is_small ct_is_small : Value}
    {p_is_less : Addr} {od_is_less an_is_less : Option Addr} {sl_is_less : Array (Option Value)} {oc_is_less kV_is_less dc_is_less pm_is_less cd_is_less ct_is_less : Value}
    {p_is_light : Addr} {od_is_light an_is_light : Option Addr} {sl_is_light : Array (Option Value)} {oc_is_light kV_is_light dc_is_light pm_is_light cd_is_light ct_is_light : Value}
    {p__check : Addr} {od__check an__check : Option Addr} {sl__check : Array (Option Value)} {oc__check kV__check dc__check pm__check cd__check ct__check : Value}
    {p_ratio : Addr} {od_ratio an_ratio : Option Addr} {sl_ratio : Array (Option Value)} {oc_ratio kV_ratio dc_ratio pm_ratio cd_ratio ct_ratio : Value}
    {p_plus : Addr} {od_plus an_plus : Option Addr} {sl_plus : Array (Option Value)} {oc_plus kV_plus dc_plus pm_plus cd_plus ct_plus : Value}
    {p_times : Addr} {od_times an_times : Option Addr} {sl_times : Array (Option Value)} {oc_times kV_times dc_times pm_times cd_times ct_times : Value}
    {p_tip_in : Addr} {od_tip_in an_tip_in : Option Addr} {sl_tip_in : Array (Option Value)} {oc_tip_in kV_tip_in dc_tip_in pm_tip_in cd_tip_in ct_tip_in : Value}
    {p_tips_of : Addr} {od_tips_of an_tips_of : Option Addr} {sl_tips_of : Array (Option Value)} {oc_tips_of kV_tips_of dc_tips_of pm_tips_of cd_tips_of ct_tips_of : Value}
    {p_least : Addr} {od_least an_least : Option Addr} {sl_least : Array (Option Value)} {oc_least kV_least dc_least pm_least cd_least ct_least : Value}
    {p_greatest : Addr} {od_greatest an_greatest : Option Addr} {sl_greatest : Array (Option Value)} {oc_greatest kV_greatest dc_greatest pm_greatest cd_greatest ct_greatest : Value}
    {p__shadow : Addr} {od__shadow an__shadow : Option Addr} {sl__shadow : Array (Option Value)} {oc__shadow kV__shadow dc__shadow pm__shadow cd__shadow ct__shadow : Value}
    {p_shadows_of : Addr} {od_shadows_of an_shadows_of : Option Addr} {sl_shadows_of : Array (Option Value)} {oc_shadows_of kV_shadows_of dc_shadows_of pm_shadows_of cd_shadows_of ct_shadows_of : Value}
    {p__law_is_number : Addr} {od__law_is_number an__law_is_number : Option Addr} {sl__law_is_number : Array (Option Value)} {oc__law_is_number kV__law_is_number dc__law_is_number pm__law_is_number cd__law_is_number ct__law_is_number : Value}
    {p__law_are_posts : Addr} {od__law_are_posts an__law_are_posts : Option Addr} {sl__law_are_posts : Array (Option Value)} {oc__law_are_posts kV__law_are_posts dc__law_are_posts pm__law_are_posts cd__law_are_posts ct__law_are_posts : Value}
    {p__law_is_light : Addr} {od__law_is_light an__law_is_light : Option Addr} {sl__law_is_light : Array (Option Value)} {oc__law_is_light kV__law_is_light dc__law_is_light pm__law_is_light cd__law_is_light ct__law_is_light : Value}
    {p_in_order : Addr} {od_in_order an_in_order : Option Addr} {sl_in_order : Array (Option Value)} {oc_in_order kV_in_order dc_in_order pm_in_order cd_in_order ct_in_order : Value}
    {p_put_together : Addr} {od_put_together an_put_together : Option Addr} {sl_put_together : Array (Option Value)} {oc_put_together kV_put_together dc_put_together pm_put_together cd_put_together ct_put_together : Value}
    {p__shade : Addr} {od__shade an__shade : Option Addr} {sl__shade : Array (Option Value)} {oc__shade kV__shade dc__shade pm__shade cd__shade ct__shade : Value}
    {p_shade_of : Addr} {od_shade_of an_shade_of : Option Addr} {sl_shade_of : Array (Option Value)} {oc_shade_of kV_shade_of dc_shade_of pm_shade_of cd_shade_of ct_shade_of : Value}
    {p_minus : Addr} {od_minus an_minus : Option Addr} {sl_minus : Array (Option Value)} {oc_minus kV_minus dc_minus pm_minus cd_minus ct_minus : Value}
    {p_shade_length : Addr} {od_shade_length an_shade_length : Option Addr} {sl_shade_length : Array (Option Value)} {oc_shade_length kV_shade_length dc_shade_length pm_shade_length cd_shade_length ct_shade_length : Value}
    {p_check_place : Addr} {od_check_place an_check_place : Option Addr} {sl_check_place : Array (Option Value)} {oc_check_place kV_check_place dc_check_place pm_check_place cd_check_place ct_check_place : Value}
    {p_is_shaded : Addr} {od_is_shaded an_is_shaded : Option Addr} {sl_is_shaded : Array (Option Value)} {oc_is_shaded kV_is_shaded dc_is_shaded pm_is_shaded cd_is_shaded ct_is_shaded : Value}
    {p_check_post : Addr} {od_check_post an_check_post : Option Addr} {sl_check_post : Array (Option Value)} {oc_check_post kV_check_post dc_check_post pm_check_post cd_check_post ct_check_post : Value}
    {p_over : Addr} {od_over an_over : Option Addr} {sl_over : Array (Option Value)} {oc_over kV_over dc_over pm_over cd_over ct_over : Value}
    {p__height_at : Addr} {od__height_at an__height_at : Option Addr} {sl__height_at : Array (Option Value)} {oc__height_at kV__height_at dc__height_at pm__height_at cd__height_at ct__height_at : Value}
    {p__shade_on : Addr} {od__shade_on an__shade_on : Option Addr} {sl__shade_on : Array (Option Value)} {oc__shade_on kV__shade_on dc__shade_on pm__shade_on cd__shade_on ct__shade_on : Value}
    {p_shade_on : Addr} {od_shade_on an_shade_on : Option Addr} {sl_shade_on : Array (Option Value)} {oc_shade_on kV_shade_on dc_shade_on pm_shade_on cd_shade_on ct_shade_on : Value}
    {p_hidden_by : Addr} {od_hidden_by an_hidden_by : Option Addr} {sl_hidden_by : Array (Option Value)} {oc_hidden_by kV_hidden_by dc_hidden_by pm_hidden_by cd_hidden_by ct_hidden_by : Value}
    {p__law_first : Addr} {od__law_first an__law_first : Option Addr} {sl__law_first : Array (Option Value)} {oc__law_first kV__law_first dc__law_first pm__law_first cd__law_first ct__law_first : Value}
    {p_check_two : Addr} {od_check_two an_check_two : Option Addr} {sl_check_two : Array (Option Value)} {oc_check_two kV_check_two dc_check_two pm_check_two cd_check_two ct_check_two : Value}
    {p__meeting : Addr} {od__meeting an__meeting : Option Addr} {sl__meeting : Array (Option Value)} {oc__meeting kV__meeting dc__meeting pm__meeting cd__meeting ct__meeting : Value}
    {p_light_meeting : Addr} {od_light_meeting an_light_meeting : Option Addr} {sl_light_meeting : Array (Option Value)} {oc_light_meeting kV_light_meeting dc_light_meeting pm_light_meeting cd_light_meeting ct_light_meeting : Value}
    {p_light_hiding : Addr} {od_light_hiding an_light_hiding : Option Addr} {sl_light_hiding : Array (Option Value)} {oc_light_hiding kV_light_hiding dc_light_hiding pm_light_hiding cd_light_hiding ct_light_hiding : Value}
    {p_meeting_lights : Addr} {od_meeting_lights an_meeting_lights : Option Addr} {sl_meeting_lights : Array (Option Value)} {oc_meeting_lights kV_meeting_lights dc_meeting_lights pm_meeting_lights cd_meeting_lights ct_meeting_lights : Value}
    {p__check_lamp : Addr} {od__check_lamp an__check_lamp : Option Addr} {sl__check_lamp : Array (Option Value)} {oc__check_lamp kV__check_lamp dc__check_lamp pm__check_lamp cd__check_lamp ct__check_lamp : Value}
    {p__tip : Addr} {od__tip an__tip : Option Addr} {sl__tip : Array (Option Value)} {oc__tip kV__tip dc__tip pm__tip cd__tip ct__tip : Value}
    {p_lamp_tips : Addr} {od_lamp_tips an_lamp_tips : Option Addr} {sl_lamp_tips : Array (Option Value)} {oc_lamp_tips kV_lamp_tips dc_lamp_tips pm_lamp_tips cd_lamp_tips ct_lamp_tips : Value}
    {p__span : Addr} {od__span an__span : Option Addr} {sl__span : Array (Option Value)} {oc__span kV__span dc__span pm__span cd__span ct__span : Value}
    {p__dark : Addr} {od__dark an__dark : Option Addr} {sl__dark : Array (Option Value)} {oc__dark kV__dark dc__dark pm__dark cd__dark ct__dark : Value}
    {p_dark_of : Addr} {od_dark_of an_dark_of : Option Addr} {sl_dark_of : Array (Option Value)} {oc_dark_of kV_dark_of dc_dark_of pm_dark_of cd_dark_of ct_dark_of : Value}
    {p_both_dark : Addr} {od_both_dark an_both_dark : Option Addr} {sl_both_dark : Array (Option Value)} {oc_both_dark kV_both_dark dc_both_dark pm_both_dark cd_both_dark ct_both_dark : Value}
    {p_lamp_meeting : Addr} {od_lamp_meeting an_lamp_meeting : Option Addr} {sl_lamp_meeting : Array (Option Value)} {oc_lamp_meeting kV_lamp_meeting dc_lamp_meeting pm_lamp_meeting cd_lamp_meeting ct_lamp_meeting : Value}
    {p_light_from : Addr} {od_light_from an_light_from : Option Addr} {sl_light_from : Array (Option Value)} {oc_light_from kV_light_from dc_light_from pm_light_from cd_light_from ct_light_from : Value}
    {p__check_dial : Addr} {od__check_dial an__check_dial : Option Addr} {sl__check_dial : Array (Option Value)} {oc__check_dial kV__check_dial dc__check_dial pm__check_dial cd__check_dial ct__check_dial : Value}
    {p_dial_marks : Addr} {od_dial_marks an_dial_marks : Option Addr} {sl_dial_marks : Array (Option Value)} {oc_dial_marks kV_dial_marks dc_dial_marks pm_dial_marks cd_dial_marks ct_dial_marks : Value}
    {p_hour_of : Addr} {od_hour_of an_hour_of : Option Addr} {sl_hour_of : Array (Option Value)} {oc_hour_of kV_hour_of dc_hour_of pm_hour_of cd_hour_of ct_hour_of : Value}
    {p__law_second : Addr} {od__law_second an__law_second : Option Addr} {sl__law_second : Array (Option Value)} {oc__law_second kV__law_second dc__law_second pm__law_second cd__law_second ct__law_second : Value}
    {p__law_error : Addr} {od__law_error an__law_error : Option Addr} {sl__law_error : Array (Option Value)} {oc__law_error kV__law_error dc__law_error pm__law_error cd__law_error ct__law_error : Value}
    {p__law_plus : Addr} {od__law_plus an__law_plus : Option Addr} {sl__law_plus : Array (Option Value)} {oc__law_plus kV__law_plus dc__law_plus pm__law_plus cd__law_plus ct__law_plus : Value}
    {p__law_less : Addr} {od__law_less an__law_less : Option Addr} {sl__law_less : Array (Option Value)} {oc__law_less kV__law_less dc__law_less pm__law_less cd__law_less ct__law_less : Value}
    {p__law_by : Addr} {od__law_by an__law_by : Option Addr} {sl__law_by : Array (Option Value)} {oc__law_by kV__law_by dc__law_by pm__law_by cd__law_by ct__law_by : Value}
    {p__law_span : Addr} {od__law_span an__law_span : Option Addr} {sl__law_span : Array (Option Value)} {oc__law_span kV__law_span dc__law_span pm__law_span cd__law_span ct__law_span : Value}
    {p_law : Addr} {od_law an_law : Option Addr} {sl_law : Array (Option Value)} {oc_law kV_law dc_law pm_law cd_law ct_law : Value}
    {C_SandError C_BadPlace C_BadDial C_BadPosts C_BadLight C_BadPost C_BadLamp C_BadHeight A_LEAST_LIGHT A_MOST_LIGHT A_ZERO A_NEAR A_FAR : Addr}
    {t_MOST_PLACE t_MOST_POST t_MOST_POSTS t_MOST_NUMBER t_MOST_LAMP t_LEAST_HOURS t_MOST_HOURS : Tok}
    (a__law_draws : PySem.W.nsIn K mainGlobals "_law_draws" = some (some (.ref p__law_draws))) (l__law_draws : K.lookup p__law_draws = some ⟨oc__law_draws, od__law_draws, .func (PySem.W.fnOf "_law_draws" "_law_draws" (defArgs s__law_draws) (defBody s__law_draws) (defScope s__law_draws) .none kV__law_draws dc__law_draws pm__law_draws an__law_draws cd__law_draws ct__law_draws), sl__law_draws⟩) (d__law_draws : PySem.W.codeIn K cd__law_draws "_law_draws" = true) (e__law_draws : PySem.W.keepIn K (.ref p__law_draws) = true)
    (a__law_posts : PySem.W.nsIn K mainGlobals "_law_posts" = some (some (.ref p__law_posts))) (l__law_posts : K.lookup p__law_posts = some ⟨oc__law_posts, od__law_posts, .func (PySem.W.fnOf "_law_posts" "_law_posts" (defArgs s__law_posts) (defBody s__law_posts) (defScope s__law_posts) .none kV__law_posts dc__law_posts pm__law_posts an__law_posts cd__law_posts ct__law_posts), sl__law_posts⟩) (d__law_posts : PySem.W.codeIn K cd__law_posts "_law_posts" = true) (e__law_posts : PySem.W.keepIn K (.ref p__law_posts) = true)
    (a__law_plain : PySem.W.nsIn K mainGlobals "_law_plain" = some (some (.ref p__law_plain))) (l__law_plain : K.lookup p__law_plain = some ⟨oc__law_plain, od__law_plain, .func (PySem.W.fnOf "_law_plain" "_law_plain" (defArgs s__law_plain) (defBody s__law_plain) (defScope s__law_plain) .none kV__law_plain dc__law_plain pm__law_plain an__law_plain cd__law_plain ct__law_plain), sl__law_plain⟩) (d__law_plain : PySem.W.codeIn K cd__law_plain "_law_plain" = true) (e__law_plain : PySem.W.keepIn K (.ref p__law_plain) = true)
    (a__law_light : PySem.W.nsIn K mainGlobals "_law_light" = some (some (.ref p__law_light))) (l__law_light : K.lookup p__law_light = some ⟨oc__law_light, od__law_light, .func (PySem.W.fnOf "_law_light" "_law_light" (defArgs s__law_light) (defBody s__law_light) (defScope s__law_light) .none kV__law_light dc__law_light pm__law_light an__law_light cd__law_light ct__law_light), sl__law_light⟩) (d__law_light : PySem.W.codeIn K cd__law_light "_law_light" = true) (e__law_light : PySem.W.keepIn K (.ref p__law_light) = true)
    (a_ascends : PySem.W.nsIn K mainGlobals "ascends" = some (some (.ref p_ascends))) (l_ascends : K.lookup p_ascends = some ⟨oc_ascends, od_ascends, .func (PySem.W.fnOf "ascends" "ascends" (defArgs s_ascends) (defBody s_ascends) (defScope s_ascends) .none kV_ascends dc_ascends pm_ascends an_ascends cd_ascends ct_ascends), sl_ascends⟩) (d_ascends : PySem.W.codeIn K cd_ascends "ascends" = true) (e_ascends : PySem.W.keepIn K (.ref p_ascends) = true)
    (a_is_whole : PySem.W.nsIn K mainGlobals "is_whole" = some (some (.ref p_is_whole))) (l_is_whole : K.lookup p_is_whole = some ⟨oc_is_whole, od_is_whole, .func (PySem.W.fnOf "is_whole" "is_whole" (defArgs s_is_whole) (defBody s_is_whole) (defScope s_is_whole) .none kV_is_whole dc_is_whole pm_is_whole an_is_whole cd_is_whole ct_is_whole), sl_is_whole⟩) (d_is_whole : PySem.W.codeIn K cd_is_whole "is_whole" = true) (e_is_whole : PySem.W.keepIn K (.ref p_is_whole) = true)
    (a_is_post : PySem.W.nsIn K mainGlobals "is_post" = some (some (.ref p_is_post))) (l_is_post : K.lookup p_is_post = some ⟨oc_is_post, od_is_post, .func (PySem.W.fnOf "is_post" "is_post" (defArgs s_is_post) (defBody s_is_post) (defScope s_is_post) .none kV_is_post dc_is_post pm_is_post an_is_post cd_is_post ct_is_post), sl_is_post⟩) (d_is_post : PySem.W.codeIn K cd_is_post "is_post" = true) (e_is_post : PySem.W.keepIn K (.ref p_is_post) = true)
    (a_are_posts : PySem.W.nsIn K mainGlobals "are_posts" = some (some (.ref p_are_posts))) (l_are_posts : K.lookup p_are_posts = some ⟨oc_are_posts, od_are_posts, .func (PySem.W.fnOf "are_posts" "are_posts" (defArgs s_are_posts) (defBody s_are_posts) (defScope s_are_posts) .none kV_are_posts dc_are_posts pm_are_posts an_are_posts cd_are_posts ct_are_posts), sl_are_posts⟩) (d_are_posts : PySem.W.codeIn K cd_are_posts "are_posts" = true) (e_are_posts : PySem.W.keepIn K (.ref p_are_posts) = true)
    (a_check_posts : PySem.W.nsIn K mainGlobals "check_posts" = some (some (.ref p_check_posts))) (l_check_posts : K.lookup p_check_posts = some ⟨oc_check_posts, od_check_posts, .func (PySem.W.fnOf "check_posts" "check_posts" (defArgs s_check_posts) (defBody s_check_posts) (defScope s_check_posts) .none kV_check_posts dc_check_posts pm_check_posts an_check_posts cd_check_posts ct_check_posts), sl_check_posts⟩) (d_check_posts : PySem.W.codeIn K cd_check_posts "check_posts" = true) (e_check_posts : PySem.W.keepIn K (.ref p_check_posts) = true)
    (a_divisor : PySem.W.nsIn K mainGlobals "divisor" = some (some (.ref p_divisor))) (l_divisor : K.lookup p_divisor = some ⟨oc_divisor, od_divisor, .func (PySem.W.fnOf "divisor" "divisor" (defArgs s_divisor) (defBody s_divisor) (defScope s_divisor) .none kV_divisor dc_divisor pm_divisor an_divisor cd_divisor ct_divisor), sl_divisor⟩) (d_divisor : PySem.W.codeIn K cd_divisor "divisor" = true) (e_divisor : PySem.W.keepIn K (.ref p_divisor) = true)
    (a_is_ratio : PySem.W.nsIn K mainGlobals "is_ratio" = some (some (.ref p_is_ratio))) (l_is_ratio : K.lookup p_is_ratio = some ⟨oc_is_ratio, od_is_ratio, .func (PySem.W.fnOf "is_ratio" "is_ratio" (defArgs s_is_ratio) (defBody s_is_ratio) (defScope s_is_ratio) .none kV_is_ratio dc_is_ratio pm_is_ratio an_is_ratio cd_is_ratio ct_is_ratio), sl_is_ratio⟩) (d_is_ratio : PySem.W.codeIn K cd_is_ratio "is_ratio" = true) (e_is_ratio : PySem.W.keepIn K (.ref p_is_ratio) = true)
    (a_is_small : PySem.W.nsIn K mainGlobals "is_small" = some (some (.ref p_is_small))) (l_is_small : K.lookup p_is_small = some ⟨oc_is_small, od_is_small, .func (PySem.W.fnOf "is_small" "is_small" (defArgs s_is_small) (defBody s_is_small) (defScope s_is_small) .none kV_is_small dc_is_small pm_is_small an_is_small cd_is_small ct_is_small), sl_is_small⟩) (d_is_small : PySem.W.codeIn K cd_is_small "is_small" = true) (e_is_small : PySem.W.keepIn K (.ref p_is_small) = true)
    (a_is_less : PySem.W.nsIn K mainGlobals "is_less" = some (some (.ref p_is_less))) (l_is_less : K.lookup p_is_less = some ⟨oc_is_less, od_is_less, .func (PySem.W.fnOf "is_less" "is_less" (defArgs s_is_less) (defBody s_is_less) (defScope s_is_less) .none kV_is_less dc_is_less pm_is_less an_is_less cd_is_less ct_is_less), sl_is_less⟩) (d_is_less : PySem.W.codeIn K cd_is_less "is_less" = true) (e_is_less : PySem.W.keepIn K (.ref p_is_less) = true)
    (a_is_light : PySem.W.nsIn K mainGlobals "is_light" = some (some (.ref p_is_light))) (l_is_light : K.lookup p_is_light = some ⟨oc_is_light, od_is_light, .func (PySem.W.fnOf "is_light" "is_light" (defArgs s_is_light) (defBody s_is_light) (defScope s_is_light) .none kV_is_light dc_is_light pm_is_light an_is_light cd_is_light ct_is_light), sl_is_light⟩) (d_is_light : PySem.W.codeIn K cd_is_light "is_light" = true) (e_is_light : PySem.W.keepIn K (.ref p_is_light) = true)
    (a__check : PySem.W.nsIn K mainGlobals "_check" = some (some (.ref p__check))) (l__check : K.lookup p__check = some ⟨oc__check, od__check, .func (PySem.W.fnOf "_check" "_check" (defArgs s__check) (defBody s__check) (defScope s__check) .none kV__check dc__check pm__check an__check cd__check ct__check), sl__check⟩) (d__check : PySem.W.codeIn K cd__check "_check" = true) (e__check : PySem.W.keepIn K (.ref p__check) = true)
    (a_ratio : PySem.W.nsIn K mainGlobals "ratio" = some (some (.ref p_ratio))) (l_ratio : K.lookup p_ratio = some ⟨oc_ratio, od_ratio, .func (PySem.W.fnOf "ratio" "ratio" (defArgs s_ratio) (defBody s_ratio) (defScope s_ratio) .none kV_ratio dc_ratio pm_ratio an_ratio cd_ratio ct_ratio), sl_ratio⟩) (d_ratio : PySem.W.codeIn K cd_ratio "ratio" = true) (e_ratio : PySem.W.keepIn K (.ref p_ratio) = true)
    (a_plus : PySem.W.nsIn K mainGlobals "plus" = some (some (.ref p_plus))) (l_plus : K.lookup p_plus = some ⟨oc_plus, od_plus, .func (PySem.W.fnOf "plus" "plus" (defArgs s_plus) (defBody s_plus) (defScope s_plus) .none kV_plus dc_plus pm_plus an_plus cd_plus ct_plus), sl_plus⟩) (d_plus : PySem.W.codeIn K cd_plus "plus" = true) (e_plus : PySem.W.keepIn K (.ref p_plus) = true)
    (a_times : PySem.W.nsIn K mainGlobals "times" = some (some (.ref p_times))) (l_times : K.lookup p_times = some ⟨oc_times, od_times, .func (PySem.W.fnOf "times" "times" (defArgs s_times) (defBody s_times) (defScope s_times) .none kV_times dc_times pm_times an_times cd_times ct_times), sl_times⟩) (d_times : PySem.W.codeIn K cd_times "times" = true) (e_times : PySem.W.keepIn K (.ref p_times) = true)
    (a_tip_in : PySem.W.nsIn K mainGlobals "tip_in" = some (some (.ref p_tip_in))) (l_tip_in : K.lookup p_tip_in = some ⟨oc_tip_in, od_tip_in, .func (PySem.W.fnOf "tip_in" "tip_in" (defArgs s_tip_in) (defBody s_tip_in) (defScope s_tip_in) .none kV_tip_in dc_tip_in pm_tip_in an_tip_in cd_tip_in ct_tip_in), sl_tip_in⟩) (d_tip_in : PySem.W.codeIn K cd_tip_in "tip_in" = true) (e_tip_in : PySem.W.keepIn K (.ref p_tip_in) = true)
    (a_tips_of : PySem.W.nsIn K mainGlobals "tips_of" = some (some (.ref p_tips_of))) (l_tips_of : K.lookup p_tips_of = some ⟨oc_tips_of, od_tips_of, .func (PySem.W.fnOf "tips_of" "tips_of" (defArgs s_tips_of) (defBody s_tips_of) (defScope s_tips_of) .none kV_tips_of dc_tips_of pm_tips_of an_tips_of cd_tips_of ct_tips_of), sl_tips_of⟩) (d_tips_of : PySem.W.codeIn K cd_tips_of "tips_of" = true) (e_tips_of : PySem.W.keepIn K (.ref p_tips_of) = true)
    (a_least : PySem.W.nsIn K mainGlobals "least" = some (some (.ref p_least))) (l_least : K.lookup p_least = some ⟨oc_least, od_least, .func (PySem.W.fnOf "least" "least" (defArgs s_least) (defBody s_least) (defScope s_least) .none kV_least dc_least pm_least an_least cd_least ct_least), sl_least⟩) (d_least : PySem.W.codeIn K cd_least "least" = true) (e_least : PySem.W.keepIn K (.ref p_least) = true)
    (a_greatest : PySem.W.nsIn K mainGlobals "greatest" = some (some (.ref p_greatest))) (l_greatest : K.lookup p_greatest = some ⟨oc_greatest, od_greatest, .func (PySem.W.fnOf "greatest" "greatest" (defArgs s_greatest) (defBody s_greatest) (defScope s_greatest) .none kV_greatest dc_greatest pm_greatest an_greatest cd_greatest ct_greatest), sl_greatest⟩) (d_greatest : PySem.W.codeIn K cd_greatest "greatest" = true) (e_greatest : PySem.W.keepIn K (.ref p_greatest) = true)
    (a__shadow : PySem.W.nsIn K mainGlobals "_shadow" = some (some (.ref p__shadow))) (l__shadow : K.lookup p__shadow = some ⟨oc__shadow, od__shadow, .func (PySem.W.fnOf "_shadow" "_shadow" (defArgs s__shadow) (defBody s__shadow) (defScope s__shadow) .none kV__shadow dc__shadow pm__shadow an__shadow cd__shadow ct__shadow), sl__shadow⟩) (d__shadow : PySem.W.codeIn K cd__shadow "_shadow" = true) (e__shadow : PySem.W.keepIn K (.ref p__shadow) = true)
    (a_shadows_of : PySem.W.nsIn K mainGlobals "shadows_of" = some (some (.ref p_shadows_of))) (l_shadows_of : K.lookup p_shadows_of = some ⟨oc_shadows_of, od_shadows_of, .func (PySem.W.fnOf "shadows_of" "shadows_of" (defArgs s_shadows_of) (defBody s_shadows_of) (defScope s_shadows_of) .none kV_shadows_of dc_shadows_of pm_shadows_of an_shadows_of cd_shadows_of ct_shadows_of), sl_shadows_of⟩) (d_shadows_of : PySem.W.codeIn K cd_shadows_of "shadows_of" = true) (e_shadows_of : PySem.W.keepIn K (.ref p_shadows_of) = true)
    (a__law_is_number : PySem.W.nsIn K mainGlobals "_law_is_number" = some (some (.ref p__law_is_number))) (l__law_is_number : K.lookup p__law_is_number = some ⟨oc__law_is_number, od__law_is_number, .func (PySem.W.fnOf "_law_is_number" "_law_is_number" (defArgs s__law_is_number) (defBody s__law_is_number) (defScope s__law_is_number) .none kV__law_is_number dc__law_is_number pm__law_is_number an__law_is_number cd__law_is_number ct__law_is_number), sl__law_is_number⟩) (d__law_is_number : PySem.W.codeIn K cd__law_is_number "_law_is_number" = true) (e__law_is_number : PySem.W.keepIn K (.ref p__law_is_number) = true)
    (a__law_are_posts : PySem.W.nsIn K mainGlobals "_law_are_posts" = some (some (.ref p__law_are_posts))) (l__law_are_posts : K.lookup p__law_are_posts = some ⟨oc__law_are_posts, od__law_are_posts, .func (PySem.W.fnOf "_law_are_posts" "_law_are_posts" (defArgs s__law_are_posts) (defBody s__law_are_posts) (defScope s__law_are_posts) .none kV__law_are_posts dc__law_are_posts pm__law_are_posts an__law_are_posts cd__law_are_posts ct__law_are_posts), sl__law_are_posts⟩) (d__law_are_posts : PySem.W.codeIn K cd__law_are_posts "_law_are_posts" = true) (e__law_are_posts : PySem.W.keepIn K (.ref p__law_are_posts) = true)
    (a__law_is_light : PySem.W.nsIn K mainGlobals "_law_is_light" = some (some (.ref p__law_is_light))) (l__law_is_light : K.lookup p__law_is_light = some ⟨oc__law_is_light, od__law_is_light, .func (PySem.W.fnOf "_law_is_light" "_law_is_light" (defArgs s__law_is_light) (defBody s__law_is_light) (defScope s__law_is_light) .none kV__law_is_light dc__law_is_light pm__law_is_light an__law_is_light cd__law_is_light ct__law_is_light), sl__law_is_light⟩) (d__law_is_light : PySem.W.codeIn K cd__law_is_light "_law_is_light" = true) (e__law_is_light : PySem.W.keepIn K (.ref p__law_is_light) = true)
    (a_in_order : PySem.W.nsIn K mainGlobals "in_order" = some (some (.ref p_in_order))) (l_in_order : K.lookup p_in_order = some ⟨oc_in_order, od_in_order, .func (PySem.W.fnOf "in_order" "in_order" (defArgs s_in_order) (defBody s_in_order) (defScope s_in_order) .none kV_in_order dc_in_order pm_in_order an_in_order cd_in_order ct_in_order), sl_in_order⟩) (d_in_order : PySem.W.codeIn K cd_in_order "in_order" = true) (e_in_order : PySem.W.keepIn K (.ref p_in_order) = true)
    (a_put_together : PySem.W.nsIn K mainGlobals "put_together" = some (some (.ref p_put_together))) (l_put_together : K.lookup p_put_together = some ⟨oc_put_together, od_put_together, .func (PySem.W.fnOf "put_together" "put_together" (defArgs s_put_together) (defBody s_put_together) (defScope s_put_together) .none kV_put_together dc_put_together pm_put_together an_put_together cd_put_together ct_put_together), sl_put_together⟩) (d_put_together : PySem.W.codeIn K cd_put_together "put_together" = true) (e_put_together : PySem.W.keepIn K (.ref p_put_together) = true)
    (a__shade : PySem.W.nsIn K mainGlobals "_shade" = some (some (.ref p__shade))) (l__shade : K.lookup p__shade = some ⟨oc__shade, od__shade, .func (PySem.W.fnOf "_shade" "_shade" (defArgs s__shade) (defBody s__shade) (defScope s__shade) .none kV__shade dc__shade pm__shade an__shade cd__shade ct__shade), sl__shade⟩) (d__shade : PySem.W.codeIn K cd__shade "_shade" = true) (e__shade : PySem.W.keepIn K (.ref p__shade) = true)
    (a_shade_of : PySem.W.nsIn K mainGlobals "shade_of" = some (some (.ref p_shade_of))) (l_shade_of : K.lookup p_shade_of = some ⟨oc_shade_of, od_shade_of, .func (PySem.W.fnOf "shade_of" "shade_of" (defArgs s_shade_of) (defBody s_shade_of) (defScope s_shade_of) .none kV_shade_of dc_shade_of pm_shade_of an_shade_of cd_shade_of ct_shade_of), sl_shade_of⟩) (d_shade_of : PySem.W.codeIn K cd_shade_of "shade_of" = true) (e_shade_of : PySem.W.keepIn K (.ref p_shade_of) = true)
    (a_minus : PySem.W.nsIn K mainGlobals "minus" = some (some (.ref p_minus))) (l_minus : K.lookup p_minus = some ⟨oc_minus, od_minus, .func (PySem.W.fnOf "minus" "minus" (defArgs s_minus) (defBody s_minus) (defScope s_minus) .none kV_minus dc_minus pm_minus an_minus cd_minus ct_minus), sl_minus⟩) (d_minus : PySem.W.codeIn K cd_minus "minus" = true) (e_minus : PySem.W.keepIn K (.ref p_minus) = true)
    (a_shade_length : PySem.W.nsIn K mainGlobals "shade_length" = some (some (.ref p_shade_length))) (l_shade_length : K.lookup p_shade_length = some ⟨oc_shade_length, od_shade_length, .func (PySem.W.fnOf "shade_length" "shade_length" (defArgs s_shade_length) (defBody s_shade_length) (defScope s_shade_length) .none kV_shade_length dc_shade_length pm_shade_length an_shade_length cd_shade_length ct_shade_length), sl_shade_length⟩) (d_shade_length : PySem.W.codeIn K cd_shade_length "shade_length" = true) (e_shade_length : PySem.W.keepIn K (.ref p_shade_length) = true)
    (a_check_place : PySem.W.nsIn K mainGlobals "check_place" = some (some (.ref p_check_place))) (l_check_place : K.lookup p_check_place = some ⟨oc_check_place, od_check_place, .func (PySem.W.fnOf "check_place" "check_place" (defArgs s_check_place) (defBody s_check_place) (defScope s_check_place) .none kV_check_place dc_check_place pm_check_place an_check_place cd_check_place ct_check_place), sl_check_place⟩) (d_check_place : PySem.W.codeIn K cd_check_place "check_place" = true) (e_check_place : PySem.W.keepIn K (.ref p_check_place) = true)
    (a_is_shaded : PySem.W.nsIn K mainGlobals "is_shaded" = some (some (.ref p_is_shaded))) (l_is_shaded : K.lookup p_is_shaded = some ⟨oc_is_shaded, od_is_shaded, .func (PySem.W.fnOf "is_shaded" "is_shaded" (defArgs s_is_shaded) (defBody s_is_shaded) (defScope s_is_shaded) .none kV_is_shaded dc_is_shaded pm_is_shaded an_is_shaded cd_is_shaded ct_is_shaded), sl_is_shaded⟩) (d_is_shaded : PySem.W.codeIn K cd_is_shaded "is_shaded" = true) (e_is_shaded : PySem.W.keepIn K (.ref p_is_shaded) = true)
    (a_check_post : PySem.W.nsIn K mainGlobals "check_post" = some (some (.ref p_check_post))) (l_check_post : K.lookup p_check_post = some ⟨oc_check_post, od_check_post, .func (PySem.W.fnOf "check_post" "check_post" (defArgs s_check_post) (defBody s_check_post) (defScope s_check_post) .none kV_check_post dc_check_post pm_check_post an_check_post cd_check_post ct_check_post), sl_check_post⟩) (d_check_post : PySem.W.codeIn K cd_check_post "check_post" = true) (e_check_post : PySem.W.keepIn K (.ref p_check_post) = true)
    (a_over : PySem.W.nsIn K mainGlobals "over" = some (some (.ref p_over))) (l_over : K.lookup p_over = some ⟨oc_over, od_over, .func (PySem.W.fnOf "over" "over" (defArgs s_over) (defBody s_over) (defScope s_over) .none kV_over dc_over pm_over an_over cd_over ct_over), sl_over⟩) (d_over : PySem.W.codeIn K cd_over "over" = true) (e_over : PySem.W.keepIn K (.ref p_over) = true)
    (a__height_at : PySem.W.nsIn K mainGlobals "_height_at" = some (some (.ref p__height_at))) (l__height_at : K.lookup p__height_at = some ⟨oc__height_at, od__height_at, .func (PySem.W.fnOf "_height_at" "_height_at" (defArgs s__height_at) (defBody s__height_at) (defScope s__height_at) .none kV__height_at dc__height_at pm__height_at an__height_at cd__height_at ct__height_at), sl__height_at⟩) (d__height_at : PySem.W.codeIn K cd__height_at "_height_at" = true) (e__height_at : PySem.W.keepIn K (.ref p__height_at) = true)
    (a__shade_on : PySem.W.nsIn K mainGlobals "_shade_on" = some (some (.ref p__shade_on))) (l__shade_on : K.lookup p__shade_on = some ⟨oc__shade_on, od__shade_on, .func (PySem.W.fnOf "_shade_on" "_shade_on" (defArgs s__shade_on) (defBody s__shade_on) (defScope s__shade_on) .none kV__shade_on dc__shade_on pm__shade_on an__shade_on cd__shade_on ct__shade_on), sl__shade_on⟩) (d__shade_on : PySem.W.codeIn K cd__shade_on "_shade_on" = true) (e__shade_on : PySem.W.keepIn K (.ref p__shade_on) = true)
    (a_shade_on : PySem.W.nsIn K mainGlobals "shade_on" = some (some (.ref p_shade_on))) (l_shade_on : K.lookup p_shade_on = some ⟨oc_shade_on, od_shade_on, .func (PySem.W.fnOf "shade_on" "shade_on" (defArgs s_shade_on) (defBody s_shade_on) (defScope s_shade_on) .none kV_shade_on dc_shade_on pm_shade_on an_shade_on cd_shade_on ct_shade_on), sl_shade_on⟩) (d_shade_on : PySem.W.codeIn K cd_shade_on "shade_on" = true) (e_shade_on : PySem.W.keepIn K (.ref p_shade_on) = true)
    (a_hidden_by : PySem.W.nsIn K mainGlobals "hidden_by" = some (some (.ref p_hidden_by))) (l_hidden_by : K.lookup p_hidden_by = some ⟨oc_hidden_by, od_hidden_by, .func (PySem.W.fnOf "hidden_by" "hidden_by" (defArgs s_hidden_by) (defBody s_hidden_by) (defScope s_hidden_by) .none kV_hidden_by dc_hidden_by pm_hidden_by an_hidden_by cd_hidden_by ct_hidden_by), sl_hidden_by⟩) (d_hidden_by : PySem.W.codeIn K cd_hidden_by "hidden_by" = true) (e_hidden_by : PySem.W.keepIn K (.ref p_hidden_by) = true)
    (a__law_first : PySem.W.nsIn K mainGlobals "_law_first" = some (some (.ref p__law_first))) (l__law_first : K.lookup p__law_first = some ⟨oc__law_first, od__law_first, .func (PySem.W.fnOf "_law_first" "_law_first" (defArgs s__law_first) (defBody s__law_first) (defScope s__law_first) .none kV__law_first dc__law_first pm__law_first an__law_first cd__law_first ct__law_first), sl__law_first⟩) (d__law_first : PySem.W.codeIn K cd__law_first "_law_first" = true) (e__law_first : PySem.W.keepIn K (.ref p__law_first) = true)
    (a_check_two : PySem.W.nsIn K mainGlobals "check_two" = some (some (.ref p_check_two))) (l_check_two : K.lookup p_check_two = some ⟨oc_check_two, od_check_two, .func (PySem.W.fnOf "check_two" "check_two" (defArgs s_check_two) (defBody s_check_two) (defScope s_check_two) .none kV_check_two dc_check_two pm_check_two an_check_two cd_check_two ct_check_two), sl_check_two⟩) (d_check_two : PySem.W.codeIn K cd_check_two "check_two" = true) (e_check_two : PySem.W.keepIn K (.ref p_check_two) = true)
    (a__meeting : PySem.W.nsIn K mainGlobals "_meeting" = some (some (.ref p__meeting))) (l__meeting : K.lookup p__meeting = some ⟨oc__meeting, od__meeting, .func (PySem.W.fnOf "_meeting" "_meeting" (defArgs s__meeting) (defBody s__meeting) (defScope s__meeting) .none kV__meeting dc__meeting pm__meeting an__meeting cd__meeting ct__meeting), sl__meeting⟩) (d__meeting : PySem.W.codeIn K cd__meeting "_meeting" = true) (e__meeting : PySem.W.keepIn K (.ref p__meeting) = true)
    (a_light_meeting : PySem.W.nsIn K mainGlobals "light_meeting" = some (some (.ref p_light_meeting))) (l_light_meeting : K.lookup p_light_meeting = some ⟨oc_light_meeting, od_light_meeting, .func (PySem.W.fnOf "light_meeting" "light_meeting" (defArgs s_light_meeting) (defBody s_light_meeting) (defScope s_light_meeting) .none kV_light_meeting dc_light_meeting pm_light_meeting an_light_meeting cd_light_meeting ct_light_meeting), sl_light_meeting⟩) (d_light_meeting : PySem.W.codeIn K cd_light_meeting "light_meeting" = true) (e_light_meeting : PySem.W.keepIn K (.ref p_light_meeting) = true)
    (a_light_hiding : PySem.W.nsIn K mainGlobals "light_hiding" = some (some (.ref p_light_hiding))) (l_light_hiding : K.lookup p_light_hiding = some ⟨oc_light_hiding, od_light_hiding, .func (PySem.W.fnOf "light_hiding" "light_hiding" (defArgs s_light_hiding) (defBody s_light_hiding) (defScope s_light_hiding) .none kV_light_hiding dc_light_hiding pm_light_hiding an_light_hiding cd_light_hiding ct_light_hiding), sl_light_hiding⟩) (d_light_hiding : PySem.W.codeIn K cd_light_hiding "light_hiding" = true) (e_light_hiding : PySem.W.keepIn K (.ref p_light_hiding) = true)
    (a_meeting_lights : PySem.W.nsIn K mainGlobals "meeting_lights" = some (some (.ref p_meeting_lights))) (l_meeting_lights : K.lookup p_meeting_lights = some ⟨oc_meeting_lights, od_meeting_lights, .func (PySem.W.fnOf "meeting_lights" "meeting_lights" (defArgs s_meeting_lights) (defBody s_meeting_lights) (defScope s_meeting_lights) .none kV_meeting_lights dc_meeting_lights pm_meeting_lights an_meeting_lights cd_meeting_lights ct_meeting_lights), sl_meeting_lights⟩) (d_meeting_lights : PySem.W.codeIn K cd_meeting_lights "meeting_lights" = true) (e_meeting_lights : PySem.W.keepIn K (.ref p_meeting_lights) = true)
    (a__check_lamp : PySem.W.nsIn K mainGlobals "_check_lamp" = some (some (.ref p__check_lamp))) (l__check_lamp : K.lookup p__check_lamp = some ⟨oc__check_lamp, od__check_lamp, .func (PySem.W.fnOf "_check_lamp" "_check_lamp" (defArgs s__check_lamp) (defBody s__check_lamp) (defScope s__check_lamp) .none kV__check_lamp dc__check_lamp pm__check_lamp an__check_lamp cd__check_lamp ct__check_lamp), sl__check_lamp⟩) (d__check_lamp : PySem.W.codeIn K cd__check_lamp "_check_lamp" = true) (e__check_lamp : PySem.W.keepIn K (.ref p__check_lamp) = true)
    (a__tip : PySem.W.nsIn K mainGlobals "_tip" = some (some (.ref p__tip))) (l__tip : K.lookup p__tip = some ⟨oc__tip, od__tip, .func (PySem.W.fnOf "_tip" "_tip" (defArgs s__tip) (defBody s__tip) (defScope s__tip) .none kV__tip dc__tip pm__tip an__tip cd__tip ct__tip), sl__tip⟩) (d__tip : PySem.W.codeIn K cd__tip "_tip" = true) (e__tip : PySem.W.keepIn K (.ref p__tip) = true)
    (a_lamp_tips : PySem.W.nsIn K mainGlobals "lamp_tips" = some (some (.ref p_lamp_tips))) (l_lamp_tips : K.lookup p_lamp_tips = some ⟨oc_lamp_tips, od_lamp_tips, .func (PySem.W.fnOf "lamp_tips" "lamp_tips" (defArgs s_lamp_tips) (defBody s_lamp_tips) (defScope s_lamp_tips) .none kV_lamp_tips dc_lamp_tips pm_lamp_tips an_lamp_tips cd_lamp_tips ct_lamp_tips), sl_lamp_tips⟩) (d_lamp_tips : PySem.W.codeIn K cd_lamp_tips "lamp_tips" = true) (e_lamp_tips : PySem.W.keepIn K (.ref p_lamp_tips) = true)
    (a__span : PySem.W.nsIn K mainGlobals "_span" = some (some (.ref p__span))) (l__span : K.lookup p__span = some ⟨oc__span, od__span, .func (PySem.W.fnOf "_span" "_span" (defArgs s__span) (defBody s__span) (defScope s__span) .none kV__span dc__span pm__span an__span cd__span ct__span), sl__span⟩) (d__span : PySem.W.codeIn K cd__span "_span" = true) (e__span : PySem.W.keepIn K (.ref p__span) = true)
    (a__dark : PySem.W.nsIn K mainGlobals "_dark" = some (some (.ref p__dark))) (l__dark : K.lookup p__dark = some ⟨oc__dark, od__dark, .func (PySem.W.fnOf "_dark" "_dark" (defArgs s__dark) (defBody s__dark) (defScope s__dark) .none kV__dark dc__dark pm__dark an__dark cd__dark ct__dark), sl__dark⟩) (d__dark : PySem.W.codeIn K cd__dark "_dark" = true) (e__dark : PySem.W.keepIn K (.ref p__dark) = true)
    (a_dark_of : PySem.W.nsIn K mainGlobals "dark_of" = some (some (.ref p_dark_of))) (l_dark_of : K.lookup p_dark_of = some ⟨oc_dark_of, od_dark_of, .func (PySem.W.fnOf "dark_of" "dark_of" (defArgs s_dark_of) (defBody s_dark_of) (defScope s_dark_of) .none kV_dark_of dc_dark_of pm_dark_of an_dark_of cd_dark_of ct_dark_of), sl_dark_of⟩) (d_dark_of : PySem.W.codeIn K cd_dark_of "dark_of" = true) (e_dark_of : PySem.W.keepIn K (.ref p_dark_of) = true)
    (a_both_dark : PySem.W.nsIn K mainGlobals "both_dark" = some (some (.ref p_both_dark))) (l_both_dark : K.lookup p_both_dark = some ⟨oc_both_dark, od_both_dark, .func (PySem.W.fnOf "both_dark" "both_dark" (defArgs s_both_dark) (defBody s_both_dark) (defScope s_both_dark) .none kV_both_dark dc_both_dark pm_both_dark an_both_dark cd_both_dark ct_both_dark), sl_both_dark⟩) (d_both_dark : PySem.W.codeIn K cd_both_dark "both_dark" = true) (e_both_dark : PySem.W.keepIn K (.ref p_both_dark) = true)
    (a_lamp_meeting : PySem.W.nsIn K mainGlobals "lamp_meeting" = some (some (.ref p_lamp_meeting))) (l_lamp_meeting : K.lookup p_lamp_meeting = some ⟨oc_lamp_meeting, od_lamp_meeting, .func (PySem.W.fnOf "lamp_meeting" "lamp_meeting" (defArgs s_lamp_meeting) (defBody s_lamp_meeting) (defScope s_lamp_meeting) .none kV_lamp_meeting dc_lamp_meeting pm_lamp_meeting an_lamp_meeting cd_lamp_meeting ct_lamp_meeting), sl_lamp_meeting⟩) (d_lamp_meeting : PySem.W.codeIn K cd_lamp_meeting "lamp_meeting" = true) (e_lamp_meeting : PySem.W.keepIn K (.ref p_lamp_meeting) = true)
    (a_light_from : PySem.W.nsIn K mainGlobals "light_from" = some (some (.ref p_light_from))) (l_light_from : K.lookup p_light_from = some ⟨oc_light_from, od_light_from, .func (PySem.W.fnOf "light_from" "light_from" (defArgs s_light_from) (defBody s_light_from) (defScope s_light_from) .none kV_light_from dc_light_from pm_light_from an_light_from cd_light_from ct_light_from), sl_light_from⟩) (d_light_from : PySem.W.codeIn K cd_light_from "light_from" = true) (e_light_from : PySem.W.keepIn K (.ref p_light_from) = true)
    (a__check_dial : PySem.W.nsIn K mainGlobals "_check_dial" = some (some (.ref p__check_dial))) (l__check_dial : K.lookup p__check_dial = some ⟨oc__check_dial, od__check_dial, .func (PySem.W.fnOf "_check_dial" "_check_dial" (defArgs s__check_dial) (defBody s__check_dial) (defScope s__check_dial) .none kV__check_dial dc__check_dial pm__check_dial an__check_dial cd__check_dial ct__check_dial), sl__check_dial⟩) (d__check_dial : PySem.W.codeIn K cd__check_dial "_check_dial" = true) (e__check_dial : PySem.W.keepIn K (.ref p__check_dial) = true)
    (a_dial_marks : PySem.W.nsIn K mainGlobals "dial_marks" = some (some (.ref p_dial_marks))) (l_dial_marks : K.lookup p_dial_marks = some ⟨oc_dial_marks, od_dial_marks, .func (PySem.W.fnOf "dial_marks" "dial_marks" (defArgs s_dial_marks) (defBody s_dial_marks) (defScope s_dial_marks) .none kV_dial_marks dc_dial_marks pm_dial_marks an_dial_marks cd_dial_marks ct_dial_marks), sl_dial_marks⟩) (d_dial_marks : PySem.W.codeIn K cd_dial_marks "dial_marks" = true) (e_dial_marks : PySem.W.keepIn K (.ref p_dial_marks) = true)
    (a_hour_of : PySem.W.nsIn K mainGlobals "hour_of" = some (some (.ref p_hour_of))) (l_hour_of : K.lookup p_hour_of = some ⟨oc_hour_of, od_hour_of, .func (PySem.W.fnOf "hour_of" "hour_of" (defArgs s_hour_of) (defBody s_hour_of) (defScope s_hour_of) .none kV_hour_of dc_hour_of pm_hour_of an_hour_of cd_hour_of ct_hour_of), sl_hour_of⟩) (d_hour_of : PySem.W.codeIn K cd_hour_of "hour_of" = true) (e_hour_of : PySem.W.keepIn K (.ref p_hour_of) = true)
    (a__law_second : PySem.W.nsIn K mainGlobals "_law_second" = some (some (.ref p__law_second))) (l__law_second : K.lookup p__law_second = some ⟨oc__law_second, od__law_second, .func (PySem.W.fnOf "_law_second" "_law_second" (defArgs s__law_second) (defBody s__law_second) (defScope s__law_second) .none kV__law_second dc__law_second pm__law_second an__law_second cd__law_second ct__law_second), sl__law_second⟩) (d__law_second : PySem.W.codeIn K cd__law_second "_law_second" = true) (e__law_second : PySem.W.keepIn K (.ref p__law_second) = true)
    (a__law_error : PySem.W.nsIn K mainGlobals "_law_error" = some (some (.ref p__law_error))) (l__law_error : K.lookup p__law_error = some ⟨oc__law_error, od__law_error, .func (PySem.W.fnOf "_law_error" "_law_error" (defArgs s__law_error) (defBody s__law_error) (defScope s__law_error) .none kV__law_error dc__law_error pm__law_error an__law_error cd__law_error ct__law_error), sl__law_error⟩) (d__law_error : PySem.W.codeIn K cd__law_error "_law_error" = true) (e__law_error : PySem.W.keepIn K (.ref p__law_error) = true)
    (a__law_plus : PySem.W.nsIn K mainGlobals "_law_plus" = some (some (.ref p__law_plus))) (l__law_plus : K.lookup p__law_plus = some ⟨oc__law_plus, od__law_plus, .func (PySem.W.fnOf "_law_plus" "_law_plus" (defArgs s__law_plus) (defBody s__law_plus) (defScope s__law_plus) .none kV__law_plus dc__law_plus pm__law_plus an__law_plus cd__law_plus ct__law_plus), sl__law_plus⟩) (d__law_plus : PySem.W.codeIn K cd__law_plus "_law_plus" = true) (e__law_plus : PySem.W.keepIn K (.ref p__law_plus) = true)
    (a__law_less : PySem.W.nsIn K mainGlobals "_law_less" = some (some (.ref p__law_less))) (l__law_less : K.lookup p__law_less = some ⟨oc__law_less, od__law_less, .func (PySem.W.fnOf "_law_less" "_law_less" (defArgs s__law_less) (defBody s__law_less) (defScope s__law_less) .none kV__law_less dc__law_less pm__law_less an__law_less cd__law_less ct__law_less), sl__law_less⟩) (d__law_less : PySem.W.codeIn K cd__law_less "_law_less" = true) (e__law_less : PySem.W.keepIn K (.ref p__law_less) = true)
    (a__law_by : PySem.W.nsIn K mainGlobals "_law_by" = some (some (.ref p__law_by))) (l__law_by : K.lookup p__law_by = some ⟨oc__law_by, od__law_by, .func (PySem.W.fnOf "_law_by" "_law_by" (defArgs s__law_by) (defBody s__law_by) (defScope s__law_by) .none kV__law_by dc__law_by pm__law_by an__law_by cd__law_by ct__law_by), sl__law_by⟩) (d__law_by : PySem.W.codeIn K cd__law_by "_law_by" = true) (e__law_by : PySem.W.keepIn K (.ref p__law_by) = true)
    (a__law_span : PySem.W.nsIn K mainGlobals "_law_span" = some (some (.ref p__law_span))) (l__law_span : K.lookup p__law_span = some ⟨oc__law_span, od__law_span, .func (PySem.W.fnOf "_law_span" "_law_span" (defArgs s__law_span) (defBody s__law_span) (defScope s__law_span) .none kV__law_span dc__law_span pm__law_span an__law_span cd__law_span ct__law_span), sl__law_span⟩) (d__law_span : PySem.W.codeIn K cd__law_span "_law_span" = true) (e__law_span : PySem.W.keepIn K (.ref p__law_span) = true)
    (a_law : PySem.W.nsIn K mainGlobals "law" = some (some (.ref p_law))) (l_law : K.lookup p_law = some ⟨oc_law, od_law, .func (PySem.W.fnOf "law" "law" (defArgs s_law) (defBody s_law) (defScope s_law) .none kV_law dc_law pm_law an_law cd_law ct_law), sl_law⟩) (d_law : PySem.W.codeIn K cd_law "law" = true) (e_law : PySem.W.keepIn K (.ref p_law) = true)
    (z_abs : PySem.W.nsIn K mainGlobals "abs" = some none)
    (z_all : PySem.W.nsIn K mainGlobals "all" = some none)
    (z_any : PySem.W.nsIn K mainGlobals "any" = some none)
    (z_bool : PySem.W.nsIn K mainGlobals "bool" = some none)
    (z_enumerate : PySem.W.nsIn K mainGlobals "enumerate" = some none)
    (z_int : PySem.W.nsIn K mainGlobals "int" = some none)
    (z_isinstance : PySem.W.nsIn K mainGlobals "isinstance" = some none)
    (z_len : PySem.W.nsIn K mainGlobals "len" = some none)
    (z_list : PySem.W.nsIn K mainGlobals "list" = some none)
    (z_max : PySem.W.nsIn K mainGlobals "max" = some none)
    (z_range : PySem.W.nsIn K mainGlobals "range" = some none)
    (z_set : PySem.W.nsIn K mainGlobals "set" = some none)
    (z_sorted : PySem.W.nsIn K mainGlobals "sorted" = some none)
    (z_tuple : PySem.W.nsIn K mainGlobals "tuple" = some none)
    (z_zip : PySem.W.nsIn K mainGlobals "zip" = some none)
    (g_MOST_PLACE : PySem.W.nsIn K mainGlobals "MOST_PLACE" = some (some (.int 1000 t_MOST_PLACE)))
    (g_MOST_POST : PySem.W.nsIn K mainGlobals "MOST_POST" = some (some (.int 1000 t_MOST_POST)))
    (g_MOST_POSTS : PySem.W.nsIn K mainGlobals "MOST_POSTS" = some (some (.int 8 t_MOST_POSTS)))
    (g_MOST_NUMBER : PySem.W.nsIn K mainGlobals "MOST_NUMBER" = some (some (.int 1000000 t_MOST_NUMBER)))
    (g_MOST_LAMP : PySem.W.nsIn K mainGlobals "MOST_LAMP" = some (some (.int 2000 t_MOST_LAMP)))
    (g_LEAST_HOURS : PySem.W.nsIn K mainGlobals "LEAST_HOURS" = some (some (.int 2 t_LEAST_HOURS)))
    (g_MOST_HOURS : PySem.W.nsIn K mainGlobals "MOST_HOURS" = some (some (.int 24 t_MOST_HOURS)))
    (g_LEAST_LIGHT : PySem.W.nsIn K mainGlobals "LEAST_LIGHT" = some (some (.ref A_LEAST_LIGHT))) (q_LEAST_LIGHT : gD K 1 (.ref A_LEAST_LIGHT) (.tuple [.int (-100), .int 1]) = true)
    (g_MOST_LIGHT : PySem.W.nsIn K mainGlobals "MOST_LIGHT" = some (some (.ref A_MOST_LIGHT))) (q_MOST_LIGHT : gD K 1 (.ref A_MOST_LIGHT) (.tuple [.int 100, .int 1]) = true)
    (g_ZERO : PySem.W.nsIn K mainGlobals "ZERO" = some (some (.ref A_ZERO))) (q_ZERO : gD K 1 (.ref A_ZERO) (.tuple [.int 0, .int 1]) = true)
    (g_NEAR : PySem.W.nsIn K mainGlobals "NEAR" = some (some (.ref A_NEAR))) (q_NEAR : gD K 1 (.ref A_NEAR) (.tuple [.int (-1000000000000), .int 1]) = true)
    (g_FAR : PySem.W.nsIn K mainGlobals "FAR" = some (some (.ref A_FAR))) (q_FAR : gD K 1 (.ref A_FAR) (.tuple [.int 1000000000000, .int 1]) = true)
    (xa_SandError : PySem.W.nsIn K mainGlobals "SandError" = some (some (.ref C_SandError))) (xb_SandError : PySem.W.excIn K C_SandError [.type "ValueError", .type "Exception", .type "BaseException", .type "object"] "ValueError.__new__" = true) (xc_SandError : PySem.W.keepIn K (.ref C_SandError) = true) (xd_SandError : PySem.W.subIn K (.ref C_SandError) (.type "BaseException") = some true) (xe_SandError : PySem.W.typeIn K (.ref C_SandError) = some (.type "type")) (xf_SandError : PySem.W.hasDictIn K C_SandError = true)
    (xa_BadPlace : PySem.W.nsIn K mainGlobals "BadPlace" = some (some (.ref C_BadPlace))) (xb_BadPlace : PySem.W.excIn K C_BadPlace [.type "ValueError", .type "Exception", .type "BaseException", .type "object"] "ValueError.__new__" = true) (xc_BadPlace : PySem.W.keepIn K (.ref C_BadPlace) = true) (xd_BadPlace : PySem.W.subIn K (.ref C_BadPlace) (.type "BaseException") = some true) (xe_BadPlace : PySem.W.typeIn K (.ref C_BadPlace) = some (.type "type")) (xf_BadPlace : PySem.W.hasDictIn K C_BadPlace = true)
    (xa_BadDial : PySem.W.nsIn K mainGlobals "BadDial" = some (some (.ref C_BadDial))) (xb_BadDial : PySem.W.excIn K C_BadDial [.type "ValueError", .type "Exception", .type "BaseException", .type "object"] "ValueError.__new__" = true) (xc_BadDial : PySem.W.keepIn K (.ref C_BadDial) = true) (xd_BadDial : PySem.W.subIn K (.ref C_BadDial) (.type "BaseException") = some true) (xe_BadDial : PySem.W.typeIn K (.ref C_BadDial) = some (.type "type")) (xf_BadDial : PySem.W.hasDictIn K C_BadDial = true)
    (xa_BadPosts : PySem.W.nsIn K mainGlobals "BadPosts" = some (some (.ref C_BadPosts))) (xb_BadPosts : PySem.W.excIn K C_BadPosts [.type "ValueError", .type "Exception", .type "BaseException", .type "object"] "ValueError.__new__" = true) (xc_BadPosts : PySem.W.keepIn K (.ref C_BadPosts) = true) (xd_BadPosts : PySem.W.subIn K (.ref C_BadPosts) (.type "BaseException") = some true) (xe_BadPosts : PySem.W.typeIn K (.ref C_BadPosts) = some (.type "type")) (xf_BadPosts : PySem.W.hasDictIn K C_BadPosts = true)
    (xa_BadLight : PySem.W.nsIn K mainGlobals "BadLight" = some (some (.ref C_BadLight))) (xb_BadLight : PySem.W.excIn K C_BadLight [.type "ValueError", .type "Exception", .type "BaseException", .type "object"] "ValueError.__new__" = true) (xc_BadLight : PySem.W.keepIn K (.ref C_BadLight) = true) (xd_BadLight : PySem.W.subIn K (.ref C_BadLight) (.type "BaseException") = some true) (xe_BadLight : PySem.W.typeIn K (.ref C_BadLight) = some (.type "type")) (xf_BadLight : PySem.W.hasDictIn K C_BadLight = true)
    (xa_BadPost : PySem.W.nsIn K mainGlobals "BadPost" = some (some (.ref C_BadPost))) (xb_BadPost : PySem.W.excIn K C_BadPost [.type "ValueError", .type "Exception", .type "BaseException", .type "object"] "ValueError.__new__" = true) (xc_BadPost : PySem.W.keepIn K (.ref C_BadPost) = true) (xd_BadPost : PySem.W.subIn K (.ref C_BadPost) (.type "BaseException") = some true) (xe_BadPost : PySem.W.typeIn K (.ref C_BadPost) = some (.type "type")) (xf_BadPost : PySem.W.hasDictIn K C_BadPost = true)
    (xa_BadLamp : PySem.W.nsIn K mainGlobals "BadLamp" = some (some (.ref C_BadLamp))) (xb_BadLamp : PySem.W.excIn K C_BadLamp [.type "ValueError", .type "Exception", .type "BaseException", .type "object"] "ValueError.__new__" = true) (xc_BadLamp : PySem.W.keepIn K (.ref C_BadLamp) = true) (xd_BadLamp : PySem.W.subIn K (.ref C_BadLamp) (.type "BaseException") = some true) (xe_BadLamp : PySem.W.typeIn K (.ref C_BadLamp) = some (.type "type")) (xf_BadLamp : PySem.W.hasDictIn K C_BadLamp = true)
    (xa_BadHeight : PySem.W.nsIn K mainGlobals "BadHeight" = some (some (.ref C_BadHeight))) (xb_BadHeight : PySem.W.excIn K C_BadHeight [.type "ValueError", .type "Exception", .type "BaseException", .type "object"] "ValueError.__new__" = true) (xc_BadHeight : PySem.W.keepIn K (.ref C_BadHeight) = true) (xd_BadHeight : PySem.W.subIn K (.ref C_BadHeight) (.type "BaseException") = some true) (xe_BadHeight : PySem.W.typeIn K (.ref C_BadHeight) = some (.type "type")) (xf_BadHeight : PySem.W.hasDictIn K C_BadHeight = true)
    (y_BadDial_BadLight : PySem.W.subIn K (.ref C_BadDial) (.ref C_BadLight) = some false)
    (y_BadDial_BadPlace : PySem.W.subIn K (.ref C_BadDial) (.ref C_BadPlace) = some false)
    (y_BadDial_BadPost : PySem.W.subIn K (.ref C_BadDial) (.ref C_BadPost) = some false)
    (y_BadDial_BadPosts : PySem.W.subIn K (.ref C_BadDial) (.ref C_BadPosts) = some false)
    (y_BadDial_SandError : PySem.W.subIn K (.ref C_BadDial) (.ref C_SandError) = some true)
    (y_BadHeight_BadLight : PySem.W.subIn K (.ref C_BadHeight) (.ref C_BadLight) = some false)
    (y_BadHeight_BadPlace : PySem.W.subIn K (.ref C_BadHeight) (.ref C_BadPlace) = some false)
    (y_BadHeight_BadPost : PySem.W.subIn K (.ref C_BadHeight) (.ref C_BadPost) = some false)
    (y_BadHeight_BadPosts : PySem.W.subIn K (.ref C_BadHeight) (.ref C_BadPosts) = some false)
    (y_BadHeight_SandError : PySem.W.subIn K (.ref C_BadHeight) (.ref C_SandError) = some true)
    (y_BadLamp_BadLight : PySem.W.subIn K (.ref C_BadLamp) (.ref C_BadLight) = some false)
    (y_BadLamp_BadPlace : PySem.W.subIn K (.ref C_BadLamp) (.ref C_BadPlace) = some false)
    (y_BadLamp_BadPost : PySem.W.subIn K (.ref C_BadLamp) (.ref C_BadPost) = some false)
    (y_BadLamp_BadPosts : PySem.W.subIn K (.ref C_BadLamp) (.ref C_BadPosts) = some false)
    (y_BadLamp_SandError : PySem.W.subIn K (.ref C_BadLamp) (.ref C_SandError) = some true)
    (y_BadLight_BadLight : PySem.W.subIn K (.ref C_BadLight) (.ref C_BadLight) = some true)
    (y_BadLight_BadPlace : PySem.W.subIn K (.ref C_BadLight) (.ref C_BadPlace) = some false)
    (y_BadLight_BadPost : PySem.W.subIn K (.ref C_BadLight) (.ref C_BadPost) = some false)
    (y_BadLight_BadPosts : PySem.W.subIn K (.ref C_BadLight) (.ref C_BadPosts) = some false)
    (y_BadLight_SandError : PySem.W.subIn K (.ref C_BadLight) (.ref C_SandError) = some true)
    (y_BadPlace_BadLight : PySem.W.subIn K (.ref C_BadPlace) (.ref C_BadLight) = some false)
    (y_BadPlace_BadPlace : PySem.W.subIn K (.ref C_BadPlace) (.ref C_BadPlace) = some true)
    (y_BadPlace_BadPost : PySem.W.subIn K (.ref C_BadPlace) (.ref C_BadPost) = some false)
    (y_BadPlace_BadPosts : PySem.W.subIn K (.ref C_BadPlace) (.ref C_BadPosts) = some false)
    (y_BadPlace_SandError : PySem.W.subIn K (.ref C_BadPlace) (.ref C_SandError) = some true)
    (y_BadPost_BadLight : PySem.W.subIn K (.ref C_BadPost) (.ref C_BadLight) = some false)
    (y_BadPost_BadPlace : PySem.W.subIn K (.ref C_BadPost) (.ref C_BadPlace) = some false)
    (y_BadPost_BadPost : PySem.W.subIn K (.ref C_BadPost) (.ref C_BadPost) = some true)
    (y_BadPost_BadPosts : PySem.W.subIn K (.ref C_BadPost) (.ref C_BadPosts) = some false)
    (y_BadPost_SandError : PySem.W.subIn K (.ref C_BadPost) (.ref C_SandError) = some true)
    (y_BadPosts_BadLight : PySem.W.subIn K (.ref C_BadPosts) (.ref C_BadLight) = some false)
    (y_BadPosts_BadPlace : PySem.W.subIn K (.ref C_BadPosts) (.ref C_BadPlace) = some false)
    (y_BadPosts_BadPost : PySem.W.subIn K (.ref C_BadPosts) (.ref C_BadPost) = some false)
    (y_BadPosts_BadPosts : PySem.W.subIn K (.ref C_BadPosts) (.ref C_BadPosts) = some true)
    (y_BadPosts_SandError : PySem.W.subIn K (.ref C_BadPosts) (.ref C_SandError) = some true)
    (v1_BadPlace : PySem.W.findIn K (.ref C_BadPlace) "__getattribute__" = some (some (.builtin "BaseException.__getattribute__"))) (v2_BadPlace : PySem.W.findIn K (.ref C_BadPlace) "__getattr__" = some none) (v3_BadPlace : PySem.W.findIn K (.ref C_BadPlace) "__class__" = some (some (.builtin "object.__class__"))) (v4_BadPlace : PySem.W.mroIn K C_BadPlace (.type "object") = some true)
    (v1_BadDial : PySem.W.findIn K (.ref C_BadDial) "__getattribute__" = some (some (.builtin "BaseException.__getattribute__"))) (v2_BadDial : PySem.W.findIn K (.ref C_BadDial) "__getattr__" = some none) (v3_BadDial : PySem.W.findIn K (.ref C_BadDial) "__class__" = some (some (.builtin "object.__class__"))) (v4_BadDial : PySem.W.mroIn K C_BadDial (.type "object") = some true)
    (v1_BadPosts : PySem.W.findIn K (.ref C_BadPosts) "__getattribute__" = some (some (.builtin "BaseException.__getattribute__"))) (v2_BadPosts : PySem.W.findIn K (.ref C_BadPosts) "__getattr__" = some none) (v3_BadPosts : PySem.W.findIn K (.ref C_BadPosts) "__class__" = some (some (.builtin "object.__class__"))) (v4_BadPosts : PySem.W.mroIn K C_BadPosts (.type "object") = some true)
    (v1_BadLight : PySem.W.findIn K (.ref C_BadLight) "__getattribute__" = some (some (.builtin "BaseException.__getattribute__"))) (v2_BadLight : PySem.W.findIn K (.ref C_BadLight) "__getattr__" = some none) (v3_BadLight : PySem.W.findIn K (.ref C_BadLight) "__class__" = some (some (.builtin "object.__class__"))) (v4_BadLight : PySem.W.mroIn K C_BadLight (.type "object") = some true)
    (v1_BadPost : PySem.W.findIn K (.ref C_BadPost) "__getattribute__" = some (some (.builtin "BaseException.__getattribute__"))) (v2_BadPost : PySem.W.findIn K (.ref C_BadPost) "__getattr__" = some none) (v3_BadPost : PySem.W.findIn K (.ref C_BadPost) "__class__" = some (some (.builtin "object.__class__"))) (v4_BadPost : PySem.W.mroIn K C_BadPost (.type "object") = some true)
    (v1_BadLamp : PySem.W.findIn K (.ref C_BadLamp) "__getattribute__" = some (some (.builtin "BaseException.__getattribute__"))) (v2_BadLamp : PySem.W.findIn K (.ref C_BadLamp) "__getattr__" = some none) (v3_BadLamp : PySem.W.findIn K (.ref C_BadLamp) "__class__" = some (some (.builtin "object.__class__"))) (v4_BadLamp : PySem.W.mroIn K C_BadLamp (.type "object") = some true)
    (v1_BadHeight : PySem.W.findIn K (.ref C_BadHeight) "__getattribute__" = some (some (.builtin "BaseException.__getattribute__"))) (v2_BadHeight : PySem.W.findIn K (.ref C_BadHeight) "__getattr__" = some none) (v3_BadHeight : PySem.W.findIn K (.ref C_BadHeight) "__class__" = some (some (.builtin "object.__class__"))) (v4_BadHeight : PySem.W.mroIn K C_BadHeight (.type "object") = some true)
    (u1 : PySem.W.specialIn K (.builtin "object.__class__") "__get__" = some (some (.builtin "getset_descriptor.__get__"))) (u2 : PySem.W.takesIn K (.builtin "object.__class__") = some true)
    : ∃ fd : FuncData, (∀ (s : Shared) (v : Value), BindsTo s fd ⟨[v], []⟩ [("script", v)]) ∧ ∀ base : Heap, K.In base → base.Ns mainGlobals mg → FnOk l.prog w K mg base (L2.CX l.prog w) 10 fa fd ["script"] (spLawD K) := by
  have e := hfa.symm.trans (PySem.W.mg_of X G a_law)
  cases e
  have x_SandError : ExcF K mg "SandError" C_SandError := ⟨PySem.W.mg_of X G xa_SandError, xb_SandError, xc_SandError, xd_SandError, xe_SandError, xf_SandError⟩
  have x_BadPlace : ExcF K mg "BadPlace" C_BadPlace := ⟨PySem.W.mg_of X G xa_BadPlace, xb_BadPlace, xc_BadPlace, xd_BadPlace, xe_BadPlace, xf_BadPlace⟩
  have x_BadDial : ExcF K mg "BadDial" C_BadDial := ⟨PySem.W.mg_of X G xa_BadDial, xb_BadDial, xc_BadDial, xd_BadDial, xe_BadDial, xf_BadDial⟩
  have x_BadPosts : ExcF K mg "BadPosts" C_BadPosts := ⟨PySem.W.mg_of X G xa_BadPosts, xb_BadPosts, xc_BadPosts, xd_BadPosts, xe_BadPosts, xf_BadPosts⟩
  have x_BadLight : ExcF K mg "BadLight" C_BadLight := ⟨PySem.W.mg_of X G xa_BadLight, xb_BadLight, xc_BadLight, xd_BadLight, xe_BadLight, xf_BadLight⟩
  have x_BadPost : ExcF K mg "BadPost" C_BadPost := ⟨PySem.W.mg_of X G xa_BadPost, xb_BadPost, xc_BadPost, xd_BadPost, xe_BadPost, xf_BadPost⟩
  have x_BadLamp : ExcF K mg "BadLamp" C_BadLamp := ⟨PySem.W.mg_of X G xa_BadLamp, xb_BadLamp, xc_BadLamp, xd_BadLamp, xe_BadLamp, xf_BadLamp⟩
  have x_BadHeight : ExcF K mg "BadHeight" C_BadHeight := ⟨PySem.W.mg_of X G xa_BadHeight, xb_BadHeight, xc_BadHeight, xd_BadHeight, xe_BadHeight, xf_BadHeight⟩
  have h_SandError : HF K mg (.ref C_SandError) errs ["BadPlace", "BadDial", "BadPosts", "BadLight", "BadPost", "BadLamp", "BadHeight"] := ⟨fun n hn => by
    rcases List.mem_cons.mp hn with rfl | hn
    · exact ⟨C_BadPlace, x_BadPlace.gC, PySem.W.exm_ref x_SandError.bC x_SandError.hC x_SandError.tC (y_BadPlace_SandError.trans (congrArg some (by decide)))⟩
    rcases List.mem_cons.mp hn with rfl | hn
    · exact ⟨C_BadDial, x_BadDial.gC, PySem.W.exm_ref x_SandError.bC x_SandError.hC x_SandError.tC (y_BadDial_SandError.trans (congrArg some (by decide)))⟩
    rcases List.mem_cons.mp hn with rfl | hn
    · exact ⟨C_BadPosts, x_BadPosts.gC, PySem.W.exm_ref x_SandError.bC x_SandError.hC x_SandError.tC (y_BadPosts_SandError.trans (congrArg some (by decide)))⟩
    rcases List.mem_cons.mp hn with rfl | hn
    · exact ⟨C_BadLight, x_BadLight.gC, PySem.W.exm_ref x_SandError.bC x_SandError.hC x_SandError.tC (y_BadLight_SandError.trans (congrArg some (by decide)))⟩
    rcases List.mem_cons.mp hn with rfl | hn
    · exact ⟨C_BadPost, x_BadPost.gC, PySem.W.exm_ref x_SandError.bC x_SandError.hC x_SandError.tC (y_BadPost_SandError.trans (congrArg some (by decide)))⟩
    rcases List.mem_cons.mp hn with rfl | hn
    · exact ⟨C_BadLamp, x_BadLamp.gC, PySem.W.exm_ref x_SandError.bC x_SandError.hC x_SandError.tC (y_BadLamp_SandError.trans (congrArg some (by decide)))⟩
    rcases List.mem_cons.mp hn with rfl | hn
    · exact ⟨C_BadHeight, x_BadHeight.gC, PySem.W.exm_ref x_SandError.bC x_SandError.hC x_SandError.tC (y_BadHeight_SandError.trans (congrArg some (by decide)))⟩
    cases hn⟩
  have h_BadPosts : HF K mg (.ref C_BadPosts) errs ["BadPosts"] := ⟨fun n hn => by
    rcases List.mem_cons.mp hn with rfl | hn
    · exact ⟨C_BadPlace, x_BadPlace.gC, PySem.W.exm_ref x_BadPosts.bC x_BadPosts.hC x_BadPosts.tC (y_BadPlace_BadPosts.trans (congrArg some (by decide)))⟩
    rcases List.mem_cons.mp hn with rfl | hn
    · exact ⟨C_BadDial, x_BadDial.gC, PySem.W.exm_ref x_BadPosts.bC x_BadPosts.hC x_BadPosts.tC (y_BadDial_BadPosts.trans (congrArg some (by decide)))⟩
    rcases List.mem_cons.mp hn with rfl | hn
    · exact ⟨C_BadPosts, x_BadPosts.gC, PySem.W.exm_ref x_BadPosts.bC x_BadPosts.hC x_BadPosts.tC (y_BadPosts_BadPosts.trans (congrArg some (by decide)))⟩
    rcases List.mem_cons.mp hn with rfl | hn
    · exact ⟨C_BadLight, x_BadLight.gC, PySem.W.exm_ref x_BadPosts.bC x_BadPosts.hC x_BadPosts.tC (y_BadLight_BadPosts.trans (congrArg some (by decide)))⟩
    rcases List.mem_cons.mp hn with rfl | hn
    · exact ⟨C_BadPost, x_BadPost.gC, PySem.W.exm_ref x_BadPosts.bC x_BadPosts.hC x_BadPosts.tC (y_BadPost_BadPosts.trans (congrArg some (by decide)))⟩
    rcases List.mem_cons.mp hn with rfl | hn
    · exact ⟨C_BadLamp, x_BadLamp.gC, PySem.W.exm_ref x_BadPosts.bC x_BadPosts.hC x_BadPosts.tC (y_BadLamp_BadPosts.trans (congrArg some (by decide)))⟩
    rcases List.mem_cons.mp hn with rfl | hn
    · exact ⟨C_BadHeight, x_BadHeight.gC, PySem.W.exm_ref x_BadPosts.bC x_BadPosts.hC x_BadPosts.tC (y_BadHeight_BadPosts.trans (congrArg some (by decide)))⟩
    cases hn⟩
  have h_BadLight : HF K mg (.ref C_BadLight) errs ["BadLight"] := ⟨fun n hn => by
    rcases List.mem_cons.mp hn with rfl | hn
    · exact ⟨C_BadPlace, x_BadPlace.gC, PySem.W.exm_ref x_BadLight.bC x_BadLight.hC x_BadLight.tC (y_BadPlace_BadLight.trans (congrArg some (by decide)))⟩
    rcases List.mem_cons.mp hn with rfl | hn
    · exact ⟨C_BadDial, x_BadDial.gC, PySem.W.exm_ref x_BadLight.bC x_BadLight.hC x_BadLight.tC (y_BadDial_BadLight.trans (congrArg some (by decide)))⟩
    rcases List.mem_cons.mp hn with rfl | hn
    · exact ⟨C_BadPosts, x_BadPosts.gC, PySem.W.exm_ref x_BadLight.bC x_BadLight.hC x_BadLight.tC (y_BadPosts_BadLight.trans (congrArg some (by decide)))⟩
    rcases List.mem_cons.mp hn with rfl | hn
    · exact ⟨C_BadLight, x_BadLight.gC, PySem.W.exm_ref x_BadLight.bC x_BadLight.hC x_BadLight.tC (y_BadLight_BadLight.trans (congrArg some (by decide)))⟩
    rcases List.mem_cons.mp hn with rfl | hn
    · exact ⟨C_BadPost, x_BadPost.gC, PySem.W.exm_ref x_BadLight.bC x_BadLight.hC x_BadLight.tC (y_BadPost_BadLight.trans (congrArg some (by decide)))⟩
    rcases List.mem_cons.mp hn with rfl | hn
    · exact ⟨C_BadLamp, x_BadLamp.gC, PySem.W.exm_ref x_BadLight.bC x_BadLight.hC x_BadLight.tC (y_BadLamp_BadLight.trans (congrArg some (by decide)))⟩
    rcases List.mem_cons.mp hn with rfl | hn
    · exact ⟨C_BadHeight, x_BadHeight.gC, PySem.W.exm_ref x_BadLight.bC x_BadLight.hC x_BadLight.tC (y_BadHeight_BadLight.trans (congrArg some (by decide)))⟩
    cases hn⟩
  have h_BadPost : HF K mg (.ref C_BadPost) errs ["BadPost"] := ⟨fun n hn => by
    rcases List.mem_cons.mp hn with rfl | hn
    · exact ⟨C_BadPlace, x_BadPlace.gC, PySem.W.exm_ref x_BadPost.bC x_BadPost.hC x_BadPost.tC (y_BadPlace_BadPost.trans (congrArg some (by decide)))⟩
    rcases List.mem_cons.mp hn with rfl | hn
    · exact ⟨C_BadDial, x_BadDial.gC, PySem.W.exm_ref x_BadPost.bC x_BadPost.hC x_BadPost.tC (y_BadDial_BadPost.trans (congrArg some (by decide)))⟩
    rcases List.mem_cons.mp hn with rfl | hn
    · exact ⟨C_BadPosts, x_BadPosts.gC, PySem.W.exm_ref x_BadPost.bC x_BadPost.hC x_BadPost.tC (y_BadPosts_BadPost.trans (congrArg some (by decide)))⟩
    rcases List.mem_cons.mp hn with rfl | hn
    · exact ⟨C_BadLight, x_BadLight.gC, PySem.W.exm_ref x_BadPost.bC x_BadPost.hC x_BadPost.tC (y_BadLight_BadPost.trans (congrArg some (by decide)))⟩
    rcases List.mem_cons.mp hn with rfl | hn
    · exact ⟨C_BadPost, x_BadPost.gC, PySem.W.exm_ref x_BadPost.bC x_BadPost.hC x_BadPost.tC (y_BadPost_BadPost.trans (congrArg some (by decide)))⟩
    rcases List.mem_cons.mp hn with rfl | hn
    · exact ⟨C_BadLamp, x_BadLamp.gC, PySem.W.exm_ref x_BadPost.bC x_BadPost.hC x_BadPost.tC (y_BadLamp_BadPost.trans (congrArg some (by decide)))⟩
    rcases List.mem_cons.mp hn with rfl | hn
    · exact ⟨C_BadHeight, x_BadHeight.gC, PySem.W.exm_ref x_BadPost.bC x_BadPost.hC x_BadPost.tC (y_BadHeight_BadPost.trans (congrArg some (by decide)))⟩
    cases hn⟩
  have i_BadPlace : IsF K mg C_BadPlace errs ["BadPlace"] := ⟨fun n hn => by
    rcases List.mem_cons.mp hn with rfl | hn
    · exact ⟨C_BadPlace, x_BadPlace.gC, ⟨v1_BadPlace, v2_BadPlace, x_BadPlace.bC, x_BadPlace.hC, v3_BadPlace, u1, u2, v4_BadPlace⟩, (kit_sub x_BadPlace.hC x_BadPlace.tC y_BadPlace_BadPlace y_BadPlace_BadPlace).trans (congrArg some (by decide))⟩
    rcases List.mem_cons.mp hn with rfl | hn
    · exact ⟨C_BadDial, x_BadDial.gC, ⟨v1_BadDial, v2_BadDial, x_BadDial.bC, x_BadDial.hC, v3_BadDial, u1, u2, v4_BadDial⟩, (kit_sub x_BadPlace.hC x_BadPlace.tC y_BadPlace_BadPlace y_BadDial_BadPlace).trans (congrArg some (by decide))⟩
    rcases List.mem_cons.mp hn with rfl | hn
    · exact ⟨C_BadPosts, x_BadPosts.gC, ⟨v1_BadPosts, v2_BadPosts, x_BadPosts.bC, x_BadPosts.hC, v3_BadPosts, u1, u2, v4_BadPosts⟩, (kit_sub x_BadPlace.hC x_BadPlace.tC y_BadPlace_BadPlace y_BadPosts_BadPlace).trans (congrArg some (by decide))⟩
    rcases List.mem_cons.mp hn with rfl | hn
    · exact ⟨C_BadLight, x_BadLight.gC, ⟨v1_BadLight, v2_BadLight, x_BadLight.bC, x_BadLight.hC, v3_BadLight, u1, u2, v4_BadLight⟩, (kit_sub x_BadPlace.hC x_BadPlace.tC y_BadPlace_BadPlace y_BadLight_BadPlace).trans (congrArg some (by decide))⟩
    rcases List.mem_cons.mp hn with rfl | hn
    · exact ⟨C_BadPost, x_BadPost.gC, ⟨v1_BadPost, v2_BadPost, x_BadPost.bC, x_BadPost.hC, v3_BadPost, u1, u2, v4_BadPost⟩, (kit_sub x_BadPlace.hC x_BadPlace.tC y_BadPlace_BadPlace y_BadPost_BadPlace).trans (congrArg some (by decide))⟩
    rcases List.mem_cons.mp hn with rfl | hn
    · exact ⟨C_BadLamp, x_BadLamp.gC, ⟨v1_BadLamp, v2_BadLamp, x_BadLamp.bC, x_BadLamp.hC, v3_BadLamp, u1, u2, v4_BadLamp⟩, (kit_sub x_BadPlace.hC x_BadPlace.tC y_BadPlace_BadPlace y_BadLamp_BadPlace).trans (congrArg some (by decide))⟩
    rcases List.mem_cons.mp hn with rfl | hn
    · exact ⟨C_BadHeight, x_BadHeight.gC, ⟨v1_BadHeight, v2_BadHeight, x_BadHeight.bC, x_BadHeight.hC, v3_BadHeight, u1, u2, v4_BadHeight⟩, (kit_sub x_BadPlace.hC x_BadPlace.tC y_BadPlace_BadPlace y_BadHeight_BadPlace).trans (congrArg some (by decide))⟩
    cases hn⟩
  have T : Txt K mg C_SandError C_BadPlace C_BadDial C_BadPosts C_BadLight C_BadPost C_BadLamp C_BadHeight A_LEAST_LIGHT A_MOST_LIGHT A_ZERO A_NEAR A_FAR t_MOST_PLACE t_MOST_POST t_MOST_POSTS t_MOST_NUMBER t_MOST_LAMP t_LEAST_HOURS t_MOST_HOURS := { b_abs := PySem.W.mg_none_of X G z_abs, b_all := PySem.W.mg_none_of X G z_all, b_any := PySem.W.mg_none_of X G z_any, b_bool := PySem.W.mg_none_of X G z_bool, b_enumerate := PySem.W.mg_none_of X G z_enumerate, b_int := PySem.W.mg_none_of X G z_int, b_isinstance := PySem.W.mg_none_of X G z_isinstance, b_len := PySem.W.mg_none_of X G z_len, b_list := PySem.W.mg_none_of X G z_list, b_max := PySem.W.mg_none_of X G z_max, b_range := PySem.W.mg_none_of X G z_range, b_set := PySem.W.mg_none_of X G z_set, b_sorted := PySem.W.mg_none_of X G z_sorted, b_tuple := PySem.W.mg_none_of X G z_tuple, b_zip := PySem.W.mg_none_of X G z_zip, c_MOST_PLACE := PySem.W.mg_of X G g_MOST_PLACE, c_MOST_POST := PySem.W.mg_of X G g_MOST_POST, c_MOST_POSTS := PySem.W.mg_of X G g_MOST_POSTS, c_MOST_NUMBER := PySem.W.mg_of X G g_MOST_NUMBER, c_MOST_LAMP := PySem.W.mg_of X G g_MOST_LAMP, c_LEAST_HOURS := PySem.W.mg_of X G g_LEAST_HOURS, c_MOST_HOURS := PySem.W.mg_of X G g_MOST_HOURS, c_LEAST_LIGHT := ⟨PySem.W.mg_of X G g_LEAST_LIGHT, q_LEAST_LIGHT⟩, c_MOST_LIGHT := ⟨PySem.W.mg_of X G g_MOST_LIGHT, q_MOST_LIGHT⟩, c_ZERO := ⟨PySem.W.mg_of X G g_ZERO, q_ZERO⟩, c_NEAR := ⟨PySem.W.mg_of X G g_NEAR, q_NEAR⟩, c_FAR := ⟨PySem.W.mg_of X G g_FAR, q_FAR⟩, x_SandError := x_SandError, x_BadPlace := x_BadPlace, x_BadDial := x_BadDial, x_BadPosts := x_BadPosts, x_BadLight := x_BadLight, x_BadPost := x_BadPost, x_BadLamp := x_BadLamp, x_BadHeight := x_BadHeight, h_SandError := h_SandError, h_BadPosts := h_BadPosts, h_BadLight := h_BadLight, h_BadPost := h_BadPost, i_BadPlace := i_BadPlace }
  have F__law_draws := fun_mk (st := s__law_draws) l__law_draws d__law_draws e__law_draws
  have F__law_posts := fun_mk (st := s__law_posts) l__law_posts d__law_posts e__law_posts
  have F__law_plain := fun_mk (st := s__law_plain) l__law_plain d__law_plain e__law_plain
  have F__law_light := fun_mk (st := s__law_light) l__law_light d__law_light e__law_light
  have F_ascends := fun_mk (st := s_ascends) l_ascends d_ascends e_ascends
  have F_is_whole := fun_mk (st := s_is_whole) l_is_whole d_is_whole e_is_whole
  have F_is_post := fun_mk (st := s_is_post) l_is_post d_is_post e_is_post
  have F_are_posts := fun_mk (st := s_are_posts) l_are_posts d_are_posts e_are_posts
  have F_check_posts := fun_mk (st := s_check_posts) l_check_posts d_check_posts e_check_posts
  have F_divisor := fun_mk (st := s_divisor) l_divisor d_divisor e_divisor
  have F_is_ratio := fun_mk (st := s_is_ratio) l_is_ratio d_is_ratio e_is_ratio
  have F_is_small := fun_mk (st := s_is_small) l_is_small d_is_small e_is_small
  have F_is_less := fun_mk (st := s_is_less) l_is_less d_is_less e_is_less
  have F_is_light := fun_mk (st := s_is_light) l_is_light d_is_light e_is_light
  have F__check := fun_mk (st := s__check) l__check d__check e__check
  have F_ratio := fun_mk (st := s_ratio) l_ratio d_ratio e_ratio
  have F_plus := fun_mk (st := s_plus) l_plus d_plus e_plus
  have F_times := fun_mk (st := s_times) l_times d_times e_times
  have F_tip_in := fun_mk (st := s_tip_in) l_tip_in d_tip_in e_tip_in
  have F_tips_of := fun_mk (st := s_tips_of) l_tips_of d_tips_of e_tips_of
  have F_least := fun_mk (st := s_least) l_least d_least e_least
  have F_greatest := fun_mk (st := s_greatest) l_greatest d_greatest e_greatest
  have F__shadow := fun_mk (st := s__shadow) l__shadow d__shadow e__shadow
  have F_shadows_of := fun_mk (st := s_shadows_of) l_shadows_of d_shadows_of e_shadows_of
  have F__law_is_number := fun_mk (st := s__law_is_number) l__law_is_number d__law_is_number e__law_is_number
  have F__law_are_posts := fun_mk (st := s__law_are_posts) l__law_are_posts d__law_are_posts e__law_are_posts
  have F__law_is_light := fun_mk (st := s__law_is_light) l__law_is_light d__law_is_light e__law_is_light
  have F_in_order := fun_mk (st := s_in_order) l_in_order d_in_order e_in_order
  have F_put_together := fun_mk (st := s_put_together) l_put_together d_put_together e_put_together
  have F__shade := fun_mk (st := s__shade) l__shade d__shade e__shade
  have F_shade_of := fun_mk (st := s_shade_of) l_shade_of d_shade_of e_shade_of
  have F_minus := fun_mk (st := s_minus) l_minus d_minus e_minus
  have F_shade_length := fun_mk (st := s_shade_length) l_shade_length d_shade_length e_shade_length
  have F_check_place := fun_mk (st := s_check_place) l_check_place d_check_place e_check_place
  have F_is_shaded := fun_mk (st := s_is_shaded) l_is_shaded d_is_shaded e_is_shaded
  have F_check_post := fun_mk (st := s_check_post) l_check_post d_check_post e_check_post
  have F_over := fun_mk (st := s_over) l_over d_over e_over
  have F__height_at := fun_mk (st := s__height_at) l__height_at d__height_at e__height_at
  have F__shade_on := fun_mk (st := s__shade_on) l__shade_on d__shade_on e__shade_on
  have F_shade_on := fun_mk (st := s_shade_on) l_shade_on d_shade_on e_shade_on
  have F_hidden_by := fun_mk (st := s_hidden_by) l_hidden_by d_hidden_by e_hidden_by
  have F__law_first := fun_mk (st := s__law_first) l__law_first d__law_first e__law_first
  have F_check_two := fun_mk (st := s_check_two) l_check_two d_check_two e_check_two
  have F__meeting := fun_mk (st := s__meeting) l__meeting d__meeting e__meeting
  have F_light_meeting := fun_mk (st := s_light_meeting) l_light_meeting d_light_meeting e_light_meeting
  have F_light_hiding := fun_mk (st := s_light_hiding) l_light_hiding d_light_hiding e_light_hiding
  have F_meeting_lights := fun_mk (st := s_meeting_lights) l_meeting_lights d_meeting_lights e_meeting_lights
  have F__check_lamp := fun_mk (st := s__check_lamp) l__check_lamp d__check_lamp e__check_lamp
  have F__tip := fun_mk (st := s__tip) l__tip d__tip e__tip
  have F_lamp_tips := fun_mk (st := s_lamp_tips) l_lamp_tips d_lamp_tips e_lamp_tips
  have F__span := fun_mk (st := s__span) l__span d__span e__span
  have F__dark := fun_mk (st := s__dark) l__dark d__dark e__dark
  have F_dark_of := fun_mk (st := s_dark_of) l_dark_of d_dark_of e_dark_of
  have F_both_dark := fun_mk (st := s_both_dark) l_both_dark d_both_dark e_both_dark
  have F_lamp_meeting := fun_mk (st := s_lamp_meeting) l_lamp_meeting d_lamp_meeting e_lamp_meeting
  have F_light_from := fun_mk (st := s_light_from) l_light_from d_light_from e_light_from
  have F__check_dial := fun_mk (st := s__check_dial) l__check_dial d__check_dial e__check_dial
  have F_dial_marks := fun_mk (st := s_dial_marks) l_dial_marks d_dial_marks e_dial_marks
  have F_hour_of := fun_mk (st := s_hour_of) l_hour_of d_hour_of e_hour_of
  have F__law_second := fun_mk (st := s__law_second) l__law_second d__law_second e__law_second
  have F__law_error := fun_mk (st := s__law_error) l__law_error d__law_error e__law_error
  have F__law_plus := fun_mk (st := s__law_plus) l__law_plus d__law_plus e__law_plus
  have F__law_less := fun_mk (st := s__law_less) l__law_less d__law_less e__law_less
  have F__law_by := fun_mk (st := s__law_by) l__law_by d__law_by e__law_by
  have F__law_span := fun_mk (st := s__law_span) l__law_span d__law_span e__law_span
  have F_law := fun_mk (st := s_law) l_law d_law e_law
  refine ⟨PySem.W.fnOf "law" "law" (defArgs s_law) (defBody s_law) (defScope s_law) .none kV_law dc_law pm_law an_law cd_law ct_law, fun s v => .of_eq rfl, fun base _ _ => ?_⟩
  have k__law_draws : Callee l.prog w K mg base 1 "_law_draws" 2 f__law_draws := ⟨⟨p__law_draws, _, ["script", "many"], PySem.W.mg_of X G a__law_draws, F__law_draws.kp, F__law_draws.binds (ps := ["script", "many"]) fun _ _ _ _ _ _ us hl => match us, hl with | [_, _], _ => rfl, ok__law_draws T F__law_draws⟩, semOf_len⟩
  have k__law_posts : Callee l.prog w K mg base 1 "_law_posts" 2 f__law_posts := ⟨⟨p__law_posts, _, ["draws", "many"], PySem.W.mg_of X G a__law_posts, F__law_posts.kp, F__law_posts.binds (ps := ["draws", "many"]) fun _ _ _ _ _ _ us hl => match us, hl with | [_, _], _ => rfl, ok__law_posts T F__law_posts⟩, semOf_len⟩
  have k__law_plain : Callee l.prog w K mg base 1 "_law_plain" 2 f__law_plain := ⟨⟨p__law_plain, _, ["up", "down"], PySem.W.mg_of X G a__law_plain, F__law_plain.kp, F__law_plain.binds (ps := ["up", "down"]) fun _ _ _ _ _ _ us hl => match us, hl with | [_, _], _ => rfl, ok__law_plain T F__law_plain⟩, semOf_len⟩
  have k__law_light : Callee l.prog w K mg base 2 "_law_light" 1 f__law_light := ⟨⟨p__law_light, _, ["draw"], PySem.W.mg_of X G a__law_light, F__law_light.kp, F__law_light.binds (ps := ["draw"]) fun _ _ _ _ _ _ us hl => match us, hl with | [_], _ => rfl, ok__law_light T F__law_light k__law_plain⟩, semOf_len⟩
  have k_ascends : Callee l.prog w K mg base 1 "ascends" 1 f_ascends := ⟨⟨p_ascends, _, ["values"], PySem.W.mg_of X G a_ascends, F_ascends.kp, F_ascends.binds (ps := ["values"]) fun _ _ _ _ _ _ us hl => match us, hl with | [_], _ => rfl, ok_ascends T F_ascends⟩, semOf_len⟩
  have k_is_whole : Callee l.prog w K mg base 1 "is_whole" 3 f_is_whole := ⟨⟨p_is_whole, _, ["value", "least", "most"], PySem.W.mg_of X G a_is_whole, F_is_whole.kp, F_is_whole.binds (ps := ["value", "least", "most"]) fun _ _ _ _ _ _ us hl => match us, hl with | [_, _, _], _ => rfl, ok_is_whole T F_is_whole⟩, semOf_len⟩
  have k_is_post : Callee l.prog w K mg base 2 "is_post" 1 f_is_post := ⟨⟨p_is_post, _, ["value"], PySem.W.mg_of X G a_is_post, F_is_post.kp, F_is_post.binds (ps := ["value"]) fun _ _ _ _ _ _ us hl => match us, hl with | [_], _ => rfl, ok_is_post T F_is_post k_is_whole⟩, semOf_len⟩
  have k_are_posts : Callee l.prog w K mg base 3 "are_posts" 1 f_are_posts := ⟨⟨p_are_posts, _, ["value"], PySem.W.mg_of X G a_are_posts, F_are_posts.kp, F_are_posts.binds (ps := ["value"]) fun _ _ _ _ _ _ us hl => match us, hl with | [_], _ => rfl, ok_are_posts T F_are_posts k_is_post k_ascends⟩, semOf_len⟩
  have k_check_posts : Callee l.prog w K mg base 4 "check_posts" 1 f_check_posts := ⟨⟨p_check_posts, _, ["posts"], PySem.W.mg_of X G a_check_posts, F_check_posts.kp, F_check_posts.binds (ps := ["posts"]) fun _ _ _ _ _ _ us hl => match us, hl with | [_], _ => rfl, ok_check_posts T F_check_posts k_are_posts⟩, semOf_len⟩
  have k_divisor : Callee l.prog w K mg base 1 "divisor" 2 f_divisor := ⟨⟨p_divisor, _, ["one", "other"], PySem.W.mg_of X G a_divisor, F_divisor.kp, F_divisor.binds (ps := ["one", "other"]) fun _ _ _ _ _ _ us hl => match us, hl with | [_, _], _ => rfl, ok_divisor T F_divisor⟩, semOf_len⟩
  have k_is_ratio : Callee l.prog w K mg base 2 "is_ratio" 1 f_is_ratio := ⟨⟨p_is_ratio, _, ["value"], PySem.W.mg_of X G a_is_ratio, F_is_ratio.kp, F_is_ratio.binds (ps := ["value"]) fun _ _ _ _ _ _ us hl => match us, hl with | [_], _ => rfl, ok_is_ratio T F_is_ratio k_divisor⟩, semOf_len⟩
  have k_is_small : Callee l.prog w K mg base 3 "is_small" 1 f_is_small := ⟨⟨p_is_small, _, ["value"], PySem.W.mg_of X G a_is_small, F_is_small.kp, F_is_small.binds (ps := ["value"]) fun _ _ _ _ _ _ us hl => match us, hl with | [_], _ => rfl, ok_is_small T F_is_small k_is_ratio k_is_whole⟩, semOf_len⟩
  have k_is_less : Callee l.prog w K mg base 1 "is_less" 2 f_is_less := ⟨⟨p_is_less, _, ["one", "other"], PySem.W.mg_of X G a_is_less, F_is_less.kp, F_is_less.binds (ps := ["one", "other"]) fun _ _ _ _ _ _ us hl => match us, hl with | [_, _], _ => rfl, ok_is_less T F_is_less⟩, semOf_len⟩
  have k_is_light : Callee l.prog w K mg base 4 "is_light" 1 f_is_light := ⟨⟨p_is_light, _, ["value"], PySem.W.mg_of X G a_is_light, F_is_light.kp, F_is_light.binds (ps := ["value"]) fun _ _ _ _ _ _ us hl => match us, hl with | [_], _ => rfl, ok_is_light T F_is_light k_is_small k_is_less⟩, semOf_len⟩
  have k__check : Callee l.prog w K mg base 5 "_check" 2 f__check := ⟨⟨p__check, _, ["posts", "light"], PySem.W.mg_of X G a__check, F__check.kp, F__check.binds (ps := ["posts", "light"]) fun _ _ _ _ _ _ us hl => match us, hl with | [_, _], _ => rfl, ok__check T F__check k_check_posts k_is_light⟩, semOf_len⟩
  have k_ratio : Callee l.prog w K mg base 2 "ratio" 2 f_ratio := ⟨⟨p_ratio, _, ["up", "down"], PySem.W.mg_of X G a_ratio, F_ratio.kp, F_ratio.binds (ps := ["up", "down"]) fun _ _ _ _ _ _ us hl => match us, hl with | [_, _], _ => rfl, ok_ratio T F_ratio k_divisor⟩, semOf_len⟩
  have k_plus : Callee l.prog w K mg base 3 "plus" 2 f_plus := ⟨⟨p_plus, _, ["one", "other"], PySem.W.mg_of X G a_plus, F_plus.kp, F_plus.binds (ps := ["one", "other"]) fun _ _ _ _ _ _ us hl => match us, hl with | [_, _], _ => rfl, ok_plus T F_plus k_ratio⟩, semOf_len⟩
  have k_times : Callee l.prog w K mg base 3 "times" 2 f_times := ⟨⟨p_times, _, ["one", "other"], PySem.W.mg_of X G a_times, F_times.kp, F_times.binds (ps := ["one", "other"]) fun _ _ _ _ _ _ us hl => match us, hl with | [_, _], _ => rfl, ok_times T F_times k_ratio⟩, semOf_len⟩
  have k_tip_in : Callee l.prog w K mg base 4 "tip_in" 2 f_tip_in := ⟨⟨p_tip_in, _, ["post", "light"], PySem.W.mg_of X G a_tip_in, F_tip_in.kp, F_tip_in.binds (ps := ["post", "light"]) fun _ _ _ _ _ _ us hl => match us, hl with | [_, _], _ => rfl, ok_tip_in T F_tip_in k_plus k_times⟩, semOf_len⟩
  have k_tips_of : Callee l.prog w K mg base 6 "tips_of" 2 f_tips_of := ⟨⟨p_tips_of, _, ["posts", "light"], PySem.W.mg_of X G a_tips_of, F_tips_of.kp, F_tips_of.binds (ps := ["posts", "light"]) fun _ _ _ _ _ _ us hl => match us, hl with | [_, _], _ => rfl, ok_tips_of T F_tips_of k__check k_tip_in⟩, semOf_len⟩
  have k_least : Callee l.prog w K mg base 2 "least" 2 f_least := ⟨⟨p_least, _, ["one", "other"], PySem.W.mg_of X G a_least, F_least.kp, F_least.binds (ps := ["one", "other"]) fun _ _ _ _ _ _ us hl => match us, hl with | [_, _], _ => rfl, ok_least T F_least k_is_less⟩, semOf_len⟩
  have k_greatest : Callee l.prog w K mg base 2 "greatest" 2 f_greatest := ⟨⟨p_greatest, _, ["one", "other"], PySem.W.mg_of X G a_greatest, F_greatest.kp, F_greatest.binds (ps := ["one", "other"]) fun _ _ _ _ _ _ us hl => match us, hl with | [_, _], _ => rfl, ok_greatest T F_greatest k_is_less⟩, semOf_len⟩
  have k__shadow : Callee l.prog w K mg base 5 "_shadow" 2 f__shadow := ⟨⟨p__shadow, _, ["post", "light"], PySem.W.mg_of X G a__shadow, F__shadow.kp, F__shadow.binds (ps := ["post", "light"]) fun _ _ _ _ _ _ us hl => match us, hl with | [_, _], _ => rfl, ok__shadow T F__shadow k_tip_in k_least k_greatest⟩, semOf_len⟩
  have k_shadows_of : Callee l.prog w K mg base 6 "shadows_of" 2 f_shadows_of := ⟨⟨p_shadows_of, _, ["posts", "light"], PySem.W.mg_of X G a_shadows_of, F_shadows_of.kp, F_shadows_of.binds (ps := ["posts", "light"]) fun _ _ _ _ _ _ us hl => match us, hl with | [_, _], _ => rfl, ok_shadows_of T F_shadows_of k__check k__shadow⟩, semOf_len⟩
  have k__law_is_number : Callee l.prog w K mg base 1 "_law_is_number" 1 f__law_is_number := ⟨⟨p__law_is_number, _, ["value"], PySem.W.mg_of X G a__law_is_number, F__law_is_number.kp, F__law_is_number.binds (ps := ["value"]) fun _ _ _ _ _ _ us hl => match us, hl with | [_], _ => rfl, ok__law_is_number T F__law_is_number⟩, semOf_len⟩
  have k__law_are_posts : Callee l.prog w K mg base 2 "_law_are_posts" 1 f__law_are_posts := ⟨⟨p__law_are_posts, _, ["value"], PySem.W.mg_of X G a__law_are_posts, F__law_are_posts.kp, F__law_are_posts.binds (ps := ["value"]) fun _ _ _ _ _ _ us hl => match us, hl with | [_], _ => rfl, ok__law_are_posts T F__law_are_posts k__law_is_number⟩, semOf_len⟩
  have k__law_is_light : Callee l.prog w K mg base 2 "_law_is_light" 1 f__law_is_light := ⟨⟨p__law_is_light, _, ["value"], PySem.W.mg_of X G a__law_is_light, F__law_is_light.kp, F__law_is_light.binds (ps := ["value"]) fun _ _ _ _ _ _ us hl => match us, hl with | [_], _ => rfl, ok__law_is_light T F__law_is_light k__law_is_number k__law_plain⟩, semOf_len⟩
  have k_in_order : Callee l.prog w K mg base 2 "in_order" 1 f_in_order := ⟨⟨p_in_order, _, ["values"], PySem.W.mg_of X G a_in_order, F_in_order.kp, F_in_order.binds (ps := ["values"]) fun _ _ _ _ _ _ us hl => match us, hl with | [_], _ => rfl, ok_in_order T F_in_order k_is_less⟩, semOf_len⟩
  have k_put_together : Callee l.prog w K mg base 3 "put_together" 1 f_put_together := ⟨⟨p_put_together, _, ["spans"], PySem.W.mg_of X G a_put_together, F_put_together.kp, F_put_together.binds (ps := ["spans"]) fun _ _ _ _ _ _ us hl => match us, hl with | [_], _ => rfl, ok_put_together T F_put_together k_is_less k_in_order k_greatest⟩, semOf_len⟩
  have k__shade : Callee l.prog w K mg base 6 "_shade" 2 f__shade := ⟨⟨p__shade, _, ["posts", "light"], PySem.W.mg_of X G a__shade, F__shade.kp, F__shade.binds (ps := ["posts", "light"]) fun _ _ _ _ _ _ us hl => match us, hl with | [_, _], _ => rfl, ok__shade T F__shade k_put_together k__shadow⟩, semOf_len⟩
  have k_shade_of : Callee l.prog w K mg base 7 "shade_of" 2 f_shade_of := ⟨⟨p_shade_of, _, ["posts", "light"], PySem.W.mg_of X G a_shade_of, F_shade_of.kp, F_shade_of.binds (ps := ["posts", "light"]) fun _ _ _ _ _ _ us hl => match us, hl with | [_, _], _ => rfl, ok_shade_of T F_shade_of k__check k__shade⟩, semOf_len⟩
  have k_minus : Callee l.prog w K mg base 3 "minus" 2 f_minus := ⟨⟨p_minus, _, ["one", "other"], PySem.W.mg_of X G a_minus, F_minus.kp, F_minus.binds (ps := ["one", "other"]) fun _ _ _ _ _ _ us hl => match us, hl with | [_, _], _ => rfl, ok_minus T F_minus k_ratio⟩, semOf_len⟩
  have k_shade_length : Callee l.prog w K mg base 7 "shade_length" 2 f_shade_length := ⟨⟨p_shade_length, _, ["posts", "light"], PySem.W.mg_of X G a_shade_length, F_shade_length.kp, F_shade_length.binds (ps := ["posts", "light"]) fun _ _ _ _ _ _ us hl => match us, hl with | [_, _], _ => rfl, ok_shade_length T F_shade_length k__check k__shade k_plus k_minus⟩, semOf_len⟩
  have k_check_place : Callee l.prog w K mg base 3 "check_place" 1 f_check_place := ⟨⟨p_check_place, _, ["place"], PySem.W.mg_of X G a_check_place, F_check_place.kp, F_check_place.binds (ps := ["place"]) fun _ _ _ _ _ _ us hl => match us, hl with | [_], _ => rfl, ok_check_place T F_check_place k_is_ratio⟩, semOf_len⟩
  have k_is_shaded : Callee l.prog w K mg base 7 "is_shaded" 3 f_is_shaded := ⟨⟨p_is_shaded, _, ["posts", "light", "place"], PySem.W.mg_of X G a_is_shaded, F_is_shaded.kp, F_is_shaded.binds (ps := ["posts", "light", "place"]) fun _ _ _ _ _ _ us hl => match us, hl with | [_, _, _], _ => rfl, ok_is_shaded T F_is_shaded k__check k_check_place k__shade k_is_less⟩, semOf_len⟩
  have k_check_post : Callee l.prog w K mg base 2 "check_post" 2 f_check_post := ⟨⟨p_check_post, _, ["posts", "number"], PySem.W.mg_of X G a_check_post, F_check_post.kp, F_check_post.binds (ps := ["posts", "number"]) fun _ _ _ _ _ _ us hl => match us, hl with | [_, _], _ => rfl, ok_check_post T F_check_post k_is_whole⟩, semOf_len⟩
  have k_over : Callee l.prog w K mg base 3 "over" 2 f_over := ⟨⟨p_over, _, ["one", "other"], PySem.W.mg_of X G a_over, F_over.kp, F_over.binds (ps := ["one", "other"]) fun _ _ _ _ _ _ us hl => match us, hl with | [_, _], _ => rfl, ok_over T F_over k_ratio⟩, semOf_len⟩
  have k__height_at : Callee l.prog w K mg base 4 "_height_at" 3 f__height_at := ⟨⟨p__height_at, _, ["post", "light", "place"], PySem.W.mg_of X G a__height_at, F__height_at.kp, F__height_at.binds (ps := ["post", "light", "place"]) fun _ _ _ _ _ _ us hl => match us, hl with | [_, _, _], _ => rfl, ok__height_at T F__height_at k_is_less k_greatest k_minus k_over⟩, semOf_len⟩
  have k__shade_on : Callee l.prog w K mg base 5 "_shade_on" 3 f__shade_on := ⟨⟨p__shade_on, _, ["posts", "light", "number"], PySem.W.mg_of X G a__shade_on, F__shade_on.kp, F__shade_on.binds (ps := ["posts", "light", "number"]) fun _ _ _ _ _ _ us hl => match us, hl with | [_, _, _], _ => rfl, ok__shade_on T F__shade_on k_greatest k__height_at k_least⟩, semOf_len⟩
  have k_shade_on : Callee l.prog w K mg base 6 "shade_on" 3 f_shade_on := ⟨⟨p_shade_on, _, ["posts", "light", "number"], PySem.W.mg_of X G a_shade_on, F_shade_on.kp, F_shade_on.binds (ps := ["posts", "light", "number"]) fun _ _ _ _ _ _ us hl => match us, hl with | [_, _, _], _ => rfl, ok_shade_on T F_shade_on k__check k_check_post k__shade_on⟩, semOf_len⟩
  have k_hidden_by : Callee l.prog w K mg base 6 "hidden_by" 2 f_hidden_by := ⟨⟨p_hidden_by, _, ["posts", "light"], PySem.W.mg_of X G a_hidden_by, F_hidden_by.kp, F_hidden_by.binds (ps := ["posts", "light"]) fun _ _ _ _ _ _ us hl => match us, hl with | [_, _], _ => rfl, ok_hidden_by T F_hidden_by k__check k__shade_on⟩, semOf_len⟩
  have k__law_first : Callee l.prog w K mg base 8 "_law_first" 3 f__law_first := ⟨⟨p__law_first, _, ["way", "posts", "light"], PySem.W.mg_of X G a__law_first, F__law_first.kp, F__law_first.binds (ps := ["way", "posts", "light"]) fun _ _ _ _ _ _ us hl => match us, hl with | [_, _, _], _ => rfl, ok__law_first T F__law_first k_tips_of k_shadows_of k_shade_of k_shade_length k_is_shaded k_shade_on k_hidden_by⟩, semOf_len⟩
  have k_check_two : Callee l.prog w K mg base 5 "check_two" 3 f_check_two := ⟨⟨p_check_two, _, ["posts", "one", "other"], PySem.W.mg_of X G a_check_two, F_check_two.kp, F_check_two.binds (ps := ["posts", "one", "other"]) fun _ _ _ _ _ _ us hl => match us, hl with | [_, _, _], _ => rfl, ok_check_two T F_check_two k_check_posts k_check_post⟩, semOf_len⟩
  have k__meeting : Callee l.prog w K mg base 1 "_meeting" 2 f__meeting := ⟨⟨p__meeting, _, ["first", "second"], PySem.W.mg_of X G a__meeting, F__meeting.kp, F__meeting.binds (ps := ["first", "second"]) fun _ _ _ _ _ _ us hl => match us, hl with | [_, _], _ => rfl, ok__meeting T F__meeting⟩, semOf_len⟩
  have k_light_meeting : Callee l.prog w K mg base 6 "light_meeting" 3 f_light_meeting := ⟨⟨p_light_meeting, _, ["posts", "one", "other"], PySem.W.mg_of X G a_light_meeting, F_light_meeting.kp, F_light_meeting.binds (ps := ["posts", "one", "other"]) fun _ _ _ _ _ _ us hl => match us, hl with | [_, _, _], _ => rfl, ok_light_meeting T F_light_meeting k_check_two k__meeting⟩, semOf_len⟩
  have k_light_hiding : Callee l.prog w K mg base 6 "light_hiding" 3 f_light_hiding := ⟨⟨p_light_hiding, _, ["posts", "one", "other"], PySem.W.mg_of X G a_light_hiding, F_light_hiding.kp, F_light_hiding.binds (ps := ["posts", "one", "other"]) fun _ _ _ _ _ _ us hl => match us, hl with | [_, _, _], _ => rfl, ok_light_hiding T F_light_hiding k_check_two k__meeting⟩, semOf_len⟩
  have k_meeting_lights : Callee l.prog w K mg base 5 "meeting_lights" 1 f_meeting_lights := ⟨⟨p_meeting_lights, _, ["posts"], PySem.W.mg_of X G a_meeting_lights, F_meeting_lights.kp, F_meeting_lights.binds (ps := ["posts"]) fun _ _ _ _ _ _ us hl => match us, hl with | [_], _ => rfl, ok_meeting_lights T F_meeting_lights k_check_posts k__meeting k_in_order⟩, semOf_len⟩
  have k__check_lamp : Callee l.prog w K mg base 2 "_check_lamp" 1 f__check_lamp := ⟨⟨p__check_lamp, _, ["lamp"], PySem.W.mg_of X G a__check_lamp, F__check_lamp.kp, F__check_lamp.binds (ps := ["lamp"]) fun _ _ _ _ _ _ us hl => match us, hl with | [_], _ => rfl, ok__check_lamp T F__check_lamp k_is_whole⟩, semOf_len⟩
  have k__tip : Callee l.prog w K mg base 4 "_tip" 2 f__tip := ⟨⟨p__tip, _, ["post", "lamp"], PySem.W.mg_of X G a__tip, F__tip.kp, F__tip.binds (ps := ["post", "lamp"]) fun _ _ _ _ _ _ us hl => match us, hl with | [_, _], _ => rfl, ok__tip T F__tip k_plus k_ratio⟩, semOf_len⟩
  have k_lamp_tips : Callee l.prog w K mg base 5 "lamp_tips" 2 f_lamp_tips := ⟨⟨p_lamp_tips, _, ["posts", "lamp"], PySem.W.mg_of X G a_lamp_tips, F_lamp_tips.kp, F_lamp_tips.binds (ps := ["posts", "lamp"]) fun _ _ _ _ _ _ us hl => match us, hl with | [_, _], _ => rfl, ok_lamp_tips T F_lamp_tips k_check_posts k__check_lamp k__tip⟩, semOf_len⟩
  have k__span : Callee l.prog w K mg base 5 "_span" 2 f__span := ⟨⟨p__span, _, ["post", "lamp"], PySem.W.mg_of X G a__span, F__span.kp, F__span.binds (ps := ["post", "lamp"]) fun _ _ _ _ _ _ us hl => match us, hl with | [_, _], _ => rfl, ok__span T F__span k__tip k_least k_greatest⟩, semOf_len⟩
  have k__dark : Callee l.prog w K mg base 6 "_dark" 2 f__dark := ⟨⟨p__dark, _, ["posts", "lamp"], PySem.W.mg_of X G a__dark, F__dark.kp, F__dark.binds (ps := ["posts", "lamp"]) fun _ _ _ _ _ _ us hl => match us, hl with | [_, _], _ => rfl, ok__dark T F__dark k_put_together k__span⟩, semOf_len⟩
  have k_dark_of : Callee l.prog w K mg base 5 "dark_of" 2 f_dark_of := ⟨⟨p_dark_of, _, ["posts", "lamp"], PySem.W.mg_of X G a_dark_of, F_dark_of.kp, F_dark_of.binds (ps := ["posts", "lamp"]) fun _ _ _ _ _ _ us hl => match us, hl with | [_, _], _ => rfl, ok_dark_of T F_dark_of k_check_posts k__check_lamp⟩, semOf_len⟩
  have k_both_dark : Callee l.prog w K mg base 7 "both_dark" 3 f_both_dark := ⟨⟨p_both_dark, _, ["posts", "lamp", "other"], PySem.W.mg_of X G a_both_dark, F_both_dark.kp, F_both_dark.binds (ps := ["posts", "lamp", "other"]) fun _ _ _ _ _ _ us hl => match us, hl with | [_, _, _], _ => rfl, ok_both_dark T F_both_dark k_check_posts k__check_lamp k__dark k_greatest k_least⟩, semOf_len⟩
  have k_lamp_meeting : Callee l.prog w K mg base 6 "lamp_meeting" 4 f_lamp_meeting := ⟨⟨p_lamp_meeting, _, ["posts", "one", "other", "height"], PySem.W.mg_of X G a_lamp_meeting, F_lamp_meeting.kp, F_lamp_meeting.binds (ps := ["posts", "one", "other", "height"]) fun _ _ _ _ _ _ us hl => match us, hl with | [_, _, _, _], _ => rfl, ok_lamp_meeting T F_lamp_meeting k_check_two k_is_whole k_ratio k_minus k_times k_plus k_over⟩, semOf_len⟩
  have k_light_from : Callee l.prog w K mg base 5 "light_from" 2 f_light_from := ⟨⟨p_light_from, _, ["post", "tip"], PySem.W.mg_of X G a_light_from, F_light_from.kp, F_light_from.binds (ps := ["post", "tip"]) fun _ _ _ _ _ _ us hl => match us, hl with | [_, _], _ => rfl, ok_light_from T F_light_from k_check_posts k_check_place⟩, semOf_len⟩
  have k__check_dial : Callee l.prog w K mg base 5 "_check_dial" 1 f__check_dial := ⟨⟨p__check_dial, _, ["dial"], PySem.W.mg_of X G a__check_dial, F__check_dial.kp, F__check_dial.binds (ps := ["dial"]) fun _ _ _ _ _ _ us hl => match us, hl with | [_], _ => rfl, ok__check_dial T F__check_dial k_is_light k_is_less⟩, semOf_len⟩
  have k_dial_marks : Callee l.prog w K mg base 6 "dial_marks" 3 f_dial_marks := ⟨⟨p_dial_marks, _, ["place", "height", "dial"], PySem.W.mg_of X G a_dial_marks, F_dial_marks.kp, F_dial_marks.binds (ps := ["place", "height", "dial"]) fun _ _ _ _ _ _ us hl => match us, hl with | [_, _, _], _ => rfl, ok_dial_marks T F_dial_marks k_check_posts k__check_dial k_tip_in⟩, semOf_len⟩
  have k_hour_of : Callee l.prog w K mg base 7 "hour_of" 4 f_hour_of := ⟨⟨p_hour_of, _, ["place", "height", "dial", "tip"], PySem.W.mg_of X G a_hour_of, F_hour_of.kp, F_hour_of.binds (ps := ["place", "height", "dial", "tip"]) fun _ _ _ _ _ _ us hl => match us, hl with | [_, _, _, _], _ => rfl, ok_hour_of T F_hour_of k_dial_marks k_check_place k_is_less⟩, semOf_len⟩
  have k__law_second : Callee l.prog w K mg base 8 "_law_second" 2 f__law_second := ⟨⟨p__law_second, _, ["way", "posts"], PySem.W.mg_of X G a__law_second, F__law_second.kp, F__law_second.binds (ps := ["way", "posts"]) fun _ _ _ _ _ _ us hl => match us, hl with | [_, _], _ => rfl, ok__law_second T F__law_second k_light_meeting k_light_hiding k_meeting_lights k_lamp_tips k_dark_of k_both_dark k_lamp_meeting k_light_from k_dial_marks k_hour_of⟩, semOf_len⟩
  have k__law_error : Callee l.prog w K mg base 9 "_law_error" 3 f__law_error := ⟨⟨p__law_error, _, ["way", "posts", "light"], PySem.W.mg_of X G a__law_error, F__law_error.kp, F__law_error.binds (ps := ["way", "posts", "light"]) fun _ _ _ _ _ _ us hl => match us, hl with | [_, _, _], _ => rfl, ok__law_error T F__law_error k__law_first k__law_second⟩, semOf_len⟩
  have k__law_plus : Callee l.prog w K mg base 2 "_law_plus" 2 f__law_plus := ⟨⟨p__law_plus, _, ["one", "two"], PySem.W.mg_of X G a__law_plus, F__law_plus.kp, F__law_plus.binds (ps := ["one", "two"]) fun _ _ _ _ _ _ us hl => match us, hl with | [_, _], _ => rfl, ok__law_plus T F__law_plus k__law_plain⟩, semOf_len⟩
  have k__law_less : Callee l.prog w K mg base 1 "_law_less" 2 f__law_less := ⟨⟨p__law_less, _, ["one", "two"], PySem.W.mg_of X G a__law_less, F__law_less.kp, F__law_less.binds (ps := ["one", "two"]) fun _ _ _ _ _ _ us hl => match us, hl with | [_, _], _ => rfl, ok__law_less T F__law_less⟩, semOf_len⟩
  have k__law_by : Callee l.prog w K mg base 2 "_law_by" 2 f__law_by := ⟨⟨p__law_by, _, ["one", "two"], PySem.W.mg_of X G a__law_by, F__law_by.kp, F__law_by.binds (ps := ["one", "two"]) fun _ _ _ _ _ _ us hl => match us, hl with | [_, _], _ => rfl, ok__law_by T F__law_by k__law_plain⟩, semOf_len⟩
  have k__law_span : Callee l.prog w K mg base 3 "_law_span" 2 f__law_span := ⟨⟨p__law_span, _, ["post", "light"], PySem.W.mg_of X G a__law_span, F__law_span.kp, F__law_span.binds (ps := ["post", "light"]) fun _ _ _ _ _ _ us hl => match us, hl with | [_, _], _ => rfl, ok__law_span T F__law_span k__law_plus k__law_by k__law_less⟩, semOf_len⟩
  exact law_end law_true (ok_law T F_law k__law_draws k__law_posts k__law_light k_tips_of k__law_plus k__law_by k_shadows_of k__law_span k__law_are_posts k_are_posts k__law_error k__law_is_light k_is_light)
end DL.K28
open PySem.W PySem PyProof.Rows
set_option maxRecDepth 100001 in
set_option pp.maxSteps 400 in
set_option maxHeartbeats 0 in
theorem PySem.Challenge.cw_sandwright_k28_posts_and_lights_holds : PySem.Challenge.rw_sandwright_k28_posts_and_lights.Holds := by
  w_on; o_law; k_head; (case hw => (w_witness2))
  k_fill
  refine L2.walk_of (l := PySem.Challenge.rw_sandwright_k28_posts_and_lights) (n := 63) (k := 10) (x := "script") (CX := fun w => L2.CX PySem.Challenge.rw_sandwright_k28_posts_and_lights.prog w) (sp := fun w => DL.spLawD _) rfl (by decide) rfl ⟨rfl, by decide, by decide⟩ (fun w h Y => PySem.W.kIn_of Y) ?F (fun _ _ a ns hl _ hS => ⟨a, ns, rfl, hS, hl, fun _ => rfl⟩) ?C
  case F =>
    intro w mg fa h KX G hmg
    refine' DL.K28.all_mk KX G hmg ?a__law_draws ?l__law_draws ?d__law_draws ?e__law_draws ?a__law_posts ?l__law_posts ?d__law_posts ?e__law_posts ?a__law_plain ?l__law_plain ?d__law_plain ?e__law_plain ?a__law_light ?l__law_light ?d__law_light ?e__law_light ?a_ascends ?l_ascends ?d_ascends ?e_ascends ?a_is_whole ?l_is_whole ?d_is_whole ?e_is_whole ?a_is_post ?l_is_post ?d_is_post ?e_is_post ?a_are_posts ?l_are_posts ?d_are_posts ?e_are_posts ?a_check_posts ?l_check_posts ?d_check_posts ?e_check_posts ?a_divisor ?l_divisor ?d_divisor ?e_divisor ?a_is_ratio ?l_is_ratio ?d_is_ratio ?e_is_ratio ?a_is_small ?l_is_small ?d_is_small ?e_is_small ?a_is_less ?l_is_less ?d_is_less ?e_is_less ?a_is_light ?l_is_light ?d_is_light ?e_is_light ?a__check ?l__check ?d__check ?e__check ?a_ratio ?l_ratio ?d_ratio ?e_ratio ?a_plus ?l_plus ?d_plus ?e_plus ?a_times ?l_times ?d_times ?e_times ?a_tip_in ?l_tip_in ?d_tip_in ?e_tip_in ?a_tips_of ?l_tips_of ?d_tips_of ?e_tips_of ?a_least ?l_least ?d_least ?e_least ?a_greatest ?l_greatest ?d_greatest ?e_greatest ?a__shadow ?l__shadow ?d__shadow ?e__shadow ?a_shadows_of ?l_shadows_of ?d_shadows_of ?e_shadows_of ?a__law_is_number ?l__law_is_number ?d__law_is_number ?e__law_is_number ?a__law_are_posts ?l__law_are_posts ?d__law_are_posts ?e__law_are_posts ?a__law_is_light ?l__law_is_light ?d__law_is_light ?e__law_is_light ?a_in_order ?l_in_order ?d_in_order ?e_in_order ?a_put_together ?l_put_together ?d_put_together ?e_put_together ?a__shade ?l__shade ?d__shade ?e__shade ?a_shade_of ?l_shade_of ?d_shade_of ?e_shade_of ?a_minus ?l_minus ?d_minus ?e_minus ?a_shade_length ?l_shade_length ?d_shade_length ?e_shade_length ?a_check_place ?l_check_place ?d_check_place ?e_check_place ?a_is_shaded ?l_is_shaded ?d_is_shaded ?e_is_shaded ?a_check_post ?l_check_post ?d_check_post ?e_check_post ?a_over ?l_over ?d_over ?e_over ?a__height_at ?l__height_at ?d__height_at ?e__height_at ?a__shade_on ?l__shade_on ?d__shade_on ?e__shade_on ?a_shade_on ?l_shade_on ?d_shade_on ?e_shade_on ?a_hidden_by ?l_hidden_by ?d_hidden_by ?e_hidden_by ?a__law_first ?l__law_first ?d__law_first ?e__law_first ?a_check_two ?l_check_two ?d_check_two ?e_check_two ?a__meeting ?l__meeting ?d__meeting ?e__meeting ?a_light_meeting ?l_light_meeting ?d_light_meeting ?e_light_meeting ?a_light_hiding ?l_light_hiding ?d_light_hiding ?e_light_hiding ?a_meeting_lights ?l_meeting_lights ?d_meeting_lights ?e_meeting_lights ?a__check_lamp ?l__check_lamp ?d__check_lamp ?e__check_lamp ?a__tip ?l__tip ?d__tip ?e__tip ?a_lamp_tips ?l_lamp_tips ?d_lamp_tips ?e_lamp_tips ?a__span ?l__span ?d__span ?e__span ?a__dark ?l__dark ?d__dark ?e__dark ?a_dark_of ?l_dark_of ?d_dark_of ?e_dark_of ?a_both_dark ?l_both_dark ?d_both_dark ?e_both_dark ?a_lamp_meeting ?l_lamp_meeting ?d_lamp_meeting ?e_lamp_meeting ?a_light_from ?l_light_from ?d_light_from ?e_light_from ?a__check_dial ?l__check_dial ?d__check_dial ?e__check_dial ?a_dial_marks ?l_dial_marks ?d_dial_marks ?e_dial_marks ?a_hour_of ?l_hour_of ?d_hour_of ?e_hour_of ?a__law_second ?l__law_second ?d__law_second ?e__law_second ?a__law_error ?l__law_error ?d__law_error ?e__law_error ?a__law_plus ?l__law_plus ?d__law_plus ?e__law_plus ?a__law_less ?l__law_less ?d__law_less ?e__law_less ?a__law_by ?l__law_by ?d__law_by ?e__law_by ?a__law_span ?l__law_span ?d__law_span ?e__law_span ?a_law ?l_law ?d_law ?e_law ?z_abs ?z_all ?z_any ?z_bool ?z_enumerate ?z_int ?z_isinstance ?z_len ?z_list ?z_max ?z_range ?z_set ?z_sorted ?z_tuple ?z_zip ?g_MOST_PLACE ?g_MOST_POST ?g_MOST_POSTS ?g_MOST_NUMBER ?g_MOST_LAMP ?g_LEAST_HOURS ?g_MOST_HOURS ?g_LEAST_LIGHT ?q_LEAST_LIGHT ?g_MOST_LIGHT ?q_MOST_LIGHT ?g_ZERO ?q_ZERO ?g_NEAR ?q_NEAR ?g_FAR ?q_FAR ?xa_SandError ?xb_SandError ?xc_SandError ?xd_SandError ?xe_SandError ?xf_SandError ?xa_BadPlace ?xb_BadPlace ?xc_BadPlace ?xd_BadPlace ?xe_BadPlace ?xf_BadPlace ?xa_BadDial ?xb_BadDial ?xc_BadDial ?xd_BadDial ?xe_BadDial ?xf_BadDial ?xa_BadPosts ?xb_BadPosts ?xc_BadPosts ?xd_BadPosts ?xe_BadPosts ?xf_BadPosts ?xa_BadLight ?xb_BadLight ?xc_BadLight ?xd_BadLight ?xe_BadLight ?xf_BadLight ?xa_BadPost ?xb_BadPost ?xc_BadPost ?xd_BadPost ?xe_BadPost ?xf_BadPost ?xa_BadLamp ?xb_BadLamp ?xc_BadLamp ?xd_BadLamp ?xe_BadLamp ?xf_BadLamp ?xa_BadHeight ?xb_BadHeight ?xc_BadHeight ?xd_BadHeight ?xe_BadHeight ?xf_BadHeight ?y_BadDial_BadLight ?y_BadDial_BadPlace ?y_BadDial_BadPost ?y_BadDial_BadPosts ?y_BadDial_SandError ?y_BadHeight_BadLight ?y_BadHeight_BadPlace ?y_BadHeight_BadPost ?y_BadHeight_BadPosts ?y_BadHeight_SandError ?y_BadLamp_BadLight ?y_BadLamp_BadPlace ?y_BadLamp_BadPost ?y_BadLamp_BadPosts ?y_BadLamp_SandError ?y_BadLight_BadLight ?y_BadLight_BadPlace ?y_BadLight_BadPost ?y_BadLight_BadPosts ?y_BadLight_SandError ?y_BadPlace_BadLight ?y_BadPlace_BadPlace ?y_BadPlace_BadPost ?y_BadPlace_BadPosts ?y_BadPlace_SandError ?y_BadPost_BadLight ?y_BadPost_BadPlace ?y_BadPost_BadPost ?y_BadPost_BadPosts ?y_BadPost_SandError ?y_BadPosts_BadLight ?y_BadPosts_BadPlace ?y_BadPosts_BadPost ?y_BadPosts_BadPosts ?y_BadPosts_SandError ?v1_BadPlace ?v2_BadPlace ?v3_BadPlace ?v4_BadPlace ?v1_BadDial ?v2_BadDial ?v3_BadDial ?v4_BadDial ?v1_BadPosts ?v2_BadPosts ?v3_BadPosts ?v4_BadPosts ?v1_BadLight ?v2_BadLight ?v3_BadLight ?v4_BadLight ?v1_BadPost ?v2_BadPost ?v3_BadPost ?v4_BadPost ?v1_BadLamp ?v2_BadLamp ?v3_BadLamp ?v4_BadLamp ?v1_BadHeight ?v2_BadHeight ?v3_BadHeight ?v4_BadHeight ?u1 ?u2
    (case a__law_draws => k_is)
    (case l__law_draws => k_is)
    (case d__law_draws => k_is)
    (case e__law_draws => k_is)
    (case a__law_posts => k_is)
    (case l__law_posts => k_is)
    (case d__law_posts => k_is)
    (case e__law_posts => k_is)
    (case a__law_plain => k_is)
    (case l__law_plain => k_is)
    (case d__law_plain => k_is)
    (case e__law_plain => k_is)
    (case a__law_light => k_is)
    (case l__law_light => k_is)
    (case d__law_light => k_is)
    (case e__law_light => k_is)
    (case a_ascends => k_is)
    (case l_ascends => k_is)
    (case d_ascends => k_is)
    (case e_ascends => k_is)
    (case a_is_whole => k_is)
    (case l_is_whole => k_is)
    (case d_is_whole => k_is)
    (case e_is_whole => k_is)
    (case a_is_post => k_is)
    (case l_is_post => k_is)
    (case d_is_post => k_is)
    (case e_is_post => k_is)
    (case a_are_posts => k_is)
    (case l_are_posts => k_is)
    (case d_are_posts => k_is)
    (case e_are_posts => k_is)
    (case a_check_posts => k_is)
    (case l_check_posts => k_is)
    (case d_check_posts => k_is)
    (case e_check_posts => k_is)
    (case a_divisor => k_is)
    (case l_divisor => k_is)
    (case d_divisor => k_is)
    (case e_divisor => k_is)
    (case a_is_ratio => k_is)
    (case l_is_ratio => k_is)
    (case d_is_ratio => k_is)
    (case e_is_ratio => k_is)
    (case a_is_small => k_is)
    (case l_is_small => k_is)
    (case d_is_small => k_is)
    (case e_is_small => k_is)
    (case a_is_less => k_is)
    (case l_is_less => k_is)
    (case d_is_less => k_is)
    (case e_is_less => k_is)
    (case a_is_light => k_is)
    (case l_is_light => k_is)
    (case d_is_light => k_is)
    (case e_is_light => k_is)
    (case a__check => k_is)
    (case l__check => k_is)
    (case d__check => k_is)
    (case e__check => k_is)
    (case a_ratio => k_is)
    (case l_ratio => k_is)
    (case d_ratio => k_is)
    (case e_ratio => k_is)
    (case a_plus => k_is)
    (case l_plus => k_is)
    (case d_plus => k_is)
    (case e_plus => k_is)
    (case a_times => k_is)
    (case l_times => k_is)
    (case d_times => k_is)
    (case e_times => k_is)
    (case a_tip_in => k_is)
    (case l_tip_in => k_is)
    (case d_tip_in => k_is)
    (case e_tip_in => k_is)
    (case a_tips_of => k_is)
    (case l_tips_of => k_is)
    (case d_tips_of => k_is)
    (case e_tips_of => k_is)
    (case a_least => k_is)
    (case l_least => k_is)
    (case d_least => k_is)
    (case e_least => k_is)
    (case a_greatest => k_is)
    (case l_greatest => k_is)
    (case d_greatest => k_is)
    (case e_greatest => k_is)
    (case a__shadow => k_is)
    (case l__shadow => k_is)
    (case d__shadow => k_is)
    (case e__shadow => k_is)
    (case a_shadows_of => k_is)
    (case l_shadows_of => k_is)
    (case d_shadows_of => k_is)
    (case e_shadows_of => k_is)
    (case a__law_is_number => k_is)
    (case l__law_is_number => k_is)
    (case d__law_is_number => k_is)
    (case e__law_is_number => k_is)
    (case a__law_are_posts => k_is)
    (case l__law_are_posts => k_is)
    (case d__law_are_posts => k_is)
    (case e__law_are_posts => k_is)
    (case a__law_is_light => k_is)
    (case l__law_is_light => k_is)
    (case d__law_is_light => k_is)
    (case e__law_is_light => k_is)
    (case a_in_order => k_is)
    (case l_in_order => k_is)
    (case d_in_order => k_is)
    (case e_in_order => k_is)
    (case a_put_together => k_is)
    (case l_put_together => k_is)
    (case d_put_together => k_is)
    (case e_put_together => k_is)
    (case a__shade => k_is)
    (case l__shade => k_is)
    (case d__shade => k_is)
    (case e__shade => k_is)
    (case a_shade_of => k_is)
    (case l_shade_of => k_is)
    (case d_shade_of => k_is)
    (case e_shade_of => k_is)
    (case a_minus => k_is)
    (case l_minus => k_is)
    (case d_minus => k_is)
    (case e_minus => k_is)
    (case a_shade_length => k_is)
    (case l_shade_length => k_is)
    (case d_shade_length => k_is)
    (case e_shade_length => k_is)
    (case a_check_place => k_is)
    (case l_check_place => k_is)
    (case d_check_place => k_is)
    (case e_check_place => k_is)
    (case a_is_shaded => k_is)
    (case l_is_shaded => k_is)
    (case d_is_shaded => k_is)
    (case e_is_shaded => k_is)
    (case a_check_post => k_is)
    (case l_check_post => k_is)
    (case d_check_post => k_is)
    (case e_check_post => k_is)
    (case a_over => k_is)
    (case l_over => k_is)
    (case d_over => k_is)
    (case e_over => k_is)
    (case a__height_at => k_is)
    (case l__height_at => k_is)
    (case d__height_at => k_is)
    (case e__height_at => k_is)
    (case a__shade_on => k_is)
    (case l__shade_on => k_is)
    (case d__shade_on => k_is)
    (case e__shade_on => k_is)
    (case a_shade_on => k_is)
    (case l_shade_on => k_is)
    (case d_shade_on => k_is)
    (case e_shade_on => k_is)
    (case a_hidden_by => k_is)
    (case l_hidden_by => k_is)
    (case d_hidden_by => k_is)
    (case e_hidden_by => k_is)
    (case a__law_first => k_is)
    (case l__law_first => k_is)
    (case d__law_first => k_is)
    (case e__law_first => k_is)
    (case a_check_two => k_is)
    (case l_check_two => k_is)
    (case d_check_two => k_is)
    (case e_check_two => k_is)
    (case a__meeting => k_is)
    (case l__meeting => k_is)
    (case d__meeting => k_is)
    (case e__meeting => k_is)
    (case a_light_meeting => k_is)
    (case l_light_meeting => k_is)
    (case d_light_meeting => k_is)
    (case e_light_meeting => k_is)
    (case a_light_hiding => k_is)
    (case l_light_hiding => k_is)
    (case d_light_hiding => k_is)
    (case e_light_hiding => k_is)
    (case a_meeting_lights => k_is)
    (case l_meeting_lights => k_is)
    (case d_meeting_lights => k_is)
    (case e_meeting_lights => k_is)
    (case a__check_lamp => k_is)
    (case l__check_lamp => k_is)
    (case d__check_lamp => k_is)
    (case e__check_lamp => k_is)
    (case a__tip => k_is)
    (case l__tip => k_is)
    (case d__tip => k_is)
    (case e__tip => k_is)
    (case a_lamp_tips => k_is)
    (case l_lamp_tips => k_is)
    (case d_lamp_tips => k_is)
    (case e_lamp_tips => k_is)
    (case a__span => k_is)
    (case l__span => k_is)
    (case d__span => k_is)
    (case e__span => k_is)
    (case a__dark => k_is)
    (case l__dark => k_is)
    (case d__dark => k_is)
    (case e__dark => k_is)
    (case a_dark_of => k_is)
    (case l_dark_of => k_is)
    (case d_dark_of => k_is)
    (case e_dark_of => k_is)
    (case a_both_dark => k_is)
    (case l_both_dark => k_is)
    (case d_both_dark => k_is)
    (case e_both_dark => k_is)
    (case a_lamp_meeting => k_is)
    (case l_lamp_meeting => k_is)
    (case d_lamp_meeting => k_is)
    (case e_lamp_meeting => k_is)
    (case a_light_from => k_is)
    (case l_light_from => k_is)
    (case d_light_from => k_is)
    (case e_light_from => k_is)
    (case a__check_dial => k_is)
    (case l__check_dial => k_is)
    (case d__check_dial => k_is)
    (case e__check_dial => k_is)
    (case a_dial_marks => k_is)
    (case l_dial_marks => k_is)
    (case d_dial_marks => k_is)
    (case e_dial_marks => k_is)
    (case a_hour_of => k_is)
    (case l_hour_of => k_is)
    (case d_hour_of => k_is)
    (case e_hour_of => k_is)
    (case a__law_second => k_is)
    (case l__law_second => k_is)
    (case d__law_second => k_is)
    (case e__law_second => k_is)
    (case a__law_error => k_is)
    (case l__law_error => k_is)
    (case d__law_error => k_is)
    (case e__law_error => k_is)
    (case a__law_plus => k_is)
    (case l__law_plus => k_is)
    (case d__law_plus => k_is)
    (case e__law_plus => k_is)
    (case a__law_less => k_is)
    (case l__law_less => k_is)
    (case d__law_less => k_is)
    (case e__law_less => k_is)
    (case a__law_by => k_is)
    (case l__law_by => k_is)
    (case d__law_by => k_is)
    (case e__law_by => k_is)
    (case a__law_span => k_is)
    (case l__law_span => k_is)
    (case d__law_span => k_is)
    (case e__law_span => k_is)
    (case a_law => k_is)
    (case l_law => k_is)
    (case d_law => k_is)
    (case e_law => k_is)
    (case z_abs => k_is)
    (case z_all => k_is)
    (case z_any => k_is)
    (case z_bool => k_is)
    (case z_enumerate => k_is)
    (case z_int => k_is)
    (case z_isinstance => k_is)
    (case z_len => k_is)
    (case z_list => k_is)
    (case z_max => k_is)
    (case z_range => k_is)
    (case z_set => k_is)
    (case z_sorted => k_is)
    (case z_tuple => k_is)
    (case z_zip => k_is)
    (case g_MOST_PLACE => k_is)
    (case g_MOST_POST => k_is)
    (case g_MOST_POSTS => k_is)
    (case g_MOST_NUMBER => k_is)
    (case g_MOST_LAMP => k_is)
    (case g_LEAST_HOURS => k_is)
    (case g_MOST_HOURS => k_is)
    (case g_LEAST_LIGHT => k_is)
    (case q_LEAST_LIGHT => first | exact rfl | kernel_rfl | decide +kernel)
    (case g_MOST_LIGHT => k_is)
    (case q_MOST_LIGHT => first | exact rfl | kernel_rfl | decide +kernel)
    (case g_ZERO => k_is)
    (case q_ZERO => first | exact rfl | kernel_rfl | decide +kernel)
    (case g_NEAR => k_is)
    (case q_NEAR => first | exact rfl | kernel_rfl | decide +kernel)
    (case g_FAR => k_is)
    (case q_FAR => first | exact rfl | kernel_rfl | decide +kernel)
    (case xa_SandError => k_is)
    (case xb_SandError => k_exc)
    (case xc_SandError => k_is)
    (case xd_SandError => k_is)
    (case xe_SandError => k_is)
    (case xf_SandError => k_is)
    (case xa_BadPlace => k_is)
    (case xb_BadPlace => k_exc)
    (case xc_BadPlace => k_is)
    (case xd_BadPlace => k_is)
    (case xe_BadPlace => k_is)
    (case xf_BadPlace => k_is)
    (case xa_BadDial => k_is)
    (case xb_BadDial => k_exc)
    (case xc_BadDial => k_is)
    (case xd_BadDial => k_is)
    (case xe_BadDial => k_is)
    (case xf_BadDial => k_is)
    (case xa_BadPosts => k_is)
    (case xb_BadPosts => k_exc)
    (case xc_BadPosts => k_is)
    (case xd_BadPosts => k_is)
    (case xe_BadPosts => k_is)
    (case xf_BadPosts => k_is)
    (case xa_BadLight => k_is)
    (case xb_BadLight => k_exc)
    (case xc_BadLight => k_is)
    (case xd_BadLight => k_is)
    (case xe_BadLight => k_is)
    (case xf_BadLight => k_is)
    (case xa_BadPost => k_is)
    (case xb_BadPost => k_exc)
    (case xc_BadPost => k_is)
    (case xd_BadPost => k_is)
    (case xe_BadPost => k_is)
    (case xf_BadPost => k_is)
    (case xa_BadLamp => k_is)
    (case xb_BadLamp => k_exc)
    (case xc_BadLamp => k_is)
    (case xd_BadLamp => k_is)
    (case xe_BadLamp => k_is)
    (case xf_BadLamp => k_is)
    (case xa_BadHeight => k_is)
    (case xb_BadHeight => k_exc)
    (case xc_BadHeight => k_is)
    (case xd_BadHeight => k_is)
    (case xe_BadHeight => k_is)
    (case xf_BadHeight => k_is)
    (case y_BadDial_BadLight => k_is)
    (case y_BadDial_BadPlace => k_is)
    (case y_BadDial_BadPost => k_is)
    (case y_BadDial_BadPosts => k_is)
    (case y_BadDial_SandError => k_is)
    (case y_BadHeight_BadLight => k_is)
    (case y_BadHeight_BadPlace => k_is)
    (case y_BadHeight_BadPost => k_is)
    (case y_BadHeight_BadPosts => k_is)
    (case y_BadHeight_SandError => k_is)
    (case y_BadLamp_BadLight => k_is)
    (case y_BadLamp_BadPlace => k_is)
    (case y_BadLamp_BadPost => k_is)
    (case y_BadLamp_BadPosts => k_is)
    (case y_BadLamp_SandError => k_is)
    (case y_BadLight_BadLight => k_is)
    (case y_BadLight_BadPlace => k_is)
    (case y_BadLight_BadPost => k_is)
    (case y_BadLight_BadPosts => k_is)
    (case y_BadLight_SandError => k_is)
    (case y_BadPlace_BadLight => k_is)
    (case y_BadPlace_BadPlace => k_is)
    (case y_BadPlace_BadPost => k_is)
    (case y_BadPlace_BadPosts => k_is)
    (case y_BadPlace_SandError => k_is)
    (case y_BadPost_BadLight => k_is)
    (case y_BadPost_BadPlace => k_is)
    (case y_BadPost_BadPost => k_is)
    (case y_BadPost_BadPosts => k_is)
    (case y_BadPost_SandError => k_is)
    (case y_BadPosts_BadLight => k_is)
    (case y_BadPosts_BadPlace => k_is)
    (case y_BadPosts_BadPost => k_is)
    (case y_BadPosts_BadPosts => k_is)
    (case y_BadPosts_SandError => k_is)
    (case v1_BadPlace => k_is)
    (case v2_BadPlace => k_is)
    (case v3_BadPlace => k_is)
    (case v4_BadPlace => k_is)
    (case v1_BadDial => k_is)
    (case v2_BadDial => k_is)
    (case v3_BadDial => k_is)
    (case v4_BadDial => k_is)
    (case v1_BadPosts => k_is)
    (case v2_BadPosts => k_is)
    (case v3_BadPosts => k_is)
    (case v4_BadPosts => k_is)
    (case v1_BadLight => k_is)
    (case v2_BadLight => k_is)
    (case v3_BadLight => k_is)
    (case v4_BadLight => k_is)
    (case v1_BadPost => k_is)
    (case v2_BadPost => k_is)
    (case v3_BadPost => k_is)
    (case v4_BadPost => k_is)
    (case v1_BadLamp => k_is)
    (case v2_BadLamp => k_is)
    (case v3_BadLamp => k_is)
    (case v4_BadLamp => k_is)
    (case v1_BadHeight => k_is)
    (case v2_BadHeight => k_is)
    (case v3_BadHeight => k_is)
    (case v4_BadHeight => k_is)
    (case u1 => k_is)
    (case u2 => k_is)
  case C =>
    intro w H s e s' z
    obtain ⟨_, _, _, _, _, _, _, _, _, _, _, _, z⟩ := z
    exact z
