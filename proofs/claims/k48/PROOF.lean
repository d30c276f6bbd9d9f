import PyProof.Rows.All
import Wide.All
import OpenK.AllK
import Wide.FinOn
import HandS.ForMost
import HandS.ForExc
import HandS.CallSlots
import HandS.TryMany
import HandS.Walk
import HandS.Evl
import HandS.TupAny
import HandS.Zip
import HandS.Deep
import HandS.Wide
import HandS.SortInts
import HandS.IsInst
import HandS.TupMul
import HandS.ExcIs
import HandS.Style
import KE.KDictSum
import HandS.ExcValue
import HandS.Iter
import HandS.SetFor
import HandS.Strs
import KE.GoesMore
import KE.KTryMore
import PyProof.ReprRoads
import HandS.SortRule
import KE.DataMinMax
import KE.SortData
import HandS.Conv
import HandS.Gcd
import HandS.Text
import HandS.Flt
import PyProof.StrBlock2
import PyProof.Rows.StrMul
import PyProof.SliceStr2
import HandS.ExcInit
import HandS.ExcField
import HandS.NestedK
import KE.RegKSuper
import KE.KExcSuper
import KE.KSortAny
import HandS.Replace
import HandS.ReplaceLit
import PyProof.ListStr
import HandS.FStr
import PyProof.ReprLen
import PySem.Challenge.RW_sandwright_k48_whole_bell_texts
set_option Elab.async false
set_option linter.all false
set_option maxRecDepth 100000
set_option maxHeartbeats 4100000
/-! DLa -/
namespace DL
open PySem L2 PySem.Spec PyProof.Rows
open Evl (Ex ex_l ex_t ex_rd)

abbrev D := PyData
/-- a key as data -/
def kD : Key → D
  | .inl i => .int i
  | .inr x => .str x
mutual
inductive Da (K : PySem.W.Frag) (H : Hp) : V → D → Prop
  | non : Da K H .non .none
  | bl (b : Bool) : Da K H (.bl b) (.bool b)
  | int (i : Int) : Da K H (.int i) (.int i)
  | str (x : Str) : Da K H (.str x) (.str x)
  | lst {a : Addr} {xs : List V} {ds : List D} : H a = some (.lst xs) → DaAll K H xs ds → Da K H (.ref a) (.list ds)
  | tup {a : Addr} {xs : List V} {ds : List D} : SqT K H a xs → DaAll K H xs ds → Da K H (.ref a) (.tuple ds)
  /-- the script -/
  | scr {a : Addr} {ns : List Int} : SqL K H a (ns.map V.int) → Da K H (.ref a) (.dict (ns.map fun n => (.int n, .none)))
  /-- a dict: its row begins with a mark -/
  | dct {a : Addr} {kvs : List (Key × V)} {ks : List (Key × D)} {rs : List (D × D)} : H a = some (.dK kvs) → DKs K H kvs ks → rs = (.none, .none) :: ks.map (fun q => (kD q.1, q.2)) → Da K H (.ref a) (.dict rs)
inductive DaAll (K : PySem.W.Frag) (H : Hp) : List V → List D → Prop
  | nil : DaAll K H [] []
  | cons {v : V} {vs : List V} {d : D} {ds : List D} : Da K H v d → DaAll K H vs ds → DaAll K H (v :: vs) (d :: ds)
inductive DKs (K : PySem.W.Frag) (H : Hp) : List (Key × V) → List (Key × D) → Prop
  | nil : DKs K H [] []
  | cons {k : Key} {v : V} {vs : List (Key × V)} {d : D} {ds : List (Key × D)} : Da K H v d → DKs K H vs ds → DKs K H ((k, v) :: vs) ((k, d) :: ds)
end
abbrev dcD (ks : List (Key × D)) : D := .dict ((.none, .none) :: ks.map fun q => (kD q.1, q.2))
abbrev scrD (ns : List Int) : D := .dict (ns.map fun n => (.int n, .none))
/-! ### data on an abstract heap stays -/
section
variable {K : PySem.W.Frag} {H H' : Hp} {v : V} {d : D} {vs : List V} {ds : List D}
theorem Da.up (h : Da K H v d) (e : Ex H H') : Da K H' v d :=
  Da.rec (motive_1 := fun v d _ => Da K H' v d) (motive_2 := fun vs ds _ => DaAll K H' vs ds) (motive_3 := fun vs ds _ => DKs K H' vs ds)
    .non .bl .int .str (fun a _ i => .lst (e _ _ a) i) (fun a _ i => .tup (ex_t e a) i) (fun a => .scr (ex_l e a)) (fun a _ c i => .dct (e _ _ a) i c) .nil (fun _ _ i j => .cons i j) .nil (fun _ _ i j => .cons i j) h
theorem DaAll.up (h : DaAll K H vs ds) (e : Ex H H') : DaAll K H' vs ds :=
  DaAll.rec (motive_1 := fun v d _ => Da K H' v d) (motive_2 := fun vs ds _ => DaAll K H' vs ds) (motive_3 := fun vs ds _ => DKs K H' vs ds)
    .non .bl .int .str (fun a _ i => .lst (e _ _ a) i) (fun a _ i => .tup (ex_t e a) i) (fun a => .scr (ex_l e a)) (fun a _ c i => .dct (e _ _ a) i c) .nil (fun _ _ i j => .cons i j) .nil (fun _ _ i j => .cons i j) h
theorem DKs.up {vs : List (Key × V)} {ds : List (Key × D)} (h : DKs K H vs ds) (e : Ex H H') : DKs K H' vs ds :=
  DKs.rec (motive_1 := fun v d _ => Da K H' v d) (motive_2 := fun vs ds _ => DaAll K H' vs ds) (motive_3 := fun vs ds _ => DKs K H' vs ds)
    .non .bl .int .str (fun a _ i => .lst (e _ _ a) i) (fun a _ i => .tup (ex_t e a) i) (fun a => .scr (ex_l e a)) (fun a _ c i => .dct (e _ _ a) i c) .nil (fun _ _ i j => .cons i j) .nil (fun _ _ i j => .cons i j) h
theorem dpa_len : ∀ {ds : List D} {vs : List V}, DaAll K H vs ds → vs.length = ds.length
  | [], _, h => by cases h; rfl
  | _ :: _, _, h => by
    cases h with
    | cons h1 h2 => simp [dpa_len h2]
theorem dpa_get : ∀ {ds : List D} {vs : List V} {i : Nat} {d : D}, DaAll K H vs ds → ds[i]? = some d → ∃ v, vs[i]? = some v ∧ Da K H v d
  | [], _, i, d, h, e => by simp at e
  | x :: xs, _, 0, d, h, e => by
    cases h with
    | cons h1 h2 => simp at e; subst e; exact ⟨_, rfl, h1⟩
  | x :: xs, _, i + 1, d, h, e => by
    cases h with
    | cons h1 h2 =>
      obtain ⟨v, e1, e2⟩ := dpa_get (i := i) h2 (by simpa using e)
      exact ⟨v, by simpa using e1, e2⟩
theorem dpa_getV : ∀ {ds : List D} {vs : List V} {i : Nat} {v : V}, DaAll K H vs ds → vs[i]? = some v → ∃ d, ds[i]? = some d ∧ Da K H v d
  | [], _, i, d, h, e => by cases h; simp at e
  | x :: xs, _, 0, d, h, e => by
    cases h with
    | cons h1 h2 => simp at e; subst e; exact ⟨_, rfl, h1⟩
  | x :: xs, _, i + 1, d, h, e => by
    cases h with
    | cons h1 h2 =>
      obtain ⟨v, e1, e2⟩ := dpa_getV (i := i) h2 (by simpa using e)
      exact ⟨v, by simpa using e1, e2⟩
theorem dpa_app {vs' : List V} {ds' : List D} : ∀ {ds : List D} {vs : List V}, DaAll K H vs ds → DaAll K H vs' ds' → DaAll K H (vs ++ vs') (ds ++ ds')
  | [], _, h, h' => by cases h; exact h'
  | _ :: _, _, h, h' => by
    cases h with
    | cons h1 h2 => exact .cons h1 (dpa_app h2 h')
theorem DaAll.one (h : Da K H v d) : DaAll K H [v] [d] := .cons h .nil
theorem dpa_take : ∀ {ds : List D} {vs : List V} (n : Nat), DaAll K H vs ds → DaAll K H (vs.take n) (ds.take n)
  | _, _, 0, _ => by simp; exact .nil
  | [], _, n + 1, h => by cases h; exact .nil
  | _ :: _, _, n + 1, h => by
    cases h with
    | cons h1 h2 => exact .cons h1 (dpa_take n h2)
theorem dpa_drop : ∀ {ds : List D} {vs : List V} (n : Nat), DaAll K H vs ds → DaAll K H (vs.drop n) (ds.drop n)
  | _, _, 0, h => by simpa using h
  | [], _, n + 1, h => by cases h; exact .nil
  | _ :: _, _, n + 1, h => by
    cases h with
    | cons h1 h2 => simpa using dpa_drop n h2
theorem dpa_set : ∀ {ds : List D} {vs : List V} (n : Nat), DaAll K H vs ds → Da K H v d → DaAll K H (vs.set n v) (ds.set n d)
  | [], _, n, h, _ => by cases h; exact .nil
  | _ :: _, _, 0, h, q => by
    cases h with
    | cons h1 h2 => exact .cons q h2
  | _ :: _, _, n + 1, h, q => by
    cases h with
    | cons h1 h2 => exact .cons h1 (dpa_set n h2 q)
theorem dpa_rev : ∀ {ds : List D} {vs : List V}, DaAll K H vs ds → DaAll K H vs.reverse ds.reverse
  | [], _, h => by cases h; exact .nil
  | _ :: _, _, h => by
    cases h with
    | cons h1 h2 => simp only [List.reverse_cons]; exact dpa_app (dpa_rev h2) (.one h1)
theorem dpa_ints : ∀ {ns : List Int}, DaAll K H (ns.map V.int) (ns.map PyData.int)
  | [] => .nil
  | n :: ns => .cons (.int n) dpa_ints
theorem dpa_toInts : ∀ {ns : List Int} {vs : List V}, DaAll K H vs (ns.map PyData.int) → vs = ns.map V.int
  | [], _, h => by cases h; rfl
  | n :: ns, _, h => by
    cases h with
    | cons h1 h2 => cases h1; simp [dpa_toInts h2]
theorem dpa_toBls : ∀ {ns : List Bool} {vs : List V}, DaAll K H vs (ns.map PyData.bool) → vs = ns.map V.bl
  | [], _, h => by cases h; rfl
  | n :: ns, _, h => by
    cases h with
    | cons h1 h2 => cases h1; simp [dpa_toBls h2]
theorem dpa_toStrs : ∀ {ns : List Str} {vs : List V}, DaAll K H vs (ns.map PyData.str) → vs = ns.map V.str
  | [], _, h => by cases h; rfl
  | n :: ns, _, h => by
    cases h with
    | cons h1 h2 => cases h1; simp [dpa_toStrs h2]
theorem dpa_ofStrs : ∀ {ns : List Str}, DaAll K H (ns.map V.str) (ns.map PyData.str)
  | [] => .nil
  | n :: ns => .cons (.str n) dpa_ofStrs
end

/-! ### the library's data -/
mutual
theorem da_dp {K : PySem.W.Frag} {H : Hp} : ∀ (d : D) (v : V), d.canLay0 = true → Da K H v d → Dp K H v d
  | .none, _, _, h => by cases h; exact .non
  | .bool b, _, _, h => by cases h; exact .bl b
  | .int i, _, _, h => by cases h; exact .int i
  | .str x, _, _, h => by cases h; exact .str x
  | .list ds, _, c, h => by
    cases h with
    | lst hs ha => exact .lst (Or.inl (Or.inl hs)) (da_dpa ds _ (by simpa [PyData.canLay0] using c) ha)
  | .tuple ds, _, c, h => by
    cases h with
    | tup hs ha => exact .tup hs (da_dpa ds _ (by simpa [PyData.canLay0] using c) ha)
  | .dict _, _, c, _ => by simp [PyData.canLay0] at c
theorem da_dpa {K : PySem.W.Frag} {H : Hp} : ∀ (ds : List D) (vs : List V), PyData.canLayAll0 ds = true → DaAll K H vs ds → DpAll K H vs ds
  | [], _, _, h => by cases h; exact .nil
  | d :: ds, _, c, h => by
    have c' : d.canLay0 = true ∧ PyData.canLayAll0 ds = true := by simpa [PyData.canLayAll0] using c
    cases h with
    | cons h1 h2 => exact .cons (da_dp d _ c'.1 h1) (da_dpa ds _ c'.2 h2)
end

/-! ### the frozen part F of the heap H, growing -/
structure Grow (F H F' H' : Hp) : Prop where
  f : Ex F F'
  h : Ex H H'
  in_ : Ex F' H'
  new : ∀ p o, F' p = some o → F p = none → H p = none
section
variable {K : PySem.W.Frag} {F H F' H' F2 H2 : Hp} {p : Addr} {o : HO}
theorem Grow.refl (e : Ex F H) : Grow F H F H := ⟨.refl F, .refl H, e, fun _ _ a b => by rw [a] at b; cases b⟩
theorem Grow.trans (a : Grow F H F' H') (b : Grow F' H' F2 H2) : Grow F H F2 H2 := ⟨a.f.trans b.f, a.h.trans b.h, b.in_, fun p o e n => by
  cases q : F' p with
  | some u => exact a.new p u q n
  | none =>
    have z := b.new p o e q
    cases y : H p with
    | none => rfl
    | some w => rw [a.h p w y] at z; cases z⟩
/-- a new object, frozen at once -/
theorem Grow.made (e : Ex F H) (hp : H p = none) : Grow F H (upd F p o) (upd H p o) := by
  have fp : F p = none := Evl.fresh_back e hp
  refine ⟨Ex.new fp, Ex.new hp, fun a u q => ?_, fun a u q n => ?_⟩
  · by_cases z : a = p
    · subst z; rw [upd_same] at q ⊢; exact q
    · rw [upd_ne z] at q ⊢; exact e a u q
  · by_cases z : a = p
    · subst z; exact hp
    · rw [upd_ne z] at q; rw [q] at n; cases n
/-- a new object, not frozen -/
theorem Grow.held (e : Ex F H) (hp : H p = none) : Grow F H F (upd H p o) := by
  refine ⟨.refl F, Ex.new hp, e.trans (Ex.new hp), fun a u q n => by rw [q] at n; cases n⟩
theorem Grow.freeze (e : Ex F H) (hp : H p = some o) (fp : F p = none) : Ex F (upd F p o) ∧ Ex (upd F p o) H := by
  refine ⟨Ex.new fp, fun a u q => ?_⟩
  by_cases z : a = p
  · subst z; rw [upd_same] at q; rw [hp]; exact q
  · rw [upd_ne z] at q; exact e a u q
end

/-! ### slots -/
inductive SV where
  | no
  | val (d : D)
  | own (ds : List D)
  | dic (ks : List (Key × D))
abbrev Env := List SV

structure Rep (K : PySem.W.Frag) (F0 H0 F H : Hp) (ρ : Env) (σ : L2.St) : Prop where
  g : Grow F0 H0 F H
  len : ρ.length = σ.length
  val : ∀ (i : Nat) d, ρ[i]? = some (.val d) → ∃ v, σ[i]? = some (some v) ∧ Da K F v d
  own : ∀ (i : Nat) ds, ρ[i]? = some (.own ds) → ∃ p vs, σ[i]? = some (some (.ref p)) ∧ H0 p = none ∧ F p = none ∧ H p = some (.lst vs) ∧ DaAll K F vs ds
  inj : ∀ (i j : Nat) ds es p, i ≠ j → ρ[i]? = some (.own ds) → ρ[j]? = some (.own es) → σ[i]? = some (some (.ref p)) → σ[j]? = some (some (.ref p)) → False
  dic : ∀ (i : Nat) ks, ρ[i]? = some (.dic ks) → ∃ p kvs, σ[i]? = some (some (.ref p)) ∧ H0 p = none ∧ F p = none ∧ H p = some (.dK kvs) ∧ DKs K F kvs ks
  injd : ∀ (i j : Nat) ds es p, i ≠ j → ρ[i]? = some (.dic ds) → ρ[j]? = some (.dic es) → σ[i]? = some (some (.ref p)) → σ[j]? = some (some (.ref p)) → False

/-- a value read where it may be a list of the frame's own -/
inductive Bw (K : PySem.W.Frag) (F H : Hp) : V → D → Prop
  | fr {v : V} {d : D} (h : Da K F v d) : Bw K F H v d
  | ow {p : Addr} {vs : List V} {ds : List D} (h : H p = some (.lst vs)) (n : F p = none) (a : DaAll K F vs ds) : Bw K F H (.ref p) (.list ds)
  | od {p : Addr} {kvs : List (Key × V)} {ks : List (Key × D)} {rs : List (D × D)} (h : H p = some (.dK kvs)) (n : F p = none) (a : DKs K F kvs ks) (q : rs = (.none, .none) :: ks.map (fun q => (kD q.1, q.2))) : Bw K F H (.ref p) (.dict rs)
section
variable {K : PySem.W.Frag} {F0 H0 F H F' H' : Hp} {ρ : Env} {σ : L2.St} {v : V} {d : D} {ds : List D}
theorem Rep.grow (r : Rep K F0 H0 F H ρ σ) (g : Grow F H F' H') : Rep K F0 H0 F' H' ρ σ := by
  refine ⟨r.g.trans g, r.len, fun i d e => ?_, fun i ds e => ?_, r.inj, fun i ds e => ?_, r.injd⟩
  · obtain ⟨v, e1, e2⟩ := r.val i d e
    exact ⟨v, e1, e2.up g.f⟩
  · obtain ⟨p, vs, e1, e2, e3, e4, e5⟩ := r.own i ds e
    refine ⟨p, vs, e1, e2, ?_, g.h _ _ e4, e5.up g.f⟩
    cases q : F' p with
    | none => rfl
    | some o =>
      have z := g.new p o q e3
      rw [e4] at z; cases z
  · obtain ⟨p, vs, e1, e2, e3, e4, e5⟩ := r.dic i ds e
    refine ⟨p, vs, e1, e2, ?_, g.h _ _ e4, e5.up g.f⟩
    cases q : F' p with
    | none => rfl
    | some o =>
      have z := g.new p o q e3
      rw [e4] at z; cases z
theorem Bw.grow (b : Bw K F H v d) (g : Grow F H F' H') : Bw K F' H' v d := by
  cases b with
  | fr h => exact .fr (h.up g.f)
  | ow h n a =>
    refine .ow (g.h _ _ h) ?_ (a.up g.f)
    rename_i p vs ds
    cases q : F' p with
    | none => rfl
    | some o =>
      have z := g.new p o q n
      rw [h] at z; cases z
  | od h n a q0 =>
    refine .od (g.h _ _ h) ?_ (a.up g.f) q0
    rename_i p kvs ks rs
    cases q : F' p with
    | none => rfl
    | some o =>
      have z := g.new p o q n
      rw [h] at z; cases z
theorem Bw.da (b : Bw K F H v d) (e : Ex F H) : Da K H v d := by
  cases b with
  | fr h => exact h.up e
  | ow h n a => exact .lst h (a.up e)
  | od h n a q => exact .dct h (a.up e) q
/-- a list, its items frozen -/
theorem Bw.list (b : Bw K F H v (.list ds)) (e : Ex F H) : ∃ p vs, v = .ref p ∧ H p = some (.lst vs) ∧ DaAll K F vs ds := by
  cases b with
  | fr h =>
    cases h with
    | lst h1 h2 => exact ⟨_, _, rfl, e _ _ h1, h2⟩
  | ow h n a => exact ⟨_, _, rfl, h, a⟩
theorem Bw.tuple (b : Bw K F H v (.tuple ds)) (e : Ex F H) : ∃ p vs, v = .ref p ∧ SqT K H p vs ∧ DaAll K F vs ds := by
  cases b with
  | fr h =>
    cases h with
    | tup h1 h2 => exact ⟨_, _, rfl, ex_t e h1, h2⟩
theorem Bw.int {i : Int} (b : Bw K F H v (.int i)) : v = .int i := by
  cases b with
  | fr h => cases h; rfl
theorem Bw.bool {i : Bool} (b : Bw K F H v (.bool i)) : v = .bl i := by
  cases b with
  | fr h => cases h; rfl
theorem Bw.str {i : Str} (b : Bw K F H v (.str i)) : v = .str i := by
  cases b with
  | fr h => cases h; rfl
theorem Bw.none (b : Bw K F H v .none) : v = .non := by
  cases b with
  | fr h => cases h; rfl
theorem DaAll.bw (a : DaAll K F [v] [d]) : Bw K F H v d := by
  cases a with
  | cons h _ => exact .fr h
end

/-! ### results -/
structure Exc where
  cls : Str
  args : List (Str × D)
inductive R (α : Type) where
  | ok (a : α)
  | exc (x : Exc)
  | bad
inductive Out where
  | nx (ρ : Env)
  | rt (d : D)
  | ex (x : Exc) (ρ : Env)
  | bk (ρ : Env)
  | ct (ρ : Env)
  | bad
@[inline] def R.bind {α β : Type} (r : R α) (f : α → R β) : R β := match r with
  | .ok a => f a
  | .exc x => .exc x
  | .bad => .bad
instance : Monad R where
  pure := .ok
  bind := R.bind

/-- an exception's class and fields on the heap -/
def XRep (K : PySem.W.Frag) (mg : Str → Option Value) (F : Hp) (x : Exc) (cls : Value) (dd : Option Addr) : Prop :=
  ∃ C, mg x.cls = some (.ref C) ∧ cls = .ref C ∧ ((x.args = [] ∧ dd = none) ∨ ∃ (dx : Addr) (fs : List (Str × V)), x.args ≠ [] ∧ dd = some dx ∧ F dx = some (.xd fs) ∧ fs.map (·.1) = x.args.map (·.1) ∧ DaAll K F (fs.map (·.2)) (x.args.map (·.2)))
theorem XRep.up {K : PySem.W.Frag} {mg : Str → Option Value} {F F' : Hp} {x : Exc} {cls : Value} {dd : Option Addr} (h : XRep K mg F x cls dd) (e : Ex F F') : XRep K mg F' x cls dd := by
  obtain ⟨C, h1, h2, h3⟩ := h
  refine ⟨C, h1, h2, ?_⟩
  rcases h3 with h3 | ⟨dx, fs, n, a, b, c, d⟩
  · exact .inl h3
  · exact .inr ⟨dx, fs, n, a, e _ _ b, c, d.up e⟩

/-- what is asked of a result -/
def ROk {α : Type} (K : PySem.W.Frag) (mg : Str → Option Value) (W : XK) (F H : Hp) (P : α → Hp → Hp → Prop) : R α → Prop
  | .ok a => ∀ F' H', Grow F H F' H' → P a F' H'
  | .exc x => ∀ cls dd F' H', Grow F H F' H' → XRep K mg F' x cls dd → W cls dd H'
  | .bad => False
section
variable {α β : Type} {K : PySem.W.Frag} {mg : Str → Option Value} {W : XK} {F H F' H' : Hp}
theorem ROk.grow {P : α → Hp → Hp → Prop} {r : R α} (h : ROk K mg W F H P r) (g : Grow F H F' H') : ROk K mg W F' H' P r := by
  cases r with
  | ok a => exact fun F2 H2 g2 => h F2 H2 (g.trans g2)
  | exc x => exact fun cls dd F2 H2 g2 q => h cls dd F2 H2 (g.trans g2) q
  | bad => exact h
/-- the first of two -/
theorem ROk.step {P : β → Hp → Hp → Prop} {r : R α} {f : α → R β} (h : ROk K mg W F H P (r.bind f)) : ROk K mg W F H (fun a F' H' => ROk K mg W F' H' P (f a)) r := by
  cases r with
  | ok a => exact fun F2 H2 g2 => ROk.grow (r := f a) h g2
  | exc x => exact h
  | bad => exact h
theorem ROk.imp {P P' : α → Hp → Hp → Prop} {r : R α} (h : ROk K mg W F H P r) (q : ∀ a F' H', r = .ok a → Grow F H F' H' → P a F' H' → P' a F' H') : ROk K mg W F H P' r := by
  cases r with
  | ok a => exact fun F2 H2 g2 => q a F2 H2 rfl g2 (h F2 H2 g2)
  | exc x => exact h
  | bad => exact h
end
end DL

/-! DLb -/
namespace DL
open PySem L2 PySem.Spec PyProof.Rows
open Evl (Ex ex_l ex_t ex_rd)

inductive BwAll (K : PySem.W.Frag) (F H : Hp) : List V → List D → Prop
  | nil : BwAll K F H [] []
  | cons {v : V} {vs : List V} {d : D} {ds : List D} : Bw K F H v d → BwAll K F H vs ds → BwAll K F H (v :: vs) (d :: ds)

/-! ### readings by data -/
def tE (K : PySem.W.Frag) (mg : Str → Option Value) (W : WX) (f : Env → R D) : TE := fun σ H Q => ∃ F0 H0 F ρ, Rep K F0 H0 F H ρ σ ∧ ROk K mg (fun c d H' => W c d σ H') F H (fun a F' H' => ∀ v, Da K F' v a → Q v H') (f ρ)
def tB (K : PySem.W.Frag) (mg : Str → Option Value) (W : WX) (f : Env → R D) : TE := fun σ H Q => ∃ F0 H0 F ρ, Rep K F0 H0 F H ρ σ ∧ ROk K mg (fun c d H' => W c d σ H') F H (fun a F' H' => ∀ v, Bw K F' H' v a → Q v H') (f ρ)
/-- a new list, nobody's yet -/
def tN (K : PySem.W.Frag) (mg : Str → Option Value) (W : WX) (f : Env → R (List D)) : TE := fun σ H Q => ∃ F0 H0 F ρ, Rep K F0 H0 F H ρ σ ∧
  ROk K mg (fun c d H' => W c d σ H') F H (fun a F' H' => ∀ p vs, H p = none → F' p = none → H' p = some (.lst vs) → DaAll K F' vs a → Q (.ref p) H') (f ρ)
def tD (K : PySem.W.Frag) (mg : Str → Option Value) (W : WX) (f : Env → R Bool) : TT := fun σ H Q => ∃ F0 H0 F ρ, Rep K F0 H0 F H ρ σ ∧ ROk K mg (fun c d H' => W c d σ H') F H (fun b F' H' => Q b H') (f ρ)
def tAD (K : PySem.W.Frag) (mg : Str → Option Value) (W : WX) (f : Env → R (List D)) : TA := fun σ H Q => ∃ F0 H0 F ρ, Rep K F0 H0 F H ρ σ ∧ ROk K mg (fun c d H' => W c d σ H') F H (fun a F' H' => ∀ vs, DaAll K F' vs a → Q vs H') (f ρ)
def tAB (K : PySem.W.Frag) (mg : Str → Option Value) (W : WX) (f : Env → R (List D)) : TA := fun σ H Q => ∃ F0 H0 F ρ, Rep K F0 H0 F H ρ σ ∧ ROk K mg (fun c d H' => W c d σ H') F H (fun a F' H' => ∀ vs, BwAll K F' H' vs a → Q vs H') (f ρ)

structure DE (X : Cx) (W : WX) (e : Expr) (f : Env → R D) : Prop where
  pe : PE X e (tE X.K X.mg W f)
structure DB (X : Cx) (W : WX) (e : Expr) (f : Env → R D) : Prop where
  pe : PE X e (tB X.K X.mg W f)
structure DN (X : Cx) (W : WX) (e : Expr) (f : Env → R (List D)) : Prop where
  pe : PE X e (tN X.K X.mg W f)
structure DT (X : Cx) (W : WX) (e : Expr) (f : Env → R Bool) : Prop where
  pt : PT X e (tD X.K X.mg W f)
structure DW (X : Cx) (W : WX) (e : Expr) (f : Env → R Bool) : Prop where
  pw : PW X e (tD X.K X.mg W f)
structure DA (X : Cx) (W : WX) (es : List Expr) (f : Env → R (List D)) : Prop where
  pa : PA X es (tAD X.K X.mg W f)
structure DAB (X : Cx) (W : WX) (es : List Expr) (f : Env → R (List D)) : Prop where
  pa : PA X es (tAB X.K X.mg W f)

section
variable {X : Cx} {W : WX} {e e1 e2 e3 : Expr} {es : List Expr} {pos : Pos} {f g h : Env → R D}
theorem pe_imp {t t' : TE} (q : PE X e t) (i : ∀ σ H Q, t' σ H Q → t σ H Q) : PE X e t' := ⟨fun pins s σ H Q I z => q.run pins s σ H Q I (i σ H Q z)⟩
theorem pt_imp {t t' : TT} (q : PT X e t) (i : ∀ σ H Q, t' σ H Q → t σ H Q) : PT X e t' := ⟨fun pins s σ H Q I z => q.run pins s σ H Q I (i σ H Q z)⟩
theorem pw_imp {t t' : TT} (q : PW X e t) (i : ∀ σ H Q, t' σ H Q → t σ H Q) : PW X e t' := ⟨fun whole pins s σ H Q I z => q.run whole pins s σ H Q I (i σ H Q z)⟩
theorem pa_imp {t t' : TA} (q : PA X es t) (i : ∀ σ H Q, t' σ H Q → t σ H Q) : PA X es t' := ⟨fun p pins s σ H Q I z => q.run p pins s σ H Q I (i σ H Q z)⟩
theorem ps_imp {st : Stmt} {t t' : TS} (q : PS X st t) (i : ∀ D σ H, t' D σ H → t D σ H) : PS X st t' := ⟨fun pins s σ H D I z => q.run pins s σ H D I (i D σ H z)⟩
theorem pss_imp {st : List Stmt} {t t' : TS} (q : PSs X st t) (i : ∀ D σ H, t' D σ H → t D σ H) : PSs X st t' := ⟨fun pins s σ H D I z => q.run pins s σ H D I (i D σ H z)⟩

/-- frozen is borrowed -/
theorem DE.bor (q : DE X W e f) : DB X W e f := ⟨pe_imp q.pe fun σ H Q ⟨F0, H0, F, ρ, r, k⟩ => ⟨F0, H0, F, ρ, r, k.imp fun a F' H' _ _ z v hv => z v (.fr hv)⟩⟩
/-- a new list, frozen -/
def asList (f : Env → R (List D)) : Env → R D := fun ρ => (f ρ).bind fun ds => .ok (.list ds)
theorem grow_lay {K : PySem.W.Frag} {F H F' H' : Hp} {p : Addr} {o : HO} (g : Grow F H F' H') (hp : H p = none) (fp : F' p = none) (h' : H' p = some o) : Grow F H (upd F' p o) H' := by
  have fz := Grow.freeze g.in_ h' fp
  refine ⟨g.f.trans fz.1, g.h, fz.2, fun a u q n => ?_⟩
  by_cases y : a = p
  · subst y; exact hp
  · rw [upd_ne y] at q; exact g.new a u q n
theorem DN.val {f : Env → R (List D)} (q : DN X W e f) : DE X W e (asList f) := ⟨pe_imp q.pe fun σ H Q ⟨F0, H0, F, ρ, r, k⟩ => ⟨F0, H0, F, ρ, r, by
  unfold asList at k
  cases hf : f ρ with
  | ok ds =>
    rw [hf] at k
    intro F' H' gr p vs hp fp h' ha
    have k : ∀ F2 H2, Grow F H F2 H2 → ∀ v, Da X.K F2 v (.list ds) → Q v H2 := k
    exact k _ _ (grow_lay (K := X.K) gr hp fp h') (.ref p) (.lst upd_same (ha.up (Grow.freeze gr.in_ h' fp).1))
  | exc x => rw [hf] at k; exact k
  | bad => rw [hf] at k; exact k⟩⟩

/-! ### two in a row -/
theorem two {K : PySem.W.Frag} {mg : Str → Option Value} {σ : L2.St} {F0 H0 F H : Hp} {ρ : Env} {α : Type} {P : α → Hp → Hp → Prop} {k : D → D → R α} {T : V → V → Hp → Prop} (r : Rep K F0 H0 F H ρ σ)
    (q : ROk K mg (fun c d H' => W c d σ H') F H P ((f ρ).bind fun x => (g ρ).bind fun y => k x y))
    (hT : ∀ F' H' x y a b, Grow F H F' H' → Bw K F' H' x a → Bw K F' H' y b → ROk K mg (fun c d H' => W c d σ H') F' H' P (k a b) → T x y H') :
    tB K mg W f σ H fun x H1 => tB K mg W g σ H1 fun y H2 => T x y H2 :=
  ⟨F0, H0, F, ρ, r, (ROk.step q).imp fun a F1 H1 _ g1 q1 x hx => ⟨F0, H0, F1, ρ, r.grow g1, (ROk.step q1).imp fun b F2 H2 _ g2 q2 y hy => hT F2 H2 x y a b (g1.trans g2) (hx.grow g2) hy q2⟩⟩
theorem one {K : PySem.W.Frag} {mg : Str → Option Value} {σ : L2.St} {F0 H0 F H : Hp} {ρ : Env} {α : Type} {P : α → Hp → Hp → Prop} {k : D → R α} {T : V → Hp → Prop} (r : Rep K F0 H0 F H ρ σ)
    (q : ROk K mg (fun c d H' => W c d σ H') F H P ((f ρ).bind fun x => k x))
    (hT : ∀ F' H' x a, Grow F H F' H' → Bw K F' H' x a → ROk K mg (fun c d H' => W c d σ H') F' H' P (k a) → T x H') : tB K mg W f σ H T :=
  ⟨F0, H0, F, ρ, r, (ROk.step q).imp fun a F1 H1 _ g1 q1 x hx => hT F1 H1 x a g1 hx q1⟩

def ofO {α : Type} : Option α → R α
  | some a => .ok a
  | none => .bad
theorem ROk.ofO {α : Type} {K : PySem.W.Frag} {mg : Str → Option Value} {W : XK} {F H : Hp} {P : α → Hp → Hp → Prop} {o : Option α} (h : ROk K mg W F H P (DL.ofO o)) : ∃ a, o = some a ∧ ∀ F' H', Grow F H F' H' → P a F' H' := by
  cases o with
  | some a => exact ⟨a, rfl, h⟩
  | none => exact h.elim

/-! ### names, constants -/
def cVar (i : Nat) : Env → R D := fun ρ => match ρ[i]? with
  | some (.val d) => .ok d
  | _ => .bad
def cBor (i : Nat) : Env → R D := fun ρ => match ρ[i]? with
  | some (.val d) => .ok d
  | some (.own ds) => .ok (.list ds)
  | some (.dic ks) => .ok (dcD ks)
  | _ => .bad
def cC (d : D) : Env → R D := fun _ => .ok d
theorem de_var (i : Nat) {x : Str} (hN : X.N[i]? = some x := by rfl) (hv : Vis X.env.scope x := by first | exact Or.inl rfl | exact Or.inr (Or.inl rfl) | exact Or.inr (Or.inr rfl)) (hd : (x == ("__debug__" : Str)) = false := by decide)
    (hcd : (x == ("__classdict__" : Str)) = false := by decide) : DE X W (.Name x pos) (cVar i) := ⟨pe_imp (pe_var hN hv hd hcd) fun σ H Q ⟨F0, H0, F, ρ, r, k⟩ => by
  unfold cVar at k
  split at k
  · rename_i d e
    obtain ⟨v, e1, e2⟩ := r.val i d e
    exact ⟨v, e1, k F H (.refl r.g.in_) v e2⟩
  · exact k.elim⟩
theorem db_var (i : Nat) {x : Str} (hN : X.N[i]? = some x := by rfl) (hv : Vis X.env.scope x := by first | exact Or.inl rfl | exact Or.inr (Or.inl rfl) | exact Or.inr (Or.inr rfl)) (hd : (x == ("__debug__" : Str)) = false := by decide)
    (hcd : (x == ("__classdict__" : Str)) = false := by decide) : DB X W (.Name x pos) (cBor i) := ⟨pe_imp (pe_var hN hv hd hcd) fun σ H Q ⟨F0, H0, F, ρ, r, k⟩ => by
  unfold cBor at k
  split at k
  · rename_i d e
    obtain ⟨v, e1, e2⟩ := r.val i d e
    exact ⟨v, e1, k F H (.refl r.g.in_) v (.fr e2)⟩
  · rename_i ds e
    obtain ⟨p, vs, e1, e2, e3, e4, e5⟩ := r.own i ds e
    exact ⟨_, e1, k F H (.refl r.g.in_) _ (.ow e4 e3 e5)⟩
  · rename_i ks e
    obtain ⟨p, vs, e1, e2, e3, e4, e5⟩ := r.dic i ks e
    exact ⟨_, e1, k F H (.refl r.g.in_) _ (.od e4 e3 e5 rfl)⟩
  · exact k.elim⟩
theorem de_c {v : V} {d : D} (q : PE X e (tC v)) (hd : ∀ F, Da X.K F v d) : DE X W e (cC d) := ⟨pe_imp q fun σ H Q ⟨F0, H0, F, ρ, r, k⟩ => k F H (.refl r.g.in_) v (hd F)⟩
theorem de_int {i : Int} {j : Nat} : DE X W (.Constant (.int i) j pos) (cC (.int i)) := de_c pe_int fun _ => .int i
theorem de_bl {i : Bool} {j : Nat} : DE X W (.Constant (.bool i) j pos) (cC (.bool i)) := de_c pe_bl fun _ => .bl i
theorem de_non {j : Nat} : DE X W (.Constant .none j pos) (cC .none) := de_c pe_non fun _ => .non
theorem de_str {x : Str} {j : Nat} : DE X W (.Constant (.str x) j pos) (cC (.str x)) := de_c pe_str fun _ => .str x
theorem de_gint {x : Str} {i : Int} {t : Tok} (hg : Gl X x) (hm : X.mg x = some (.int i t)) (hd : (x == ("__debug__" : Str)) = false := by decide) : DE X W (.Name x pos) (cC (.int i)) := de_c (v := .int i) (pe_glob hg hm ⟨t, rfl⟩ hd) fun _ => .int i
theorem de_gstr {x : Str} {i : Str} {t : Tok} (hg : Gl X x) (hm : X.mg x = some (.str i t)) (hd : (x == ("__debug__" : Str)) = false := by decide) : DE X W (.Name x pos) (cC (.str i)) := de_c (v := .str i) (pe_glob hg hm ⟨t, rfl⟩ hd) fun _ => .str i

/-! ### operators -/
/-- a reading of an operation on values does what o says -/
def RdO (K : PySem.W.Frag) (r : R2) (o : D → D → Option D) : Prop := ∀ (F H : Hp) (x y : V) (a b c : D), Ex F H → Bw K F H x a → Bw K F H y b → o a b = some c → ∀ Q : VK, (∀ F' H', Grow F H F' H' → ∀ v, Da K F' v c → Q v H') → r x y H Q
def cOp (o : D → D → Option D) (f g : Env → R D) : Env → R D := fun ρ => (f ρ).bind fun a => (g ρ).bind fun b => ofO (o a b)
theorem de_op {op : Operator} {o : D → D → Option D} {r : R2} (ho : OpR X (binaryOp op) r) (hr : RdO X.K r o) (ha : DB X W e1 f) (hb : DB X W e2 g) : DE X W (.BinOp e1 op e2 pos) (cOp o f g) :=
  ⟨pe_imp (pe_op ho ha.pe hb.pe) fun σ H Q ⟨F0, H0, F, ρ, r', k⟩ => two (T := fun x y H2 => r x y H2 Q) r' k fun F' H' x y a b gr hx hy kk => by
    obtain ⟨c, e, q⟩ := kk.ofO
    exact hr F' H' x y a b c gr.in_ hx hy e Q fun F2 H2 g2 v hv => q F2 H2 g2 v hv⟩
theorem de_cmp {op : CmpOp} {o : D → D → Option D} {r : R2} (ho : OpR X (compareOp op) r) (hr : RdO X.K r o) (ha : DB X W e1 f) (hb : DB X W e2 g) (hm : behindInMarks op e2 = false) : DE X W (.Compare e1 [op] [e2] pos) (cOp o f g) :=
  ⟨pe_imp (pe_cmpR ho ha.pe hb.pe hm) fun σ H Q ⟨F0, H0, F, ρ, r', k⟩ => two (T := fun x y H2 => r x y H2 Q) r' k fun F' H' x y a b gr hx hy kk => by
    obtain ⟨c, e, q⟩ := kk.ofO
    exact hr F' H' x y a b c gr.in_ hx hy e Q fun F2 H2 g2 v hv => q F2 H2 g2 v hv⟩
theorem de_ix {o : D → D → Option D} {r : R2} (ho : IxR X r) (hr : RdO X.K r o) (ha : DB X W e1 f) (hb : DB X W e2 g) (hs : PlainIx e2 := by exact fun _ _ => rfl) : DE X W (.Subscript e1 e2 pos) (cOp o f g) :=
  ⟨pe_imp (pe_ix ho ha.pe hb.pe hs) fun σ H Q ⟨F0, H0, F, ρ, r', k⟩ => two (T := fun x y H2 => r x y H2 Q) r' k fun F' H' x y a b gr hx hy kk => by
    obtain ⟨c, e, q⟩ := kk.ofO
    exact hr F' H' x y a b c gr.in_ hx hy e Q fun F2 H2 g2 v hv => q F2 H2 g2 v hv⟩
/-- two rules for two disjoint parts -/
theorem RdO.or {K : PySem.W.Frag} {r r' : R2} {o o' o2 : D → D → Option D} (h : RdO K r o) (h' : RdO K r' o') (q : ∀ a b c, o2 a b = some c → o a b = some c ∨ o' a b = some c) : RdO K (fun x y H Q => r x y H Q ∨ r' x y H Q) o2 :=
  fun F H x y a b c e hx hy hc Q k => by
    rcases q a b c hc with z | z
    · exact .inl (h F H x y a b c e hx hy z Q k)
    · exact .inr (h' F H x y a b c e hx hy z Q k)

/-! ### tests -/
def truB : D → Option Bool
  | .bool b => some b
  | _ => none
theorem truB_some {a : D} {b : Bool} (h : truB a = some b) : a = .bool b := by
  cases a <;> simp [truB] at h
  subst h; rfl
def cTest (f : Env → R D) : Env → R Bool := fun ρ => (f ρ).bind fun a => ofO (truB a)
theorem test_ok {σ : L2.St} {H : Hp} {Q : Bool → Hp → Prop} {K : PySem.W.Frag} {mg : Str → Option Value} (q : tD K mg W (cTest f) σ H Q) : tE K mg W f σ H fun x H' => ∃ k, x = .bl k ∧ Q k H' := by
  obtain ⟨F0, H0, F, ρ, r, k⟩ := q
  refine ⟨F0, H0, F, ρ, r, (ROk.step (r := f ρ) k).imp fun a F' H' _ gr z v hv => ?_⟩
  obtain ⟨b, e, q⟩ := z.ofO
  have e' := truB_some e
  subst e'
  cases hv
  exact ⟨b, rfl, q F' H' (.refl gr.in_)⟩
/-- a value that is a bool, as a test -/
theorem dt_val (ha : DE X W e f) (he : ∀ whole, isTrue e X.env whole = (do let v ← whole; standAt e.pos; holding [v] (truthy v)) := by intro _; rfl) : DT X W e (cTest f) :=
  ⟨pt_imp (pt_val ha.pe he) fun σ H Q q => test_ok q⟩
theorem dt_cmp {op : CmpOp} {o : D → D → Option D} {r : R2} (ho : OpR X (compareOp op) r) (hr : RdO X.K r o) (ha : DB X W e1 f) (hb : DB X W e2 g) (hm : behindInMarks op e2 = false) : DT X W (.Compare e1 [op] [e2] pos) (cTest (cOp o f g)) :=
  ⟨pt_imp (pt_cmpR ho ha.pe hb.pe hm) fun σ H Q q => by
    obtain ⟨F0, H0, F, ρ, r', k⟩ := test_ok q
    exact two (T := fun x y H2 => r x y H2 fun x H' => ∃ k, x = .bl k ∧ Q k H') r' k fun F' H' x y a b gr hx hy kk => by
      obtain ⟨c, e, q⟩ := kk.ofO
      exact hr F' H' x y a b c gr.in_ hx hy e _ fun F2 H2 g2 v hv => q F2 H2 g2 v hv⟩
/-- a op b op' c: both comparisons give bools -/
def cChain (o o' : D → D → Option D) (f g h : Env → R D) : Env → R D := fun ρ => (f ρ).bind fun a => (g ρ).bind fun b => (ofO ((o a b).bind truB)).bind fun k => if k = true then (h ρ).bind fun c => ofO (o' b c) else .ok (.bool false)
theorem chain_ok {o o' : D → D → Option D} {r r' : R2} {σ : L2.St} {H : Hp} {Q : VK} {K : PySem.W.Frag} {mg : Str → Option Value} (hr : RdO K r o) (hr' : RdO K r' o') (q : tE K mg W (cChain o o' f g h) σ H Q) :
    tChain r r' (tB K mg W f) (tB K mg W g) (tB K mg W h) σ H Q := by
  obtain ⟨F0, H0, F, ρ, rp, k⟩ := q
  refine two (T := fun x y H2 => r x y H2 fun z H3 => ∃ k, z = .bl k ∧ (if k = true then tB K mg W h σ H3 fun w' H4 => r' y w' H4 Q else Q (.bl false) H3)) rp k fun F' H' x y a b gr hx hy kk => ?_
  have z := ROk.step kk
  obtain ⟨kb, e, q⟩ := z.ofO
  cases hc : o a b with
  | none => rw [hc] at e; cases e
  | some c =>
    rw [hc] at e
    have ec := truB_some (show truB c = some kb from e)
    subst ec
    refine hr F' H' x y a b _ gr.in_ hx hy hc _ fun F2 H2 g2 v hv => ?_
    cases hv
    refine ⟨kb, rfl, ?_⟩
    have q2 := q F2 H2 g2
    cases kb with
    | true =>
      rw [if_pos rfl] at q2 ⊢
      exact one ((rp.grow gr).grow g2) q2 fun F3 H3 w' d g3 hw k3 => by
        obtain ⟨c', e', q'⟩ := k3.ofO
        exact hr' F3 H3 y w' b d c' g3.in_ ((hy.grow g2).grow g3) hw e' Q fun F4 H4 g4 v hv => q' F4 H4 g4 v hv
    | false =>
      rw [if_neg Bool.false_ne_true] at q2 ⊢
      exact q2 F2 H2 (.refl g2.in_) _ (.bl false)
theorem de_chain {op op' : CmpOp} {o o' : D → D → Option D} {r r' : R2} (ho : OpR X (compareOp op) r) (hr : RdO X.K r o) (ho' : OpR X (compareOp op') r') (hr' : RdO X.K r' o') (ha : DB X W e1 f) (hb : DB X W e2 g) (hc : DB X W e3 h)
    (hm : lastMarks [op, op'] [e2, e3] = false := by with_unfolding_all rfl) : DE X W (.Compare e1 [op, op'] [e2, e3] pos) (cChain o o' f g h) :=
  ⟨pe_imp (pe_chain ho ho' ha.pe hb.pe hc.pe hm) fun σ H Q q => chain_ok hr hr' q⟩
theorem dt_chain {op op' : CmpOp} {o o' : D → D → Option D} {r r' : R2} (ho : OpR X (compareOp op) r) (hr : RdO X.K r o) (ho' : OpR X (compareOp op') r') (hr' : RdO X.K r' o') (ha : DB X W e1 f) (hb : DB X W e2 g) (hc : DB X W e3 h)
    (hm : lastMarks [op, op'] [e2, e3] = false := by with_unfolding_all rfl) : DT X W (.Compare e1 [op, op'] [e2, e3] pos) (cTest (cChain o o' f g h)) :=
  ⟨pt_imp (pt_chain ho ho' ha.pe hb.pe hc.pe hm) fun σ H Q q => chain_ok hr hr' (test_ok q)⟩

def cAnd (f g : Env → R Bool) : Env → R Bool := fun ρ => (f ρ).bind fun k => if k = true then g ρ else .ok false
def cOr (f g : Env → R Bool) : Env → R Bool := fun ρ => (f ρ).bind fun k => if k = true then .ok true else g ρ
def cNot (f : Env → R Bool) : Env → R Bool := fun ρ => (f ρ).bind fun k => .ok (!k)
theorem DW.dt {f : Env → R Bool} (q : DW X W e f) : DT X W e f := ⟨q.pw.pt⟩
theorem dw_and1 {f : Env → R Bool} (ha : DT X W e f) : DW X W (.BoolOp .And [e] pos) f := ⟨pw_and1 ha.pt⟩
theorem dw_or1 {f : Env → R Bool} (ha : DT X W e f) : DW X W (.BoolOp .Or [e] pos) f := ⟨pw_or1 ha.pt⟩
theorem dw_and {f g : Env → R Bool} (ha : DT X W e f) (hb : DW X W (.BoolOp .And (e1 :: es) pos) g) : DW X W (.BoolOp .And (e :: e1 :: es) pos) (cAnd f g) :=
  ⟨pw_imp (pw_and ha.pt hb.pw) fun σ H Q ⟨F0, H0, F, ρ, r, k⟩ => ⟨F0, H0, F, ρ, r, (ROk.step (r := f ρ) k).imp fun b F' H' _ gr z => by
    cases b with
    | true => exact ⟨F0, H0, F', ρ, r.grow gr, z⟩
    | false => exact z F' H' (.refl gr.in_)⟩⟩
theorem dw_or {f g : Env → R Bool} (ha : DT X W e f) (hb : DW X W (.BoolOp .Or (e1 :: es) pos) g) : DW X W (.BoolOp .Or (e :: e1 :: es) pos) (cOr f g) :=
  ⟨pw_imp (pw_or ha.pt hb.pw) fun σ H Q ⟨F0, H0, F, ρ, r, k⟩ => ⟨F0, H0, F, ρ, r, (ROk.step (r := f ρ) k).imp fun b F' H' _ gr z => by
    cases b with
    | true => exact z F' H' (.refl gr.in_)
    | false => exact ⟨F0, H0, F', ρ, r.grow gr, z⟩⟩⟩
theorem dt_not {f : Env → R Bool} (ha : DT X W e f) : DT X W (.UnaryOp .Not e pos) (cNot f) :=
  ⟨pt_imp (pt_not ha.pt) fun σ H Q ⟨F0, H0, F, ρ, r, k⟩ => ⟨F0, H0, F, ρ, r, (ROk.step (r := f ρ) k).imp fun b F' H' _ gr z => z F' H' (.refl gr.in_)⟩⟩
/-! as values, the first a bool -/
def cAndV (f g : Env → R D) : Env → R D := fun ρ => (cTest f ρ).bind fun k => if k = true then g ρ else .ok (.bool false)
def cOrV (f g : Env → R D) : Env → R D := fun ρ => (cTest f ρ).bind fun k => if k = true then .ok (.bool true) else g ρ
def cNotV (f : Env → R D) : Env → R D := fun ρ => (cTest f ρ).bind fun k => .ok (.bool (!k))
theorem de_one {op : BoolOp} (ha : DE X W e f) : DE X W (.BoolOp op [e] pos) f := ⟨pe_one ha.pe⟩
theorem bool_step {α : Type} {K : PySem.W.Frag} {mg : Str → Option Value} {σ : L2.St} {F0 H0 F H : Hp} {ρ : Env} {P : α → Hp → Hp → Prop} {k : Bool → R α} {T : V → Hp → Prop} (r : Rep K F0 H0 F H ρ σ)
    (q : ROk K mg (fun c d H' => W c d σ H') F H P ((cTest f ρ).bind k)) (hT : ∀ F' H' b, Grow F H F' H' → ROk K mg (fun c d H' => W c d σ H') F' H' P (k b) → T (.bl b) H') : tE K mg W f σ H T := by
  have q1 := ROk.step q
  refine ⟨F0, H0, F, ρ, r, (ROk.step (r := f ρ) q1).imp fun a F' H' _ gr z v hv => ?_⟩
  obtain ⟨b, e, q⟩ := z.ofO
  have e' := truB_some e
  subst e'
  cases hv
  exact hT F' H' b gr (q F' H' (.refl gr.in_))
theorem de_and (ha : DE X W e f) (hb : DE X W (.BoolOp .And (e1 :: es) pos) g) : DE X W (.BoolOp .And (e :: e1 :: es) pos) (cAndV f g) :=
  ⟨pe_imp (pe_and ha.pe hb.pe) fun σ H Q ⟨F0, H0, F, ρ, r, k⟩ => bool_step r k fun F' H' b gr z => ⟨b, rfl, by
    cases b with
    | true => exact ⟨F0, H0, F', ρ, r.grow gr, z⟩
    | false => exact z F' H' (.refl gr.in_) _ (.bl false)⟩⟩
theorem de_or (ha : DE X W e f) (hb : DE X W (.BoolOp .Or (e1 :: es) pos) g) : DE X W (.BoolOp .Or (e :: e1 :: es) pos) (cOrV f g) :=
  ⟨pe_imp (pe_or ha.pe hb.pe) fun σ H Q ⟨F0, H0, F, ρ, r, k⟩ => bool_step r k fun F' H' b gr z => ⟨b, rfl, by
    cases b with
    | true => exact z F' H' (.refl gr.in_) _ (.bl true)
    | false => exact ⟨F0, H0, F', ρ, r.grow gr, z⟩⟩⟩
theorem de_not (ha : DE X W e f) : DE X W (.UnaryOp .Not e pos) (cNotV f) :=
  ⟨pe_imp (pe_not ha.pe) fun σ H Q ⟨F0, H0, F, ρ, r, k⟩ => bool_step r k fun F' H' b gr z => ⟨b, rfl, z F' H' (.refl gr.in_) _ (.bl (!b))⟩⟩
def cIf (t : Env → R Bool) (f g : Env → R D) : Env → R D := fun ρ => (t ρ).bind fun k => if k = true then f ρ else g ρ
theorem de_if {t : Env → R Bool} (hc : DT X W e t) (ha : DE X W e1 f) (hb : DE X W e2 g) : DE X W (.IfExp e e1 e2 pos) (cIf t f g) :=
  ⟨pe_imp (pe_ifExp hc.pt ha.pe hb.pe) fun σ H Q ⟨F0, H0, F, ρ, r, k⟩ => ⟨F0, H0, F, ρ, r, (ROk.step (r := t ρ) k).imp fun b F' H' _ gr z => by
    cases b with
    | true => exact ⟨F0, H0, F', ρ, r.grow gr, z⟩
    | false => exact ⟨F0, H0, F', ρ, r.grow gr, z⟩⟩⟩

/-! ### rows of expressions -/
def aNil : Env → R (List D) := fun _ => .ok []
def aCons (f : Env → R D) (g : Env → R (List D)) : Env → R (List D) := fun ρ => (f ρ).bind fun x => (g ρ).bind fun xs => .ok (x :: xs)
theorem da_nil : DA X W [] aNil := ⟨pa_imp pa_nil fun σ H Q ⟨F0, H0, F, ρ, r, k⟩ => k F H (.refl r.g.in_) [] .nil⟩
theorem da_cons {q : Env → R (List D)} (ha : DE X W e f) (hr : DA X W es q) (hs : starEach (e :: es) X.env = (false, eval e X.env) :: starEach es X.env := by rfl) : DA X W (e :: es) (aCons f q) :=
  ⟨pa_imp (pa_cons ha.pe hr.pa hs) fun σ H Q ⟨F0, H0, F, ρ, r, k⟩ => ⟨F0, H0, F, ρ, r, (ROk.step (r := f ρ) k).imp fun a F1 H1 _ g1 q1 v hv => ⟨F0, H0, F1, ρ, r.grow g1, (ROk.step (r := q ρ) q1).imp fun xs F2 H2 _ g2 q2 vs hvs =>
    q2 F2 H2 (.refl g2.in_) (v :: vs) (.cons (hv.up g2.f) hvs)⟩⟩⟩
theorem dab_nil : DAB X W [] aNil := ⟨pa_imp pa_nil fun σ H Q ⟨F0, H0, F, ρ, r, k⟩ => k F H (.refl r.g.in_) [] .nil⟩
theorem dab_cons {q : Env → R (List D)} (ha : DB X W e f) (hr : DAB X W es q) (hs : starEach (e :: es) X.env = (false, eval e X.env) :: starEach es X.env := by rfl) : DAB X W (e :: es) (aCons f q) :=
  ⟨pa_imp (pa_cons ha.pe hr.pa hs) fun σ H Q ⟨F0, H0, F, ρ, r, k⟩ => ⟨F0, H0, F, ρ, r, (ROk.step (r := f ρ) k).imp fun a F1 H1 _ g1 q1 v hv => ⟨F0, H0, F1, ρ, r.grow g1, (ROk.step (r := q ρ) q1).imp fun xs F2 H2 _ g2 q2 vs hvs =>
    q2 F2 H2 (.refl g2.in_) (v :: vs) (.cons (hv.grow g2) hvs)⟩⟩⟩
def cTup (q : Env → R (List D)) : Env → R D := fun ρ => (q ρ).bind fun ds => if ds.length ≤ 100000 then .ok (.tuple ds) else .bad
def cLst (q : Env → R (List D)) : Env → R (List D) := fun ρ => (q ρ).bind fun ds => if ds.length ≤ 100000 then .ok ds else .bad
theorem de_tup {q : Env → R (List D)} {k : Nat} (ha : DA X W es q) : DE X W (.Tuple es k pos) (cTup q) :=
  ⟨pe_imp (pe_tup ha.pa) fun σ H Q ⟨F0, H0, F, ρ, r, kk⟩ => ⟨F0, H0, F, ρ, r, (ROk.step (r := q ρ) kk).imp fun ds F1 H1 _ g1 q1 vs hv => by
    split at q1
    · rename_i hl
      have hl' := dpa_len hv
      exact ⟨Evl.sz_of (by omega), fun p hp => q1 _ _ (Grow.made g1.in_ hp) (.ref p) (.tup (Or.inl (Or.inl upd_same)) (hv.up (Ex.new (Evl.fresh_back g1.in_ hp))))⟩
    · exact q1.elim⟩⟩
theorem dn_lst {q : Env → R (List D)} (ha : DA X W es q) : DN X W (.List es pos) (cLst q) :=
  ⟨pe_imp (pe_lst ha.pa) fun σ H Q ⟨F0, H0, F, ρ, r, kk⟩ => ⟨F0, H0, F, ρ, r, by
    unfold cLst at kk
    cases hq : q ρ with
    | ok ds =>
      rw [hq] at kk
      intro F1 H1 g1 vs hv
      by_cases hl : ds.length ≤ 100000
      · have kk : ROk X.K X.mg (fun c d H' => W c d σ H') F H (fun a F' H' => ∀ p vs, H p = none → F' p = none → H' p = some (.lst vs) → DaAll X.K F' vs a → Q (.ref p) H') (if ds.length ≤ 100000 then .ok ds else .bad) := kk
        rw [if_pos hl] at kk
        have hl' := dpa_len hv
        exact ⟨Evl.sz_of (by omega), fun p hp => kk F1 _ (g1.trans (Grow.held g1.in_ hp)) p vs (Evl.fresh_back g1.h hp) (Evl.fresh_back g1.in_ hp) upd_same hv⟩
      · have kk : ROk X.K X.mg (fun c d H' => W c d σ H') F H (fun a F' H' => ∀ p vs, H p = none → F' p = none → H' p = some (.lst vs) → DaAll X.K F' vs a → Q (.ref p) H') (if ds.length ≤ 100000 then .ok ds else .bad) := kk
        rw [if_neg hl] at kk
        exact kk.elim
    | exc x => rw [hq] at kk; exact kk
    | bad => rw [hq] at kk; exact kk⟩⟩
end
end DL

/-! DLc -/
namespace DL
open PySem L2 PySem.Spec PyProof.Rows
open Evl (Ex ex_l ex_t ex_rd)

/-! ### operations on data -/
instance {i j : Int} : Decidable (CMul i j) := by unfold CMul; infer_instance
instance {i j : Int} : Decidable (CDivW i j) := by unfold CDivW; infer_instance
instance {i j : Int} : Decidable (CPow i j) := by unfold CPow; infer_instance
def oAdd : D → D → Option D
  | .int i, .int j => some (.int (i + j))
  | .str x, .str y => if x.length + y.length ≤ 100000 then some (.str (x ++ y)) else none
  | .tuple xs, .tuple ys => if xs.length + ys.length ≤ 100000 then some (.tuple (xs ++ ys)) else none
  | .list xs, .list ys => if xs.length + ys.length ≤ 100000 then some (.list (xs ++ ys)) else none
  | _, _ => none
def oSub : D → D → Option D
  | .int i, .int j => some (.int (i - j))
  | _, _ => none
def oMul : D → D → Option D
  | .int i, .int j => if CMul i j then some (.int (i * j)) else none
  | .list xs, .int j => if 0 ≤ j ∧ j ≤ 100000 ∧ xs.length * j.toNat ≤ 100000 then some (.list (List.replicate j.toNat xs).flatten) else none
  | .tuple xs, .int j => if xs ≠ [] ∧ 2 ≤ j ∧ j ≤ 1000 ∧ xs.length ≤ 1000 then some (.tuple (List.replicate j.toNat xs).flatten) else none
  | _, _ => none
def oMod : D → D → Option D
  | .int i, .int j => if 0 < j then some (.int (i % j)) else none
  | _, _ => none
def oDiv : D → D → Option D
  | .int i, .int j => if CDivW i j then some (.int (i / j)) else none
  | _, _ => none
def oPow : D → D → Option D
  | .int i, .int j => if CPow i j then some (.int (i ^ j.toNat)) else none
  | _, _ => none
def oLt : D → D → Option D
  | .int i, .int j => some (.bool (decide (i < j)))
  | .str x, .str y => some (.bool (decide (x.cps.toList < y.cps.toList)))
  | _, _ => none
def oLe : D → D → Option D
  | .int i, .int j => some (.bool (decide (i ≤ j)))
  | _, _ => none
def oGt : D → D → Option D
  | .int i, .int j => some (.bool (decide (j < i)))
  | _, _ => none
def oGe : D → D → Option D
  | .int i, .int j => some (.bool (decide (j ≤ i)))
  | _, _ => none
def oEq (a b : D) : Option D := if SeqAt.shaped a = true ∧ SeqAt.shaped b = true then some (.bool (PyData.eqv a b)) else none
def oNe (a b : D) : Option D := if SeqAt.shaped a = true ∧ SeqAt.shaped b = true then some (.bool (!PyData.eqv a b)) else none
def isNone : D → Bool
  | .none => true
  | _ => false
def oIs (a b : D) : Option D := if isNone b = true then some (.bool (isNone a)) else none
def oIsNot (a b : D) : Option D := if isNone b = true then some (.bool (!isNone a)) else none
def oIn : D → D → Option D
  | a, .list ds => if SeqAt.shaped a = true ∧ SeqAt.shaped (.list ds) = true then some (.bool (ds.any fun z => PyData.eqv z a)) else none
  | .str x, .str y => some (.bool (!(Builtin.Str.occurrences y x 0 y.length 1).isEmpty))
  | _, _ => none
def oNotIn : D → D → Option D
  | a, .list ds => if SeqAt.shaped a = true ∧ SeqAt.shaped (.list ds) = true then some (.bool (!ds.any fun z => PyData.eqv z a)) else none
  | .str x, .str y => some (.bool (!(!(Builtin.Str.occurrences y x 0 y.length 1).isEmpty)))
  | _, _ => none
def flatD : D → Bool
  | .none => true | .bool _ => true | .int _ => true | .str _ => true
  | _ => false
/-- in, of a tuple -/
def oInT : D → D → Option D
  | a, .tuple ds => if flatD a = true ∧ ds.all flatD = true then some (.bool (ds.any fun z => PyData.eqv z a)) else none
  | _, _ => none
def oNotInT : D → D → Option D
  | a, .tuple ds => if flatD a = true ∧ ds.all flatD = true then some (.bool (!ds.any fun z => PyData.eqv z a)) else none
  | _, _ => none
def oIx : D → D → Option D
  | .list xs, .int i => atI xs i
  | .tuple xs, .int i => atI xs i
  | .str z, .int i => if z.length ≤ 100000 then (atI z.cps.toList i).map fun c => .str ⟨#[c]⟩ else none
  | _, _ => none

section
variable {X : Cx} {K : PySem.W.Frag}
/-- a flat result needs no growth -/
theorem flat_q {K : PySem.W.Frag} {F H : Hp} {c : D} {v : V} {Q : VK} (e : Ex F H) (hv : Da K F v c) (k : ∀ F' H', Grow F H F' H' → ∀ v, Da K F' v c → Q v H') : Q v H := k F H (.refl e) v hv
theorem rd_intB {g : Int → Int → Bool} {o : D → D → Option D} (h : ∀ a b c, o a b = some c → ∃ i j, a = .int i ∧ b = .int j ∧ c = .bool (g i j)) : RdO K (rI0 fun i j => .bl (g i j)) o :=
  fun F H x y a b c e hx hy hc Q k => by
    obtain ⟨i, j, rfl, rfl, rfl⟩ := h a b c hc
    exact ⟨i, j, hx.int, hy.int, flat_q e (.bl _) k⟩
theorem rd_intI {g : Int → Int → Int} {C : Int → Int → Prop} {o : D → D → Option D} (h : ∀ a b c, o a b = some c → ∃ i j, a = .int i ∧ b = .int j ∧ C i j ∧ c = .int (g i j)) : RdO K (rI C fun i j => .int (g i j)) o :=
  fun F H x y a b c e hx hy hc Q k => by
    obtain ⟨i, j, rfl, rfl, h1, rfl⟩ := h a b c hc
    exact ⟨i, j, hx.int, hy.int, h1, flat_q e (.int _) k⟩
theorem rd_intI0 {g : Int → Int → Int} {o : D → D → Option D} (h : ∀ a b c, o a b = some c → ∃ i j, a = .int i ∧ b = .int j ∧ c = .int (g i j)) : RdO K (rI0 fun i j => .int (g i j)) o :=
  fun F H x y a b c e hx hy hc Q k => by
    obtain ⟨i, j, rfl, rfl, rfl⟩ := h a b c hc
    exact ⟨i, j, hx.int, hy.int, flat_q e (.int _) k⟩
theorem rd_sub : RdO K (rI0 fun i j => .int (i - j)) oSub := rd_intI0 fun a b c h => by
  cases a <;> cases b <;> simp [oSub] at h
  exact ⟨_, _, rfl, rfl, h.symm⟩
theorem rd_mod : RdO K (rI (fun _ j => 0 < j) fun i j => .int (i % j)) oMod := rd_intI fun a b c h => by
  cases a <;> cases b <;> simp [oMod] at h
  exact ⟨_, _, rfl, rfl, h.1, h.2.symm⟩
theorem rd_div : RdO K (rI CDivW fun i j => .int (i / j)) oDiv := rd_intI fun a b c h => by
  cases a <;> cases b <;> simp [oDiv] at h
  exact ⟨_, _, rfl, rfl, h.1, h.2.symm⟩
theorem rd_pow : RdO K (rI CPow fun i j => .int (i ^ j.toNat)) oPow := rd_intI fun a b c h => by
  cases a <;> cases b <;> simp [oPow] at h
  exact ⟨_, _, rfl, rfl, h.1, h.2.symm⟩
theorem rd_le : RdO K (rI0 fun i j => .bl (decide (i ≤ j))) oLe := rd_intB fun a b c h => by
  cases a <;> cases b <;> simp [oLe] at h
  exact ⟨_, _, rfl, rfl, h.symm⟩
theorem rd_gt : RdO K (rI0 fun i j => .bl (decide (j < i))) oGt := rd_intB fun a b c h => by
  cases a <;> cases b <;> simp [oGt] at h
  exact ⟨_, _, rfl, rfl, h.symm⟩
theorem rd_ge : RdO K (rI0 fun i j => .bl (decide (j ≤ i))) oGe := rd_intB fun a b c h => by
  cases a <;> cases b <;> simp [oGe] at h
  exact ⟨_, _, rfl, rfl, h.symm⟩
/-- +: ints, texts, tuples, lists -/
def rAddD (K : PySem.W.Frag) : R2 := fun x y H Q => (((rI0 fun i j => .int (i + j)) x y H Q ∨ (∃ i j, x = .str i ∧ y = .str j ∧ i.length + j.length ≤ sizeLine ∧ Q (.str (i ++ j)) H)) ∨ rCatA K x y H Q) ∨ rCat x y H Q
theorem op_addD : OpR X (binaryOp .Add) (rAddD X.K) := ((op_add.or op_add_str).or op_catA).or op_cat
theorem rd_add : RdO K (rAddD K) oAdd := fun F H x y a b c e hx hy hc Q k => by
  cases a <;> cases b <;> simp [oAdd] at hc
  · subst hc; exact .inl (.inl (.inl ⟨_, _, hx.int, hy.int, flat_q e (.int _) k⟩))
  · obtain ⟨h1, rfl⟩ := hc
    exact .inl (.inl (.inr ⟨_, _, hx.str, hy.str, Evl.sz_of h1, flat_q e (.str _) k⟩))
  · obtain ⟨h1, rfl⟩ := hc
    obtain ⟨p, vs, rfl, h2, h3⟩ := hx.list e
    obtain ⟨q, us, rfl, h4, h5⟩ := hy.list e
    have l1 := dpa_len h3
    have l2 := dpa_len h5
    exact .inr ⟨p, q, vs, us, rfl, rfl, h2, h4, Evl.sz_of (by omega), fun z hz => k _ _ (Grow.made e hz) _ (.lst upd_same (dpa_app (h3.up (Ex.new (Evl.fresh_back e hz))) (h5.up (Ex.new (Evl.fresh_back e hz)))))⟩
  · obtain ⟨h1, rfl⟩ := hc
    obtain ⟨p, vs, rfl, h2, h3⟩ := hx.tuple e
    obtain ⟨q, us, rfl, h4, h5⟩ := hy.tuple e
    have l1 := dpa_len h3
    have l2 := dpa_len h5
    refine .inl (.inr ⟨p, q, vs, us, rfl, rfl, h2, h4, Evl.sz_of (by omega), fun z => ?_, fun _ z => ?_, fun _ _ z hz => k _ _ (Grow.made e hz) _ (.tup (Or.inl (Or.inl upd_same)) (dpa_app (h3.up (Ex.new (Evl.fresh_back e hz))) (h5.up (Ex.new (Evl.fresh_back e hz)))))⟩)
    · subst z
      cases h3
      cases hy with
      | fr h => exact k F H (.refl e) _ h
    · subst z
      cases h5
      cases hx with
      | fr h => rw [List.append_nil] at k; exact k F H (.refl e) _ h
theorem rep_flat {F : Hp} {vs : List V} {ds : List D} (h : DaAll K F vs ds) : ∀ n : Nat, DaAll K F (List.replicate n vs).flatten (List.replicate n ds).flatten
  | 0 => by simp; exact .nil
  | n + 1 => by rw [List.replicate_succ, List.replicate_succ, List.flatten_cons, List.flatten_cons]; exact dpa_app h (rep_flat h n)
def rMulD (K : PySem.W.Frag) : R2 := fun x y H Q => ((rI CMul fun i j => .int (i * j)) x y H Q ∨ rRep x y H Q) ∨ rRepT K x y H Q
theorem op_mulD : OpR X (binaryOp .Mult) (rMulD X.K) := (op_mul.or op_rep).or op_repT
def oMul1 : D → D → Option D
  | .int i, .int j => if CMul i j then some (.int (i * j)) else none
  | .list xs, .int j => if 0 ≤ j ∧ j ≤ 100000 ∧ xs.length * j.toNat ≤ 100000 then some (.list (List.replicate j.toNat xs).flatten) else none
  | .tuple xs, .int j => if xs ≠ [] ∧ 2 ≤ j ∧ j ≤ 1000 ∧ xs.length ≤ 1000 then some (.tuple (List.replicate j.toNat xs).flatten) else none
  | _, _ => none
theorem rd_mul : RdO K (rMulD K) oMul1 := fun F H x y a b c e hx hy hc Q k => by
  cases a <;> cases b <;> simp only [oMul1] at hc <;> try (cases hc; done)
  · split at hc
    · rename_i h1
      cases hc
      exact .inl (.inl ⟨_, _, hx.int, hy.int, h1, flat_q e (.int _) k⟩)
    · cases hc
  · split at hc
    · rename_i h1
      cases hc
      obtain ⟨p, vs, rfl, h2, h3⟩ := hx.list e
      have l1 := dpa_len h3
      refine .inl (.inr ⟨p, _, vs, rfl, hy.int, h2, by omega, by omega, Evl.sz_of (by rw [l1]; exact h1.2.2), fun z hz => k _ _ (Grow.made e hz) _ (.lst upd_same (rep_flat (h3.up (Ex.new (Evl.fresh_back e hz))) _))⟩)
    · cases hc
  · split at hc
    · rename_i h1
      cases hc
      obtain ⟨p, vs, rfl, h2, h3⟩ := hx.tuple e
      have l1 := dpa_len h3
      refine .inr ⟨p, _, vs, rfl, hy.int, h2, ?_, by omega, by omega, by omega, fun z hz => k _ _ (Grow.made e hz) _ (.tup (Or.inl (Or.inl upd_same)) (rep_flat (h3.up (Ex.new (Evl.fresh_back e hz))) _))⟩
      intro z
      subst z
      cases h3
      exact h1.1 rfl
    · cases hc
/-- <: ints, texts -/
def rLtD : R2 := fun x y H Q => (rI0 fun i j => .bl (decide (i < j))) x y H Q ∨ (∃ i j, x = .str i ∧ y = .str j ∧ Q (.bl (decide (i.cps.toList < j.cps.toList))) H)
theorem op_ltD : OpR X (compareOp .Lt) rLtD := op_lt.or op_lt_str
theorem rd_lt : RdO K rLtD oLt := fun F H x y a b c e hx hy hc Q k => by
  cases a <;> cases b <;> simp only [oLt] at hc <;> try (cases hc; done)
  · cases hc; exact .inl ⟨_, _, hx.int, hy.int, flat_q e (.bl _) k⟩
  · cases hc; exact .inr ⟨_, _, hx.str, hy.str, flat_q e (.bl _) k⟩
theorem rd_eq : RdO K (rEqD K) oEq := fun F H x y a b c e hx hy hc Q k => by
  unfold oEq at hc
  split at hc
  · rename_i h
    cases hc
    exact ⟨a, b, da_dp _ _ (SeqAt.canLay_of_shaped h.1) (hx.da e), da_dp _ _ (SeqAt.canLay_of_shaped h.2) (hy.da e), h.1, h.2, flat_q e (.bl _) k⟩
  · cases hc
theorem rd_ne : RdO K (rNeD K) oNe := fun F H x y a b c e hx hy hc Q k => by
  unfold oNe at hc
  split at hc
  · rename_i h
    cases hc
    exact ⟨a, b, da_dp _ _ (SeqAt.canLay_of_shaped h.1) (hx.da e), da_dp _ _ (SeqAt.canLay_of_shaped h.2) (hy.da e), h.1, h.2, flat_q e (.bl _) k⟩
  · cases hc
theorem non_iff {F H : Hp} {x : V} {a : D} (h : Bw K F H x a) : decide (x = .non) = isNone a := by
  cases h with
  | fr h => cases h <;> simp [isNone]
  | ow => simp [isNone]
  | od => simp [isNone]
theorem isNone_eq {a : D} (h : isNone a = true) : a = .none := by cases a <;> simp [isNone] at h; rfl
theorem rd_is : RdO K (fun x y H Q => y = .non ∧ Q (.bl (decide (x = .non))) H) oIs := fun F H x y a b c e hx hy hc Q k => by
  unfold oIs at hc
  split at hc
  · rename_i h
    cases hc
    have hb := isNone_eq h
    subst hb
    refine ⟨hy.none, ?_⟩
    rw [non_iff hx]
    exact flat_q e (.bl _) k
  · cases hc
theorem rd_isnot : RdO K (fun x y H Q => y = .non ∧ Q (.bl (!decide (x = .non))) H) oIsNot := fun F H x y a b c e hx hy hc Q k => by
  unfold oIsNot at hc
  split at hc
  · rename_i h
    cases hc
    have hb := isNone_eq h
    subst hb
    refine ⟨hy.none, ?_⟩
    rw [non_iff hx]
    exact flat_q e (.bl _) k
  · cases hc
/-- in: lists of any data, texts -/
def rInDD (K : PySem.W.Frag) : R2 := fun x y H Q => rInD K x y H Q ∨ (∃ i j, x = .str i ∧ y = .str j ∧ Q (.bl (!(Builtin.Str.occurrences j i 0 j.length 1).isEmpty)) H)
theorem op_inDD (hu : X.A.units + 65 < cLine) : OpR X (compareOp .In) (rInDD X.K) := (op_inD hu).or op_in_str
theorem in_list {F H : Hp} {x y : V} {a : D} {ds : List D} (e : Ex F H) (hx : Bw K F H x a) (hy : Bw K F H y (.list ds)) (h1 : SeqAt.shaped a = true) (h2 : SeqAt.shaped (.list ds) = true) : Dp K H x a ∧ Dp K H y (.list ds) :=
  ⟨da_dp _ _ (SeqAt.canLay_of_shaped h1) (hx.da e), da_dp _ _ (SeqAt.canLay_of_shaped h2) (hy.da e)⟩
theorem oIn_cases {a b c : D} (h : oIn a b = some c) : (∃ ds, b = .list ds ∧ SeqAt.shaped a = true ∧ SeqAt.shaped (.list ds) = true ∧ c = .bool (ds.any fun z => PyData.eqv z a)) ∨
    ∃ x y, a = .str x ∧ b = .str y ∧ c = .bool (!(Builtin.Str.occurrences y x 0 y.length 1).isEmpty) := by
  unfold oIn at h
  split at h
  · split at h
    · rename_i ds z
      cases h
      exact .inl ⟨_, rfl, z.1, z.2, rfl⟩
    · cases h
  · cases h; exact .inr ⟨_, _, rfl, rfl, rfl⟩
  · cases h
theorem rd_in : RdO K (rInDD K) oIn := fun F H x y a b c e hx hy hc Q k => by
  rcases oIn_cases hc with ⟨ds, rfl, h1, h2, rfl⟩ | ⟨i, j, rfl, rfl, rfl⟩
  · obtain ⟨d1, d2⟩ := in_list e hx hy h1 h2
    exact .inl ⟨a, ds, d1, d2, h1, h2, flat_q e (.bl _) k⟩
  · exact .inr ⟨i, j, hx.str, hy.str, flat_q e (.bl _) k⟩
def rNotInDD (K : PySem.W.Frag) : R2 := fun x y H Q => rNotInD K x y H Q ∨ (∃ i j, x = .str i ∧ y = .str j ∧ Q (.bl (!(!(Builtin.Str.occurrences j i 0 j.length 1).isEmpty))) H)
theorem op_notinDD (hu : X.A.units + 65 < cLine) : OpR X (compareOp .NotIn) (rNotInDD X.K) := (op_notInD hu).or op_notin_str
theorem oNotIn_cases {a b c : D} (h : oNotIn a b = some c) : (∃ ds, b = .list ds ∧ SeqAt.shaped a = true ∧ SeqAt.shaped (.list ds) = true ∧ c = .bool (!ds.any fun z => PyData.eqv z a)) ∨
    ∃ x y, a = .str x ∧ b = .str y ∧ c = .bool (!(!(Builtin.Str.occurrences y x 0 y.length 1).isEmpty)) := by
  unfold oNotIn at h
  split at h
  · split at h
    · rename_i ds z
      cases h
      exact .inl ⟨_, rfl, z.1, z.2, rfl⟩
    · cases h
  · cases h; exact .inr ⟨_, _, rfl, rfl, rfl⟩
  · cases h
theorem rd_notin : RdO K (rNotInDD K) oNotIn := fun F H x y a b c e hx hy hc Q k => by
  rcases oNotIn_cases hc with ⟨ds, rfl, h1, h2, rfl⟩ | ⟨i, j, rfl, rfl, rfl⟩
  · obtain ⟨d1, d2⟩ := in_list e hx hy h1 h2
    exact .inl ⟨a, ds, d1, d2, h1, h2, flat_q e (.bl _) k⟩
  · exact .inr ⟨i, j, hx.str, hy.str, flat_q e (.bl _) k⟩
/-- in, of a tuple of flat things -/
theorem flat_v {F : Hp} {x : V} {a : D} (h : Da K F x a) (f : flatD a = true) : flatV x = true := by cases h <;> first | rfl | (simp [flatD] at f)
theorem flat_eq {F : Hp} {x y : V} {a b : D} (h : Da K F x a) (h' : Da K F y b) (f : flatD a = true) (f' : flatD b = true) : eqV x y = PyData.eqv a b := by
  cases h <;> first | (simp [flatD] at f; done) | (cases h' <;> first | (simp [flatD] at f'; done) | (simp only [eqV, PyData.eqv]))
theorem flat_all {F : Hp} {vs : List V} {ds : List D} (h : DaAll K F vs ds) (f : ds.all flatD = true) : vs.all flatV = true := by
  induction ds generalizing vs with
  | nil => cases h; rfl
  | cons d ds ih =>
    cases h with
    | cons h1 h2 =>
      simp only [List.all_cons, Bool.and_eq_true] at f ⊢
      exact ⟨flat_v h1 f.1, ih h2 f.2⟩
theorem flat_any {F : Hp} {x : V} {a : D} {vs : List V} {ds : List D} (h : Da K F x a) (fa : flatD a = true) (q : DaAll K F vs ds) (f : ds.all flatD = true) : inV x vs = ds.any fun z => PyData.eqv z a := by
  induction ds generalizing vs with
  | nil => cases q; rfl
  | cons d ds ih =>
    cases q with
    | cons h1 h2 =>
      simp only [List.all_cons, Bool.and_eq_true] at f
      have := ih h2 f.2
      unfold inV at this ⊢
      simp only [List.any_cons, this, flat_eq h1 h f.1 fa]
theorem flat_da {F H : Hp} {x : V} {a : D} (h : Bw K F H x a) (f : flatD a = true) : Da K F x a := by
  cases h with
  | fr h => exact h
  | ow => simp [flatD] at f
  | od => simp [flatD] at f
theorem rd_inT : RdO K (rIn K false) oInT := fun F H x y a b c e hx hy hc Q k => by
  cases b <;> simp only [oInT] at hc <;> try (cases hc; done)
  split at hc
  · rename_i z
    cases hc
    obtain ⟨p, vs, rfl, h2, h3⟩ := hy.tuple e
    have hx' := flat_da hx z.1
    refine ⟨p, vs, rfl, .inr h2, flat_v hx' z.1, flat_all h3 z.2, ?_⟩
    rw [flat_any hx' z.1 h3 z.2]
    exact flat_q e (.bl _) k
  · cases hc
theorem rd_notinT : RdO K (rIn K true) oNotInT := fun F H x y a b c e hx hy hc Q k => by
  cases b <;> simp only [oNotInT] at hc <;> try (cases hc; done)
  split at hc
  · rename_i z
    cases hc
    obtain ⟨p, vs, rfl, h2, h3⟩ := hy.tuple e
    have hx' := flat_da hx z.1
    refine ⟨p, vs, rfl, .inr h2, flat_v hx' z.1, flat_all h3 z.2, ?_⟩
    rw [flat_any hx' z.1 h3 z.2]
    exact flat_q e (.bl _) k
  · cases hc
/-- x[i] -/
theorem ixD : IxR X (rIx X.K) := ix_list.or (ix_tup.or ix_str)
theorem atI_da {F : Hp} {vs : List V} {ds : List D} {i : Int} {d : D} (h : DaAll K F vs ds) (e : atI ds i = some d) : ∃ v, atI vs i = some v ∧ Da K F v d := by
  unfold atI at e ⊢
  rw [dpa_len h]
  cases z : ixN ds.length i with
  | none => rw [z] at e; cases e
  | some j =>
    rw [z] at e
    obtain ⟨v, e1, e2⟩ := dpa_get h (show ds[j]? = some d from e)
    exact ⟨v, e1, e2⟩
theorem rd_ix : RdO K (rIx K) oIx := fun F H x y a b c e hx hy hc Q k => by
  cases a <;> cases b <;> simp only [oIx] at hc <;> try (cases hc; done)
  · split at hc
    · rename_i z
      obtain ⟨w, h1, h2⟩ := Option.map_eq_some_iff.mp hc
      subst h2
      exact .inr (.inr ⟨_, _, w, hx.str, hy.int, Evl.sz_of z, h1, flat_q e (.str _) k⟩)
    · cases hc
  · obtain ⟨p, vs, rfl, h2, h3⟩ := hx.list e
    obtain ⟨v, e1, e2⟩ := atI_da h3 hc
    exact .inl ⟨p, vs, _, v, rfl, hy.int, Or.inl (Or.inl h2), e1, k F H (.refl e) v e2⟩
  · obtain ⟨p, vs, rfl, h2, h3⟩ := hx.tuple e
    obtain ⟨v, e1, e2⟩ := atI_da h3 hc
    exact .inr (.inl ⟨p, vs, _, v, rfl, hy.int, h2, e1, k F H (.refl e) v e2⟩)
end

/-! ### slices -/
def intD : D → Option Int
  | .int i => some i
  | _ => none
theorem intD_some {a : D} {i : Int} (h : intD a = some i) : a = .int i := by
  cases a <;> simp [intD] at h
  subst h; rfl
def tOD (K : PySem.W.Frag) (mg : Str → Option Value) (W : WX) (f : Env → R (Option Int)) : TO := fun σ H Q => ∃ F0 H0 F ρ, Rep K F0 H0 F H ρ σ ∧ ROk K mg (fun c d H' => W c d σ H') F H (fun b F' H' => Q b H') (f ρ)
structure DO (X : Cx) (W : WX) (e : Option Expr) (f : Env → R (Option Int)) : Prop where
  po : PO X e (tOD X.K X.mg W f)
def pNone : Env → R (Option Int) := fun _ => .ok none
def pSome (f : Env → R D) : Env → R (Option Int) := fun ρ => (f ρ).bind fun a => (ofO (intD a)).bind fun i => .ok (some i)
def cut {α : Type} (xs : List α) (lo hi : Option Int) : List α := (xs.drop (HT.sIx xs.length 0 lo)).take (HT.sIx xs.length xs.length hi - HT.sIx xs.length 0 lo)
/-- a row of the script's, not of a dict -/
def isScr : List (D × D) → Bool
  | (.none, _) :: _ => false
  | _ => true
def oSl : D → Option Int → Option Int → Option D
  | .list xs, lo, hi => some (.list (cut xs lo hi))
  | .tuple xs, lo, hi => some (.tuple (cut xs lo hi))
  | .str z, lo, hi => if z.length ≤ 100000 then some (.str (cutS z lo hi)) else none
  | .dict kvs, lo, hi => if isScr kvs = true then some (.list (cut (kvs.map (fun p => p.1)) lo hi)) else none
  | _, _, _ => none
def cSl (f : Env → R D) (lo hi : Env → R (Option Int)) : Env → R D := fun ρ => (f ρ).bind fun a => (lo ρ).bind fun l => (hi ρ).bind fun h => ofO (oSl a l h)
section
variable {X : Cx} {W : WX} {e e1 e2 e3 : Expr} {lo hi : Option Expr} {es : List Expr} {pos p2 : Pos} {f g h : Env → R D} {fl fh : Env → R (Option Int)}
theorem do_none : DO X W none pNone := ⟨⟨fun pins s σ H Q I ⟨F0, H0, F, ρ, r, k⟩ => po_none.run pins s σ H Q I (k F H (.refl r.g.in_))⟩⟩
theorem do_some (ha : DE X W e f) : DO X W (some e) (pSome f) := ⟨⟨fun pins s σ H Q I ⟨F0, H0, F, ρ, r, k⟩ => (po_some ha.pe).run pins s σ H Q I ⟨F0, H0, F, ρ, r, (ROk.step (r := f ρ) k).imp fun a F' H' _ gr z v hv => by
  obtain ⟨i, e, q⟩ := (ROk.step z).ofO
  have e' := intD_some e
  subst e'
  cases hv
  exact ⟨i, rfl, q F' H' (.refl gr.in_) F' H' (.refl gr.in_)⟩⟩⟩⟩
theorem slD : SlR X (fun x lo hi H Q => (rSlL X.K x lo hi H Q ∨ rSlA X.K x lo hi H Q) ∨ rSlS x lo hi H Q) := (sl_list.or sl_tupA).or sl_str
theorem cut_da {K : PySem.W.Frag} {F : Hp} {vs : List V} {ds : List D} (h : DaAll K F vs ds) (lo hi : Option Int) : DaAll K F (cutV vs lo hi) (cut ds lo hi) := by
  unfold cut cutV
  rw [dpa_len h]
  exact dpa_take _ (dpa_drop _ h)
theorem fst_ints (ns : List Int) : (ns.map fun n => (PyData.int n, PyData.none)).map (fun p => p.1) = ns.map PyData.int := by simp
theorem bw_scr {K : PySem.W.Frag} {F H : Hp} {x : V} {kvs : List (D × D)} (e : Ex F H) (g : isScr kvs = true) (h : Bw K F H x (.dict kvs)) : ∃ (a : Addr) (ns : List Int), x = V.ref a ∧ SqL K H a (ns.map V.int) ∧ kvs.map (fun p => p.1) = ns.map PyData.int := by
  cases h with
  | fr h =>
    cases h with
    | scr hs => exact ⟨_, _, rfl, ex_l e hs, fst_ints _⟩
    | dct _ _ q => rw [q] at g; cases g
  | od _ _ _ q => rw [q] at g; cases g
theorem rd_sl {K : PySem.W.Frag} {F H : Hp} {x : V} {a c : D} {l u : Option Int} {Q : VK} (e : Ex F H) (hx : Bw K F H x a) (hc : oSl a l u = some c) (k : ∀ F' H', Grow F H F' H' → ∀ v, Da K F' v c → Q v H') :
    (rSlL K x l u H Q ∨ rSlA K x l u H Q) ∨ rSlS x l u H Q := by
  cases a <;> simp only [oSl] at hc <;> try (cases hc; done)
  · split at hc
    · rename_i z
      cases hc
      exact .inr ⟨_, hx.str, Evl.sz_of z, flat_q e (.str _) k⟩
    · cases hc
  · cases hc
    obtain ⟨p, vs, rfl, h2, h3⟩ := hx.list e
    exact .inl (.inl ⟨p, vs, rfl, Or.inl (Or.inl h2), fun z hz => k _ _ (Grow.made e hz) _ (.lst upd_same (cut_da (h3.up (Ex.new (Evl.fresh_back e hz))) _ _))⟩)
  · cases hc
    obtain ⟨p, vs, rfl, h2, h3⟩ := hx.tuple e
    refine .inl (.inr ⟨p, vs, rfl, h2, fun w => ?_, fun _ z hz => k _ _ (Grow.made e hz) _ (.tup (Or.inl (Or.inl upd_same)) (cut_da (h3.up (Ex.new (Evl.fresh_back e hz))) _ _))⟩)
    have el := dpa_len h3
    rename_i xs
    have ec : cut xs l u = xs := by
      unfold cut
      rw [← el, w.1, w.2, List.drop_zero, Nat.sub_zero, el]
      exact List.take_length
    rw [ec] at k
    cases hx with
    | fr h => exact k F H (.refl e) _ h
  · split at hc
    · rename_i z
      cases hc
      obtain ⟨p, ns, rfl, h2, h3⟩ := bw_scr e z hx
      rw [h3] at k
      exact .inl (.inl ⟨p, _, rfl, h2, fun z hz => k _ _ (Grow.made e hz) _ (.lst upd_same (cut_da dpa_ints _ _))⟩)
    · cases hc
theorem de_sl (ha : DB X W e f) (hl : DO X W lo fl) (hh : DO X W hi fh) : DE X W (.Subscript e (.Slice lo hi none p2) pos) (cSl f fl fh) :=
  ⟨pe_imp (pe_slice slD ha.pe hl.po hh.po) fun σ H Q ⟨F0, H0, F, ρ, r, k⟩ => ⟨F0, H0, F, ρ, r, (ROk.step (r := f ρ) k).imp fun a F1 H1 _ g1 q1 x hx =>
    ⟨F0, H0, F1, ρ, r.grow g1, (ROk.step (r := fl ρ) q1).imp fun l F2 H2 _ g2 q2 => ⟨F0, H0, F2, ρ, (r.grow g1).grow g2, (ROk.step (r := fh ρ) q2).imp fun u F3 H3 _ g3 q3 => by
      obtain ⟨c, e, q⟩ := q3.ofO
      exact rd_sl g3.in_ ((hx.grow g2).grow g3) e fun F4 H4 g4 v hv => q F4 H4 g4 v hv⟩⟩⟩⟩

/-! ### built-ins called by name -/
/-- a call's reading on borrowed values does what o says -/
def RdC (K : PySem.W.Frag) (r : List V → Hp → VK → Prop) (o : List D → Option D) : Prop := ∀ (F H : Hp) (xs : List V) (as : List D) (c : D), Ex F H → BwAll K F H xs as → o as = some c → ∀ Q : VK, (∀ F' H', Grow F H F' H' → ∀ v, Da K F' v c → Q v H') → r xs H Q
def cBt (o : List D → Option D) (q : Env → R (List D)) : Env → R D := fun ρ => (q ρ).bind fun as => ofO (o as)
theorem de_callB {id : String} {x : Str} {p : Pos} {r : List V → Hp → VK → Prop} {o : List D → Option D} {q : Env → R (List D)} (hr : RdC X.K r o) (hc : CallR X (.builtin id) r) (hg : Gl X x) (hm : X.mg x = none) (hv : bootBuiltins x = some (.builtin id)) (ha : DAB X W (e :: es) q)
    (hn : x ≠ "__name__" := by decide) (hdb : (x == ("__debug__" : Str)) = false := by decide) (he : starEach (e :: es) X.env = (false, eval e X.env) :: starEach es X.env := by rfl) (hpl : (backTo pos (starEach es X.env)).any (·.1) = false := by rfl) :
    DE X W (.Call (.Name x p) (e :: es) [] pos) (cBt o q) :=
  ⟨pe_imp (pe_callB hc hg hm hv ha.pa hn hdb he hpl) fun σ H Q ⟨F0, H0, F, ρ, rp, k⟩ => ⟨F0, H0, F, ρ, rp, (ROk.step (r := q ρ) k).imp fun as F1 H1 _ g1 q1 vs hvs => by
    obtain ⟨c, e, z⟩ := q1.ofO
    exact hr F1 H1 vs as c g1.in_ hvs e Q fun F2 H2 g2 v hv => z F2 H2 g2 v hv⟩⟩
theorem de_callTy {T : String} {x : Str} {p : Pos} {r : List V → Hp → VK → Prop} {o : List D → Option D} {q : Env → R (List D)} (hr : RdC X.K r o) (hc : CallR X (.type T) r) (hg : Gl X x) (hm : X.mg x = none) (hv : bootBuiltins x = some (.type T)) (ha : DAB X W (e :: es) q)
    (hn : x ≠ "__name__" := by decide) (hdb : (x == ("__debug__" : Str)) = false := by decide) (he : starEach (e :: es) X.env = (false, eval e X.env) :: starEach es X.env := by rfl) (hpl : (backTo pos (starEach es X.env)).any (·.1) = false := by rfl) :
    DE X W (.Call (.Name x p) (e :: es) [] pos) (cBt o q) :=
  ⟨pe_imp (pe_callTy hc hg hm hv ha.pa hn hdb he hpl) fun σ H Q ⟨F0, H0, F, ρ, rp, k⟩ => ⟨F0, H0, F, ρ, rp, (ROk.step (r := q ρ) k).imp fun as F1 H1 _ g1 q1 vs hvs => by
    obtain ⟨c, e, z⟩ := q1.ofO
    exact hr F1 H1 vs as c g1.in_ hvs e Q fun F2 H2 g2 v hv => z F2 H2 g2 v hv⟩⟩
end
section
variable {X : Cx} {K : PySem.W.Frag}
def bLen : List D → Option D
  | [.list xs] => some (.int xs.length)
  | [.tuple xs] => some (.int xs.length)
  | [.str z] => if z.length ≤ 100000 then some (.int z.length) else none
  | _ => none
theorem bw1 {F H : Hp} {xs : List V} {a : D} (h : BwAll K F H xs [a]) : ∃ x, xs = [x] ∧ Bw K F H x a := by
  cases h with
  | cons h1 h2 => cases h2; exact ⟨_, rfl, h1⟩
theorem bw2 {F H : Hp} {xs : List V} {a b : D} (h : BwAll K F H xs [a, b]) : ∃ x y, xs = [x, y] ∧ Bw K F H x a ∧ Bw K F H y b := by
  cases h with
  | cons h1 h2 =>
    cases h2 with
    | cons h3 h4 => cases h4; exact ⟨_, _, rfl, h1, h3⟩
theorem rc_len : RdC K (fun xs H Q => ∃ x n, xs = [x] ∧ LenV K x H n ∧ Q (.int n) H) bLen := fun F H xs as c e hx hc Q k => by
  unfold bLen at hc
  split at hc
  · cases hc
    obtain ⟨x, rfl, b⟩ := bw1 hx
    obtain ⟨p, vs, rfl, h2, h3⟩ := b.list e
    refine ⟨_, vs.length, rfl, .inl ⟨vs, Or.inl (Or.inl h2), rfl⟩, ?_⟩
    rw [dpa_len h3]
    exact flat_q e (.int _) k
  · cases hc
    obtain ⟨x, rfl, b⟩ := bw1 hx
    obtain ⟨p, vs, rfl, h2, h3⟩ := b.tuple e
    refine ⟨_, vs.length, rfl, .inr ⟨vs, h2, rfl⟩, ?_⟩
    rw [dpa_len h3]
    exact flat_q e (.int _) k
  · split at hc
    · rename_i z hz
      cases hc
      obtain ⟨x, rfl, b⟩ := bw1 hx
      exact ⟨x, z.length, rfl, by rw [b.str]; exact ⟨Evl.sz_of hz, rfl⟩, flat_q e (.int _) k⟩
    · cases hc
  · cases hc
def bAbs : List D → Option D
  | [.int i] => some (.int (if i < 0 then -i else i))
  | _ => none
theorem rc_abs : RdC K (fun xs H Q => ∃ i, xs = [.int i] ∧ Q (.int (if i < 0 then -i else i)) H) bAbs := fun F H xs as c e hx hc Q k => by
  unfold bAbs at hc
  split at hc
  · cases hc
    obtain ⟨x, rfl, b⟩ := bw1 hx
    exact ⟨_, by rw [b.int], flat_q e (.int _) k⟩
  · cases hc
def bMax2 : List D → Option D
  | [.int i, .int j] => some (.int (if j > i then j else i))
  | _ => none
theorem rc_max2 : RdC K (fun xs H Q => ∃ i j, xs = [.int i, .int j] ∧ Q (.int (if j > i then j else i)) H) bMax2 := fun F H xs as c e hx hc Q k => by
  unfold bMax2 at hc
  split at hc
  · cases hc
    obtain ⟨x, y, rfl, b, b'⟩ := bw2 hx
    exact ⟨_, _, by rw [b.int, b'.int], flat_q e (.int _) k⟩
  · cases hc
def bMin2 : List D → Option D
  | [.int i, .int j] => some (.int (if j < i then j else i))
  | _ => none
theorem rc_min2 : RdC K (fun xs H Q => ∃ i j, xs = [.int i, .int j] ∧ Q (.int (if j < i then j else i)) H) bMin2 := fun F H xs as c e hx hc Q k => by
  unfold bMin2 at hc
  split at hc
  · cases hc
    obtain ⟨x, y, rfl, b, b'⟩ := bw2 hx
    exact ⟨_, _, by rw [b.int, b'.int], flat_q e (.int _) k⟩
  · cases hc
def bInt : List D → Option D
  | [.int i] => some (.int i)
  | [.bool b] => some (.int (if b then 1 else 0))
  | [.str s] => if s.length ≤ 640 then (PySem.intText? s).map fun n => .int n else none
  | _ => none
theorem call_intD : CallR X (.type "int") (fun xs H Q => ((∃ i, xs = [.int i] ∧ Q (.int i) H) ∨ ∃ k, xs = [.bl k] ∧ Q (.int (if k then 1 else 0)) H) ∨ ∃ a n, xs = [.str a] ∧ PySem.intText? a = some n ∧ a.length ≤ 640 ∧ Q (.int n) H) := by
  refine CallR.or call_int1 ?_
  intro pins
  intro s σ H xs us Q I r h
  obtain ⟨a, n, rfl, h1, h2, q⟩ := h
  exact call_int_str pins s σ H _ us Q I r ⟨a, n, rfl, h1, h2, q⟩
theorem rc_int : RdC K (fun xs H Q => ((∃ i, xs = [.int i] ∧ Q (.int i) H) ∨ ∃ k, xs = [.bl k] ∧ Q (.int (if k then 1 else 0)) H) ∨ ∃ a n, xs = [.str a] ∧ PySem.intText? a = some n ∧ a.length ≤ 640 ∧ Q (.int n) H) bInt := fun F H xs as c e hx hc Q k => by
  unfold bInt at hc
  split at hc
  · cases hc
    obtain ⟨x, rfl, b⟩ := bw1 hx
    exact .inl (.inl ⟨_, by rw [b.int], flat_q e (.int _) k⟩)
  · cases hc
    obtain ⟨x, rfl, b⟩ := bw1 hx
    exact .inl (.inr ⟨_, by rw [b.bool], flat_q e (.int _) k⟩)
  · split at hc
    · rename_i hz
      obtain ⟨n, h1, h2⟩ := Option.map_eq_some_iff.mp hc
      subst h2
      obtain ⟨x, rfl, b⟩ := bw1 hx
      exact .inr ⟨_, n, by rw [b.str], h1, hz, flat_q e (.int _) k⟩
    · cases hc
  · cases hc
def bStr : List D → Option D
  | [.int i] => if i.natAbs.log2 < 1920 then some (.str (toString i)) else none
  | _ => none
theorem rc_str : RdC K (fun xs H Q => ∃ i, xs = [.int i] ∧ i.natAbs.log2 < 1920 ∧ Q (.str (toString i)) H) bStr := fun F H xs as c e hx hc Q k => by
  unfold bStr at hc
  split at hc
  · split at hc
    · rename_i hz
      cases hc
      obtain ⟨x, rfl, b⟩ := bw1 hx
      exact ⟨_, by rw [b.int], hz, flat_q e (.str _) k⟩
    · cases hc
  · cases hc
def bTuple : List D → Option D
  | [.list xs] => some (.tuple xs)
  | [.tuple xs] => some (.tuple xs)
  | _ => none
theorem rc_tuple : RdC K (fun xs H Q => ∃ p ys, xs = [.ref p] ∧ ((SqL K H p ys ∧ ∀ l, H l = none → Q (.ref l) (upd H l (.tup ys))) ∨ (SqT K H p ys ∧ Q (.ref p) H))) bTuple := fun F H xs as c e hx hc Q k => by
  unfold bTuple at hc
  split at hc
  · cases hc
    obtain ⟨x, rfl, b⟩ := bw1 hx
    obtain ⟨p, vs, rfl, h2, h3⟩ := b.list e
    exact ⟨p, vs, rfl, .inl ⟨Or.inl (Or.inl h2), fun z hz => k _ _ (Grow.made e hz) _ (.tup (Or.inl (Or.inl upd_same)) (h3.up (Ex.new (Evl.fresh_back e hz))))⟩⟩
  · cases hc
    obtain ⟨x, rfl, b⟩ := bw1 hx
    obtain ⟨p, vs, rfl, h2, h3⟩ := b.tuple e
    cases b with
    | fr h => exact ⟨p, vs, rfl, .inr ⟨h2, k F H (.refl e) _ h⟩⟩
  · cases hc
def bList : List D → Option D
  | [.list xs] => some (.list xs)
  | [.tuple xs] => some (.list xs)
  | _ => none
theorem rc_list : RdC K (fun xs H Q => ∃ p ys, xs = [.ref p] ∧ (SqL K H p ys ∨ SqT K H p ys) ∧ ∀ l, H l = none → Q (.ref l) (upd H l (.lst ys))) bList := fun F H xs as c e hx hc Q k => by
  unfold bList at hc
  split at hc
  · cases hc
    obtain ⟨x, rfl, b⟩ := bw1 hx
    obtain ⟨p, vs, rfl, h2, h3⟩ := b.list e
    exact ⟨p, vs, rfl, .inl (Or.inl (Or.inl h2)), fun z hz => k _ _ (Grow.made e hz) _ (.lst upd_same (h3.up (Ex.new (Evl.fresh_back e hz))))⟩
  · cases hc
    obtain ⟨x, rfl, b⟩ := bw1 hx
    obtain ⟨p, vs, rfl, h2, h3⟩ := b.tuple e
    exact ⟨p, vs, rfl, .inr h2, fun z hz => k _ _ (Grow.made e hz) _ (.lst upd_same (h3.up (Ex.new (Evl.fresh_back e hz))))⟩
  · cases hc
/-- rows of ints, of bools -/
def intsD : List D → Option (List Int)
  | [] => some []
  | .int i :: r => (intsD r).map (i :: ·)
  | _ => none
theorem intsD_some : ∀ {ds : List D} {ns : List Int}, intsD ds = some ns → ds = ns.map PyData.int
  | [], ns, h => by simp [intsD] at h; subst h; rfl
  | d :: ds, ns, h => by
    cases d <;> simp only [intsD] at h <;> try (cases h; done)
    obtain ⟨m, h1, h2⟩ := Option.map_eq_some_iff.mp h
    subst h2
    rw [List.map_cons, ← intsD_some h1]
theorem intsD_map : ∀ ns : List Int, intsD (ns.map PyData.int) = some ns
  | [] => rfl
  | n :: ns => by simp [intsD, intsD_map ns]
def blsD : List D → Option (List Bool)
  | [] => some []
  | .bool i :: r => (blsD r).map (i :: ·)
  | _ => none
theorem blsD_some : ∀ {ds : List D} {ns : List Bool}, blsD ds = some ns → ds = ns.map PyData.bool
  | [], ns, h => by simp [blsD] at h; subst h; rfl
  | d :: ds, ns, h => by
    cases d <;> simp only [blsD] at h <;> try (cases h; done)
    obtain ⟨m, h1, h2⟩ := Option.map_eq_some_iff.mp h
    subst h2
    rw [List.map_cons, ← blsD_some h1]
theorem blsD_map : ∀ ns : List Bool, blsD (ns.map PyData.bool) = some ns
  | [] => rfl
  | n :: ns => by simp [blsD, blsD_map ns]
def bSum : List D → Option D
  | [.list xs] => (intsD xs).map fun ns => .int ns.sum
  | _ => none
theorem rc_sum : RdC K (rSum K) bSum := fun F H xs as c e hx hc Q k => by
  unfold bSum at hc
  split at hc
  · obtain ⟨ns, h1, h2⟩ := Option.map_eq_some_iff.mp hc
    subst h2
    obtain ⟨x, rfl, b⟩ := bw1 hx
    obtain ⟨p, vs, rfl, h2, h3⟩ := b.list e
    rw [intsD_some h1] at h3
    have e3 := dpa_toInts h3
    subst e3
    exact ⟨p, ns, rfl, Or.inl (Or.inl h2), flat_q e (.int _) k⟩
  · cases hc
def bAll : List D → Option D
  | [.list xs] => (blsD xs).map fun ns => .bool (ns.all id)
  | _ => none
theorem rc_all : RdC K (rAll K) bAll := fun F H xs as c e hx hc Q k => by
  unfold bAll at hc
  split at hc
  · obtain ⟨ns, h1, h2⟩ := Option.map_eq_some_iff.mp hc
    subst h2
    obtain ⟨x, rfl, b⟩ := bw1 hx
    obtain ⟨p, vs, rfl, h2, h3⟩ := b.list e
    rw [blsD_some h1] at h3
    have e3 := dpa_toBls h3
    subst e3
    exact ⟨p, ns, rfl, Or.inl (Or.inl h2), flat_q e (.bl _) k⟩
  · cases hc
def bAny : List D → Option D
  | [.list xs] => (blsD xs).map fun ns => .bool (ns.any id)
  | _ => none
theorem rc_any : RdC K (rAny K) bAny := fun F H xs as c e hx hc Q k => by
  unfold bAny at hc
  split at hc
  · obtain ⟨ns, h1, h2⟩ := Option.map_eq_some_iff.mp hc
    subst h2
    obtain ⟨x, rfl, b⟩ := bw1 hx
    obtain ⟨p, vs, rfl, h2, h3⟩ := b.list e
    rw [blsD_some h1] at h3
    have e3 := dpa_toBls h3
    subst e3
    exact ⟨p, ns, rfl, Or.inl (Or.inl h2), flat_q e (.bl _) k⟩
  · cases hc
/-! isinstance of a built-in class -/
def tyN : D → String
  | .none => "NoneType"
  | .bool _ => "bool"
  | .int _ => "int"
  | .str _ => "str"
  | .list _ => "list"
  | .tuple _ => "tuple"
  | .dict r => if isScr r = true then "list" else "dict"
theorem tyX_of {F H : Hp} {x : V} {a : D} (e : Ex F H) (h : Bw K F H x a) : TyX K H x (.type (tyN a)) := by
  have lst : ∀ {p : Addr} {vs : List V}, SqL K H p vs → TyX K H (.ref p) (.type "list") := fun {p vs} h => by
    rcases h with (h | ⟨o, h⟩) | ⟨o, its, n, h1, h2, _⟩
    · exact .base (.lst h)
    · exact .base (.frz h)
    · exact .kList h1 h2
  cases h with
  | fr h =>
    cases h with
    | non => exact .base .non
    | bl b => exact .base (.bl b)
    | int b => exact .base (.int b)
    | str b => exact .base (.str b)
    | lst hs _ => exact lst (Or.inl (Or.inl (e _ _ hs)))
    | tup hs _ =>
      rcases ex_t e hs with (h | ⟨o, h⟩) | ⟨o, its, n, h1, h2, _⟩
      · exact .base (.tup h)
      · exact .fTuple h
      · exact .kTuple h1 h2
    | scr hs =>
      rename_i a ns
      have g : isScr (ns.map fun n => (PyData.int n, PyData.none)) = true := by cases ns <;> rfl
      rw [show tyN (.dict (ns.map fun n => (PyData.int n, PyData.none))) = "list" by simp only [tyN, g, if_true]]
      exact lst (ex_l e hs)
    | dct hs _ q =>
      subst q
      exact .base (.dK (e _ _ hs))
  | ow h n a => exact lst (Or.inl (Or.inl h))
  | od h n a q =>
    subst q
    exact .base (.dK h)
def isIntD : D → Bool
  | .int _ => true
  | .bool _ => true
  | _ => false
def isBoolD : D → Bool
  | .bool _ => true
  | _ => false
def isStrD : D → Bool
  | .str _ => true
  | _ => false
def isTupleD : D → Bool
  | .tuple _ => true
  | _ => false
def isListD : D → Bool
  | .list _ => true
  | .dict r => isScr r
  | _ => false
structure IsTy (T : String) (p : D → Bool) : Prop where
  hv : bootBuiltins (Str.ofString T) = some (.type T)
  hp : ∀ d : D, kitB (tyN d) T = some (p d)
theorem is_int : IsTy "int" isIntD := ⟨by decide +kernel, fun d => by cases d <;> simp only [tyN, isIntD] <;> first | decide +kernel | (rename_i r; cases isScr r <;> decide +kernel)⟩
theorem is_bool : IsTy "bool" isBoolD := ⟨by decide +kernel, fun d => by cases d <;> simp only [tyN, isBoolD] <;> first | decide +kernel | (rename_i r; cases isScr r <;> decide +kernel)⟩
theorem is_str : IsTy "str" isStrD := ⟨by decide +kernel, fun d => by cases d <;> simp only [tyN, isStrD] <;> first | decide +kernel | (rename_i r; cases isScr r <;> decide +kernel)⟩
theorem is_tuple : IsTy "tuple" isTupleD := ⟨by decide +kernel, fun d => by cases d <;> simp only [tyN, isTupleD] <;> first | decide +kernel | (rename_i r; cases isScr r <;> decide +kernel)⟩
theorem is_list : IsTy "list" isListD := ⟨by decide +kernel, fun d => by cases d <;> simp only [tyN, isListD] <;> first | decide +kernel | (rename_i r; cases isScr r <;> decide +kernel)⟩
def cIs (p : D → Bool) (f : Env → R D) : Env → R D := fun ρ => (f ρ).bind fun a => .ok (.bool (p a))
theorem de_isinst {W : WX} {T : String} {pr : D → Bool} {e : Expr} {f : Env → R D} {p p2 pos : Pos} (t : IsTy T pr) (hg : Gl X "isinstance") (hm : X.mg "isinstance" = none) (hg2 : Gl X (Str.ofString T)) (hm2 : X.mg (Str.ofString T) = none) (ha : DB X W e f)
    (hn : Str.ofString T ≠ "__name__" := by decide) (hdb : (Str.ofString T == ("__debug__" : Str)) = false := by decide)
    (he : starEach [e, .Name (Str.ofString T) p2] X.env = (false, eval e X.env) :: starEach [.Name (Str.ofString T) p2] X.env := by rfl) (hpl : (backTo pos (starEach [.Name (Str.ofString T) p2] X.env)).any (·.1) = false := by rfl) :
    DE X W (.Call (.Name "isinstance" p) [e, .Name (Str.ofString T) p2] [] pos) (cIs pr f) := by
  have pt : PE X (.Name (Str.ofString T) p2) (tC (.ty T)) := pe_bltn hg2 hm2 t.hv rfl hn hdb
  exact ⟨pe_imp (pe_callB call_isi hg hm PyProof.Rows.boot_isinstance (pa_cons ha.pe (pa_cons pt pa_nil) he) (by decide) (by decide) he hpl) fun σ H Q ⟨F0, H0, F, ρ, r, k⟩ => ⟨F0, H0, F, ρ, r, (ROk.step (r := f ρ) k).imp fun a F1 H1 _ g1 q1 x hx =>
    ⟨x, .ty T, .type (tyN a), .type T, pr a, rfl, .ty T, tyX_of g1.in_ hx, kit_ty (t.hp a), q1 F1 H1 (.refl g1.in_) _ (.bl _)⟩⟩⟩
end
end DL

/-! DLd -/
namespace DL
open PySem L2 PySem.Spec PyProof.Rows
open Evl (Ex ex_l ex_t ex_rd)

/-! ### expressions for slots: frozen data, or a list of the frame's own -/
def SVal (K : PySem.W.Frag) (H F' H' : Hp) (v : V) : SV → Prop
  | .no => False
  | .val d => Da K F' v d
  | .own ds => ∃ p vs, v = .ref p ∧ H p = none ∧ F' p = none ∧ H' p = some (.lst vs) ∧ DaAll K F' vs ds
  | .dic ds => ∃ p vs, v = .ref p ∧ H p = none ∧ F' p = none ∧ H' p = some (.dK vs) ∧ DKs K F' vs ds
def tX (K : PySem.W.Frag) (mg : Str → Option Value) (W : WX) (f : Env → R SV) : TE := fun σ H Q => ∃ F0 H0 F ρ, Rep K F0 H0 F H ρ σ ∧ ROk K mg (fun c d H' => W c d σ H') F H (fun a F' H' => ∀ v, SVal K H F' H' v a → Q v H') (f ρ)
structure DX (X : Cx) (W : WX) (e : Expr) (f : Env → R SV) : Prop where
  pe : PE X e (tX X.K X.mg W f)
def asVal (f : Env → R D) : Env → R SV := fun ρ => (f ρ).bind fun d => .ok (.val d)
def asOwn (f : Env → R (List D)) : Env → R SV := fun ρ => (f ρ).bind fun d => .ok (.own d)
theorem map_ok {α β : Type} {K : PySem.W.Frag} {mg : Str → Option Value} {W : XK} {F H : Hp} {P : β → Hp → Hp → Prop} {r : R α} {k : α → β} (h : ROk K mg W F H P (r.bind fun a => .ok (k a))) : ROk K mg W F H (fun a F' H' => P (k a) F' H') r := by
  cases r with
  | ok a => exact h
  | exc x => exact h
  | bad => exact h
section
variable {X : Cx} {W : WX} {e e1 e2 e3 : Expr} {es : List Expr} {pos : Pos} {f g h : Env → R D}
theorem DE.x (q : DE X W e f) : DX X W e (asVal f) := ⟨pe_imp q.pe fun σ H Q ⟨F0, H0, F, ρ, r, k⟩ => ⟨F0, H0, F, ρ, r, (map_ok (k := fun d => SV.val d) k).imp fun d F' H' _ _ z v hv => z v hv⟩⟩
theorem DN.x {f : Env → R (List D)} (q : DN X W e f) : DX X W e (asOwn f) := ⟨pe_imp q.pe fun σ H Q ⟨F0, H0, F, ρ, r, k⟩ => ⟨F0, H0, F, ρ, r, (map_ok (k := fun d => SV.own d) k).imp fun d F' H' _ _ z p vs h1 h2 h3 h4 => z _ ⟨p, vs, rfl, h1, h2, h3, h4⟩⟩⟩
end
section
variable {K : PySem.W.Frag} {F0 H0 F H F' H' : Hp} {ρ : Env} {σ : L2.St} {v : V} {sv : SV}
theorem lset_get {α : Type} {l : List α} {i j : Nat} {a b : α} (h : (l.set i a)[j]? = some b) : (i = j ∧ b = a) ∨ (i ≠ j ∧ l[j]? = some b) := by
  rw [List.getElem?_set] at h
  split at h
  · split at h
    · exact .inl ⟨by assumption, (Option.some.inj h).symm⟩
    · cases h
  · exact .inr ⟨by assumption, h⟩
theorem lset_lt {α : Type} {l : List α} {i : Nat} {a b : α} (h : (l.set i a)[i]? = some b) : i < l.length := by
  have := (List.getElem?_eq_some_iff.mp h).1
  rw [List.length_set] at this
  exact this
theorem Rep.setSV (r : Rep K F0 H0 F H ρ σ) (g : Grow F H F' H') (hv : SVal K H F' H' v sv) (i : Nat) : Rep K F0 H0 F' H' (ρ.set i sv) (σ.set i (some v)) := by
  have r' := r.grow g
  have at_i : ∀ {b : SV}, (ρ.set i sv)[i]? = some b → (σ.set i (some v))[i]? = some (some v) := fun h => by
    have := lset_lt h
    rw [List.getElem?_set_self (by rw [← r.len]; exact this)]
  have off : ∀ {j : Nat}, i ≠ j → (σ.set i (some v))[j]? = σ[j]? := fun h => List.getElem?_set_ne h
  refine ⟨r'.g, by simp [r'.len], fun j d e => ?_, fun j ds e => ?_, fun j k ds es p ne e1 e2 e3 e4 => ?_, fun j ds e => ?_, fun j k ds es p ne e1 e2 e3 e4 => ?_⟩
  · rcases lset_get e with ⟨rfl, e'⟩ | ⟨ne, e'⟩
    · subst e'
      exact ⟨v, at_i e, hv⟩
    · rw [off ne]
      exact r'.val j d e'
  · rcases lset_get e with ⟨rfl, e'⟩ | ⟨ne, e'⟩
    · subst e'
      obtain ⟨p, vs, rfl, h1, h2, h3, h4⟩ := hv
      exact ⟨p, vs, at_i e, Evl.fresh_back r.g.h h1, h2, h3, h4⟩
    · rw [off ne]
      exact r'.own j ds e'
  · have sep : ∀ {a b : Nat} {xs ys : List D}, i = a → i ≠ b → (ρ.set i sv)[a]? = some (.own xs) → ρ[b]? = some (.own ys) → (σ.set i (some v))[a]? = some (some (.ref p)) → σ[b]? = some (some (.ref p)) → False := fun {a b xs ys} ea nb q1 q2 q3 q4 => by
      subst ea
      rcases lset_get q1 with ⟨_, z⟩ | ⟨ne, _⟩
      · subst z
        obtain ⟨p', vs, rfl, h1, h2, h3, h4⟩ := hv
        rw [at_i q1] at q3
        have : p' = p := by injection (Option.some.inj q3) with q5; injection q5
        subst this
        obtain ⟨q, vs', e5, _, _, e6, _⟩ := r.own b ys q2
        rw [q4] at e5
        have : p' = q := by injection (Option.some.inj e5) with q5; injection q5
        subst this
        rw [h1] at e6; cases e6
      · exact ne rfl
    rcases lset_get e1 with ⟨h1, z1⟩ | ⟨h1, z1⟩
    · rcases lset_get e2 with ⟨h2, z2⟩ | ⟨h2, z2⟩
      · exact ne (h1.symm.trans h2)
      · rw [off h2] at e4
        exact sep h1 h2 e1 z2 e3 e4
    · rcases lset_get e2 with ⟨h2, z2⟩ | ⟨h2, z2⟩
      · rw [off h1] at e3
        exact sep h2 h1 e2 z1 e4 e3
      · rw [off h1] at e3
        rw [off h2] at e4
        exact r'.inj j k ds es p ne z1 z2 e3 e4
  · rcases lset_get e with ⟨rfl, e'⟩ | ⟨ne, e'⟩
    · subst e'
      obtain ⟨p, vs, rfl, h1, h2, h3, h4⟩ := hv
      exact ⟨p, vs, at_i e, Evl.fresh_back r.g.h h1, h2, h3, h4⟩
    · rw [off ne]
      exact r'.dic j ds e'
  · have sep : ∀ {a b : Nat} {xs ys : List (Key × D)}, i = a → i ≠ b → (ρ.set i sv)[a]? = some (.dic xs) → ρ[b]? = some (.dic ys) → (σ.set i (some v))[a]? = some (some (.ref p)) → σ[b]? = some (some (.ref p)) → False := fun {a b xs ys} ea nb q1 q2 q3 q4 => by
      subst ea
      rcases lset_get q1 with ⟨_, z⟩ | ⟨ne, _⟩
      · subst z
        obtain ⟨p', vs, rfl, h1, h2, h3, h4⟩ := hv
        rw [at_i q1] at q3
        have : p' = p := by injection (Option.some.inj q3) with q5; injection q5
        subst this
        obtain ⟨q, vs', e5, _, _, e6, _⟩ := r.dic b ys q2
        rw [q4] at e5
        have : p' = q := by injection (Option.some.inj e5) with q5; injection q5
        subst this
        rw [h1] at e6; cases e6
      · exact ne rfl
    rcases lset_get e1 with ⟨h1, z1⟩ | ⟨h1, z1⟩
    · rcases lset_get e2 with ⟨h2, z2⟩ | ⟨h2, z2⟩
      · exact ne (h1.symm.trans h2)
      · rw [off h2] at e4
        exact sep h1 h2 e1 z2 e3 e4
    · rcases lset_get e2 with ⟨h2, z2⟩ | ⟨h2, z2⟩
      · rw [off h1] at e3
        exact sep h2 h1 e2 z1 e4 e3
      · rw [off h1] at e3
        rw [off h2] at e4
        exact r'.injd j k ds es p ne z1 z2 e3 e4
theorem Rep.setVal {d : D} (r : Rep K F0 H0 F H ρ σ) (hv : Da K F v d) (i : Nat) : Rep K F0 H0 F H (ρ.set i (.val d)) (σ.set i (some v)) := r.setSV (.refl r.g.in_) (sv := .val d) hv i
/-- a slot forgotten -/
theorem Rep.drop (r : Rep K F0 H0 F H ρ σ) (i : Nat) (x : Option V) : Rep K F0 H0 F H (ρ.set i .no) (σ.set i x) := by
  have off : ∀ {j : Nat}, i ≠ j → (σ.set i x)[j]? = σ[j]? := fun h => List.getElem?_set_ne h
  refine ⟨r.g, by simp [r.len], fun j d e => ?_, fun j ds e => ?_, fun j k ds es p ne e1 e2 e3 e4 => ?_, fun j ds e => ?_, fun j k ds es p ne e1 e2 e3 e4 => ?_⟩
  · rcases lset_get e with ⟨rfl, e'⟩ | ⟨ne, e'⟩
    · cases e'
    · rw [off ne]; exact r.val j d e'
  · rcases lset_get e with ⟨rfl, e'⟩ | ⟨ne, e'⟩
    · cases e'
    · rw [off ne]; exact r.own j ds e'
  · rcases lset_get e1 with ⟨_, z⟩ | ⟨h1, z1⟩
    · cases z
    · rcases lset_get e2 with ⟨_, z⟩ | ⟨h2, z2⟩
      · cases z
      · rw [off h1] at e3
        rw [off h2] at e4
        exact r.inj j k ds es p ne z1 z2 e3 e4
  · rcases lset_get e with ⟨rfl, e'⟩ | ⟨ne, e'⟩
    · cases e'
    · rw [off ne]; exact r.dic j ds e'
  · rcases lset_get e1 with ⟨_, z⟩ | ⟨h1, z1⟩
    · cases z
    · rcases lset_get e2 with ⟨_, z⟩ | ⟨h2, z2⟩
      · cases z
      · rw [off h1] at e3
        rw [off h2] at e4
        exact r.injd j k ds es p ne z1 z2 e3 e4
/-- an own list, from now on frozen -/
def frz (i : Nat) (ρ : Env) : Env := match ρ[i]? with
  | some (.own ds) => ρ.set i (.val (.list ds))
  | some (.dic ds) => ρ.set i (.val (dcD ds))
  | _ => ρ
theorem lset_id {α : Type} {l : List α} {i : Nat} {a : α} (h : l[i]? = some a) : l.set i a = l := by
  apply List.ext_getElem?
  intro j
  rw [List.getElem?_set]
  split
  · rename_i e
    subst e
    have := (List.getElem?_eq_some_iff.mp h).1
    rw [if_pos this, h]
  · rfl
theorem Rep.frz (r : Rep K F0 H0 F H ρ σ) (i : Nat) : ∃ F', Ex F F' ∧ Rep K F0 H0 F' H (frz i ρ) σ := by
  unfold DL.frz
  split
  · rename_i ds e
    obtain ⟨p, vs, e1, e2, e3, e4, e5⟩ := r.own i ds e
    have fz := Grow.freeze r.g.in_ e4 e3
    have up : Rep K F0 H0 (upd F p (.lst vs)) H (ρ.set i .no) σ := by
      have r1 := r.drop i (some (.ref p))
      rw [lset_id e1] at r1
      refine ⟨⟨r1.g.f.trans fz.1, r1.g.h, fz.2, fun a o q n => ?_⟩, r1.len, fun j d q => ?_, fun j es q => ?_, r1.inj, fun j es q => ?_, r1.injd⟩
      · by_cases y : a = p
        · subst y; exact e2
        · rw [upd_ne y] at q; exact r.g.new a o q n
      · obtain ⟨v, q1, q2⟩ := r1.val j d q
        exact ⟨v, q1, q2.up fz.1⟩
      · obtain ⟨p', vs', q1, q2, q3, q4, q5⟩ := r1.own j es q
        have ne : i ≠ j := fun z => by
          subst z
          rcases lset_get q with ⟨_, z⟩ | ⟨z, _⟩
          · cases z
          · exact z rfl
        have pne : p' ≠ p := fun z => by
          subst z
          rcases lset_get q with ⟨z, _⟩ | ⟨_, z⟩
          · exact ne z
          · exact r.inj i j ds es p' ne e z e1 q1
        exact ⟨p', vs', q1, q2, by rw [upd_ne pne]; exact q3, q4, q5.up fz.1⟩
      · obtain ⟨p', vs', q1, q2, q3, q4, q5⟩ := r1.dic j es q
        have pne : p' ≠ p := fun z => by
          subst z
          rw [e4] at q4
          cases q4
        exact ⟨p', vs', q1, q2, by rw [upd_ne pne]; exact q3, q4, q5.up fz.1⟩
    refine ⟨_, fz.1, ?_⟩
    have z := up.setVal (v := .ref p) (d := .list ds) (.lst upd_same (e5.up fz.1)) i
    rw [List.set_set, lset_id e1] at z
    exact z
  · rename_i ds e
    obtain ⟨p, vs, e1, e2, e3, e4, e5⟩ := r.dic i ds e
    have fz := Grow.freeze r.g.in_ e4 e3
    have up : Rep K F0 H0 (upd F p (.dK vs)) H (ρ.set i .no) σ := by
      have r1 := r.drop i (some (.ref p))
      rw [lset_id e1] at r1
      refine ⟨⟨r1.g.f.trans fz.1, r1.g.h, fz.2, fun a o q n => ?_⟩, r1.len, fun j d q => ?_, fun j es q => ?_, r1.inj, fun j es q => ?_, r1.injd⟩
      · by_cases y : a = p
        · subst y; exact e2
        · rw [upd_ne y] at q; exact r.g.new a o q n
      · obtain ⟨v, q1, q2⟩ := r1.val j d q
        exact ⟨v, q1, q2.up fz.1⟩
      · obtain ⟨p', vs', q1, q2, q3, q4, q5⟩ := r1.own j es q
        have pne : p' ≠ p := fun z => by
          subst z
          rw [e4] at q4
          cases q4
        exact ⟨p', vs', q1, q2, by rw [upd_ne pne]; exact q3, q4, q5.up fz.1⟩
      · obtain ⟨p', vs', q1, q2, q3, q4, q5⟩ := r1.dic j es q
        have ne : i ≠ j := fun z => by
          subst z
          rcases lset_get q with ⟨_, z⟩ | ⟨z, _⟩
          · cases z
          · exact z rfl
        have pne : p' ≠ p := fun z => by
          subst z
          rcases lset_get q with ⟨z, _⟩ | ⟨_, z⟩
          · exact ne z
          · exact r.injd i j ds es p' ne e z e1 q1
        exact ⟨p', vs', q1, q2, by rw [upd_ne pne]; exact q3, q4, q5.up fz.1⟩
    refine ⟨_, fz.1, ?_⟩
    have z := up.setVal (v := .ref p) (d := dcD ds) (.dct upd_same (e5.up fz.1) rfl) i
    rw [List.set_set, lset_id e1] at z
    exact z
  · exact ⟨F, .refl F, r⟩
end

/-! ### targets -/
def Out2 (σ σ' : L2.St) (ts : List Nat) : Prop := σ'.length = σ.length ∧ ∀ j, j ∉ ts → σ'[j]? = σ[j]?
def tG (K : PySem.W.Frag) (ts : List Nat) (s : D → Env → Option Env) : TG := fun v σ H Q => ∃ F0 H0 F ρ d ρ', Rep K F0 H0 F H ρ σ ∧ Da K F v d ∧ s d ρ = some ρ' ∧ ∀ σ', Rep K F0 H0 F H ρ' σ' → Out2 σ σ' ts → Q σ' H
def tGs (K : PySem.W.Frag) (ts : List Nat) (s : List D → Env → Option Env) : TGs := fun vs σ H Q => ∃ F0 H0 F ρ ds ρ', Rep K F0 H0 F H ρ σ ∧ DaAll K F vs ds ∧ s ds ρ = some ρ' ∧ ∀ σ', Rep K F0 H0 F H ρ' σ' → Out2 σ σ' ts → Q σ' H
structure DG (X : Cx) (ts : List Nat) (tg : Expr) (s : D → Env → Option Env) : Prop where
  pg : PG X tg (tG X.K ts s)
structure DGs (X : Cx) (ts : List Nat) (tgs : List Expr) (s : List D → Env → Option Env) : Prop where
  pgs : PGs X tgs (tGs X.K ts s)
theorem pg_imp {X : Cx} {e : Expr} {t t' : TG} (q : PG X e t) (i : ∀ v σ H Q, t' v σ H Q → t v σ H Q) : PG X e t' := ⟨fun pins s σ H v u Q I r z => q.run pins s σ H v u Q I r (i v σ H Q z)⟩
theorem pgs_imp {X : Cx} {es : List Expr} {t t' : TGs} (q : PGs X es t) (i : ∀ v σ H Q, t' v σ H Q → t v σ H Q) : PGs X es t' := ⟨fun pins s σ H v u Q I r z => q.run pins s σ H v u Q I r (i v σ H Q z)⟩
def sName (i : Nat) : D → Env → Option Env := fun d ρ => some (ρ.set i (.val d))
def sNil : List D → Env → Option Env := fun ds ρ => match ds with
  | [] => some ρ
  | _ => none
def sCons (s : D → Env → Option Env) (q : List D → Env → Option Env) : List D → Env → Option Env := fun ds ρ => match ds with
  | d :: r => (s d ρ).bind fun ρ' => q r ρ'
  | [] => none
def sTup (q : List D → Env → Option Env) : D → Env → Option Env := fun d ρ => match d with
  | .tuple ds => q ds ρ
  | _ => none
section
variable {X : Cx} {pos : Pos}
theorem out2_set (σ : L2.St) (i : Nat) (x : Option V) : Out2 σ (σ.set i x) [i] := ⟨List.length_set, fun j hj => List.getElem?_set_ne fun e => hj (by simp [e])⟩
theorem dg_name {i : Nat} {x : Str} (hN : X.N.Nodup) (hi : X.N[i]? = some x) (hx : Loc X.env.scope x) (hf : X.fn x = true ∨ X.env.scope.names.lookup x = some .local := by first | exact .inl rfl | exact .inr rfl | assumption) : DG X [i] (.Name x pos) (sName i) :=
  ⟨pg_imp (pg_name hN hi hx hf) fun v σ H Q ⟨F0, H0, F, ρ, d, ρ', r, hd, e, k⟩ => by
    cases e
    exact k _ (r.setVal hd i) (out2_set σ i _)⟩
theorem dgs_nil : DGs X [] [] sNil := ⟨pgs_imp pgs_nil fun vs σ H Q ⟨F0, H0, F, ρ, ds, ρ', r, hd, e, k⟩ => by
  cases ds with
  | nil => cases hd; cases e; exact ⟨rfl, k σ r ⟨rfl, fun _ _ => rfl⟩⟩
  | cons => cases e⟩
theorem dgs_cons {e : Expr} {es : List Expr} {ts us : List Nat} {s : D → Env → Option Env} {q : List D → Env → Option Env} (h1 : DG X ts e s) (h2 : DGs X us es q)
    (hs : (assignEach (e :: es) X.env).map (·.2) = assign e X.env :: (assignEach es X.env).map (·.2) := by rfl) : DGs X (ts ++ us) (e :: es) (sCons s q) :=
  ⟨pgs_imp (pgs_cons h1.pg h2.pgs hs) fun vs σ H Q ⟨F0, H0, F, ρ, ds, ρ', r, hd, e, k⟩ => by
    cases ds with
    | nil => cases e
    | cons d ds =>
      cases hd with
      | cons d1 d2 =>
        obtain ⟨ρ1, e1, e2⟩ := Option.bind_eq_some_iff.mp e
        exact ⟨_, _, rfl, F0, H0, F, ρ, d, ρ1, r, d1, e1, fun σ1 r1 o1 => ⟨F0, H0, F, ρ1, ds, ρ', r1, d2, e2, fun σ2 r2 o2 => k σ2 r2 ⟨o2.1.trans o1.1, fun j hj => by
          rw [List.mem_append, not_or] at hj
          rw [o2.2 j hj.2, o1.2 j hj.1]⟩⟩⟩⟩
theorem dg_tup {es : List Expr} {k n : Nat} {ts : List Nat} {q : List D → Env → Option Env} (hc : X.calm = true) (h : DGs X ts es q) (hq : ∀ ds ρ ρ', q ds ρ = some ρ' → ds.length = n)
    (hn : (assignEach es X.env).length = n := by rfl) (hst : (assignEach es X.env).findIdx? (·.1) = none := by rfl) : DG X ts (.Tuple es k pos) (sTup q) :=
  ⟨pg_imp (pg_tup hc h.pgs hn hst) fun v σ H Q ⟨F0, H0, F, ρ, d, ρ', r, hd, e, k⟩ => by
    cases hd with
    | tup h1 h2 => exact ⟨_, _, rfl, ex_t r.g.in_ h1, by rw [dpa_len h2]; exact hq _ ρ ρ' e, F0, H0, F, ρ, _, ρ', r, h2, e, k⟩
    | _ => cases e⟩
end
theorem sNil_len (ds : List D) (ρ ρ' : Env) (h : sNil ds ρ = some ρ') : ds.length = 0 := by
  cases ds with
  | nil => rfl
  | cons => cases h
theorem sCons_len {s : D → Env → Option Env} {q : List D → Env → Option Env} {n : Nat} (hq : ∀ ds ρ ρ', q ds ρ = some ρ' → ds.length = n) (ds : List D) (ρ ρ' : Env) (h : sCons s q ds ρ = some ρ') : ds.length = n + 1 := by
  cases ds with
  | nil => cases h
  | cons d ds =>
    obtain ⟨ρ1, e1, e2⟩ := Option.bind_eq_some_iff.mp h
    rw [List.length_cons, hq ds ρ1 ρ' e2]

/-! ### what is walked -/
structure ItD (K : PySem.W.Frag) (J : It) (S : Hp → Hp → Prop) (ds : List D) : Prop where
  goes : ∀ (i : Nat) F1 H1, S F1 H1 → i < ds.length → J.go i H1
  stops : ∀ F1 H1, S F1 H1 → J.stop ds.length H1
  yields : ∀ (i : Nat) F1 H1 x H2 d, S F1 H1 → Ex F1 H1 → ds[i]? = some d → J.yld i H1 x H2 → ∃ F2, Grow F1 H1 F2 H2 ∧ Da K F2 x d
def tI (K : PySem.W.Frag) (mg : Str → Option Value) (W : WX) (f : Env → R (List D)) : TI := fun σ H R' => ∃ F0 H0 F ρ, Rep K F0 H0 F H ρ σ ∧
  ROk K mg (fun c d H' => W c d σ H') F H (fun ds F' H' => ∀ J, ItD K J (fun F1 H1 => Ex F' F1 ∧ Ex F1 H1) ds → R' J H') (f ρ)
/-- .. while nothing but new objects come -/
def tIB (K : PySem.W.Frag) (mg : Str → Option Value) (W : WX) (f : Env → R (List D)) : TI := fun σ H R' => ∃ F0 H0 F ρ, Rep K F0 H0 F H ρ σ ∧
  ROk K mg (fun c d H' => W c d σ H') F H (fun ds F' H' => ∀ J, ItD K J (Grow F' H') ds → R' J H') (f ρ)
structure DI (X : Cx) (W : WX) (tg e : Expr) (f : Env → R (List D)) : Prop where
  pi : PI X tg e (tI X.K X.mg W f)
structure DIB (X : Cx) (W : WX) (tg e : Expr) (f : Env → R (List D)) : Prop where
  pi : PI X tg e (tIB X.K X.mg W f)
theorem pi_imp {X : Cx} {tg e : Expr} {t t' : TI} (q : PI X tg e t) (i : ∀ σ H R', t' σ H R' → t σ H R') : PI X tg e t' := ⟨fun pins s σ H R' I z => q.run pins s σ H R' I (i σ H R' z)⟩
theorem pi_or {X : Cx} {tg e : Expr} {t t' : TI} (q : PI X tg e t) (q' : PI X tg e t') : PI X tg e (fun σ H R' => t σ H R' ∨ t' σ H R') := ⟨fun pins s σ H R' I z => z.elim (q.run pins s σ H R' I) (q'.run pins s σ H R' I)⟩
theorem DI.b {X : Cx} {W : WX} {tg e : Expr} {f : Env → R (List D)} (q : DI X W tg e f) : DIB X W tg e f :=
  ⟨pi_imp q.pi fun σ H R' ⟨F0, H0, F, ρ, r, k⟩ => ⟨F0, H0, F, ρ, r, k.imp fun ds F' H' _ gr z J it => z J ⟨fun i F1 H1 s hi => it.goes i F1 H1 ⟨s.f, s.in_⟩ hi, fun F1 H1 s => it.stops F1 H1 ⟨s.f, s.in_⟩, fun i F1 H1 x H2 d s e h1 h2 => it.yields i F1 H1 x H2 d ⟨s.f, s.in_⟩ e h1 h2⟩⟩⟩
section
variable {K : PySem.W.Frag} {S : Hp → Hp → Prop} {p q : Addr} {ds es : List D}
theorem itd_list (hs : ∀ F1 H1, S F1 H1 → Ex F1 H1 ∧ Bw K F1 H1 (.ref p) (.list ds)) : ItD K (Itl K p) S ds where
  goes := fun i F1 H1 s hi => by
    obtain ⟨e, b⟩ := hs F1 H1 s
    obtain ⟨p', vs, h0, h1, h2⟩ := b.list e
    cases h0
    obtain ⟨v, h3, h4⟩ := dpa_get h2 (List.getElem?_eq_getElem hi)
    exact ⟨vs, v, Or.inl (Or.inl h1), h3⟩
  stops := fun F1 H1 s => by
    obtain ⟨e, b⟩ := hs F1 H1 s
    obtain ⟨p', vs, h0, h1, h2⟩ := b.list e
    cases h0
    exact ⟨vs, Or.inl (Or.inl h1), by rw [dpa_len h2]; exact Nat.le_refl _⟩
  yields := fun i F1 H1 x H2 d s _ hd y => by
    obtain ⟨e, b⟩ := hs F1 H1 s
    obtain ⟨p', vs, h0, h1, h2⟩ := b.list e
    cases h0
    obtain ⟨rfl, y⟩ := y
    obtain ⟨d', h3, h4⟩ := dpa_getV h2 (y vs (Or.inl (Or.inl h1)))
    rw [hd] at h3
    cases h3
    exact ⟨F1, .refl e, h4⟩
theorem itd_tup (hs : ∀ F1 H1, S F1 H1 → Ex F1 H1 ∧ Bw K F1 H1 (.ref p) (.tuple ds)) : ItD K (Itt K p) S ds where
  goes := fun i F1 H1 s hi => by
    obtain ⟨e, b⟩ := hs F1 H1 s
    obtain ⟨p', vs, h0, h1, h2⟩ := b.tuple e
    cases h0
    obtain ⟨v, h3, h4⟩ := dpa_get h2 (List.getElem?_eq_getElem hi)
    exact ⟨vs, v, h1, h3⟩
  stops := fun F1 H1 s => by
    obtain ⟨e, b⟩ := hs F1 H1 s
    obtain ⟨p', vs, h0, h1, h2⟩ := b.tuple e
    cases h0
    exact ⟨vs, h1, by rw [dpa_len h2]; exact Nat.le_refl _⟩
  yields := fun i F1 H1 x H2 d s _ hd y => by
    obtain ⟨e, b⟩ := hs F1 H1 s
    obtain ⟨p', vs, h0, h1, h2⟩ := b.tuple e
    cases h0
    obtain ⟨rfl, y⟩ := y
    obtain ⟨d', h3, h4⟩ := dpa_getV h2 (y vs h1)
    rw [hd] at h3
    cases h3
    exact ⟨F1, .refl e, h4⟩
def rangeD (lo : Int) (n : Nat) : List D := (List.range n).map fun i => .int (lo + (i : Nat))
theorem rangeD_len (lo : Int) (n : Nat) : (rangeD lo n).length = n := by simp [rangeD]
theorem itd_range {lo : Int} {n : Nat} : ItD K (Itr lo n) S (rangeD lo n) where
  goes := fun i F1 H1 s hi => by rw [rangeD_len] at hi; exact hi
  stops := fun F1 H1 s => by rw [rangeD_len]; exact Nat.le_refl _
  yields := fun i F1 H1 x H2 d s e hd y => by
    obtain ⟨rfl, rfl⟩ := y
    refine ⟨F1, .refl e, ?_⟩
    unfold rangeD at hd
    rw [List.getElem?_map] at hd
    obtain ⟨j, h1, h2⟩ := Option.map_eq_some_iff.mp hd
    have : i = j := by
      have := List.getElem?_eq_some_iff.mp h1
      obtain ⟨_, h3⟩ := this
      simpa using h3
    subst this; subst h2
    exact .int _
def enumD : Nat → List D → List D
  | _, [] => []
  | k, d :: ds => .tuple [.int (k : Nat), d] :: enumD (k + 1) ds
theorem enumD_len : ∀ (ds : List D) (k : Nat), (enumD k ds).length = ds.length
  | [], _ => rfl
  | d :: ds, k => by simp [enumD, enumD_len ds]
theorem enumD_get : ∀ (ds : List D) (k i : Nat) (d : D), (enumD k ds)[i]? = some d → ∃ x, ds[i]? = some x ∧ d = .tuple [.int ((k + i : Nat)), x]
  | [], _, i, d, h => by simp [enumD] at h
  | x :: xs, k, 0, d, h => by simp [enumD] at h; exact ⟨x, rfl, h.symm⟩
  | x :: xs, k, i + 1, d, h => by
    simp only [enumD, List.getElem?_cons_succ] at h
    obtain ⟨y, h1, h2⟩ := enumD_get xs (k + 1) i d h
    exact ⟨y, by simpa using h1, by rw [h2, show k + 1 + i = k + (i + 1) by omega]⟩
theorem pair_new {F1 H1 : Hp} {T : Addr} {x y : V} {a b : D} (e : Ex F1 H1) (hT : H1 T = none) (hx : Da K F1 x a) (hy : Da K F1 y b) : ∃ F2, Grow F1 H1 F2 (upd H1 T (.tup [x, y])) ∧ Da K F2 (.ref T) (.tuple [a, b]) :=
  ⟨_, Grow.made e hT, .tup (Or.inl (Or.inl upd_same)) (.cons (hx.up (Ex.new (Evl.fresh_back e hT))) (.cons (hy.up (Ex.new (Evl.fresh_back e hT))) .nil))⟩
theorem itd_enum (hs : ∀ F1 H1, S F1 H1 → Ex F1 H1 ∧ Bw K F1 H1 (.ref p) (.list ds)) : ItD K (Ite K p) S (enumD 0 ds) where
  goes := fun i F1 H1 s hi => by
    rw [enumD_len] at hi
    obtain ⟨e, b⟩ := hs F1 H1 s
    obtain ⟨p', vs, h0, h1, h2⟩ := b.list e
    cases h0
    obtain ⟨v, h3, h4⟩ := dpa_get h2 (List.getElem?_eq_getElem hi)
    exact ⟨vs, v, Or.inl (Or.inl h1), h3⟩
  stops := fun F1 H1 s => by
    obtain ⟨e, b⟩ := hs F1 H1 s
    obtain ⟨p', vs, h0, h1, h2⟩ := b.list e
    cases h0
    exact ⟨vs, Or.inl (Or.inl h1), by rw [dpa_len h2, enumD_len]; exact Nat.le_refl _⟩
  yields := fun i F1 H1 x H2 d s _ hd y => by
    obtain ⟨e, b⟩ := hs F1 H1 s
    obtain ⟨p', vs, h0, h1, h2⟩ := b.list e
    cases h0
    obtain ⟨T, x', rfl, hT, rfl, y⟩ := y
    obtain ⟨d', h3, h4⟩ := dpa_getV h2 (y vs (Or.inl (Or.inl h1)))
    obtain ⟨z, h5, rfl⟩ := enumD_get ds 0 i d hd
    rw [h3] at h5
    cases h5
    rw [Nat.zero_add]
    exact pair_new e hT (.int _) h4
def zipD : List D → List D → List D
  | x :: xs, y :: ys => .tuple [x, y] :: zipD xs ys
  | _, _ => []
theorem zipD_len : ∀ (xs ys : List D), (zipD xs ys).length = min xs.length ys.length
  | [], ys => by simp [zipD]
  | x :: xs, [] => by simp [zipD]
  | x :: xs, y :: ys => by simp [zipD, zipD_len xs ys]
theorem zipD_get : ∀ (xs ys : List D) (i : Nat) (d : D), (zipD xs ys)[i]? = some d → ∃ x y, xs[i]? = some x ∧ ys[i]? = some y ∧ d = .tuple [x, y]
  | [], ys, i, d, h => by simp [zipD] at h
  | x :: xs, [], i, d, h => by simp [zipD] at h
  | x :: xs, y :: ys, 0, d, h => by simp [zipD] at h; exact ⟨x, y, rfl, rfl, h.symm⟩
  | x :: xs, y :: ys, i + 1, d, h => by
    simp only [zipD, List.getElem?_cons_succ] at h
    obtain ⟨a, b, h1, h2, h3⟩ := zipD_get xs ys i d h
    exact ⟨a, b, by simpa using h1, by simpa using h2, h3⟩
theorem itd_zipL (hs : ∀ F1 H1, S F1 H1 → Ex F1 H1 ∧ Bw K F1 H1 (.ref p) (.list ds) ∧ Bw K F1 H1 (.ref q) (.list es)) : ItD K (Itz K p q) S (zipD ds es) where
  goes := fun i F1 H1 s hi => by
    rw [zipD_len] at hi
    obtain ⟨e, b, c⟩ := hs F1 H1 s
    obtain ⟨_, vs, h0, h1, h2⟩ := b.list e
    cases h0
    obtain ⟨_, us, h0, h1', h2'⟩ := c.list e
    cases h0
    obtain ⟨v, h3, h4⟩ := dpa_get h2 (List.getElem?_eq_getElem (by omega : i < ds.length))
    obtain ⟨u, h3', h4'⟩ := dpa_get h2' (List.getElem?_eq_getElem (by omega : i < es.length))
    exact ⟨vs, us, v, u, Or.inl (Or.inl h1), Or.inl (Or.inl h1'), h3, h3'⟩
  stops := fun F1 H1 s => by
    obtain ⟨e, b, c⟩ := hs F1 H1 s
    obtain ⟨_, vs, h0, h1, h2⟩ := b.list e
    cases h0
    obtain ⟨_, us, h0, h1', h2'⟩ := c.list e
    cases h0
    have l1 := dpa_len h2
    have l2 := dpa_len h2'
    exact ⟨vs, us, Or.inl (Or.inl h1), Or.inl (Or.inl h1'), by rw [zipD_len]; omega⟩
  yields := fun i F1 H1 x H2 d s _ hd y => by
    obtain ⟨e, b, c⟩ := hs F1 H1 s
    obtain ⟨_, vs, h0, h1, h2⟩ := b.list e
    cases h0
    obtain ⟨_, us, h0, h1', h2'⟩ := c.list e
    cases h0
    obtain ⟨T, x', y', rfl, hT, rfl, y, y2⟩ := y
    obtain ⟨d1, h3, h4⟩ := dpa_getV h2 (y vs (Or.inl (Or.inl h1)))
    obtain ⟨d2, h3', h4'⟩ := dpa_getV h2' (y2 us (Or.inl (Or.inl h1')))
    obtain ⟨a, b', h5, h6, rfl⟩ := zipD_get ds es i d hd
    rw [h3] at h5
    rw [h3'] at h6
    cases h5; cases h6
    exact pair_new e hT h4 h4'
theorem itd_zipT (hs : ∀ F1 H1, S F1 H1 → Ex F1 H1 ∧ Bw K F1 H1 (.ref p) (.tuple ds) ∧ Bw K F1 H1 (.ref q) (.tuple es)) : ItD K (RZ.ItzT K p q) S (zipD ds es) where
  goes := fun i F1 H1 s hi => by
    rw [zipD_len] at hi
    obtain ⟨e, b, c⟩ := hs F1 H1 s
    obtain ⟨_, vs, h0, h1, h2⟩ := b.tuple e
    cases h0
    obtain ⟨_, us, h0, h1', h2'⟩ := c.tuple e
    cases h0
    obtain ⟨v, h3, h4⟩ := dpa_get h2 (List.getElem?_eq_getElem (by omega : i < ds.length))
    obtain ⟨u, h3', h4'⟩ := dpa_get h2' (List.getElem?_eq_getElem (by omega : i < es.length))
    exact ⟨vs, us, v, u, h1, h1', h3, h3'⟩
  stops := fun F1 H1 s => by
    obtain ⟨e, b, c⟩ := hs F1 H1 s
    obtain ⟨_, vs, h0, h1, h2⟩ := b.tuple e
    cases h0
    obtain ⟨_, us, h0, h1', h2'⟩ := c.tuple e
    cases h0
    have l1 := dpa_len h2
    have l2 := dpa_len h2'
    exact ⟨vs, us, h1, h1', by rw [zipD_len]; omega⟩
  yields := fun i F1 H1 x H2 d s _ hd y => by
    obtain ⟨e, b, c⟩ := hs F1 H1 s
    obtain ⟨_, vs, h0, h1, h2⟩ := b.tuple e
    cases h0
    obtain ⟨_, us, h0, h1', h2'⟩ := c.tuple e
    cases h0
    obtain ⟨T, x', y', rfl, hT, rfl, y, y2⟩ := y
    obtain ⟨d1, h3, h4⟩ := dpa_getV h2 (y vs h1)
    obtain ⟨d2, h3', h4'⟩ := dpa_getV h2' (y2 us h1')
    obtain ⟨a, b', h5, h6, rfl⟩ := zipD_get ds es i d hd
    rw [h3] at h5
    rw [h3'] at h6
    cases h5; cases h6
    exact pair_new e hT h4 h4'
end

/-! the iterables by their texts -/
def itemsD : D → Option (List D)
  | .list ds => some ds
  | .tuple ds => some ds
  | _ => none
def cItems (f : Env → R D) : Env → R (List D) := fun ρ => (f ρ).bind fun a => ofO (itemsD a)
def range1D : List D → Option (List D)
  | [.int n] => if -1000000 < n ∧ n < 1000000 then some (rangeD 0 n.toNat) else none
  | _ => none
def range2D : List D → Option (List D)
  | [.int a, .int b] => if -1000000 < a ∧ a < 1000000 ∧ -1000000 < b ∧ b < 1000000 then some (rangeD a (b - a).toNat) else none
  | _ => none
def enum1D : List D → Option (List D)
  | [.list ds] => some (enumD 0 ds)
  | _ => none
def zip2D : List D → Option (List D)
  | [.list xs, .list ys] => some (zipD xs ys)
  | [.tuple xs, .tuple ys] => some (zipD xs ys)
  | _ => none
def cIt (o : List D → Option (List D)) (q : Env → R (List D)) : Env → R (List D) := fun ρ => (q ρ).bind fun as => ofO (o as)
section
variable {X : Cx} {W : WX} {tg e e1 e2 : Expr} {es : List Expr} {pos p : Pos} {f g : Env → R D} {q : Env → R (List D)}
theorem stay_bw {K : PySem.W.Frag} {F' H' : Hp} {v : V} {d : D} (h : Bw K F' H' v d) : ∀ F1 H1, Grow F' H' F1 H1 → Ex F1 H1 ∧ Bw K F1 H1 v d := fun _ _ g => ⟨g.in_, h.grow g⟩
theorem stay_da {K : PySem.W.Frag} {F' : Hp} {v : V} {d : D} (h : Da K F' v d) : ∀ F1 H1, Ex F' F1 ∧ Ex F1 H1 → Ex F1 H1 ∧ Bw K F1 H1 v d := fun _ _ g => ⟨g.2, .fr (h.up g.1)⟩
/-- a list, a tuple: frozen | borrowed -/
theorem di_seq (ha : DE X W e f) : DI X W tg e (cItems f) :=
  ⟨pi_imp (pi_or (pi_list ha.pe) (pi_tup ha.pe)) fun σ H R' ⟨F0, H0, F, ρ, r, k⟩ => by
    cases hf : f ρ with
    | ok a =>
      have k : ROk X.K X.mg (fun c d H' => W c d σ H') F H (fun ds F' H' => ∀ J, ItD X.K J (fun F1 H1 => Ex F' F1 ∧ Ex F1 H1) ds → R' J H') ((f ρ).bind fun a => ofO (itemsD a)) := k
      rw [hf] at k
      obtain ⟨ds, e, k⟩ := ROk.ofO (o := itemsD a) k
      cases a <;> simp only [itemsD] at e <;> try (cases e; done)
      · cases e
        refine .inl ⟨F0, H0, F, ρ, r, ?_⟩
        rw [hf]
        intro F' H' g v hv
        cases hv with
        | lst h1 h2 => exact ⟨_, rfl, ⟨_, Or.inl (Or.inl (g.in_ _ _ h1))⟩, k F' H' g _ (itd_list (stay_da (.lst h1 h2)))⟩
      · cases e
        refine .inr ⟨F0, H0, F, ρ, r, ?_⟩
        rw [hf]
        intro F' H' g v hv
        cases hv with
        | tup h1 h2 => exact ⟨_, rfl, ⟨_, ex_t g.in_ h1⟩, k F' H' g _ (itd_tup (stay_da (.tup h1 h2)))⟩
    | exc x =>
      have k : ROk X.K X.mg (fun c d H' => W c d σ H') F H (fun ds F' H' => ∀ J, ItD X.K J (fun F1 H1 => Ex F' F1 ∧ Ex F1 H1) ds → R' J H') ((f ρ).bind fun a => ofO (itemsD a)) := k
      rw [hf] at k
      refine .inl ⟨F0, H0, F, ρ, r, ?_⟩
      rw [hf]
      exact k
    | bad =>
      have k : ROk X.K X.mg (fun c d H' => W c d σ H') F H (fun ds F' H' => ∀ J, ItD X.K J (fun F1 H1 => Ex F' F1 ∧ Ex F1 H1) ds → R' J H') ((f ρ).bind fun a => ofO (itemsD a)) := k
      rw [hf] at k
      exact k.elim⟩
theorem dib_seq (ha : DB X W e f) : DIB X W tg e (cItems f) :=
  ⟨pi_imp (pi_or (pi_list ha.pe) (pi_tup ha.pe)) fun σ H R' ⟨F0, H0, F, ρ, r, k⟩ => by
    have k : ROk X.K X.mg (fun c d H' => W c d σ H') F H (fun ds F' H' => ∀ J, ItD X.K J (Grow F' H') ds → R' J H') ((f ρ).bind fun a => ofO (itemsD a)) := k
    cases hf : f ρ with
    | ok a =>
      rw [hf] at k
      obtain ⟨ds, e, k⟩ := ROk.ofO (o := itemsD a) k
      cases a <;> simp only [itemsD] at e <;> try (cases e; done)
      · cases e
        refine .inl ⟨F0, H0, F, ρ, r, ?_⟩
        rw [hf]
        intro F' H' g v hv
        obtain ⟨p, vs, rfl, h1, h2⟩ := hv.list g.in_
        exact ⟨_, rfl, ⟨_, Or.inl (Or.inl h1)⟩, k F' H' g _ (itd_list (stay_bw hv))⟩
      · cases e
        refine .inr ⟨F0, H0, F, ρ, r, ?_⟩
        rw [hf]
        intro F' H' g v hv
        obtain ⟨p, vs, rfl, h1, h2⟩ := hv.tuple g.in_
        exact ⟨_, rfl, ⟨_, h1⟩, k F' H' g _ (itd_tup (stay_bw hv))⟩
    | exc x =>
      rw [hf] at k
      refine .inl ⟨F0, H0, F, ρ, r, ?_⟩
      rw [hf]
      exact k
    | bad =>
      rw [hf] at k
      exact k.elim⟩
theorem da_bwAll {K : PySem.W.Frag} {F : Hp} {vs : List V} {H : Hp} : ∀ {ds : List D} {vs : List V}, DaAll K F vs ds → BwAll K F H vs ds
  | [], _, h => by cases h; exact .nil
  | _ :: _, _, h => by
    cases h with
    | cons h1 h2 => exact .cons (.fr h1) (da_bwAll (vs := []) h2)
theorem di_range1 (hg : Gl X "range") (hm : X.mg "range" = none) (ha : DA X W [e] q) (hs : starEach [e] X.env = [(false, eval e X.env)] := by rfl) : DI X W tg (.Call (.Name "range" p) [e] [] pos) (cIt range1D q) :=
  ⟨pi_imp (pi_range1 hg hm ha.pa hs) fun σ H R' ⟨F0, H0, F, ρ, r, k⟩ => ⟨F0, H0, F, ρ, r, (ROk.step (r := q ρ) k).imp fun as F1 H1 _ g1 q1 vs hvs => by
    obtain ⟨ds, e, z⟩ := q1.ofO
    unfold range1D at e
    split at e
    · split at e
      · rename_i hn
        cases e
        cases hvs with
        | cons h1 h2 =>
          cases h2; cases h1
          exact ⟨_, rfl, by omega, by omega, z F1 H1 (.refl g1.in_) _ itd_range⟩
      · cases e
    · cases e⟩⟩
theorem di_range2 (hg : Gl X "range") (hm : X.mg "range" = none) (ha : DA X W [e1, e2] q) (hs : starEach [e1, e2] X.env = [(false, eval e1 X.env), (false, eval e2 X.env)] := by rfl) (hs2 : starEach [e2] X.env = [(false, eval e2 X.env)] := by rfl) :
    DI X W tg (.Call (.Name "range" p) [e1, e2] [] pos) (cIt range2D q) :=
  ⟨pi_imp (pi_range2 hg hm ha.pa hs hs2) fun σ H R' ⟨F0, H0, F, ρ, r, k⟩ => ⟨F0, H0, F, ρ, r, (ROk.step (r := q ρ) k).imp fun as F1 H1 _ g1 q1 vs hvs => by
    obtain ⟨ds, e, z⟩ := q1.ofO
    unfold range2D at e
    split at e
    · split at e
      · rename_i hn
        cases e
        cases hvs with
        | cons h1 h2 =>
          cases h2 with
          | cons h3 h4 =>
            cases h4; cases h1; cases h3
            exact ⟨_, _, rfl, by omega, z F1 H1 (.refl g1.in_) _ itd_range⟩
      · cases e
    · cases e⟩⟩
theorem dib_enum {k : Nat} {tpos : Pos} (hg : Gl X "enumerate") (hm : X.mg "enumerate" = none) (ha : DAB X W [e] q) (hs : starEach [e] X.env = [(false, eval e X.env)] := by rfl) : DIB X W (.Tuple es k tpos) (.Call (.Name "enumerate" p) [e] [] pos) (cIt enum1D q) :=
  ⟨pi_imp (pi_enum hg hm ha.pa hs) fun σ H R' ⟨F0, H0, F, ρ, r, k⟩ => ⟨F0, H0, F, ρ, r, (ROk.step (r := q ρ) k).imp fun as F1 H1 _ g1 q1 vs hvs => by
    obtain ⟨ds, e, z⟩ := q1.ofO
    unfold enum1D at e
    split at e
    · cases e
      obtain ⟨x, rfl, b⟩ := bw1 hvs
      obtain ⟨p', vs, rfl, h1, h2⟩ := b.list g1.in_
      exact ⟨p', vs, rfl, Or.inl (Or.inl h1), z F1 H1 (.refl g1.in_) _ (itd_enum (stay_bw b))⟩
    · cases e⟩⟩
theorem di_enum {k : Nat} {tpos : Pos} (hg : Gl X "enumerate") (hm : X.mg "enumerate" = none) (ha : DA X W [e] q) (hs : starEach [e] X.env = [(false, eval e X.env)] := by rfl) : DI X W (.Tuple es k tpos) (.Call (.Name "enumerate" p) [e] [] pos) (cIt enum1D q) :=
  ⟨pi_imp (pi_enum hg hm ha.pa hs) fun σ H R' ⟨F0, H0, F, ρ, r, k⟩ => ⟨F0, H0, F, ρ, r, (ROk.step (r := q ρ) k).imp fun as F1 H1 _ g1 q1 vs hvs => by
    obtain ⟨ds, e, z⟩ := q1.ofO
    unfold enum1D at e
    split at e
    · cases e
      cases hvs with
      | cons h1 h2 =>
        cases h2
        cases h1 with
        | lst h3 h4 => exact ⟨_, _, rfl, Or.inl (Or.inl (g1.in_ _ _ h3)), z F1 H1 (.refl g1.in_) _ (itd_enum (stay_da (.lst h3 h4)))⟩
    · cases e⟩⟩
theorem dib_zip {k : Nat} {tpos : Pos} (hg : Gl X "zip") (hm : X.mg "zip" = none) (ha : DAB X W [e1, e2] q) (hs : starEach [e1, e2] X.env = (false, eval e1 X.env) :: starEach [e2] X.env := by rfl) (hpl : (backTo pos (starEach [e2] X.env)).any (·.1) = false := by rfl) :
    DIB X W (.Tuple es k tpos) (.Call (.Name "zip" p) [e1, e2] [] pos) (cIt zip2D q) :=
  ⟨pi_imp (RZ.pi_zipA hg hm ha.pa hs hpl) fun σ H R' ⟨F0, H0, F, ρ, r, k⟩ => ⟨F0, H0, F, ρ, r, (ROk.step (r := q ρ) k).imp fun as F1 H1 _ g1 q1 vs hvs => by
    obtain ⟨ds, e, z⟩ := q1.ofO
    unfold zip2D at e
    split at e
    · cases e
      obtain ⟨x, y, rfl, b, c⟩ := bw2 hvs
      obtain ⟨p1, vs, rfl, h1, h2⟩ := b.list g1.in_
      obtain ⟨p2, us, rfl, h3, h4⟩ := c.list g1.in_
      exact ⟨p1, p2, vs, us, rfl, .inl ⟨Or.inl (Or.inl h1), Or.inl (Or.inl h3), z F1 H1 (.refl g1.in_) _ (itd_zipL fun F2 H2 g => ⟨g.in_, b.grow g, c.grow g⟩)⟩⟩
    · cases e
      obtain ⟨x, y, rfl, b, c⟩ := bw2 hvs
      obtain ⟨p1, vs, rfl, h1, h2⟩ := b.tuple g1.in_
      obtain ⟨p2, us, rfl, h3, h4⟩ := c.tuple g1.in_
      exact ⟨p1, p2, vs, us, rfl, .inr ⟨h1, h3, z F1 H1 (.refl g1.in_) _ (itd_zipT fun F2 H2 g => ⟨g.in_, b.grow g, c.grow g⟩)⟩⟩
    · cases e⟩⟩
theorem di_zip {k : Nat} {tpos : Pos} (hg : Gl X "zip") (hm : X.mg "zip" = none) (ha : DA X W [e1, e2] q) (hs : starEach [e1, e2] X.env = (false, eval e1 X.env) :: starEach [e2] X.env := by rfl) (hpl : (backTo pos (starEach [e2] X.env)).any (·.1) = false := by rfl) :
    DI X W (.Tuple es k tpos) (.Call (.Name "zip" p) [e1, e2] [] pos) (cIt zip2D q) :=
  ⟨pi_imp (RZ.pi_zipA hg hm ha.pa hs hpl) fun σ H R' ⟨F0, H0, F, ρ, r, k⟩ => ⟨F0, H0, F, ρ, r, (ROk.step (r := q ρ) k).imp fun as F1 H1 _ g1 q1 vs hvs => by
    obtain ⟨ds, e, z⟩ := q1.ofO
    unfold zip2D at e
    split at e
    · cases e
      cases hvs with
      | cons a1 a2 =>
        cases a2 with
        | cons a2 a3 =>
          cases a3
          obtain ⟨p1, vs, rfl, h1, h2⟩ := (Bw.fr a1).list g1.in_
          obtain ⟨p2, us, rfl, h3, h4⟩ := (Bw.fr a2).list g1.in_
          exact ⟨p1, p2, vs, us, rfl, .inl ⟨Or.inl (Or.inl h1), Or.inl (Or.inl h3), z F1 H1 (.refl g1.in_) _ (itd_zipL fun F2 H2 g => ⟨g.2, .fr (a1.up g.1), .fr (a2.up g.1)⟩)⟩⟩
    · cases e
      cases hvs with
      | cons a1 a2 =>
        cases a2 with
        | cons a2 a3 =>
          cases a3
          obtain ⟨p1, vs, rfl, h1, h2⟩ := (Bw.fr a1).tuple g1.in_
          obtain ⟨p2, us, rfl, h3, h4⟩ := (Bw.fr a2).tuple g1.in_
          exact ⟨p1, p2, vs, us, rfl, .inr ⟨h1, h3, z F1 H1 (.refl g1.in_) _ (itd_zipT fun F2 H2 g => ⟨g.2, .fr (a1.up g.1), .fr (a2.up g.1)⟩)⟩⟩
    · cases e⟩⟩
end

/-! ### list comprehensions -/
def wipeR (ρ : Env) : List Nat → Env
  | [] => ρ
  | v :: vs => (wipeR ρ vs).set v .no
theorem Rep.wipe {K : PySem.W.Frag} {F0 H0 F H : Hp} {ρ : Env} {σ : L2.St} (r : Rep K F0 H0 F H ρ σ) : ∀ vs : List Nat, Rep K F0 H0 F H (wipeR ρ vs) (wipe σ vs)
  | [] => r
  | v :: vs => (r.wipe vs).drop v none
theorem wipe_at {σ : L2.St} {i : Nat} : ∀ {vs : List Nat}, i ∈ vs → i < σ.length → (wipe σ vs)[i]? = some none
  | v :: vs, h, hl => by
    unfold wipe
    by_cases e : v = i
    · subst e
      rw [List.getElem?_set_self (by rw [wipe_length]; exact hl)]
    · rw [List.getElem?_set_ne e]
      exact wipe_at (by
        rcases (List.mem_cons.mp h) with z | z
        · exact absurd z.symm e
        · exact z) hl
theorem wipe_out2 {σ σ' : L2.St} {ts vs : List Nat} (o : Out2 (wipe σ vs) σ' ts) (h : ∀ j ∈ ts, j ∈ vs) : wipe σ' vs = wipe σ vs := by
  apply List.ext_getElem?
  intro j
  have len : σ'.length = σ.length := o.1.trans (wipe_length σ vs)
  by_cases hj : j ∈ vs
  · by_cases hl : j < σ.length
    · rw [wipe_at hj hl, wipe_at hj (by rw [len]; exact hl)]
    · rw [List.getElem?_eq_none (by rw [wipe_length]; omega), List.getElem?_eq_none (by rw [wipe_length]; omega)]
  · rw [wipe_out hj]
    exact o.2 j fun z => hj (h j z)
def lcGo (s : D → Env → Option Env) (t : Env → R Bool) (el : Env → R D) (ρ : Env) : List D → R (List D)
  | [] => .ok []
  | d :: ds => (ofO (s d ρ)).bind fun ρ' => (t ρ').bind fun b => if b = true then (el ρ').bind fun y => (lcGo s t el ρ ds).bind fun ys => .ok (y :: ys) else lcGo s t el ρ ds
/-- the parts of a comprehension raise nothing -/
def noX {α : Type} : R α → R α
  | .ok a => .ok a
  | _ => .bad
def cLc (it : Env → R (List D)) (s : D → Env → Option Env) (t : Env → R Bool) (el : Env → R D) (vs : List Nat) : Env → R (List D) := fun ρ => (it ρ).bind fun ds => if ds.length ≤ 100000 then noX (lcGo s t el (wipeR ρ vs) ds) else .bad
abbrev W0 : WX := fun _ _ _ _ => False
def cYes : Env → R Bool := fun _ => .ok true
structure DTs (X : Cx) (W : WX) (ifs : List Expr) (f : Env → R Bool) : Prop where
  pts : PTs X ifs (tD X.K X.mg W f)
theorem dts_nil {X : Cx} {W : WX} : DTs X W [] cYes := ⟨⟨fun pins s σ H Q I ⟨F0, H0, F, ρ, r, k⟩ => pts_nil.run pins s σ H Q I (k F H (.refl r.g.in_))⟩⟩
theorem dts_one {X : Cx} {W : WX} {c : Expr} {f : Env → R Bool} (h : DT X W c f) : DTs X W [c] f := ⟨pts_one h.pt⟩
section
variable {K : PySem.W.Frag} {mg : Str → Option Value} {W : WX} {σ : L2.St} {s : D → Env → Option Env} {t : Env → R Bool} {el : Env → R D} {vs ts : List Nat}
theorem bind_ok {α β : Type} {r : R α} {k : α → R β} {b : β} (h : r.bind k = .ok b) : ∃ a, r = .ok a ∧ k a = .ok b := by
  cases r with
  | ok a => exact ⟨a, rfl, h⟩
  | exc x => cases h
  | bad => cases h
theorem ofO_ok {α : Type} {o : Option α} {a : α} (h : ofO o = .ok a) : o = some a := by
  cases o with
  | some b => cases h; rfl
  | none => cases h
theorem noX_ok {α : Type} {r : R α} {a : α} (h : noX r = .ok a) : r = .ok a := by
  cases r with
  | ok b => exact h
  | exc x => cases h
  | bad => cases h
theorem noX_ROk {α : Type} {W : XK} {F H : Hp} {P : α → Hp → Hp → Prop} {r : R α} (h : ROk K mg W F H P (noX r)) : ∃ a, r = .ok a ∧ ∀ F' H', Grow F H F' H' → P a F' H' := by
  cases r with
  | ok a => exact ⟨a, rfl, h⟩
  | exc x => exact h.elim
  | bad => exact h.elim
theorem lcGo_inv {ρ : Env} {d : D} {ds ys : List D} (h : lcGo s t el ρ (d :: ds) = .ok ys) : ∃ ρ' b, s d ρ = some ρ' ∧ t ρ' = .ok b ∧
    ((b = true ∧ ∃ y zs, el ρ' = .ok y ∧ lcGo s t el ρ ds = .ok zs ∧ ys = y :: zs) ∨ (b = false ∧ lcGo s t el ρ ds = .ok ys)) := by
  unfold lcGo at h
  obtain ⟨ρ', h1, h⟩ := bind_ok h
  obtain ⟨b, h2, h⟩ := bind_ok h
  refine ⟨ρ', b, ofO_ok h1, h2, ?_⟩
  cases b with
  | true =>
    rw [if_pos rfl] at h
    obtain ⟨y, h3, h⟩ := bind_ok h
    obtain ⟨zs, h4, h⟩ := bind_ok h
    cases h
    exact .inl ⟨rfl, y, zs, h3, h4, rfl⟩
  | false =>
    rw [if_neg (by exact Bool.false_ne_true)] at h
    exact .inr ⟨rfl, h⟩
theorem lcGo_len {ρ : Env} : ∀ {ds ys : List D}, lcGo s t el ρ ds = .ok ys → ys.length ≤ ds.length
  | [], ys, h => by cases h; exact Nat.le_refl _
  | d :: ds, ys, h => by
    obtain ⟨ρ', b, _, _, i⟩ := lcGo_inv h
    rcases i with ⟨_, y, zs, _, i, rfl⟩ | ⟨_, i⟩
    · exact Nat.succ_le_succ (lcGo_len i)
    · exact Nat.le_succ_of_le (lcGo_len i)
theorem ex_mut {F H : Hp} {p : Addr} {o : HO} (e : Ex F H) (n : F p = none) : Ex F (upd H p o) := Ex.mut e n
theorem lc_read {it : Env → R (List D)} {H : Hp} {Q : VK} (hts : ∀ j ∈ ts, j ∈ vs) (k : tN K mg W (cLc it s t el vs) σ H Q) :
    tLc (tIB K mg W it) (tG K ts s) (tD K mg W0 t) (tE K mg W0 el) vs σ H Q := by
  obtain ⟨F0, H0, F, ρ, r, k⟩ := k
  refine ⟨F0, H0, F, ρ, r, (ROk.step (r := it ρ) k).imp fun ds F1 H1 _ g1 q1 J itd Dl hD => ?_⟩
  split at q1
  · rename_i hlen
    obtain ⟨ys, hys, q⟩ := noX_ROk q1
    have fD : ∀ {F' : Hp} {H' : Hp}, Grow F1 H1 F' H' → F' Dl = none ∨ F' Dl ≠ none := fun _ => Classical.em _
    refine ⟨fun i m H2 => m = ds.length - i ∧ i ≤ ds.length ∧ ∃ F2 acc us zs, Ex F1 F2 ∧ Ex H1 H2 ∧ Ex F2 H2 ∧ (∀ p o, F2 p = some o → F1 p = none → H1 p = none) ∧ F2 Dl = none ∧ H2 Dl = some (.lst us) ∧ DaAll K F2 us acc ∧ acc.length ≤ i ∧
      lcGo s t el (wipeR ρ vs) (ds.drop i) = .ok zs ∧ ys = acc ++ zs, ⟨ds.length, by simp, Nat.zero_le _, F1, [], [], ys, .refl _, Ex.new hD, g1.in_.trans (Ex.new hD), fun p o a b => (by rw [a] at b; cases b), Evl.fresh_back g1.in_ hD, upd_same, .nil, Nat.zero_le _, hys, rfl⟩, ?_⟩
    rintro i m H2 ⟨rfl, hi, F2, acc, us, zs, f1, f2, f3, f4, f5, f6, f7, f8, f9, f10⟩
    have gr : Grow F1 H1 F2 H2 := ⟨f1, f2, f3, f4⟩
    by_cases hlt : i < ds.length
    · have hdrop : ds.drop i = ds[i] :: ds.drop (i + 1) := List.drop_eq_getElem_cons hlt
      rw [hdrop] at f9
      obtain ⟨ρ', b, i1, i2, i3⟩ := lcGo_inv f9
      refine .inr ⟨itd.goes i F2 H2 gr hlt, fun H' => ∃ F3 acc us zs, Ex F1 F3 ∧ Ex H1 H' ∧ Ex F3 H' ∧ (∀ p o, F3 p = some o → F1 p = none → H1 p = none) ∧ F3 Dl = none ∧ H' Dl = some (.lst us) ∧ DaAll K F3 us acc ∧ acc.length ≤ i + 1 ∧
        lcGo s t el (wipeR ρ vs) (ds.drop (i + 1)) = .ok zs ∧ ys = acc ++ zs, fun H' n => ⟨ds.length - (i + 1), by omega, rfl, hlt, n⟩, fun x H3 hy => ?_⟩
      obtain ⟨F3, g3, hx⟩ := itd.yields i F2 H2 x H3 ds[i] gr f3 (List.getElem?_eq_getElem hlt) hy
      have gr3 := gr.trans g3
      refine ⟨F0, H0, F3, wipeR ρ vs, ds[i], ρ', ((r.grow g1).grow gr3).wipe vs, hx, i1, fun σ2 r2 o2 => ⟨wipe_out2 o2 hts, F0, H0, F3, ρ', r2, ?_⟩⟩
      rw [i2]
      intro F4 H4 g4
      have r4 := r2.grow g4
      have gr4 := gr3.trans g4
      have noF : ∀ {F' H' : Hp}, Grow F2 H2 F' H' → F' Dl = none := fun {F' H'} g => by
        cases q : F' Dl with
        | none => rfl
        | some o =>
          have z := g.new Dl o q f5
          rw [f6] at z; cases z
      rcases i3 with ⟨rfl, y, zs', j1, j2, rfl⟩ | ⟨rfl, j2⟩
      · refine iteT ?_
        refine ⟨F0, H0, F4, ρ', r4, ?_⟩
        rw [j1]
        intro F5 H5 g5 v hv
        have gr5 := gr4.trans g5
        have g25 := (g3.trans g4).trans g5
        refine ⟨us, g25.h _ _ f6, ?_, F5, acc ++ [y], us ++ [v], zs', gr5.f, Ex.mut gr5.h hD, Ex.mut gr5.in_ (noF g25), gr5.new, noF g25, upd_same, dpa_app (f7.up g25.f) (.one hv), by rw [List.length_append]; simp; omega, j2, by rw [f10]; simp⟩
        rw [dpa_len f7]
        exact Evl.sz_lt (by omega)
      · refine iteF ?_
        have g24 := g3.trans g4
        exact ⟨F4, acc, us, zs, gr4.f, gr4.h, gr4.in_, gr4.new, noF g24, g24.h _ _ f6, f7.up g24.f, by omega, j2, f10⟩
    · have e : i = ds.length := by omega
      subst e
      rw [List.drop_length] at f9
      cases f9
      rw [List.append_nil] at f10
      subst f10
      exact .inl ⟨itd.stops F2 H2 gr, q F2 H2 gr Dl us (Evl.fresh_back g1.h hD) f5 f6 f7⟩
  · exact q1.elim
end
section
variable {X : Cx} {W : WX} {tg iter elt : Expr} {ifs : List Expr} {scope : Scope} {own : List (Str × Nat)} {pos spos py : Pos} {it : Env → R (List D)} {s : D → Env → Option Env} {t : Env → R Bool} {el : Env → R D} {ts vs : List Nat}
theorem dn_lc (hc : X.calm = true) (hN : X.N.Nodup) (hi : DIB X W tg iter it) (ok : BlkOk X.N X.env.scope scope own)
    (hg : ∀ (s' : Shared) (H : Hp) (C : Addr) (cl : List (Str × Addr)) (fp : List Addr), DG (X.blk s' H scope (compEnvC scope cl C X.env) fp) ts tg s)
    (ht : ∀ (s' : Shared) (H : Hp) (C : Addr) (cl : List (Str × Addr)) (fp : List Addr), DTs (X.blk s' H scope (compEnvC scope cl C X.env) fp) W0 ifs t)
    (he : ∀ (s' : Shared) (H : Hp) (C : Addr) (cl : List (Str × Addr)) (fp : List Addr), DE (X.blk s' H scope (compEnvC scope cl C X.env) fp) W0 elt el)
    (hvs : own.map (·.2) = vs) (hts : ∀ j ∈ ts, j ∈ vs) (hs : ∀ x, foldedSetIterable iter X.env x = pure x := by intro _; rfl) :
    DN X W (.ListComp elt [⟨tg, iter, ifs, 0⟩] scope pos) (cLc it s t el vs) := by
  subst hvs
  exact
  ⟨pe_imp (pe_lc hc hN hi.pi ok (fun a b c d e => (hg a b c d e).pg) (fun a b c d e => (ht a b c d e).pts) (fun a b c d e => (he a b c d e).pe) hs) fun σ H Q k => lc_read hts k⟩
end
end DL

/-! DLe -/
namespace DL
open PySem L2 PySem.Spec PyProof.Rows
open Evl (Ex ex_l ex_t ex_rd)

/-! ### statements -/
/-- what is asked behind a statement that comes out so -/
def OOk (K : PySem.W.Frag) (mg : Str → Option Value) (W : WX) (F0 H0 F : Hp) (Z : Ends) : Out → Prop
  | .nx ρ => ∀ F' H' σ', Ex F F' → Rep K F0 H0 F' H' ρ σ' → Z.nx σ' H'
  | .rt d => ∀ v F' H', Ex F F' → Grow F0 H0 F' H' → Da K F' v d → Z.rt v H'
  | .ex x ρ => ∀ cls dd F' H' σ', Ex F F' → Rep K F0 H0 F' H' ρ σ' → XRep K mg F' x cls dd → W cls dd σ' H'
  | .bk ρ => ∀ F' H' σ', Ex F F' → Rep K F0 H0 F' H' ρ σ' → Z.bk σ' H'
  | .ct ρ => ∀ F' H' σ', Ex F F' → Rep K F0 H0 F' H' ρ σ' → Z.ct σ' H'
  | .bad => False
theorem OOk.up {K : PySem.W.Frag} {mg : Str → Option Value} {W : WX} {F0 H0 F F' : Hp} {Z : Ends} {o : Out} (h : OOk K mg W F0 H0 F Z o) (e : Ex F F') : OOk K mg W F0 H0 F' Z o := by
  cases o with
  | nx ρ => exact fun F2 H2 σ2 e2 r => h F2 H2 σ2 (e.trans e2) r
  | rt d => exact fun v F2 H2 e2 r => h v F2 H2 (e.trans e2) r
  | ex x ρ => exact fun c d F2 H2 σ2 e2 r => h c d F2 H2 σ2 (e.trans e2) r
  | bk ρ => exact fun F2 H2 σ2 e2 r => h F2 H2 σ2 (e.trans e2) r
  | ct ρ => exact fun F2 H2 σ2 e2 r => h F2 H2 σ2 (e.trans e2) r
  | bad => exact h
def tS (K : PySem.W.Frag) (mg : Str → Option Value) (W : WX) (g : Env → Out) : TS := fun Z σ H => ∃ F0 H0 F ρ, Rep K F0 H0 F H ρ σ ∧ OOk K mg W F0 H0 F Z (g ρ)
structure DS (X : Cx) (W : WX) (st : Stmt) (g : Env → Out) : Prop where
  ps : PS X st (tS X.K X.mg W g)
structure DSs (X : Cx) (W : WX) (st : List Stmt) (g : Env → Out) : Prop where
  pss : PSs X st (tS X.K X.mg W g)
/-- an expression's result, then what is done -/
def exB {α : Type} (ρ : Env) (r : R α) (k : α → Out) : Out := match r with
  | .ok a => k a
  | .exc x => .ex x ρ
  | .bad => .bad
theorem exB_ok {α : Type} {K : PySem.W.Frag} {mg : Str → Option Value} {W : WX} {F0 H0 F H : Hp} {Z : Ends} {ρ : Env} {σ : L2.St} {r : R α} {k : α → Out} {P : α → Hp → Hp → Prop} (rp : Rep K F0 H0 F H ρ σ) (h : OOk K mg W F0 H0 F Z (exB ρ r k))
    (q : ∀ a F' H', Grow F H F' H' → OOk K mg W F0 H0 F' Z (k a) → P a F' H') : ROk K mg (fun c d H' => W c d σ H') F H P r := by
  cases r with
  | ok a => exact fun F' H' g => q a F' H' g (h.up g.f)
  | exc x => exact fun c d F' H' g xr => h c d F' H' σ g.f (rp.grow g) xr
  | bad => exact h
def sNx : Env → Out := fun ρ => .nx ρ
def sSeq (g h : Env → Out) : Env → Out := fun ρ => match g ρ with
  | .nx ρ' => h ρ'
  | o => o
section
variable {X : Cx} {W : WX} {st : Stmt} {sts : List Stmt} {e e1 e2 : Expr} {pos : Pos} {g h : Env → Out} {f : Env → R D}
theorem dss_nil : DSs X W [] sNx := ⟨pss_imp pss_nil fun Z σ H ⟨F0, H0, F, ρ, r, k⟩ => k F H σ (.refl F) r⟩
theorem dss_cons (h1 : DS X W st g) (h2 : DSs X W sts h) : DSs X W (st :: sts) (sSeq g h) := ⟨pss_imp (pss_cons h1.ps h2.pss) fun Z σ H ⟨F0, H0, F, ρ, r, k⟩ => by
  have k : OOk X.K X.mg W F0 H0 F Z (match g ρ with | .nx ρ' => h ρ' | o => o) := k
  refine ⟨F0, H0, F, ρ, r, ?_⟩
  cases hg : g ρ with
  | nx ρ' =>
    rw [hg] at k
    exact fun F' H' σ' e r' => ⟨F0, H0, F', ρ', r', k.up e⟩
  | rt d => rw [hg] at k; exact k
  | ex x ρ' => rw [hg] at k; exact k
  | bk ρ' => rw [hg] at k; exact k
  | ct ρ' => rw [hg] at k; exact k
  | bad => rw [hg] at k; exact k⟩
theorem dss_one (h1 : DS X W st g) : DSs X W [st] g := ⟨pss_one h1.ps⟩
theorem ds_pass : DS X W (.Pass pos) sNx := ⟨ps_imp ps_pass fun Z σ H ⟨F0, H0, F, ρ, r, k⟩ => k F H σ (.refl F) r⟩
def sBk : Env → Out := fun ρ => .bk ρ
def sCt : Env → Out := fun ρ => .ct ρ
theorem ds_break : DS X W (.Break pos) sBk := ⟨ps_imp ps_break fun Z σ H ⟨F0, H0, F, ρ, r, k⟩ => k F H σ (.refl F) r⟩
theorem ds_cont : DS X W (.Continue pos) sCt := ⟨ps_imp ps_continue fun Z σ H ⟨F0, H0, F, ρ, r, k⟩ => k F H σ (.refl F) r⟩
def sRet (f : Env → R D) : Env → Out := fun ρ => exB ρ (f ρ) fun d => .rt d
theorem ds_ret (ha : DE X W e f) : DS X W (.Return (some e) pos) (sRet f) := ⟨ps_imp (ps_ret ha.pe) fun Z σ H ⟨F0, H0, F, ρ, r, k⟩ => ⟨F0, H0, F, ρ, r, exB_ok r k fun d F' H' gr q v hv => q v F' H' (.refl _) (r.g.trans gr) hv⟩⟩
def sRetN : Env → Out := fun _ => .rt .none
theorem ds_retN : DS X W (.Return none pos) sRetN := ⟨ps_imp ps_retN fun Z σ H ⟨F0, H0, F, ρ, r, k⟩ => k .non F H (.refl F) r.g .non⟩
def sIf (t : Env → R Bool) (g h : Env → Out) : Env → Out := fun ρ => exB ρ (t ρ) fun b => if b = true then g ρ else h ρ
theorem ds_if {t : Env → R Bool} {s1 s2 : List Stmt} (hc : DT X W e t) (h1 : DSs X W s1 g) (h2 : DSs X W s2 h) : DS X W (.If e s1 s2 pos) (sIf t g h) :=
  ⟨ps_imp (ps_if hc.pt h1.pss h2.pss) fun Z σ H ⟨F0, H0, F, ρ, r, k⟩ => ⟨F0, H0, F, ρ, r, exB_ok r k fun b F' H' gr q => by
    cases b with
    | true => exact ⟨F0, H0, F', ρ, r.grow gr, q⟩
    | false => exact ⟨F0, H0, F', ρ, r.grow gr, q⟩⟩⟩
def sDrop (f : Env → R D) : Env → Out := fun ρ => exB ρ (f ρ) fun _ => .nx ρ
theorem ds_drop (ha : DE X W e f) (hs : swapsWith e none pos.line X.env = pure false := by rfl) : DS X W (.Expr e pos) (sDrop f) :=
  ⟨ps_imp (ps_expr ha.pe hs) fun Z σ H ⟨F0, H0, F, ρ, r, k⟩ => ⟨F0, H0, F, ρ, r, exB_ok r k fun d F' H' gr q v hv => q F' H' σ (.refl _) (r.grow gr)⟩⟩
/-- x = e -/
def sAsg (i : Nat) (f : Env → R SV) : Env → Out := fun ρ => exB ρ (f ρ) fun sv => .nx (ρ.set i sv)
theorem ds_asg {i : Nat} {x : Str} {f : Env → R SV} {pos' : Pos} (hN : X.N.Nodup) (hi : X.N[i]? = some x) (hx : Loc X.env.scope x) (ha : DX X W e f) (hs : swapsWith e (some (.Name x pos')) pos.line X.env = pure false := by rfl)
    (hf : X.fn x = true ∨ X.env.scope.names.lookup x = some .local := by first | exact .inl rfl | exact .inr rfl | assumption) : DS X W (.Assign [.Name x pos'] e pos) (sAsg i f) :=
  ⟨ps_imp (ps_set hN hi hx ha.pe hs hf) fun Z σ H ⟨F0, H0, F, ρ, r, k⟩ => ⟨F0, H0, F, ρ, r, exB_ok r k fun sv F' H' gr q v hv => q F' H' _ (.refl _) (r.setSV gr hv i)⟩⟩
/-- x = [.. for ..] on one line, x a plain local -/
theorem ds_setLc {i : Nat} {y : Str} {py : Pos} {tg iter elt : Expr} {ifs : List Expr} {scope : Scope} {own : List (Str × Nat)} {p : Pos} {it : Env → R (List D)} {s : D → Env → Option Env} {t : Env → R Bool} {el : Env → R D} {ts vs : List Nat}
    (hc : X.calm = true) (hN : X.N.Nodup) (hy : X.N[i]? = some y) (hyl : X.env.scope.names.lookup y = some .local)
    (hsw : swapsWith (.ListComp elt [⟨tg, iter, ifs, 0⟩] scope p) (some (.Name y py)) pos.line X.env = pure true) (hi : DIB X W tg iter it) (ok : BlkOk X.N X.env.scope scope own)
    (hg : ∀ (s' : Shared) (H : Hp) (C : Addr) (cl : List (Str × Addr)) (fp : List Addr), DG (X.blk s' H scope (compEnvC scope cl C X.env) fp) ts tg s)
    (ht : ∀ (s' : Shared) (H : Hp) (C : Addr) (cl : List (Str × Addr)) (fp : List Addr), DTs (X.blk s' H scope (compEnvC scope cl C X.env) fp) W0 ifs t)
    (he : ∀ (s' : Shared) (H : Hp) (C : Addr) (cl : List (Str × Addr)) (fp : List Addr), DE (X.blk s' H scope (compEnvC scope cl C X.env) fp) W0 elt el)
    (hvs : own.map (·.2) = vs) (hts : ∀ j ∈ ts, j ∈ vs) (hs : ∀ x, foldedSetIterable iter X.env x = pure x := by intro _; rfl) :
    DS X W (.Assign [.Name y py] (.ListComp elt [⟨tg, iter, ifs, 0⟩] scope p) pos) (sAsg i (asOwn (cLc it s t el vs))) := by
  subst hvs
  exact
  ⟨ps_imp (ps_setLc (wi := tIB X.K X.mg W it) (g := tG X.K ts s) (tt := tD X.K X.mg W0 t) (te := tE X.K X.mg W0 el) hc hN hy hyl hsw hi.pi ok (fun a b c d e => (hg a b c d e).pg) (fun a b c d e => (ht a b c d e).pts) (fun a b c d e => (he a b c d e).pe) hs) fun Z σ H ⟨F0, H0, F, ρ, r, k⟩ => by
    refine lc_read hts ⟨F0, H0, F, ρ, r, ?_⟩
    have k : OOk X.K X.mg W F0 H0 F Z (exB ρ ((cLc it s t el (own.map (·.2)) ρ).bind fun d => .ok (.own d)) fun sv => .nx (ρ.set i sv)) := k
    have q := exB_ok (P := fun (sv : SV) F' H' => ∀ v, SVal X.K H F' H' v sv → Z.nx (σ.set i (some v)) H') r k fun sv F' H' gr q v hv => q F' H' _ (.refl _) (r.setSV gr hv i)
    exact (map_ok (k := fun d => SV.own d) q).imp fun ds F' H' _ gr z p vs h1 h2 h3 h4 => z _ ⟨p, vs, rfl, h1, h2, h3, h4⟩⟩
/-- targets of any form = frozen data -/
def sTo (s : D → Env → Option Env) (f : Env → R D) : Env → Out := fun ρ => exB ρ (f ρ) fun d => match s d ρ with
  | some ρ' => .nx ρ'
  | none => .bad
theorem ds_to {tg : Expr} {ts : List Nat} {s : D → Env → Option Env} (ha : DE X W e f) (hg : DG X ts tg s) (hs : swapsWithSole [tg] e pos.line X.env = pure false := by rfl) (hw : swappedStores [tg] e X.env = pure none := by rfl)
    (h1 : (assignEach [tg] X.env).map (·.2) = [assign tg X.env] := by rfl) : DS X W (.Assign [tg] e pos) (sTo s f) :=
  ⟨ps_imp (ps_asg ha.pe hg.pg hs hw h1) fun Z σ H ⟨F0, H0, F, ρ, r, k⟩ => ⟨F0, H0, F, ρ, r, exB_ok r k fun d F' H' gr q v hv => by
    cases hd : s d ρ with
    | none => rw [hd] at q; exact q.elim
    | some ρ' =>
      rw [hd] at q
      exact ⟨F0, H0, F', ρ, d, ρ', r.grow gr, hv, hd, fun σ' r' _ => q F' H' σ' (.refl _) r'⟩⟩⟩
/-- a, b = e1, e2 -/
def sPar (i j : Nat) (f g : Env → R SV) : Env → Out := fun ρ => exB ρ (f ρ) fun x => exB ρ (g ρ) fun y => .nx ((ρ.set i x).set j y)
theorem ds_par {i j : Nat} {x y : Str} {px py pt : Pos} {kt k2 pt2} {f g : Env → R SV} (hc : X.calm = true) (hN : X.N.Nodup) (hi : X.N[i]? = some x) (hj : X.N[j]? = some y) (hij : i ≠ j)
    (hx : X.env.scope.names.lookup x = some .local) (hy : X.env.scope.names.lookup y = some .local) (ha : DX X W e1 f) (hb : DX X W e2 g)
    (hw : swappedStores [.Tuple [.Name x px, .Name y py] kt pt] (.Tuple [e1, e2] k2 pt2) X.env = pure (some [x, y]))
    (hs : swapsWithSole [.Tuple [.Name x px, .Name y py] kt pt] (.Tuple [e1, e2] k2 pt2) pos.line X.env = pure false := by rfl)
    (he1 : starEach [e1, e2] X.env = (false, eval e1 X.env) :: starEach [e2] X.env := by rfl) (he2 : starEach [e2] X.env = (false, eval e2 X.env) :: starEach [] X.env := by rfl) :
    DS X W (.Assign [.Tuple [.Name x px, .Name y py] kt pt] (.Tuple [e1, e2] k2 pt2) pos) (sPar i j f g) :=
  ⟨ps_imp (ps_par hc hN hi hj hij hx hy (pa_cons ha.pe (pa_cons hb.pe pa_nil he2) he1) hw hs) fun Z σ H ⟨F0, H0, F, ρ, r, k⟩ => ⟨F0, H0, F, ρ, r, exB_ok r k fun a F1 H1 g1 q1 v hv => by
    refine ⟨F0, H0, F1, ρ, r.grow g1, exB_ok (r.grow g1) q1 fun b F2 H2 g2 q2 u hu => ⟨v, u, rfl, ?_⟩⟩
    have hv2 : SVal X.K H F2 H2 v a := by
      cases a with
      | no => exact hv
      | val d => exact Da.up hv g2.f
      | own ds =>
        obtain ⟨p, vs, rfl, h1, h2, h3, h4⟩ := hv
        refine ⟨p, vs, rfl, h1, ?_, g2.h _ _ h3, h4.up g2.f⟩
        cases z : F2 p with
        | none => rfl
        | some o =>
          have w := g2.new p o z h2
          rw [h3] at w; cases w
      | dic ds =>
        obtain ⟨p, vs, rfl, h1, h2, h3, h4⟩ := hv
        refine ⟨p, vs, rfl, h1, ?_, g2.h _ _ h3, h4.up g2.f⟩
        cases z : F2 p with
        | none => rfl
        | some o =>
          have w := g2.new p o z h2
          rw [h3] at w; cases w
    have r1 := r.setSV (g1.trans g2) hv2 i
    exact q2 F2 H2 _ (.refl _) (by
      have r0 := (r.grow g1)
      have rr : Rep X.K F0 H0 F1 H1 (ρ.set i a) (σ.set i (some v)) := r.setSV g1 hv i
      exact rr.setSV g2 hu j)⟩⟩
/-- an own list given away at this statement: frozen ahead of it -/
def sFrz (i : Nat) (g : Env → Out) : Env → Out := fun ρ => g (frz i ρ)
theorem ds_frz (i : Nat) (h1 : DS X W st g) : DS X W st (sFrz i g) := ⟨ps_imp h1.ps fun Z σ H ⟨F0, H0, F, ρ, r, k⟩ => by
  obtain ⟨F', e, r'⟩ := r.frz i
  exact ⟨F0, H0, F', _, r', k.up e⟩⟩
/-- x += e, x -= e -/
def sAug (i : Nat) (o : D → D → Option D) (f : Env → R D) : Env → Out := fun ρ => match cVar i ρ with
  | .ok a => exB ρ (f ρ) fun b => match o a b with
    | some c => .nx (ρ.set i (.val c))
    | none => .bad
  | _ => .bad
theorem ds_aug {i : Nat} {x : Str} {op : Operator} {ti : TIp} {o : D → D → Option D} {pos' : Pos} (hN : X.N.Nodup) (hi : X.N[i]? = some x) (hx : Loc X.env.scope x) (ho : PIp X op ti) (hr : RdO X.K ti o) (ha : DE X W e f)
    (hf : X.fn x = true ∨ X.env.scope.names.lookup x = some .local := by first | exact .inl rfl | exact .inr rfl | assumption) : DS X W (.AugAssign (.Name x pos') op e pos) (sAug i o f) :=
  ⟨ps_imp (ps_aug hN hi hx ha.pe ho hf) fun Z σ H ⟨F0, H0, F, ρ, r, k⟩ => by
    have k : OOk X.K X.mg W F0 H0 F Z (match cVar i ρ with | .ok a => exB ρ (f ρ) fun b => (match o a b with | some c => .nx (ρ.set i (.val c)) | none => .bad) | _ => .bad) := k
    cases hc : cVar i ρ with
    | ok a =>
      rw [hc] at k
      have hρ : ρ[i]? = some (.val a) := by
        unfold cVar at hc
        split at hc
        · rename_i d e; cases hc; exact e
        · cases hc
      obtain ⟨v, e1, e2⟩ := r.val i a hρ
      refine ⟨v, e1, F0, H0, F, ρ, r, exB_ok r k fun b F' H' gr q u hu => ?_⟩
      cases hq : o a b with
      | none => rw [hq] at q; exact q.elim
      | some c =>
        rw [hq] at q
        exact hr F' H' v u a b c gr.in_ (.fr (e2.up gr.f)) (.fr hu) hq _ fun F2 H2 g2 w hw => q F2 H2 _ g2.f (((r.grow gr).grow g2).setVal hw i)
    | exc x => rw [hc] at k; exact k.elim
    | bad => rw [hc] at k; exact k.elim⟩
/-- + of ints, texts in place -/
def oAugAdd : D → D → Option D
  | .int i, .int j => some (.int (i + j))
  | .str x, .str y => if x.length + y.length ≤ 100000 then some (.str (x ++ y)) else none
  | _, _ => none
theorem ip_addD : PIp X .Add (fun x y H Q => (rI0 fun i j => .int (i + j)) x y H Q ∨ (∃ i j, x = .str i ∧ y = .str j ∧ i.length + j.length ≤ sizeLine ∧ Q (.str (i ++ j)) H)) := fun pins s σ H x y v u Q I r1 r2 h => by
  rcases h with h | h
  · exact iop_add pins s σ H x y v u Q I r1 r2 h
  · exact iop_add_str pins s σ H x y v u Q I r1 r2 h
theorem rd_augadd {K : PySem.W.Frag} : RdO K (fun x y H Q => (rI0 fun i j => .int (i + j)) x y H Q ∨ (∃ i j, x = .str i ∧ y = .str j ∧ i.length + j.length ≤ sizeLine ∧ Q (.str (i ++ j)) H)) oAugAdd := fun F H x y a b c e hx hy hc Q k => by
  cases a <;> cases b <;> simp only [oAugAdd] at hc <;> try (cases hc; done)
  · cases hc; exact .inl ⟨_, _, hx.int, hy.int, flat_q e (.int _) k⟩
  · split at hc
    · rename_i z
      cases hc
      exact .inr ⟨_, _, hx.str, hy.str, Evl.sz_of z, flat_q e (.str _) k⟩
    · cases hc
theorem ip_subD : PIp X .Sub (rI0 fun i j => .int (i - j)) := fun pins s σ H x y v u Q I r1 r2 h => iop_sub pins s σ H x y v u Q I r1 r2 h

/-- x.append(e), x an own list -/
def sApp (i : Nat) (f : Env → R D) : Env → Out := fun ρ => match ρ[i]? with
  | some (.own ds) => exB ρ (f ρ) fun d => if ds.length < 100000 then .nx (ρ.set i (.own (ds ++ [d]))) else .bad
  | _ => .bad
theorem Rep.mut {K : PySem.W.Frag} {F0 H0 F H : Hp} {ρ : Env} {σ : L2.St} {i : Nat} {ds es : List D} {p : Addr} {us : List V} (r : Rep K F0 H0 F H ρ σ) (hi : ρ[i]? = some (.own ds)) (hp : σ[i]? = some (some (.ref p))) (hH : ∃ ws, H p = some (.lst ws)) (h0 : H0 p = none) (hF : F p = none) (ha : DaAll K F us es) :
    Rep K F0 H0 F (upd H p (.lst us)) (ρ.set i (.own es)) σ := by
  have hl : i < ρ.length := (List.getElem?_eq_some_iff.mp hi).1
  have pn : ∀ {j : Nat} {xs : List D} {p' : Addr}, i ≠ j → ρ[j]? = some (.own xs) → σ[j]? = some (some (.ref p')) → p' ≠ p := fun {j xs p'} ne e1 e2 z => by
    subst z
    exact r.inj i j _ _ p' ne hi e1 hp e2
  refine ⟨⟨r.g.f, Ex.mut r.g.h h0, Ex.mut r.g.in_ hF, r.g.new⟩, by simp [r.len], fun j d e => ?_, fun j xs e => ?_, fun j k xs ys q ne e1 e2 e3 e4 => ?_, fun j xs e => ?_, fun j k xs ys q ne e1 e2 e3 e4 => ?_⟩
  · rcases lset_get e with ⟨_, z⟩ | ⟨_, z⟩
    · cases z
    · exact r.val j d z
  · rcases lset_get e with ⟨rfl, z⟩ | ⟨ne, z⟩
    · cases z
      exact ⟨p, us, hp, h0, hF, upd_same, ha⟩
    · obtain ⟨p', vs, q1, q2, q3, q4, q5⟩ := r.own j xs z
      exact ⟨p', vs, q1, q2, q3, by rw [upd_ne (pn ne z q1)]; exact q4, q5⟩
  · rcases lset_get e1 with ⟨z1, _⟩ | ⟨_, z1⟩
    · rcases lset_get e2 with ⟨z2, _⟩ | ⟨n2, z2⟩
      · exact ne (z1.symm.trans z2)
      · subst z1
        exact r.inj i k ds ys q ne hi z2 e3 e4
    · rcases lset_get e2 with ⟨z2, _⟩ | ⟨_, z2⟩
      · subst z2
        exact r.inj j i xs ds q ne z1 hi e3 e4
      · exact r.inj j k xs ys q ne z1 z2 e3 e4
  · rcases lset_get e with ⟨_, z⟩ | ⟨_, z⟩
    · cases z
    · obtain ⟨p', vs, q1, q2, q3, q4, q5⟩ := r.dic j xs z
      refine ⟨p', vs, q1, q2, q3, ?_, q5⟩
      rw [upd_ne fun e => ?_]
      · exact q4
      · obtain ⟨ws, hw⟩ := hH
        rw [e, hw] at q4
        cases q4
  · rcases lset_get e1 with ⟨_, z⟩ | ⟨_, z1⟩
    · cases z
    · rcases lset_get e2 with ⟨_, z⟩ | ⟨_, z2⟩
      · cases z
      · exact r.injd j k xs ys q ne z1 z2 e3 e4
/-- an own dict written -/
theorem Rep.mutD {K : PySem.W.Frag} {F0 H0 F H : Hp} {ρ : Env} {σ : L2.St} {i : Nat} {ds es : List (Key × D)} {p : Addr} {us : List (Key × V)} (r : Rep K F0 H0 F H ρ σ) (hi : ρ[i]? = some (.dic ds)) (hp : σ[i]? = some (some (.ref p))) (hH : ∃ ws, H p = some (.dK ws))
    (h0 : H0 p = none) (hF : F p = none) (ha : DKs K F us es) : Rep K F0 H0 F (upd H p (.dK us)) (ρ.set i (.dic es)) σ := by
  have hl : i < ρ.length := (List.getElem?_eq_some_iff.mp hi).1
  have pn : ∀ {j : Nat} {xs : List (Key × D)} {p' : Addr}, i ≠ j → ρ[j]? = some (.dic xs) → σ[j]? = some (some (.ref p')) → p' ≠ p := fun {j xs p'} ne e1 e2 z => by
    subst z
    exact r.injd i j _ _ p' ne hi e1 hp e2
  refine ⟨⟨r.g.f, Ex.mut r.g.h h0, Ex.mut r.g.in_ hF, r.g.new⟩, by simp [r.len], fun j d e => ?_, fun j xs e => ?_, fun j k xs ys q ne e1 e2 e3 e4 => ?_, fun j xs e => ?_, fun j k xs ys q ne e1 e2 e3 e4 => ?_⟩
  · rcases lset_get e with ⟨_, z⟩ | ⟨_, z⟩
    · cases z
    · exact r.val j d z
  · rcases lset_get e with ⟨_, z⟩ | ⟨_, z⟩
    · cases z
    · obtain ⟨p', vs, q1, q2, q3, q4, q5⟩ := r.own j xs z
      refine ⟨p', vs, q1, q2, q3, ?_, q5⟩
      rw [upd_ne fun e => ?_]
      · exact q4
      · obtain ⟨ws, hw⟩ := hH
        rw [e, hw] at q4
        cases q4
  · rcases lset_get e1 with ⟨_, z⟩ | ⟨_, z1⟩
    · cases z
    · rcases lset_get e2 with ⟨_, z⟩ | ⟨_, z2⟩
      · cases z
      · exact r.inj j k xs ys q ne z1 z2 e3 e4
  · rcases lset_get e with ⟨rfl, z⟩ | ⟨ne, z⟩
    · cases z
      exact ⟨p, us, hp, h0, hF, upd_same, ha⟩
    · obtain ⟨p', vs, q1, q2, q3, q4, q5⟩ := r.dic j xs z
      exact ⟨p', vs, q1, q2, q3, by rw [upd_ne (pn ne z q1)]; exact q4, q5⟩
  · rcases lset_get e1 with ⟨z1, _⟩ | ⟨_, z1⟩
    · rcases lset_get e2 with ⟨z2, _⟩ | ⟨n2, z2⟩
      · exact ne (z1.symm.trans z2)
      · subst z1
        exact r.injd i k ds ys q ne hi z2 e3 e4
    · rcases lset_get e2 with ⟨z2, _⟩ | ⟨_, z2⟩
      · subst z2
        exact r.injd j i xs ds q ne z1 hi e3 e4
      · exact r.injd j k xs ys q ne z1 z2 e3 e4
theorem ds_app {i : Nat} {x : Str} {p1 p2 p3 : Pos} (hN : X.N[i]? = some x) (hv : Vis X.env.scope x) (ha : DE X W e f) (hd : (x == ("__debug__" : Str)) = false := by decide) (hcd : (x == ("__classdict__" : Str)) = false := by decide)
    (hbase : attributeBase (.Name x p1) "append" X.env (eval (.Name x p1) X.env) = eval (.Name x p1) X.env := by rfl)
    (hfew : ((backTo p3 (starEach [e] X.env)).all (fun x => !x.1) && (backToKw p3 (keywordEach [] X.env)).all (fun x => x.1.isSome)
      && decide ([e].length + ([] : List Keyword).length + (if ([] : List Keyword).isEmpty then 0 else 1) < 30)) = true := by rfl)
    (hline : (p2.endLine == p3.line) = true := by rfl) (hs : starEach [e] X.env = (false, eval e X.env) :: starEach [] X.env := by rfl) (hplain : (backTo p3 (starEach [] X.env)).any (·.1) = false := by rfl)
    (hsw : swapsWith (.Call (.Attribute (.Name x p1) "append" p2) [e] [] p3) none pos.line X.env = pure false := by rfl) :
    DS X W (.Expr (.Call (.Attribute (.Name x p1) "append" p2) [e] [] p3) pos) (sApp i f) :=
  ⟨ps_imp (ps_expr (pe_bm PySem.F.plainAttrs_list PySem.F.slot_list_append PySem.F.type_list_append mt_append (pe_var hN hv hd hcd) (pa_cons ha.pe pa_nil hs) hbase hfew hline hs hplain) hsw) fun Z σ H ⟨F0, H0, F, ρ, r, k⟩ => by
    have k : OOk X.K X.mg W F0 H0 F Z (match ρ[i]? with | some (.own ds) => exB ρ (f ρ) fun d => (if ds.length < 100000 then .nx (ρ.set i (.own (ds ++ [d]))) else .bad) | _ => .bad) := k
    split at k
    · rename_i ds hi
      obtain ⟨p, vs, e1, e2, e3, e4, e5⟩ := r.own i ds hi
      refine ⟨.ref p, e1, .inl ⟨rfl, _, Or.inl (Or.inl e4)⟩, F0, H0, F, ρ, r, exB_ok r k fun d F' H' gr q v hv => ?_⟩
      split at q
      · rename_i hlen
        have r' := r.grow gr
        have fp : F' p = none := by
          cases z : F' p with
          | none => rfl
          | some o =>
            have w := gr.new p o z e3
            rw [e4] at w; cases w
        have l5 := dpa_len e5
        refine ⟨p, vs, v, rfl, rfl, gr.h _ _ e4, Evl.sz_lt (by omega), ?_⟩
        exact q F' _ σ (.refl _) (r'.mut hi e1 ⟨_, gr.h _ _ e4⟩ e2 fp (dpa_app (e5.up gr.f) (.one hv)))
      · exact q.elim
    · exact k.elim⟩

/-! ### loops -/
def forLoop (s : D → Env → Option Env) (body : Env → Out) : List D → Env → Out
  | [], ρ => .nx ρ
  | d :: ds, ρ => match s d ρ with
    | none => .bad
    | some ρ1 => match body ρ1 with
      | .nx ρ2 => forLoop s body ds ρ2
      | .ct ρ2 => forLoop s body ds ρ2
      | .bk ρ2 => .nx ρ2
      | o => o
def sFor (it : Env → R (List D)) (s : D → Env → Option Env) (body : Env → Out) : Env → Out := fun ρ => exB ρ (it ρ) fun ds => forLoop s body ds ρ
theorem ds_for {tg iter : Expr} {body : List Stmt} {it : Env → R (List D)} {s : D → Env → Option Env} {ts : List Nat} (hp : PassesOwn (model X.prog X.w) X.A X.env X.xe) (hc : X.calm = true) (hi : DI X W tg iter it) (hg : DG X ts tg s) (hb : DSs X W body g)
    (hs : ∀ x, foldedSetIterable iter X.env x = pure x := by intro _; rfl) : DS X W (.For tg iter body [] pos) (sFor it s g) :=
  ⟨ps_imp (ps_for hp hc hi.pi hg.pg hb.pss hs) fun Z σ H ⟨F0, H0, F, ρ, r, k⟩ => ⟨F0, H0, F, ρ, r, exB_ok r k fun ds F1 H1 g1 q1 J itd => by
    refine ⟨fun i m σ2 H2 => m = ds.length - i ∧ i ≤ ds.length ∧ ∃ F2 ρ2, Ex F1 F2 ∧ Rep X.K F0 H0 F2 H2 ρ2 σ2 ∧ OOk X.K X.mg W F0 H0 F2 Z (forLoop s g (ds.drop i) ρ2), ⟨ds.length, by simp, Nat.zero_le _, F1, ρ, .refl _, r.grow g1, q1⟩, ?_⟩
    rintro i m σ2 H2 ⟨rfl, hi, F2, ρ2, f1, r2, k2⟩
    by_cases hlt : i < ds.length
    · rw [List.drop_eq_getElem_cons hlt] at k2
      unfold forLoop at k2
      refine .inr ⟨itd.goes i F2 H2 ⟨f1, r2.g.in_⟩ hlt, fun σ3 H3 => ∃ F3 ρ3, Ex F1 F3 ∧ Rep X.K F0 H0 F3 H3 ρ3 σ3 ∧ OOk X.K X.mg W F0 H0 F3 Z (forLoop s g (ds.drop (i + 1)) ρ3), fun σ3 H3 n => ⟨ds.length - (i + 1), by omega, rfl, hlt, n⟩, fun x H3 hy => ?_⟩
      obtain ⟨F3, g3, hx⟩ := itd.yields i F2 H2 x H3 ds[i] ⟨f1, r2.g.in_⟩ r2.g.in_ (List.getElem?_eq_getElem hlt) hy
      have k3 := k2.up g3.f
      cases hd : s ds[i] ρ2 with
      | none => rw [hd] at k2; exact k2.elim
      | some ρ' =>
        rw [hd] at k3
        refine ⟨F0, H0, F3, ρ2, ds[i], ρ', r2.grow g3, hx, hd, fun σ4 r4 _ => ⟨F0, H0, F3, ρ', r4, ?_⟩⟩
        cases hb : g ρ' with
        | nx ρ5 =>
          have k3 : OOk X.K X.mg W F0 H0 F3 Z (match g ρ' with | .nx ρ2 => forLoop s g (ds.drop (i + 1)) ρ2 | .ct ρ2 => forLoop s g (ds.drop (i + 1)) ρ2 | .bk ρ2 => .nx ρ2 | o => o) := k3
          rw [hb] at k3
          exact fun F5 H5 σ5 e5 r5 => ⟨F5, ρ5, (f1.trans g3.f).trans e5, r5, k3.up e5⟩
        | ct ρ5 =>
          have k3 : OOk X.K X.mg W F0 H0 F3 Z (match g ρ' with | .nx ρ2 => forLoop s g (ds.drop (i + 1)) ρ2 | .ct ρ2 => forLoop s g (ds.drop (i + 1)) ρ2 | .bk ρ2 => .nx ρ2 | o => o) := k3
          rw [hb] at k3
          exact fun F5 H5 σ5 e5 r5 => ⟨F5, ρ5, (f1.trans g3.f).trans e5, r5, k3.up e5⟩
        | bk ρ5 =>
          have k3 : OOk X.K X.mg W F0 H0 F3 Z (match g ρ' with | .nx ρ2 => forLoop s g (ds.drop (i + 1)) ρ2 | .ct ρ2 => forLoop s g (ds.drop (i + 1)) ρ2 | .bk ρ2 => .nx ρ2 | o => o) := k3
          rw [hb] at k3
          exact k3
        | rt d =>
          have k3 : OOk X.K X.mg W F0 H0 F3 Z (match g ρ' with | .nx ρ2 => forLoop s g (ds.drop (i + 1)) ρ2 | .ct ρ2 => forLoop s g (ds.drop (i + 1)) ρ2 | .bk ρ2 => .nx ρ2 | o => o) := k3
          rw [hb] at k3
          exact k3
        | ex x ρ5 =>
          have k3 : OOk X.K X.mg W F0 H0 F3 Z (match g ρ' with | .nx ρ2 => forLoop s g (ds.drop (i + 1)) ρ2 | .ct ρ2 => forLoop s g (ds.drop (i + 1)) ρ2 | .bk ρ2 => .nx ρ2 | o => o) := k3
          rw [hb] at k3
          exact k3
        | bad =>
          have k3 : OOk X.K X.mg W F0 H0 F3 Z (match g ρ' with | .nx ρ2 => forLoop s g (ds.drop (i + 1)) ρ2 | .ct ρ2 => forLoop s g (ds.drop (i + 1)) ρ2 | .bk ρ2 => .nx ρ2 | o => o) := k3
          rw [hb] at k3
          exact k3
    · have e : i = ds.length := by omega
      subst e
      rw [List.drop_length] at k2
      exact .inl ⟨itd.stops F2 H2 ⟨f1, r2.g.in_⟩, k2 F2 H2 σ2 (.refl _) r2⟩⟩⟩
def whileLoop (t : Env → R Bool) (body : Env → Out) : Nat → Env → Out
  | 0, _ => .bad
  | n + 1, ρ => exB ρ (t ρ) fun b => if b = true then (match body ρ with
      | .nx ρ2 => whileLoop t body n ρ2
      | .ct ρ2 => whileLoop t body n ρ2
      | .bk ρ2 => .nx ρ2
      | o => o) else .nx ρ
def FUEL : Nat := 18446744073709551616
def sWhile (t : Env → R Bool) (body : Env → Out) : Env → Out := fun ρ => whileLoop t body FUEL ρ
theorem ds_while {body : List Stmt} {t : Env → R Bool} (hp : PassesOwn (model X.prog X.w) X.A X.env X.xe) (hc : DT X W e t) (hb : DSs X W body g) : DS X W (.While e body [] pos) (sWhile t g) :=
  ⟨ps_imp (ps_while hp hc.pt hb.pss) fun Z σ H ⟨F0, H0, F, ρ, r, k⟩ => by
    refine ⟨fun m σ2 H2 => ∃ F2 ρ2, Rep X.K F0 H0 F2 H2 ρ2 σ2 ∧ OOk X.K X.mg W F0 H0 F2 Z (whileLoop t g m ρ2), ⟨FUEL, F, ρ, r, k⟩, ?_⟩
    rintro m σ2 H2 ⟨F2, ρ2, r2, k2⟩
    cases m with
    | zero => exact k2.elim
    | succ m =>
      unfold whileLoop at k2
      refine ⟨F0, H0, F2, ρ2, r2, exB_ok r2 k2 fun b F3 H3 g3 q3 => ?_⟩
      cases b with
      | false => exact iteF (q3 F3 H3 σ2 (.refl _) (r2.grow g3))
      | true =>
        refine iteT ⟨fun σ' H' => ∃ F', Ex F3 F' ∧ ∃ ρ', Rep X.K F0 H0 F' H' ρ' σ' ∧ OOk X.K X.mg W F0 H0 F' Z (whileLoop t g m ρ'), fun σ' H' ⟨F', _, ρ', q⟩ => ⟨m, Nat.lt_succ_self m, F', ρ', q⟩, F0, H0, F3, ρ2, r2.grow g3, ?_⟩
        have q3 : OOk X.K X.mg W F0 H0 F3 Z (match g ρ2 with | .nx ρ2 => whileLoop t g m ρ2 | .ct ρ2 => whileLoop t g m ρ2 | .bk ρ2 => .nx ρ2 | o => o) := q3
        cases hb : g ρ2 with
        | nx ρ5 =>
          rw [hb] at q3
          exact fun F5 H5 σ5 e5 r5 => ⟨F5, e5, ρ5, r5, q3.up e5⟩
        | ct ρ5 =>
          rw [hb] at q3
          exact fun F5 H5 σ5 e5 r5 => ⟨F5, e5, ρ5, r5, q3.up e5⟩
        | bk ρ5 => rw [hb] at q3; exact q3
        | rt d => rw [hb] at q3; exact q3
        | ex x ρ5 => rw [hb] at q3; exact q3
        | bad => rw [hb] at q3; exact q3⟩
end

/-! ### defs and their calls -/
def toR : Out → R D
  | .nx _ => .ok .none
  | .rt d => .ok d
  | .ex x _ => .exc x
  | _ => .bad
/-- a def of m parameters and n names in all, its body g -/
def semOf (n m : Nat) (g : Env → Out) (ds : List D) : R D := if ds.length = m then toR (g (ds.map .val ++ List.replicate (n - m) .no)) else .bad
def spD (K : PySem.W.Frag) (mg : Str → Option Value) (m : Nat) (sem : List D → R D) : Sp := fun vs H Q E => ∃ F ds, Ex F H ∧ DaAll K F vs ds ∧ ds.length = m ∧ ROk K mg E F H (fun d F' H' => ∀ v, Da K F' v d → Q v H') (sem ds)
theorem rep_start {K : PySem.W.Frag} {F H : Hp} {vs : List V} {ds : List D} {N : List Str} (e : Ex F H) (h : DaAll K F vs ds) (hl : ds.length ≤ N.length) : Rep K F H F H (ds.map .val ++ List.replicate (N.length - ds.length) .no) (start N vs) := by
  have el := dpa_len h
  have noOwn : ∀ (i : Nat) xs, (ds.map SV.val ++ List.replicate (N.length - ds.length) .no)[i]? ≠ some (.own xs) := fun i xs z => by
    rw [List.getElem?_append] at z
    split at z
    · rw [List.getElem?_map] at z
      obtain ⟨_, _, z⟩ := Option.map_eq_some_iff.mp z
      cases z
    · rw [List.getElem?_replicate] at z
      split at z <;> cases z
  have noDic : ∀ (i : Nat) xs, (ds.map SV.val ++ List.replicate (N.length - ds.length) .no)[i]? ≠ some (.dic xs) := fun i xs z => by
    rw [List.getElem?_append] at z
    split at z
    · rw [List.getElem?_map] at z
      obtain ⟨_, _, z⟩ := Option.map_eq_some_iff.mp z
      cases z
    · rw [List.getElem?_replicate] at z
      split at z <;> cases z
  refine ⟨.refl e, by simp [L2.start, el], fun i d q => ?_, fun i xs z => absurd z (noOwn i xs), fun i j xs ys p _ z => absurd z (noOwn i xs), fun i xs z => absurd z (noDic i xs), fun i j xs ys p _ z => absurd z (noDic i xs)⟩
  rw [List.getElem?_append] at q
  split at q
  · rename_i hi
    rw [List.length_map] at hi
    rw [List.getElem?_map] at q
    obtain ⟨d', q1, q2⟩ := Option.map_eq_some_iff.mp q
    cases q2
    obtain ⟨v, q3, q4⟩ := dpa_get h q1
    refine ⟨v, ?_, q4⟩
    unfold L2.start
    rw [List.getElem?_append_left (by rw [List.length_map, el]; exact hi), List.getElem?_map, q3]
    rfl
  · rw [List.getElem?_replicate] at q
    split at q <;> cases q
section
variable {P : Program} {w : World} {K : PySem.W.Frag}
variable {mg : Str → Option Value} {base : Heap}
theorem fn_okD {x qual : Str} {st : Stmt} {f : Addr} {fd : FuncData} {N ps : List Str} {k n m : Nat} {g : Env → Out} {sem : List D → R D} (hsem : sem = semOf n m g) (hn : N.length = n) (hm : ps.length = m) (Fn : Fun K x qual st f fd) (S : FnScope N ps (defScope st))
    (hbody : ∀ (cdv : Value) (A : Around) (outer : List PySem.Env) (s : Shared) (H : Hp) (E : XK), Room k (A.deeper (envOfC qual (defScope st) s.heap.objs.size f cdv)) →
      Takes (cxOf (L2.CX P w) P w K mg base N qual (defScope st) f cdv A outer s H E) (fun cls d _ H => E cls d H) →
      PassesOwn (model P w) (A.deeper (envOfC qual (defScope st) s.heap.objs.size f cdv)) (envOfC qual (defScope st) s.heap.objs.size f cdv) (cxOf (L2.CX P w) P w K mg base N qual (defScope st) f cdv A outer s H E).xe →
      DSs (cxOf (L2.CX P w) P w K mg base N qual (defScope st) f cdv A outer s H E) (fun cls d _ H => E cls d H) (defBody st) g) :
    FnOk P w K mg base (L2.CX P w) (k + 1) f fd ps (spD K mg m sem) := by
  subst hsem hn hm
  refine Fn.okX S (fun vs H Q E ⟨F, ds, _, h2, h3, _⟩ => (dpa_len h2).trans h3) fun cdv A outer s H vs Q E hr hsp => ?_
  obtain ⟨F, ds, h1, h2, h3, h4⟩ := hsp
  have tk := takes_of (X := cxOf (L2.CX P w) P w K mg base N qual (defScope st) f cdv A outer s H E) (E := E) rfl rfl rfl rfl
  have hp := passes_of (X := cxOf (L2.CX P w) P w K mg base N qual (defScope st) f cdv A outer s H E) rfl
  refine ⟨_, (hbody cdv A outer s H E hr tk hp).pss, F, H, F, _, rep_start (N := N) h1 h2 ?_, ?_⟩
  · have := S.pre
    have l := congrArg List.length this
    rw [List.length_take] at l
    omega
  · have h4 : ROk K mg E F H (fun d F' H' => ∀ v, Da K F' v d → Q v H') (if ds.length = ps.length then toR (g (ds.map .val ++ List.replicate (N.length - ps.length) .no)) else .bad) := h4
    rw [if_pos h3] at h4
    rw [h3]
    cases hg : g (ds.map SV.val ++ List.replicate (N.length - ps.length) SV.no) with
    | nx ρ =>
      rw [hg] at h4
      exact fun F' H' σ' _ r => h4 F' H' r.g .non .non
    | rt d =>
      rw [hg] at h4
      exact fun v F' H' _ gr hv => h4 F' H' gr v hv
    | ex x ρ =>
      rw [hg] at h4
      exact fun cls dd F' H' σ' _ r xr => h4 cls dd F' H' r.g xr
    | bk ρ => rw [hg] at h4; exact h4.elim
    | ct ρ => rw [hg] at h4; exact h4.elim
    | bad => rw [hg] at h4; exact h4.elim
end
end DL

/-! DLt -/
namespace DL
open PySem L2 PySem.Spec PyProof.Rows
open Evl (Ex ex_l ex_t ex_rd)

/-! ### try with except clauses, some of them with a name -/
abbrev Clause := Value × Option Nat × (Addr → Value → Option Addr → TS)
/-- the ends behind a suite that held the error in slot i -/
def unEnds (i : Nat) (Z : Ends) : Ends where
  nx := fun σ H => Z.nx (σ.set i none) H
  rt := Z.rt
  bk := fun σ H => Z.bk (σ.set i none) H
  ct := fun σ H => Z.ct (σ.set i none) H
def wMix (K : PySem.W.Frag) (Wo : WX) (Z : Ends) : List Clause → WX
  | [] => Wo
  | (c, none, ts) :: r => fun cls d σ H => ∃ b, PySem.W.exmOne K cls c = some b ∧ (b = true → ∀ a, H a = none → ts a cls d Z σ H) ∧ (b = false → wMix K Wo Z r cls d σ H)
  | (c, some i, ts) :: r => fun cls d σ H => ∃ b, PySem.W.exmOne K cls c = some b ∧ (b = true → ∀ a, H a = none → ts a cls d (unEnds i Z) (σ.set i (some (.ref a))) H) ∧ (b = false → wMix K Wo Z r cls d σ H)
/-- a suite, with the error at a in the hand -/
abbrev SuiteOk (X : Cx) (sts : List Stmt) (ts : Addr → Value → Option Addr → TS) : Prop := ∀ (a : Addr) (ob : Obj) (cls : Value) (d : Option Addr) (pn : List (Addr × Obj)), Zc cls d ob → (∃ ws, ob.data = .fields ws) → PSs (X.suite a ((a, ob) :: pn)) sts (ts a cls d)
inductive HdM (X : Cx) : List ExceptHandler → List Clause → Prop
  | nil : HdM X [] []
  | plain {x : Str} {c : Value} {ts : Addr → Value → Option Addr → TS} {b : Stmt} {rest : List Stmt} {p1 p2 : Pos} {hs : List ExceptHandler} {l : List Clause} (nm : Names X x c) (su : SuiteOk X (b :: rest) ts) (r : HdM X hs l) :
      HdM X (.ExceptHandler (some (.Name x p1)) none (b :: rest) p2 :: hs) ((c, none, ts) :: l)
  | named {x n : Str} {i : Nat} {c : Value} {ts : Addr → Value → Option Addr → TS} {b : Stmt} {rest : List Stmt} {p1 p2 : Pos} {hs : List ExceptHandler} {l : List Clause} (nm : Names X x c) (hi : X.N[i]? = some n) (hl : X.env.kindOf n = some .local) (su : SuiteOk X (b :: rest) ts) (r : HdM X hs l) :
      HdM X (.ExceptHandler (some (.Name x p1)) (some n) (b :: rest) p2 :: hs) ((c, some i, ts) :: l)
section
variable {X : Cx} {body : List Stmt} {h0 : ExceptHandler} {hl : List ExceptHandler} {l : List Clause} {pos : Pos} {tb : WX → TS} {Wo : WX}
/-- the error at a stands on the ground, the clauses are looked at in their order -/
structure Caught (X : Cx) (a : Addr) (cls : Value) (d : Option Addr) (pp : List (Addr × Obj)) (ss : L2.St) (HH : Hp) (sI : Shared) (B : Heap) (g : Heap) (sC : Shared) : Prop where
  J : Inv X pp ss HH sI
  nb : ∀ b o, sI.heap.get? b = some o → b ∉ frs X.stack → B.get? b = some o
  na : HH a = none
  os : sC.os = sI.os
  ag : AllBare sC.gens
  up : sI.heap.UpToSlots g
  fl : HandSPX.FlyingZ B (X.env :: X.outer) a (Zc cls d) g
theorem Caught.inv {a : Addr} {cls : Value} {d : Option Addr} {pp : List (Addr × Obj)} {ss : L2.St} {HH : Hp} {sI sC : Shared} {B g : Heap} (q : Caught X a cls d pp ss HH sI B g sC) : Inv X pp ss HH { sC with heap := g } := q.J.landed q.nb q.fl.1 q.up q.os q.ag
theorem Caught.apart {a : Addr} {cls : Value} {d : Option Addr} {pp : List (Addr × Obj)} {ss : L2.St} {HH : Hp} {sI sC : Shared} {B g : Heap} (hf : X.env.frame = some X.env.locals) (q : Caught X a cls d pp ss HH sI B g sC) : a ≠ X.env.locals ∧ a ∉ X.fs := by
  obtain ⟨ob, ws, e1, _, e2⟩ := q.fl.there
  have no : a ∉ frs (X.env :: X.outer) := fun hm => by
    obtain ⟨_, ob', e3, nf⟩ := q.fl.2.2.1.mem hm
    have e4 : ob = ob' := Option.some.inj (e1.symm.trans e3)
    exact nf ws (e4 ▸ e2)
  refine ⟨fun z => no (List.mem_filterMap.mpr ⟨X.env, List.mem_cons_self, hf.trans (congrArg some z.symm)⟩), fun hm => ?_⟩
  obtain ⟨en, h1, h2⟩ := List.mem_filterMap.mp hm
  exact no (List.mem_filterMap.mpr ⟨en, .tail _ h1, h2⟩)
theorem caught_go (hs : X.stack = X.env :: X.outer) (hf : X.env.frame = some X.env.locals) (tk : Takes X Wo) {a : Addr} {cls : Value} {d : Option Addr} {pp : List (Addr × Obj)} {ss : L2.St} {HH : Hp} {sI sC : Shared} {B g : Heap} {Z : Ends}
    (hN : X.N.Nodup) (q : Caught X a cls d pp ss HH sI B g sC) : ∀ {hl : List ExceptHandler} {l : List Clause}, HdM X hl l → wMix X.K Wo Z l cls d ss HH →
    wpAny (model X.prog X.w) X.A (handleBy (.ref a) X.env hl) (SP X pp Z) X.xe { sC with heap := g } := by
  intro hl l hk
  have ok := q.J.ok
  obtain ⟨ob, ws, ge, gz, gd⟩ := q.fl.there
  obtain ⟨aL, aF⟩ := q.apart hf
  have S3 := q.inv.suite ge gd q.na aL aF
  have lookT : PySem.W.Looks (model X.prog X.w) g (typeOf (.ref a)) cls := fun _ _ _ _ k z => wpAny_typeOf_ref (k _ _ ge) (gz.1.symm ▸ z)
  -- the class that a clause names
  have cname : ∀ {x : Str} {c : Value} {p : Pos} {Q E : Value → Shared → Prop}, Names X x c → Q c { sC with heap := g } → wpAny (model X.prog X.w) (X.A.mark (some (.ref a))) (eval (.Name x p) X.env) Q E { sC with heap := g } := fun nm z => by
    obtain ⟨n1, n2, n3 | ⟨n3, n4, n5⟩⟩ := nm
    · exact ld_glob (X := X.suite a ((a, ob) :: (X.pn ++ pp))) S3 n1 n3 z n2
    · exact ld_blt (X := X.suite a ((a, ob) :: (X.pn ++ pp))) S3 n1 n3 n4 z n5 n2
  induction hk with
  | nil =>
    intro w
    obtain ⟨_, _, _, oe, us, T, _, _, f1, _, f2, f3, _⟩ := id q.fl
    refine wpAny_handleBy_nil ?_
    unfold PySem.passOn
    refine wpAny_bind (wpAny_field f1 f2 f3 ?_)
    rw [if_neg (by simp : ¬ (Value.ref T == Value.none) = true)]
    have last : wpAny (model X.prog X.w) X.A (setFlight (.ref a) X.env.frame) (fun _ s4 => wpAny (model X.prog X.w) X.A (throw (.ref a) : Sem Flow) (SP X pp Z) X.xe s4) X.xe { sC with heap := g } := by
      rw [hf]
      exact HandSPX.setFlight_upZ q.fl fun g2 hh2 up2 => wpAny_throw (tk _ _ ⟨a, B, sI, pp, ss, HH, cls, d, rfl, q.J, q.nb, q.up.trans up2, .inr (.inr (hs ▸ hh2)), q.na, q.os, q.ag, w⟩)
    first
      | exact wpAny_bind (wpAny_pure (wpAny_bind last))
      | exact wpAny_bind last
  | @plain x c ts b rest p1 p2 hs2 l2 nm su r ih =>
    intro ⟨v, v1, v2, v3⟩
    refine wpAny_handleBy_cons (codeAny_handlers_test (cname nm ((PySem.W.exm_one q.inv.kIn lookT v1).here ?_))) (fun z => nomatch z)
    cases v with
    | false => exact ih (v3 rfl)
    | true =>
      refine codeAny_handlers_suite (HandSPX.lands_againZ q.fl fun g2 fl2 up2 => ?_)
      have q2 : Caught X a cls d pp ss HH sI B g2 sC := ⟨q.J, q.nb, q.na, q.os, q.ag, q.up.trans up2, fl2⟩
      obtain ⟨ob2, ws2, ge2, gz2, gd2⟩ := fl2.there
      refine wpAny_mono ((su a ob2 cls d (X.pn ++ pp) gz2 ⟨_, gd2⟩).run [] _ _ HH Z (q2.inv.suite ge2 gd2 q.na aL aF) (v2 rfl a q.na)) (fun fl s6 hh => ?_) (fun _ _ z => z.elim)
      cases fl with
      | next => obtain ⟨s', H', I', z⟩ := hh; exact ⟨s', H', I'.unsuite ok, z⟩
      | brk => obtain ⟨s', H', I', z⟩ := hh; exact ⟨s', H', I'.unsuite ok, z⟩
      | cont => obtain ⟨s', H', I', z⟩ := hh; exact ⟨s', H', I'.unsuite ok, z⟩
      | ret u => obtain ⟨v, s', H', I', z⟩ := hh; exact ⟨v, s', H', I'.unsuite ok, z⟩
  | @named x n i c ts b rest p1 p2 hs2 l2 nm hi hln su r ih =>
    intro ⟨v, v1, v2, v3⟩
    refine wpAny_handleBy_cons (codeAny_handlers_test (cname nm ((PySem.W.exm_one q.inv.kIn lookT v1).here ?_))) (fun z => nomatch z)
    cases v with
    | false => exact ih (v3 rfl)
    | true =>
      refine codeAny_handlers_suite_as (HandSPX.lands_againZ q.fl fun g2 fl2 up2 => ?_)
      have q2 : Caught X a cls d pp ss HH sI B g2 sC := ⟨q.J, q.nb, q.na, q.os, q.ag, q.up.trans up2, fl2⟩
      obtain ⟨ob2, ws2, ge2, gz2, gd2⟩ := fl2.there
      refine store_ok (X := X.suite a ((a, ob2) :: (X.pn ++ pp))) (v := .ref a) (q2.inv.suite ge2 gd2 q.na aL aF) hN hi (.inl hln) rfl (fun s5 I5 => ?_) (.inr hln)
      refine wpAny_mono ((su a ob2 cls d (X.pn ++ pp) gz2 ⟨_, gd2⟩).run [] s5 _ HH (unEnds i Z) I5 (v2 rfl a q.na)) (fun fl s6 hh => ?_) (fun _ _ z => z.elim)
      have away : ∀ {s' : L2.St} {H' : Hp} {R' : Shared → Prop}, Inv (X.suite a ((a, ob2) :: (X.pn ++ pp))) [] s' H' s6 → (∀ s7, Inv X pp (s'.set i none) H' s7 → R' s7) →
          wpAny (model X.prog X.w) X.A (do bindName X.env n .none; unbindBehindTheSuite X.env n p2) (fun _ s7 => R' s7) X.xe s6 := fun I6 z => gone_ok (I6.unsuite ok) hN hi hln z
      cases fl with
      | next => obtain ⟨s', H', I', z⟩ := hh; exact away I' fun _ I7 => ⟨_, H', I7, z⟩
      | brk => obtain ⟨s', H', I', z⟩ := hh; exact away I' fun _ I7 => ⟨_, H', I7, z⟩
      | cont => obtain ⟨s', H', I', z⟩ := hh; exact away I' fun _ I7 => ⟨_, H', I7, z⟩
      | ret u => obtain ⟨v, s', H', I', rv, z⟩ := hh; exact away I' fun _ I7 => ⟨v, _, H', I7, rv, z⟩
theorem ps_try_mix (hs : X.stack = X.env :: X.outer) (hf : X.env.frame = some X.env.locals) (hN : X.N.Nodup) (tk : Takes X Wo)
    (hb : ∀ (W : WX) (pn : List (Addr × Obj)) (xe : Value → Shared → Prop),
      Takes (X.tr pn xe) W → PassesOwn (model X.prog X.w) X.A X.env xe → PSs (X.tr pn xe) body (tb W))
    (hh : HdM X (h0 :: hl) l) : PS X (.Try body (h0 :: hl) [] [] pos) (fun Z σ H => tb (wMix X.K Wo Z l) Z σ H) := by
  refine ⟨fun pp s ss HH Z I z => ?_⟩
  have ok := I.ok
  have rows : X.A.frames = some (X.env :: X.outer) := ok.frames.trans (congrArg some hs)
  refine wpAny_Try_except (wpAny_mono ((hb (wMix X.K Wo Z l) (X.pn ++ pp) (fun er t1 => wpAny (model X.prog X.w) X.A (noteFrame er X.env) (fun _ t2 => wpAny (model X.prog X.w) X.A (setFlight er none)
    (fun _ t3 => wpAny (model X.prog X.w) X.A (handleBy er X.env (h0 :: hl)) (SP X pp Z) X.xe t3) X.xe t2) X.xe t1) (fun u sC xx => ?_) PassesOwn.looking).run [] s ss HH Z (I.toTry _) z) (fun fl s1 hsp => ?_) (fun _ _ y => y))
  · obtain ⟨a, B, sI, p', ss', HH', cls, d, rfl, J', nb, up, sky, na, os, ag, w⟩ := xx
    have sky' : Sky B (X.env :: X.outer) a (Zc cls d) X.env.locals sC.heap := hs ▸ sky
    exact Sky.land Zc.steady rows hf sky' fun g fl3 up3 => caught_go hs hf tk hN ⟨J'.ofTry ok, nb, na, os, ag, up.trans up3, fl3⟩ hh w
  · cases fl with
    | next => obtain ⟨s', H', I', y⟩ := hsp; exact wpAny_execs_nil ⟨s', H', I'.ofTry ok, y⟩
    | brk => obtain ⟨s', H', I', y⟩ := hsp; exact ⟨s', H', I'.ofTry ok, y⟩
    | cont => obtain ⟨s', H', I', y⟩ := hsp; exact ⟨s', H', I'.ofTry ok, y⟩
    | ret u => obtain ⟨v, s', H', I', y⟩ := hsp; exact ⟨v, s', H', I'.ofTry ok, y⟩
end
end DL

/-! DLf -/
namespace DL
open PySem L2 PySem.Spec PyProof.Rows
open Evl (Ex ex_l ex_t ex_rd)

/-! ### calls of defs -/
theorem semOf_len {n m : Nat} {g : Env → Out} (ds : List D) (h : ds.length ≠ m) : semOf n m g ds = .bad := by unfold semOf; rw [if_neg h]
def cCall (sem : List D → R D) (q : Env → R (List D)) : Env → R D := fun ρ => (q ρ).bind sem
/-- a def of the text as it is called: by its name, at a level -/
structure Callee (P : Program) (w : World) (K : PySem.W.Frag) (mg : Str → Option Value) (base : Heap) (k : Nat) (x : Str) (m : Nat) (sem : List D → R D) : Prop where
  ex : ∃ (f : Addr) (fd : FuncData) (ps : List Str), mg x = some (.ref f) ∧ PySem.W.keepIn K (.ref f) = true ∧ Binds K fd ps [] ∧ FnOk P w K mg base (L2.CX P w) k f fd ps (spD K mg m sem)
  len : ∀ ds, ds.length ≠ m → sem ds = .bad
section
variable {X : Cx} {W : WX} {x : Str} {p pos : Pos} {e : Expr} {es : List Expr} {q : Env → R (List D)} {k j m : Nat} {sem : List D → R D}
theorem de_call (C : Callee X.prog X.w X.K X.mg X.base k x m sem) (hr : Room j X.A) (hkj : k ≤ j) (hg : Gl X x) (tk : Takes X W) (ha : DA X W (e :: es) q) (hdb : (x == ("__debug__" : Str)) = false := by decide)
    (he : starEach (e :: es) X.env = (false, eval e X.env) :: starEach es X.env := by rfl) (hpl : (backTo pos (starEach es X.env)).any (·.1) = false := by rfl) : DE X W (.Call (.Name x p) (e :: es) [] pos) (cCall sem q) := by
  obtain ⟨f, fd, ps, hm, hk, hb, Fn⟩ := C.ex
  exact ⟨pe_imp (pe_callS Fn (hr.mono hkj) hg hm hk hb (fun σ => passAt tk σ) ha.pa hdb he hpl) fun σ H Q ⟨F0, H0, F, ρ, r, z⟩ => ⟨F0, H0, F, ρ, r, (ROk.step (r := q ρ) z).imp fun ds F1 H1 _ g1 q1 vs hv => by
    refine ⟨F1, ds, g1.in_, hv, ?_, q1⟩
    by_cases h : ds.length = m
    · exact h
    · rw [C.len ds h] at q1
      exact q1.elim⟩⟩
end

/-! ### own exceptions without fields -/
structure ExcF (K : PySem.W.Frag) (mg : Str → Option Value) (x : Str) (C : Addr) : Prop where
  gC : mg x = some (.ref C)
  xC : PySem.W.excIn K C [.type "ValueError", .type "Exception", .type "BaseException", .type "object"] "ValueError.__new__" = true
  kC : (PySem.W.keepIn K (.ref C)) = true
  bC : PySem.W.subIn K (.ref C) (.type "BaseException") = some true
  tC : PySem.W.typeIn K (.ref C) = some (.type "type")
  hC : PySem.W.hasDictIn K C = true
def sRaise (x : Str) : Env → Out := fun ρ => .ex ⟨x, []⟩ ρ
section
variable {X : Cx} {W : WX} {x m : Str} {C : Addr} {p p2 pos pos' : Pos} {j : Nat}
theorem ds_raise (hc : X.calm = true) (T : ExcF X.K X.mg x C) (tk : Takes X W) (hg : Gl X x) (hdb : (x == ("__debug__" : Str)) = false := by decide) : DS X W (.Raise (some (.Call (.Name x p) [.Constant (.str m) j p2] [] pos)) none pos') (sRaise x) :=
  ⟨ps_imp (ps_raise hc tk (pmk_own PySem.F.excBase_ValueError T.xC T.gC T.kC (raises_own T.bC T.tC) hg hdb)) fun Z σ H ⟨F0, H0, F, ρ, r, k⟩ => k (.ref C) none F H σ (.refl F) r ⟨C, T.gC, rfl, .inl ⟨rfl, rfl⟩⟩⟩
end

/-! ### suites: expressions that may look at the error -/
def tEx (K : PySem.W.Frag) (mg : Str → Option Value) (i : Nat) (a : Addr) (cls : Value) (dd : Option Addr) (f : Exc → Env → R D) : TE := fun σ H Q => ∃ F0 H0 F ρ x, Rep K F0 H0 F H ρ σ ∧ σ[i]? = some (some (.ref a)) ∧ XRep K mg F x cls dd ∧
  ROk K mg (fun _ _ _ => False) F H (fun d F' H' => ∀ v, Da K F' v d → Q v H') (f x ρ)
def tDx (K : PySem.W.Frag) (mg : Str → Option Value) (i : Nat) (a : Addr) (cls : Value) (dd : Option Addr) (f : Exc → Env → R Bool) : TT := fun σ H Q => ∃ F0 H0 F ρ x, Rep K F0 H0 F H ρ σ ∧ σ[i]? = some (some (.ref a)) ∧ XRep K mg F x cls dd ∧
  ROk K mg (fun _ _ _ => False) F H (fun b F' H' => Q b H') (f x ρ)
/-- in the suite that holds the error at a -/
structure EX (X : Cx) (i : Nat) (e : Expr) (f : Exc → Env → R D) : Prop where
  pe : ∀ (a : Addr) (ob : Obj) (cls : Value) (dd : Option Addr) (pn : List (Addr × Obj)), Zc cls dd ob → (∃ ws, ob.data = .fields ws) → PE (X.suite a ((a, ob) :: pn)) e (tEx X.K X.mg i a cls dd f)
structure ET (X : Cx) (i : Nat) (e : Expr) (f : Exc → Env → R Bool) : Prop where
  pt : ∀ (a : Addr) (ob : Obj) (cls : Value) (dd : Option Addr) (pn : List (Addr × Obj)), Zc cls dd ob → (∃ ws, ob.data = .fields ws) → PT (X.suite a ((a, ob) :: pn)) e (tDx X.K X.mg i a cls dd f)
section
variable {X : Cx} {i : Nat} {e e1 e2 : Expr} {pos : Pos}
theorem ex_de {f : Env → R D} (h : ∀ (a : Addr) (pn : List (Addr × Obj)), DE (X.suite a pn) W0 e f) : EX X i e (fun _ => f) := ⟨fun a ob cls dd pn _ _ => pe_imp (h a ((a, ob) :: pn)).pe fun σ H Q ⟨F0, H0, F, ρ, x, r, _, _, k⟩ => ⟨F0, H0, F, ρ, r, k⟩⟩
def xIf (t : Exc → Env → R Bool) (f g : Exc → Env → R D) : Exc → Env → R D := fun x ρ => (t x ρ).bind fun b => if b = true then f x ρ else g x ρ
theorem ex_if {t : Exc → Env → R Bool} {f g : Exc → Env → R D} (hc : ET X i e t) (ha : EX X i e1 f) (hb : EX X i e2 g) : EX X i (.IfExp e e1 e2 pos) (xIf t f g) :=
  ⟨fun a ob cls dd pn z w => pe_imp (pe_ifExp (hc.pt a ob cls dd pn z w) (ha.pe a ob cls dd pn z w) (hb.pe a ob cls dd pn z w)) fun σ H Q ⟨F0, H0, F, ρ, x, r, hs, hx, k⟩ => ⟨F0, H0, F, ρ, x, r, hs, hx, (ROk.step (r := t x ρ) k).imp fun b F' H' _ gr z => by
    cases b with
    | true => exact ⟨F0, H0, F', ρ, x, r.grow gr, hs, hx.up gr.f, z⟩
    | false => exact ⟨F0, H0, F', ρ, x, r.grow gr, hs, hx.up gr.f, z⟩⟩⟩
/-- isinstance(e, C), e the error: ns are all classes that may be here, sub those of them that are C's -/
def xIs (ns : List Str) (sub : List Str) : Exc → Env → R Bool := fun x _ => if ns.contains x.cls = true ∧ x.args = [] then .ok (sub.contains x.cls) else .bad
def xIsV (ns : List Str) (sub : List Str) : Exc → Env → R D := fun x _ => if ns.contains x.cls = true ∧ x.args = [] then .ok (.bool (sub.contains x.cls)) else .bad
structure IsF (K : PySem.W.Frag) (mg : Str → Option Value) (C : Addr) (ns sub : List Str) : Prop where
  all : ∀ n ∈ ns, ∃ Dn, mg n = some (.ref Dn) ∧ ExcC K Dn ∧ PySem.W.kitOne K (.ref Dn) (.ref C) = some (sub.contains n)
theorem pe_isx {xn cn : Str} {p1 p2 p3 : Pos} {C : Addr} {ns sub : List Str} (T : IsF X.K X.mg C ns sub) (hg : Gl X "isinstance") (hm : X.mg "isinstance" = none) (hgC : Gl X cn) (hC : X.mg cn = some (.ref C)) (hN : X.N[i]? = some xn) (hv : Vis X.env.scope xn)
    (hd : (xn == ("__debug__" : Str)) = false) (hcd : (xn == ("__classdict__" : Str)) = false) (hdc : (cn == ("__debug__" : Str)) = false)
    (he : ∀ X' : Cx, X'.env = X.env → starEach [.Name xn p1, .Name cn p2] X'.env = (false, eval (.Name xn p1) X'.env) :: starEach [.Name cn p2] X'.env) (hpl : (backTo pos (starEach [.Name cn p2] X.env)).any (·.1) = false)
    (a : Addr) (ob : Obj) (cls : Value) (dd : Option Addr) (pn : List (Addr × Obj)) (hz : Zc cls dd ob) (hw : ∃ ws, ob.data = .fields ws) :
    PE (X.suite a ((a, ob) :: pn)) (.Call (.Name "isinstance" p3) [.Name xn p1, .Name cn p2] [] pos) (fun σ H Q => ∃ F x, σ[i]? = some (some (.ref a)) ∧ XRep X.K X.mg F x cls dd ∧ ns.contains x.cls = true ∧ x.args = [] ∧ Q (.bl (sub.contains x.cls)) H) := by
  by_cases hcl : ∃ n ∈ ns, dd = none ∧ ∃ Dn, X.mg n = some (.ref Dn) ∧ cls = .ref Dn
  · obtain ⟨n, hn, rfl, Dn, hDn, rfl⟩ := hcl
    obtain ⟨Dn', h1, h2, h3⟩ := T.all n hn
    rw [hDn] at h1
    cases h1
    refine pe_imp (pe_callB (call_isE h2 hz hw) hg hm PyProof.Rows.boot_isinstance (pa_cons (pe_var hN hv hd hcd) (pa_cons (pe_glob hgC hC (v := .ref C) rfl hdc) pa_nil) (he (X.suite a ((a, ob) :: pn)) rfl)) (by decide) (by decide) (he (X.suite a ((a, ob) :: pn)) rfl) hpl) fun σ H Q ⟨F, x, hs, hx, hc, ha, q⟩ => ?_
    obtain ⟨C', c1, c2, c3⟩ := hx
    cases c2
    obtain ⟨Dm, m1, m2, m3⟩ := T.all x.cls (by simpa using hc)
    rw [c1] at m1
    cases m1
    exact ⟨.ref a, hs, .ref C, .ref C, _, rfl, fun u r => r, m3, q⟩
  · refine pe_imp (t := fun _ _ _ => False) ⟨fun _ _ _ _ _ _ z => z.elim⟩ fun σ H Q ⟨F, x, hs, hx, hc, ha, q⟩ => ?_
    obtain ⟨C', c1, c2, c3⟩ := hx
    refine hcl ⟨x.cls, by simpa using hc, ?_, C', c1, c2⟩
    rcases c3 with ⟨_, c3⟩ | ⟨dx, fs, c3, _⟩
    · exact c3
    · exact absurd ha c3
theorem isx_cases {ns sub : List Str} {x : Exc} {α : Type} {K : PySem.W.Frag} {mg : Str → Option Value} {W : XK} {F H : Hp} {P : α → Hp → Hp → Prop} {r : R α} (h : ROk K mg W F H P (if ns.contains x.cls = true ∧ x.args = [] then r else .bad)) :
    ns.contains x.cls = true ∧ x.args = [] ∧ ROk K mg W F H P r := by
  split at h
  · rename_i z; exact ⟨z.1, z.2, h⟩
  · exact h.elim
theorem ex_isx {xn cn : Str} {p1 p2 p3 : Pos} {C : Addr} {ns sub : List Str} (T : IsF X.K X.mg C ns sub) (hg : Gl X "isinstance") (hm : X.mg "isinstance" = none) (hgC : Gl X cn) (hC : X.mg cn = some (.ref C)) (hN : X.N[i]? = some xn := by rfl) (hv : Vis X.env.scope xn := by first | exact Or.inl rfl | exact Or.inr (Or.inl rfl) | exact Or.inr (Or.inr rfl))
    (hd : (xn == ("__debug__" : Str)) = false := by decide) (hcd : (xn == ("__classdict__" : Str)) = false := by decide) (hdc : (cn == ("__debug__" : Str)) = false := by decide)
    (he : ∀ X' : Cx, X'.env = X.env → starEach [.Name xn p1, .Name cn p2] X'.env = (false, eval (.Name xn p1) X'.env) :: starEach [.Name cn p2] X'.env := by intro _ _; rfl) (hpl : (backTo pos (starEach [.Name cn p2] X.env)).any (·.1) = false := by rfl) :
    EX X i (.Call (.Name "isinstance" p3) [.Name xn p1, .Name cn p2] [] pos) (xIsV ns sub) :=
  ⟨fun a ob cls dd pn z w => pe_imp (pe_isx T hg hm hgC hC hN hv hd hcd hdc he hpl a ob cls dd pn z w) fun σ H Q ⟨F0, H0, F, ρ, x, r, hs, hx, k⟩ => by
    obtain ⟨k1, k2, k3⟩ := isx_cases (sub := sub) k
    exact ⟨F, x, hs, hx, k1, k2, k3 F H (.refl r.g.in_) _ (.bl _)⟩⟩
theorem et_isx {xn cn : Str} {p1 p2 p3 : Pos} {C : Addr} {ns sub : List Str} (T : IsF X.K X.mg C ns sub) (hg : Gl X "isinstance") (hm : X.mg "isinstance" = none) (hgC : Gl X cn) (hC : X.mg cn = some (.ref C)) (hN : X.N[i]? = some xn := by rfl) (hv : Vis X.env.scope xn := by first | exact Or.inl rfl | exact Or.inr (Or.inl rfl) | exact Or.inr (Or.inr rfl))
    (hd : (xn == ("__debug__" : Str)) = false := by decide) (hcd : (xn == ("__classdict__" : Str)) = false := by decide) (hdc : (cn == ("__debug__" : Str)) = false := by decide)
    (he : ∀ X' : Cx, X'.env = X.env → starEach [.Name xn p1, .Name cn p2] X'.env = (false, eval (.Name xn p1) X'.env) :: starEach [.Name cn p2] X'.env := by intro _ _; rfl) (hpl : (backTo pos (starEach [.Name cn p2] X.env)).any (·.1) = false := by rfl) :
    ET X i (.Call (.Name "isinstance" p3) [.Name xn p1, .Name cn p2] [] pos) (xIs ns sub) :=
  ⟨fun a ob cls dd pn z w => pt_imp (pt_val (pe_isx T hg hm hgC hC hN hv hd hcd hdc he hpl a ob cls dd pn z w)) fun σ H Q ⟨F0, H0, F, ρ, x, r, hs, hx, k⟩ => by
    obtain ⟨k1, k2, k3⟩ := isx_cases (sub := sub) k
    exact ⟨F, x, hs, hx, k1, k2, _, rfl, k3 F H (.refl r.g.in_)⟩⟩
end

/-! ### try, by data -/
abbrev ClD := List Str × Option Nat × (Exc → Env → Out)
def noXO : Out → Out
  | .ex _ _ => .bad
  | o => o
def handle : List ClD → Exc → Env → Out
  | [], x, ρ => .ex x ρ
  | (sub, _, s) :: r, x, ρ => if sub.contains x.cls = true then noXO (s x ρ) else handle r x ρ
def sTry (ns : List Str) (g : Env → Out) (cl : List ClD) : Env → Out := fun ρ => match g ρ with
  | .ex x ρ' => if ns.contains x.cls = true then handle cl x ρ' else .bad
  | o => o
/-- the classes ns as the clause's class c tells them -/
structure HF (K : PySem.W.Frag) (mg : Str → Option Value) (c : Value) (ns sub : List Str) : Prop where
  all : ∀ n ∈ ns, ∃ Dn, mg n = some (.ref Dn) ∧ PySem.W.exmOne K (.ref Dn) c = some (sub.contains n)
def xRet (i : Nat) (f : Exc → Env → R D) : Exc → Env → Out := fun x ρ => if i < ρ.length then exB ρ (f x (ρ.set i .no)) fun d => .rt d else .bad
inductive HdD (X : Cx) (ns : List Str) : List ExceptHandler → List ClD → Prop
  | nil : HdD X ns [] []
  | plain {x : Str} {c : Value} {sub : List Str} {g : Env → Out} {b : Stmt} {rest : List Stmt} {p1 p2 : Pos} {hs : List ExceptHandler} {l : List ClD} (nm : Names X x c) (F : HF X.K X.mg c ns sub)
      (su : ∀ (a : Addr) (pn : List (Addr × Obj)), DSs (X.suite a pn) W0 (b :: rest) g) (r : HdD X ns hs l) : HdD X ns (.ExceptHandler (some (.Name x p1)) none (b :: rest) p2 :: hs) ((sub, none, fun _ => g) :: l)
  | named {x n : Str} {i : Nat} {c : Value} {sub : List Str} {e : Expr} {f : Exc → Env → R D} {p1 p2 p3 : Pos} {hs : List ExceptHandler} {l : List ClD} (nm : Names X x c) (F : HF X.K X.mg c ns sub) (hi : X.N[i]? = some n) (hl : X.env.kindOf n = some .local)
      (su : EX X i e f) (r : HdD X ns hs l) : HdD X ns (.ExceptHandler (some (.Name x p1)) (some n) [.Return (some e) p3] p2 :: hs) ((sub, some i, xRet i f) :: l)
section
variable {X : Cx} {W : WX} {ns : List Str}
theorem noXO_ok {K : PySem.W.Frag} {mg : Str → Option Value} {W W' : WX} {F0 H0 F : Hp} {Z : Ends} {o : Out} (h : OOk K mg W F0 H0 F Z (noXO o)) : OOk K mg W' F0 H0 F Z o := by
  cases o with
  | ex x ρ => exact h.elim
  | nx ρ => exact h
  | rt d => exact h
  | bk ρ => exact h
  | ct ρ => exact h
  | bad => exact h
theorem mix_ok {hl : List ExceptHandler} {cl : List ClD} (hh : HdD X ns hl cl) : ∃ l, HdM X hl l ∧ ∀ (Z : Ends) (F0 H0 F H : Hp) (ρ : Env) (σ : L2.St) (x : Exc) (cls : Value) (dd : Option Addr), OOk X.K X.mg W F0 H0 F Z (handle cl x ρ) → ns.contains x.cls = true →
    Rep X.K F0 H0 F H ρ σ → XRep X.K X.mg F x cls dd → wMix X.K W Z l cls dd σ H := by
  induction hh with
  | nil => exact ⟨[], .nil, fun Z F0 H0 F H ρ σ x cls dd k _ r xr => k cls dd F H σ (.refl F) r xr⟩
  | @plain x c sub g b rest p1 p2 hs l nm Fc su _ ih =>
    obtain ⟨l', i1, i2⟩ := ih
    refine ⟨(c, none, fun a cls d => tS X.K X.mg W0 g) :: l', .plain nm (fun a ob cls d pn _ _ => (su a ((a, ob) :: pn)).pss) i1, fun Z F0 H0 F H ρ σ x cls dd k hc r xr => ?_⟩
    obtain ⟨C, c1, c2, _⟩ := id xr
    obtain ⟨Dn, d1, d2⟩ := Fc.all x.cls (by simpa using hc)
    rw [c1] at d1
    cases d1
    subst c2
    refine ⟨_, d2, fun hb a _ => ?_, fun hb => i2 Z F0 H0 F H ρ σ x _ dd ?_ hc r xr⟩
    · unfold handle at k
      rw [if_pos hb] at k
      exact ⟨F0, H0, F, ρ, r, noXO_ok k⟩
    · unfold handle at k
      rw [if_neg (by rw [hb]; exact Bool.false_ne_true)] at k
      exact k
  | @named x n i c sub e f p1 p2 p3 hs l nm Fc hi hln su _ ih =>
    obtain ⟨l', i1, i2⟩ := ih
    refine ⟨(c, some i, fun a cls d => tRet (tEx X.K X.mg i a cls d f)) :: l', .named nm hi hln (fun a ob cls d pn z w => pss_one (ps_ret (su.pe a ob cls d pn z w))) i1, fun Z F0 H0 F H ρ σ x cls dd k hc r xr => ?_⟩
    obtain ⟨C, c1, c2, _⟩ := id xr
    obtain ⟨Dn, d1, d2⟩ := Fc.all x.cls (by simpa using hc)
    rw [c1] at d1
    cases d1
    subst c2
    refine ⟨_, d2, fun hb a ha => ?_, fun hb => i2 Z F0 H0 F H ρ σ x _ dd ?_ hc r xr⟩
    · unfold handle at k
      rw [if_pos hb] at k
      have k : OOk X.K X.mg W F0 H0 F Z (noXO (if i < ρ.length then exB ρ (f x (ρ.set i .no)) fun d => .rt d else .bad)) := k
      by_cases hlen : i < σ.length
      · refine ⟨F0, H0, F, ρ.set i .no, x, r.drop i _, List.getElem?_set_self hlen, xr, ?_⟩
        rw [if_pos (by rw [r.len]; exact hlen)] at k
        cases hf : f x (ρ.set i .no) with
        | ok d =>
          rw [hf] at k
          exact fun F' H' gr v hv => k v F' H' gr.f (r.g.trans gr) hv
        | exc y => rw [hf] at k; exact k.elim
        | bad => rw [hf] at k; exact k.elim
      · rw [if_neg (by rw [r.len]; exact hlen)] at k
        exact k.elim
    · unfold handle at k
      rw [if_neg (by rw [hb]; exact Bool.false_ne_true)] at k
      exact k
theorem ds_try {body : List Stmt} {g : Env → Out} {h0 : ExceptHandler} {hl : List ExceptHandler} {cl : List ClD} {pos : Pos} (hs : X.stack = X.env :: X.outer) (hf : X.env.frame = some X.env.locals) (hN : X.N.Nodup) (tk : Takes X W)
    (hb : ∀ (W : WX) (pn : List (Addr × Obj)) (xe : Value → Shared → Prop),
      Takes (X.tr pn xe) W → PassesOwn (model X.prog X.w) X.A X.env xe → DSs (X.tr pn xe) W body g)
    (hh : HdD X ns (h0 :: hl) cl) : DS X W (.Try body (h0 :: hl) [] [] pos) (sTry ns g cl) := by
  obtain ⟨l, h1, h2⟩ := mix_ok (W := W) hh
  refine ⟨ps_imp (ps_try_mix (tb := fun W => tS X.K X.mg W g) hs hf hN tk (fun W pn xe t p => (hb W pn xe t p).pss) h1) fun Z σ H ⟨F0, H0, F, ρ, r, k⟩ => ⟨F0, H0, F, ρ, r, ?_⟩⟩
  have k : OOk X.K X.mg W F0 H0 F Z (match g ρ with | .ex x ρ' => if ns.contains x.cls = true then handle cl x ρ' else .bad | o => o) := k
  cases hg : g ρ with
  | ex x ρ' =>
    rw [hg] at k
    have k : OOk X.K X.mg W F0 H0 F Z (if ns.contains x.cls = true then handle cl x ρ' else .bad) := k
    split at k
    · rename_i hc
      exact fun cls dd F' H' σ' e r' xr => h2 Z F0 H0 F' H' ρ' σ' x cls dd (k.up e) hc r' xr
    · exact k.elim
  | nx ρ' => rw [hg] at k; exact k
  | rt d => rw [hg] at k; exact k
  | bk ρ' => rw [hg] at k; exact k
  | ct ρ' => rw [hg] at k; exact k
  | bad => rw [hg] at k; exact k
end
end DL

/-! DLg -/
namespace DL
open PySem L2 PySem.Spec PyProof.Rows
open Evl (Ex ex_l ex_t ex_rd)
theorem bt_len : bootBuiltins "len" = some (.builtin "len") := by decide +kernel
theorem bt_abs : bootBuiltins "abs" = some (.builtin "abs") := by decide +kernel
theorem bt_max : bootBuiltins "max" = some (.builtin "max") := by decide +kernel
theorem bt_min : bootBuiltins "min" = some (.builtin "min") := by decide +kernel
theorem bt_sum : bootBuiltins "sum" = some (.builtin "sum") := by decide +kernel
theorem bt_all : bootBuiltins "all" = some (.builtin "all") := by decide +kernel
theorem bt_any : bootBuiltins "any" = some (.builtin "any") := by decide +kernel
theorem bt_sorted : bootBuiltins "sorted" = some (.builtin "sorted") := by decide +kernel
theorem bt_int : bootBuiltins "int" = some (.type "int") := by decide +kernel
theorem bt_str : bootBuiltins "str" = some (.type "str") := by decide +kernel
theorem bt_tuple : bootBuiltins "tuple" = some (.type "tuple") := by decide +kernel
theorem bt_list : bootBuiltins "list" = some (.type "list") := by decide +kernel
theorem room64 {k : Nat} {A : Around} (r : Room k A) : A.units + 64 < cLine := r.units
theorem room65 {k : Nat} {A : Around} (r : Room k A) : A.units + 65 < cLine := by have := r.un; omega
def oNeg : D → Option D
  | .int i => some (.int (-i))
  | _ => none
def cUn (o : D → Option D) (f : Env → R D) : Env → R D := fun ρ => (f ρ).bind fun a => ofO (o a)
/-- in, of lists, texts, tuples -/
def oInA (a b : D) : Option D := match b with
  | .tuple _ => oInT a b
  | _ => oIn a b
def oNotInA (a b : D) : Option D := match b with
  | .tuple _ => oNotInT a b
  | _ => oNotIn a b
section
variable {X : Cx} {W : WX} {e e1 e2 e3 : Expr} {pos : Pos} {f : Env → R D}
theorem de_neg (ha : DE X W e f) : DE X W (.UnaryOp .USub e pos) (cUn oNeg f) :=
  ⟨pe_imp (pe_un un_neg ha.pe) fun σ H Q ⟨F0, H0, F, ρ, r, k⟩ => ⟨F0, H0, F, ρ, r, (ROk.step (r := f ρ) k).imp fun a F' H' _ gr z v hv => by
    obtain ⟨c, e, q⟩ := z.ofO
    cases a <;> simp only [oNeg] at e <;> try (cases e; done)
    cases e
    cases hv
    exact ⟨_, rfl, q F' H' (.refl gr.in_) _ (.int _)⟩⟩⟩
theorem op_inA (hu : X.A.units + 65 < cLine) : OpR X (compareOp .In) (fun x y H Q => rInDD X.K x y H Q ∨ rIn X.K false x y H Q) := (op_inDD hu).or op_in_seq
theorem op_notinA (hu : X.A.units + 65 < cLine) : OpR X (compareOp .NotIn) (fun x y H Q => rNotInDD X.K x y H Q ∨ rIn X.K true x y H Q) := (op_notinDD hu).or op_notIn_seq
theorem rd_inA {K : PySem.W.Frag} : RdO K (fun x y H Q => rInDD K x y H Q ∨ rIn K false x y H Q) oInA := RdO.or rd_in rd_inT fun a b c h => by
  unfold oInA at h
  split at h
  · exact .inr h
  · exact .inl h
theorem rd_notinA {K : PySem.W.Frag} : RdO K (fun x y H Q => rNotInDD K x y H Q ∨ rIn K true x y H Q) oNotInA := RdO.or rd_notin rd_notinT fun a b c h => by
  unfold oNotInA at h
  split at h
  · exact .inr h
  · exact .inl h
/-- a, b, c = e1, e2, e3, frozen data alone -/
def sPar3 (i j l : Nat) (q : Env → R (List D)) : Env → Out := fun ρ => exB ρ (q ρ) fun ds => match ds with
  | [x, y, z] => .nx (((ρ.set i (.val x)).set j (.val y)).set l (.val z))
  | _ => .bad
theorem ds_par3 {i j l : Nat} {x y z : Str} {q : Env → R (List D)} {px py pz pt : Pos} {kt k2 pt2} (hc : X.calm = true) (hN : X.N.Nodup) (hi : X.N[i]? = some x) (hj : X.N[j]? = some y) (hl : X.N[l]? = some z) (hij : i ≠ j) (hil : i ≠ l) (hjl : j ≠ l)
    (hx : X.env.scope.names.lookup x = some .local) (hy : X.env.scope.names.lookup y = some .local) (hz : X.env.scope.names.lookup z = some .local) (ha : DA X W [e1, e2, e3] q)
    (hw : swappedStores [.Tuple [.Name x px, .Name y py, .Name z pz] kt pt] (.Tuple [e1, e2, e3] k2 pt2) X.env = pure (some [x, y, z]))
    (hs : swapsWithSole [.Tuple [.Name x px, .Name y py, .Name z pz] kt pt] (.Tuple [e1, e2, e3] k2 pt2) pos.line X.env = pure false := by rfl) :
    DS X W (.Assign [.Tuple [.Name x px, .Name y py, .Name z pz] kt pt] (.Tuple [e1, e2, e3] k2 pt2) pos) (sPar3 i j l q) :=
  ⟨ps_imp (ps_par3 hc hN hi hj hl hij hil hjl hx hy hz ha.pa hw hs) fun Z σ H ⟨F0, H0, F, ρ, r, k⟩ => ⟨F0, H0, F, ρ, r, exB_ok r k fun ds F1 H1 g1 q1 vs hv => by
    split at q1
    · rename_i a b c
      cases hv with
      | cons h1 hv => cases hv with
        | cons h2 hv => cases hv with
          | cons h3 hv =>
            cases hv
            exact ⟨_, _, _, rfl, q1 F1 H1 _ (.refl _) ((((r.grow g1).setVal h1 i).setVal h2 j).setVal h3 l)⟩
    · exact q1.elim⟩⟩
/-- x = [.. for ..], x not changed later -/
theorem ds_setLcV {i : Nat} {y : Str} {py : Pos} {tg iter elt : Expr} {ifs : List Expr} {scope : Scope} {own : List (Str × Nat)} {p : Pos} {it : Env → R (List D)} {s : D → Env → Option Env} {t : Env → R Bool} {el : Env → R D} {ts vs : List Nat}
    (hc : X.calm = true) (hN : X.N.Nodup) (hy : X.N[i]? = some y) (hyl : X.env.scope.names.lookup y = some .local)
    (hsw : swapsWith (.ListComp elt [⟨tg, iter, ifs, 0⟩] scope p) (some (.Name y py)) pos.line X.env = pure true) (hi : DIB X W tg iter it) (ok : BlkOk X.N X.env.scope scope own)
    (hg : ∀ (s' : Shared) (H : Hp) (C : Addr) (cl : List (Str × Addr)) (fp : List Addr), DG (X.blk s' H scope (compEnvC scope cl C X.env) fp) ts tg s)
    (ht : ∀ (s' : Shared) (H : Hp) (C : Addr) (cl : List (Str × Addr)) (fp : List Addr), DTs (X.blk s' H scope (compEnvC scope cl C X.env) fp) W0 ifs t)
    (he : ∀ (s' : Shared) (H : Hp) (C : Addr) (cl : List (Str × Addr)) (fp : List Addr), DE (X.blk s' H scope (compEnvC scope cl C X.env) fp) W0 elt el)
    (hvs : own.map (·.2) = vs) (hts : ∀ j ∈ ts, j ∈ vs) (hs : ∀ x, foldedSetIterable iter X.env x = pure x := by intro _; rfl) :
    DS X W (.Assign [.Name y py] (.ListComp elt [⟨tg, iter, ifs, 0⟩] scope p) pos) (sAsg i (asVal (asList (cLc it s t el vs)))) := by
  subst hvs
  exact
  ⟨ps_imp (ps_setLc (wi := tIB X.K X.mg W it) (g := tG X.K ts s) (tt := tD X.K X.mg W0 t) (te := tE X.K X.mg W0 el) hc hN hy hyl hsw hi.pi ok (fun a b c d e => (hg a b c d e).pg) (fun a b c d e => (ht a b c d e).pts) (fun a b c d e => (he a b c d e).pe) hs) fun Z σ H ⟨F0, H0, F, ρ, r, k⟩ => by
    refine lc_read hts ⟨F0, H0, F, ρ, r, ?_⟩
    have k : OOk X.K X.mg W F0 H0 F Z (exB ρ (((cLc it s t el (own.map (·.2)) ρ).bind fun d => .ok (.list d)).bind fun d => .ok (.val d)) fun sv => .nx (ρ.set i sv)) := k
    have q := exB_ok (P := fun (sv : SV) F' H' => ∀ v, SVal X.K H F' H' v sv → Z.nx (σ.set i (some v)) H') r k fun sv F' H' gr q v hv => q F' H' _ (.refl _) (r.setSV gr hv i)
    have q2 := map_ok (k := fun d => SV.val d) q
    cases hq : cLc it s t el (own.map (·.2)) ρ with
    | ok ds =>
      rw [hq] at q2
      intro F' H' gr p vs h1 h2 h3 h4
      have q2 : ∀ F2 H2, Grow F H F2 H2 → ∀ v, Da X.K F2 v (.list ds) → Z.nx (σ.set i (some v)) H2 := q2
      exact q2 _ _ (grow_lay (K := X.K) gr h1 h2 h3) (.ref p) (.lst upd_same (h4.up (Grow.freeze gr.in_ h3 h2).1))
    | exc x => rw [hq] at q2; exact q2
    | bad => rw [hq] at q2; exact q2⟩
end
/-- isinstance of own classes, by what is a subclass of what -/
theorem kit_sub {K : PySem.W.Frag} {A C : Addr} {b : Bool} (hd : PySem.W.hasDictIn K C = true) (ht : PySem.W.typeIn K (.ref C) = some (.type "type")) (hs : PySem.W.subIn K (.ref C) (.ref C) = some true) (h : PySem.W.subIn K (.ref A) (.ref C) = some b) : PySem.W.kitOne K (.ref A) (.ref C) = some b := by
  unfold PySem.W.kitOne
  split
  · rename_i e
    have e' := eq_of_beq e
    cases e'
    rw [hs] at h
    exact h
  · obtain ⟨cd, hc, _⟩ := PySem.W.any_some hd
    show (if ((PySem.W.clsIn K C).isSome && PySem.W.typeIn K (.ref C) == some (.type "type")) = true then PySem.W.subIn K (.ref A) (.ref C) else none) = some b
    rw [hc, ht, if_pos (by rfl)]
    exact h
/-! ### the law's end -/
def spLawD (K : PySem.W.Frag) : Sp := fun vs H Q _ => ∃ (a : Addr) (ns : List Int), vs = [.ref a] ∧ SqL K H a (ns.map V.int) ∧ ns.length ≤ 63 ∧ ∀ H', Q (.bl true) H'
theorem law_end {P : Program} {w : World} {K : PySem.W.Frag} {mg : Str → Option Value} {base : Heap} {k : Nat} {f : Addr} {fd : FuncData} {x : Str} {sem : List D → R D} (ht : ∀ ns : List Int, ns.length ≤ 63 → sem [scrD ns] = .ok (.bool true))
    (Fn : FnOk P w K mg base (L2.CX P w) k f fd [x] (spD K mg 1 sem)) : FnOk P w K mg base (L2.CX P w) k f fd [x] (spLawD K) :=
  Fn.imp fun vs H Q E ⟨a, ns, e, hS, hl, q⟩ => by
    subst e
    refine ⟨H, [scrD ns], fun _ _ z => z, .cons (.scr hS) .nil, rfl, ?_⟩
    rw [ht ns hl]
    intro F' H' _ v hv
    cases hv
    exact q H'
end DL

/-! DLh -/
namespace DL
open PySem L2 PySem.Spec PyProof.Rows
open Evl (Ex ex_l ex_t ex_rd)
/-! ### sorted rows of ints -/
def ins (x : Int) : List Int → List Int
  | [] => [x]
  | y :: l => if x ≤ y then x :: y :: l else y :: ins x l
def srt : List Int → List Int
  | [] => []
  | x :: l => ins x (srt l)
theorem ins_perm (x : Int) : ∀ l : List Int, (ins x l).Perm (x :: l)
  | [] => .refl _
  | y :: l => by
    unfold ins
    split
    · exact .refl _
    · exact ((ins_perm x l).cons y).trans (.swap x y l)
theorem srt_perm : ∀ l : List Int, (srt l).Perm l
  | [] => .refl _
  | x :: l => (ins_perm x (srt l)).trans ((srt_perm l).cons x)
theorem ins_up (x : Int) : ∀ l : List Int, l.Pairwise (· ≤ ·) → (ins x l).Pairwise (· ≤ ·)
  | [], _ => by simp [ins]
  | y :: l, h => by
    obtain ⟨h1, h2⟩ := (List.pairwise_cons).mp h
    unfold ins
    split
    · rename_i hxy
      refine List.pairwise_cons.mpr ⟨fun z hz => ?_, h⟩
      rcases (List.mem_cons.mp hz) with e | hz
      · omega
      · have := h1 z hz
        omega
    · rename_i hxy
      refine List.pairwise_cons.mpr ⟨fun z hz => ?_, ins_up x l h2⟩
      rcases List.mem_cons.mp ((ins_perm x l).mem_iff.mp hz) with e | hz
      · omega
      · exact h1 z hz
theorem srt_up : ∀ l : List Int, (srt l).Pairwise (· ≤ ·)
  | [] => .nil
  | x :: l => ins_up x _ (srt_up l)
theorem up_one : ∀ {l m : List Int}, l.Pairwise (· ≤ ·) → m.Pairwise (· ≤ ·) → l.Perm m → l = m
  | [], m, _, _, p => by rw [List.nil_perm.mp p]
  | x :: l, [], _, _, p => by have := p.length_eq; simp at this
  | x :: l, y :: m, h, k, p => by
    obtain ⟨h1, h2⟩ := (List.pairwise_cons).mp h
    obtain ⟨k1, k2⟩ := List.pairwise_cons.mp k
    have e : x = y := by
      have a := p.mem_iff.mp (List.mem_cons_self (a := x) (l := l))
      have b := p.mem_iff.mpr (List.mem_cons_self (a := y) (l := m))
      rcases List.mem_cons.mp a with a | a
      · exact a
      · rcases List.mem_cons.mp b with b | b
        · exact b.symm
        · have := h1 y b
          have := k1 x a
          omega
    subst e
    rw [up_one h2 k2 p.cons_inv]
theorem srt_one {l m : List Int} (p : m.Perm l) (h : m.Pairwise (· ≤ ·)) : m = srt l := up_one h (srt_up l) (p.trans (srt_perm l).symm)
theorem srt_len (l : List Int) : (srt l).length = l.length := (srt_perm l).length_eq
theorem mem_srt {l : List Int} {x : Int} : x ∈ srt l ↔ x ∈ l := (srt_perm l).mem_iff
/-! the greatest and the least of a row that is not empty -/
def top : Int → List Int → Int
  | x, [] => x
  | x, y :: l => top (if x < y then y else x) l
def low : Int → List Int → Int
  | x, [] => x
  | x, y :: l => low (if y < x then y else x) l
theorem top_spec : ∀ (l : List Int) (x : Int), top x l ∈ x :: l ∧ ∀ y ∈ x :: l, y ≤ top x l
  | [], x => ⟨List.mem_cons_self, fun y h => by rcases List.mem_cons.mp h with e | h; exact Int.le_of_eq e; cases h⟩
  | z :: l, x => by
    obtain ⟨a, b⟩ := top_spec l (if x < z then z else x)
    have q : top x (z :: l) = top (if x < z then z else x) l := rfl
    rw [q]
    refine ⟨?_, fun y hy => ?_⟩
    · rcases List.mem_cons.mp a with e | a
      · rw [e]
        split
        · simp
        · simp
      · simp [a]
    · have b0 := b _ List.mem_cons_self
      rcases (List.mem_cons.mp hy) with e | hy
      · subst e
        split at b0 <;> split <;> omega
      · rcases (List.mem_cons.mp hy) with e | hy
        · subst e
          split at b0 <;> split <;> omega
        · exact b y (.tail _ hy)
theorem low_spec : ∀ (l : List Int) (x : Int), low x l ∈ x :: l ∧ ∀ y ∈ x :: l, low x l ≤ y
  | [], x => ⟨List.mem_cons_self, fun y h => by rcases List.mem_cons.mp h with e | h; exact Int.le_of_eq e.symm; cases h⟩
  | z :: l, x => by
    obtain ⟨a, b⟩ := low_spec l (if z < x then z else x)
    have q : low x (z :: l) = low (if z < x then z else x) l := rfl
    rw [q]
    refine ⟨?_, fun y hy => ?_⟩
    · rcases List.mem_cons.mp a with e | a
      · rw [e]
        split
        · simp
        · simp
      · simp [a]
    · have b0 := b _ List.mem_cons_self
      rcases (List.mem_cons.mp hy) with e | hy
      · subst e
        split at b0 <;> split <;> omega
      · rcases (List.mem_cons.mp hy) with e | hy
        · subst e
          split at b0 <;> split <;> omega
        · exact b y (.tail _ hy)
def bSorted : List D → Option D
  | [.list xs] => (intsD xs).map fun ns => .list ((srt ns).map .int)
  | _ => none
def bMax1 : List D → Option D
  | [.list xs] => match intsD xs with
    | some (n :: ns) => some (.int (top n ns))
    | _ => none
  | _ => none
def bMin1 : List D → Option D
  | [.list xs] => match intsD xs with
    | some (n :: ns) => some (.int (low n ns))
    | _ => none
  | _ => none
section
variable {X : Cx} {K : PySem.W.Frag}
theorem Bw.ints {F H : Hp} {x : V} {xs : List D} {ns : List Int} (b : Bw K F H x (.list xs)) (e : Ex F H) (h1 : intsD xs = some ns) : ∃ p, x = .ref p ∧ SqL K H p (ns.map V.int) := by
  obtain ⟨p, vs, rfl, h2, h3⟩ := b.list e
  rw [intsD_some h1] at h3
  have e3 := dpa_toInts h3
  subst e3
  exact ⟨p, rfl, Or.inl (Or.inl h2)⟩
theorem rc_sorted : RdC K (rSortedI K) bSorted := fun F H xs as c e hx hc Q k => by
  unfold bSorted at hc
  split at hc
  · obtain ⟨ns, h1, h2⟩ := Option.map_eq_some_iff.mp hc
    subst h2
    obtain ⟨x, rfl, b⟩ := bw1 hx
    obtain ⟨p, rfl, h⟩ := b.ints e h1
    refine ⟨p, ns, rfl, h, fun ns' l hp hu hz => ?_⟩
    rw [srt_one hp hu]
    exact k _ _ (Grow.made e hz) _ (.lst upd_same dpa_ints)
  · cases hc
theorem rc_max1 : RdC K (rMax K) bMax1 := fun F H xs as c e hx hc Q k => by
  unfold bMax1 at hc
  split at hc
  · split at hc
    · rename_i n ns h1
      cases hc
      obtain ⟨x, rfl, b⟩ := bw1 hx
      obtain ⟨p, rfl, h⟩ := b.ints e h1
      obtain ⟨t1, t2⟩ := top_spec ns n
      refine ⟨p, n :: ns, rfl, h, Nat.succ_pos _, fun m hm hy => ?_⟩
      have : m = top n ns := Int.le_antisymm (t2 m hm) (hy _ t1)
      subst this
      exact flat_q e (.int _) k
    · cases hc
  · cases hc
theorem rc_min1 : RdC K (rMin K) bMin1 := fun F H xs as c e hx hc Q k => by
  unfold bMin1 at hc
  split at hc
  · split at hc
    · rename_i n ns h1
      cases hc
      obtain ⟨x, rfl, b⟩ := bw1 hx
      obtain ⟨p, rfl, h⟩ := b.ints e h1
      obtain ⟨t1, t2⟩ := low_spec ns n
      refine ⟨p, n :: ns, rfl, h, Nat.succ_pos _, fun m hm hy => ?_⟩
      have : m = low n ns := Int.le_antisymm (hy _ t1) (t2 m hm)
      subst this
      exact flat_q e (.int _) k
    · cases hc
  · cases hc
/-! ### data of the module that stand as names -/
def gD (K : PySem.W.Frag) : Nat → Value → D → Bool
  | _, .int i _, .int j => i == j
  | _, .none, .none => true
  | _, .bool i, .bool j => i == j
  | _, .str i _, .str j => i == j
  | n + 1, .ref a, .tuple ds => match K.lookup a with
    | some ⟨.type "tuple", _, .seq its _, _⟩ => decide (its.size ≤ sizeLine) && its.toList.length == ds.length && (its.toList.zip ds).all fun p => gD K n p.1 p.2
    | _ => false
  | _, _, _ => false
theorem gD_ok {K : PySem.W.Frag} : ∀ (n : Nat) (v : Value) (d : D), gD K n v d = true → ∃ x, RelV x v ∧ ∀ H, Da K H x d
  | 0, v, d, h => by
    unfold gD at h
    split at h
    · exact ⟨.int _, ⟨_, rfl⟩, fun H => by rw [eq_of_beq h]; exact .int _⟩
    · exact ⟨.non, rfl, fun H => .non⟩
    · exact ⟨.bl _, rfl, fun H => by rw [eq_of_beq h]; exact .bl _⟩
    · exact ⟨.str _, ⟨_, rfl⟩, fun H => by rw [eq_of_beq h]; exact .str _⟩
    · rename_i e; cases e
    · cases h
  | n + 1, v, d, h => by
    unfold gD at h
    split at h
    · exact ⟨.int _, ⟨_, rfl⟩, fun H => by rw [eq_of_beq h]; exact .int _⟩
    · exact ⟨.non, rfl, fun H => .non⟩
    · exact ⟨.bl _, rfl, fun H => by rw [eq_of_beq h]; exact .bl _⟩
    · exact ⟨.str _, ⟨_, rfl⟩, fun H => by rw [eq_of_beq h]; exact .str _⟩
    · rename_i m a ds e
      cases e
      split at h
      · rename_i its sz _ hl
        simp only [decide_eq_true_eq, Bool.and_eq_true] at h
        obtain ⟨⟨h1, h2⟩, h3⟩ := h
        have go : ∀ (vs : List Value) (ds : List D), vs.length = ds.length → (vs.zip ds).all (fun p => gD K n p.1 p.2) = true → ∃ xs, Vals xs vs ∧ ∀ H, DaAll K H xs ds := by
          intro vs
          induction vs with
          | nil =>
            intro ds h1 _
            cases ds with
            | nil => exact ⟨[], .nil, fun H => .nil⟩
            | cons d ds => cases h1
          | cons v vs ih =>
            intro ds h1 h2
            cases ds with
            | nil => cases h1
            | cons d ds =>
              simp only [List.zip_cons_cons, List.all_cons, Bool.and_eq_true] at h2
              obtain ⟨x, q1, q2⟩ := gD_ok n v d h2.1
              obtain ⟨xs, q3, q4⟩ := ih ds (by simpa using h1) h2.2
              exact ⟨x :: xs, .cons q1 q3, fun H => .cons (q2 H) (q4 H)⟩
        obtain ⟨xs, q1, q2⟩ := go its.toList ds (eq_of_beq h2) h3
        exact ⟨.ref a, rfl, fun H => .tup (Or.inr ⟨_, its, sz, hl, rfl, rfl, h1, q1⟩) (q2 H)⟩
      · cases h
    · cases h
theorem de_gd {W : WX} {pos : Pos} {x : Str} {v : Value} {d : D} {n : Nat} (hg : Gl X x) (hm : X.mg x = some v) (h : gD X.K n v d = true) (hd : (x == ("__debug__" : Str)) = false := by decide) : DE X W (.Name x pos) (cC d) := by
  obtain ⟨y, r, a⟩ := gD_ok n v d h
  exact de_c (v := y) (pe_glob hg hm r hd) a
end
end DL

/-! DLk -/
namespace DL
open PySem L2 PySem.Spec PyProof.Rows
open Evl (Ex ex_l ex_t ex_rd)
/-- sorted(d), the keys ints -/
def rSortedDk : List V → Hp → VK → Prop := fun vs H Q => ∃ (a : Addr) (kvs : List (Key × V)) (ns : List Int), vs = [V.ref a] ∧ Rd H a (.dK kvs) ∧ kvs.map (·.1) = ns.map Sum.inl ∧
  ∀ (ms : List Int) (p : Addr), ms.Perm ns → ms.Pairwise (· ≤ ·) → H p = none → Q (.ref p) (upd H p (.lst (ms.map V.int)))
section
variable {X : Cx}
theorem ints_at : ∀ {vs : List Value} {ns : List Int}, vs.length = ns.length → (∀ (j : Nat) v i, vs[j]? = some v → ns[j]? = some i → ∃ t, v = Value.int i t) → IntsAre vs ns
  | [], [], _, _ => .nil
  | [], _ :: _, hl, _ => nomatch hl
  | _ :: _, [], hl, _ => nomatch hl
  | v :: vs, i :: ns, h, q => by
    obtain ⟨t, rfl⟩ := q 0 v i rfl rfl
    exact .cons i t (ints_at (by simpa using h) fun j v i a b => q (j + 1) v i a b)
theorem kv_at {κ : Type} : ∀ {kvs : List (κ × V)} {vs : List (κ × Value)}, KV kvs vs → ∀ (j : Nat) (k : κ) (x : Value), vs[j]? = some (k, x) → ∃ y, kvs[j]? = some (k, y)
  | _, _, .nil, j, k, x, h => by simp at h
  | _, _, .cons r t, 0, k, x, h => by
    simp only [Option.some.injEq, List.getElem?_cons_zero] at h
    subst h
    rename_i p _ _
    obtain ⟨p1, p2⟩ := p
    exact ⟨p2, by simp only [List.getElem?_cons_zero]; rw [show p1 = k from r.1]⟩
  | _, _, .cons r t, j + 1, k, x, h => kv_at t j k x h
theorem cr_sortedDk (hc : X.calm = true) : CallR X (.builtin "sorted") rSortedDk := by
  intro pins s σ H vs us Q
  intro I r h
  obtain ⟨a, kvs, ns, rfl, ha, hk, q⟩ := h
  rw [Vals.ref1 r]
  obtain ⟨z, hd, vs', rel, dd⟩ := dk_rd I.hok ha
  obtain ⟨ep, hat⟩ := dd.dictAt
  have hlen : vs'.length = kvs.length := rel.length.symm
  have hlk : kvs.length = ns.length := by
    have := congrArg List.length hk
    simpa using this
  refine Calls.call_function_entry (kind_sorted) plain_sorted entry_sorted (args_sorted1 _) ?_
  unfold Builtin.«sorted»
  refine wpAny_bind (m := (checkCount "sorted" 1 1 _)) (wpAny_pure ?_)
  refine wpAny_bind (PySem.W.kdu_collect (A := X.A.in1) (PySem.W.kdl_dict (kvs := vs') (ep := ep) hd) (by have := I.ok.hd hc; simpa using this) hat (by rw [hlen]; exact z) fun h' tk acc hk2 hacc => ?_)
  have hl : acc.toList.length = vs'.length := by rw [Array.length_toList]; exact hacc.1
  have hI : IntsAre acc.toList ns := ints_at (by rw [hl, hlen, hlk]) fun j v i e1 e2 => by
    obtain ⟨k, x, hx, hi⟩ := hacc.2 j v (by rw [← Array.getElem?_toList]; exact e1)
    obtain ⟨y, hy⟩ := kv_at rel j k x hx
    have e3 : (kvs.map (·.1))[j]? = some k := by rw [List.getElem?_map, hy]; rfl
    rw [hk, List.getElem?_map, e2] at e3
    have e4 : k = Sum.inl i := (Option.some.inj e3).symm
    subst e4
    rcases keyIs_shape (show keyIs (Sum.inl i) v = true from hi) with ⟨i', t, e5, e6⟩ | ⟨x', t, e5, e6⟩
    · injection e5 with e5
      exact ⟨t, by rw [e6, e5]⟩
    · cases e5
  have hsz : acc.toList.length ≤ sizeLine := by rw [hl, hlen]; exact z
  refine wpAny_bind (wpAny_newList ?_ hsz)
  have hoL : (h'.push (seqObj "list" acc.toList.toArray 0)).get? h'.objs.size = some (seqObj "list" acc.toList.toArray 0) :=
    Heap.get?_push_size _ rfl
  refine wpAny_bind (wpAny_holding (wpAny_call_entry slot_list_sort ⟨_, hoL, rfl⟩ entry_list_sort (SrtO.list_sort_ord SrtO.swo_int hoL hsz (fun h2 => SrtO.ints_sortable hI h2) fun out h1 h2 => ⟨_, rfl, ?_⟩) (args_list_sort _)))
  obtain ⟨k1, k2, k3⟩ := SrtO.ints_out hI h1 h2
  obtain ⟨c, hc2⟩ := sortedHeap_at (vs := acc.toList) (out := out.toArray) hoL
  have hln : ((out.map SrtO.iv).map V.int).length ≤ sizeLine := by
    rw [List.length_map, k2.length_eq, ← hlk, ← hlen, ← hl]
    exact hsz
  have fr : H h'.objs.size = none := (I.hok.kept hk2).fresh (Nat.le_refl _)
  have fr2 : s.heap.get? h'.objs.size = none := by
    cases g : s.heap.get? h'.objs.size with
    | none => rfl
    | some u => exact absurd (Heap.lt_size (hk2 _ _ g)) (Nat.lt_irrefl _)
  refine wpAny_pure ⟨_, rfl, .ref _, upd H h'.objs.size (.lst ((out.map SrtO.iv).map V.int)), I.laidN (t' := tk) (fun b o e => ?_) fr2 fr ⟨hln, out, c, vals_of_ints k1, hc2⟩, rfl, q _ _ k2 k3 fr⟩
  have hb := hk2 _ _ e
  have hlt := Heap.lt_size hb
  rw [sortedHeap_old (Nat.ne_of_lt hlt) (by rw [size_push']; exact (Nat.lt_succ_of_lt hlt))]
  exact (Heap.get?_push_of_some _ hb)
end
/-! ### dicts, the keys ints and texts -/
def keyD : D → Option Key
  | .int i => some (.inl i)
  | .str x => some (.inr x)
  | _ => none
theorem keyD_some {d : D} {k : Key} (h : keyD d = some k) : d = kD k := by
  cases d <;> simp only [keyD] at h <;> cases h <;> rfl
theorem keyD_kD (k : Key) : keyD (kD k) = some k := by cases k <;> rfl
def getK (ks : List (Key × D)) (k : Key) : Option D := (ks.find? fun q => decide (q.1 = k)).map (·.2)
def setK (ks : List (Key × D)) (k : Key) (d : D) : List (Key × D) := if (ks.any fun q => decide (q.1 = k)) = true then ks.map (fun q => if q.1 = k then (q.1, d) else q) else ks ++ [(k, d)]
/-- the row of a dict -/
def rowK : List (D × D) → Option (List (Key × D))
  | [] => some []
  | (a, d) :: r => (keyD a).bind fun k => (rowK r).map fun ks => (k, d) :: ks
def dctK : D → Option (List (Key × D))
  | .dict ((.none, .none) :: r) => rowK r
  | _ => none
theorem rowK_map : ∀ ks : List (Key × D), rowK (ks.map fun q => (kD q.1, q.2)) = some ks
  | [] => rfl
  | (k, d) :: ks => by simp [rowK, keyD_kD, rowK_map ks]
theorem dctK_dcD (ks : List (Key × D)) : dctK (dcD ks) = some ks := rowK_map ks
theorem rowK_some : ∀ {r : List (D × D)} {ks : List (Key × D)}, rowK r = some ks → r = ks.map fun q => (kD q.1, q.2)
  | [], ks, h => by simp [rowK] at h; subst h; rfl
  | (a, d) :: r, ks, h => by
    simp only [rowK] at h
    cases h1 : keyD a with
    | none => rw [h1] at h; exact nomatch h
    | some k =>
      rw [h1] at h
      simp only [Option.bind_some, Option.map_eq_some_iff] at h
      obtain ⟨ks', h2, h3⟩ := h
      subst h3
      rw [List.map_cons, ← rowK_some h2, ← keyD_some h1]
theorem dctK_some {d : D} {ks : List (Key × D)} (h : dctK d = some ks) : d = dcD ks := by
  unfold dctK at h
  split at h
  · rw [rowK_some h]
  · cases h
section
variable {K : PySem.W.Frag} {F H : Hp}
theorem dks_len : ∀ {kvs : List (Key × V)} {ks : List (Key × D)}, DKs K F kvs ks → kvs.length = ks.length
  | [], _, h => by cases h; rfl
  | _ :: _, _, h => by
    cases h with
    | cons h1 h2 => simp [dks_len h2]
theorem dks_get : ∀ {kvs : List (Key × V)} {ks : List (Key × D)} (k : Key), DKs K F kvs ks → (∀ d, getK ks k = some d → ∃ v, valV kvs k = some v ∧ Da K F v d) ∧ (getK ks k = none → valV kvs k = none)
  | [], _, k, h => by cases h; exact ⟨fun d e => (by cases e), fun _ => rfl⟩
  | (k', v) :: kvs, _, k, h => by
    cases h with
    | cons h1 h2 =>
      rename_i d ds
      obtain ⟨a, b⟩ := dks_get k h2
      by_cases e : k' = k
      · rw [valV_pos (p := (k', v)) e]
        have g : getK ((k', d) :: ds) k = some d := by simp [getK, List.find?_cons, e]
        rw [g]
        exact ⟨fun d' z => by cases z; exact ⟨v, rfl, h1⟩, fun z => by cases z⟩
      · rw [valV_neg (p := (k', v)) e]
        have g : getK ((k', d) :: ds) k = getK ds k := by simp [getK, List.find?_cons, e]
        rw [g]
        exact ⟨a, b⟩
theorem dks_any : ∀ {kvs : List (Key × V)} {ks : List (Key × D)} (k : Key), DKs K F kvs ks → (kvs.any fun q => decide (q.1 = k)) = (ks.any fun q => decide (q.1 = k))
  | [], _, k, h => by cases h; rfl
  | _ :: _, _, k, h => by
    cases h with
    | cons h1 h2 => simp only [List.any_cons, dks_any k h2]
theorem dks_map {v : V} {d : D} (hv : Da K F v d) (k : Key) : ∀ {kvs : List (Key × V)} {ks : List (Key × D)}, DKs K F kvs ks → DKs K F (kvs.map fun q => if q.1 = k then (q.1, v) else q) (ks.map fun q => if q.1 = k then (q.1, d) else q)
  | [], _, h => by cases h; exact .nil
  | (k', v') :: kvs, _, h => by
    cases h with
    | cons h1 h2 =>
      simp only [List.map_cons]
      by_cases e : k' = k
      · rw [if_pos e, if_pos e]
        exact .cons hv (dks_map hv k h2)
      · rw [if_neg e, if_neg e]
        exact .cons h1 (dks_map hv k h2)
theorem dks_app {v : V} {d : D} (hv : Da K F v d) (k : Key) : ∀ {kvs : List (Key × V)} {ks : List (Key × D)}, DKs K F kvs ks → DKs K F (kvs ++ [(k, v)]) (ks ++ [(k, d)])
  | [], _, h => by cases h; exact .cons hv .nil
  | _ :: _, _, h => by
    cases h with
    | cons h1 h2 => exact .cons h1 (dks_app hv k h2)
theorem dks_put {v : V} {d : D} {kvs : List (Key × V)} {ks : List (Key × D)} (h : DKs K F kvs ks) (hv : Da K F v d) (k : Key) : DKs K F (putK kvs k v) (setK ks k d) := by
  unfold putK setK
  rw [dks_any k h]
  split
  · exact dks_map hv k h
  · exact dks_app hv k h
theorem Bw.dict {v : V} {ks : List (Key × D)} (b : Bw K F H v (dcD ks)) (e : Ex F H) : ∃ p kvs, v = .ref p ∧ H p = some (.dK kvs) ∧ DKs K F kvs ks := by
  have inj : ∀ {ks' : List (Key × D)}, ((PyData.none, PyData.none) :: ks.map (fun q => (kD q.1, q.2)) : List (D × D)) = (.none, .none) :: ks'.map (fun q => (kD q.1, q.2)) → ks' = ks := fun {ks'} z => by
    have z1 := (List.cons.inj z).2
    have a := rowK_map ks
    rw [z1, rowK_map ks'] at a
    exact Option.some.inj a
  generalize hd : dcD ks = dd at b
  cases b with
  | fr h =>
    cases h with
    | scr hs =>
      rename_i a ns
      exfalso
      have z := PyData.dict.inj hd
      cases ns with
      | nil => cases z
      | cons n ns => cases z
    | dct h1 h2 q =>
      have z := PyData.dict.inj hd
      rw [q] at z
      have w := inj z
      subst w
      exact ⟨_, _, rfl, e _ _ h1, h2⟩
    | _ => cases hd
  | ow h n a => cases hd
  | od h n a q =>
    have z := PyData.dict.inj hd
    rw [q] at z
    have w := inj z
    subst w
    exact ⟨_, _, rfl, h, a⟩
end
def oDGet (a b : D) : Option D := (dctK a).bind fun ks => (keyD b).bind fun k => getK ks k
def oDIn (a b : D) : Option D := (dctK b).bind fun ks => (keyD a).map fun k => .bool (getK ks k).isSome
def oDNotIn (a b : D) : Option D := (dctK b).bind fun ks => (keyD a).map fun k => .bool (!(getK ks k).isSome)
def rDIx : R2 := fun x y H Q => ∃ a v, x = .ref a ∧ DGet H a y (some v) ∧ Q v H
def rDIn (z : Bool) : R2 := fun x y H Q => ∃ a o, y = .ref a ∧ DGet H a x o ∧ Q (.bl (z ^^ o.isSome)) H
section
variable {X : Cx} {K : PySem.W.Frag}
theorem ix_dk (hu : X.A.units + 1 < cLine) : IxR X rDIx := by
  intro value slice pins s σ H x y v u Q
  intro I rx ry h hs
  obtain ⟨a, r, rfl, g, q⟩ := h
  obtain rfl : v = .ref a := rx
  exact tail_any (dict_typeIs I g) PySem.F.slot_dict_getitem.lookup (d_getItem hu I g ry fun w' s' I' rw' => ⟨r, H, I', rw', q⟩) hs
theorem op_dkIn (hu : X.A.units + 1 < cLine) : OpR X (compareOp .In) (rDIn false) := by
  intro pins s σ H x y v u Q
  intro I rx ry h
  obtain ⟨a, o, rfl, g, q⟩ := h
  obtain rfl : u = .ref a := ry
  exact d_in hu I g rx fun s' I' => ⟨.bl o.isSome, H, I', rfl, by simpa using q⟩
theorem op_dkNotIn (hu : X.A.units + 1 < cLine) : OpR X (compareOp .NotIn) (rDIn true) := by
  intro pins s σ H x y v u Q
  intro I rx ry h
  obtain ⟨a, o, rfl, g, q⟩ := h
  obtain rfl : u = .ref a := ry
  exact d_notIn hu I g rx fun s' I' => ⟨.bl (!o.isSome), H, I', rfl, by simpa using q⟩
theorem bw_key {F H : Hp} {x : V} {a : D} {k : Key} (h : Bw K F H x a) (e : keyD a = some k) : x = kV k := by
  have := keyD_some e
  subst this
  cases k with
  | inl i => exact h.int
  | inr z => exact h.str
theorem rd_dIx : RdO K rDIx oDGet := fun F H x y a b c e hx hy hc Q k => by
  unfold oDGet at hc
  obtain ⟨ks, h1, hc⟩ := Option.bind_eq_some_iff.mp hc
  obtain ⟨kk, h2, hc⟩ := Option.bind_eq_some_iff.mp hc
  rw [dctK_some h1] at hx
  obtain ⟨p, kvs, rfl, h3, h4⟩ := hx.dict e
  obtain ⟨v, h5, h6⟩ := (dks_get kk h4).1 c hc
  refine ⟨p, v, rfl, .inl ⟨kvs, kk, .inl h3, bw_key hy h2, h5.symm⟩, flat_q e h6 k⟩
theorem rd_dIn (z : Bool) {o : D → D → Option D} (ho : ∀ a b, o a b = (dctK b).bind fun ks => (keyD a).map fun k => .bool (z ^^ (getK ks k).isSome)) : RdO K (rDIn z) o := fun F H x y a b c e hx hy hc Q k => by
  rw [ho] at hc
  obtain ⟨ks, h1, hc⟩ := Option.bind_eq_some_iff.mp hc
  obtain ⟨kk, h2, hc⟩ := Option.map_eq_some_iff.mp hc
  subst hc
  rw [dctK_some h1] at hy
  obtain ⟨p, kvs, rfl, h3, h4⟩ := hy.dict e
  obtain ⟨g1, g2⟩ := dks_get kk h4
  have e2 : (valV kvs kk).isSome = (getK ks kk).isSome := by
    cases hg : getK ks kk with
    | none => rw [g2 hg]; rfl
    | some d =>
      obtain ⟨v, h5, _⟩ := g1 d hg
      rw [h5] <;> rfl
  refine ⟨p, valV kvs kk, rfl, .inl ⟨kvs, kk, .inl h3, bw_key hx h2, rfl⟩, ?_⟩
  rw [e2]
  exact flat_q e (.bl _) k
theorem room1 {k : Nat} {A : Around} (r : Room k A) : A.units + 1 < cLine := by have := r.units; omega
/-- all subscripts, all kinds of in -/
def oIxA (a b : D) : Option D := match a with
  | .dict _ => oDGet a b
  | _ => oIx a b
def oInB (a b : D) : Option D := match b with
  | .dict _ => oDIn a b
  | _ => oInA a b
def oNotInB (a b : D) : Option D := match b with
  | .dict _ => oDNotIn a b
  | _ => oNotInA a b
theorem ixA (hu : X.A.units + 1 < cLine) : IxR X (fun x y H Q => rIx X.K x y H Q ∨ rDIx x y H Q) := ixD.or (ix_dk hu)
theorem rd_ixA : RdO K (fun x y H Q => rIx K x y H Q ∨ rDIx x y H Q) oIxA := RdO.or rd_ix rd_dIx fun a b c h => by
  unfold oIxA at h
  split at h
  · exact .inr h
  · exact .inl h
theorem op_inB (hu : X.A.units + 65 < cLine) : OpR X (compareOp .In) (fun x y H Q => (rInDD X.K x y H Q ∨ rIn X.K false x y H Q) ∨ rDIn false x y H Q) := (op_inA hu).or (op_dkIn (by omega))
theorem op_notinB (hu : X.A.units + 65 < cLine) : OpR X (compareOp .NotIn) (fun x y H Q => (rNotInDD X.K x y H Q ∨ rIn X.K true x y H Q) ∨ rDIn true x y H Q) := (op_notinA hu).or (op_dkNotIn (by omega))
theorem rd_inB : RdO K (fun x y H Q => (rInDD K x y H Q ∨ rIn K false x y H Q) ∨ rDIn false x y H Q) oInB := RdO.or rd_inA (rd_dIn false (o := oDIn) fun a b => by simp [oDIn]) fun a b c h => by
  unfold oInB at h
  split at h
  · exact .inr h
  · exact .inl h
theorem rd_notinB : RdO K (fun x y H Q => (rNotInDD K x y H Q ∨ rIn K true x y H Q) ∨ rDIn true x y H Q) oNotInB := RdO.or rd_notinA (rd_dIn true (o := oDNotIn) fun a b => by simp [oDNotIn]) fun a b c h => by
  unfold oNotInB at h
  split at h
  · exact .inr h
  · exact .inl h
/-! sorted, of a list of ints or of a dict whose keys are ints -/
def intKs : List (Key × D) → Option (List Int)
  | [] => some []
  | (.inl i, _) :: r => (intKs r).map (i :: ·)
  | _ => none
theorem intKs_some : ∀ {ks : List (Key × D)} {ns : List Int}, intKs ks = some ns → ks.map (·.1) = ns.map Sum.inl
  | [], ns, h => by simp [intKs] at h; subst h; rfl
  | (.inl i, d) :: r, ns, h => by
    simp only [intKs] at h
    obtain ⟨m, h1, h2⟩ := Option.map_eq_some_iff.mp h
    subst h2
    rw [List.map_cons, intKs_some h1] <;> rfl
  | (.inr x, d) :: r, ns, h => by cases h
theorem dks_keys {F : Hp} : ∀ {kvs : List (Key × V)} {ks : List (Key × D)}, DKs K F kvs ks → kvs.map (·.1) = ks.map (·.1)
  | [], _, h => by cases h; rfl
  | _ :: _, _, h => by
    cases h with
    | cons h1 h2 => simp only [List.map_cons, dks_keys h2]
def bSortedA : List D → Option D
  | [.dict r] => (dctK (.dict r)).bind fun ks => (intKs ks).map fun ns => .list ((srt ns).map .int)
  | as => bSorted as
theorem cr_sortedA (hc : X.calm = true) : CallR X (.builtin "sorted") (fun xs H Q => rSortedI X.K xs H Q ∨ rSortedDk xs H Q) := cr_sortedI.or (cr_sortedDk hc)
theorem rc_sortedA : RdC K (fun xs H Q => rSortedI K xs H Q ∨ rSortedDk xs H Q) bSortedA := fun F H xs as c e hx hc Q k => by
  unfold bSortedA at hc
  split at hc
  · right
    obtain ⟨ks, h1, hc⟩ := Option.bind_eq_some_iff.mp hc
    obtain ⟨ns, h2, hc⟩ := Option.map_eq_some_iff.mp hc
    subst hc
    obtain ⟨x, rfl, b⟩ := bw1 hx
    rw [dctK_some h1] at b
    obtain ⟨p, kvs, rfl, h3, h4⟩ := b.dict e
    refine ⟨p, kvs, ns, rfl, .inl h3, (dks_keys h4).trans (intKs_some h2), fun ns' l hp hu hz => ?_⟩
    rw [srt_one hp hu]
    exact k _ _ (Grow.made e hz) _ (.lst upd_same dpa_ints)
  · exact .inl (rc_sorted F H xs as c e hx hc Q k)
end
/-! ### {}, d[k] = v -/
def asDic : Env → R SV := fun _ => .ok (.dic [])
section
variable {X : Cx} {W : WX} {o i e value : Expr} {pos pos' : Pos} {f g h : Env → R D}
theorem dx_dic {W : WX} : DX X W (.Dict [] [] pos) asDic := ⟨pe_imp pe_dnewK fun σ H Q ⟨F0, H0, F, ρ, r, k⟩ p hp => by
  have e := r.g.in_
  have fp : F p = none := Evl.fresh_back e hp
  exact k F (upd H p (.dK [])) (Grow.held e hp) _ ⟨p, [], rfl, hp, fp, upd_same, .nil⟩⟩
def sPut (i : Nat) (f g : Env → R D) : Env → Out := fun ρ => exB ρ (f ρ) fun d => match ρ[i]? with
  | some (.dic ks) => exB ρ (g ρ) fun b => match keyD b with
    | some k => if ks.length < 100000 then .nx (ρ.set i (.dic (setK ks k d))) else .bad
    | none => .bad
  | _ => .bad
theorem ds_put {i : Nat} {x : Str} {p1 : Pos} {ix : Expr} (hu : X.A.units + 1 < cLine) (hN : X.N[i]? = some x) (hv : Vis X.env.scope x) (ha : DE X W value f) (hb : DE X W ix g)
    (hs : swapsWith value (some (.Subscript (.Name x p1) ix pos')) pos.line X.env = pure false := by rfl) (hd : (x == ("__debug__" : Str)) = false := by decide) (hcd : (x == ("__classdict__" : Str)) = false := by decide) :
    DS X W (.Assign [.Subscript (.Name x p1) ix pos'] value pos) (sPut i f g) :=
  ⟨ps_imp (ps_dput hu (pe_var hN hv hd hcd) hb.pe ha.pe hs) fun Z σ H ⟨F0, H0, F, ρ, r, k⟩ => ⟨F0, H0, F, ρ, r, exB_ok r k fun d F1 H1 g1 q1 v hv => by
    split at q1
    · rename_i ks hi
      obtain ⟨p, kvs, e1, e2, e3, e4, e5⟩ := (r.grow g1).dic i ks hi
      refine ⟨.ref p, e1, F0, H0, F1, ρ, r.grow g1, exB_ok (r.grow g1) q1 fun b F2 H2 g2 q2 y hy => ?_⟩
      split at q2
      · rename_i kk hk
        split at q2
        · rename_i hlen
          have r2 := (r.grow g1).grow g2
          have e4' := g2.h _ _ e4
          have fp : F2 p = none := by
            cases z : F2 p with
            | none => rfl
            | some o =>
              have w := g2.new p o z e3
              rw [e4] at w; cases w
          have l5 := dks_len e5
          have ey : y = kV kk := bw_key (H := H2) (.fr hy) hk
          refine ⟨p, _, rfl, .inl ⟨kvs, kk, e4', ey, Evl.sz_lt (by omega), rfl⟩, ?_⟩
          exact q2 F2 _ σ (.refl _) (r2.mutD hi e1 ⟨_, e4'⟩ e2 fp (dks_put (e5.up g2.f) (hv.up g2.f) kk))
        · exact q2.elim
      · exact q2.elim
    · exact q1.elim⟩⟩
end
end DL

/-! DLi -/
namespace DL
open PySem L2 PySem.Spec PyProof.Rows
open Evl (Ex ex_l ex_t ex_rd)
section
variable {X : Cx} {W : WX} {e e1 e2 e3 o i value : Expr} {es : List Expr} {pos pos' : Pos} {f g h : Env → R D}
/-- x[k] = v, x an own list -/
def sPutL (i : Nat) (f g : Env → R D) : Env → Out := fun ρ => exB ρ (f ρ) fun d => match ρ[i]? with
  | some (.own ds) => exB ρ (g ρ) fun b => match intD b with
    | some k => match ixN ds.length k with
      | some j => .nx (ρ.set i (.own (ds.set j d)))
      | none => .bad
    | none => .bad
  | _ => .bad
theorem ds_putL {i : Nat} {x : Str} {p1 : Pos} {ix : Expr} (hN : X.N[i]? = some x) (hv : Vis X.env.scope x) (ha : DE X W value f) (hb : DE X W ix g)
    (hs : swapsWithSole [.Subscript (.Name x p1) ix pos'] value pos.line X.env = pure false := by rfl) (hw : swappedStores [.Subscript (.Name x p1) ix pos'] value X.env = pure none := by rfl)
    (h1 : (assignEach [.Subscript (.Name x p1) ix pos'] X.env).map (·.2) = [assign (.Subscript (.Name x p1) ix pos') X.env] := by rfl)
    (hq : ∀ v, assign (.Subscript (.Name x p1) ix pos') X.env v = (do
      let ov ← holding [v] (eval (.Name x p1) X.env)
      let iv ← holding [v, ov] (eval ix X.env)
      standAt pos'; holding [v, ov, iv] (setItem ov iv v)
      release [v, ov, iv] []) := by intro _; rfl)
    (hdb : (x == ("__debug__" : Str)) = false := by decide) (hcd : (x == ("__classdict__" : Str)) = false := by decide) :
    DS X W (.Assign [.Subscript (.Name x p1) ix pos'] value pos) (sPutL i f g) :=
  ⟨ps_imp (ps_asg ha.pe (pg_sub (pe_var hN hv hdb hcd) hb.pe set_list hq) hs hw h1) fun Z σ H ⟨F0, H0, F, ρ, r, k⟩ => ⟨F0, H0, F, ρ, r, exB_ok r k fun d F1 H1 g1 q1 v hv => by
    split at q1
    · rename_i ds hi
      obtain ⟨p, vs, e1, e2, e3, e4, e5⟩ := (r.grow g1).own i ds hi
      refine ⟨.ref p, e1, F0, H0, F1, ρ, r.grow g1, exB_ok (r.grow g1) q1 fun b F2 H2 g2 q2 y hy => ?_⟩
      split at q2
      · rename_i kk hk
        split at q2
        · rename_i j hj
          have hk' := intD_some hk
          subst hk'
          cases hy
          have r2 := (r.grow g1).grow g2
          have e4' := g2.h _ _ e4
          have fp : F2 p = none := by
            cases z : F2 p with
            | none => rfl
            | some o =>
              have w := g2.new p o z e3
              rw [e4] at w; cases w
          refine ⟨p, vs, kk, j, rfl, rfl, e4', by rw [dpa_len e5]; exact hj, ?_⟩
          exact q2 F2 _ σ (.refl _) (r2.mut hi e1 ⟨_, e4'⟩ e2 fp (dpa_set j (e5.up g2.f) (hv.up g2.f)))
        · exact q2.elim
      · exact q2.elim
    · exact q1.elim⟩⟩
/-! ### methods by values -/
def RdM (K : PySem.W.Frag) (T : String) (r : V → List V → Hp → VK → Prop) (o : D → List D → Option D) : Prop :=
  ∀ (F H : Hp) (x : V) (a : D) (c : D) (xs : List V) (as : List D), Ex F H → Bw K F H x a → BwAll K F H xs as → o a as = some c → ∀ Q : VK, (∀ F' H', Grow F H F' H' → ∀ v, Da K F' v c → Q v H') → r x xs H Q
def lstB : D → Bool
  | .list _ => true
  | _ => false
def cMt (o : D → List D → Option D) (f : Env → R D) (q : Env → R (List D)) : Env → R D := fun ρ => (f ρ).bind fun a => if lstB a = true then (q ρ).bind fun as => ofO (o a as) else .bad
/-- list.index of data -/
def idxD : List D → D → Option Nat
  | [], _ => none
  | x :: xs, d => if PyData.eqv x d = true then some 0 else (idxD xs d).map (· + 1)
def mIndexL (a : D) (as : List D) : Option D := match a, as with
  | .list xs, [d] => if SeqAt.shaped (.list xs) = true ∧ SeqAt.shaped d = true then (idxD xs d).map fun j => .int (j : Nat) else none
  | _, _ => none
theorem idxD_some : ∀ {xs : List D} {d : D} {j : Nat}, idxD xs d = some j → ∃ z, xs[j]? = some z ∧ PyData.eqv z d = true ∧ ∀ (m : Nat) (z' : D), m < j → xs[m]? = some z' → PyData.eqv z' d = false
  | [], d, j, h => by cases h
  | x :: xs, d, j, h => by
    unfold idxD at h
    split at h
    · rename_i e
      cases h
      exact ⟨x, rfl, e, fun m z' hm => absurd hm (Nat.not_lt_zero _)⟩
    · rename_i e
      obtain ⟨j', h1, h2⟩ := Option.map_eq_some_iff.mp h
      subst h2
      obtain ⟨z, a, b, c⟩ := idxD_some h1
      refine ⟨z, a, b, fun m z' hm hz => ?_⟩
      cases m with
      | zero =>
        cases hz
        cases q : PyData.eqv x d with
        | false => rfl
        | true => exact absurd q e
      | succ m => exact c m z' (by omega) hz
theorem rm_indexL {K : PySem.W.Frag} : RdM K "list" (fun x xs H Q => tyV K "list" x H ∧ rIndexD K x xs H Q) mIndexL := fun F H x a c xs as e hx hxs hc Q k => by
  unfold mIndexL at hc
  split at hc
  · rename_i ds d
    split at hc
    · rename_i sh
      obtain ⟨j, h1, h2⟩ := Option.map_eq_some_iff.mp hc
      subst h2
      obtain ⟨z, q1, q2, q3⟩ := idxD_some h1
      obtain ⟨y, rfl, b⟩ := bw1 hxs
      have hda := hx.da e
      obtain ⟨p, vs, rfl, h3, h4⟩ := hx.list e
      refine ⟨.inl ⟨rfl, vs, Or.inl (Or.inl h3)⟩, p, y, d, ds, j, z, rfl, rfl, da_dp _ _ (SeqAt.canLay_of_shaped sh.1) hda, da_dp _ _ (SeqAt.canLay_of_shaped sh.2) (b.da e), sh.1, sh.2, q1, q2, q3, flat_q e (.int _) k⟩
    · cases hc
  · cases hc
/-- list.count of ints -/
def mCountL (a : D) (as : List D) : Option D := match a, as with
  | .list xs, [.int k] => (intsD xs).map fun ns => .int (ns.count k : Nat)
  | _, _ => none
theorem rm_countL {K : PySem.W.Frag} : RdM K "list" (fun x xs H Q => tyV K "list" x H ∧ rCntI K x xs H Q) mCountL := fun F H x a c xs as e hx hxs hc Q k => by
  unfold mCountL at hc
  split at hc
  · rename_i ds n
    obtain ⟨ns, h1, h2⟩ := Option.map_eq_some_iff.mp hc
    subst h2
    obtain ⟨y, rfl, b⟩ := bw1 hxs
    obtain ⟨p, rfl, h⟩ := hx.ints e h1
    exact ⟨.inl ⟨rfl, _, h⟩, p, ns, n, rfl, by rw [b.int], h, flat_q e (.int _) k⟩
  · cases hc
theorem de_meth {id : String} {name : Str} {apos : Pos} {r : V → List V → Hp → VK → Prop} {m : D → List D → Option D} {q : Env → R (List D)} (hr : RdM X.K "list" (fun x xs H Q => tyV X.K "list" x H ∧ r x xs H Q) m)
    (slot : Slot "list" name id) (hty : typeOf (.builtin id) = pure (.type "method_descriptor")) (hm : MtR X id r) (ho : DB X W o f) (ha : DAB X W (e :: es) q)
    (hbase : attributeBase o name X.env (eval o X.env) = eval o X.env := by rfl) (hfew : ((backTo pos (starEach (e :: es) X.env)).all (fun x => !x.1) && (backToKw pos (keywordEach [] X.env)).all (fun x => x.1.isSome) && decide ((e :: es).length + ([] : List Keyword).length + (if ([] : List Keyword).isEmpty then 0 else 1) < 30)) = true := by rfl)
    (hline : (apos.endLine == pos.line) = true := by rfl) (hs : starEach (e :: es) X.env = (false, eval e X.env) :: starEach es X.env := by rfl) (hplain : (backTo pos (starEach es X.env)).any (·.1) = false := by rfl) :
    DE X W (.Call (.Attribute o name apos) (e :: es) [] pos) (cMt m f q) :=
  ⟨pe_imp (pe_bm PySem.F.plainAttrs_list slot hty hm ho.pe ha.pa hbase hfew hline hs hplain) fun σ H Q ⟨F0, H0, F, ρ, rp, k⟩ => ⟨F0, H0, F, ρ, rp, (ROk.step (r := f ρ) k).imp fun a F1 H1 _ g1 q1 x hx => by
    split at q1
    · rename_i la
      have ty : tyV X.K "list" x H1 := by
        cases a with
        | list ds =>
          obtain ⟨p, vs, rfl, h3, h4⟩ := hx.list g1.in_
          exact .inl ⟨rfl, vs, Or.inl (Or.inl h3)⟩
        | _ => cases la
      exact ⟨ty, F0, H0, F1, ρ, rp.grow g1, (ROk.step (r := q ρ) q1).imp fun as F2 H2 _ g2 q2 vs hvs => by
        obtain ⟨c2, e2, z2⟩ := q2.ofO
        exact (hr F2 H2 x a c2 vs as g2.in_ (hx.grow g2) hvs e2 Q fun F3 H3 g3 v hv => z2 F3 H3 g3 v hv).2⟩
    · exact q1.elim⟩⟩
/-- a call without arguments -/
theorem de_call0 {x : Str} {p : Pos} {k j : Nat} {sem : List D → R D} (C : Callee X.prog X.w X.K X.mg X.base k x 0 sem) (hr : Room j X.A) (hkj : k ≤ j) (hg : Gl X x) (tk : Takes X W) (hdb : (x == ("__debug__" : Str)) = false := by decide) :
    DE X W (.Call (.Name x p) [] [] pos) (cCall sem aNil) := by
  obtain ⟨f, fd, ps, hm, hk, hb, Fn⟩ := C.ex
  refine ⟨⟨fun pins s σ H Q I ⟨F0, H0, F, ρ, r, z⟩ => ?_⟩⟩
  have z : ROk X.K X.mg (fun c d H' => W c d σ H') F H (fun d F' H' => ∀ v, Da X.K F' v d → Q v H') (sem []) := z
  refine wpAny_Call_Name_kw (ld_glob I hg hm ?_ (hdb))
  exact PySem.W.callWith_K0 I.kIn hk (run_fnSD (us := []) (vs := []) Fn (hr.mono hkj) hb .nil (passAt tk σ) I .nil ⟨F, [], r.g.in_, .nil, rfl, z⟩)
/-- x.extend(e), x an own list -/
def sExt (i : Nat) (f : Env → R D) : Env → Out := fun ρ => match ρ[i]? with
  | some (.own ds) => exB ρ (f ρ) fun d => match d with
    | .list es => if ds.length + es.length ≤ 100000 then .nx (ρ.set i (.own (ds ++ es))) else .bad
    | _ => .bad
  | _ => .bad
theorem ds_ext {i : Nat} {x : Str} {p1 p2 p3 : Pos} (hN : X.N[i]? = some x) (hv : Vis X.env.scope x) (ha : DE X W e f) (hd : (x == ("__debug__" : Str)) = false := by decide) (hcd : (x == ("__classdict__" : Str)) = false := by decide)
    (hbase : attributeBase (.Name x p1) "extend" X.env (eval (.Name x p1) X.env) = eval (.Name x p1) X.env := by rfl)
    (hfew : ((backTo p3 (starEach [e] X.env)).all (fun x => !x.1) && (backToKw p3 (keywordEach [] X.env)).all (fun x => x.1.isSome) && decide ([e].length + ([] : List Keyword).length + (if ([] : List Keyword).isEmpty then 0 else 1) < 30)) = true := by rfl)
    (hline : (p2.endLine == p3.line) = true := by rfl) (hs : starEach [e] X.env = (false, eval e X.env) :: starEach [] X.env := by rfl) (hplain : (backTo p3 (starEach [] X.env)).any (·.1) = false := by rfl)
    (hsw : swapsWith (.Call (.Attribute (.Name x p1) "extend" p2) [e] [] p3) none pos.line X.env = pure false := by rfl) :
    DS X W (.Expr (.Call (.Attribute (.Name x p1) "extend" p2) [e] [] p3) pos) (sExt i f) :=
  ⟨ps_imp (ps_expr (pe_bm PySem.F.plainAttrs_list PySem.F.slot_list_extend PySem.F.type_list_extend mt_extend (pe_var hN hv hd hcd) (pa_cons ha.pe pa_nil hs) hbase hfew hline hs hplain) hsw) fun Z σ H ⟨F0, H0, F, ρ, r, k⟩ => by
    have k : OOk X.K X.mg W F0 H0 F Z (match ρ[i]? with | some (.own ds) => exB ρ (f ρ) fun d => (match d with | .list es => if ds.length + es.length ≤ 100000 then .nx (ρ.set i (.own (ds ++ es))) else .bad | _ => .bad) | _ => .bad) := k
    split at k
    · rename_i ds hi
      obtain ⟨p, vs, e1, e2, e3, e4, e5⟩ := r.own i ds hi
      refine ⟨.ref p, e1, .inl ⟨rfl, _, Or.inl (Or.inl e4)⟩, F0, H0, F, ρ, r, exB_ok r k fun d F' H' gr q v hv => ?_⟩
      split at q
      · rename_i es
        split at q
        · rename_i hlen
          have r' := r.grow gr
          have fp : F' p = none := by
            cases z : F' p with
            | none => rfl
            | some o =>
              have w := gr.new p o z e3
              rw [e4] at w; cases w
          cases hv with
          | lst h1 h2 =>
            have l5 := dpa_len e5
            have l6 := dpa_len h2
            refine ⟨p, _, vs, _, rfl, rfl, gr.h _ _ e4, gr.in_ _ _ h1, Evl.sz_of (by omega), ?_⟩
            exact q F' _ σ (.refl _) (r'.mut hi e1 ⟨_, gr.h _ _ e4⟩ e2 fp (dpa_app (e5.up gr.f) h2))
        · exact q.elim
      · exact q.elim
    · exact k.elim⟩
/-- d.get(k, x) -/
def cGet2 (f g h : Env → R D) : Env → R D := fun ρ => (f ρ).bind fun a => (ofO (dctK a)).bind fun ks => (g ρ).bind fun b => (h ρ).bind fun d => (ofO (keyD b)).bind fun k => .ok ((getK ks k).getD d)
theorem de_get2 {apos cpos : Pos} (hu : X.A.units + 1 < cLine) (ho : DB X W o f) (ha : DE X W e1 g) (hb : DE X W e2 h)
    (m1 : attributeBase o "get" X.env (eval o X.env) = eval o X.env := by rfl)
    (m2 : ((backTo cpos (starEach [e1, e2] X.env)).all (fun x => !x.1) && (backToKw cpos (keywordEach [] X.env)).all (fun x => x.1.isSome) && decide (([e1, e2] : List Expr).length + ([] : List Keyword).length + (if ([] : List Keyword).isEmpty then 0 else 1) < 30)) = true := by rfl)
    (m3 : (apos.endLine == cpos.line) = true := by rfl) (m4 : backTo cpos (starEach [e1, e2] X.env) = [(false, eval e1 X.env), (false, eval e2 X.env)] := by rfl) :
    DE X W (.Call (.Attribute o "get" apos) [e1, e2] [] cpos) (cGet2 f g h) :=
  ⟨pe_imp (pe_dget2 hu ho.pe ha.pe hb.pe ⟨m1, m2, m3, m4⟩) fun σ H Q ⟨F0, H0, F, ρ, rp, k⟩ => ⟨F0, H0, F, ρ, rp, (ROk.step (r := f ρ) k).imp fun a F1 H1 _ g1 q1 x hx => by
    cases hk : dctK a with
    | none => rw [hk] at q1; exact q1.elim
    | some ks =>
      rw [hk] at q1
      have q1 : ROk X.K X.mg (fun c d H' => W c d σ H') F1 H1 (fun a F' H' => ∀ v, Da X.K F' v a → Q v H') ((g ρ).bind fun b => (h ρ).bind fun d => (ofO (keyD b)).bind fun k => .ok ((getK ks k).getD d)) := q1
      rw [dctK_some hk] at hx
      obtain ⟨p, kvs, rfl, h3, h4⟩ := hx.dict g1.in_
      refine ⟨p, rfl, .inl ⟨kvs, .inl h3⟩, F0, H0, F1, ρ, rp.grow g1, (ROk.step (r := g ρ) q1).imp fun b F2 H2 _ g2 q2 y hy => ⟨F0, H0, F2, ρ, (rp.grow g1).grow g2, (ROk.step (r := h ρ) q2).imp fun d F3 H3 _ g3 q3 z hz => ?_⟩⟩
      cases hb : keyD b with
      | none => rw [hb] at q3; exact q3.elim
      | some kk =>
        rw [hb] at q3
        have q3 : ∀ F4 H4, Grow F3 H3 F4 H4 → ∀ v, Da X.K F4 v ((getK ks kk).getD d) → Q v H4 := q3
        have h4' := (h4.up g2.f).up g3.f
        obtain ⟨n1, n2⟩ := dks_get kk h4'
        have ey : y = kV kk := bw_key (H := H3) (.fr (hy.up g3.f)) hb
        refine ⟨valV kvs kk, .inl ⟨kvs, kk, .inl (g3.h _ _ (g2.h _ _ h3)), ey, rfl⟩, ?_⟩
        cases hg : getK ks kk with
        | none =>
          rw [n2 hg]
          rw [hg] at q3
          exact q3 F3 H3 (.refl g3.in_) z hz
        | some d' =>
          obtain ⟨v, h5, h6⟩ := n1 d' hg
          rw [h5]
          rw [hg] at q3
          exact q3 F3 H3 (.refl g3.in_) v h6⟩⟩
end
end DL

/-! DLj -/
/-! set(x), x a list of ints -/
namespace DL
open PySem L2 PySem.Spec PyProof.Rows
section
variable {P : Program} {w : World} {A : Around} {s : Shared} {E : Value → Shared → Prop}
/-- the new set as it is made -/
def nset (w : World) : Obj := { cls := .type "set", dict := none, data := .set #[] 0 (.fresh 0 0 (!w.params.followText "set-order")) }
/-- what set.__init__ leaves at the new set's place -/
def Filled (w : World) (s : Shared) (ns : List Int) (r : Value) (t : Shared) : Prop :=
  r = .none ∧ ∃ h1 k c, t = { s with heap := h1, toks := k } ∧ SetR w h1 s.heap.objs.size (fun j => decide (j ∈ ns)) c ∧ c ≤ ns.length ∧ ∀ b u, s.heap.get? b = some u → h1.get? b = some u
set_option maxHeartbeats 3300000 in
theorem set_list {l : Addr} {items : Array Value} (ns : List Int) {Q : Value → Shared → Prop} (nh : A.handled = none) (li : s.heap.IsList l items) (ia : IntsAre items.toList ns) (hb : ns.length + 1 < scanBound)
    (goal : ∀ (h1 : Heap) (k c : Nat), SetR w h1 s.heap.objs.size (fun j => decide (j ∈ ns)) c → c ≤ ns.length → (∀ b u, s.heap.get? b = some u → h1.get? b = some u) → Q (.ref s.heap.objs.size) { s with heap := h1, toks := k }) :
    (wpAny (model P w) A (call (.type "set") [.ref l]) Q E s) := by
  have len : items.size = ns.length := (Array.length_toList (xs := items)).symm.trans (IntsAre.length ia)
  obtain ⟨mc, mt, mm⟩ := F.called_set.mro
  have m1 := F.called_set.made; have m2 := F.called_set.sub; have m3 := F.called_set.notType; have m4 := F.called_set.canCreate; have m5 := F.typeCall_set_1 (.ref l)
  refine wpAny_call (codeAny_of_tree (show wpAny _ _ (callAny (.type "set") _) _ _ _ from wpAny_pure ⟨Code.quiet_builtin _ (by decide +kernel), codeAny_builtin F.entry_type_call ?_⟩))
  rw [Around.under_plain (weight_type_call_type "set" [.ref l] []) (by rfl)]
  repeat (any_goals (first | wp_step | assumption))
  refine codeAny_mono (code_set_led1 (.ref l) (E := E) (Q₁ := fun v t => v = .ref s.heap.objs.size ∧ t = { s with heap := s.heap.push (nset w) }) ⟨by rfl, by rfl⟩) fun r t hr => ?_
  match r, hr with
  | .error _, hr => exact hr
  | .ok (.ret v), hr =>
    obtain ⟨rfl, rfl⟩ := hr
    have at0 : (s.heap.push (nset w)).get? s.heap.objs.size = some (nset w) := Heap.get?_push_size _ (by rfl)
    have ty : Shared.TypeIs { s with heap := s.heap.push (nset w) } (.ref s.heap.objs.size) "set" := ⟨_, at0, by rfl⟩
    have i1 := F.called_set.init.lookup; have i2 := F.called_set.init.bind (.ref s.heap.objs.size)
    repeat (any_goals (first | wp_step | assumption))
    refine codeAny_mono (codeAny_call_builtin (R := wants (Filled w s ns) E) F.called_set.init.plain F.entry_set_init (check_set_init_1 ty ?_)) fun r t hr => ?_
    · obtain ⟨⟨oc, od, oda, osl⟩, g1, g2, nl, g3⟩ := li
      simp only at g2 g3; subst g2; subst g3
      have g1' : (s.heap.push (nset w)).get? l = some ⟨.type "list", od, .seq items nl, osl⟩ := Heap.get?_push_of_some _ g1
      have q1 := F.sub_list_set; have q2 := F.sub_list_frozenset; have q3 : (Value.type "list" == Value.type "dict") = false := by decide
      have li1 : (s.heap.push (nset w)).IsList l items := ⟨_, g1', by rfl, nl, by rfl⟩
      unfold Builtin.«set.__init__» noKeywords; unfold Builtin.Frozenset.updateFrom
      generalize hq : pyIter = PI
      wp_walk
      subst hq
      refine wpAny_pyIter_list li1 (wpAny_bind (wpAny_runValue ?_))
      have lt := Heap.lt_size g1
      have nh3 : A.in1.in1.in1.handled = none := by simp [nh]
      have sz := Heap.size_push s.heap (nset w)
      have ne1 : l ≠ (s.heap.push (nset w)).objs.size := Nat.ne_of_lt (by rw [sz]; exact Nat.lt_succ_of_lt lt)
      have ni : s.heap.objs.size ∉ [(s.heap.push (nset w)).objs.size, l] := fun z => by
        rw [sz] at z
        rcases (List.mem_cons.mp z) with z | z
        · exact Nat.lt_irrefl _ (Nat.lt_of_lt_of_eq (Nat.lt_succ_self _) z.symm)
        · exact Nat.lt_irrefl _ (Nat.lt_of_le_of_lt (Nat.le_of_eq (List.mem_singleton.mp z)) lt)
      refine set_update_ints ((Walks.list nh3 _ l ne1 items).toS) s.heap.objs.size ni ns len hb (fun i v hv => ?_) items.size 0 _ (by omega) (Nat.zero_le _) ⟨⟨_, Heap.get?_push_size _ (by rfl), by rfl, by rfl⟩, li1.push _⟩
        ⟨0, Nat.le_refl 0, setR_new_at (Heap.get?_push_of_some _ at0)⟩ fun t c hm hc hS => ?_
      · have hi : i < ns.length := by rw [← len]; exact (Array.getElem?_eq_some_iff.mp hv).1
        obtain ⟨tk, e⟩ := PyProof.Rows.IntsAre.int_at ia i v (by rw [Array.getElem?_toList]; exact hv)
        exact ⟨ns[i], tk, List.getElem?_eq_getElem hi, by rw [e, List.getD_eq_getElem?_getD, List.getElem?_eq_getElem hi] <;> rfl⟩
      · obtain ⟨h1, ge, dr, k, os⟩ := t
        obtain rfl : ge = s.gens := hm.gens
        obtain rfl : dr = s.drawn := hm.drawn
        obtain rfl : os = s.os := hm.os
        show wpAny _ _ _ _ _ _
        refine wpAny_pure ?_
        show wpAny _ _ (ret .none) _ _ _
        rw [len] at hc
        refine wpAny_pure ⟨rfl, h1, k, c, rfl, hS, hc, fun b u e => hm.heap b u (fun z => ?_) (Heap.get?_push_of_some _ (Heap.get?_push_of_some _ e))⟩
        have lb := Heap.lt_size e
        rcases (List.mem_cons.mp z) with z | z
        · exact Nat.lt_irrefl _ (Nat.lt_of_le_of_lt (Nat.le_of_eq z.symm) lb)
        · have z2 := List.mem_singleton.mp z
          rw [sz] at z2
          exact Nat.lt_irrefl _ (Nat.lt_trans (Nat.lt_of_le_of_lt (Nat.le_of_eq z2.symm) lb) (Nat.lt_succ_self _))
    · match r, hr with
      | .error _, hr => exact hr
      | .ok (.ret _), hr =>
        obtain ⟨rfl, h1, k, c, rfl, g1, g2, g3⟩ := hr
        repeat (any_goals (first | wp_step | assumption))
        exact goal _ _ _ g1 g2 g3
      | .ok .next, hr => exact hr.elim
      | .ok .brk, hr => exact hr.elim
      | .ok .cont, hr => exact hr.elim
  | .ok .next, hr => exact hr.elim
  | .ok .brk, hr => exact hr.elim
  | .ok .cont, hr => exact hr.elim
end
end DL

/-! DLl -/
/-! sorted(set(x)) of ints, any number -/
namespace DL
open PySem L2 PySem.Spec PyProof.Rows
section
variable {X : Cx}
/-- set(x), x a list or tuple of ints -/
def rSetI (K : PySem.W.Frag) (w : World) : List V → Hp → VK → Prop := fun xs H Q => ∃ (l : Addr) (ns : List Int), xs = [V.ref l] ∧ (SqL K H l (ns.map V.int) ∨ SqT K H l (ns.map V.int)) ∧ ns.length ≤ 4000 ∧
  ∀ (p : Addr) (c : Nat), H p = none → c ≤ ns.length → Q (.ref p) (upd H p (SetO w p (fun j => decide (j ∈ ns)) c))
theorem cr_setI (hc : X.calm = true) : CallR X (.type "set") (rSetI X.K X.w) := by
  intro pins s σ H xs us Q I r; intro h
  obtain ⟨l, ns, rfl, hs, hl, q⟩ := h
  rw [Vals.ref1 r]
  have bd : ns.length + 1 < scanBound := by unfold scanBound; omega
  have fin : ∀ (h1 : Heap) (k c : Nat), SetR X.w h1 s.heap.objs.size (fun j => decide (j ∈ ns)) c → c ≤ ns.length → (∀ b u, s.heap.get? b = some u → h1.get? b = some u) → EP X pins σ Q (.ref s.heap.objs.size) { s with heap := h1, toks := k } := fun h1 k c R hc1 keep =>
    ⟨.ref _, upd H s.heap.objs.size (SetO X.w s.heap.objs.size (fun j => decide (j ∈ ns)) c), I.laid (t' := k) keep (Nat.le_refl _) (setO_new R), rfl, q _ c (I.hok.fresh (Nat.le_refl _)) hc1⟩
  rcases hs with hs | hs
  · obtain ⟨its, rv, hq, hz⟩ := I.list hs
    exact set_list ns (I.ok.hd hc) hq.isList (by simpa using rv.ints) bd fin
  · obtain ⟨its, rv, hq, hz⟩ := I.tuple hs
    exact call_set_tupI ns (I.ok.hd hc) (show s.heap.IsTuple l its.toArray from hq) (by simpa using rv.ints) bd fin
/-- sorted(s), s a set of ints -/
def rSortedSA (w : World) : List V → Hp → VK → Prop := fun vs H Q => ∃ (a : Addr) (S : Int → Bool) (n : Nat), vs = [V.ref a] ∧ H a = some (SetO w a S n) ∧ n ≤ 4000 ∧
  ∀ (ns : List Int) (p : Addr), ns.Pairwise (· < ·) → (∀ k : Int, k ∈ ns ↔ S k = true) → H p = none → Q (.ref p) (upd H p (.lst (ns.map V.int)))
theorem cr_sortedSA (hc : X.calm = true) : CallR X (.builtin "sorted") (rSortedSA X.w) := by
  intro pins s σ H vs us Q I r; intro h
  obtain ⟨a, S, n, rfl, ha, hn4, q⟩ := h
  obtain ⟨o, es, ep, t, ho, hex, hd, good, nd, mem, hb, hf, hn, ris, led⟩ := setO_get I ha
  rw [Vals.ref1 r]
  refine Calls.call_function_entry kind_sorted plain_sorted entry_sorted (args_sorted1 _) (?_)
  unfold Builtin.«sorted»
  refine wpAny_bind (m := checkCount "sorted" 1 1 _) (wpAny_pure (wpAny_bind (collect_set (A := X.A.in1) (I.ok.hd hc) ⟨o, ho, hex.1, hd⟩ hf hb ris led fun s1 vs1 k1 z1 g1 o1 pm => ?_)))
  have vl : vs1.length = n := by rw [pm.length_eq, List.length_map, Array.length_toList]; exact hn
  have vz : vs1.length ≤ sizeLine := by rw [vl, sizeLine_eq]; omega
  have ia : IntsAre vs1 (vs1.map Builtin.Re.reRawOf) := ints_of vs1 fun v hv => by
    obtain ⟨e, he, z⟩ := List.mem_map.mp (pm.mem_iff.mp hv)
    obtain ⟨k, tk, h1, _⟩ := good e he
    exact ⟨k, tk, z.symm.trans h1⟩
  have pk : (vs1.map Builtin.Re.reRawOf).Perm (es.toList.map keyOf) := by
    have z := pm.map Builtin.Re.reRawOf
    rwa [List.map_map] at z
  refine wpAny_bind (wpAny_newList ?_ vz)
  have hL : (s1.heap.push (seqObj "list" vs1.toArray 0)).get? s1.heap.objs.size = some (seqObj "list" vs1.toArray 0) := Heap.get?_push_size _ (by rfl)
  refine wpAny_bind (wpAny_holding (wpAny_call_entry slot_list_sort ⟨_, hL, by rfl⟩ entry_list_sort (SrtO.list_sort_ord SrtO.swo_int hL vz (fun h2 => SrtO.ints_sortable ia h2) fun out h1 h2 => ⟨.none, rfl, ?_⟩) (args_list_sort _)))
  obtain ⟨k1', k2, k3⟩ := SrtO.ints_out ia h1 h2
  obtain ⟨c, hcs⟩ := sortedHeap_at (vs := vs1) (out := out.toArray) hL
  have pn := k2.trans pk
  have old : ∀ b u, s.heap.get? b = some u → (sortedHeap (s1.heap.push (seqObj "list" vs1.toArray 0)) s1.heap.objs.size vs1 out.toArray).get? b = some u := fun b u e => by
    have e1 := k1 b u e
    have lt := Heap.lt_size e1
    rw [sortedHeap_old (Nat.ne_of_lt lt) (by rw [size_push']; exact Nat.lt_succ_of_lt lt)]
    exact Heap.get?_push_of_some _ e1
  have hlen : (((out.map SrtO.iv).map V.int).length ≤ sizeLine) := by
    rw [List.length_map, k2.length_eq, List.length_map]
    exact vz
  have fresh : H s1.heap.objs.size = none := I.hok.fresh z1
  refine wpAny_pure ⟨_, rfl, .ref s1.heap.objs.size, upd H s1.heap.objs.size (.lst ((out.map SrtO.iv).map V.int)), ?_, rfl, q (out.map SrtO.iv) s1.heap.objs.size (lt_of_le_nodup _ k3 (pn.nodup_iff.mpr nd)) (fun k => by rw [pn.mem_iff, ← mem k]) fresh⟩
  have J : Inv X pins σ (upd H s1.heap.objs.size (.lst ((out.map SrtO.iv).map V.int))) { s with heap := sortedHeap (s1.heap.push (seqObj "list" vs1.toArray 0)) s1.heap.objs.size vs1 out.toArray, gens := s1.gens, drawn := s1.drawn, toks := s1.toks } :=
    I.call (ch := []) (Un.laid old z1 fresh) (I.hok.laid old z1 ⟨hlen, out, c, vals_of_ints k1', hcs⟩) (by rw [g1]; exact I.bare) (fun _ z => nomatch z)
  cases s1
  cases s
  cases o1
  exact J
end
/-! ### the list -/
def nub : List Int → List Int
  | [] => []
  | x :: l => if x ∈ l then nub l else x :: nub l
theorem mem_nub {k : Int} : ∀ {l : List Int}, k ∈ nub l ↔ k ∈ l
  | [] => Iff.rfl
  | x :: l => by
    unfold nub
    split
    · rename_i h
      rw [mem_nub (l := l)]
      exact ⟨fun z => .tail _ z, fun z => by
        rcases List.mem_cons.mp z with rfl | z
        · exact h
        · exact z⟩
    · rw [List.mem_cons, List.mem_cons, mem_nub (l := l)]
theorem nub_nodup : ∀ l : List Int, (nub l).Nodup
  | [] => List.nodup_nil
  | x :: l => by
    unfold nub
    split
    · exact nub_nodup l
    · rename_i h
      exact List.nodup_cons.mpr ⟨fun z => h (mem_nub.mp z), nub_nodup l⟩
theorem nub_len : ∀ l : List Int, (nub l).length ≤ l.length
  | [] => Nat.le_refl _
  | x :: l => by
    have := nub_len l
    unfold nub
    split <;> simp <;> omega
/-- sorted(set(ns)) -/
def sset (ns : List Int) : List Int := srt (nub ns)
theorem mem_sset {k : Int} {ns : List Int} : k ∈ sset ns ↔ k ∈ ns := by
  unfold sset
  rw [mem_srt, mem_nub]
theorem le_nodup_lt : ∀ l : List Int, l.Pairwise (· ≤ ·) → l.Nodup → l.Pairwise (· < ·)
  | [], _, _ => .nil
  | x :: l, h, d => by
    obtain ⟨a, b⟩ := List.pairwise_cons.mp h
    obtain ⟨e, f⟩ := List.nodup_cons.mp d
    refine List.pairwise_cons.mpr ⟨fun y hy => ?_, le_nodup_lt l b f⟩
    have q := a y hy
    have n : x ≠ y := fun z => e (z.symm ▸ hy)
    omega
theorem sset_up (ns : List Int) : (sset ns).Pairwise (· < ·) := le_nodup_lt _ (srt_up _) ((srt_perm _).nodup_iff.mpr (nub_nodup ns))
theorem sset_len (ns : List Int) : (sset ns).length ≤ ns.length := by
  unfold sset
  rw [srt_len]
  exact nub_len ns
theorem lt_one : ∀ {l m : List Int}, l.Pairwise (· < ·) → m.Pairwise (· < ·) → (∀ k, k ∈ l ↔ k ∈ m) → l = m
  | [], [], _, _, _ => rfl
  | [], y :: m, _, _, e => absurd ((e y).mpr List.mem_cons_self) (by simp)
  | x :: l, [], _, _, e => absurd ((e x).mp List.mem_cons_self) (by simp)
  | x :: l, y :: m, h, k, e => by
    obtain ⟨h1, h2⟩ := (List.pairwise_cons).mp h
    obtain ⟨k1, k2⟩ := List.pairwise_cons.mp k
    have xy : x = y := by
      rcases List.mem_cons.mp ((e x).mp List.mem_cons_self) with z | z
      · exact z
      · rcases List.mem_cons.mp ((e y).mpr List.mem_cons_self) with z2 | z2
        · exact z2.symm
        · have := k1 x z
          have := h1 y z2
          omega
    subst xy
    congr 1
    refine lt_one h2 k2 fun j => ⟨fun z => ?_, fun z => ?_⟩
    · rcases List.mem_cons.mp ((e j).mp (.tail _ z)) with q | q
      · subst q
        exact absurd (h1 j z) (by omega)
      · exact q
    · rcases List.mem_cons.mp ((e j).mpr (.tail _ z)) with q | q
      · subst q
        exact absurd (k1 j z) (by omega)
      · exact q
theorem sset_one {ns m : List Int} (h : m.Pairwise (· < ·)) (e : ∀ k, k ∈ m ↔ k ∈ ns) : m = sset ns := lt_one h (sset_up ns) fun k => (e k).trans mem_sset.symm
def bSet1 : List D → Option D
  | [.list xs] => (intsD xs).bind fun ns => if ns.length ≤ 4000 then some (.list ((sset ns).map .int)) else none
  | [.tuple xs] => (intsD xs).bind fun ns => if ns.length ≤ 4000 then some (.list ((sset ns).map .int)) else none
  | _ => none
section
variable {X : Cx} {W : WX} {e : Expr} {q : Env → R (List D)} {pos : Pos}
/-- sorted(set(e)) of ints -/
theorem de_sset {p p2 pos2 : Pos} (hc : X.calm = true) (hg : Gl X "sorted") (hm : X.mg "sorted" = none) (hg2 : Gl X "set") (hm2 : X.mg "set" = none) (ha : DAB X W [e] q)
    (he : starEach [.Call (.Name "set" p2) [e] [] pos2] X.env = (false, eval (.Call (.Name "set" p2) [e] [] pos2) X.env) :: starEach [] X.env := by rfl) (he2 : starEach [e] X.env = (false, eval e X.env) :: starEach [] X.env := by rfl)
    (hpl : (backTo pos (starEach [] X.env)).any (·.1) = false := by rfl) (hpl2 : (backTo pos2 (starEach [] X.env)).any (·.1) = false := by rfl) :
    DE X W (.Call (.Name "sorted" p) [.Call (.Name "set" p2) [e] [] pos2] [] pos) (cBt bSet1 q) :=
  ⟨pe_imp (pe_callB (cr_sortedSA hc) hg hm boot_sorted (pa_cons (pe_callTy (cr_setI hc) hg2 hm2 boot_set ha.pa (by decide) (by decide) he2 hpl2) pa_nil he) (by decide) (by decide) he hpl) fun σ H Q ⟨F0, H0, F, ρ, rp, k⟩ => ⟨F0, H0, F, ρ, rp, (ROk.step (r := q ρ) k).imp fun as F1 H1 _ g1 q1 vs hvs => by
    obtain ⟨c, e1, z⟩ := q1.ofO
    have key : ∃ (l : Addr) (ns : List Int), vs = [V.ref l] ∧ (SqL X.K H1 l (ns.map V.int) ∨ SqT X.K H1 l (ns.map V.int)) ∧ ns.length ≤ 4000 ∧ c = .list ((sset ns).map .int) := by
      unfold bSet1 at e1
      split at e1
      · obtain ⟨ns, h1, e2⟩ := Option.bind_eq_some_iff.mp e1
        split at e2
        · rename_i hl
          cases e2
          obtain ⟨x, rfl, b⟩ := bw1 hvs
          obtain ⟨p, rfl, hs⟩ := b.ints g1.in_ h1
          exact ⟨p, ns, rfl, .inl hs, hl, rfl⟩
        · cases e2
      · obtain ⟨ns, h1, e2⟩ := Option.bind_eq_some_iff.mp e1
        split at e2
        · rename_i hl
          cases e2
          obtain ⟨x, rfl, b⟩ := bw1 hvs
          obtain ⟨p, us, rfl, hs, hd⟩ := b.tuple g1.in_
          rw [intsD_some h1] at hd
          rw [dpa_toInts hd] at hs
          exact ⟨p, ns, rfl, .inr hs, hl, rfl⟩
        · cases e2
      · cases e1
    obtain ⟨l, ns, rfl, hs, hl, rfl⟩ := key
    refine ⟨l, ns, rfl, hs, hl, fun p cc hp hcc => ⟨p, _, cc, rfl, upd_same, by omega, fun ms p2 up mm hp2 => ?_⟩⟩
    have em : ms = sset ns := sset_one up fun k => by rw [mm k, decide_eq_true_eq]
    subst em
    have g2 := Grow.held (o := SetO X.w p (fun j => decide (j ∈ ns)) cc) g1.in_ hp
    have g3 := Grow.made (o := .lst ((sset ns).map V.int)) g2.in_ hp2
    exact z _ _ (g2.trans g3) (.ref p2) (.lst upd_same dpa_ints)⟩⟩
end
end DL

/-! DLm -/
/-! is of bools -/
namespace DL
open PySem L2 PySem.Spec PyProof.Rows
section
variable {K : PySem.W.Frag}
def oIsB : D → D → Option D
  | .bool a, .bool b => some (.bool (decide (a = b)))
  | _, _ => none
def oIsNotB : D → D → Option D
  | .bool a, .bool b => some (.bool (!decide (a = b)))
  | _, _ => none
theorem rd_isB : RdO K rIsB oIsB := fun F H x y a b c e hx hy hc Q k => by
  unfold oIsB at hc
  split at hc
  · cases hc
    exact ⟨_, _, hx.bool, hy.bool, flat_q e (.bl _) k⟩
  · cases hc
theorem rd_isnotB : RdO K rNotB oIsNotB := fun F H x y a b c e hx hy hc Q k => by
  unfold oIsNotB at hc
  split at hc
  · cases hc
    exact ⟨_, _, hx.bool, hy.bool, flat_q e (.bl _) k⟩
  · cases hc
@[simp] theorem oIsB_b {a b : Bool} : oIsB (.bool a) (.bool b) = some (.bool (decide (a = b))) := id rfl
@[simp] theorem oIsNotB_b {a b : Bool} : oIsNotB (.bool a) (.bool b) = some (.bool (!decide (a = b))) := id rfl
end
end DL

/-! DLn -/
/-! enumerate(t), t a tuple -/
namespace DL
open PySem L2 PySem.Spec PyProof.Rows
open Evl (Ex ex_l ex_t ex_rd)
section
variable {P : Program} {w : World} {A : Around} {s : Shared} {E : Value → Shared → Prop}
/-- the tuple's iterator, the enumerate object over it -/
def tIt (t : Addr) : Obj := { cls := .type "tuple_iterator", data := .fields #[.ref t, .int 0 0] }
def enO (I : Addr) : Obj := { cls := .type "enumerate", data := .fields #[.none, .bool false, .ref I, rawInt 0, .none, .none] }
theorem enum_newT (t : Addr) (items : Array Value) (n : Nat) (d : Option Addr) (sl : Array (Option Value)) :
    Meets (Builtin.«enumerate.__new__» ⟨[.type "enumerate", .ref t], []⟩) (fun _ R s => s.heap.get? t = some ⟨.type "tuple", d, .seq items n, sl⟩ ∧
      R (.ok (.ret (.ref (s.heap.push (tIt t)).objs.size))) { s with heap := (s.heap.push (tIt t)).push (enO s.heap.objs.size) }) :=
  .of_wp fun P0 w0 A R s h => by
    obtain ⟨h0, g, dr, tk, os⟩ := s
    obtain ⟨ht, h⟩ := h
    have su := sub_enumerate
    have it : Heap.IsTuple (Shared.heap ⟨h0, g, dr, tk, os⟩) t items := ⟨_, ht, rfl, n, rfl⟩
    wp_walk using AutoSeq1.wpAny_loadPart' ht
    refine wpAny_stack_any fun st => wpAny_pure (?_)
    split
    · rename_i c _ _ _ _ _
      cases (c == Value.type "enumerate") <;> (wp_walk using AutoSeq1.wpAny_loadPart' ht, wpAny_pyIter_tuple it; exact ⟨_, rfl, h⟩)
    · wp_walk using AutoSeq1.wpAny_loadPart' ht, wpAny_pyIter_tuple it
      exact ⟨_, rfl, h⟩
theorem call_enumT {t : Addr} {items : Array Value} {Q : Value → Shared → Prop} (ht : s.heap.IsTuple t items)
    (h : ∀ h1, IsEnum h1 (s.heap.objs.size + 1) s.heap.objs.size 0 .none → h1.IsTupleIter s.heap.objs.size t 0 → (∀ b o, s.heap.get? b = some o → h1.get? b = some o) → Q (.ref (s.heap.objs.size + 1)) { s with heap := h1 }) :
    wpAny (model P w) A (call (.type "enumerate") [.ref t]) Q E s := by
  obtain ⟨⟨c, d, dt, sl⟩, g1, g2, n, g3⟩ := ht
  obtain rfl : c = .type "tuple" := g2
  obtain rfl : dt = .seq items n := g3
  refine callType_new F.called_enumerate (by decide) (F.typeCall_enumerate_1 _) (F.newCall_enumerate_1 _) (fun obj => F.args_object_init_2 obj _) F.entry_enumerate_new (enum_newT t items n d sl) ⟨g1, ?_⟩
  have sz : (s.heap.push (tIt t)).objs.size = s.heap.objs.size + 1 := Heap.size_push ..
  have at0 : (s.heap.push (tIt t)).get? s.heap.objs.size = some (tIt t) := Heap.get?_push_size _ rfl
  have en : IsEnum ((s.heap.push (tIt t)).push (enO s.heap.objs.size)) (s.heap.objs.size + 1) s.heap.objs.size 0 .none := by
    have z := Heap.get?_push_size (s.heap.push (tIt t)) (o := enO s.heap.objs.size) rfl
    rw [sz] at z
    exact z
  show _ ∧ _
  rw [sz]
  exact ⟨⟨_, en, rfl⟩, h _ en ⟨_, Heap.get?_push_of_some _ at0, rfl, rfl⟩ fun b o x => Heap.get?_push_of_some _ (Heap.get?_push_of_some _ x)⟩
end
theorem enT_end {P : Program} {w : World} {A : Around} {E : Value → Shared → Prop} {s : Shared} {e it a : Addr} {i : Int} {j : Nat} {items : Array Value} {old : Value} {Q : Option Value → Shared → Prop} (hh : A.handled = none)
    (he : IsEnum s.heap e it i old) (hit : s.heap.IsTupleIter it a j) (ht : s.heap.IsTuple a items) (hx : items[j]? = none) (hQ : ∀ h1, Heap.ExtBut it s.heap h1 → Q none { s with heap := h1 }) : wpAny (model P w) A (pyNext (.ref e)) Q E s := by
  have ty : s.TypeIs (.ref e) "enumerate" := ⟨_, he, rfl⟩
  unfold pyNext
  refine wpAny_bind (wpAny_attempt (wpAny_callSpecial?_slot (name := Str.ofString "__next__") ty F.slot_enumerate_next (wpAny_call_entry F.slot_enumerate_next ty F.entry_enumerate_next ?_ (F.args_enumerate_next_1 _))))
  show wpAny _ _ (field (.ref e) 2 >>= _) _ _ s
  refine wpAny_bind (wpAny_field he rfl (x := .ref it) rfl (wpAny_bind (wpAny_nextOf_tuple_end (by simp [hh]) hit ht hx fun h1 x eb ⟨o, ho, hc⟩ => ?_)))
  exact wpAny_bind (wpAny_isInstance (T := "StopIteration") (b := true) ⟨o, ho, hc⟩ isSubtype_stop (wpAny_pure (hQ _ eb)))
/-- the tuple at a as it stands at each turn, each item in a new pair -/
def IteT (K : PySem.W.Frag) (a : Addr) : It :=
  ⟨fun i H => ∃ (xs : List V) (x : V), SqT K H a xs ∧ xs[i]? = some x, fun i H v H' => ∃ T x, v = .ref T ∧ H T = none ∧ H' = upd H T (.tup [.int (i : Nat), x]) ∧ ∀ xs, SqT K H a xs → xs[i]? = some x, fun i H => ∃ xs : List V, SqT K H a xs ∧ xs.length ≤ i⟩
theorem turn_enT {P : Program} {w : World} {K : PySem.W.Frag} {elts : List Expr} {kk : Nat} {tpos : Pos} (a e it : Addr) (hai : a ≠ it) (hae : e ≠ a) :
    Turn P w K (.Tuple elts kk tpos) (IteT K a) [e, it] e (fun i h => (∃ old, IsEnum h e it ((i : Nat) : Int) old) ∧ h.IsTupleIter it a i ∧ e ≠ it) where
  mem := List.mem_cons_self
  obj := fun i h st b hb => by
    obtain ⟨⟨was, he⟩, ⟨o, ho, hc, hd⟩, _⟩ := st
    rcases (List.mem_cons.mp hb) with z | z
    · rw [z]
      exact ⟨_, he, fun v q => nomatch q⟩
    · rw [List.mem_singleton.mp z]; exact ⟨o, ho, fun v q => by rw [hd] at q; cases q⟩
  keep := fun i h h1 st k => ⟨⟨st.1.choose, k e (by simp) _ st.1.choose_spec⟩, st.2.1.at fun o q => k it (by simp) o q, st.2.2⟩
  item := by
    intro X eP ew eK hc i pins s σ H E I hf st hg
    subst eP ew eK
    obtain ⟨⟨was, he⟩, hit, hne⟩ := st
    obtain ⟨xs, x, hq, hx⟩ := hg
    obtain ⟨its, rv, p, -⟩ := I.tuple hq
    obtain ⟨u, hu, ru⟩ := (rv.get hx)
    have hil : i < its.toArray.size := by simpa using (List.getElem?_eq_some_iff.mp hu).1
    have hel : e < s.heap.objs.size := (Heap.lt_size he)
    have hitl : it < s.heap.objs.size := by obtain ⟨_, q, _⟩ := hit; exact Heap.lt_size q
    have D := Draws.tuple (prog := X.prog) (w := X.w) (A := X.A.in1) (by simp [I.ok.hd hc]) it a hai its.toArray
    refine wpAny_pyNext_enum_itemD D he ⟨hit, p⟩ hil hne (by simp [hne, hae]) fun y h1 tk hy ho hst hT hsz hk => ?_
    have hyu : y = u := by
      have z : its.toArray[i]? = some y := hy
      rw [List.getElem?_toArray, hu] at z
      exact (Option.some.inj z).symm
    subst hyu
    refine ⟨_, rfl, wpAny_letOwnedTupleGo_enum (s := { s with heap := h1, toks := tk + 1 }) ho fun h2 he2 sb => ?_⟩
    have hT2 : h2.get? s.heap.objs.size = some { cls := .type "tuple", data := .seq #[.int i tk, y] } := (sb.2 _ (Nat.ne_of_gt hel)).trans hT
    have new : ObjOk X.prog X.w (upd H s.heap.objs.size (.tup [.int (i : Nat), x])) h2 s.heap.objs.size (.tup [.int (i : Nat), x]) :=
      ⟨(by show 2 ≤ sizeLine; decide), [.int i tk, y], .cons ⟨_, rfl⟩ (.cons ru .nil), ⟨_, hT2, rfl, _, rfl⟩⟩
    have I1 : Inv X pins σ (upd H s.heap.objs.size (.tup [.int (i : Nat), x])) { s with heap := h2, toks := tk + 1 } :=
      I.turnedNew (ch := [e, it]) (fun b o hb q => (sb.2 b (fun z => hb (by simp [z]))).trans (hk b o (fun z => hb (by simp [z])) (fun z => hb (by simp [z])) q)) hf (Nat.le_refl _) new
    refine ⟨.ref s.heap.objs.size, _, I1, rfl, ⟨_, x, rfl, I.hok.fresh (Nat.le_refl _), rfl, fun ys hy => by rw [I.tuple_inj hy hq]; exact hx⟩, ⟨⟨y, ?_⟩, hst.1.at fun o q => (sb.2 it (Ne.symm hne)).trans q, hne⟩, fun b hb => ?_⟩
    · rw [show ((i + 1 : Nat) : Int) = (i : Int) + 1 by omega]
      exact he2
    · have hbl : b < s.heap.objs.size := by
        rcases (List.mem_cons.mp hb) with z | z
        · rw [z]; exact hel
        · rw [List.mem_singleton.mp z]; exact hitl
      rw [upd_ne (Nat.ne_of_lt hbl)]
      exact (hf b hb).1
  done := by
    intro X eP ew eK hc i pins s σ H E I hf st hg
    subst eP ew eK
    obtain ⟨⟨was, he⟩, hit, hne⟩ := st
    obtain ⟨xs, hq, hx⟩ := hg
    obtain ⟨its, rv, p, -⟩ := I.tuple hq
    obtain ⟨f0, f1, f2, f3, f4, f5⟩ := hf it (by (simp))
    have hl := rv.length
    exact enT_end (I.ok.hd hc) he hit p (by simp; omega) fun h1 eb => ⟨rfl, I.turned (t' := s.toks) (fun b o hb q => eb b o hb q) f0 f1 f3 f4 f5⟩
  self := fun A i s Q E st h => wpAny_pyIter_enum st.1.choose_spec h
def iEnT (K : PySem.W.Frag) (ta : TA) : TI := fun σ H R => ta σ H fun vs H1 => ∃ a xs, vs = [.ref a] ∧ SqT K H1 a xs ∧ R (IteT K a) H1
theorem pi_enT {X : Cx} {e : Expr} {ta : TA} {p pos tpos : Pos} {elts : List Expr} {kk : Nat} (hg : Gl X "enumerate") (hm : X.mg "enumerate" = none) (ha : PA X [e] ta) (hs : starEach [e] X.env = [(false, eval e X.env)] := by rfl) :
    PI X (.Tuple elts kk tpos) (.Call (.Name "enumerate" p) [e] [] pos) (iEnT X.K ta) := by
  refine ⟨fun pins s σ H R I h => Call_ (ld_blt I hg hm boot_enumerate (PyProof.Rows.callWith_type1 (thn (ha.run pos pins s σ H _ I h) fun us s1 ⟨vs, H1, I1, r1, a, xs, ex, hq, q⟩ => ?_) hs rfl))⟩
  subst ex
  rw [Vals.ref1 r1]
  obtain ⟨its, rv, p', hz⟩ := I1.tuple hq
  have lt : a < s1.heap.objs.size := p'.lt
  refine call_enumT (show s1.heap.IsTuple a its.toArray from p') fun h1 he hit hk => wpAny_pyIter_enum he ?_
  have I2 : Inv X pins σ H1 { s1 with heap := h1 } := I1.kept (t' := s1.toks) hk
  refine ⟨s1.heap.objs.size + 1, [s1.heap.objs.size + 1, s1.heap.objs.size], _, _, H1, rfl, I2, turn_enT a (s1.heap.objs.size + 1) s1.heap.objs.size (Nat.ne_of_lt lt) (Nat.ne_of_gt (Nat.lt_succ_of_lt lt)), ⟨⟨.none, he⟩, hit, Nat.succ_ne_self _⟩, fun b hb => ?_, q⟩
  have hle : (s1.heap.objs.size ≤ b) := by
    rcases (List.mem_cons.mp hb) with z | z
    · rw [z]; exact Nat.le_succ _
    · rw [List.mem_singleton.mp z]; exact Nat.le_refl _
  exact (I1.fpOk hle (I1.hok.fresh hle))
section
variable {K : PySem.W.Frag} {S : Hp → Hp → Prop} {p : Addr} {ds : List D}
theorem itd_enT (hs : ∀ F1 H1, S F1 H1 → Ex F1 H1 ∧ Bw K F1 H1 (.ref p) (.tuple ds)) : ItD K (IteT K p) S (enumD 0 ds) where
  goes := fun i F1 H1 s hi => by
    rw [enumD_len] at hi
    obtain ⟨e, b⟩ := hs F1 H1 s
    obtain ⟨p', vs, h0, h1, h2⟩ := b.tuple e
    cases h0
    obtain ⟨v, h3, h4⟩ := dpa_get h2 (List.getElem?_eq_getElem hi)
    exact ⟨vs, v, h1, h3⟩
  stops := fun F1 H1 s => by
    obtain ⟨e, b⟩ := hs F1 H1 s
    obtain ⟨p', vs, h0, h1, h2⟩ := b.tuple e
    cases h0
    exact ⟨vs, h1, by rw [dpa_len h2, enumD_len]; exact Nat.le_refl _⟩
  yields := fun i F1 H1 x H2 d s _ hd y => by
    obtain ⟨e, b⟩ := hs F1 H1 s
    obtain ⟨p', vs, h0, h1, h2⟩ := b.tuple e
    cases h0
    obtain ⟨T, x', rfl, hT, rfl, y⟩ := y
    obtain ⟨d', h3, h4⟩ := dpa_getV h2 (y vs h1)
    obtain ⟨z, h5, rfl⟩ := enumD_get ds 0 i d hd
    rw [h3] at h5
    cases h5
    rw [Nat.zero_add]
    exact pair_new e hT (.int _) h4
end
def enumAD : List D → Option (List D)
  | [.list ds] => some (enumD 0 ds)
  | [.tuple ds] => some (enumD 0 ds)
  | _ => none
@[simp] theorem enumA_l {xs : List D} : enumAD [.list xs] = some (enumD 0 xs) := id rfl
@[simp] theorem enumA_t {xs : List D} : enumAD [.tuple xs] = some (enumD 0 xs) := id rfl
section
variable {X : Cx} {W : WX} {e : Expr} {es : List Expr} {pos p : Pos} {q : Env → R (List D)}
theorem dib_enumA {k : Nat} {tpos : Pos} (hg : Gl X "enumerate") (hm : X.mg "enumerate" = none) (ha : DAB X W [e] q) (hs : starEach [e] X.env = [(false, eval e X.env)] := by rfl) : DIB X W (.Tuple es k tpos) (.Call (.Name "enumerate" p) [e] [] pos) (cIt enumAD q) :=
  ⟨pi_imp (pi_or (pi_enum hg hm ha.pa hs) (pi_enT hg hm ha.pa hs)) fun σ H R' ⟨F0, H0, F, ρ, r, k⟩ => by
    have k : ROk X.K X.mg (fun c d H' => W c d σ H') F H (fun ds F' H' => ∀ J, ItD X.K J (Grow F' H') ds → R' J H') ((q ρ).bind fun a => ofO (enumAD a)) := k
    cases hf : q ρ with
    | ok as =>
      rw [hf] at k
      obtain ⟨ds, e, k⟩ := ROk.ofO (o := enumAD as) k
      unfold enumAD at e
      split at e
      · cases e
        refine .inl ⟨F0, H0, F, ρ, r, ?_⟩
        rw [hf]
        intro F' H' g vs hvs
        obtain ⟨x, rfl, b⟩ := bw1 hvs
        obtain ⟨p', vs, rfl, h1, h2⟩ := b.list g.in_
        exact ⟨p', vs, rfl, Or.inl (Or.inl h1), k F' H' g _ (itd_enum (stay_bw b))⟩
      · cases e
        refine .inr ⟨F0, H0, F, ρ, r, ?_⟩
        rw [hf]
        intro F' H' g vs hvs
        obtain ⟨x, rfl, b⟩ := bw1 hvs
        obtain ⟨p', vs, rfl, h1, h2⟩ := b.tuple g.in_
        exact ⟨p', vs, rfl, h1, k F' H' g _ (itd_enT (stay_bw b))⟩
      · cases e
    | exc x =>
      rw [hf] at k
      refine .inl ⟨F0, H0, F, ρ, r, ?_⟩
      rw [hf]
      exact k
    | bad =>
      rw [hf] at k
      exact k.elim⟩
theorem di_enumA {k : Nat} {tpos : Pos} (hg : Gl X "enumerate") (hm : X.mg "enumerate" = none) (ha : DA X W [e] q) (hs : starEach [e] X.env = [(false, eval e X.env)] := by rfl) : DI X W (.Tuple es k tpos) (.Call (.Name "enumerate" p) [e] [] pos) (cIt enumAD q) :=
  ⟨pi_imp (pi_or (pi_enum hg hm ha.pa hs) (pi_enT hg hm ha.pa hs)) fun σ H R' ⟨F0, H0, F, ρ, r, k⟩ => by
    have k : ROk X.K X.mg (fun c d H' => W c d σ H') F H (fun ds F' H' => ∀ J, ItD X.K J (fun F1 H1 => Ex F' F1 ∧ Ex F1 H1) ds → R' J H') ((q ρ).bind fun a => ofO (enumAD a)) := k
    cases hf : q ρ with
    | ok as =>
      rw [hf] at k
      obtain ⟨ds, e, k⟩ := ROk.ofO (o := enumAD as) k
      unfold enumAD at e
      split at e
      · cases e
        refine .inl ⟨F0, H0, F, ρ, r, ?_⟩
        rw [hf]
        intro F' H' g vs hvs
        cases hvs with
        | cons h1 h2 =>
          cases h2
          cases h1 with
          | lst h3 h4 => exact ⟨_, _, rfl, Or.inl (Or.inl (g.in_ _ _ h3)), k F' H' g _ (itd_enum (stay_da (.lst h3 h4)))⟩
      · cases e
        refine .inr ⟨F0, H0, F, ρ, r, ?_⟩
        rw [hf]
        intro F' H' g vs hvs
        cases hvs with
        | cons h1 h2 =>
          cases h2
          cases h1 with
          | tup h3 h4 => exact ⟨_, _, rfl, ex_t g.in_ h3, k F' H' g _ (itd_enT (stay_da (.tup h3 h4)))⟩
      · cases e
    | exc x =>
      rw [hf] at k
      refine .inl ⟨F0, H0, F, ρ, r, ?_⟩
      rw [hf]
      exact k
    | bad =>
      rw [hf] at k
      exact k.elim⟩
end
end DL

/-! DLo -/
/-! t[::-1], t a list or a tuple -/
namespace DL
open PySem L2 PySem.Spec PyProof.Rows HT
open Evl (Ex ex_l ex_t ex_rd)
section
variable {prog : Program} {w : World} {A : Around} {s : Shared} {E : Value → Shared → Prop}
theorem rev_adj (n : Nat) : Builtin.Slice.sliceAdjust none none (-1) (n : Int) = ((n : Int) - 1, -1) := rfl
theorem rev_places (n : Nat) : Builtin.Slice.slicePlaces ((n : Int) - 1) (-1) (-1) = n := by
  (unfold Builtin.Slice.slicePlaces)
  have h1 : ¬ ((-1 : Int) > 0) := by omega
  simp only [h1, if_false, Int.neg_neg, Int.ediv_one]
  split <;> omega
theorem sliceApplied_rev {sl : Addr} {vl vu vs : Value} {n : Nat} {Q : Int × Int × Nat → Shared → Prop} (hs : s.heap.IsSliceOf sl vl vu vs) (pl : IsPart vl none) (pu : IsPart vu none) (ps : IsPart vs (some (-1)))
    (h : Q ((n : Int) - 1, -1, n) s) : wpAny (model prog w) A (Builtin.Slice.sliceApplied (.ref sl) (pure (n : Int))) Q E s := by
  obtain ⟨o0, g0, c0, d0⟩ := id hs
  unfold Builtin.Slice.sliceApplied; unfold Builtin.Slice.sliceFields
  refine wpAny_bind (wpAny_bind (wpAny_field g0 d0 (x := vl) rfl (wpAny_bind (wpAny_field g0 d0 (x := vu) rfl (wpAny_bind (wpAny_field g0 d0 (x := vs) rfl (wpAny_pure (?_))))))))
  refine wpAny_bind (slicePart_ ps ?_)
  show wpAny _ _ (if ((-1 : Int) == 0) = true then _ else _) _ _ s
  rw [if_neg (by decide)]
  refine wpAny_bind (slicePart_ pl (wpAny_bind (slicePart_ pu (wpAny_bind (wpAny_pure (?_))))))
  show wpAny _ _ (match Builtin.Slice.sliceAdjust none none (-1) (n : Int) with | (lo, hi) => pure (lo, (-1 : Int), Builtin.Slice.slicePlaces lo hi (-1))) _ _ s
  rw [rev_adj n]
  show wpAny _ _ (pure (((n : Int) - 1), (-1 : Int), Builtin.Slice.slicePlaces ((n : Int) - 1) (-1) (-1))) _ _ s
  rw [rev_places]
  exact wpAny_pure h
theorem fm_congr {α β : Type} {f g : α → Option β} : ∀ {l : List α}, (∀ x ∈ l, f x = g x) → l.filterMap f = l.filterMap g
  | [], _ => rfl
  | x :: l, h => by
    rw [List.filterMap_cons, List.filterMap_cons, h x (by simp), fm_congr (l := l) fun y hy => h y (by simp [hy])]
theorem rev_pick (xs : Array Value) : ((List.range xs.size).filterMap fun (m : Nat) => xs[(((xs.size : Int) - 1) + (m : Int) * (-1)).toNat]?).toArray = xs.toList.reverse.toArray := by
  congr 1
  have e : ∀ m ∈ List.range xs.size, xs[(((xs.size : Int) - 1) + (m : Int) * (-1)).toNat]? = (fun m => xs[xs.size - 1 - m]?) m := by
    intro m hm
    have := List.mem_range.mp hm
    have : (((xs.size : Int) - 1) + (m : Int) * (-1)).toNat = xs.size - 1 - m := by omega
    rw [this]
  have e2 : (List.range xs.size).filterMap (fun (m : Nat) => xs[(((xs.size : Int) - 1) + (m : Int) * (-1)).toNat]?) = (List.range xs.size).filterMap (fun m => xs[xs.size - 1 - m]?) := by
    exact fm_congr e
  rw [e2]
  have e3 : (fun m => xs[xs.size - 1 - m]?) = (fun k => xs[k]?) ∘ (fun k => xs.size - 1 - k) := rfl
  rw [e3, ← List.filterMap_map, PySem.W.krv_range, List.filterMap_reverse, PySem.W.krv_all]
theorem getItem_tuple_rev {t sl : Addr} {items : Array Value} {vl vu vs : Value} {Q : Value → Shared → Prop} (ht : IsTup s.heap t items) (hs : s.heap.IsSliceOf sl vl vu vs) (pl : IsPart vl none) (pu : IsPart vu none) (ps : IsPart vs (some (-1)))
    (h : Q (.ref s.heap.objs.size) { s with heap := s.heap.push { cls := .type "tuple", data := .seq items.toList.reverse.toArray } })
    (zs : items.size ≤ sizeLine) : wpAny (model prog w) A (getItem (.ref t) (.ref sl)) Q E s := by
  have zk : sizeOk (.seq items.toList.reverse.toArray) := by
    show items.toList.reverse.toArray.size ≤ sizeLine
    rw [List.size_toArray, List.length_reverse, Array.length_toList]
    omega
  obtain ⟨o0, g0, c0, d0⟩ := id hs
  have tS : s.TypeIs (.ref sl) "slice" := ⟨o0, g0, c0⟩
  unfold getItem
  try with_reducible refine wpAny_holding (?_)
  first | refine wpAny_bind (wpAny_pure (?_)) | skip
  refine wpAny_bind (wpAny_sequenceKey ht.typeIs (by decide) (?_))
  refine wpAny_bind (wpAny_callSpecial?_slot (name := Str.ofString "__getitem__") ht.typeIs PyProof.Rows.slot_tuple_getitem (wpAny_call_entry PyProof.Rows.slot_tuple_getitem ht.typeIs entry_tuple_getitem (?_) (args_tuple_getitem _ _)))
  show wpAny _ _ ((Builtin.Tuple.tupleItemsOf (.ref t)) >>= _) _ _ s
  refine wpAny_bind (tupleItemsOf_ ht (?_))
  refine wpAny_bind (wpAny_typeOf tS (?_))
  rw [if_pos (by decide)]
  refine wpAny_bind (sliceApplied_rev hs pl pu ps (?_))
  have hno : ¬ ((((items.size : Int) - 1) == 0 && (-1 : Int) == 1 && items.size == items.size) = true) := by
    intro q
    rw [Bool.and_eq_true] at q; rw [Bool.and_eq_true] at q
    have q1 : (-1 : Int) = 1 := eq_of_beq q.1.2
    omega
  show wpAny _ _ (if (((items.size : Int) - 1) == 0 && (-1 : Int) == 1 && items.size == items.size) = true then _ else _) _ _ s
  rw [if_neg hno, rev_pick]
  first
    | exact wpAny_bind (m := Builtin.Tuple.tupleExact _) (wpAny_newObj_type (wpAny_pure ⟨_, rfl, wpAny_pure h⟩) zk)
    | exact wpAny_bind (m := Builtin.Tuple.tupleExact _) (wpAny_newObj_type (wpAny_bind (wpAny_pure (wpAny_pure ⟨_, rfl, wpAny_pure h⟩))) zk)
    | exact wpAny_bind (wpAny_bind (m := Builtin.Tuple.tupleExact _) (wpAny_newObj_type (wpAny_pure (wpAny_pure ⟨_, rfl, wpAny_pure h⟩)) zk))
    | exact wpAny_bind (wpAny_bind (m := Builtin.Tuple.tupleExact _) (wpAny_newObj_type (wpAny_pure ⟨_, rfl, wpAny_pure h⟩) zk))
end
section
variable {X : Cx}
def tRevA (K : PySem.W.Frag) (te : TE) : TE := fun σ H Q => te σ H fun x H1 => ∃ a xs, x = .ref a ∧ ((SqL K H1 a xs ∧ ∀ p, H1 p = none → Q (.ref p) (upd H1 p (.lst xs.reverse))) ∨ (SqT K H1 a xs ∧ ∀ p, H1 p = none → Q (.ref p) (upd H1 p (.tup xs.reverse))))
theorem pe_revA {e : Expr} {te : TE} {k : Nat} {p1 p2 p3 pos : Pos} (he : PE X e te) : PE X (.Subscript e (.Slice none none (some (.UnaryOp .USub (.Constant (.int 1) k p1) p2)) p3) pos) (tRevA X.K te) := by
  refine ⟨fun pins s σ H Q I h => (?_)⟩
  refine Subscript_ (thn (he.run pins s σ H _ I h) fun v s1 ⟨x, H1, I1, r1, q1⟩ => (?_))
  obtain ⟨a, xs, ex, q⟩ := q1
  subst ex
  cases r1
  have st1 : PO X (some (.UnaryOp .USub (.Constant (.int 1) k p1) p2)) (tPart (tUn (rU fun i => .int (-i)) (tC (.int 1)))) := po_some (pe_un un_neg pe_int)
  refine wpAny_Slice (thn (po_none.run pins s1 σ H1 (fun o H2 => o = none ∧ H2 = H1) I1 ⟨rfl, rfl⟩) fun vl s2 ⟨l, H2, I2, pl, el, e2⟩ => (?_))
  subst el e2
  refine thn (po_none.run pins s2 σ H2 (fun o H3 => o = none ∧ H3 = H2) I2 ⟨rfl, rfl⟩) fun vu s3 ⟨u, H3, I3, pu, eu, e3⟩ => (?_)
  subst eu e3
  refine thn (st1.run pins s3 σ H3 (fun o H4 => o = some (-1) ∧ H4 = H3) I3 ⟨1, rfl, -1, rfl, rfl, rfl⟩) fun vs s4 ⟨o, H4, I4, ps, eo, e4⟩ => (?_)
  subst eo e4
  have J5 : Inv X pins σ H4 { s4 with heap := s4.heap.push { cls := .type "slice", data := .fields #[vl, vu, vs] } } := I4.kept (t' := s4.toks) fun b ob q => Heap.get?_push_of_some _ q
  show wpAny (model X.prog X.w) X.A ((subscriptTail e) (.Slice none none (some (.UnaryOp .USub (.Constant (.int 1) k p1) p2)) p3) (.ref a) (.ref s4.heap.objs.size)) (EP X pins σ Q) X.xe { s4 with heap := s4.heap.push { cls := .type "slice", data := .fields #[vl, vu, vs] } }
  rcases q with ⟨hx, q⟩ | ⟨hx, q⟩
  · obtain ⟨its, r, ht, hz⟩ := J5.list hx
    have hlen := r.length
    refine tail_any (ops := [.ref a, .ref s4.heap.objs.size]) ht.isList.typeIs (PySem.slot_list_getitem.lookup) (?_) (by with_unfolding_all rfl)
    refine wpAny_getItem_list_slice ht.isList (Heap.IsSliceOf.new _ vl vu vs) pl pu ps (by decide) (?_) (by rw [List.size_toArray]; omega)
    rw [PySem.W.krv_pick]
    refine ⟨.ref _, _, J5.laid (t' := s4.toks) (o := .lst xs.reverse) (fun b ob q => Heap.get?_push_of_some _ q) (Nat.le_refl _) (?_), rfl, q _ (J5.hok.fresh (Nat.le_refl _))⟩
    exact ⟨by rw [List.length_reverse]; exact (hz), _, 0, r.reverse, Heap.get?_push_size _ rfl⟩
  · obtain ⟨its, r, ht, hz⟩ := J5.tuple hx
    have hlen := r.length
    refine tail_any (ops := [.ref a, .ref s4.heap.objs.size]) ht.typeIs (PyProof.Rows.slot_tuple_getitem.lookup) (?_) (by with_unfolding_all rfl)
    refine getItem_tuple_rev ht (Heap.IsSliceOf.new _ vl vu vs) pl pu ps (?_) (by rw [List.size_toArray]; omega)
    refine ⟨.ref _, _, J5.laid (t' := s4.toks) (o := .tup xs.reverse) (fun b ob q => Heap.get?_push_of_some _ q) (Nat.le_refl _) (?_), rfl, q _ (J5.hok.fresh (Nat.le_refl _))⟩
    exact ⟨by rw [List.length_reverse]; exact hz, _, r.reverse, _, Heap.get?_push_size _ rfl, rfl, _, rfl⟩
def oRev : D → Option D
  | .list xs => some (.list xs.reverse)
  | .tuple xs => some (.tuple xs.reverse)
  | _ => none
def cRev (f : Env → R D) : Env → R D := fun ρ => (f ρ).bind fun a => ofO (oRev a)
@[simp] theorem ev_cRev {f : Env → R D} {ρ : Env} : cRev f ρ = (f ρ).bind fun a => ofO (oRev a) := id rfl
@[simp] theorem oRev_list {xs : List D} : oRev (.list xs) = some (.list xs.reverse) := id rfl
@[simp] theorem oRev_tuple {xs : List D} : oRev (.tuple xs) = some (.tuple xs.reverse) := id rfl
theorem de_rev {W : WX} {e : Expr} {f : Env → R D} {k : Nat} {p1 p2 p3 pos : Pos} (ha : DB X W e f) : DE X W (.Subscript e (.Slice none none (some (.UnaryOp .USub (.Constant (.int 1) k p1) p2)) p3) pos) (cRev f) :=
  ⟨pe_imp (pe_revA ha.pe) fun σ H Q ⟨F0, H0, F, ρ, r, k⟩ => ⟨F0, H0, F, ρ, r, (ROk.step (r := f ρ) k).imp fun a F1 H1 _ g1 q1 x hx => by
    obtain ⟨c, e, q⟩ := q1.ofO
    cases a <;> simp only [oRev] at e <;> try (cases e; done)
    · cases e
      obtain ⟨p, vs, rfl, h2, h3⟩ := hx.list g1.in_
      exact ⟨p, vs, rfl, .inl ⟨Or.inl (Or.inl h2), fun z hz => q _ _ (Grow.made g1.in_ hz) _ (.lst upd_same (dpa_rev (h3.up (Evl.Ex.new (Evl.fresh_back g1.in_ hz)))))⟩⟩
    · cases e
      obtain ⟨p, vs, rfl, h2, h3⟩ := hx.tuple g1.in_
      exact ⟨p, vs, rfl, .inr ⟨h2, fun z hz => q _ _ (Grow.made g1.in_ hz) _ (.tup (Or.inl (Or.inl upd_same)) (dpa_rev (h3.up (Evl.Ex.new (Evl.fresh_back g1.in_ hz)))))⟩⟩⟩⟩
end
end DL

/-! DLp -/
/-! sorted(t), t a tuple of ints -/
namespace DL
open PySem L2 PySem.Spec PyProof.Rows
section
variable {prog : Program} {w : World} {A : Around} {s : Shared} {E : Value → Shared → Prop}
/-- the heap behind the gathering of a tuple's items -/
def gathered (h : Heap) (its : Array Value) : Heap := (h.push { cls := .type "list", data := .seq ([] : List Value).toArray }).update h.objs.size (Obj.mapSeq (· ++ its))
theorem gathered_keep {h : Heap} {its : Array Value} (b : Addr) (u : Obj) (e : h.get? b = some u) : (gathered h its).get? b = some u :=
  (Heap.get?_update_other _ _ (Nat.ne_of_gt (Heap.lt_size e))).trans (Heap.get?_push_of_some _ e)
theorem gathered_size {h : Heap} {its : Array Value} : (gathered h its).objs.size = h.objs.size + 1 := by
  unfold gathered
  rw [Heap.size_after_update]
  exact size_push' _ _
theorem collect_tup {t : Addr} {o : Obj} {its : Array Value} {n : Nat} {Q : List Value → Shared → Prop} (ho : s.heap.get? t = some o) (hc : o.cls = .type "tuple") (hd : o.data = .seq its n) (hsz : its.size ≤ sizeLine)
    (hQ : Q its.toList { s with heap := gathered s.heap its }) : wpAny (model prog w) A (collect (.ref t)) Q E s := by
  unfold collect
  refine wpAny_bind (wpAny_runValue (codeAny_builtin F.entry_proto_collect (?_)))
  rw [(Around.under_plainId F.plain_proto_collect _)]
  show wpAny _ A.in1 (newList [] >>= fun l => again (.builtin "list.__iadd__" ⟨[l, .ref t], []⟩)) _ _ s
  refine wpAny_bind (wpAny_newObj_type (?_))
  refine wpAny_pure ⟨plainId_quiet F.plain_list_iadd _, codeAny_builtin F.entry_list_iadd (?_)⟩
  rw [(Around.under_plainId F.plain_list_iadd _)]
  show wpAny _ A.in1 (Builtin.List.listExtendWith (.ref s.heap.objs.size) (.ref t) (.ref s.heap.objs.size)) _ _ _
  have g1 : (s.heap.push { cls := .type "list", data := .seq ([] : List Value).toArray }).get? s.heap.objs.size = some { cls := .type "list", data := .seq #[] 0 } := Heap.get?_push_size _ rfl
  have h2 := Heap.get?_update_self (Obj.mapSeq (· ++ its)) g1 rfl
  have fin : wpAny (model prog w) A (match Value.ref s.heap.objs.size with
      | Value.ref a => do
        match (← load a).data with
          | Data.seq ys _ => pure ys.toList
          | _ => (unsupported "internal:collect")
      | _ => unsupported "internal:collect") Q E { s with heap := gathered s.heap its } := by
    show wpAny _ A ((load s.heap.objs.size) >>= _) _ _ _
    refine wpAny_bind (wpAny_load h2 (wpAny_pure (?_)))
    have e : ((#[] : Array Value) ++ its).toList = its.toList := by simp
    show Q ((#[] : Array Value) ++ its).toList _
    rw [e]
    exact hQ
  refine wpAny_mono (wpAny_extend_seq (hsz := hsz) (A := A) (R := fun r s' => r = .ok (.ret (.ref s.heap.objs.size)) ∧ s' = { s with heap := gathered s.heap its })
    (s := { s with heap := s.heap.push { cls := .type "list", data := .seq ([] : List Value).toArray } }) _ t _ 0 (.inr rfl) g1 (Heap.get?_push_of_some _ ho) hc hd ⟨rfl, rfl⟩) (fun z s' h => (?_)) (fun e s' h => (?_))
  · cases z with
    | done f =>
      obtain ⟨e, rfl⟩ := h
      cases e
      exact fin
    | again c' => exact ⟨h.1, codeAny_mono h.2 fun r s'' hr => by obtain ⟨rfl, rfl⟩ := hr; exact fin⟩
  · exact absurd h.1 (by simp)
end
section
variable {X : Cx}
def rSortedTI (K : PySem.W.Frag) : List V → Hp → VK → Prop := fun vs H Q => ∃ (a : Addr) (ns : List Int), vs = [V.ref a] ∧ SqT K H a (ns.map V.int) ∧
  ∀ (ms : List Int) (p : Addr), ms.Perm ns → ms.Pairwise (· ≤ ·) → H p = none → Q (.ref p) (upd H p (.lst (ms.map V.int)))
theorem cr_sortedTI (hc : X.calm = true) : CallR X (.builtin "sorted") (rSortedTI X.K) := by
  intro pins s σ H vs us Q I r; intro h
  obtain ⟨a, ns, rfl, ha, q⟩ := h
  obtain ⟨its, rv, ht, hz⟩ := I.tuple ha
  obtain ⟨o, ho, oc, m, od⟩ := id ht
  have hz1 : its.toArray.size ≤ sizeLine := by rw [List.size_toArray, ← rv.length]; exact hz
  rw [Vals.ref1 r]
  refine Calls.call_function_entry kind_sorted plain_sorted entry_sorted (args_sorted1 _) (?_)
  unfold Builtin.«sorted»
  refine wpAny_bind (m := checkCount "sorted" 1 1 _) (wpAny_pure (wpAny_bind (collect_tup (A := X.A.in1) ho oc od hz1 (?_))))
  have vz : its.length ≤ sizeLine := by rw [List.size_toArray] at hz1; exact hz1
  have ia : IntsAre its ns := rv.ints
  refine wpAny_bind (wpAny_newList ?_ vz)
  have hL : ((gathered s.heap its.toArray).push (seqObj "list" its.toArray 0)).get? (gathered s.heap its.toArray).objs.size = some (seqObj "list" its.toArray 0) := Heap.get?_push_size _ (by rfl)
  refine wpAny_bind (wpAny_holding (wpAny_call_entry slot_list_sort ⟨_, hL, by rfl⟩ entry_list_sort (SrtO.list_sort_ord SrtO.swo_int hL vz (fun h2 => SrtO.ints_sortable ia h2) fun out h1 h2 => ⟨.none, rfl, ?_⟩) (args_list_sort _)))
  obtain ⟨k1', k2, k3⟩ := SrtO.ints_out ia h1 h2
  obtain ⟨c, hcs⟩ := sortedHeap_at (vs := its) (out := out.toArray) hL
  have z1 : s.heap.objs.size ≤ (gathered s.heap its.toArray).objs.size := by rw [gathered_size]; omega
  have old : ∀ b u, s.heap.get? b = some u → (sortedHeap ((gathered s.heap its.toArray).push (seqObj "list" its.toArray 0)) (gathered s.heap its.toArray).objs.size its out.toArray).get? b = some u := fun b u e => by
    have e1 := gathered_keep (its := its.toArray) b u e
    have lt := Heap.lt_size e1
    rw [sortedHeap_old (Nat.ne_of_lt lt) (by rw [size_push']; exact Nat.lt_succ_of_lt lt)]
    exact Heap.get?_push_of_some _ e1
  have hlen : (((out.map SrtO.iv).map V.int).length ≤ sizeLine) := by
    rw [List.length_map]; rw [k2.length_eq]
    rw [List.length_map] at hz
    exact hz
  have fresh : H (gathered s.heap its.toArray).objs.size = none := I.hok.fresh z1
  exact wpAny_pure ⟨_, rfl, .ref _, upd H (gathered s.heap its.toArray).objs.size (.lst ((out.map SrtO.iv).map V.int)), I.laid (t' := s.toks) old z1 ⟨hlen, out, c, vals_of_ints k1', hcs⟩, rfl, q (out.map SrtO.iv) _ k2 k3 fresh⟩
def bSortedB : List D → Option D
  | [.tuple xs] => (intsD xs).map fun ns => .list ((srt ns).map .int)
  | as => bSortedA as
theorem cr_sortedB (hc : X.calm = true) : CallR X (.builtin "sorted") (fun xs H Q => (rSortedI X.K xs H Q ∨ rSortedDk xs H Q) ∨ rSortedTI X.K xs H Q) := (cr_sortedA hc).or (cr_sortedTI hc)
theorem rc_sortedB {K : PySem.W.Frag} : RdC K (fun xs H Q => (rSortedI K xs H Q ∨ rSortedDk xs H Q) ∨ rSortedTI K xs H Q) bSortedB := fun F H xs as c e hx hc Q k => by
  unfold bSortedB at hc
  split at hc
  · rename_i ds
    cases hx with
    | cons h1 h2 =>
      cases h2
      obtain ⟨p, vs, rfl, t2, t3⟩ := h1.tuple e
      cases hi : intsD ds with
      | none => rw [hi] at hc; cases hc
      | some ns =>
        rw [hi] at hc
        cases hc
        have ed := intsD_some hi
        subst ed
        have ev := dpa_toInts t3
        subst ev
        exact .inr ⟨p, ns, rfl, t2, fun ms z pm up hz => by
          rw [srt_one pm up]
          exact k _ _ (Grow.made e hz) _ (.lst upd_same dpa_ints)⟩
  · exact .inl (rc_sortedA F H xs as c e hx hc Q k)
@[simp] theorem bSortedB_t {ns : List Int} : bSortedB [.tuple (ns.map PyData.int)] = some (.list ((srt ns).map .int)) := by
  simp [bSortedB, intsD_map]
@[simp] theorem bSortedB_l {ns : List Int} : bSortedB [.list (ns.map PyData.int)] = some (.list ((srt ns).map .int)) := by
  simp [bSortedB, bSortedA, bSorted, intsD_map]
end
end DL

/-! DLq -/
/-! defs that call themselves: by the depth that is left -/
namespace DL
open PySem L2 PySem.Spec PyProof.Rows
theorem fn_bad {P : Program} {w : World} {K : PySem.W.Frag} {mg : Str → Option Value} {base : Heap} {CX : CXT} {k m : Nat} {f : Addr} {fd : FuncData} {ps : List Str} : FnOk P w K mg base CX k f fd ps (spD K mg m fun _ => .bad) :=
  ⟨fun _ _ _ _ ⟨_, _, _, _, _, h⟩ => h.elim, fun _ _ _ _ _ _ _ _ _ _ _ _ _ ⟨_, _, _, _, _, h⟩ => h.elim⟩
end DL

/-! DLr -/
/-! a statement that is told nothing of: where a law does not come to it -/
namespace DL
open PySem L2 PySem.Spec PyProof.Rows
def sBad : Env → Out := fun _ => .bad
@[simp] theorem ev_sBad {ρ : Env} : sBad ρ = .bad := id rfl
theorem ds_bad {X : Cx} {W : WX} {st : Stmt} : DS X W st sBad := ⟨⟨fun _ _ _ _ _ _ ⟨_, _, _, _, _, h⟩ => h.elim⟩⟩
end DL

/-! DLu -/
/-! try whose clauses name one class or two -/
namespace DL
open PySem L2 PySem.Spec PyProof.Rows
open Evl (Ex ex_l ex_t ex_rd)
/-- a clause: what it says to a class -/
abbrev ClauseM := (Value → Option Bool) × Option Nat × (Addr → Value → Option Addr → TS)
def wMixT (Wo : WX) (Z : Ends) : List ClauseM → WX
  | [] => Wo
  | (m, none, ts) :: r => fun cls d σ H => ∃ b, m cls = some b ∧ (b = true → ∀ a, H a = none → ts a cls d Z σ H) ∧ (b = false → wMixT Wo Z r cls d σ H)
  | (m, some i, ts) :: r => fun cls d σ H => ∃ b, m cls = some b ∧ (b = true → ∀ a, H a = none → ts a cls d (unEnds i Z) (σ.set i (some (.ref a))) H) ∧ (b = false → wMixT Wo Z r cls d σ H)
inductive TstE (X : Cx) : Expr → (Value → Option Bool) → Prop
  | one {x : Str} {c : Value} {p : Pos} (nm : Names X x c) : TstE X (.Name x p) (fun cls => PySem.W.exmOne X.K cls c)
  | two {x y : Str} {c1 c2 : Value} {p1 p2 p3 : Pos} {kk : Nat} (n1 : Names X x c1) (n2 : Names X y c2) : TstE X (.Tuple [.Name x p1, .Name y p2] kk p3) (fun cls => PySem.W.exmAny X.K cls [c1, c2])
inductive HdT (X : Cx) : List ExceptHandler → List ClauseM → Prop
  | nil : HdT X [] []
  | plain {te : Expr} {m : Value → Option Bool} {ts : Addr → Value → Option Addr → TS} {b : Stmt} {rest : List Stmt} {p2 : Pos} {hs : List ExceptHandler} {l : List ClauseM} (t : TstE X te m) (su : SuiteOk X (b :: rest) ts) (r : HdT X hs l) :
      HdT X (.ExceptHandler (some te) none (b :: rest) p2 :: hs) ((m, none, ts) :: l)
  | named {te : Expr} {n : Str} {i : Nat} {m : Value → Option Bool} {ts : Addr → Value → Option Addr → TS} {b : Stmt} {rest : List Stmt} {p2 : Pos} {hs : List ExceptHandler} {l : List ClauseM} (t : TstE X te m) (hi : X.N[i]? = some n) (hl : X.env.kindOf n = some .local) (su : SuiteOk X (b :: rest) ts) (r : HdT X hs l) :
      HdT X (.ExceptHandler (some te) (some n) (b :: rest) p2 :: hs) ((m, some i, ts) :: l)
section
variable {X : Cx} {body : List Stmt} {h0 : ExceptHandler} {hl : List ExceptHandler} {l : List ClauseM} {pos : Pos} {tb : WX → TS} {Wo : WX}
theorem Caught.keep {a : Addr} {cls : Value} {d : Option Addr} {pp : List (Addr × Obj)} {ss : L2.St} {HH : Hp} {sI sC : Shared} {B g g' : Heap} (q : Caught X a cls d pp ss HH sI B g sC) (k : ∀ b o, g.get? b = some o → g'.get? b = some o) : Caught X a cls d pp ss HH sI B g' sC := by
  obtain ⟨J, nb, na, os, ag, up, f1, f2, f3, oe, vs, T, oT, ts, t1, t2, t3, t4, t5, t6, t7, t8, t9⟩ := q
  exact ⟨J, nb, na, os, ag, up.trans (PySem.Heap.UpToSlots.of_keeps k), fun b o e => k b o (f1 b o e), f2, PySem.Heap.FunFrames.of_keeps (fun b o e _ => ⟨o, k b o e, rfl⟩) f3, oe, vs, T, oT, ts, k _ _ t1, t2, t3, t4, t5, t6, k _ _ t7, t8, t9⟩
theorem tst_go (hf : X.env.frame = some X.env.locals) {a : Addr} {cls : Value} {d : Option Addr} {pp : List (Addr × Obj)} {ss : L2.St} {HH : Hp} {sI sC : Shared} {B g : Heap} {te : Expr} {m : Value → Option Bool} {v : Bool}
    (q : Caught X a cls d pp ss HH sI B g sC) (t : TstE X te m) (hm : m cls = some v) {Q : Bool → Shared → Prop} {E : Value → Shared → Prop} (h : ∀ g', Caught X a cls d pp ss HH sI B g' sC → Q v { sC with heap := g' }) :
    wpAny (model X.prog X.w) (X.A.mark (some (.ref a))) (eval te X.env) (fun c s1 => wpAny (model X.prog X.w) (X.A.mark (some (.ref a))) (excMatches (.ref a) c) Q E s1) E { sC with heap := g } := by
  obtain ⟨ob, ws, ge, gz, gd⟩ := q.fl.there
  obtain ⟨aL, aF⟩ := q.apart hf
  have S3 := q.inv.suite ge gd q.na aL aF
  have lookT : PySem.W.Looks (model X.prog X.w) g (typeOf (.ref a)) cls := fun _ _ _ _ k z => wpAny_typeOf_ref (k _ _ ge) (gz.1.symm ▸ z)
  have cname : ∀ {x : Str} {c : Value} {p : Pos} {Q E : Value → Shared → Prop}, Names X x c → Q c { sC with heap := g } → wpAny (model X.prog X.w) (X.A.mark (some (.ref a))) (eval (.Name x p) X.env) Q E { sC with heap := g } := fun nm z => by
    obtain ⟨n1, n2, n3 | ⟨n3, n4, n5⟩⟩ := nm
    · exact ld_glob (X := X.suite a ((a, ob) :: (X.pn ++ pp))) S3 n1 n3 z n2
    · exact ld_blt (X := X.suite a ((a, ob) :: (X.pn ++ pp))) S3 n1 n3 n4 z n5 n2
  cases t with
  | one nm => exact cname nm ((PySem.W.exm_one q.inv.kIn lookT hm).here (h g q))
  | @two x y c1 c2 p1 p2 p3 kk n1 n2 =>
    refine wpAny_Tuple ?_
    refine wpAny_items_cons (cname n1 ?_)
    refine wpAny_items_cons (cname n2 ?_)
    refine wpAny_items_nil ⟨by size_fits, (?_)⟩
    have kp : ∀ b o, g.get? b = some o → (g.push { cls := .type "tuple", data := .seq [c1, c2].toArray }).get? b = some o := fun _ _ z => Heap.get?_push_of_some _ z
    exact (PySem.W.exm_tup2 (q.inv.kIn.keeps kp) (lookT.keeps kp) (Heap.get?_push_size g rfl) hm).here (h _ (q.keep kp))
theorem caught_goT (hs : X.stack = X.env :: X.outer) (hf : X.env.frame = some X.env.locals) (tk : Takes X Wo) {a : Addr} {cls : Value} {d : Option Addr} {pp : List (Addr × Obj)} {ss : L2.St} {HH : Hp} {sI sC : Shared} {B : Heap} {Z : Ends}
    (hN : X.N.Nodup) : ∀ {hl : List ExceptHandler} {l : List ClauseM}, HdT X hl l → ∀ g, Caught X a cls d pp ss HH sI B g sC → wMixT Wo Z l cls d ss HH →
    wpAny (model X.prog X.w) X.A (handleBy (.ref a) X.env hl) (SP X pp Z) X.xe { sC with heap := g } := by
  intro hl l hk
  induction hk with
  | nil =>
    intro g q w
    obtain ⟨_, _, _, oe, us, T, _, _, f1, _, f2, f3, _⟩ := id q.fl
    refine wpAny_handleBy_nil ?_
    unfold PySem.passOn
    refine wpAny_bind (wpAny_field f1 f2 f3 ?_)
    rw [if_neg (by simp : ¬ (Value.ref T == Value.none) = true)]
    have last : wpAny (model X.prog X.w) X.A (setFlight (.ref a) X.env.frame) (fun _ s4 => wpAny (model X.prog X.w) X.A (throw (.ref a) : Sem Flow) (SP X pp Z) X.xe s4) X.xe { sC with heap := g } := by
      rw [hf]
      exact HandSPX.setFlight_upZ q.fl fun g2 hh2 up2 => wpAny_throw (tk _ _ ⟨a, B, sI, pp, ss, HH, cls, d, rfl, q.J, q.nb, q.up.trans up2, .inr (.inr (hs ▸ hh2)), q.na, q.os, q.ag, w⟩)
    first
      | exact wpAny_bind (wpAny_pure (wpAny_bind last))
      | exact wpAny_bind last
  | @plain te m ts b rest p2 hs2 l2 t su r ih =>
    intro g q ⟨v, v1, v2, v3⟩
    have ok := q.J.ok
    refine wpAny_handleBy_cons (codeAny_handlers_test (tst_go hf q t v1 fun g1 q1 => ?_)) (fun z => nomatch z)
    cases v with
    | false => exact ih g1 q1 (v3 rfl)
    | true =>
      obtain ⟨aL, aF⟩ := q1.apart hf
      refine codeAny_handlers_suite (HandSPX.lands_againZ q1.fl fun g2 fl2 up2 => ?_)
      have q2 : Caught X a cls d pp ss HH sI B g2 sC := ⟨q1.J, q1.nb, q1.na, q1.os, q1.ag, q1.up.trans up2, fl2⟩
      obtain ⟨ob2, ws2, ge2, gz2, gd2⟩ := fl2.there
      refine wpAny_mono ((su a ob2 cls d (X.pn ++ pp) gz2 ⟨_, gd2⟩).run [] _ _ HH Z (q2.inv.suite ge2 gd2 q1.na aL aF) (v2 rfl a q1.na)) (fun fl s6 hh => ?_) (fun _ _ z => z.elim)
      cases fl with
      | next => obtain ⟨s', H', I', z⟩ := hh; exact ⟨s', H', I'.unsuite ok, z⟩
      | brk => obtain ⟨s', H', I', z⟩ := hh; exact ⟨s', H', I'.unsuite ok, z⟩
      | cont => obtain ⟨s', H', I', z⟩ := hh; exact ⟨s', H', I'.unsuite ok, z⟩
      | ret u => obtain ⟨v, s', H', I', z⟩ := hh; exact ⟨v, s', H', I'.unsuite ok, z⟩
  | @named te n i m ts b rest p2 hs2 l2 t hi hln su r ih =>
    intro g q ⟨v, v1, v2, v3⟩
    have ok := q.J.ok
    refine wpAny_handleBy_cons (codeAny_handlers_test (tst_go hf q t v1 fun g1 q1 => ?_)) (fun z => nomatch z)
    cases v with
    | false => exact ih g1 q1 (v3 rfl)
    | true =>
      obtain ⟨aL, aF⟩ := q1.apart hf
      refine codeAny_handlers_suite_as (HandSPX.lands_againZ q1.fl fun g2 fl2 up2 => ?_)
      have q2 : Caught X a cls d pp ss HH sI B g2 sC := ⟨q1.J, q1.nb, q1.na, q1.os, q1.ag, q1.up.trans up2, fl2⟩
      obtain ⟨ob2, ws2, ge2, gz2, gd2⟩ := fl2.there
      refine store_ok (X := X.suite a ((a, ob2) :: (X.pn ++ pp))) (v := .ref a) (q2.inv.suite ge2 gd2 q1.na aL aF) hN hi (.inl hln) rfl (fun s5 I5 => ?_) (.inr hln)
      refine wpAny_mono ((su a ob2 cls d (X.pn ++ pp) gz2 ⟨_, gd2⟩).run [] s5 _ HH (unEnds i Z) I5 (v2 rfl a q1.na)) (fun fl s6 hh => ?_) (fun _ _ z => z.elim)
      have away : ∀ {s' : L2.St} {H' : Hp} {R' : Shared → Prop}, Inv (X.suite a ((a, ob2) :: (X.pn ++ pp))) [] s' H' s6 → (∀ s7, Inv X pp (s'.set i none) H' s7 → R' s7) →
          wpAny (model X.prog X.w) X.A (do bindName X.env n .none; unbindBehindTheSuite X.env n p2) (fun _ s7 => R' s7) X.xe s6 := fun I6 z => gone_ok (I6.unsuite ok) hN hi hln z
      cases fl with
      | next => obtain ⟨s', H', I', z⟩ := hh; exact away I' fun _ I7 => ⟨_, H', I7, z⟩
      | brk => obtain ⟨s', H', I', z⟩ := hh; exact away I' fun _ I7 => ⟨_, H', I7, z⟩
      | cont => obtain ⟨s', H', I', z⟩ := hh; exact away I' fun _ I7 => ⟨_, H', I7, z⟩
      | ret u => obtain ⟨v, s', H', I', rv, z⟩ := hh; exact away I' fun _ I7 => ⟨v, _, H', I7, rv, z⟩
theorem ps_try_mixT (hs : X.stack = X.env :: X.outer) (hf : X.env.frame = some X.env.locals) (hN : X.N.Nodup) (tk : Takes X Wo)
    (hb : ∀ (W : WX) (pn : List (Addr × Obj)) (xe : Value → Shared → Prop),
      Takes (X.tr pn xe) W → PassesOwn (model X.prog X.w) X.A X.env xe → PSs (X.tr pn xe) body (tb W))
    (hh : HdT X (h0 :: hl) l) : PS X (.Try body (h0 :: hl) [] [] pos) (fun Z σ H => tb (wMixT Wo Z l) Z σ H) := by
  refine ⟨fun pp s ss HH Z I z => ?_⟩
  have ok := I.ok
  have rows : X.A.frames = some (X.env :: X.outer) := ok.frames.trans (congrArg some hs)
  refine wpAny_Try_except (wpAny_mono ((hb (wMixT Wo Z l) (X.pn ++ pp) (fun er t1 => wpAny (model X.prog X.w) X.A (noteFrame er X.env) (fun _ t2 => wpAny (model X.prog X.w) X.A (setFlight er none)
    (fun _ t3 => wpAny (model X.prog X.w) X.A (handleBy er X.env (h0 :: hl)) (SP X pp Z) X.xe t3) X.xe t2) X.xe t1) (fun u sC xx => ?_) PassesOwn.looking).run [] s ss HH Z (I.toTry _) z) (fun fl s1 hsp => ?_) (fun _ _ y => y))
  · obtain ⟨a, B, sI, p', ss', HH', cls, d, rfl, J', nb, up, sky, na, os, ag, w⟩ := xx
    have sky' : Sky B (X.env :: X.outer) a (Zc cls d) X.env.locals sC.heap := hs ▸ sky
    exact Sky.land Zc.steady rows hf sky' fun g fl3 up3 => caught_goT hs hf tk hN hh g ⟨J'.ofTry ok, nb, na, os, ag, up.trans up3, fl3⟩ w
  · cases fl with
    | next => obtain ⟨s', H', I', y⟩ := hsp; exact wpAny_execs_nil ⟨s', H', I'.ofTry ok, y⟩
    | brk => obtain ⟨s', H', I', y⟩ := hsp; exact ⟨s', H', I'.ofTry ok, y⟩
    | cont => obtain ⟨s', H', I', y⟩ := hsp; exact ⟨s', H', I'.ofTry ok, y⟩
    | ret u => obtain ⟨v, s', H', I', y⟩ := hsp; exact ⟨v, s', H', I'.ofTry ok, y⟩
end
/-! ### by data -/
structure HFT (K : PySem.W.Frag) (mg : Str → Option Value) (m : Value → Option Bool) (ns sub : List Str) : Prop where
  all : ∀ n ∈ ns, ∃ Dn, mg n = some (.ref Dn) ∧ m (.ref Dn) = some (sub.contains n)
theorem HF.one {K : PySem.W.Frag} {mg : Str → Option Value} {c : Value} {ns sub : List Str} (F : HF K mg c ns sub) : HFT K mg (fun cls => PySem.W.exmOne K cls c) ns sub := ⟨F.all⟩
theorem HF.two {K : PySem.W.Frag} {mg : Str → Option Value} {c1 c2 : Value} {ns s1 s2 sub : List Str} (F : HF K mg c1 ns s1) (G : HF K mg c2 ns s2) (h : ∀ n ∈ ns, sub.contains n = (s1.contains n || s2.contains n)) : HFT K mg (fun cls => PySem.W.exmAny K cls [c1, c2]) ns sub := ⟨fun n hn => by
  obtain ⟨D1, a1, b1⟩ := F.all n hn
  obtain ⟨D2, a2, b2⟩ := G.all n hn
  rw [a1] at a2
  cases a2
  refine ⟨D1, a1, ?_⟩
  rw [h n hn]
  show (PySem.W.exmAny K (.ref D1) [c1, c2]) = _
  simp only [PySem.W.exmAny, b1, b2]
  simp⟩
inductive HdX (X : Cx) (ns : List Str) : List ExceptHandler → List ClD → Prop
  | nil : HdX X ns [] []
  | plain {te : Expr} {m : Value → Option Bool} {sub : List Str} {g : Env → Out} {b : Stmt} {rest : List Stmt} {p2 : Pos} {hs : List ExceptHandler} {l : List ClD} (t : TstE X te m) (F : HFT X.K X.mg m ns sub)
      (su : ∀ (a : Addr) (pn : List (Addr × Obj)), DSs (X.suite a pn) W0 (b :: rest) g) (r : HdX X ns hs l) : HdX X ns (.ExceptHandler (some te) none (b :: rest) p2 :: hs) ((sub, none, fun _ => g) :: l)
  | named {te : Expr} {m : Value → Option Bool} {n : Str} {i : Nat} {sub : List Str} {e : Expr} {f : Exc → Env → R D} {p2 p3 : Pos} {hs : List ExceptHandler} {l : List ClD} (t : TstE X te m) (F : HFT X.K X.mg m ns sub) (hi : X.N[i]? = some n) (hl : X.env.kindOf n = some .local)
      (su : EX X i e f) (r : HdX X ns hs l) : HdX X ns (.ExceptHandler (some te) (some n) [.Return (some e) p3] p2 :: hs) ((sub, some i, xRet i f) :: l)
section
variable {X : Cx} {W : WX} {ns : List Str}
theorem mix_okT {hl : List ExceptHandler} {cl : List ClD} (hh : HdX X ns hl cl) : ∃ l, HdT X hl l ∧ ∀ (Z : Ends) (F0 H0 F H : Hp) (ρ : Env) (σ : L2.St) (x : Exc) (cls : Value) (dd : Option Addr), OOk X.K X.mg W F0 H0 F Z (handle cl x ρ) → ns.contains x.cls = true →
    Rep X.K F0 H0 F H ρ σ → XRep X.K X.mg F x cls dd → wMixT W Z l cls dd σ H := by
  induction hh with
  | nil => exact ⟨[], .nil, fun Z F0 H0 F H ρ σ x cls dd k _ r xr => k cls dd F H σ (.refl F) r xr⟩
  | @plain te m sub g b rest p2 hs l t Fc su _ ih =>
    obtain ⟨l', i1, i2⟩ := ih
    refine ⟨(m, none, fun a cls d => tS X.K X.mg W0 g) :: l', .plain t (fun a ob cls d pn _ _ => (su a ((a, ob) :: pn)).pss) i1, fun Z F0 H0 F H ρ σ x cls dd k hc r xr => ?_⟩
    obtain ⟨C, c1, c2, _⟩ := id xr
    obtain ⟨Dn, d1, d2⟩ := Fc.all x.cls (by simpa using hc)
    rw [c1] at d1
    cases d1
    subst c2
    refine ⟨_, d2, fun hb a _ => ?_, fun hb => i2 Z F0 H0 F H ρ σ x _ dd ?_ hc r xr⟩
    · unfold handle at k
      rw [if_pos hb] at k
      exact ⟨F0, H0, F, ρ, r, noXO_ok k⟩
    · unfold handle at k
      rw [if_neg (by rw [hb]; exact Bool.false_ne_true)] at k
      exact k
  | @named te m n i sub e f p2 p3 hs l t Fc hi hln su _ ih =>
    obtain ⟨l', i1, i2⟩ := ih
    refine ⟨(m, some i, fun a cls d => tRet (tEx X.K X.mg i a cls d f)) :: l', .named t hi hln (fun a ob cls d pn z w => pss_one (ps_ret (su.pe a ob cls d pn z w))) i1, fun Z F0 H0 F H ρ σ x cls dd k hc r xr => ?_⟩
    obtain ⟨C, c1, c2, _⟩ := id xr
    obtain ⟨Dn, d1, d2⟩ := Fc.all x.cls (by simpa using hc)
    rw [c1] at d1
    cases d1
    subst c2
    refine ⟨_, d2, fun hb a ha => ?_, fun hb => i2 Z F0 H0 F H ρ σ x _ dd ?_ hc r xr⟩
    · unfold handle at k
      rw [if_pos hb] at k
      have k : OOk X.K X.mg W F0 H0 F Z (noXO (if i < ρ.length then exB ρ (f x (ρ.set i .no)) fun d => .rt d else .bad)) := k
      by_cases hlen : i < σ.length
      · refine ⟨F0, H0, F, ρ.set i .no, x, r.drop i _, List.getElem?_set_self hlen, xr, ?_⟩
        rw [if_pos (by rw [r.len]; exact hlen)] at k
        cases hf : f x (ρ.set i .no) with
        | ok d =>
          rw [hf] at k
          exact fun F' H' gr v hv => k v F' H' gr.f (r.g.trans gr) hv
        | exc y => rw [hf] at k; exact k.elim
        | bad => rw [hf] at k; exact k.elim
      · rw [if_neg (by rw [r.len]; exact hlen)] at k
        exact k.elim
    · unfold handle at k
      rw [if_neg (by rw [hb]; exact Bool.false_ne_true)] at k
      exact k
theorem ds_tryT {body : List Stmt} {g : Env → Out} {h0 : ExceptHandler} {hl : List ExceptHandler} {cl : List ClD} {pos : Pos} (hs : X.stack = X.env :: X.outer) (hf : X.env.frame = some X.env.locals) (hN : X.N.Nodup) (tk : Takes X W)
    (hb : ∀ (W : WX) (pn : List (Addr × Obj)) (xe : Value → Shared → Prop),
      Takes (X.tr pn xe) W → PassesOwn (model X.prog X.w) X.A X.env xe → DSs (X.tr pn xe) W body g)
    (hh : HdX X ns (h0 :: hl) cl) : DS X W (.Try body (h0 :: hl) [] [] pos) (sTry ns g cl) := by
  obtain ⟨l, h1, h2⟩ := mix_okT (W := W) hh
  refine ⟨ps_imp (ps_try_mixT (tb := fun W => tS X.K X.mg W g) hs hf hN tk (fun W pn xe t p => (hb W pn xe t p).pss) h1) fun Z σ H ⟨F0, H0, F, ρ, r, k⟩ => ⟨F0, H0, F, ρ, r, ?_⟩⟩
  have k : OOk X.K X.mg W F0 H0 F Z (match g ρ with | .ex x ρ' => if ns.contains x.cls = true then handle cl x ρ' else .bad | o => o) := k
  cases hg : g ρ with
  | ex x ρ' =>
    rw [hg] at k
    have k : OOk X.K X.mg W F0 H0 F Z (if ns.contains x.cls = true then handle cl x ρ' else .bad) := k
    split at k
    · rename_i hc
      exact fun cls dd F' H' σ' e r' xr => h2 Z F0 H0 F' H' ρ' σ' x cls dd (k.up e) hc r' xr
    · exact k.elim
  | nx ρ' => rw [hg] at k; exact k
  | rt d => rw [hg] at k; exact k
  | bk ρ' => rw [hg] at k; exact k
  | ct ρ' => rw [hg] at k; exact k
  | bad => rw [hg] at k; exact k
end
end DL

/-! DLv -/
/-! defs that run where no guard stands around: repr of data -/
namespace DL
open PySem L2 PySem.Spec PyProof.Rows
open Evl (Ex ex_l ex_t ex_rd)
/-- a def's promise where no guard stands around -/
structure FnOkG (P : Program) (w : World) (K : PySem.W.Frag) (mg : Str → Option Value) (base : Heap) (CX : CXT) (k : Nat) (f : Addr) (fd : FuncData) (ps : List Str) (sp : Sp) : Prop where
  len : ∀ (vs : List V) H Q E, sp vs H Q E → vs.length = ps.length
  run : ∀ (A : Around) (outer : List PySem.Env) (s : Shared) (H : Hp) (args : Args) (us : List Value) (vs : List V) (Q : VK) (E : XK), Room k A → A.guards = some [] → Env0 P w K mg base A outer s H →
    BindsTo s fd args (ps.zip us) → Vals vs us → sp vs H Q E → codeAny (model P w) A (.call (.ref f) args) (CR CX outer P w H s Q E) s
section
variable {P : Program} {w : World} {K : PySem.W.Frag} {mg : Str → Option Value} {base : Heap} {CX : CXT}
theorem FnOkG.imp {k : Nat} {f : Addr} {fd : FuncData} {ps : List Str} {sp sp' : Sp} (F : FnOkG P w K mg base CX k f fd ps sp) (h : ∀ vs H Q E, sp' vs H Q E → sp vs H Q E) : FnOkG P w K mg base CX k f fd ps sp' :=
  ⟨fun _ _ _ _ q => F.len _ _ _ _ (h _ _ _ _ q), fun A o s H g us vs Q E r1 r2 e b v q => F.run A o s H g us vs Q E r1 r2 e b v (h _ _ _ _ q)⟩
theorem fn_ofG {x qual : Str} {st : Stmt} {f : Addr} {fd : FuncData} {N ps : List Str} {k : Nat} {sp : Sp} (Fn : Fun K x qual st f fd) (S : FnScope N ps (defScope st)) (len : ∀ vs H Q E, sp vs H Q E → vs.length = ps.length)
    (hbody : ∀ (cdv : Value) (A : Around) (outer : List PySem.Env) (s : Shared) (H : Hp) (vs : List V) (Q : VK) (E : XK), Room k (A.deeper (envOfC qual (defScope st) s.heap.objs.size f cdv)) → (A.deeper (envOfC qual (defScope st) s.heap.objs.size f cdv)).guards = some [] → sp vs H Q E →
      ∃ t, PSs (cxOf CX P w K mg base N qual (defScope st) f cdv A outer s H E) (defBody st) t ∧ t { nx := fun _ H' => Q .non H', rt := Q } (start N vs) H) : FnOkG P w K mg base CX (k + 1) f fd ps sp := by
  obtain ⟨oc, od, kV, doc, pm, an, cdv, ct, osl, rfl, lk, hcd⟩ := Fn.ex
  refine ⟨len, fun A outer s H args us vs Q E room gd e0 hb rv q => ?_⟩
  have back : K.In s.heap := e0.mod.kin.keeps fun b o z => (e0.bs b o z).1
  have free : s.heap.NoLimit := e0.mod.nolimit.keeps fun b o z => (e0.bs b o z).1
  have kinds : ∀ y ∈ ps.zip us, (defScope st).names.lookup y.1 = some .local ∨ ((defScope st).names.lookup y.1 = some .cell ∧ ((cellsFrom (s.heap.objs.size + 1) (defScope st).names []).lookup y.1).isSome = true) := by
    rintro ⟨n, v⟩ hy
    exact (S.par n (List.of_mem_zip hy).1).imp id fun z => ⟨z, PySem.W.cellsFrom_some _ _ _ (.inl z)⟩
  refine codeAny_call_function room.depth (back _ _ lk) rfl S.co S.gen rfl (PySem.W.codeRec_of back hcd) (hb _ _ _ _ (wpAny_newFunctionEnv_cells S.kind kinds fun env he s1 inn => ?_))
  subst he
  refine ⟨free.keeps inn.toInCall.keep, codeAny_func ?_⟩
  obtain ⟨t, h1, h2⟩ := hbody cdv A outer s H vs Q E (room.deeper _) gd q
  refine wpAny_mono (h1.run [] s1 (start N vs) H _ (inv_start S room.hd e0 (len _ _ _ _ q) rv inn) h2) (fun fl s' z => ?_) fun _ _ z => z
  cases fl with
  | ret u => obtain ⟨v, σ', H', J, r', z⟩ := z; exact ⟨v, H', J.os, J.bare, J.base, J.hok, r', z⟩
  | next => obtain ⟨σ', H', J, z⟩ := z; exact ⟨V.non, H', J.os, J.bare, J.base, J.hok, rfl, z⟩
  | brk => obtain ⟨_, _, _, z⟩ := z; exact z.elim
  | cont => obtain ⟨_, _, _, z⟩ := z; exact z.elim
theorem fn_okG {x qual : Str} {st : Stmt} {f : Addr} {fd : FuncData} {N ps : List Str} {k n m : Nat} {g : Env → Out} {sem : List D → R D} (hsem : sem = semOf n m g) (hn : N.length = n) (hm : ps.length = m) (Fn : Fun K x qual st f fd) (S : FnScope N ps (defScope st))
    (hbody : ∀ (cdv : Value) (A : Around) (outer : List PySem.Env) (s : Shared) (H : Hp) (E : XK), Room k (A.deeper (envOfC qual (defScope st) s.heap.objs.size f cdv)) → (A.deeper (envOfC qual (defScope st) s.heap.objs.size f cdv)).guards = some [] →
      Takes (cxOf (L2.CX P w) P w K mg base N qual (defScope st) f cdv A outer s H E) (fun cls d _ H => E cls d H) →
      PassesOwn (model P w) (A.deeper (envOfC qual (defScope st) s.heap.objs.size f cdv)) (envOfC qual (defScope st) s.heap.objs.size f cdv) (cxOf (L2.CX P w) P w K mg base N qual (defScope st) f cdv A outer s H E).xe →
      DSs (cxOf (L2.CX P w) P w K mg base N qual (defScope st) f cdv A outer s H E) (fun cls d _ H => E cls d H) (defBody st) g) :
    FnOkG P w K mg base (L2.CX P w) (k + 1) f fd ps (spD K mg m sem) := by
  subst hsem hn hm
  refine fn_ofG Fn S (fun vs H Q E ⟨F, ds, _, h2, h3, _⟩ => (dpa_len h2).trans h3) fun cdv A outer s H vs Q E hr gd hsp => ?_
  obtain ⟨F, ds, h1, h2, h3, h4⟩ := hsp
  have tk := takes_of (X := cxOf (L2.CX P w) P w K mg base N qual (defScope st) f cdv A outer s H E) (E := E) rfl rfl rfl rfl
  have hp := passes_of (X := cxOf (L2.CX P w) P w K mg base N qual (defScope st) f cdv A outer s H E) rfl
  refine ⟨_, (hbody cdv A outer s H E hr gd tk hp).pss, F, H, F, _, rep_start (N := N) h1 h2 ?_, ?_⟩
  · have l := congrArg List.length S.pre
    rw [List.length_take] at l
    omega
  · have h4 : ROk K mg E F H (fun d F' H' => ∀ v, Da K F' v d → Q v H') (if ds.length = ps.length then toR (g (ds.map .val ++ List.replicate (N.length - ps.length) .no)) else .bad) := h4
    rw [if_pos h3] at h4
    rw [h3]
    cases hg : g (ds.map SV.val ++ List.replicate (N.length - ps.length) SV.no) with
    | nx ρ => rw [hg] at h4; exact fun F' H' σ' _ r => h4 F' H' r.g .non .non
    | rt d => rw [hg] at h4; exact fun v F' H' _ gr hv => h4 F' H' gr v hv
    | ex x ρ => rw [hg] at h4; exact fun cls dd F' H' σ' _ r xr => h4 cls dd F' H' r.g xr
    | bk ρ => rw [hg] at h4; exact h4.elim
    | ct ρ => rw [hg] at h4; exact h4.elim
    | bad => rw [hg] at h4; exact h4.elim
end
/-! ### their calls -/
structure CalleeG (P : Program) (w : World) (K : PySem.W.Frag) (mg : Str → Option Value) (base : Heap) (k : Nat) (x : Str) (m : Nat) (sem : List D → R D) : Prop where
  ex : ∃ (f : Addr) (fd : FuncData) (ps : List Str), mg x = some (.ref f) ∧ PySem.W.keepIn K (.ref f) = true ∧ Binds K fd ps [] ∧ FnOkG P w K mg base (L2.CX P w) k f fd ps (spD K mg m sem)
  len : ∀ ds, ds.length ≠ m → sem ds = .bad
section
variable {X : Cx} {CX : CXT} {k : Nat} {f : Addr} {fd : FuncData} {ps : List Str} {sp : Sp} {E : L2.St → XK} {x : Str} {p pos : Pos} {e : Expr} {es : List Expr} {t : TA}
theorem pe_callG (F : FnOkG X.prog X.w X.K X.mg X.base CX k f fd ps sp) (hr : Room k X.A) (gd : X.A.guards = some []) (hg : Gl X x) (hm : X.mg x = some (.ref f)) (hk : PySem.W.keepIn X.K (.ref f) = true) (hb : Binds X.K fd ps []) (hx : ∀ σ, PassesAt CX X σ (E σ))
    (ha : PA X (e :: es) t)
    (hdb : (x == ("__debug__" : Str)) = false := by decide) (he : starEach (e :: es) X.env = (false, eval e X.env) :: starEach es X.env := by rfl) (hpl : (backTo pos (starEach es X.env)).any (·.1) = false := by rfl) : PE X (.Call (.Name x p) (e :: es) [] pos) (fun σ H Q => t σ H fun vs H1 => sp vs H1 Q (E σ)) := by
  refine ⟨fun pins s σ H Q I h => wpAny_Call_Name_kw (ld_glob I hg hm ?_ hdb)⟩
  refine PySem.W.callWith_K (h₀ := X.base) I.ok.mod.kin hk (thn (ha.run pos pins s σ H _ I h) fun us s1 ⟨vs, H1, J, rv, q⟩ => ⟨J.kIn, ?_⟩) he hpl
  have el : us.length = ps.length := by rw [← rv.length]; exact F.len _ _ _ _ q
  have bd := hb s1 us J.kIn (by rw [List.append_nil]; exact el)
  rw [List.append_nil] at bd
  refine wpAny_call (codeAny_mono (F.run X.A X.stack s1 H1 ⟨us, []⟩ us vs Q (E σ) hr gd J.env0 bd rv q) fun r s' z => ?_)
  cases r with
  | error u => exact hx σ pins H1 s1 u s' J z
  | ok fl =>
    cases fl with
    | ret u => exact J.after z
    | next => exact z.elim
    | brk => exact z.elim
    | cont => exact z.elim
end
section
variable {X : Cx} {W : WX} {x : Str} {p pos : Pos} {e : Expr} {es : List Expr} {q : Env → R (List D)} {k j m : Nat} {sem : List D → R D}
theorem de_callG (C : CalleeG X.prog X.w X.K X.mg X.base k x m sem) (hr : Room j X.A) (gd : X.A.guards = some []) (hkj : k ≤ j) (hg : Gl X x) (tk : Takes X W) (ha : DA X W (e :: es) q) (hdb : (x == ("__debug__" : Str)) = false := by decide)
    (he : starEach (e :: es) X.env = (false, eval e X.env) :: starEach es X.env := by rfl) (hpl : (backTo pos (starEach es X.env)).any (·.1) = false := by rfl) : DE X W (.Call (.Name x p) (e :: es) [] pos) (cCall sem q) := by
  obtain ⟨f, fd, ps, hm, hk, hb, Fn⟩ := C.ex
  exact ⟨pe_imp (pe_callG Fn (hr.mono hkj) gd hg hm hk hb (fun σ => passAt tk σ) ha.pa hdb he hpl) fun σ H Q ⟨F0, H0, F, ρ, r, z⟩ => ⟨F0, H0, F, ρ, r, (ROk.step (r := q ρ) z).imp fun ds F1 H1 _ g1 q1 vs hv => by
    refine ⟨F1, ds, g1.in_, hv, ?_, q1⟩
    by_cases h : ds.length = m
    · exact h
    · rw [C.len ds h] at q1
      exact q1.elim⟩⟩
end
/-! ### the law's end -/
theorem vals_of_are : ∀ {vs : List Value} {ns : List Int}, IntsAre vs ns → Vals (ns.map V.int) vs
  | _, _, .nil => .nil
  | _, _, .cons _ t r => .cons ⟨t, rfl⟩ (vals_of_are r)
theorem law_callG {P : Program} {w : World} {K : PySem.W.Frag} {mg mb : Str → Option Value} {k : Nat} {fa a : Addr} {fd : FuncData} {x : Str} {s1 : Shared} {vs : List Value} {ns : List Int}
    (KX : K.In s1.heap) (hns : s1.heap.Ns mainGlobals mg) (hb : s1.heap.Ns builtinsNs mb) (hbb : ∀ x : Str, x ≠ "__name__" → mb x = bootBuiltins x) (hlim : s1.heap.NoLimit) (hg : s1.gens = #[])
    (ha : s1.heap.get? a = some { cls := .type "list", data := .seq vs.toArray }) (hi : IntsAre vs ns) (hl : ns.length ≤ 63) (hr : Room k callerA)
    (F : ∀ base : Heap, K.In base → base.Ns mainGlobals mg → FnOkG P w K mg base (L2.CX P w) k fa fd [x] (spLawD K)) (hbind : ∀ (s : Shared) (u : Value), BindsTo s fd ⟨[u], []⟩ [(x, u)]) :
    codeAny (model P w) callerA (.call (.ref fa) ⟨[.ref a], []⟩) (fun r s' => r = .ok (.ret (.bool true)) ∧ OldK s1.heap s'.heap ∧ s'.os = s1.os ∧ AllBare s'.gens) s1 := by
  have rows := vals_of_are hi
  have many : ns.length ≤ sizeLine := by rw [sizeLine_eq]; omega
  have go : ∀ H : Hp, Only H → SqL K H a (ns.map V.int) → HOk P w H s1.heap → (∀ b, H b ≠ none → b = a) → (H a ≠ none → K.lookup a = none) →
      codeAny (model P w) callerA (.call (.ref fa) ⟨[.ref a], []⟩) (fun r s' => r = .ok (.ret (.bool true)) ∧ OldK s1.heap s'.heap ∧ s'.os = s1.os ∧ AllBare s'.gens) s1 := by
    intro H only script hok one fresh
    have untold : ∀ b, b ≠ a → H b = none := fun b hb => Classical.byContradiction fun z => hb (one b z)
    have nsH : ∀ {b : Addr} {m : Str → Option Value}, s1.heap.Ns b m → (hidT s1.heap H).Ns b m := by
      rintro b m ⟨o, es, ep, e, d, r⟩
      refine ⟨o, es, ep, hidT_get e (untold b fun z => ?_), d, r⟩
      rw [z, ha] at e
      cases e
      cases (show Data.seq vs.toArray _ = Data.dict es ep from d)
    have kH : K.In (hidT s1.heap H) := fun b o e => hidT_get (KX b o e) (Classical.byContradiction fun z => by
      have ba := one b z
      rw [ba] at z e
      rw [fresh z] at e
      cases e)
    have md : Mod K mg (hidT s1.heap H) := ⟨kH, nsH hns, ⟨mb, nsH hb, hbb⟩, let ⟨mc, h1, h2⟩ := hlim; ⟨mc, nsH h1, h2⟩⟩
    have ground : Env0 P w K mg (hidT s1.heap H) callerA [] s1 H := ⟨rfl, md, fun b o e => of_hidT e, Nat.le_of_eq (hidT_size _ _), trivial, fun b z => absurd (show b ∈ ([] : List Addr) from z) List.not_mem_nil, hok, .of_eq hg⟩
    refine codeAny_mono ((F _ kH (nsH hns)).run callerA [] s1 H ⟨[.ref a], []⟩ [.ref a] [.ref a] (fun v _ => v = .bl true) (fun _ _ _ => False) hr rfl ground (hbind s1 (.ref a)) (.cons rfl .nil) ⟨a, ns, rfl, script, hl, fun _ => rfl⟩) fun r s' z => ?_
    cases r with
    | error e =>
      obtain ⟨_, _, _, _, _, _, _, _, _, _, _, _, z⟩ := z
      exact z.elim
    | ok fl =>
      cases fl with
      | next => exact z.elim
      | brk => exact z.elim
      | cont => exact z.elim
      | ret u =>
        obtain ⟨v, H', os, bare, un, hok', ru, hv⟩ := z
        cases (show v = .bl true from hv)
        cases (show u = Value.bool true from ru)
        refine ⟨rfl, OldK.of_keep fun b o e => (?_), os, bare⟩
        rcases only b with n | ⟨ob, xs, n⟩
        · exact un.keep b o e n (fun z => absurd (show b ∈ ([] : List Addr) from z) List.not_mem_nil) (by simp)
        · have e1 := (hok b _ n).1
          have e2 := (hok' b _ (un.frzs b ob _ n)).1
          rw [e] at e1
          cases e1
          exact e2
  cases hk : K.lookup a with
  | some o =>
    have e := KX a o hk
    rw [ha] at e
    cases e
    exact go (fun _ => none) (fun _ => .inl rfl) (.inr ⟨_, vs.toArray, _, hk, rfl, rfl, rfl, by rw [List.size_toArray, hi.length]; exact many, by simpa using rows⟩) (fun b u z => by cases (show (none : Option HO) = some u from z)) (fun b z => (z rfl).elim) fun z => (z rfl).elim
  | none =>
    have at1 : ∀ b u, (if b = a then some (HO.frz { cls := .type "list", data := .seq vs.toArray } (.lst (ns.map V.int))) else none) = some u → b = a ∧ u = HO.frz { cls := .type "list", data := .seq vs.toArray } (.lst (ns.map V.int)) := fun b u z => by
      split at z
      · rename_i h; cases z; exact ⟨h, rfl⟩
      · cases z
    refine go (fun b => if b = a then some (.frz { cls := .type "list", data := .seq vs.toArray } (.lst (ns.map V.int))) else none) (fun b => ?_) (.inl (.inr ⟨{ cls := .type "list", data := .seq vs.toArray }, if_pos rfl⟩)) (fun b u z => ?_) (fun b z => ?_) fun _ => hk
    · by_cases h : b = a
      · exact .inr ⟨_, _, if_pos h⟩
      · exact .inl (if_neg h)
    · obtain ⟨rfl, rfl⟩ := at1 b u z
      exact ⟨ha, by rw [List.length_map]; exact many, vs, _, rows, ha⟩
    · exact Classical.byContradiction fun h => z (if_neg h)
theorem walk_ofG {l : PySem.W.OpenLaw} {k : Nat} {q : Program} {loose : List Str} {XP : (Str → Option Value) → Heap → Prop} {YP : World → Heap → Prop} {d : DefRec} {K : Params → PySem.W.Frag} {x : Str}
    (hn : l.most = some 63) (hdf : d.params.defaults = []) (hr : Room k callerA) (hY : ∀ (w : World) (h : Heap), YP w h → (K w.params).In h)
    (F : ∀ (w : World) (mg : Str → Option Value) (fa : Addr) (h : Heap), (K w.params).In h → h.Ns mainGlobals mg → mg d.name = some (.ref fa) → ∃ fd : FuncData, (∀ (s : Shared) (u : Value), BindsTo s fd ⟨[u], []⟩ [(x, u)]) ∧ ∀ base : Heap, (K w.params).In base → base.Ns mainGlobals mg → FnOkG l.prog w (K w.params) mg base (L2.CX l.prog w) k fa fd [x] (spLawD (K w.params))) :
    (PySem.W.WalkO q loose XP YP l.row.toRowW d [] (fun f vs => PySem.call f vs)) := by
  refine Att.attach_call hn hdf fun w _ s1 mg mb fa _ _ _ _ a vs ns G Y _ _ _ hmg hobj hints hlen hg => ?_
  obtain ⟨fd, hb, hF⟩ := F w mg fa _ (hY w _ Y) G.T.g hmg
  exact law_callG (hY w _ Y) G.T.g G.T.b G.T.builtins G.T.nolimit hg hobj hints hlen hr hF hb
theorem law_endG {P : Program} {w : World} {K : PySem.W.Frag} {mg : Str → Option Value} {base : Heap} {k : Nat} {f : Addr} {fd : FuncData} {x : Str} {sem : List D → R D} (ht : ∀ ns : List Int, ns.length ≤ 63 → sem [scrD ns] = .ok (.bool true))
    (Fn : FnOkG P w K mg base (L2.CX P w) k f fd [x] (spD K mg 1 sem)) : FnOkG P w K mg base (L2.CX P w) k f fd [x] (spLawD K) :=
  Fn.imp fun vs H Q E ⟨a, ns, e, hS, hl, q⟩ => by
    subst e
    refine ⟨H, [scrD ns], fun _ _ z => z, .cons (.scr hS) .nil, rfl, ?_⟩
    rw [ht ns hl]
    intro F' H' _ v hv
    cases hv
    exact q H'
/-! ### repr of data -/
section
variable {X : Cx}
/-- what is written of data: a tuple's or list's parts are known -/
def shOk (d : D) : Bool := d.canLay0 && (d.showable && (!d.hasDict && (decide (d.depth ≤ 20) && decide (d.shown.length ≤ 100000))))
def rRepr (K : PySem.W.Frag) : List V → Hp → VK → Prop := fun xs H Q => ∃ v d, xs = [v] ∧ Dp K H v d ∧ shOk d = true ∧ Q (.str d.shown) H
theorem cr_repr (gd : X.A.guards = some []) (hu : X.A.units + 64 < cLine) : CallR X (.builtin "repr") (rRepr X.K) := by
  intro pins s σ H xs us Q I r; intro h
  obtain ⟨v, d, rfl, hd, ok, q⟩ := h
  obtain ⟨u, rfl, ru⟩ := (vals1 r)
  unfold shOk at ok
  simp only [Bool.and_eq_true, decide_eq_true_eq, Bool.not_eq_true'] at ok
  obtain ⟨o1, o2, o3, o4, o5⟩ := ok
  obtain ⟨as, rd⟩ := Dp.reads I d v u hd ru
  have hz : d.shown.length ≤ sizeLine := by rw [sizeLine_eq]; omega
  cases u with
  | ref a =>
    exact repr_of_reads' rd o2 (fun z => by rw [o3] at z; cases z) gd (by omega) (fun _ _ e => e) (fun h' t tk kp => ⟨.str d.shown, H, I.kept (h' := h') (t' := tk) kp, ⟨t, rfl⟩, q⟩) hz
  | none =>
    cases rd
    exact PySem.P.repr_of_none ⟨.str _, H, I.tok _, ⟨_, rfl⟩, q⟩
  | bool b =>
    cases rd
    exact PySem.P.repr_of_bool ⟨.str _, H, I.tok _, ⟨_, rfl⟩, q⟩
  | int i t =>
    cases rd
    exact PySem.P.repr_of_int (by simpa [PyData.showable] using o2) ⟨.str _, H, I.tok _, ⟨_, rfl⟩, q⟩
  | str x t =>
    cases rd
    exact PySem.P.repr_of_str ⟨.str _, H, I.tok _, ⟨_, rfl⟩, q⟩ hz
  | _ => cases rd
end
def bRepr : List D → Option D
  | [d] => if shOk d = true then some (.str d.shown) else none
  | _ => none
theorem rc_repr {K : PySem.W.Frag} : RdC K (rRepr K) bRepr := fun F H xs as c e hx hc Q k => by
  unfold bRepr at hc
  split at hc
  · rename_i d
    split at hc
    · rename_i ok
      cases hc
      obtain ⟨x, rfl, b⟩ := bw1 hx
      have l : d.canLay0 = true := by
        unfold shOk at ok
        rw [Bool.and_eq_true] at ok
        exact ok.1
      exact ⟨x, d, rfl, da_dp d x l (b.da e), ok, k _ _ (.refl e) _ (.str _)⟩
    · cases hc
  · cases hc
theorem bt_repr : bootBuiltins "repr" = some (.builtin "repr") := by decide +kernel
/-- == of texts -/
def oEqS : D → D → Option D
  | .str x, .str y => some (.bool (decide (x = y)))
  | _, _ => none
theorem rd_eqS {K : PySem.W.Frag} : RdO K rEq oEqS := fun F H x y a b c e hx hy hc Q k => by
  cases a <;> cases b <;> simp only [oEqS] at hc <;> try (cases hc; done)
  rename_i z1 z2
  cases hc
  rw [hx.str, hy.str]
  refine ⟨rfl, ?_⟩
  have ed : decide (V.str z1 = V.str z2) = decide (z1 = z2) := by
    rw [decide_eq_decide]
    exact ⟨fun z => by cases z; rfl, fun z => by rw [z]⟩
  rw [ed]
  exact k _ _ (.refl e) _ (.bl _)
@[simp] theorem oEqS_ss {x y : Str} : oEqS (.str x) (.str y) = some (.bool (decide (x = y))) := id rfl
theorem bRepr_ok {d : D} (h : shOk d = true) : bRepr [d] = some (.str d.shown) := by
  show (if shOk d = true then some (PyData.str d.shown) else none) = _
  rw [if_pos h]
end DL

/-! DLw -/
/-! sorted(xs), xs a list or tuple of pairs of ints -/
namespace DL
open PySem L2 PySem.Spec PyProof.Rows
def prD (p : Int × Int) : D := .tuple [.int p.1, .int p.2]
def lexLe (p q : Int × Int) : Prop := p.1 < q.1 ∨ (p.1 = q.1 ∧ p.2 ≤ q.2)
section
variable {X : Cx}
open Classical in
/-- the pair that a value is -/
noncomputable def pairOf (h : Heap) (v : Value) : Int × Int := if z : ∃ p : Int × Int, Srt.IsPair h v p.1 p.2 then z.choose else (0, 0)
theorem isPair_one {h : Heap} {v : Value} {a b c d : Int} (x : Srt.IsPair h v a b) (y : Srt.IsPair h v c d) : a = c ∧ b = d := by
  obtain ⟨p, o, t, u, n, rfl, ho, hc, hd⟩ := x
  obtain ⟨p', o', t', u', n', e, ho', hc', hd'⟩ := y
  cases e
  rw [ho] at ho'
  cases ho'
  rw [hd] at hd'
  have e := (Data.seq.inj hd').1
  have e2 : [Value.int a t, .int b u] = [.int c t', .int d u'] := congrArg Array.toList e
  cases e2
  exact ⟨rfl, rfl⟩
theorem pairOf_is {h : Heap} {v : Value} {a b : Int} (x : Srt.IsPair h v a b) : pairOf h v = (a, b) := by
  unfold pairOf
  have z : ∃ p : Int × Int, Srt.IsPair h v p.1 p.2 := ⟨(a, b), x⟩
  rw [dif_pos z]
  obtain ⟨e1, e2⟩ := isPair_one z.choose_spec x
  exact Prod.ext e1 e2
theorem isPair_of {pins : List (Addr × Obj)} {σ : L2.St} {H : Hp} {s : Shared} (I : Inv X pins σ H s) {x : V} {u : Value} {p : Int × Int} (h : Da X.K H x (prD p)) (r : RelV x u) : Srt.IsPair s.heap u p.1 p.2 ∧ ∃ t, x = .ref t ∧ u = .ref t := by
  unfold prD at h
  cases h with
  | tup h1 h2 =>
    cases h2 with
    | cons d1 d2 =>
      cases d2 with
      | cons d3 d4 =>
        cases d4
        cases d1
        cases d3
        obtain rfl : u = Value.ref _ := r
        obtain ⟨its, rv, ht, hz⟩ := I.tuple h1
        cases rv with
        | cons r1 r2 =>
          cases r2 with
          | cons r3 r4 =>
            cases r4
            obtain ⟨t1, rfl⟩ := r1
            obtain ⟨t2, rfl⟩ := r3
            obtain ⟨o, ho, hc, n, hd⟩ := (ht)
            exact ⟨⟨_, o, t1, t2, n, rfl, ho, hc, hd⟩, _, rfl, rfl⟩
theorem pairs_of {pins : List (Addr × Obj)} {σ : L2.St} {F H : Hp} {s : Shared} (I : Inv X pins σ H s) (ex : Evl.Ex F H) : ∀ {ps : List (Int × Int)} {xs : List V} {us : List Value}, DaAll X.K F xs (ps.map prD) → Vals xs us →
    (∀ u ∈ us, Srt.IsPair s.heap u (pairOf s.heap u).1 (pairOf s.heap u).2 ∧ Da X.K F (backV u) (prD (pairOf s.heap u)) ∧ RelV (backV u) u) ∧ us.map (pairOf s.heap) = ps
  | [], _, _, h, r => by
    cases h
    cases r
    exact ⟨fun u hu => absurd hu List.not_mem_nil, rfl⟩
  | p :: ps, _, _, h, r => by
    cases h with
    | cons h1 h2 =>
      cases r with
      | cons r1 r2 =>
        obtain ⟨ih1, ih2⟩ := pairs_of I ex h2 r2
        obtain ⟨ip, t, rfl, rfl⟩ := isPair_of I (h1.up ex) r1
        have pe := pairOf_is ip
        refine ⟨fun u hu => ?_, ?_⟩
        · rcases (List.mem_cons.mp hu) with e | e
          · subst e
            rw [pe]
            exact ⟨ip, h1, rfl⟩
          · exact ih1 u e
        · rw [List.map_cons, pe, ih2]
def rSortedPr (K : PySem.W.Frag) : List V → Hp → VK → Prop := fun vs H Q => ∃ (a : Addr) (xs : List V) (ps : List (Int × Int)), vs = [V.ref a] ∧ (SqL K H a xs ∨ SqT K H a xs) ∧ ∃ F, Evl.Ex F H ∧ DaAll K F xs (ps.map prD) ∧
  ∀ (ys : List V) (qs : List (Int × Int)) (p : Addr), DaAll K F ys (qs.map prD) → qs.Perm ps → qs.Pairwise lexLe → H p = none → Q (.ref p) (upd H p (.lst ys))
theorem outs_of {F : Hp} {s : Shared} {its out : List Value} (g : ∀ u ∈ its, Srt.IsPair s.heap u (pairOf s.heap u).1 (pairOf s.heap u).2 ∧ Da X.K F (backV u) (prD (pairOf s.heap u)) ∧ RelV (backV u) u) (pm : out.Perm its) :
    DaAll X.K F (out.map backV) ((out.map (pairOf s.heap)).map prD) ∧ Vals (out.map backV) out := by
  have g' : ∀ u ∈ out, Da X.K F (backV u) (prD (pairOf s.heap u)) ∧ RelV (backV u) u := fun u hu => (g u (pm.mem_iff.mp hu)).2
  clear pm
  induction out with
  | nil => exact ⟨.nil, .nil⟩
  | cons u out ih =>
    obtain ⟨a, b⟩ := ih fun v hv => g' v (by simp [hv])
    obtain ⟨c, d⟩ := g' u (by simp)
    exact ⟨.cons c a, .cons d b⟩
theorem lex_of {h : Heap} {out : List Value} (z : SrtO.Srtd (fun v u => SrtO.lexB (pairOf h v) (pairOf h u)) out) : (out.map (pairOf h)).Pairwise lexLe := by
  rw [List.pairwise_map]
  refine z.imp fun {a b} q => ?_
  have := SrtO.lexB_no.mp q
  unfold lexLe
  omega
theorem cr_sortedPr (hc : X.calm = true) : CallR X (.builtin "sorted") (rSortedPr X.K) := by
  intro pins s σ H vs us Q I r; intro h
  obtain ⟨a, xs, ps, rfl, hs, F, ex, hd, q⟩ := h
  rw [Vals.ref1 r]
  rcases hs with hs | hs
  · obtain ⟨its, rv, hl, hz⟩ := I.list hs
    obtain ⟨g, ge⟩ := pairs_of I ex hd rv
    have lz : its.length ≤ sizeLine := by rw [← rv.length]; exact hz
    refine SrtO.sorted_pairsO (k := pairOf s.heap) hl.isList lz (fun v hv => (g v hv).1) fun h' d out h1 h2 kp hsz hn => ?_
    obtain ⟨o1, o2⟩ := outs_of g h2.perm
    have ln : (out.map backV).length ≤ sizeLine := by rw [List.length_map, h2.perm.length_eq]; exact lz
    exact ⟨.ref d, upd H d (.lst (out.map backV)), I.laid (t' := s.toks) kp hsz ⟨ln, out, hn.choose, o2, hn.choose_spec⟩, rfl, q _ (out.map (pairOf s.heap)) d o1 (by rw [← ge]; exact h2.perm.map _) (lex_of h1) (I.hok.fresh hsz)⟩
  · obtain ⟨its, rv, ht, hz⟩ := I.tuple hs
    obtain ⟨g, ge⟩ := pairs_of I ex hd rv
    obtain ⟨o, ho, oc, m, od⟩ := id ht
    have vz : its.length ≤ sizeLine := by rw [← rv.length]; exact hz
    have hz1 : its.toArray.size ≤ sizeLine := by rw [List.size_toArray]; exact vz
    refine Calls.call_function_entry kind_sorted plain_sorted entry_sorted (args_sorted1 _) (?_)
    unfold Builtin.«sorted»
    refine wpAny_bind (m := checkCount "sorted" 1 1 _) (wpAny_pure (wpAny_bind (collect_tup (A := X.A.in1) ho oc od hz1 (?_))))
    refine wpAny_bind (wpAny_newList (?_) vz)
    have hL : ((gathered s.heap its.toArray).push (seqObj "list" its.toArray 0)).get? (gathered s.heap its.toArray).objs.size = some (seqObj "list" its.toArray 0) := Heap.get?_push_size _ (by rfl)
    have kp : ∀ b u, s.heap.get? b = some u → ((gathered s.heap its.toArray).push (seqObj "list" its.toArray 0)).get? b = some u := fun b u e => Heap.get?_push_of_some _ (gathered_keep (its := its.toArray) b u e)
    refine wpAny_bind (wpAny_holding (wpAny_call_entry slot_list_sort ⟨_, hL, by rfl⟩ entry_list_sort (SrtO.list_sort_ord (SrtO.swo_lex (pairOf s.heap)) hL vz (fun h2 => SrtO.pairs_sortableO (by omega) (fun v hv => (g v hv).1.keeps fun b u e _ => kp b u e) fun o' e' => by
      have e3 : some o' = some (seqObj "list" its.toArray 0) := e'.symm.trans hL
      cases e3
      exact fun z => absurd (Value.type.inj z) (by decide)) fun out h1 h2 => ⟨.none, rfl, (?_)⟩) (args_list_sort _)))
    obtain ⟨c, hcs⟩ := sortedHeap_at (vs := its) (out := out.toArray) hL
    have z1 : s.heap.objs.size ≤ (gathered s.heap its.toArray).objs.size := by rw [gathered_size]; omega
    have old : ∀ b u, s.heap.get? b = some u → (sortedHeap ((gathered s.heap its.toArray).push (seqObj "list" its.toArray 0)) (gathered s.heap its.toArray).objs.size its out.toArray).get? b = some u := fun b u e => by
      have lt := Heap.lt_size (gathered_keep (its := its.toArray) b u e)
      rw [sortedHeap_old (Nat.ne_of_lt lt) (by rw [size_push']; exact Nat.lt_succ_of_lt lt)]
      exact kp b u e
    obtain ⟨o1, o2⟩ := outs_of g h2.perm
    have ln : (out.map backV).length ≤ sizeLine := by rw [List.length_map, h2.perm.length_eq]; exact vz
    exact wpAny_pure ⟨_, rfl, .ref _, upd H (gathered s.heap its.toArray).objs.size (.lst (out.map backV)), I.laid (t' := s.toks) old z1 ⟨ln, out, c, o2, hcs⟩, rfl, q _ (out.map (pairOf s.heap)) _ o1 (by rw [← ge]; exact h2.perm.map _) (lex_of h1) (I.hok.fresh z1)⟩
end
/-! ### by data -/
def lexB (p q : Int × Int) : Bool := decide (p.1 < q.1) || (decide (p.1 = q.1) && decide (p.2 ≤ q.2))
theorem lexB_iff {p q : Int × Int} : lexB p q = true ↔ lexLe p q := by
  unfold lexB lexLe
  simp
theorem lex_total (p q : Int × Int) : lexLe p q ∨ lexLe q p := by
  unfold lexLe
  omega
theorem lex_trans {p q r : Int × Int} (a : lexLe p q) (b : lexLe q r) : lexLe p r := by
  unfold lexLe at *
  omega
theorem lex_anti {p q : Int × Int} (a : lexLe p q) (b : lexLe q p) : p = q := by
  unfold lexLe at *
  exact Prod.ext (by omega) (by omega)
def insP (p : Int × Int) : List (Int × Int) → List (Int × Int)
  | [] => [p]
  | q :: l => if lexB p q = true then p :: q :: l else q :: insP p l
def srtP : List (Int × Int) → List (Int × Int)
  | [] => []
  | p :: l => insP p (srtP l)
theorem insP_perm (p : Int × Int) : ∀ l, (insP p l).Perm (p :: l)
  | [] => List.Perm.refl _
  | q :: l => by
    unfold insP
    split
    · exact List.Perm.refl _
    · exact ((insP_perm p l).cons q).trans (List.Perm.swap p q l)
theorem srtP_perm : ∀ l, (srtP l).Perm l
  | [] => List.Perm.refl _
  | p :: l => (insP_perm p _).trans ((srtP_perm l).cons p)
theorem insP_up (p : Int × Int) : ∀ l, l.Pairwise lexLe → (insP p l).Pairwise lexLe
  | [], _ => List.pairwise_singleton _ _
  | q :: l, h => by
    obtain ⟨h1, h2⟩ := (List.pairwise_cons).mp h
    unfold insP
    split
    · rename_i c
      have c := lexB_iff.mp c
      refine List.pairwise_cons.mpr ⟨fun r hr => ?_, h⟩
      rcases (List.mem_cons.mp hr) with e | e
      · rw [e]; exact c
      · exact lex_trans c (h1 r e)
    · rename_i c
      have c : lexLe q p := (lex_total p q).resolve_left fun z => c (lexB_iff.mpr z)
      refine List.pairwise_cons.mpr ⟨fun r hr => ?_, insP_up p l h2⟩
      rcases (List.mem_cons.mp ((insP_perm p l).mem_iff.mp hr)) with e | e
      · rw [e]; exact c
      · exact h1 r e
theorem srtP_up : ∀ l, (srtP l).Pairwise lexLe
  | [] => List.Pairwise.nil
  | p :: l => insP_up p _ (srtP_up l)
theorem lex_one : ∀ {l m : List (Int × Int)}, l.Pairwise lexLe → m.Pairwise lexLe → l.Perm m → l = m
  | [], m, _, _, p => (List.nil_perm.mp p).symm
  | x :: l, [], _, _, p => absurd p.length_eq (by simp)
  | x :: l, y :: m, h, k, p => by
    obtain ⟨h1, h2⟩ := (List.pairwise_cons).mp h
    obtain ⟨k1, k2⟩ := List.pairwise_cons.mp k
    have e : x = y := by
      rcases (List.mem_cons.mp (p.mem_iff.mp List.mem_cons_self)) with a | a
      · exact a
      · rcases (List.mem_cons.mp (p.mem_iff.mpr List.mem_cons_self)) with b | b
        · exact b.symm
        · exact lex_anti (h1 y b) (k1 x a)
    subst e
    rw [lex_one h2 k2 p.cons_inv]
theorem srtP_one {l m : List (Int × Int)} (p : m.Perm l) (h : m.Pairwise lexLe) : m = srtP l := lex_one h (srtP_up l) (p.trans (srtP_perm l).symm)
def prs : List D → Option (List (Int × Int))
  | [] => some []
  | .tuple [.int a, .int b] :: r => (prs r).map fun ps => (a, b) :: ps
  | _ => none
theorem prs_some : ∀ {ds : List D} {ps : List (Int × Int)}, prs ds = some ps → ds = ps.map prD
  | [], ps, h => by
    cases h
    rfl
  | d :: ds, ps, h => by
    unfold prs at h
    split at h
    · rename_i e; cases e
    · rename_i a b r e
      cases e
      obtain ⟨qs, h1, h2⟩ := Option.map_eq_some_iff.mp h
      subst h2
      rw [List.map_cons, ← prs_some h1]
      rfl
    · cases h
theorem prs_map (ps : List (Int × Int)) : prs (ps.map prD) = some ps := by
  induction ps with
  | nil => rfl
  | cons p ps ih =>
    show (prs (ps.map prD)).map (fun qs => (p.1, p.2) :: qs) = _
    rw [ih]
    rfl
def bSortedC (as : List D) : Option D := match bSortedB as with
  | some d => some d
  | none => match as with
    | [.list xs] => (prs xs).map fun ps => .list ((srtP ps).map prD)
    | [.tuple xs] => (prs xs).map fun ps => .list ((srtP ps).map prD)
    | _ => none
section
variable {X : Cx}
theorem cr_sortedC (hc : X.calm = true) : CallR X (.builtin "sorted") (fun xs H Q => ((rSortedI X.K xs H Q ∨ rSortedDk xs H Q) ∨ rSortedTI X.K xs H Q) ∨ rSortedPr X.K xs H Q) := (cr_sortedB hc).or (cr_sortedPr hc)
theorem rc_sortedC {K : PySem.W.Frag} : RdC K (fun xs H Q => ((rSortedI K xs H Q ∨ rSortedDk xs H Q) ∨ rSortedTI K xs H Q) ∨ rSortedPr K xs H Q) bSortedC := fun F H xs as c e hx hc Q k => by
  unfold bSortedC at hc
  split at hc
  · rename_i d hd
    cases hc
    exact .inl (rc_sortedB F H xs as _ e hx hd Q k)
  · have go : ∀ (a : Addr) (vs : List V) (ps : List (Int × Int)), xs = [V.ref a] → (SqL K H a vs ∨ SqT K H a vs) → DaAll K F vs (ps.map prD) → c = .list ((srtP ps).map prD) → rSortedPr K xs H Q := fun a vs ps e1 e2 e3 e4 => by
      subst e1 e4
      refine ⟨a, vs, ps, rfl, e2, F, e, e3, fun ys qs p d pm up hz => ?_⟩
      rw [← srtP_one pm up] at k
      exact k _ _ (Grow.made e hz) _ (.lst upd_same (d.up (Evl.Ex.new (Evl.fresh_back e hz))))
    split at hc
    · obtain ⟨ps, h1, h2⟩ := Option.map_eq_some_iff.mp hc
      have := prs_some h1
      subst this
      obtain ⟨x, rfl, b⟩ := bw1 hx
      obtain ⟨p, vs, rfl, h3, h4⟩ := b.list e
      exact .inr (go p vs ps rfl (.inl (Or.inl (Or.inl h3))) h4 h2.symm)
    · obtain ⟨ps, h1, h2⟩ := Option.map_eq_some_iff.mp hc
      have := prs_some h1
      subst this
      obtain ⟨x, rfl, b⟩ := bw1 hx
      obtain ⟨p, vs, rfl, h3, h4⟩ := b.tuple e
      exact .inr (go p vs ps rfl (.inr h3) h4 h2.symm)
    · cases hc
end
@[simp] theorem bSortedC_l {ns : List Int} : bSortedC [.list (ns.map PyData.int)] = some (.list ((srt ns).map .int)) := by
  unfold bSortedC
  rw [bSortedB_l]
@[simp] theorem bSortedC_t {ns : List Int} : bSortedC [.tuple (ns.map PyData.int)] = some (.list ((srt ns).map .int)) := by
  unfold bSortedC
  rw [bSortedB_t]
theorem ints_no {p : Int × Int} {ps : List (Int × Int)} : intsD ((p :: ps).map prD) = none := rfl
theorem bSortedC_pl (ps : List (Int × Int)) : bSortedC [.list (ps.map prD)] = some (.list ((srtP ps).map prD)) := by
  cases ps with
  | nil => rfl
  | cons p ps =>
    have e : bSortedB [.list ((p :: ps).map prD)] = none := rfl
    unfold bSortedC
    rw [e]
    show (prs ((p :: ps).map prD)).map (fun ps => PyData.list ((srtP ps).map prD)) = _
    rw [prs_map] <;> rfl
theorem bSortedC_pt (ps : List (Int × Int)) : bSortedC [.tuple (ps.map prD)] = some (.list ((srtP ps).map prD)) := by
  cases ps with
  | nil => rfl
  | cons p ps =>
    have e : bSortedB [.tuple ((p :: ps).map prD)] = none := rfl
    unfold bSortedC
    rw [e]
    show (prs ((p :: ps).map prD)).map (fun ps => PyData.list ((srtP ps).map prD)) = _
    rw [prs_map] <;> rfl
end DL

/-! DLx -/
/-! min and max of a list or tuple of any alike data -/
namespace DL
open PySem L2 PySem.Spec PyProof.Rows
section
variable {prog : Program} {w : World} {A : Around} {s : Shared} {E : Value → Shared → Prop}
def BestAt (m : D) (vs : Array Value) (ds : List D) (Q : Value → Shared → Prop) (s : Shared) : Prop := ∀ (i : Nat) v h' tk, vs[i]? = some v → ds[i]? = some m → (∀ b o, s.heap.get? b = some o → h'.get? b = some o) → Q v { s with heap := h', toks := tk }
theorem ask_at {x : D} {xs : List D} {i : Nat} {m : D} {vs : Array Value} {v : Value} (hn : vs.size = xs.length + 1) (hv : vs[i]? = some v) (e : (x :: xs).getD i .none = m) : (x :: xs)[i]? = some m := by
  have lt : i < (x :: xs).length := by
    rw [List.length_cons, ← hn]
    exact (Array.getElem?_eq_some_iff.mp hv).1
  rw [List.getD_eq_getElem?_getD, List.getElem?_eq_getElem lt] at e
  rw [List.getElem?_eq_getElem lt]
  exact congrArg some e
theorem min_list_ix {l : Addr} {vs : Array Value} {x : D} {xs : List D} {as : List Addr} {Q : Value → Shared → Prop} (hh : A.handled = none) (hl : s.heap.IsList l vs) (hr : ReadsAll s.heap vs.toList (x :: xs) as) (ha : PySem.W.AlikeAll (x :: xs)) (hu : A.units + 1 + PyData.depthAll (x :: xs) < cLine)
    (h : BestAt (PySem.W.minD x xs) vs (x :: xs) Q s) : wpAny (model prog w) A (call (.builtin "min") [.ref l]) Q E s := by
  have hn : vs.size = xs.length + 1 := PySem.W.readsAll_len hr
  refine PySem.call_min_walkH (PySem.W.iter_listW (A := A.in1) hh hl fun s₂ e W st hfp hw hk => ?_)
  refine ⟨_, _, _, _, _, _, _, s.heap, _, rfl, W, st, hfp, by omega, hw, hk, PySem.W.cmpIn_lt (A := A.in1) hr ha (by show A.units + 1 + _ < _; exact hu), fun v s' hP m => ?_⟩
  obtain ⟨h', tk, rfl, hk'⟩ := PySem.W.moved_old e rfl m
  have e1 : vs.size - 1 = xs.length := by (omega)
  have e2 := (PySem.W.argBest_fold PySem.W.dataLt PyData.none x xs xs.length (Nat.le_refl _)).2
  rw [List.take_length] at e2
  rw [e1] at hP
  exact h _ v h' tk hP (ask_at hn hP e2) hk'
theorem min_tuple_ix {l : Addr} {vs : Array Value} {x : D} {xs : List D} {as : List Addr} {Q : Value → Shared → Prop} (hh : A.handled = none) (hl : s.heap.IsTuple l vs) (hr : ReadsAll s.heap vs.toList (x :: xs) as) (ha : PySem.W.AlikeAll (x :: xs)) (hu : A.units + 1 + PyData.depthAll (x :: xs) < cLine)
    (h : BestAt (PySem.W.minD x xs) vs (x :: xs) Q s) : wpAny (model prog w) A (call (.builtin "min") [.ref l]) Q E s := by
  have hn : vs.size = xs.length + 1 := PySem.W.readsAll_len hr
  refine PySem.call_min_walkH (PySem.W.iter_tupleW (A := A.in1) hh hl fun s₂ e W st hfp hw hk => ?_)
  refine ⟨_, _, _, _, _, _, _, s.heap, _, rfl, W, st, hfp, by omega, hw, hk, PySem.W.cmpIn_lt (A := A.in1) hr ha (by show A.units + 1 + _ < _; exact hu), fun v s' hP m => ?_⟩
  obtain ⟨h', tk, rfl, hk'⟩ := PySem.W.moved_old e rfl m
  have e1 : vs.size - 1 = xs.length := by (omega)
  have e2 := (PySem.W.argBest_fold PySem.W.dataLt PyData.none x xs xs.length (Nat.le_refl _)).2
  rw [List.take_length] at e2
  rw [e1] at hP
  exact h _ v h' tk hP (ask_at hn hP e2) hk'
theorem max_list_ix {l : Addr} {vs : Array Value} {x : D} {xs : List D} {as : List Addr} {Q : Value → Shared → Prop} (hh : A.handled = none) (hl : s.heap.IsList l vs) (hr : ReadsAll s.heap vs.toList (x :: xs) as) (ha : PySem.W.AlikeAll (x :: xs)) (hu : A.units + 1 + PyData.depthAll (x :: xs) < cLine)
    (h : BestAt (PySem.W.maxD x xs) vs (x :: xs) Q s) : wpAny (model prog w) A (call (.builtin "max") [.ref l]) Q E s := by
  have hn : vs.size = xs.length + 1 := PySem.W.readsAll_len hr
  refine PySem.call_max_walkH (PySem.W.iter_listW (A := A.in1) hh hl fun s₂ e W st hfp hw hk => ?_)
  refine ⟨_, _, _, _, _, _, _, s.heap, _, rfl, W, st, hfp, by omega, hw, hk, PySem.W.cmpIn_gt (A := A.in1) hr ha (by show A.units + 1 + _ < _; exact hu), fun v s' hP m => ?_⟩
  obtain ⟨h', tk, rfl, hk'⟩ := PySem.W.moved_old e rfl m
  have e1 : vs.size - 1 = xs.length := by (omega)
  have e2 := (PySem.W.argBest_fold (fun a b => PySem.W.dataLt b a) PyData.none x xs xs.length (Nat.le_refl _)).2
  rw [List.take_length] at e2
  rw [e1] at hP
  exact h _ v h' tk hP (ask_at hn hP e2) hk'
theorem max_tuple_ix {l : Addr} {vs : Array Value} {x : D} {xs : List D} {as : List Addr} {Q : Value → Shared → Prop} (hh : A.handled = none) (hl : s.heap.IsTuple l vs) (hr : ReadsAll s.heap vs.toList (x :: xs) as) (ha : PySem.W.AlikeAll (x :: xs)) (hu : A.units + 1 + PyData.depthAll (x :: xs) < cLine)
    (h : BestAt (PySem.W.maxD x xs) vs (x :: xs) Q s) : wpAny (model prog w) A (call (.builtin "max") [.ref l]) Q E s := by
  have hn : vs.size = xs.length + 1 := PySem.W.readsAll_len hr
  refine PySem.call_max_walkH (PySem.W.iter_tupleW (A := A.in1) hh hl fun s₂ e W st hfp hw hk => ?_)
  refine ⟨_, _, _, _, _, _, _, s.heap, _, rfl, W, st, hfp, by omega, hw, hk, PySem.W.cmpIn_gt (A := A.in1) hr ha (by show A.units + 1 + _ < _; exact hu), fun v s' hP m => ?_⟩
  obtain ⟨h', tk, rfl, hk'⟩ := PySem.W.moved_old e rfl m
  have e1 : vs.size - 1 = xs.length := by (omega)
  have e2 := (PySem.W.argBest_fold (fun a b => PySem.W.dataLt b a) PyData.none x xs xs.length (Nat.le_refl _)).2
  rw [List.take_length] at e2
  rw [e1] at hP
  exact h _ v h' tk hP (ask_at hn hP e2) hk'
end
/-! by data -/
def aliB (ds : List D) : Bool := (ds.all fun x => (ds.all fun y => PySem.W.alike x y) && !isNone x) && PyData.canLayAll0 ds && decide (PyData.depthAll ds ≤ 60)
theorem aliB_ok {ds : List D} (h : aliB ds = true) : PySem.W.AlikeAll ds ∧ PyData.canLayAll0 ds = true ∧ PyData.depthAll ds ≤ 60 := by
  unfold aliB at h
  simp only [Bool.and_eq_true, decide_eq_true_eq, List.all_eq_true] at h
  obtain ⟨⟨h1, h2⟩, h3⟩ := h
  refine ⟨⟨fun x hx y hy => (h1 x hx).1 y hy, fun x hx e => ?_⟩, h2, h3⟩
  have := (h1 x hx).2
  subst e
  cases this
def minX (ds : List D) : Option D := match ds with
  | d :: ds => if aliB (d :: ds) = true then some (PySem.W.minD d ds) else none
  | [] => none
def maxX (ds : List D) : Option D := match ds with
  | d :: ds => if aliB (d :: ds) = true then some (PySem.W.maxD d ds) else none
  | [] => none
def bMinX : List D → Option D
  | [.list ds] => minX ds
  | [.tuple ds] => minX ds
  | _ => none
def bMaxX : List D → Option D
  | [.list ds] => maxX ds
  | [.tuple ds] => maxX ds
  | _ => none
section
variable {X : Cx}
def rBest (K : PySem.W.Frag) (f : D → List D → D) : List V → Hp → VK → Prop := fun vs H Q => ∃ (a : Addr) (xs : List V) (d : D) (ds : List D), vs = [V.ref a] ∧ (SqL K H a xs ∨ SqT K H a xs) ∧ aliB (d :: ds) = true ∧ DpAll K H xs (d :: ds) ∧
  ∀ (i : Nat) x, xs[i]? = some x → (d :: ds)[i]? = some (f d ds) → Q x H
theorem vals_ix {xs : List V} {us : List Value} (r : Vals xs us) {i : Nat} {u : Value} (h : us[i]? = some u) : ∃ x, xs[i]? = some x ∧ RelV x u := by
  induction r generalizing i with
  | nil => cases h
  | cons r1 r2 ih =>
    cases i with
    | zero =>
      cases h
      exact ⟨_, rfl, r1⟩
    | succ i => exact ih (by simpa using h)
theorem cr_minX (hc : X.calm = true) (hu : X.A.units + 64 < cLine) : CallR X (.builtin "min") (rBest X.K PySem.W.minD) := by
  intro pins s σ H vs us Q I r; intro h
  obtain ⟨a, xs, d, ds, rfl, hs, ha, hd, q⟩ := h
  obtain ⟨h1, h2, h3⟩ := aliB_ok ha
  rw [Vals.ref1 r]
  have fin : ∀ its : List Value, Vals xs its → BestAt (PySem.W.minD d ds) its.toArray (d :: ds) (EP X pins σ Q) s := fun its rv i v h' tk hv hm hk => by
    obtain ⟨x, hx, rx⟩ := vals_ix rv (i := i) (u := v) (by simpa using hv)
    exact ⟨x, H, I.kept hk, rx, q i x hx hm⟩
  rcases hs with hs | hs
  · obtain ⟨its, rv, hl, _⟩ := I.list hs
    obtain ⟨as, rd⟩ := Dp.readsAll I _ _ its hd rv
    exact min_list_ix (I.ok.hd hc) hl.isList rd h1 (by omega) (fin its rv)
  · obtain ⟨its, rv, hl, _⟩ := I.tuple hs
    obtain ⟨as, rd⟩ := Dp.readsAll I _ _ its hd rv
    exact min_tuple_ix (I.ok.hd hc) (show s.heap.IsTuple a its.toArray from hl) rd h1 (by omega) (fin its rv)
theorem cr_maxX (hc : X.calm = true) (hu : X.A.units + 64 < cLine) : CallR X (.builtin "max") (rBest X.K PySem.W.maxD) := by
  intro pins s σ H vs us Q I r; intro h
  obtain ⟨a, xs, d, ds, rfl, hs, ha, hd, q⟩ := h
  obtain ⟨h1, h2, h3⟩ := aliB_ok ha
  rw [Vals.ref1 r]
  have fin : ∀ its : List Value, Vals xs its → BestAt (PySem.W.maxD d ds) its.toArray (d :: ds) (EP X pins σ Q) s := fun its rv i v h' tk hv hm hk => by
    obtain ⟨x, hx, rx⟩ := vals_ix rv (i := i) (u := v) (by simpa using hv)
    exact ⟨x, H, I.kept hk, rx, q i x hx hm⟩
  rcases hs with hs | hs
  · obtain ⟨its, rv, hl, _⟩ := I.list hs
    obtain ⟨as, rd⟩ := Dp.readsAll I _ _ its hd rv
    exact max_list_ix (I.ok.hd hc) hl.isList rd h1 (by omega) (fin its rv)
  · obtain ⟨its, rv, hl, _⟩ := I.tuple hs
    obtain ⟨as, rd⟩ := Dp.readsAll I _ _ its hd rv
    exact max_tuple_ix (I.ok.hd hc) (show s.heap.IsTuple a its.toArray from hl) rd h1 (by omega) (fin its rv)
theorem best_rd {K : PySem.W.Frag} {F H : Hp} {x : V} {a : D} {d : D} {ds : List D} {f : D → List D → D} {Q : VK} (e : Evl.Ex F H) (hx : Bw K F H x a) (ha : a = .list (d :: ds) ∨ a = .tuple (d :: ds)) (al : aliB (d :: ds) = true)
    (k : ∀ F' H', Grow F H F' H' → ∀ v, Da K F' v (f d ds) → Q v H') : rBest K f [x] H Q := by
  obtain ⟨h1, h2, h3⟩ := aliB_ok al
  have fin : ∀ vs, DaAll K F vs (d :: ds) → ∀ (i : Nat) y, vs[i]? = some y → (d :: ds)[i]? = some (f d ds) → Q y H := fun vs hv i y hy hm => by
    obtain ⟨z, e1, e2⟩ := dpa_get hv hm
    have : z = y := by
      rw [hy] at e1
      exact (Option.some.inj e1).symm
    subst this
    exact k F H (.refl e) _ e2
  rcases ha with rfl | rfl
  · obtain ⟨p, vs, rfl, h5, h6⟩ := hx.list e
    exact ⟨p, vs, d, ds, rfl, .inl (Or.inl (Or.inl h5)), al, da_dpa _ _ h2 (h6.up e), fin vs h6⟩
  · obtain ⟨p, vs, rfl, h5, h6⟩ := hx.tuple e
    exact ⟨p, vs, d, ds, rfl, .inr h5, al, da_dpa _ _ h2 (h6.up e), fin vs h6⟩
theorem rc_minX {K : PySem.W.Frag} : RdC K (rBest K PySem.W.minD) bMinX := fun F H xs as c e hx hc Q k => by
  unfold bMinX at hc
  split at hc <;> try (cases hc; done)
  all_goals
    rename_i l
    unfold minX at hc
    split at hc <;> try (cases hc; done)
    split at hc <;> try (cases hc; done)
    rename_i d ds al
    cases hc
    obtain ⟨x, rfl, b⟩ := bw1 hx
    first | exact best_rd e b (.inl rfl) al k | exact best_rd e b (.inr rfl) al k
theorem rc_maxX {K : PySem.W.Frag} : RdC K (rBest K PySem.W.maxD) bMaxX := fun F H xs as c e hx hc Q k => by
  unfold bMaxX at hc
  split at hc <;> try (cases hc; done)
  all_goals
    rename_i l
    unfold maxX at hc
    split at hc <;> try (cases hc; done)
    split at hc <;> try (cases hc; done)
    rename_i d ds al
    cases hc
    obtain ⟨x, rfl, b⟩ := bw1 hx
    first | exact best_rd e b (.inl rfl) al k | exact best_rd e b (.inr rfl) al k
end
def bMinC (as : List D) : Option D := match bMin1 as with
  | some d => some d
  | none => bMinX as
def bMaxC (as : List D) : Option D := match bMax1 as with
  | some d => some d
  | none => bMaxX as
section
variable {X : Cx} {K : PySem.W.Frag}
theorem cr_minC (hc : X.calm = true) (hu : X.A.units + 64 < cLine) : CallR X (.builtin "min") (fun xs H Q => rMin X.K xs H Q ∨ rBest X.K PySem.W.minD xs H Q) := (cr_min hc).or (cr_minX hc hu)
theorem cr_maxC (hc : X.calm = true) (hu : X.A.units + 64 < cLine) : CallR X (.builtin "max") (fun xs H Q => rMax X.K xs H Q ∨ rBest X.K PySem.W.maxD xs H Q) := (cr_max hc).or (cr_maxX hc hu)
theorem rc_minC : RdC K (fun xs H Q => rMin K xs H Q ∨ rBest K PySem.W.minD xs H Q) bMinC := fun F H xs as c e hx hc Q k => by
  unfold bMinC at hc
  split at hc
  · rename_i d hd
    cases hc
    exact .inl (rc_min1 F H xs as _ e hx hd Q k)
  · exact .inr (rc_minX F H xs as _ e hx hc Q k)
theorem rc_maxC : RdC K (fun xs H Q => rMax K xs H Q ∨ rBest K PySem.W.maxD xs H Q) bMaxC := fun F H xs as c e hx hc Q k => by
  unfold bMaxC at hc
  split at hc
  · rename_i d hd
    cases hc
    exact .inl (rc_max1 F H xs as _ e hx hd Q k)
  · exact .inr (rc_maxX F H xs as _ e hx hc Q k)
end
/-! the least pair -/
def lowP : Int × Int → List (Int × Int) → Int × Int
  | p, [] => p
  | p, q :: l => lowP (if lexB p q = true then p else q) l
theorem lowP_spec : ∀ (l : List (Int × Int)) (p : Int × Int), lowP p l ∈ p :: l ∧ ∀ q ∈ p :: l, lexLe (lowP p l) q
  | [], p => ⟨List.mem_cons_self, fun q hq => by
    rcases (List.mem_cons.mp hq) with e | e
    · subst e
      unfold lowP lexLe
      omega
    · cases e⟩
  | r :: l, p => by
    obtain ⟨a, b⟩ := lowP_spec l (if lexB p r = true then p else r)
    unfold lowP
    have b0 := b _ List.mem_cons_self
    refine ⟨?_, fun q hq => ?_⟩
    · rcases List.mem_cons.mp a with e | e
      · rw [e]
        split <;> simp
      · simp [e]
    · have c : lexLe (if lexB p r = true then p else r) p ∧ lexLe (if lexB p r = true then p else r) r := by
        split
        · rename_i h
          exact ⟨(lex_total p p).elim id id, lexB_iff.mp h⟩
        · rename_i h
          exact ⟨(lex_total p r).resolve_left fun z => h (lexB_iff.mpr z), (lex_total r r).elim id id⟩
      rcases List.mem_cons.mp hq with e | hq
      · subst e
        exact lex_trans b0 c.1
      · rcases List.mem_cons.mp hq with e | hq
        · subst e
          exact lex_trans b0 c.2
        · exact b q (.tail _ hq)
theorem dataLt_pr (p q : Int × Int) : PySem.W.dataLt (prD p) (prD q) = !lexB q p := by
  unfold prD
  rw [PySem.W.dataLt_ii]
  unfold lexB
  by_cases h : p.1 < q.1 ∨ (p.1 = q.1 ∧ p.2 < q.2)
  · rw [decide_eq_true h]
    have h1 : ¬ q.1 < p.1 := by omega
    have h2 : ¬ (q.1 = p.1 ∧ q.2 ≤ p.2) := by omega
    simp [h1]
    omega
  · rw [decide_eq_false h]
    simp
    omega
theorem minD_pr : ∀ (ps : List (Int × Int)) (p : Int × Int), PySem.W.minD (prD p) (ps.map prD) = prD (lowP p ps)
  | [], p => rfl
  | q :: ps, p => by
    have e : PySem.W.minD (prD p) ((q :: ps).map prD) = PySem.W.minD (if PySem.W.dataLt (prD q) (prD p) = true then prD q else prD p) (ps.map prD) := rfl
    rw [e, dataLt_pr]
    unfold lowP
    cases lexB p q with
    | true => exact minD_pr ps p
    | false => exact minD_pr ps q
theorem ali_prs (ps : List (Int × Int)) : aliB (ps.map prD) = true := by
  have a : (ps.map prD).all (fun x => ((ps.map prD).all fun y => PySem.W.alike x y) && !isNone x) = true := by
    rw [List.all_eq_true]
    intro x hx
    obtain ⟨p, _, rfl⟩ := List.mem_map.mp hx
    rw [Bool.and_eq_true]
    refine ⟨?_, rfl⟩
    rw [List.all_eq_true]
    intro y hy
    obtain ⟨q, _, rfl⟩ := List.mem_map.mp hy
    simp [prD, PySem.W.alike, PySem.W.alikeAll]
  have b : ∀ l : List (Int × Int), PyData.canLayAll0 (l.map prD) = true := fun l => by
    induction l with
    | nil => rfl
    | cons p l ih =>
      rw [List.map_cons, PyData.canLayAll0, ih]
      rfl
  have c : ∀ l : List (Int × Int), PyData.depthAll (l.map prD) ≤ 60 := fun l => by
    induction l with
    | nil => simp [PyData.depthAll]
    | cons p l ih =>
      (rw [List.map_cons, PyData.depthAll])
      have : (prD p).depth ≤ 60 := by simp [prD, PyData.depth, PyData.depthAll]
      omega
  unfold aliB
  rw [a, b, decide_eq_true (c ps)]
  rfl
theorem bMinC_p (p : Int × Int) (ps : List (Int × Int)) : bMinC [.list (prD p :: ps.map prD)] = some (prD (lowP p ps)) := by
  have e : bMin1 [.list (prD p :: ps.map prD)] = none := rfl
  unfold bMinC
  rw [e]
  show minX (prD p :: ps.map prD) = _
  have a : aliB (prD p :: ps.map prD) = true := ali_prs (p :: ps)
  show (if aliB (prD p :: ps.map prD) = true then some (PySem.W.minD (prD p) (ps.map prD)) else none) = _
  rw [if_pos a, minD_pr]
@[simp] theorem bMinC_i {n : Int} {ns : List Int} : bMinC [.list (.int n :: ns.map PyData.int)] = some (.int (low n ns)) := by
  unfold bMinC
  simp [bMin1, intsD, intsD_map]
@[simp] theorem bMaxC_i {n : Int} {ns : List Int} : bMaxC [.list (.int n :: ns.map PyData.int)] = some (.int (top n ns)) := by
  unfold bMaxC
  simp [bMax1, intsD, intsD_map]
end DL

/-! DLy -/
/-! a, b, .. = e1, e2, .. where own lists and dicts are among them; list(range), tuple(range) -/
namespace DL
open PySem L2 PySem.Spec PyProof.Rows
open Evl (Ex ex_l ex_t ex_rd)
def setAll {α : Type} : List α → List Nat → List α → List α
  | ρ, i :: is, a :: as => setAll (ρ.set i a) is as
  | ρ, _, _ => ρ
structure NewVs (K : PySem.W.Frag) (F H F' H' : Hp) (svs : List SV) (vs : List V) : Prop where
  len : vs.length = svs.length
  rep : ∀ (F0 H0 : Hp) (ρ : Env) (σ : L2.St), Rep K F0 H0 F H ρ σ → ∀ is : List Nat, is.length = svs.length → Rep K F0 H0 F' H' (setAll ρ is svs) (setAll σ is (vs.map some))
def tXs (K : PySem.W.Frag) (mg : Str → Option Value) (W : WX) (q : Env → R (List SV)) : TA := fun σ H Q => ∃ F0 H0 F ρ, Rep K F0 H0 F H ρ σ ∧ ROk K mg (fun c d H' => W c d σ H') F H (fun svs F' H' => ∀ vs, NewVs K F H F' H' svs vs → Q vs H') (q ρ)
structure DXs (X : Cx) (W : WX) (es : List Expr) (q : Env → R (List SV)) : Prop where
  pa : PA X es (tXs X.K X.mg W q)
def xNil : Env → R (List SV) := fun _ => .ok []
def xCons (f : Env → R SV) (q : Env → R (List SV)) : Env → R (List SV) := fun ρ => (f ρ).bind fun x => (q ρ).bind fun xs => .ok (x :: xs)
section
variable {X : Cx} {W : WX} {e e1 e2 e3 : Expr} {es : List Expr} {pos : Pos} {f : Env → R SV} {q : Env → R (List SV)}
theorem newVs_nil {K : PySem.W.Frag} {F H F' H' : Hp} (g : Grow F H F' H') : NewVs K F H F' H' [] [] := ⟨rfl, fun F0 H0 ρ σ r is hl => by
  cases is with
  | nil => exact r.grow g
  | cons i is => cases hl⟩
theorem dxs_nil : DXs X W [] xNil := ⟨pa_imp pa_nil fun σ H Q ⟨F0, H0, F, ρ, r, k⟩ => k F H (.refl r.g.in_) [] (newVs_nil (.refl r.g.in_))⟩
theorem dxs_cons (ha : DX X W e f) (hr : DXs X W es q) (hs : starEach (e :: es) X.env = (false, eval e X.env) :: starEach es X.env := by rfl) : DXs X W (e :: es) (xCons f q) :=
  ⟨pa_imp (pa_cons ha.pe hr.pa hs) fun σ H Q ⟨F0, H0, F, ρ, r, k⟩ => ⟨F0, H0, F, ρ, r, (ROk.step (r := f ρ) k).imp fun a F1 H1 _ g1 q1 v hv =>
    ⟨F0, H0, F1, ρ, r.grow g1, (ROk.step (r := q ρ) q1).imp fun as F2 H2 _ g2 q2 vs hvs => by
      refine q2 F2 H2 (.refl g2.in_) (v :: vs) ⟨by simp [hvs.len], fun F0' H0' ρ' σ' r' is hl => ?_⟩
      cases is with
      | nil => cases hl
      | cons i is => exact hvs.rep _ _ _ _ (r'.setSV g1 hv i) is (by simpa using hl)⟩⟩⟩
def sParN (is : List Nat) (q : Env → R (List SV)) : Env → Out := fun ρ => exB ρ (q ρ) fun svs => if svs.length = is.length ∧ svs.length ≤ 100000 then .nx (setAll ρ is svs) else .bad
/-- three plain locals -/
theorem ds_par3X {i j l : Nat} {x y z : Str} {px py pz pt : Pos} {kt k2 pt2} (hc : X.calm = true) (hN : X.N.Nodup) (hi : X.N[i]? = some x) (hj : X.N[j]? = some y) (hl : X.N[l]? = some z) (hij : i ≠ j) (hil : i ≠ l) (hjl : j ≠ l)
    (hx : X.env.scope.names.lookup x = some .local) (hy : X.env.scope.names.lookup y = some .local) (hz : X.env.scope.names.lookup z = some .local) (ha : DXs X W [e1, e2, e3] q)
    (hw : swappedStores [.Tuple [.Name x px, .Name y py, .Name z pz] kt pt] (.Tuple [e1, e2, e3] k2 pt2) X.env = pure (some [x, y, z]))
    (hs : swapsWithSole [.Tuple [.Name x px, .Name y py, .Name z pz] kt pt] (.Tuple [e1, e2, e3] k2 pt2) pos.line X.env = pure false := by rfl) :
    DS X W (.Assign [.Tuple [.Name x px, .Name y py, .Name z pz] kt pt] (.Tuple [e1, e2, e3] k2 pt2) pos) (sParN [i, j, l] q) :=
  ⟨ps_imp (ps_par3 hc hN hi hj hl hij hil hjl hx hy hz ha.pa hw hs) fun Z σ H ⟨F0, H0, F, ρ, r, k⟩ => ⟨F0, H0, F, ρ, r, exB_ok r k fun svs F1 H1 g1 q1 vs hv => by
    split at q1
    · rename_i c
      have ln := hv.len.trans c.1
      match vs, ln, hv with
      | [a, b, d], _, hv => exact ⟨a, b, d, rfl, q1 F1 H1 _ (.refl F1) (hv.rep _ _ _ _ r [i, j, l] c.1.symm)⟩
    · exact q1.elim⟩⟩
/-- names, set one by one -/
def tNs (is : List Nat) : TGs := fun vs σ H Q => vs.length = is.length ∧ Q (setAll σ is (vs.map some)) H
structure DNs (X : Cx) (is : List Nat) (tgs : List Expr) : Prop where
  pgs : PGs X tgs (tNs is)
theorem dns_nil : DNs X [] [] := ⟨pgs_imp pgs_nil fun vs σ H Q ⟨h, k⟩ => by
  cases vs with
  | nil => exact ⟨rfl, k⟩
  | cons => cases h⟩
theorem dns_cons {i : Nat} {is : List Nat} {x : Str} {p : Pos} {tgs : List Expr} (hN : X.N.Nodup) (hi : X.N[i]? = some x) (hx : Loc X.env.scope x) (h2 : DNs X is tgs)
    (hf : X.fn x = true ∨ X.env.scope.names.lookup x = some .local := by first | exact .inl rfl | exact .inr rfl | assumption)
    (hs : (assignEach (.Name x p :: tgs) X.env).map (·.2) = assign (.Name x p) X.env :: (assignEach tgs X.env).map (·.2) := by rfl) : DNs X (i :: is) (.Name x p :: tgs) :=
  ⟨pgs_imp (pgs_cons (pg_name hN hi hx hf) h2.pgs hs) fun vs σ H Q ⟨h, k⟩ => by
    cases vs with
    | nil => cases h
    | cons v vs => exact ⟨v, vs, rfl, by simpa using h, k⟩⟩
theorem ds_parT {is : List Nat} {n k2 kt : Nat} {tgs : List Expr} {pt pt2 : Pos} (hc : X.calm = true) (hg : DNs X is tgs) (ha : DXs X W es q) (hl : is.length = n) (hn : (assignEach tgs X.env).length = n := by rfl) (hst : (assignEach tgs X.env).findIdx? (·.1) = none := by rfl)
    (hs : swapsWithSole [.Tuple tgs kt pt] (.Tuple es k2 pt2) pos.line X.env = pure false := by rfl) (hw : swappedStores [.Tuple tgs kt pt] (.Tuple es k2 pt2) X.env = pure none := by rfl)
    (h1 : (assignEach [.Tuple tgs kt pt] X.env).map (·.2) = [assign (.Tuple tgs kt pt) X.env] := by rfl) : DS X W (.Assign [.Tuple tgs kt pt] (.Tuple es k2 pt2) pos) (sParN is q) :=
  ⟨ps_imp (ps_asg (pe_tup ha.pa) (pg_tup hc hg.pgs hn hst) hs hw h1) fun Z σ H ⟨F0, H0, F, ρ, r, k⟩ => ⟨F0, H0, F, ρ, r, exB_ok r k fun svs F1 H1 g1 q1 vs hv => by
    split at q1
    · rename_i c
      refine ⟨Evl.sz_of (by rw [hv.len]; omega), fun p hp => ⟨p, vs, rfl, Or.inl (Or.inl upd_same), hv.len.trans (c.1.trans hl), hv.len.trans c.1, ?_⟩⟩
      have rr := hv.rep _ _ _ _ r is c.1.symm
      exact q1 F1 _ _ (.refl F1) (rr.grow (Grow.held g1.in_ hp))
    · exact q1.elim⟩⟩
end
/-! ### list(range(..)), tuple(range(..)) -/
section
variable {X : Cx} {W : WX} {e e1 e2 : Expr} {pos p p2 pos2 : Pos} {f g : Env → R D}
theorem rgV_da {K : PySem.W.Frag} {F : Hp} (a b : Int) : DaAll K F (rgV a b) (rangeD a (b - a).toNat) := by
  unfold rgV rangeD
  generalize (b - a).toNat = n
  generalize hl : List.range n = l
  clear hl
  induction l with
  | nil => exact .nil
  | cons i l ih => exact .cons (.int _) ih
def rg2 (a b : D) : Option (List D) := range2D [a, b]
theorem rg2_some {a b : D} {ds : List D} (h : rg2 a b = some ds) : ∃ i j, a = .int i ∧ b = .int j ∧ (-1000000 < i ∧ i < 1000000 ∧ -1000000 < j ∧ j < 1000000) ∧ ds = rangeD i (j - i).toNat := by
  unfold rg2 range2D at h
  split at h
  · split at h
    · rename_i x y hxy c
      cases hxy
      cases h
      exact ⟨_, _, rfl, rfl, c, rfl⟩
    · cases h
  · cases h
def cRg (f g : Env → R D) : Env → R (List D) := fun ρ => (f ρ).bind fun a => (g ρ).bind fun b => ofO (rg2 a b)
def cTrg (f g : Env → R D) : Env → R D := fun ρ => (cRg f g ρ).bind fun ds => .ok (.tuple ds)
theorem rgOk_of {a b : Int} (c : -1000000 < a ∧ a < 1000000 ∧ -1000000 < b ∧ b < 1000000) : RgOk a b := ⟨by omega, by omega, by omega, by omega, by omega⟩
theorem dn_rg2 (hc : X.calm = true) (hg1 : Gl X "list") (hm1 : X.mg "list" = none) (hg : Gl X "range") (hm : X.mg "range" = none) (ha : DE X W e1 f) (hb : DE X W e2 g) (na : starEach [e1, e2] X.env = (false, eval e1 X.env) :: starEach [e2] X.env := by rfl)
    (nb : starEach [e2] X.env = (false, eval e2 X.env) :: starEach [] X.env := by rfl) (hp : (backTo pos2 (starEach [e2] X.env)).any (·.1) = false := by rfl)
    (nc : starEach [.Call (.Name "range" p2) [e1, e2] [] pos2] X.env = (false, eval (.Call (.Name "range" p2) [e1, e2] [] pos2) X.env) :: starEach [] X.env := by rfl) :
    DN X W (.Call (.Name "list" p) [.Call (.Name "range" p2) [e1, e2] [] pos2] [] pos) (cRg f g) :=
  ⟨pe_imp (pe_listRg hc hg1 hm1 (prg_2 hg hm ha.pe hb.pe na nb hp) nc) fun σ H Q ⟨F0, H0, F, ρ, r, k⟩ => ⟨F0, H0, F, ρ, r, (ROk.step (r := f ρ) k).imp fun a F1 H1 _ g1 q1 x hx => ⟨F0, H0, F1, ρ, r.grow g1, (ROk.step (r := g ρ) q1).imp fun b F2 H2 _ g2 q2 y hy => by
    obtain ⟨ds, h1, h2⟩ := q2.ofO
    obtain ⟨i, j, rfl, rfl, c, rfl⟩ := rg2_some h1
    cases hx
    cases hy
    refine ⟨i, j, rfl, rfl, rgOk_of c, fun z hz => ?_⟩
    exact h2 F2 _ (Grow.held g2.in_ hz) z _ (Evl.fresh_back (g1.trans g2).h hz) (Evl.fresh_back g2.in_ hz) upd_same (rgV_da i j)⟩⟩⟩
theorem dn_rg1 (hc : X.calm = true) (hg1 : Gl X "list") (hm1 : X.mg "list" = none) (hg : Gl X "range") (hm : X.mg "range" = none) (ha : DE X W e1 f) (na : starEach [e1] X.env = (false, eval e1 X.env) :: starEach [] X.env := by rfl)
    (nc : starEach [.Call (.Name "range" p2) [e1] [] pos2] X.env = (false, eval (.Call (.Name "range" p2) [e1] [] pos2) X.env) :: starEach [] X.env := by rfl) :
    DN X W (.Call (.Name "list" p) [.Call (.Name "range" p2) [e1] [] pos2] [] pos) (cRg (cC (.int 0)) f) :=
  ⟨pe_imp (pe_listRg hc hg1 hm1 (prg_1 hg hm ha.pe na) nc) fun σ H Q ⟨F0, H0, F, ρ, r, k⟩ => ⟨F0, H0, F, ρ, r, (ROk.step (r := f ρ) k).imp fun a F1 H1 _ g1 q1 x hx => by
    obtain ⟨ds, h1, h2⟩ := q1.ofO
    obtain ⟨i, j, hi, rfl, c, rfl⟩ := rg2_some h1
    cases hi
    cases hx
    refine ⟨j, rfl, rgOk_of c, fun z hz => ?_⟩
    exact h2 F1 _ (Grow.held g1.in_ hz) z _ (Evl.fresh_back g1.h hz) (Evl.fresh_back g1.in_ hz) upd_same (rgV_da 0 j)⟩⟩
theorem de_trg2 (hc : X.calm = true) (hg1 : Gl X "tuple") (hm1 : X.mg "tuple" = none) (hg : Gl X "range") (hm : X.mg "range" = none) (ha : DE X W e1 f) (hb : DE X W e2 g) (na : starEach [e1, e2] X.env = (false, eval e1 X.env) :: starEach [e2] X.env := by rfl)
    (nb : starEach [e2] X.env = (false, eval e2 X.env) :: starEach [] X.env := by rfl) (hp : (backTo pos2 (starEach [e2] X.env)).any (·.1) = false := by rfl)
    (nc : starEach [.Call (.Name "range" p2) [e1, e2] [] pos2] X.env = (false, eval (.Call (.Name "range" p2) [e1, e2] [] pos2) X.env) :: starEach [] X.env := by rfl) :
    DE X W (.Call (.Name "tuple" p) [.Call (.Name "range" p2) [e1, e2] [] pos2] [] pos) (cTrg f g) :=
  ⟨pe_imp (pe_tupRg hc hg1 hm1 (prg_2 hg hm ha.pe hb.pe na nb hp) nc) fun σ H Q ⟨F0, H0, F, ρ, r, k⟩ => by
    have k' : ROk X.K X.mg (fun c d H' => W c d σ H') F H (fun a F' H' => ∀ v, Da X.K F' v a → Q v H') ((f ρ).bind fun a => (g ρ).bind fun b => (ofO (rg2 a b)).bind fun ds => .ok (.tuple ds)) := by
      have : cTrg f g ρ = (f ρ).bind fun a => (g ρ).bind fun b => (ofO (rg2 a b)).bind fun ds => .ok (.tuple ds) := by
        show ((f ρ).bind fun a => (g ρ).bind fun b => ofO (rg2 a b)).bind _ = _
        cases f ρ with
        | ok a =>
          show ((g ρ).bind fun b => ofO (rg2 a b)).bind _ = (g ρ).bind _
          cases g ρ <;> rfl
        | _ => rfl
      rw [← this]
      exact k
    exact ⟨F0, H0, F, ρ, r, (ROk.step (r := f ρ) k').imp fun a F1 H1 _ g1 q1 x hx => ⟨F0, H0, F1, ρ, r.grow g1, (ROk.step (r := g ρ) q1).imp fun b F2 H2 _ g2 q2 y hy => by
      cases h1 : rg2 a b with
      | none => rw [h1] at q2; exact q2.elim
      | some ds =>
        rw [h1] at q2
        obtain ⟨i, j, rfl, rfl, c, rfl⟩ := rg2_some h1
        cases hx
        cases hy
        refine ⟨i, j, rfl, rfl, rgOk_of c, fun z hz => ?_⟩
        exact q2 _ _ (Grow.made g2.in_ hz) (.ref z) (.tup (Or.inl (Or.inl upd_same)) (rgV_da i j))⟩⟩⟩
end
end DL

/-! DLz -/
/-! math.gcd, math.lcm; join and split of texts -/
namespace DL
open PySem L2 PySem.Spec PyProof.Rows
open Evl (Ex ex_l ex_t ex_rd)
section
variable {X : Cx} {W : WX} {e e1 e2 o : Expr} {es : List Expr} {pos : Pos} {f g : Env → R D}
/-- a built-in function by a name of the module -/
theorem de_callM {id : String} {x : Str} {p : Pos} {r : List V → Hp → VK → Prop} {o : List D → Option D} {q : Env → R (List D)} (hr : RdC X.K r o) (hc : CallR X (.builtin id) r) (hg : Gl X x) (hm : X.mg x = some (.builtin id)) (ha : DAB X W (e :: es) q) (hdb : (x == ("__debug__" : Str)) = false := by decide) (he : starEach (e :: es) X.env = (false, eval e X.env) :: starEach es X.env := by rfl) (hpl : (backTo pos (starEach es X.env)).any (·.1) = false := by rfl) :
    DE X W (.Call (.Name x p) (e :: es) [] pos) (cBt o q) :=
  ⟨pe_imp (pe_callBfun hc hg hm ha.pa hdb he hpl) fun σ H Q ⟨F0, H0, F, ρ, rp, k⟩ => ⟨F0, H0, F, ρ, rp, (ROk.step (r := q ρ) k).imp fun as F1 H1 _ g1 q1 vs hvs => by
    obtain ⟨c, e, z⟩ := q1.ofO
    exact hr F1 H1 vs as c g1.in_ hvs e Q fun F2 H2 g2 v hv => z F2 H2 g2 v hv⟩⟩
def bGcd : List D → Option D
  | [.int a, .int b] => some (.int ((Nat.gcd a.natAbs b.natAbs : Nat) : Int))
  | _ => none
theorem rc_gcd {K : PySem.W.Frag} : RdC K rGcd bGcd := fun F H xs as c e hx hc Q k => by
  unfold bGcd at hc
  split at hc
  · cases hc
    obtain ⟨x, y, rfl, b1, b2⟩ := bw2 hx
    exact ⟨_, _, by rw [b1.int, b2.int], flat_q e (.int _) k⟩
  · cases hc
def LcmOk (a b : Int) : Prop := a.natAbs < 1152921504606846976 ∧ b.natAbs < 1152921504606846976
instance {a b : Int} : Decidable (LcmOk a b) := inferInstanceAs (Decidable (_ ∧ _))
def rLcm : List V → Hp → VK → Prop := fun vs H Q => ∃ a b : Int, vs = [.int a, .int b] ∧ LcmOk a b ∧ Q (.int ((Nat.lcm a.natAbs b.natAbs : Nat) : Int)) H
theorem lcm_lt {a b : Nat} (ha : a < 1152921504606846976) (hb : b < 1152921504606846976) : a.lcm b < 2 ^ 121 := by
  by_cases h : a = 0 ∨ b = 0
  · rcases h with h | h <;> subst h <;> simp
  · have h1 : a.lcm b ≤ a * b := Nat.le_of_dvd (Nat.mul_pos (by omega) (by omega)) (Nat.lcm_dvd_mul a b)
    have h2 : a * b < 1152921504606846976 * 1152921504606846976 := Nat.mul_lt_mul'' ha hb
    omega
theorem cr_lcm : CallR X (.builtin "math.lcm") rLcm := by
  intro pins s σ H vs us Q I r; intro h
  obtain ⟨a, b, rfl, ⟨h1, h2⟩, q⟩ := h
  obtain ⟨t, u, rfl⟩ := (Vals.int2 r)
  refine PySem.W.mg_lcm_v (c := ((Nat.lcm a.natAbs b.natAbs : Nat) : Int)) (by omega) (by omega) (by rw [Nat.lcm_one_left]) ?_ ⟨.int _, H, I.tok _, ⟨_, rfl⟩, q⟩
  rw [Int.natAbs_natCast]
  have := PySem.W.mg_log (k := 120) (lcm_lt h1 h2)
  exact Nat.lt_of_le_of_lt this (by decide)
def bLcm : List D → Option D
  | [.int a, .int b] => if LcmOk a b then some (.int ((Nat.lcm a.natAbs b.natAbs : Nat) : Int)) else none
  | _ => none
theorem rc_lcm {K : PySem.W.Frag} : RdC K rLcm bLcm := fun F H xs as c e hx hc Q k => by
  unfold bLcm at hc
  split at hc
  · split at hc
    · rename_i h
      cases hc
      obtain ⟨x, y, rfl, b1, b2⟩ := bw2 hx
      exact ⟨_, _, by rw [b1.int, b2.int], h, flat_q e (.int _) k⟩
    · cases hc
  · cases hc
/-! texts -/
def strsD : List D → Option (List Str)
  | [] => some []
  | .str x :: r => (strsD r).map (x :: ·)
  | _ => none
theorem strsD_some : ∀ {ds : List D} {xs : List Str}, strsD ds = some xs → ds = xs.map .str
  | [], xs, h => by
    cases h
    rfl
  | d :: ds, xs, h => by
    unfold strsD at h
    split at h
    · rename_i z
      cases z
    · rename_i x r z
      cases z
      obtain ⟨ys, h1, rfl⟩ := Option.map_eq_some_iff.mp h
      rw [List.map_cons, ← strsD_some h1]
    · cases h
@[simp] theorem strsD_map (xs : List Str) : strsD (xs.map .str) = some xs := by
  induction xs with
  | nil => rfl
  | cons x xs ih =>
    show (strsD (xs.map .str)).map (x :: ·) = _
    rw [ih]
    rfl
def joinS (a : Str) (xs : List Str) : Option D := if (xs.map (·.length)).sum + xs.length * a.length ≤ 16777216 then some (.str (Txt.join a xs)) else none
def oJoin (a b : D) : Option D := match a with
  | .str a => match b with
    | .list ds => (strsD ds).bind (joinS a)
    | .tuple ds => (strsD ds).bind (joinS a)
    | _ => none
  | _ => none
def oSplit (a b : D) : Option D := match a with
  | .str a => match b with
    | .str b => if (b.length == 0) = false ∧ a.length + 2 ≤ 100000 then some (.list ((Txt.split a b).map .str)) else none
    | _ => none
  | _ => none
/-- a method of texts: the receiver is a text -/
def cM1 (o : D → D → Option D) (f g : Env → R D) : Env → R D := fun ρ => (f ρ).bind fun a => if isStrD a = true then (g ρ).bind fun b => ofO (o a b) else .bad
theorem joinS_some {a : Str} {xs : List Str} {c : D} (h : joinS a xs = some c) : (xs.map (·.length)).sum + xs.length * a.length ≤ 16777216 ∧ c = .str (Txt.join a xs) := by
  unfold joinS at h
  split at h
  · rename_i z
    cases h
    exact ⟨z, rfl⟩
  · cases h
theorem str_of {K : PySem.W.Frag} {F H : Hp} {x : V} {a : D} (hx : Bw K F H x a) (h : isStrD a = true) : ∃ s, x = .str s ∧ a = .str s := by
  cases a <;> simp [isStrD] at h
  exact ⟨_, hx.str, rfl⟩
theorem de_join {apos : Pos} (ho : DE X W o f) (he : DB X W e g) (hs : starEach [e] X.env = [(false, eval e X.env)] := by rfl) (hbase : attributeBase o "join" X.env (eval o X.env) = eval o X.env := by rfl) (hline : (apos.endLine == pos.line) = true := by rfl) :
    DE X W (.Call (.Attribute o "join" apos) [e] [] pos) (cM1 oJoin f g) :=
  ⟨pe_imp (pe_join ho.pe he.pe hs hbase hline) fun σ H Q ⟨F0, H0, F, ρ, r, k⟩ => ⟨F0, H0, F, ρ, r, (ROk.step (r := f ρ) k).imp fun a F1 H1 _ g1 q1 x hx => by
    split at q1
    · rename_i is
      obtain ⟨s, rfl, rfl⟩ := str_of (H := H1) (.fr hx) is
      exact ⟨⟨s, rfl⟩, F0, H0, F1, ρ, r.grow g1, (ROk.step (r := g ρ) q1).imp fun b F2 H2 _ g2 q2 y hy => by
        obtain ⟨c, h1, h2⟩ := q2.ofO
        have fin : ∀ (p : Addr) (vs : List V) (xs : List Str), y = .ref p → (SqL X.K H2 p vs ∨ SqT X.K H2 p vs) → DaAll X.K F2 vs (xs.map .str) → joinS s xs = some c →
            ∃ (a : Str) (p : Addr) (ys : List Str), V.str s = .str a ∧ [y] = [V.ref p] ∧ (SqL X.K H2 p (ys.map V.str) ∨ SqT X.K H2 p (ys.map V.str)) ∧ (ys.map (·.length)).sum + ys.length * a.length ≤ 16777216 ∧ Q (.str (Txt.join a ys)) H2 := fun p vs xs e1 e2 e3 e4 => by
          subst e1
          have e5 := dpa_toStrs e3
          subst e5
          obtain ⟨z1, rfl⟩ := joinS_some e4
          exact ⟨s, p, xs, rfl, rfl, e2, z1, h2 F2 H2 (.refl g2.in_) _ (.str _)⟩
        unfold oJoin at h1
        dsimp only at h1
        split at h1
        · obtain ⟨xs, h3, h4⟩ := Option.bind_eq_some_iff.mp h1
          have := strsD_some h3
          subst this
          obtain ⟨p, vs, e1, e2, e3⟩ := hy.list g2.in_
          exact fin p vs xs e1 (.inl (Or.inl (Or.inl e2))) e3 h4
        · obtain ⟨xs, h3, h4⟩ := Option.bind_eq_some_iff.mp h1
          have := strsD_some h3
          subst this
          obtain ⟨p, vs, e1, e2, e3⟩ := hy.tuple g2.in_
          exact fin p vs xs e1 (.inr e2) e3 h4
        · cases h1⟩
    · exact q1.elim⟩⟩
theorem strs_da {K : PySem.W.Frag} {F : Hp} (xs : List Str) : DaAll K F (xs.map V.str) (xs.map PyData.str) := dpa_ofStrs
theorem de_split {apos : Pos} (ho : DE X W o f) (he : DE X W e g) (hs : starEach [e] X.env = [(false, eval e X.env)] := by rfl) (hbase : attributeBase o "split" X.env (eval o X.env) = eval o X.env := by rfl) (hline : (apos.endLine == pos.line) = true := by rfl) :
    DE X W (.Call (.Attribute o "split" apos) [e] [] pos) (cM1 oSplit f g) :=
  ⟨pe_imp (pe_split ho.pe he.pe hs hbase hline) fun σ H Q ⟨F0, H0, F, ρ, r, k⟩ => ⟨F0, H0, F, ρ, r, (ROk.step (r := f ρ) k).imp fun a F1 H1 _ g1 q1 x hx => by
    split at q1
    · rename_i is
      obtain ⟨s, rfl, rfl⟩ := str_of (H := H1) (.fr hx) is
      exact ⟨⟨s, rfl⟩, F0, H0, F1, ρ, r.grow g1, (ROk.step (r := g ρ) q1).imp fun b F2 H2 _ g2 q2 y hy => by
        obtain ⟨c, h1, h2⟩ := q2.ofO
        unfold oSplit at h1
        dsimp only at h1
        split at h1
        · split at h1
          · rename_i z
            cases h1
            cases hy
            refine ⟨s, _, rfl, rfl, z.1, Evl.sz_of z.2, fun p hp => ?_⟩
            exact h2 _ _ (Grow.made g2.in_ hp) (.ref p) (.lst upd_same (strs_da _))
          · cases h1
        · cases h1⟩
    · exact q1.elim⟩⟩
end
/-! xs += ys, xs an own list -/
section
variable {X : Cx} {W : WX} {e : Expr} {pos pos' : Pos} {f : Env → R D}
theorem set_here {α : Type} {l : List α} {i : Nat} {a : α} (h : l[i]? = some a) : l.set i a = l := by
  apply List.ext_getElem?
  intro j
  by_cases c : i = j
  · subst c
    rw [h, List.getElem?_set_self (List.getElem?_eq_some_iff.mp h).1]
  · rw [List.getElem?_set_ne c]
theorem ds_augL {i : Nat} {x : Str} (hN : X.N.Nodup) (hi : X.N[i]? = some x) (hx : Loc X.env.scope x) (ha : DE X W e f)
    (hf : X.fn x = true ∨ X.env.scope.names.lookup x = some .local := by first | exact .inl rfl | exact .inr rfl | assumption) : DS X W (.AugAssign (.Name x pos') .Add e pos) (sExt i f) :=
  ⟨ps_imp (ps_aug (ti := rExt2) hN hi hx ha.pe (fun pins s σ H x y v u Q I r1 r2 h => iop_ext pins s σ H x y v u Q I r1 r2 h) hf) fun Z σ H ⟨F0, H0, F, ρ, r, k⟩ => by
    have k : OOk X.K X.mg W F0 H0 F Z (match ρ[i]? with | some (.own ds) => exB ρ (f ρ) fun d => (match d with | .list es => if ds.length + es.length ≤ 100000 then .nx (ρ.set i (.own (ds ++ es))) else .bad | _ => .bad) | _ => .bad) := k
    split at k
    · rename_i ds hi
      obtain ⟨p, vs, e1, e2, e3, e4, e5⟩ := r.own i ds hi
      refine ⟨.ref p, e1, F0, H0, F, ρ, r, exB_ok r k fun d F' H' gr q v hv => ?_⟩
      split at q
      · rename_i es
        split at q
        · rename_i hlen
          have r' := r.grow gr
          have fp : F' p = none := by
            cases z : F' p with
            | none => rfl
            | some o =>
              have w := gr.new p o z e3
              rw [e4] at w; cases w
          cases hv with
          | lst h1 h2 =>
            have l5 := dpa_len e5
            have l6 := dpa_len h2
            refine ⟨p, _, vs, _, rfl, rfl, gr.h _ _ e4, gr.in_ _ _ h1, Evl.sz_of (by omega), ?_⟩
            show Z.nx (σ.set i (some (V.ref p))) _
            rw [set_here e1]
            exact q F' _ σ (.refl _) (r'.mut hi e1 ⟨_, gr.h _ _ e4⟩ e2 fp (dpa_app (e5.up gr.f) h2))
        · exact q.elim
      · exact q.elim
    · exact k.elim⟩
end
end DL

/-! DLA -/
/-! text * int; max and min of three ints -/
namespace DL
open PySem L2 PySem.Spec PyProof.Rows
open Evl (Ex ex_l ex_t ex_rd)
def rMulS : R2 := fun x y H Q => ∃ a n, x = .str a ∧ y = .int n ∧ -1000 ≤ n ∧ n ≤ 1000 ∧ a.length ≤ 1000 ∧ Q (.str (Txt.mul a n)) H
theorem op_mulS {X : Cx} : OpR X (binaryOp .Mult) rMulS := by
  intro pn sh st H x y v u Q I rx ry hh
  obtain ⟨a, n, rfl, rfl, h1, h2, h3, q⟩ := hh
  obtain ⟨t, rfl⟩ := rx
  obtain ⟨t', rfl⟩ := ry
  exact SB.mul (mulOk_of 1000 1000 h3 (by omega) (by omega) (by decide) (by decide)) fun t2 k => ⟨.str _, H, I.tok _, ⟨_, rfl⟩, q⟩
def oMulT : D → D → Option D
  | .str x, .int n => if -1000 ≤ n ∧ n ≤ 1000 ∧ x.length ≤ 1000 then some (.str (Txt.mul x n)) else none
  | _, _ => none
theorem rd_mulT {K : PySem.W.Frag} : RdO K rMulS oMulT := fun F H x y a b c e hx hy hc Q k => by
  cases a <;> cases b <;> simp only [oMulT] at hc <;> try (cases hc; done)
  split at hc
  · rename_i h
    cases hc
    exact ⟨_, _, hx.str, hy.int, h.1, h.2.1, h.2.2, flat_q e (.str _) k⟩
  · cases hc
/-- times, the first a text too -/
def oMulS (a b : D) : Option D := match a with
  | .str _ => oMulT a b
  | _ => oMul1 a b
theorem op_mulTD {X : Cx} : OpR X (binaryOp .Mult) (fun x y H Q => rMulD X.K x y H Q ∨ rMulS x y H Q) := op_mulD.or op_mulS
theorem rd_mulS {K : PySem.W.Frag} : RdO K (fun x y H Q => rMulD K x y H Q ∨ rMulS x y H Q) oMulS := RdO.or rd_mul rd_mulT fun a b c h => by
  unfold oMulS at h
  split at h
  · exact .inr h
  · exact .inl h
@[simp] theorem oMulS_s {x : Str} {n : Int} : oMulS (.str x) (.int n) = if -1000 ≤ n ∧ n ≤ 1000 ∧ x.length ≤ 1000 then some (.str (Txt.mul x n)) else none := id rfl
@[simp] theorem oMulS_i {i : Int} {b : D} : oMulS (.int i) b = oMul1 (.int i) b := id rfl
@[simp] theorem oMulS_l {xs : List D} {b : D} : oMulS (.list xs) b = oMul1 (.list xs) b := id rfl
@[simp] theorem oMulS_t {xs : List D} {b : D} : oMulS (.tuple xs) b = oMul1 (.tuple xs) b := id rfl
/-! max and min of three -/
def bMax3 : List D → Option D
  | [.int i, .int j, .int k] => some (.int (if (if j > i then j else i) < k then k else (if j > i then j else i)))
  | _ => none
theorem bw3 {K : PySem.W.Frag} {F H : Hp} {xs : List V} {a b c : D} (h : BwAll K F H xs [a, b, c]) : ∃ x y z, xs = [x, y, z] ∧ Bw K F H x a ∧ Bw K F H y b ∧ Bw K F H z c := by
  cases h with
  | cons h1 h =>
    obtain ⟨y, z, rfl, h2, h3⟩ := bw2 h
    exact ⟨_, y, z, rfl, h1, h2, h3⟩
theorem rc_max3 {K : PySem.W.Frag} : RdC K (rNuC3 nuMax3) bMax3 := fun F H xs as c e hx hc Q k => by
  unfold bMax3 at hc
  split at hc
  · rename_i i j l
    cases hc
    obtain ⟨x, y, z, rfl, b1, b2, b3⟩ := bw3 hx
    refine ⟨_, _, _, .int (if (if j > i then j else i) < l then l else (if j > i then j else i)), by rw [b1.int, b2.int, b3.int], ?_, flat_q e (.int _) k⟩
    have h2 : ∀ p q : Int, nuMax2 (.int p) (.int q) = some (.int (if p < q then q else p)) := fun p q => by
      show some (if decide (p < q) = true then V.int q else V.int p) = _
      by_cases z : p < q <;> simp [z]
    unfold nuMax3
    rw [h2, Option.bind_some, h2]
  · cases hc
@[simp] theorem bMax3_i {i j k : Int} : bMax3 [.int i, .int j, .int k] = some (.int (if (if j > i then j else i) < k then k else (if j > i then j else i))) := id rfl
end DL

/-! DLB -/
/-! t[::-1] of a text -/
namespace DL
open PySem L2 PySem.Spec PyProof.Rows
open Evl (Ex ex_l ex_t ex_rd)
def revS (x : Str) : Str := ⟨x.cps.toList.reverse.toArray⟩
theorem picked_rev (x : Str) (t : Tok) : (slicePicked x none none (some (-1, t))).filterMap (x.cps[·]?) = x.cps.toList.reverse := by
  show (sliceRange ((x.length : Int) - 1) (-1) (-1)).filterMap (x.cps[·]?) = _
  rw [PySem.W.krv_sliceRange, PySem.W.krv_range, List.filterMap_reverse]
  show (List.filterMap (fun k => x.cps[k]?) (List.range x.cps.size)).reverse = _
  rw [PySem.W.krv_all]
section
variable {X : Cx}
def tRevT (te : TE) : TE := fun σ H Q => te σ H fun x H1 => ∃ a, x = .str a ∧ a.length ≤ 100000 ∧ Q (.str (revS a)) H1
theorem pe_revT {e : Expr} {te : TE} {k : Nat} {p1 p2 p3 pos : Pos} (he : PE X e te) : PE X (.Subscript e (.Slice none none (some (.UnaryOp .USub (.Constant (.int 1) k p1) p2)) p3) pos) (tRevT te) := by
  refine ⟨fun pins s σ H Q I h => (?_)⟩
  refine Subscript_ (thn (he.run pins s σ H _ I h) fun v s1 ⟨x, H1, I1, r1, q1⟩ => (?_))
  obtain ⟨a, ex, hl, q⟩ := q1
  subst ex
  obtain ⟨ta, rfl⟩ := r1
  have st1 : PO X (some (.UnaryOp .USub (.Constant (.int 1) k p1) p2)) (tPart (tUn (rU fun i => .int (-i)) (tC (.int 1)))) := po_some (pe_un un_neg pe_int)
  refine wpAny_Slice (thn (po_none.run pins s1 σ H1 (fun o H2 => o = none ∧ H2 = H1) I1 ⟨rfl, rfl⟩) fun vl s2 ⟨l, H2, I2, pl, el, e2⟩ => (?_))
  subst el e2
  refine thn (po_none.run pins s2 σ H2 (fun o H3 => o = none ∧ H3 = H2) I2 ⟨rfl, rfl⟩) fun vu s3 ⟨u, H3, I3, pu, eu, e3⟩ => (?_)
  subst eu e3
  refine thn (st1.run pins s3 σ H3 (fun o H4 => o = some (-1) ∧ H4 = H3) I3 ⟨1, rfl, -1, rfl, rfl, rfl⟩) fun vs s4 ⟨o, H4, I4, ps, eo, e4⟩ => (?_)
  subst eo e4
  have J5 : Inv X pins σ H4 { s4 with heap := s4.heap.push { cls := .type "slice", data := .fields #[vl, vu, vs] } } := I4.kept (t' := s4.toks) fun b ob q => Heap.get?_push_of_some _ q
  show wpAny (model X.prog X.w) X.A ((subscriptTail e) (.Slice none none (some (.UnaryOp .USub (.Constant (.int 1) k p1) p2)) p3) (.str a ta) (.ref s4.heap.objs.size)) (EP X pins σ Q) X.xe { s4 with heap := s4.heap.push { cls := .type "slice", data := .fields #[vl, vu, vs] } }
  refine tail_any (ops := [.str a ta, .ref s4.heap.objs.size]) (typeIs_str _ a ta) (F.slot_str_getitem.lookup) (?_) (by with_unfolding_all rfl)
  cases pl
  cases pu
  cases ps with
  | int i t' =>
  refine wpAny_getItem_str_slice (l := none) (u := none) (st := some (-1, t')) ⟨_, Heap.get?_push_size _ rfl, rfl, rfl⟩ (by rfl) ?_
  unfold sliceMade
  rw [if_neg (by simp), picked_rev]
  refine ⟨?_, .str (revS a), H4, J5.tok _, ⟨_, rfl⟩, q⟩
  show a.cps.toList.reverse.toArray.size ≤ sizeLine
  rw [List.size_toArray, List.length_reverse, Array.length_toList, sizeLine_eq]
  exact Nat.le_trans hl (by decide)
end
def oRevT : D → Option D
  | .str x => if x.length ≤ 100000 then some (.str (revS x)) else none
  | _ => none
theorem de_revT {X : Cx} {W : WX} {e : Expr} {f : Env → R D} {k : Nat} {p1 p2 p3 pos : Pos} (ha : DB X W e f) : DE X W (.Subscript e (.Slice none none (some (.UnaryOp .USub (.Constant (.int 1) k p1) p2)) p3) pos) (cUn oRevT f) :=
  ⟨pe_imp (pe_revT ha.pe) fun σ H Q ⟨F0, H0, F, ρ, r, k⟩ => ⟨F0, H0, F, ρ, r, (ROk.step (r := f ρ) k).imp fun a F1 H1 _ g1 q1 x hx => by
    obtain ⟨c, e, q⟩ := q1.ofO
    cases a <;> simp only [oRevT] at e <;> try (cases e; done)
    split at e
    · rename_i hl
      cases e
      exact ⟨_, hx.str, hl, q F1 H1 (.refl g1.in_) _ (.str _)⟩
    · cases e⟩⟩
@[simp] theorem oRevT_s {x : Str} : oRevT (.str x) = if x.length ≤ 100000 then some (.str (revS x)) else none := id rfl
end DL

/-! DLC -/
/-! own exceptions with a field: __init__ says super().__init__(text) and keeps its argument -/
namespace DL
open PySem L2 PySem.Spec PyProof.Rows NdefX
open Evl (Ex ex_l ex_t ex_rd)
section
variable {X : Cx} {pins : List (Addr × Obj)} {σ : L2.St} {H : Hp} {s : Shared} {u a C : Addr} {Q : Value → Shared → Prop} {E : Value → Shared → Prop} {A : Around}
/-- the bound ValueError.__init__ called: nothing of it is told -/
theorem mw_call {us : List Value} (T : OexC X.K C) (I : Inv X pins σ H s) (hu : s.heap.get? u = some (PySem.W.kxs_mw "ValueError.__init__" a)) (e : H a = some (exo a C none)) (hl : us.length ≤ sizeLine) (h : ∀ s', Inv X pins σ H s' → Q .none s') :
    wpAny (model X.prog X.w) A (call (.ref u) us) Q E s := by
  obtain ⟨nm, q, N, bs, bm, sn, sub, ab, col, dd, k0, k1, k2, k3, k5, hC, hbm⟩ := (T.cls)
  obtain ⟨t1, ho⟩ := (exo_at I.hok e)
  obtain ⟨hp, g, d, t, os⟩ := s
  (refine wpAny_call (codeAny_of_tree ?_))
  show wpAny _ A.in1 (callAny (.ref u) ⟨us, []⟩) _ _ _
  simp only [callAny]
  (refine wpAny_bind (wpAny_load hu ?_))
  simp only [PySem.W.kxs_mw, show (Value.type "method-wrapper" == Value.type "method" || Value.type "method-wrapper" == Value.type "builtin_function_or_method" || Value.type "method-wrapper" == Value.type "method-wrapper") = true by decide, if_true]
  refine PySem.W.KFB.if_so (by decide) (?_)
  refine wpAny_bind (PySem.W.check_bound_init F.excBase_ValueError.toExcCallFacts (I.kIn _ _ hC) ho rfl ?_)
  (refine wpAny_bind (wpAny_pure (wpAny_pure ?_)))
  refine ⟨plainId_quiet F.excBase_ValueError.init.plain _, codeAny_builtin F.excBase_ValueError.initEntry ?_⟩
  refine PySem.W.exc_init_tree (cls := .ref C) (t0 := t1) (dv := none) (c2 := .none) (c3 := .none) (b4 := .bool false) ho hl fun h' k hx _ => ?_
  have J := (I.write (t' := t) (x := a) (e := a) (o := exo a C none) (by rw [e]; exact True.intro) (.inl rfl) k ⟨_, hx⟩ (exo_ok hx))
  have eu : (upd H a (exo a C none) = H) := by
    funext b
    by_cases hb : b = a
    · rw [hb, upd_same, e]
    · rw [upd_ne hb]
  rw [eu] at J
  exact h _ J
end
/-- what is known of an own exception class and of its __init__ -/
structure ExI (P : Program) (K : PySem.W.Frag) (mg : Str → Option Value) (C fI cc : Addr) (fld : Str) (F : NF) : Prop where
  oC : OexC K C
  fn : ∃ oc od dV kV doc pm an ct osl, K.lookup fI = some ⟨oc, od, .func (PySem.W.ksFn F.name F.qual F.params F.body F.scope dV kV doc pm an (.ref F.c) ct cc), osl⟩
  cd : PySem.W.codeIn K (.ref F.c) F.qual = true
  fil : ∃ ccl cdd vs ccs file tf, K.lookup F.c = some ⟨ccl, cdd, .fields vs, ccs⟩ ∧ vs[2]? = some (.str file tf) ∧ ((P.main.file : Str) == file) = true
  cel : ∃ cl cld csl, K.lookup cc = some ⟨cl, cld, .cell (some (.ref C)), csl⟩
  cl : F.cl = [(("__class__" : Str), cc)]
  sub : PySem.W.mroIn K C (.ref C) = some true
  opq : PySem.W.nsIn K cStatics "thirdparty.any" = some none
  sup : PySem.W.ks_superIn K C C "__init__" = some (some (.builtin "ValueError.__init__"))
  subV : PySem.W.subIn K (.ref C) (.type "ValueError") = some true
  nof : PySem.W.findIn K (.ref C) fld = some none
  top : (P.main.scope.names.lookup ("super" : Str)).isSome = false
  b_super : mg "super" = none
section
variable {X : Cx} {pins : List (Addr × Obj)} {σ : L2.St} {H : Hp} {s : Shared} {a C fI cc : Addr} {fld : Str} {F : NF} {E : Value → Shared → Prop}
/-- super() -/
theorem super_node {A : Around} {body : List Stmt} {p0 p1 : Pos} {attr : Str} {whole : Sem Value} {ar : Arg} {Q : Value → Shared → Prop} (T : ExI X.prog X.K X.mg C fI cc fld F) (hA : A = X.A) (hp : (F.params.posonlyargs ++ F.params.args).head? = some ar) (hfu : X.env.func = some fI) (hco : X.env.code = .ref F.c) (hcl : X.env.cells = F.cl)
    (hks : Gl X "super") (hkc : X.env.kindOf "__class__" = some .free) (hat : (attr == ("__class__" : Str)) = false) (hN : X.N[0]? = some ar.arg) (hkl : X.env.kindOf ar.arg = some .local) (I : Inv X pins σ H s) (e : H a = some (exo a C none)) (hs : σ[0]? = some (some (.ref a)))
    (h : ∀ so s', Inv X pins σ H s' → s'.heap.get? so = some (PySem.W.ks_superObj C a C) → Q (.ref so) s') :
    PySem.wpAt (model X.prog X.w) A (.func body X.env) (attributeBase (.Call (.Name "super" p0) [] [] p1) attr X.env whole) Q E s := by
  obtain ⟨nm, q, N, bs, bm, sn, sub, ab, col, dd, k0, k1, k2, k3, k5, hC, hbm⟩ := T.oC.cls
  obtain ⟨oc, od, dV, kV, doc, pm, an, ct, osl, hf⟩ := T.fn
  obtain ⟨ccl, cdd, vs, ccs, file, tf, hcd, hvs, hfile⟩ := T.fil
  obtain ⟨cl, cld, csl, hcell⟩ := T.cel
  obtain ⟨t1, ho⟩ := (exo_at I.hok e)
  obtain ⟨m, hn, hl⟩ := I.loc
  obtain ⟨mb, b1, b2⟩ := I.mod.blt
  have hself : m ar.arg = some (.ref a) := by
    obtain ⟨u, r, l⟩ := hl 0 ar.arg (.ref a) hN hs (.inl hkl)
    obtain rfl : u = Value.ref a := r
    rcases l with ⟨_, l⟩ | ⟨l, _⟩
    · exact l
    · rcases l with l | l <;> (rw [hkl] at l; cases l)
  have kin := I.kIn
  have glob : s.heap.Ns X.env.globals X.mg := by rw [I.ok.glob]; exact I.mod.glob.keeps I.bk
  have blt : s.heap.Ns X.env.builtins mb := by rw [I.ok.blt]; exact b1.keeps I.bk
  have kept : ∀ {h' : Heap}, (∀ b o, s.heap.get? b = some o → h'.get? b = some o) → Inv X pins σ H { s with heap := h' } := fun {h'} k => I.kept (t' := s.toks) k
  have hC' := kin _ _ hC
  refine PySem.ks_wpAt_super_base hks hkc hat hfu (kin _ _ hf) rfl hp hco (kin _ _ hcd) rfl hvs hfile T.top ?_
  refine PySem.W.ks_loadName_global I.ok.kind hks (Calls.loadGlobal_builtin glob T.b_super blt ((b2 "super" (by decide)).trans (by first | boot_by_name | rfl | kernel_rfl)) ⟨rfl, ?_⟩)
  refine wpAny_loadName_free I.ok.kind hkc (by rw [hcl, T.cl]; rfl) ⟨_, kin _ _ hcell, rfl⟩ ?_
  refine wpAny_loadName_local I.ok.kind hkl hn hself ?_
  refine ks_wpAny_isType_cls hC' rfl ⟨rfl, ?_⟩
  obtain ⟨hp, g, d, t, os⟩ := s
  refine ks_wpAny_call_super hC' rfl ho rfl (fun c z => by cases z) (PySem.W.looks_mroIn kin T.sub) (fun h' e k => ?_)
  exact h _ _ (kept k) e
end
section
variable {M : Model} {A : Around} {E : Value → Shared → Prop} {s : Shared} {x u : Addr} {i : String}
theorem mw_callWith {pos : Pos} {env : PySem.Env} {e : Expr} {rest : List Expr} {Q : Value → Shared → Prop}
    (h : wpAny M A (spliced (backTo pos (starEach (e :: rest) env))) (fun vs s₁ => PySem.W.KxsAt i u x s₁.heap ∧ wpAny M A (call (.ref u) vs) Q E s₁) E s)
    (he : starEach (e :: rest) env = (false, eval e env) :: starEach rest env) (hplain : (backTo pos (starEach rest env)).any (·.1) = false) :
    (wpAny M A (callWith pos (.ref u) [] (backTo pos (starEach (e :: rest) env)) []) Q E s) := by
  rw [he] at h ⊢
  refine PySem.W.kxs_callWith (i := i) (x := x) (by show (false || (backTo pos (starEach rest env)).any (·.1)) = false; rw [hplain]; rfl) ?_
  exact Calls.evalArgs_plain h
end
section
variable {X : Cx} {σ : L2.St} {H : Hp} {s : Shared} {a C fI cc : Addr} {fld : Str} {F : NF}
/-- super().__init__(e), as a statement -/
theorem super_init {A : Around} {body : List Stmt} {p0 p1 p2 p3 p4 : Pos} {arg : Expr} {ar : Arg} {t : TE} {P : Hp → Prop} {pl : Sem Bool} (T : ExI X.prog X.K X.mg C fI cc fld F) (hA : A = X.A) (hp : (F.params.posonlyargs ++ F.params.args).head? = some ar) (hfu : X.env.func = some fI) (hco : X.env.code = .ref F.c) (hcl : X.env.cells = F.cl)
    (hks : Gl X "super") (hkc : X.env.kindOf "__class__" = some .free) (hN : X.N[0]? = some ar.arg) (hkl : X.env.kindOf ar.arg = some .local) (I : Inv X [] σ H s) (e : H a = some (exo a C none)) (hs : σ[0]? = some (some (.ref a)))
    (ha : PE X arg t) (hi : interactive X.env = false) (hsw : swapsWith (.Call (.Attribute (.Call (.Name "super" p0) [] [] p1) "__init__" p2) [arg] [] p3) none p4.line X.env = pure false)
    (hst : starEach [arg] X.env = (false, eval arg X.env) :: starEach [] X.env) (h : t σ H fun v H1 => ([v] : List V).length = 1 ∧ H1 a = some (exo a C none) ∧ P H1)
    (hev : eval (.Call (.Attribute (.Call (.Name "super" p0) [] [] p1) "__init__" p2) [arg] [] p3) X.env = (do
      let ov ← attributeBase (.Call (.Name "super" p0) [] [] p1) "__init__" X.env (eval (.Call (.Name "super" p0) [] [] p1) X.env)
      standAt p2.atName
      let (f, first) ← holding [ov] ((getMethod ov "__init__" pl))
      callWith p3 f first (backTo p3 (starEach [arg] X.env)) [])) :
    PySem.wpAt (model X.prog X.w) A (.func body X.env) (exec (.Expr (.Call (.Attribute (.Call (.Name "super" p0) [] [] p1) "__init__" p2) [arg] [] p3) p4) X.env) (fun fl s' => fl = .next ∧ ∃ H', Inv X [] σ H' s' ∧ H' a = some (exo a C none) ∧ P H') X.xe s := by
  refine PySem.ks_wpAt_Expr_any (PySem.ks_wpAt_MethodCall (super_node T hA hp hfu hco hcl hks hkc (by decide) hN hkl I e hs fun so s1 I1 hso => ?_) hev) hi hsw
  obtain ⟨nm, q, N, bs, bm, sn, sub, ab, col, dd, k0, k1, k2, k3, k5, hC, hbm⟩ := T.oC.cls
  obtain ⟨t1, ho⟩ := exo_at I1.hok e
  have kin := I1.kIn
  have hcd : PySem.W.clsIn X.K C = some { name := nm, bases := bs, mro := .ref C :: bm, ns := N, qualname := q, hasDict := true, slotNames := sn, subclasses := sub, abstract := ab, collection := col, hasDel := false } := by unfold PySem.W.clsIn; rw [hC] <;> rfl
  have hsup := T.sup
  unfold PySem.W.ks_superIn at hsup
  rw [hcd] at hsup
  have IA : PySem.W.InstAt s1.heap a { cls := .ref C, dict := none, data := .fields #[.ref t1, .none, .none, .none, .bool false, .none] } C none := ⟨ho, rfl, rfl, trivial⟩
  have hI : PySem.W.Looks (model X.prog X.w) s1.heap (isInstance (.ref a) (.type "ValueError")) true := IA.type.andThen (PySem.W.looks_subIn kin T.subV)
  have hne : a ≠ C := fun z => by
    have hb : ∃ o, X.base.get? C = some o := ⟨_, I1.mod.kin _ _ hC⟩
    obtain ⟨o, hb⟩ := hb
    have n := (I1.bs C o hb).2
    rw [← z, e] at n
    cases n
  have hmr : PySem.W.Looks (model X.prog X.w) s1.heap (mroOf (.ref C)) (.ref C :: bm) := (PySem.W.looks_clsIn kin hcd).andThen .now
  obtain ⟨hh, g, d, tk, os⟩ := s1
  subst hA
  refine PySem.W.kxs_getMethod PySem.W.kxs_ValueError hso (PySem.W.looks_opaque kin T.opq) hmr rfl kin hsup hI hne (by decide) ?_
  have I2 : Inv X [] σ H ⟨hh.push (PySem.W.kxs_mw "ValueError.__init__" a), g, d, tk + 1, os⟩ := I1.kept (t' := tk + 1) fun b o q => Heap.get?_push_of_some _ q
  have hu0 : (hh.push (PySem.W.kxs_mw "ValueError.__init__" a)).get? hh.objs.size = some (PySem.W.kxs_mw "ValueError.__init__" a) := Heap.get?_push_size _ rfl
  have fr : H hh.objs.size = none := I1.hok.fresh (Nat.le_refl _)
  have I3 : Inv X [(hh.objs.size, PySem.W.kxs_mw "ValueError.__init__" a)] σ H ⟨hh.push (PySem.W.kxs_mw "ValueError.__init__" a), g, d, tk + 1, os⟩ := I2.pins_of fun p hp => by
    obtain rfl : p = (hh.objs.size, PySem.W.kxs_mw "ValueError.__init__" a) := by simpa using hp
    refine ⟨hu0, fr, Nat.ne_of_gt I1.lt, I1.nofs (Nat.le_refl _), fun v z => by cases z⟩
  refine mw_callWith (i := "ValueError.__init__") (x := a) ?_ hst rfl
  refine thn ((pa_cons ha pa_nil hst).run _ _ _ σ H (fun vs H1 => vs.length = 1 ∧ H1 a = some (exo a C none) ∧ P H1) I3 ?_) fun us s2 ⟨vs, H1, J, r, hl, e1, q⟩ => ?_
  · exact h
  · have hu := (J.pin (hh.objs.size, PySem.W.kxs_mw "ValueError.__init__" a) (by simp)).1
    refine ⟨hu, mw_call T.oC J hu e1 ?_ fun s' J' => ⟨rfl, H1, J'.pins_of (fun p hp => by cases hp), e1, q⟩⟩
    rw [← Paired.length r, hl, sizeLine_eq]
    omega
end
/-- what __init__ promises: the error at a gets its field -/
def spI (C : Addr) (fld : Str) : Sp := fun vs H Q _ => ∃ (a : Addr) (i : Int), vs = [.ref a, .int i] ∧ i.natAbs < 1000 ∧ H a = some (exo a C none) ∧
  ∀ H1 dx, Ex H H1 → H1 dx = none → dx ≠ a → Q .non (upd (upd H1 dx (exd dx [(fld, .int i)])) a (exo a C (some dx)))
abbrev xcls : Str := "__class__"
theorem init_ok {CX : CXT} {P : Program} {w : World} {K : PySem.W.Frag} {mg : Str → Option Value} {base : Heap} {k : Nat} {C fI cc : Addr} {slf par fld : Str} {F : NF} {arg : Expr} {q : Env → R D} {ar1 ar2 : Arg} {pl : Sem Bool} {p0 p1 p2 p3 p4 q1 q2 q3 q4 : Pos}
    {fd : FuncData} (hfd : ∃ oc od dV kV doc pm an ct osl, fd = PySem.W.ksFn F.name F.qual F.params F.body F.scope dV kV doc pm an (.ref F.c) ct cc ∧ K.lookup fI = some ⟨oc, od, .func fd, osl⟩)
    (T : ExI P K mg C fI cc fld F) (S : NScope [slf, par, xcls] [slf, par] [xcls] F.scope) (hp : F.params.posonlyargs ++ F.params.args = [ar1, ar2]) (h1 : ar1.arg = slf)
    (hks : F.scope.names.lookup ("super" : Str) = some .globalImplicit)
    (hbody : F.body = [.Expr (.Call (.Attribute (.Call (.Name "super" p0) [] [] p1) "__init__" p2) [arg] [] p3) p4, .Assign [.Attribute (.Name slf q1) fld q2] (.Name par q3) q4])
    (hdbg : (slf == ("__debug__" : Str)) = false ∧ (slf == ("__classdict__" : Str)) = false ∧ (par == ("__debug__" : Str)) = false ∧ (par == ("__classdict__" : Str)) = false)
    (hi : ∀ L, interactive (envF F fI L) = false) (hsw : ∀ L, swapsWith (.Call (.Attribute (.Call (.Name "super" p0) [] [] p1) "__init__" p2) [arg] [] p3) none p4.line (envF F fI L) = pure false)
    (hst : ∀ L, starEach [arg] (envF F fI L) = (false, eval arg (envF F fI L)) :: starEach [] (envF F fI L))
    (hev : ∀ L, eval (.Call (.Attribute (.Call (.Name "super" p0) [] [] p1) "__init__" p2) [arg] [] p3) (envF F fI L) = (do
      let ov ← attributeBase (.Call (.Name "super" p0) [] [] p1) "__init__" (envF F fI L) (eval (.Call (.Name "super" p0) [] [] p1) (envF F fI L))
      standAt p2.atName
      let (f, first) ← holding [ov] ((getMethod ov "__init__" pl))
      callWith p3 f first (backTo p3 (starEach [arg] (envF F fI L))) []))
    (hs2 : ∀ L, swapsWith (.Name par q3) (some (.Attribute (.Name slf q1) fld q2)) q4.line (envF F fI L) = pure false)
    (da : ∀ A outer s H E, Room k (ncx CX P w K mg base [slf, par, xcls] F fI A outer s H E).A → DE (ncx CX P w K mg base [slf, par, xcls] F fI A outer s H E) W0 arg q)
    (hq : ∀ i : Int, i.natAbs < 1000 → ∃ d, q [.no, .val (.int i), .no] = .ok d) :
    FnOk P w K mg base CX (k + 1) fI fd [slf, par] (spI C fld) := by
  refine ⟨fun vs H Q E ⟨a, i, e, _⟩ => by rw [e]; rfl, fun A outer s H args us vs Q E hr e0 hb r hsp => ?_⟩
  obtain ⟨a, i, ev, hlim, ea, hq0⟩ := hsp
  subst ev
  obtain ⟨oc, od, dV, kV, doc, pm, an, ct, osl, rfl, lf⟩ := hfd
  have KX : K.In s.heap := (e0.mod.kin.keeps fun b o e => (e0.bs b o e).1)
  have lim : s.heap.NoLimit := (e0.mod.nolimit.keeps fun b o e => (e0.bs b o e).1)
  obtain ⟨cl, cld, csl, hcell⟩ := T.cel
  have hHc : H cc = none := (e0.bs cc _ (e0.mod.kin _ _ hcell)).2
  have CA : CellsAt F.cl [xcls] [none] s.heap H := by
    rw [T.cl]
    have lk : ∀ {y : Str} {c : Addr}, List.lookup y [(("__class__" : Str), cc)] = some c → y = xcls ∧ c = cc := by
      intro y c h
      by_cases hy : y = xcls
      · subst hy
        have h : some cc = some c := h
        exact ⟨rfl, (Option.some.inj h).symm⟩
      · have hb : (y == ("__class__" : Str)) = false := by simpa using hy
        simp [List.lookup, hb] at h
    refine ⟨rfl, fun y c h => ?_, fun x y c hx hy => ?_, fun j y hj => ?_⟩
    · obtain ⟨_, rfl⟩ := lk h
      exact ⟨hHc, _, _, KX _ _ hcell, rfl⟩
    · rw [(lk hx).1, (lk hy).1]
    · match j with
      | 0 =>
        have hj : xcls = y := by simpa using hj
        subst hj
        refine ⟨cc, rfl, fun v hv => ?_⟩
        simp at hv
      | j + 1 => simp at hj
  refine ks_codeAny_call_defAt (body := F.body) (binds := [slf, par].zip us) hr.depth (KX _ _ lf) rfl lim (PySem.W.codeRec_of KX T.cd) rfl hb S.nocell (fun ⟨n, _⟩ hy => S.par n (List.of_mem_zip hy).1) (fun h₁ hns hk₁ => ?_) S.co S.gen S.kind
  have I : Inv (ncx CX P w K mg base [slf, par, xcls] F fI A outer s H E) [] (startF [slf, par, xcls] [.ref a, .int i] [none]) H { s with heap := h₁, toks := s.toks + ([slf, par].zip us).length } := inv_startN S hr.hd e0 rfl r CA hns hk₁
  have hkl : F.scope.names.lookup slf = some .local := S.par slf (by simp)
  have hkp : F.scope.names.lookup par = some .local := S.par par (by simp)
  have hfr : F.scope.names.lookup xcls = some .free := S.frk xcls (by simp)
  have hv1 : Vis F.scope slf := .inl hkl
  have hv2 : Vis F.scope par := .inl hkp
  have hcl : PySem.W.envX F.qual F.scope s.heap.objs.size fI (.ref F.c) F.cl = PySem.W.ksEnv F.qual F.scope s.heap.objs.size fI (.ref F.c) cc := by rw [T.cl]
  have he : callEnv (PySem.W.ksFn F.name F.qual F.params F.body F.scope dV kV doc pm an (.ref F.c) ct cc) s.heap.objs.size fI = (ncx CX P w K mg base [slf, par, xcls] F fI A outer s H E).env := hcl.symm
  rw [he]
  show PySem.wpAt (model P w) (ncx CX P w K mg base [slf, par, xcls] F fI A outer s H E).A (.func F.body (ncx CX P w K mg base [slf, par, xcls] F fI A outer s H E).env) (execs F.body (ncx CX P w K mg base [slf, par, xcls] F fI A outer s H E).env) _ (ncx CX P w K mg base [slf, par, xcls] F fI A outer s H E).xe _
  have hex : execs F.body (ncx CX P w K mg base [slf, par, xcls] F fI A outer s H E).env = execs [.Expr (.Call (.Attribute (.Call (.Name "super" p0) [] [] p1) "__init__" p2) [arg] [] p3) p4, .Assign [.Attribute (.Name slf q1) fld q2] (.Name par q3) q4] (ncx CX P w K mg base [slf, par, xcls] F fI A outer s H E).env := by rw [hbody]
  rw [hex]
  obtain ⟨d0, hd0⟩ := hq i hlim
  have hrd : tE K mg W0 q (startF [slf, par, xcls] [.ref a, .int i] [none]) H fun v H1 => ([v] : List V).length = 1 ∧ H1 a = some (exo a C none) ∧ Ex H H1 := by
    refine ⟨fun _ => none, H, fun _ => none, [.no, .val (.int i), .no], ⟨.refl (fun b o z => by cases z), rfl, ?_, ?_, ?_, ?_, ?_⟩, ?_⟩
    · intro j d hj
      match j with
      | 0 => simp at hj
      | 1 =>
        have hj : d = .int i := by simpa using hj.symm
        subst hj
        exact ⟨.int i, rfl, .int i⟩
      | 2 => simp at hj
      | j + 3 => simp at hj
    · intro j d hj
      match j with
      | 0 => simp at hj
      | 1 => simp at hj
      | 2 => simp at hj
      | j + 3 => simp at hj
    · intro j1 j2 d e p _ hj
      match j1 with
      | 0 => simp at hj
      | 1 => simp at hj
      | 2 => simp at hj
      | j + 3 => simp at hj
    · intro j d hj
      match j with
      | 0 => simp at hj
      | 1 => simp at hj
      | 2 => simp at hj
      | j + 3 => simp at hj
    · intro j1 j2 d e p _ hj
      match j1 with
      | 0 => simp at hj
      | 1 => simp at hj
      | 2 => simp at hj
      | j + 3 => simp at hj
    · rw [hd0]
      exact fun F' H' g v _ => ⟨rfl, g.h _ _ ea, g.h⟩
  refine ks_wpAt_execs_cons (ks_wpAt_mono (super_init (X := ncx CX P w K mg base [slf, par, xcls] F fI A outer s H E) (F := F) (P := fun H1 => Ex H H1) T rfl (by rw [hp]; rfl) rfl rfl rfl hks hfr (by rw [h1]; rfl) (by rw [h1]; exact hkl) I ea rfl (da A outer s H E (hr.deeper _)).pe (hi _) (hsw _) (hst _) hrd (hev _)) (fun fl s' hs => ?_) fun _ _ z => z)
  obtain ⟨rfl, H', J, e1, ex⟩ := hs
  show PySem.wpAt _ _ _ (execs [.Assign [.Attribute (.Name slf q1) fld q2] (.Name par q3) q4] (ncx CX P w K mg base [slf, par, xcls] F fI A outer s H E).env) _ _ _
  have ps : PS (ncx CX P w K mg base [slf, par, xcls] F fI A outer s H E) (.Assign [.Attribute (.Name slf q1) fld q2] (.Name par q3) q4) (tOst K fld (tVar 0) (tVar 1)) :=
    ps_ost (pe_var (i := 0) rfl hv1 hdbg.1 hdbg.2.1) (pe_var (i := 1) rfl hv2 hdbg.2.2.1 hdbg.2.2.2) (hs2 _)
  refine ks_wpAt_execs_cons (wpAt_of_wpAny (wpAny_mono (ps.run [] s' _ H' { nx := fun _ H2 => Q .non H2, rt := fun _ _ => False } J ?_) (fun fl s2 hs => ?_) fun _ _ z => z))
  · exact ⟨.int i, rfl, .ref a, rfl, a, C, rfl, T.oC, T.nof, .inl ⟨e1, fun dx n ne => hq0 H' dx ex n ne⟩⟩
  · cases fl with
    | next =>
      obtain ⟨σ2, H2, J2, q2⟩ := hs
      show PySem.wpAt _ _ _ (execs [] (ncx CX P w K mg base [slf, par, xcls] F fI A outer s H E).env) _ _ _
      rw [execs_nil]
      exact wpAt_of_wpAny (wpAny_pure ⟨.non, H2, J2.os, J2.bare, J2.base, J2.hok, rfl, q2⟩)
    | ret u =>
      obtain ⟨v, σ2, H2, J2, rv, q2⟩ := hs
      exact q2.elim
    | brk =>
      obtain ⟨_, _, _, q2⟩ := hs
      exact q2.elim
    | cont =>
      obtain ⟨_, _, _, q2⟩ := hs
      exact q2.elim
/-! ### raise C(e), C with a field -/
structure XFld (P : Program) (w : World) (K : PySem.W.Frag) (mg : Str → Option Value) (base : Heap) (k : Nat) (x : Str) (C : Addr) (fld : Str) : Prop where
  gC : mg x = some (.ref C)
  oC : OexC K C
  ini : ∃ (fI : Addr) (fd : FuncData) (ps : List Str), PySem.W.findIn K (.ref C) "__init__" = some (some (.ref fI)) ∧ PySem.W.typeIn K (.ref fI) = some (.type "function") ∧ Binds K fd ps [] ∧ FnOk P w K mg base (L2.CX P w) k fI fd ps (spI C fld)
def sRaiseA (x fld : Str) (q : Env → R D) : Env → Out := fun ρ => exB ρ (q ρ) fun d => match d with
  | .int i => if i.natAbs < 1000 then .ex ⟨x, [(fld, .int i)]⟩ ρ else .bad
  | _ => .bad
theorem raise_grow {F H H2 : Hp} {a dx : Addr} {o : HO} {o1 o2 : HO} (e : Ex F H) (na : H a = none) (x : Ex (upd H a o) H2) (nd : H2 dx = none) (ne : dx ≠ a) (oo : HO) :
    H dx = none ∧ Grow F H (upd F dx oo) (upd (del (upd (upd H2 dx o1) a o2) a) dx oo) := by
  have hd : H dx = none := by
    cases q : H dx with
    | none => rfl
    | some u =>
      have z := x dx u (by rw [upd_ne ne]; exact q)
      rw [nd] at z
      cases z
  have fd : F dx = none := by
    cases q : F dx with
    | none => rfl
    | some u =>
      have z := e dx u q
      rw [hd] at z
      cases z
  have hh : Ex H (upd (del (upd (upd H2 dx o1) a o2) a) dx oo) := fun b u q => by
    have hb : b ≠ dx := fun z => by rw [z, hd] at q; cases q
    have ha : b ≠ a := fun z => by rw [z, na] at q; cases q
    rw [upd_ne hb, del_ne ha, upd_ne ha, upd_ne hb]
    exact x b u (by rw [upd_ne ha]; exact q)
  refine ⟨hd, Ex.new fd, hh, fun b u q => ?_, fun b u q n => ?_⟩
  · by_cases hb : b = dx
    · subst hb
      rw [upd_same] at q ⊢
      exact q
    · rw [upd_ne hb] at q
      exact hh b u (e b u q)
  · by_cases hb : b = dx
    · subst hb
      exact hd
    · rw [upd_ne hb] at q
      rw [q] at n
      cases n
section
variable {X : Cx} {W : WX} {x fld : Str} {C : Addr} {k j : Nat} {e : Expr} {q : Env → R D} {p pos pos' : Pos}
theorem ds_raiseA (hc : X.calm = true) (T : XFld X.prog X.w X.K X.mg X.base k x C fld) (hr : Room j X.A) (hkj : k + 1 ≤ j) (tk : Takes X W) (hg : Gl X x) (ha : DE X W e q) (hdb : (x == ("__debug__" : Str)) = false := by decide)
    (he : starEach [e] X.env = (false, eval e X.env) :: starEach [] X.env := by rfl) : DS X W (.Raise (some (.Call (.Name x p) [e] [] pos)) none pos') (sRaiseA x fld q) := by
  obtain ⟨fI, fd, ps, iC, tI, hb, Fn⟩ := T.ini
  refine ⟨ps_imp (ps_raise hc tk (pmk_oex T.oC iC tI Fn (hr.mono hkj) hb .nil (fun _ _ _ _ _ _ _ ⟨_, _, _, _, _, _, _, _, _, _, _, _, z⟩ => z.elim) hg T.gC (pa_cons ha.pe pa_nil he) hdb he rfl)) fun Z σ H ⟨F0, H0, F, ρ, r, k1⟩ => ?_⟩
  show tE X.K X.mg W q σ H _
  refine ⟨F0, H0, F, ρ, r, exB_ok r k1 fun d F1 H1 g k2 v hv => ?_⟩
  have r1 := r.grow g
  cases d with
  | int i =>
    have hv : v = .int i := by cases hv; rfl
    subst hv
    by_cases hl : i.natAbs < 1000
    · simp only [if_pos hl] at k2
      refine ⟨by show 1 ≤ 1000; omega, fun a na => ⟨a, i, rfl, hl, upd_same, fun H2 dx ex nd ne => ⟨rfl, dx, [(fld, .int i)], upd_same, ?_, ?_, ?_⟩⟩⟩
      · rw [upd_ne ne, upd_same]
      · exact (raise_grow (o1 := exd dx [(fld, .int i)]) (o2 := exo a C (some dx)) r1.g.in_ na ex nd ne (.xd [(fld, .int i)])).1
      · have g2 := (raise_grow (o1 := exd dx [(fld, .int i)]) (o2 := exo a C (some dx)) r1.g.in_ na ex nd ne (.xd [(fld, .int i)])).2
        exact k2 (.ref C) (some dx) _ _ σ g2.f (r1.grow g2) ⟨C, T.gC, rfl, .inr ⟨dx, [(fld, .int i)], by simp, rfl, upd_same, rfl, .cons (.int i) .nil⟩⟩
    · simp only [if_neg hl] at k2
      exact k2.elim
  | _ => exact k2.elim
end
/-! ### e.f in the suite of the error e -/
/-- every class of ns that has the field f -/
structure FldF (K : PySem.W.Frag) (mg : Str → Option Value) (fld : Str) (ns : List Str) : Prop where
  all : ∀ n ∈ ns, ∃ Dn, mg n = some (.ref Dn) ∧ XfC K Dn ∧ PySem.W.findIn K (.ref Dn) fld = some none
def xFld (ns : List Str) (fld : Str) : Exc → Env → R D := fun x _ => if ns.contains x.cls = true then (match x.args.lookup fld with | some d => .ok d | none => .bad) else .bad
theorem look_da {K : PySem.W.Frag} {F : Hp} {f : Str} {d : D} : ∀ {as : List (Str × D)} {fs : List (Str × V)}, fs.map (·.1) = as.map (·.1) → DaAll K F (fs.map (·.2)) (as.map (·.2)) → as.lookup f = some d → ∃ v, fs.lookup f = some v ∧ Da K F v d
  | [], _, _, _, h => (by cases h)
  | (n, x) :: as, [], e, _, _ => by simp at e
  | (n, x) :: as, (m, y) :: fs, e, a, h => by
    obtain ⟨rfl, e2⟩ : m = n ∧ fs.map (·.1) = as.map (·.1) := by simpa using e
    cases a with
    | cons a1 a2 =>
      by_cases hf : f = m
      · subst hf
        have h : some x = some d := by simpa [List.lookup] using h
        cases h
        exact ⟨y, by simp [List.lookup], a1⟩
      · have hb : (f == m) = false := by simpa using hf
        simp only [List.lookup, hb] at h ⊢
        exact look_da e2 a2 h
section
variable {X : Cx} {i : Nat}
theorem ex_fld {xn fld : Str} {p1 pos : Pos} {ns : List Str} (T : FldF X.K X.mg fld ns) (hN : X.N[i]? = some xn := by rfl) (hv : Vis X.env.scope xn := by first | exact Or.inl rfl | exact Or.inr (Or.inl rfl) | exact Or.inr (Or.inr rfl))
    (hd : (xn == ("__debug__" : Str)) = false := by decide) (hcd : (xn == ("__classdict__" : Str)) = false := by decide) (hb : attributeBase (.Name xn p1) fld X.env (eval (.Name xn p1) X.env) = eval (.Name xn p1) X.env := by rfl) :
    EX X i (.Attribute (.Name xn p1) fld pos) (xFld ns fld) := by
  refine ⟨fun a ob cls dd pn z w => ?_⟩
  by_cases hcl : ∃ n ∈ ns, ∃ Dn, X.mg n = some (.ref Dn) ∧ cls = .ref Dn
  · obtain ⟨n, hn, Dn, hDn, rfl⟩ := hcl
    obtain ⟨Dn', h1, h2, h3⟩ := T.all n hn
    rw [hDn] at h1
    cases h1
    refine pe_imp (pe_xf h2 h3 z w (pe_var hN hv hd hcd) hb) fun σ H Q ⟨F0, H0, F, ρ, x, r, hs, hx, k⟩ => ?_
    unfold xFld at k
    by_cases hc : ns.contains x.cls = true
    · simp only [if_pos hc] at k
      obtain ⟨C', c1, c2, c3⟩ := hx
      cases hl : x.args.lookup fld with
      | none => rw [hl] at k; exact k.elim
      | some d =>
        rw [hl] at k
        rcases c3 with ⟨c3, _⟩ | ⟨dx, fs, _, c4, c5, c6, c7⟩
        · rw [c3] at hl; cases hl
        · obtain ⟨v, v1, v2⟩ := look_da c6 c7 hl
          exact ⟨.ref a, hs, rfl, rfl, dx, fs, v, c4, r.g.in_ _ _ c5, v1, k F H (.refl r.g.in_) v v2⟩
    · simp only [if_neg hc] at k
      exact k.elim
  · refine pe_imp (t := fun _ _ _ => False) ⟨fun _ _ _ _ _ _ z => z.elim⟩ fun σ H Q ⟨F0, H0, F, ρ, x, r, hs, hx, k⟩ => ?_
    obtain ⟨C', c1, c2, c3⟩ := hx
    unfold xFld at k
    by_cases hc : ns.contains x.cls = true
    · exact hcl ⟨x.cls, by simpa using hc, C', c1, c2⟩
    · simp only [if_neg hc] at k
      exact k.elim
/-- (text, e) -/
def xPair (t : Str) (f : Exc → Env → R D) : Exc → Env → R D := fun x ρ => (f x ρ).bind fun d => .ok (.tuple [.str t, d])
theorem ex_pair {t : Str} {e : Expr} {f : Exc → Env → R D} {k j : Nat} {p1 pos : Pos} (h : EX X i e f) (he : ∀ X' : Cx, X'.env = X.env → starEach [.Constant (.str t) j p1, e] X'.env = (false, eval (.Constant (.str t) j p1) X'.env) :: starEach [e] X'.env := by intro _ _; rfl)
    (he2 : ∀ X' : Cx, X'.env = X.env → starEach [e] X'.env = (false, eval e X'.env) :: starEach [] X'.env := by intro _ _; rfl) :
    EX X i (.Tuple [.Constant (.str t) j p1, e] k pos) (xPair t f) :=
  ⟨fun a ob cls dd pn z w => pe_imp (pe_tup (pa_cons pe_str (pa_cons (h.pe a ob cls dd pn z w) pa_nil (he2 _ rfl)) (he _ rfl))) fun σ H Q ⟨F0, H0, F, ρ, x, r, hs, hx, k1⟩ => by
    show tEx X.K X.mg i a cls dd f σ H _
    refine ⟨F0, H0, F, ρ, x, r, hs, hx, (ROk.step (r := f x ρ) k1).imp fun d F' H' _ g q v hv => ?_⟩
    refine ⟨by show 2 ≤ sizeLine; rw [sizeLine_eq]; omega, fun p hp => ?_⟩
    have g2 := Grow.made (o := .tup [.str t, v]) g.in_ hp
    exact q _ _ g2 (.ref p) (.tup (.inl (.inl upd_same)) (.cons (.str t) (.cons (hv.up g2.f) .nil)))⟩
end
/-! ### for the printed texts -/
def clsBody (s : Stmt) : List Stmt := match s with
  | .ClassDef _ _ _ b _ _ _ _ _ _ _ => b
  | _ => []
theorem ini_len : ∀ n : Nat, n < 1000 → (PySem.Str.ofString (toString (n : Int))).length ≤ 90000 ∧ (PySem.Str.ofString (toString (-(n : Int)))).length ≤ 90000 := by decide +kernel
theorem ini_str (i : Int) (h : i.natAbs < 1000) : (PySem.Str.ofString (toString i)).length ≤ 90000 ∧ i.natAbs.log2 < 1920 := by
  refine ⟨?_, ?_⟩
  · obtain ⟨a, b⟩ := ini_len _ h
    rcases Int.natAbs_eq i with e | e
    · rw [e]; exact a
    · rw [e]; exact b
  · by_cases h0 : i.natAbs = 0
    · rw [h0]; decide
    · rw [Nat.log2_lt h0]
      exact Nat.lt_of_lt_of_le h (by decide +kernel)
theorem ini_q (m : Str) (hm : m.length ≤ 1000) (i : Int) (h : i.natAbs < 1000) : ∃ d, cOp oAdd (cC (.str m)) (cBt bStr (aCons (cBor 1) aNil)) [.no, .val (.int i), .no] = .ok d := by
  obtain ⟨a, b⟩ := ini_str i h
  refine ⟨.str (m ++ PySem.Str.ofString (toString i)), ?_⟩
  have e1 : cBt bStr (aCons (cBor 1) aNil) [.no, .val (.int i), .no] = .ok (.str (PySem.Str.ofString (toString i))) := by
    show ofO (if i.natAbs.log2 < 1920 then some (PyData.str (PySem.Str.ofString (toString i))) else none) = _
    rw [if_pos b]
    rfl
  show (cBt bStr (aCons (cBor 1) aNil) [.no, .val (.int i), .no]).bind (fun y => ofO (oAdd (PyData.str m) y)) = _
  rw [e1]
  show ofO (if m.length + (PySem.Str.ofString (toString i)).length ≤ 100000 then some _ else none) = _
  rw [if_pos (by omega)]
  rfl
structure ExcG (K : PySem.W.Frag) (mg : Str → Option Value) (x : Str) (C : Addr) (fld : Str) : Prop where
  gC : mg x = some (.ref C)
  oC : OexC K C
  bC : PySem.W.subIn K (.ref C) (.type "BaseException") = some true
  tC : PySem.W.typeIn K (.ref C) = some (.type "type")
  hC : PySem.W.hasDictIn K C = true
  xf : XfC K C
  nof : PySem.W.findIn K (.ref C) fld = some none
end DL

/-! DLD -/
/-! sorted(set(x)) of texts -/
namespace DL
open PySem L2 PySem.Spec PyProof.Rows
/-! ### a set of texts on the heap: xs its members, each once -/
def keyT (e : Int × Value) : Str := match e.2 with
  | .str x _ => x
  | _ => Str.empty
def GoodT (w : World) (e : Int × Value) : Prop := ∃ x tk, e.2 = Value.str x tk ∧ e.1 = hashStr w x
def SetT (w : World) (h : Heap) (a : Addr) (xs : List Str) : Prop := ∃ o es ep t, h.get? a = some o ∧ o.ExactSet ∧ o.data = .set es ep t ∧ (∀ e ∈ es.toList, GoodT w e) ∧ (es.toList.map keyT).Perm xs ∧ xs.Nodup ∧
  xs.length < scanBound ∧ t.fits es.size = true ∧ Ris t.place.toList ∧ (w.params.followText "set-order" = true ∨ t.led = true)
theorem SetT.at {w : World} {h h' : Heap} {a : Addr} {xs : List Str} (R : SetT w h a xs) (k : ∀ o, h.get? a = some o → h'.get? a = some o) : SetT w h' a xs := by
  obtain ⟨o, es, ep, t, ho, r⟩ := (R)
  (exact ⟨o, es, ep, t, k o ho, r⟩)
section
variable {P : Program} {w : World}
theorem goodT_elems {l : List (Int × Value)} (g : ∀ e ∈ l, GoodT w e) : ElemsOf (PySem.strKind P w) l := fun e he => by
  obtain ⟨x, tk, h1, h2⟩ := g e he
  refine ⟨⟨x, ?_, h2⟩, ?_⟩
  · rw [h1]; exact strKind_is P w x tk
  · rw [h1]; rfl
theorem goodT_is {e : Int × Value} (g : GoodT w e) (x : Str) : (PySem.strKind P w).is x e.2 = true ↔ keyT e = x := by
  obtain ⟨y, tk, h1, _⟩ := g
  have hy : (PySem.strKind P w).is y e.2 = true := by rw [h1]; exact strKind_is P w y tk
  have ky : keyT e = y := by unfold keyT; rw [h1]
  rw [ky]
  constructor
  · intro h
    exact ((PySem.strKind P w).inj _ _ _ h hy).symm
  · intro h
    rw [← h]
    exact hy
end
section
variable {P : Program} {w : World} {A : Around} {E : Value → Shared → Prop} {s : Shared} {a : Addr}
def addT (x : Str) (xs : List Str) : List Str := if x ∈ xs then xs else x :: xs
/-- the new entries laid down, the table grown where it is too full -/
theorem setT_tail {g : Bool → Sem Unit} (hg : ∀ (b : Bool) (s₁ : Shared) (Q' : Unit → Shared → Prop), Q' () s₁ → wpAny (model P w) A (g b) Q' E s₁) {o : Obj} {es : Array (Int × Value)} {ep : Nat} {t : SetTable}
    (ho : s.heap.get? a = some o) (hex : o.ExactSet) (hd : o.data = .set es ep t) {es1 : Array (Int × Value)} {t2 : SetTable} {ys : List Str} (g1 : ∀ e ∈ es1.toList, GoodT w e) (p1 : (es1.toList.map keyT).Perm ys) (n1 : ys.Nodup)
    (b1 : ys.length < scanBound) (f2 : t2.fits es1.size = true) (r2 : Ris t2.place.toList) (l2 : w.params.followText "set-order" = true ∨ t2.led = true) {dm : Bool} {R : Option Bool → Shared → Prop}
    (hR : ∀ h', Heap.SameBut a s.heap h' → SetT w h' a ys → R (some true) { s with heap := h' }) :
    wpAny (model P w) A (do
        storeSet a es1 t2
        if (!dm && t2.tooFull) = true then do
            g ((relayAll t2 es1 (SetTable.grown es1.size)).2.2)
            storeSet a ((relayAll t2 es1 (SetTable.grown es1.size)).1) ((relayAll t2 es1 (SetTable.grown es1.size)).2.1)
            pure (some true)
          else pure (some true)) (R) E s := by
  have z1 : es1.size = ys.length := by rw [← p1.length_eq, List.length_map, Array.length_toList]
  have c1 : es1.size < scanBound := z1 ▸ b1
  refine wpAny_bind (wpAny_storeSet_of ho hd ?_ (fits_of_scanBound c1))
  have at1 := store_at (es' := es1) (t' := t2) ho hd
  have sb := Heap.SameBut.update s.heap a (Obj.putSet es1 t2)
  by_cases full : (!dm && t2.tooFull) = true
  · rw [if_pos full]
    have q1 := relayAll_perm t2 es1 (SetTable.grown es1.size)
    have q2 := relayAll_fits t2 es1 (SetTable.grown es1.size)
    have q3 := relayAll_ris t2 es1 (SetTable.grown es1.size)
    have q4 := relayAll_led t2 es1 (SetTable.grown es1.size)
    generalize relayAll t2 es1 (SetTable.grown es1.size) = Z at q1 q2 q3 q4 ⊢
    obtain ⟨es2, t3, gw⟩ := Z
    dsimp only at q1 q2 q3 q4 ⊢
    have z2 : es2.size < scanBound := by
      have e := q1.length_eq
      rw [Array.length_toList, Array.length_toList] at e
      rw [e]; exact c1
    refine wpAny_bind (hg _ _ _ (wpAny_bind (wpAny_storeSet_of at1 rfl ?_ (fits_of_scanBound z2))))
    refine wpAny_pure (hR _ (sb.trans (Heap.SameBut.update _ a _)) ⟨_, es2, _, t3, store_at (es' := es2) (t' := t3) at1 rfl, hex, rfl, fun e he => g1 e (q1.mem_iff.mp he), (q1.map keyT).trans p1, n1, b1, q2, q3, ?_⟩)
    exact l2.imp id fun z => by rw [q4]; exact z
  · rw [if_neg full]
    exact wpAny_pure (hR _ sb ⟨_, es1, _, t2, at1, hex, rfl, g1, p1, n1, b1, f2, r2, l2⟩)
theorem setT_add {x : Str} {tk : Tok} {xs : List Str} {Q : Bool → Shared → Prop} (R : SetT w s.heap a xs) (room : xs.length + 1 < scanBound)
    (hQ : ∀ (b : Bool) h', Heap.SameBut a s.heap h' → SetT w h' a (addT x xs) → Q b { s with heap := h' }) :
    wpAny (model P w) A (setAddHashed a (.str x tk) ((PySem.strKind P w).hash x)) Q E s := by
  obtain ⟨o, es, ep, t, ho, hex, hd, g, pm0, nd, hb0, hf, hr, hl⟩ := R
  have hn : es.size = xs.length := by rw [← pm0.length_eq, List.length_map, Array.length_toList]
  have hb : es.size < scanBound := by rw [hn]; exact hb0
  have isk : (PySem.strKind P w).is x (.str x tk) = true := strKind_is P w x tk
  have scn : (Value.str x tk).scannable = true := by rfl
  have els : ElemsOf (PySem.strKind P w) es.toList := goodT_elems g
  (unfold setAddHashed setAddHashedIn)
  (refine wpAny_holding (wpAny_bind (wpAny_setState_of ho hd hf ?_)))
  dsimp only
  rw [byScan_of scn hb els]
  simp only [↓reduceIte]
  unfold setAddByScan
  refine wpAny_bind (wpAny_bind (wpAny_rule (wpAny_bind (wpAny_setScan_of isk ho hd hf els ?_))))
  cases fnd : List.findIdx? (fun e => (PySem.strKind P w).is x e.2) es.toList with
  | some j =>
    dsimp only
    obtain ⟨hj, pj, _⟩ := List.findIdx?_eq_some_iff_getElem.mp fnd
    have hx : x ∈ xs := pm0.mem_iff.mp (List.mem_map.mpr ⟨es.toList[j], List.getElem_mem hj, (goodT_is (P := P) (g _ (List.getElem_mem hj)) x).mp pj⟩)
    have e1 : addT x xs = xs := if_pos hx
    refine wpAny_pure (wpAny_pure (hQ _ s.heap (Heap.SameBut.refl a s.heap) ?_))
    rw [e1]
    exact ⟨o, es, ep, t, ho, hex, hd, g, pm0, nd, hb0, hf, hr, hl⟩
  | none =>
    dsimp only
    have hx : x ∉ xs := fun z => by
      obtain ⟨e, he, q⟩ := List.mem_map.mp (pm0.mem_iff.mpr z)
      have c := List.findIdx?_eq_none_iff.mp fnd e he
      rw [(goodT_is (P := P) (g e he) x).mpr q] at c
      cases c
    have e1 : addT x xs = x :: xs := if_neg hx
    have gave_ok : ∀ (b : Bool) {s₁ : Shared} {Q' : Unit → Shared → Prop}, Q' () s₁ → wpAny (model P w) A (match b with | true => rule "set.scan.the-table-gave-way" | false => pure ()) Q' E s₁ :=
      fun b s₁ Q' q => by (cases b <;> first | exact wpAny_pure q | exact wpAny_rule q)
    have y1 := layNew_perm t es ((PySem.strKind P w).hash x) (.str x tk)
    have y2 := layNew_fits t es ((PySem.strKind P w).hash x) (.str x tk)
    have y3 := layNew_ris t es ((PySem.strKind P w).hash x) (.str x tk) hr
    have y4 := layNew_led t es ((PySem.strKind P w).hash x) (.str x tk)
    generalize layNew t es ((PySem.strKind P w).hash x) (.str x tk) = Z at y1 y2 y3 y4 ⊢
    obtain ⟨es1, t1, dm, gw⟩ := Z
    dsimp only at y1 y2 y3 y4 ⊢
    rw [Array.toList_push] at y1
    have pc : es1.toList.Perm (((PySem.strKind P w).hash x, Value.str x tk) :: es.toList) := y1.trans (List.perm_append_singleton _ _)
    have g1 : ∀ e ∈ es1.toList, GoodT w e := fun e he => by
      rcases (List.mem_cons.mp (pc.mem_iff.mp he)) with z | z
      · rw [z]; exact ⟨x, tk, rfl, rfl⟩
      · exact g e z
    have p1 : (es1.toList.map keyT).Perm (x :: xs) := (pc.map keyT).trans (List.Perm.cons x pm0)
    have n1 : (x :: xs).Nodup := List.nodup_cons.mpr ⟨hx, nd⟩
    have led1 : w.params.followText "set-order" = true ∨ t1.led = true := hl.imp id fun z => by rw [y4]; exact z
    have fin : ∀ h', Heap.SameBut a s.heap h' → SetT w h' a (x :: xs) → Q true { s with heap := h' } := fun h' sb r => hQ true h' sb (by rw [e1]; exact r)
    have len1 : (x :: xs).length < scanBound := room
    refine wpAny_bind (gave_ok _ ?_)
    split
    · refine wpAny_bind ?_
      rw [hashByValue_scannable 8 scn]
      refine wpAny_pure (setT_tail ?_ ho hex hd g1 p1 n1 len1 ?_ ?_ ?_ fun h' sb r => ?_)
      · (intro b s₁ Q' q; cases b <;> first | exact wpAny_pure q | exact wpAny_rule q)
      · first | (split <;> first | exact y2 | exact SetTable.fits_plain_off y2) | exact y2
      · first | (split <;> exact y3) | exact y3
      · first | (split <;> exact led1) | exact led1
      · dsimp only; exact wpAny_pure (fin h' sb r)
    · (refine wpAny_bind (wpAny_pure ?_))
      simp only [↓reduceIte]
      refine setT_tail ?_ ho hex hd g1 p1 n1 len1 y2 y3 led1 fun h' sb r => ?_
      · (intro b s₁ Q' q; cases b <;> first | exact wpAny_pure q | exact wpAny_rule q)
      · dsimp only; exact wpAny_pure (fin h' sb r)
end
section
variable {P : Program} {w : World} {A : Around} {s : Shared} {E : Value → Shared → Prop}
/-- the members behind the first i -/
def metT (xs : List Str) : Nat → List Str
  | 0 => []
  | i + 1 => match xs[i]? with
    | some x => addT x (metT xs i)
    | none => metT xs i
theorem metT_len (xs : List Str) : ∀ i, (metT xs i).length ≤ i
  | 0 => Nat.le_refl _
  | i + 1 => by
    have := metT_len xs i
    unfold metT
    split
    · unfold addT; split <;> simp <;> omega
    · omega
theorem metT_nd (xs : List Str) : ∀ i, (metT xs i).Nodup
  | 0 => List.nodup_nil
  | i + 1 => by
    have := metT_nd xs i
    unfold metT
    split
    · unfold addT
      split
      · exact this
      · exact List.nodup_cons.mpr ⟨by assumption, this⟩
    · exact this
theorem metT_mem (xs : List Str) (y : Str) : ∀ i, y ∈ metT xs i ↔ y ∈ xs.take i
  | 0 => by simp [metT]
  | i + 1 => by
    have ih := metT_mem xs y i
    rw [List.take_add_one, List.mem_append]
    unfold metT
    cases h : xs[i]? with
    | none => simpa using ih
    | some x =>
      simp only [Option.toList_some, List.mem_singleton]
      unfold addT
      split
      · rename_i hx
        rw [ih]
        constructor
        · exact .inl
        · rintro (z | rfl)
          · exact z
          · exact ih.mp hx
      · rw [List.mem_cons, ih]
        exact Or.comm
theorem loop_txts {I : Addr} {fp wr : List Addr} {G : Array GenState → Array GenState → Prop} {n : Nat} {Pv : Nat → Value → Prop} {St : Nat → Shared → Prop} {R : Result → Shared → Prop}
    (Wk : WalksS P w A.in1 I fp wr G n Pv St) (S : Addr) (notF : S ∉ fp) (xs : List Str) (hn : n = xs.length) (hb : xs.length + 1 < scanBound) (vals : ∀ i v, Pv i v → ∃ x t, xs[i]? = some x ∧ v = .str x t)
    (goal : ∀ s', Moved (S :: wr) G s s' → SetT w s'.heap S (metT xs n) → R (.ok (.ret .none)) s') : ∀ (k i : Nat) (s2 : Shared), i + k = n → St i s2 → SetT w s2.heap S (metT xs i) →
      (∀ s', Moved (S :: wr) G s2 s' → Moved (S :: wr) G s s') → codeAny (model P w) A (.builtin "set.update.loop" ⟨[.ref S, .ref I], []⟩) R s2 := by
  have notW : S ∉ wr := fun h => notF (Wk.sub _ h)
  have wider : ∀ b ∈ wr, b ∈ S :: wr := fun b hb => List.mem_cons_of_mem _ hb
  intro k
  induction k with
  | zero =>
    intro i s2 hk st hS mv
    have hin : i = n := hk
    subst hin
    refine codeAny_builtin F.entry_set_update_loop (?_)
    (rw [Around.under_plainId F.plain_set_update_loop _])
    show wpAny _ A.in1 (pyNext (.ref I) >>= _) _ _ s2
    refine wpAny_bind (Wk.done s2 _ _ st fun s' hm => ?_)
    (show wpAny _ A.in1 (ret Value.none) _ _ s')
    exact wpAny_pure (goal s' (mv s' (hm.mono wider)) (hS.at fun o e => hm.heap S o notW e))
  | succ k ih =>
    intro i s2 hk st hS mv
    have lt : i < n := by omega
    refine codeAny_builtin F.entry_set_update_loop (?_)
    (rw [Around.under_plainId F.plain_set_update_loop _])
    show wpAny _ A.in1 (pyNext (.ref I) >>= _) _ _ s2
    refine wpAny_bind (Wk.item i s2 _ _ lt st fun v s' hP st' hm => ?_)
    obtain ⟨x, t, hx, rfl⟩ := vals i v hP
    have hS' : SetT w s'.heap S (metT xs i) := hS.at fun o e => hm.heap S o notW e
    show wpAny _ A.in1 (holding [Value.str x t] (setAdd S (.str x t)) >>= _) _ _ s'
    (refine wpAny_bind (wpAny_holding ?_))
    unfold setAdd
    refine wpAny_holding (wpAny_bind ((PySem.strKind P w).pyHash (k := x) (strKind_is P w x t) ?_))
    have room : (metT xs i).length + 1 < scanBound := by
      have := metT_len xs i
      omega
    refine setT_add (s := { s' with toks := s'.toks + 1 }) hS' room fun b h' sb hS2 => ?_
    have e1 : addT x (metT xs i) = metT xs (i + 1) := by
      show _ = (match xs[i]? with | some x => addT x (metT xs i) | none => metT xs i)
      rw [hx]
    rw [e1] at hS2
    refine wpAny_pure ⟨plainId_quiet F.plain_set_update_loop _, ih (i + 1) _ (by omega) (Wk.frame _ s' _ _ st' (Nat.le_succ _) fun b hb o e => ?_) hS2 fun s'' hm'' => mv s'' ?_⟩
    · rw [sb.2 b (fun h : b = S => notF (by rw [← h]; exact hb))]; exact e
    · refine Moved.trans Wk.gtrans ((hm.mono wider).then_heap (Nat.le_succ _) fun b o hb e => ?_) hm''
      rw [sb.2 b (fun h : b = S => hb (by rw [h]; exact List.mem_cons_self))]; exact e
theorem setT_new {h : Heap} {a : Addr} {xs : List Str} (ho : h.get? a = some (nset w)) : SetT w h a (metT xs 0) := by
  refine ⟨_, #[], 0, _, ho, ⟨rfl, rfl, rfl⟩, rfl, fun e he => by simp at he, .nil, .nil, (by show 0 < scanBound; decide), rfl, List.Pairwise.nil, ?_⟩
  (show _ ∨ (!w.params.followText "set-order") = true)
  (cases w.params.followText "set-order")
  · exact .inr rfl
  · exact .inl rfl
/-- what set.__init__ leaves at the new set's place -/
def FilledT (w : World) (s : Shared) (xs : List Str) (r : Value) (t : Shared) : Prop :=
  r = .none ∧ ∃ h1 k, t = { s with heap := h1, toks := k } ∧ SetT w h1 s.heap.objs.size (metT xs xs.length) ∧ ∀ b u, s.heap.get? b = some u → h1.get? b = some u
set_option maxHeartbeats 3300000 in
theorem set_listT {l : Addr} {items : Array Value} (xs : List Str) {Q : Value → Shared → Prop} (nh : A.handled = none) (li : s.heap.IsList l items) (ia : StrsAre items.toList xs) (hb : xs.length + 1 < scanBound)
    (goal : ∀ (h1 : Heap) (k : Nat), SetT w h1 s.heap.objs.size (metT xs xs.length) → (∀ b u, s.heap.get? b = some u → h1.get? b = some u) → Q (.ref s.heap.objs.size) { s with heap := h1, toks := k }) :
    (wpAny (model P w) A (call (.type "set") [.ref l]) Q E s) := by
  have len : items.size = xs.length := (Array.length_toList (xs := items)).symm.trans (StrsAre.len_eq ia)
  obtain ⟨mc, mt, mm⟩ := F.called_set.mro
  have m1 := F.called_set.made; have m2 := F.called_set.sub; have m3 := F.called_set.notType; have m4 := F.called_set.canCreate; have m5 := F.typeCall_set_1 (.ref l)
  refine wpAny_call (codeAny_of_tree (show wpAny _ _ (callAny (.type "set") _) _ _ _ from wpAny_pure ⟨Code.quiet_builtin _ (by decide +kernel), codeAny_builtin F.entry_type_call ?_⟩))
  rw [Around.under_plain (weight_type_call_type "set" [.ref l] []) (by rfl)]
  repeat (any_goals (first | wp_step | assumption))
  refine codeAny_mono (code_set_led1 (.ref l) (E := E) (Q₁ := fun v t => v = .ref s.heap.objs.size ∧ t = { s with heap := s.heap.push (nset w) }) ⟨by rfl, by rfl⟩) fun r t hr => ?_
  match r, hr with
  | .error _, hr => exact hr
  | .ok (.ret v), hr =>
    obtain ⟨rfl, rfl⟩ := hr
    have at0 : (s.heap.push (nset w)).get? s.heap.objs.size = some (nset w) := Heap.get?_push_size _ (by rfl)
    have ty : Shared.TypeIs { s with heap := s.heap.push (nset w) } (.ref s.heap.objs.size) "set" := ⟨_, at0, by rfl⟩
    have i1 := F.called_set.init.lookup; have i2 := F.called_set.init.bind (.ref s.heap.objs.size)
    repeat (any_goals (first | wp_step | assumption))
    refine codeAny_mono (codeAny_call_builtin (R := wants (FilledT w s xs) E) F.called_set.init.plain F.entry_set_init (check_set_init_1 ty ?_)) fun r t hr => ?_
    · obtain ⟨⟨oc, od, oda, osl⟩, g1, g2, nl, g3⟩ := li
      simp only at g2 g3; subst g2; subst g3
      have g1' : (s.heap.push (nset w)).get? l = some ⟨.type "list", od, .seq items nl, osl⟩ := Heap.get?_push_of_some _ g1
      have q1 := F.sub_list_set; have q2 := F.sub_list_frozenset; have q3 : (Value.type "list" == Value.type "dict") = false := by decide
      have li1 : (s.heap.push (nset w)).IsList l items := ⟨_, g1', by rfl, nl, by rfl⟩
      unfold Builtin.«set.__init__» noKeywords; unfold Builtin.Frozenset.updateFrom
      generalize hq : pyIter = PI
      wp_walk
      subst hq
      refine wpAny_pyIter_list li1 (wpAny_bind (wpAny_runValue ?_))
      have lt := Heap.lt_size g1
      have nh3 : A.in1.in1.in1.handled = none := by simp [nh]
      have sz := Heap.size_push s.heap (nset w)
      have ne1 : l ≠ (s.heap.push (nset w)).objs.size := Nat.ne_of_lt (by rw [sz]; exact Nat.lt_succ_of_lt lt)
      have ni : s.heap.objs.size ∉ [(s.heap.push (nset w)).objs.size, l] := fun z => by
        rw [sz] at z
        rcases (List.mem_cons.mp z) with z | z
        · exact Nat.lt_irrefl _ (Nat.lt_of_lt_of_eq (Nat.lt_succ_self _) z.symm)
        · exact Nat.lt_irrefl _ (Nat.lt_of_le_of_lt (Nat.le_of_eq (List.mem_singleton.mp z)) lt)
      refine loop_txts ((Walks.list nh3 _ l ne1 items).toS) s.heap.objs.size ni xs len hb (fun i v hv => ?_) (fun t hm hS => ?_) items.size 0 _ (by omega) ⟨⟨_, Heap.get?_push_size _ (by rfl), by rfl, by rfl⟩, li1.push _⟩
        (setT_new (Heap.get?_push_of_some _ at0)) fun _ z => z
      · have hi : i < xs.length := by rw [← len]; exact (Array.getElem?_eq_some_iff.mp hv).1
        obtain ⟨tk, e⟩ := SS.strs_at ia i v (by rw [Array.getElem?_toList]; exact hv)
        exact ⟨xs[i], tk, List.getElem?_eq_getElem hi, by rw [e, List.getD_eq_getElem?_getD, List.getElem?_eq_getElem hi] <;> rfl⟩
      · obtain ⟨h1, ge, dr, k, os⟩ := t
        obtain rfl : ge = s.gens := hm.gens
        obtain rfl : dr = s.drawn := hm.drawn
        obtain rfl : os = s.os := hm.os
        show wpAny _ _ _ _ _ _
        refine wpAny_pure ?_
        show wpAny _ _ (ret .none) _ _ _
        rw [len] at hS
        refine wpAny_pure ⟨rfl, h1, k, rfl, hS, fun b u e => hm.heap b u (fun z => ?_) (Heap.get?_push_of_some _ (Heap.get?_push_of_some _ e))⟩
        have lb := Heap.lt_size e
        rcases (List.mem_cons.mp z) with z | z
        · exact Nat.lt_irrefl _ (Nat.lt_of_le_of_lt (Nat.le_of_eq z.symm) lb)
        · have z2 := List.mem_singleton.mp z
          rw [sz] at z2
          exact Nat.lt_irrefl _ (Nat.lt_trans (Nat.lt_of_le_of_lt (Nat.le_of_eq z2.symm) lb) (Nat.lt_succ_self _))
    · match r, hr with
      | .error _, hr => exact hr
      | .ok (.ret _), hr =>
        obtain ⟨rfl, h1, k, rfl, g1, g3⟩ := hr
        repeat (any_goals (first | wp_step | assumption))
        exact goal _ _ g1 g3
      | .ok .next, hr => exact hr.elim
      | .ok .brk, hr => exact hr.elim
      | .ok .cont, hr => exact hr.elim
  | .ok .next, hr => exact hr.elim
  | .ok .brk, hr => exact hr.elim
  | .ok .cont, hr => exact hr.elim
end
/-! ### over the layer -/
def SetTO (w : World) (a : Addr) (xs : List Str) : HO := .ext fun h => SetT w h a xs
section
variable {X : Cx}
theorem setTO_new {w : World} {P : Program} {H : Hp} {h : Heap} {a : Addr} {xs : List Str} (R : SetT w h a xs) : ObjOk P w H h a (SetTO w a xs) := by
  obtain ⟨o, _, _, _, ho, _⟩ := id R
  exact ⟨R, ⟨o, ho⟩, fun h1 h2 p k => SetT.at p k⟩
theorem setTO_get {pins : List (Addr × Obj)} {σ : L2.St} {H : Hp} {s : Shared} {a : Addr} {xs : List Str} (I : Inv X pins σ H s) (ha : H a = some (SetTO X.w a xs)) : SetT X.w s.heap a xs := (I.hok a _ ha).1
/-- set(x), x a list of texts -/
def rSetTL (K : PySem.W.Frag) (w : World) : List V → Hp → VK → Prop := fun vs H Q => ∃ (l : Addr) (xs : List Str), vs = [V.ref l] ∧ SqL K H l (xs.map V.str) ∧ xs.length ≤ 4000 ∧
  ∀ p : Addr, H p = none → Q (.ref p) (upd H p (SetTO w p (metT xs xs.length)))
theorem cr_setTL (hc : X.calm = true) : CallR X (.type "set") (rSetTL X.K X.w) := by
  intro pins s σ H vs us Q I r; intro h
  obtain ⟨l, xs, rfl, hs, hl, q⟩ := h
  rw [Vals.ref1 r]
  have bd : xs.length + 1 < scanBound := by unfold scanBound; omega
  obtain ⟨its, rv, hq, hz⟩ := I.list hs
  refine set_listT xs (I.ok.hd hc) hq.isList (by simpa using rv.strs) bd fun h1 k R keep => ?_
  exact ⟨.ref _, upd H s.heap.objs.size (SetTO X.w s.heap.objs.size (metT xs xs.length)), I.laid (t' := k) keep (Nat.le_refl _) (setTO_new R), rfl, q _ (I.hok.fresh (Nat.le_refl _))⟩
end
end DL

/-! DLE -/
/-! sorted(s), s a set of texts -/
namespace DL
open PySem L2 PySem.Spec PyProof.Rows
section
variable {X : Cx}
theorem strs_from {w : World} : ∀ {l : List (Int × Value)}, (∀ e ∈ l, GoodT w e) → StrsAre (l.map (·.2)) (l.map keyT)
  | [], _ => .nil
  | e :: l, h => by
    obtain ⟨x, tk, h1, _⟩ := h e List.mem_cons_self
    have hk : keyT e = x := by unfold keyT; rw [h1]
    rw [List.map_cons, List.map_cons, h1, hk]
    exact .cons x tk (strs_from fun y hy => h y (List.mem_cons_of_mem _ hy))
theorem strs_perm : ∀ {us vs : List Value}, us.Perm vs → ∀ {xs : List Str}, StrsAre vs xs → ∃ ys, StrsAre us ys ∧ ys.Perm xs := by
  intro us vs p
  induction p with
  | nil => intro xs h; exact ⟨xs, h, .refl _⟩
  | cons a _ ih =>
    intro xs h
    cases h with
    | cons x t r =>
      obtain ⟨ys, h1, h2⟩ := ih r
      exact ⟨x :: ys, .cons x t h1, h2.cons x⟩
  | swap a b l =>
    intro xs h
    cases h with
    | cons x t r =>
      cases r with
      | cons y u r => exact ⟨y :: x :: _, .cons y u (.cons x t r), .swap ..⟩
  | trans _ _ ih1 ih2 =>
    intro xs h
    obtain ⟨ys, h1, h2⟩ := ih2 h
    obtain ⟨zs, h3, h4⟩ := ih1 h1
    exact ⟨zs, h3, h4.trans h2⟩
def rSortedST (w : World) : List V → Hp → VK → Prop := fun vs H Q => ∃ (a : Addr) (xs : List Str), vs = [V.ref a] ∧ H a = some (SetTO w a xs) ∧ xs.length ≤ 4000 ∧
  ∀ (ys : List Str) (p : Addr), (ys.Perm xs → sortedS ys = true → H p = none → Q (.ref p) (upd H p (.lst (ys.map V.str))))
theorem cr_sortedST (hc : X.calm = true) : CallR X (.builtin "sorted") (rSortedST X.w) := by
  intro pins s σ H vs us Q I r; intro h
  obtain ⟨a, xs, rfl, ha, hn4, q⟩ := h
  obtain ⟨o, es, ep, t, ho, hex, hd, good, pm0, nd, hb0, hf, ris, led⟩ := setTO_get I ha
  have hn : es.size = xs.length := by rw [← pm0.length_eq, List.length_map, Array.length_toList]
  rw [Vals.ref1 r]
  refine Calls.call_function_entry kind_sorted plain_sorted entry_sorted (args_sorted1 _) (?_)
  unfold Builtin.«sorted»
  refine wpAny_bind (m := checkCount "sorted" 1 1 _) (wpAny_pure (wpAny_bind (collect_set (A := X.A.in1) (I.ok.hd hc) ⟨o, ho, hex.1, hd⟩ hf (by rw [hn]; exact hb0) ris led fun s1 vs1 k1 z1 g1 o1 pm => ?_)))
  have vl : vs1.length = xs.length := by rw [pm.length_eq, List.length_map, Array.length_toList]; exact hn
  have vz : vs1.length ≤ sizeLine := by rw [vl, sizeLine_eq]; omega
  obtain ⟨ws, sa, wp⟩ := strs_perm pm (strs_from good)
  have wx : ws.Perm xs := wp.trans pm0
  refine wpAny_bind (wpAny_newList ?_ vz)
  have hL : (s1.heap.push (seqObj "list" vs1.toArray 0)).get? s1.heap.objs.size = some (seqObj "list" vs1.toArray 0) := Heap.get?_push_size _ (by rfl)
  refine wpAny_bind (wpAny_holding (wpAny_call_entry slot_list_sort ⟨_, hL, by rfl⟩ entry_list_sort (list_sort_treeKAny strKind_oneLt hL sa.keysOf (fun v₁ v₂ rest e => keyKind_strs (by rw [← e]; exact sa)) vz fun st' hp hs => ⟨.none, rfl, ?_⟩) (args_list_sort _)))
  obtain ⟨ys, y1, y2, y3⟩ := sorted_out_str sa hp hs
  obtain ⟨c, hcs⟩ := sortedHeap_at (vs := vs1) (out := (arrOf st').map (·.2)) hL
  have old : ∀ b u, s.heap.get? b = some u → (sortedHeap (s1.heap.push (seqObj "list" vs1.toArray 0)) s1.heap.objs.size vs1 ((arrOf st').map (·.2))).get? b = some u := fun b u e => by
    have e1 := k1 b u e
    have lt := Heap.lt_size e1
    rw [sortedHeap_old (Nat.ne_of_lt lt) (by rw [size_push']; exact Nat.lt_succ_of_lt lt)]
    exact Heap.get?_push_of_some _ e1
  have yx : ys.Perm xs := y2.trans wx
  have hlen : (ys.map V.str).length ≤ sizeLine := by rw [List.length_map, yx.length_eq, sizeLine_eq]; omega
  have fresh : H s1.heap.objs.size = none := I.hok.fresh z1
  refine wpAny_pure ⟨_, rfl, .ref s1.heap.objs.size, upd H s1.heap.objs.size (.lst (ys.map V.str)), ?_, rfl, q ys s1.heap.objs.size yx y3 fresh⟩
  have J : Inv X pins σ (upd H s1.heap.objs.size (.lst (ys.map V.str))) { s with heap := sortedHeap (s1.heap.push (seqObj "list" vs1.toArray 0)) s1.heap.objs.size vs1 ((arrOf st').map (·.2)), gens := s1.gens, drawn := s1.drawn, toks := s1.toks } :=
    I.call (ch := []) (Un.laid old z1 fresh) (I.hok.laid old z1 ⟨hlen, _, c, vals_of_strs y1, hcs⟩) (by rw [g1]; exact I.bare) (fun _ z => nomatch z)
  cases s1
  cases s
  cases o1
  exact J
end
end DL

/-! DLF -/
/-! sorted(set(x)) of texts: what it comes to -/
namespace DL
open PySem L2 PySem.Spec PyProof.Rows
def leT (a b : Str) : Prop := ltCps b.cps.toList a.cps.toList = false
theorem leT_iff {a b : Str} : leT a b ↔ a.cps.toList ≤ b.cps.toList := by
  unfold leT
  rw [ltCps_eq, decide_eq_false_iff_not]
  exact Iff.rfl
theorem leT_trans {a b c : Str} (h : leT a b) (k : leT b c) : leT a c := leT_iff.mpr (List.le_trans (leT_iff.mp h) (leT_iff.mp k))
theorem leT_asymm {a b : Str} (h : leT a b) (k : leT b a) : a = b := by
  have e := List.le_antisymm (leT_iff.mp h) (leT_iff.mp k)
  cases a
  cases b
  simpa using e
theorem leT_total (a b : Str) : leT a b ∨ leT b a := by
  rw [leT_iff, leT_iff]
  exact List.le_total ..
theorem rising_pw : ∀ (l : List Str) (p : Str), risingS p l = true → (p :: l).Pairwise leT
  | [], p, _ => List.pairwise_cons.mpr ⟨(fun _ h => by cases h), .nil⟩
  | x :: r, p, h => by
    obtain ⟨h1, h2⟩ : (!ltCps x.cps.toList p.cps.toList) = true ∧ risingS x r = true := Bool.and_eq_true_iff.mp h
    have ih := rising_pw r x h2
    have hp : leT p x := by simpa [leT] using h1
    refine List.pairwise_cons.mpr ⟨fun y hy => ?_, ih⟩
    rcases (List.mem_cons.mp hy) with rfl | hy
    · exact hp
    · exact leT_trans hp ((List.pairwise_cons.mp ih).1 y hy)
theorem sorted_pw {l : List Str} (h : sortedS l = true) : l.Pairwise leT := by
  cases l with
  | nil => exact .nil
  | cons x r => exact rising_pw r x h
def insT (x : Str) : List Str → List Str
  | [] => [x]
  | y :: r => if ltCps y.cps.toList x.cps.toList = true then y :: insT x r else x :: y :: r
def sortT : List Str → List Str
  | [] => []
  | x :: r => insT x (sortT r)
theorem insT_perm (x : Str) : ∀ l : List Str, (insT x l).Perm (x :: l)
  | [] => .refl _
  | y :: r => by
    unfold insT
    split
    · exact ((insT_perm x r).cons y).trans (.swap ..)
    · exact .refl _
theorem sortT_perm : ∀ l : List Str, (sortT l).Perm l
  | [] => .refl _
  | x :: r => (insT_perm x (sortT r)).trans ((sortT_perm r).cons x)
theorem insT_pw (x : Str) : ∀ l : List Str, l.Pairwise leT → (insT x l).Pairwise leT
  | [], _ => List.pairwise_cons.mpr ⟨(fun _ h => by cases h), .nil⟩
  | y :: r, h => by
    obtain ⟨h1, h2⟩ := (List.pairwise_cons).mp h
    unfold insT
    split
    · rename_i c
      have yx : leT y x := by
        rcases leT_total y x with z | z
        · exact z
        · rw [leT, c] at z; cases z
      refine List.pairwise_cons.mpr ⟨fun z hz => ?_, insT_pw x r h2⟩
      rcases List.mem_cons.mp ((insT_perm x r).mem_iff.mp hz) with rfl | hz
      · exact yx
      · exact h1 z hz
    · rename_i c
      have xy : leT x y := by simpa [leT] using c
      refine List.pairwise_cons.mpr ⟨fun z hz => ?_, h⟩
      rcases (List.mem_cons.mp hz) with rfl | hz
      · exact xy
      · exact leT_trans xy (h1 z hz)
theorem sortT_pw : ∀ l : List Str, (sortT l).Pairwise leT
  | [] => .nil
  | x :: r => insT_pw x _ (sortT_pw r)
theorem sortT_one {ys xs : List Str} (p : ys.Perm xs) (s : ys.Pairwise leT) : ys = sortT xs :=
  (p.trans (sortT_perm xs).symm).eq_of_pairwise (fun _ _ _ _ h k => leT_asymm h k) s (sortT_pw xs)
/-- sorted(set(x)), x a list of texts -/
def bSetT : List D → Option D
  | [.list ds] => (strsD ds).bind fun xs => if xs.length ≤ 4000 then some (.list ((sortT (metT xs xs.length)).map .str)) else none
  | _ => none
section
variable {X : Cx} {W : WX} {e : Expr} {q : Env → R (List D)} {pos : Pos}
theorem de_ssetT {p p2 pos2 : Pos} (hc : X.calm = true) (hg : Gl X "sorted") (hm : X.mg "sorted" = none) (hg2 : Gl X "set") (hm2 : X.mg "set" = none) (ha : DAB X W [e] q)
    (he : starEach [.Call (.Name "set" p2) [e] [] pos2] X.env = (false, eval (.Call (.Name "set" p2) [e] [] pos2) X.env) :: starEach [] X.env := by rfl) (he2 : starEach [e] X.env = (false, eval e X.env) :: starEach [] X.env := by rfl)
    (hpl : (backTo pos (starEach [] X.env)).any (·.1) = false := by rfl) (hpl2 : (backTo pos2 (starEach [] X.env)).any (·.1) = false := by rfl) :
    DE X W (.Call (.Name "sorted" p) [.Call (.Name "set" p2) [e] [] pos2] [] pos) (cBt bSetT q) := by
  refine ⟨pe_imp (pe_callB (cr_sortedST hc) hg hm boot_sorted (pa_cons (pe_callTy (cr_setTL hc) hg2 hm2 boot_set ha.pa (by decide) (by decide) he2 hpl2) pa_nil he) (by decide) (by decide) he hpl) fun σ H Q ⟨F0, H0, F, ρ, rp, k⟩ => ⟨F0, H0, F, ρ, rp, (ROk.step (r := q ρ) k).imp fun as F1 H1 _ g1 q1 vs hvs => ?_⟩⟩
  obtain ⟨c, e1, z⟩ := q1.ofO
  unfold bSetT at e1
  split at e1
  · obtain ⟨xs, h1, e2⟩ := Option.bind_eq_some_iff.mp e1
    split at e2
    · rename_i hl
      cases e2
      obtain ⟨x, rfl, b⟩ := bw1 hvs
      obtain ⟨l, us, rfl, hs, hd⟩ := b.list g1.in_
      rw [strsD_some h1] at hd
      have eu := dpa_toStrs hd
      subst eu
      refine ⟨l, xs, rfl, .inl (.inl hs), hl, fun p hp => ⟨p, _, rfl, upd_same, Nat.le_trans (metT_len xs _) hl, fun ys p2 yp ysd hp2 => ?_⟩⟩
      have em := sortT_one yp (sorted_pw ysd)
      subst em
      have g2 := Grow.held (o := SetTO X.w p (metT xs xs.length)) g1.in_ hp
      have g3 := Grow.made (o := .lst ((sortT (metT xs xs.length)).map V.str)) g2.in_ hp2
      exact z _ _ (g2.trans g3) (.ref p2) (.lst upd_same dpa_ofStrs)
    · cases e2
  · cases e1
end
end DL

/-! DLG -/
/-! sorted(xs), xs a list of tuples of ints of any lengths, the first of them empty -/
namespace DL
open PySem L2 PySem.Spec PyProof.Rows
section
variable {prog : Program} {w : World} {A : Around} {s : Shared} {E : Value → Shared → Prop}
theorem call_tup_lt {Q : Value → Shared → Prop} {l b : Addr} {xs ys : Array Value} {e r : Nat → Bool} (hl : s.heap.IsTuple l xs) (hb : s.heap.IsTuple b ys)
    (he : ∀ j (h1 : j < xs.size) (h2 : j < ys.size), SeqAt.EqAt A.in1 s xs[j] ys[j] (e j)) (hr : ∀ j (h1 : j < xs.size) (h2 : j < ys.size), e j = false → SeqAt.RcLt A.in1 s xs[j] ys[j] (r j))
    (h : Q (.bool (SeqAt.firstLt e r (decide (xs.size < ys.size)) (List.range (min xs.size ys.size)))) s) : wpAny (model prog w) A (call (.builtin "tuple.__lt__") [.ref l, .ref b]) Q E s := by
  obtain ⟨⟨c1, d1, q1, z1⟩, o1, e1, n1, f1⟩ := id hl
  obtain ⟨⟨c2, d2, q2, z2⟩, o2, e2, n2, f2⟩ := id hb
  simp only at e1 f1 e2 f2
  subst e1 f1 e2 f2
  exact call_meets F.slot_tuple_lt ⟨_, o1, rfl⟩ F.entry_tuple_lt (F.args_tuple_lt_2 _ _) (SeqAt.tuple_ltAt l b xs ys n1 n2 d1 d2 z1 z2 e r) ⟨o1, o2, he, hr, h⟩
theorem oneLt_tup {xs ys : List D} {a b : Value} {as bs : List Addr} {Q : Bool → Shared → Prop} (ra : Reads s.heap a (.tuple xs) as) (rb : Reads s.heap b (.tuple ys) bs) (hal : PySem.W.alikeAll xs ys = true)
    (hu : A.units + min (PyData.tuple xs).depth (PyData.tuple ys).depth < cLine) (hq : Q (PySem.W.dataLt (.tuple xs) (.tuple ys)) s) : wpAny (model prog w) A (oneLt' true a b) Q E s := by
  cases ra with
  | @tuple l o vs n0 _ as₁ h1 h2 h3 h4 =>
    cases rb with
    | @tuple l' o' ws n' _ bs₁ k1 k2 k3 k4 =>
      have n1 : vs.size = xs.length := (by simpa using SeqAt.ReadsAll.length _ _ _ h4)
      have n2 : ws.size = ys.length := by simpa using SeqAt.ReadsAll.length _ _ _ k4
      rw [PySem.W.dataLt_tuple, ← PySem.W.firstLt_toks xs ys hal, ← n1, ← n2] at hq
      rw [oneLt'_eq]; simp only [if_true]
      refine wpAny_bind (wpAny_cRoomFor (SeqAt.room_here hu) (?_))
      refine wpAny_bind (wpAny_callSpecialIfBound?_slot (T := "tuple") ⟨_, h1, h2⟩ F.slot_tuple_lt (call_tup_lt (e := SeqAt.pairEq xs ys) (r := fun j => PySem.W.dataLt (xs.getD j .none) (ys.getD j .none)) ⟨_, h1, h2, _, h3⟩ ⟨_, k1, k2, _, k3⟩ (fun j j1 j2 => ?_) (fun j j1 j2 hj => ?_) ?_))
      · have z := PySem.W.eqAt_alikeAll xs ys A.in1 s vs.toList ws.toList _ _ h4 k4 hal (SeqAt.room_in hu) j (by simpa using j1) (by simpa using j2)
        simpa using z
      · have z := PySem.W.rcLt_alikeAll xs ys A.in1 s vs.toList ws.toList _ _ h4 k4 hal (SeqAt.room_in hu) j (by simpa using j1) (by simpa using j2) hj
        simpa using z
      · exact wpAny_truthy_bool hq
/-! the kind of the keys -/
def TupV (h : Heap) (v : Value) (p : Array Value → Prop) : Prop := ∃ a o xs n, v = .ref a ∧ h.get? a = some o ∧ o.cls = .type "tuple" ∧ o.data = .seq xs n ∧ p xs
theorem tup_first {M : Model} {v : Value} {p : Array Value → Prop} {Q : Option Value → Shared → Prop} (t : TupV s.heap v p) (h : ∀ xs, p xs → Q xs[0]? s) : wpAny M A (firstOfTuple' v) Q E s := by
  obtain ⟨a, o, xs, n, rfl, ho, hc, hd, hp⟩ := t
  rw [PySem.W.kas_first_eq]
  refine wpAny_bind (PySem.W.Looks.here (show PySem.W.Looks M s.heap (typeOf (.ref a)) o.cls from (PySem.W.Looks.ld ho).andThen .now) ?_)
  (rw [hc, if_neg (by first | decide | simp)])
  exact wpAny_bind (listItems_at ho hd (wpAny_pure (h xs hp)))
theorem tup_rest {M : Model} : ∀ (vs : List Value) {Q : List (Option Value) → Shared → Prop}, (∀ v ∈ vs, TupV s.heap v fun _ => True) → (∀ fs, Q fs s) → wpAny M A (vs.mapM firstOfTuple') Q E s
  | [], Q, _, h => by rw [List.mapM_nil]; exact wpAny_pure (h [])
  | v :: vs, Q, t, h => by
    rw [List.mapM_cons]
    refine wpAny_bind (tup_first (t v List.mem_cons_self) fun xs _ => ?_)
    exact wpAny_bind (tup_rest vs (Q := fun bs s' => wpAny M A (pure (xs[0]? :: bs)) Q E s') (fun z hz => t z (.tail _ hz)) fun fs => wpAny_pure (h _))
theorem tup_kind {M : Model} {v : Value} {vs : List Value} {Q : SortKind → Shared → Prop} (t0 : TupV s.heap v fun xs => xs = #[]) (t : ∀ z ∈ vs, TupV s.heap z fun _ => True) (h : Q oneType' s) : wpAny M A (keyKind' (v :: vs).toArray) Q E s := by
  rw [PyProof.Rows.kat_kind_eq, List.mapM_toArray, map_eq_pure_bind, List.mapM_cons]
  refine wpAny_bind (wpAny_bind (wpAny_bind (tup_first t0 fun xs e => ?_)))
  subst e
  refine wpAny_bind (tup_rest vs (Q := fun bs s' => wpAny M A (pure ((#[] : Array Value)[0]? :: bs)) _ E s') t fun fs => wpAny_pure (wpAny_pure ?_))
  have e0 : (#[] : Array Value)[0]? = none := rfl
  rw [e0, if_neg (by simp), if_neg (by simp), oneTypeOnly'_eq, List.mapM_toArray, map_eq_pure_bind]
  have look : ∀ z ∈ v :: vs, PySem.W.Looks M s.heap (typeOf z) (Value.type "tuple") := fun z hz => by
    have tz : ∃ p, TupV s.heap z p := by
      rcases (List.mem_cons.mp hz) with rfl | hz
      · exact ⟨_, t0⟩
      · exact ⟨_, t z hz⟩
    obtain ⟨p, a, o, xs, n, rfl, ho, hc, _⟩ := tz
    exact hc ▸ (show PySem.W.Looks M s.heap (typeOf (.ref a)) o.cls from (PySem.W.Looks.ld ho).andThen .now)
  refine wpAny_bind (wpAny_bind (wpAny_bind (PySem.W.kas_mapM (r := Value.type "tuple") _ (fun z hz Q' hq => (look z hz).here hq) (wpAny_pure ?_))))
  have hall : ((List.map (fun _ => Value.type "tuple") (v :: vs)).toArray.all fun x => x == Value.type "tuple") = true := by
    (simp only [List.all_toArray, List.all_map, List.all_eq_true])
    intro _ _
    show (Value.type "tuple" == Value.type "tuple") = true
    decide
  have h0 : (List.map (fun _ => Value.type "tuple") (v :: vs)).toArray[0]? = some (Value.type "tuple") := by simp
  rw [h0]
  simp only [hall, if_true]
  (exact wpAny_pure (wpAny_pure h))
/-- tuples of alike data, the first of them empty, can be sorted -/
theorem sortsAt_tup {vs : List Value} {ds : List D} (e : PySem.W.EachIs (fun v d => ∃ as, Reads s.heap v d as) vs (.tuple [] :: ds)) (hal : PySem.W.AllAlike (.tuple [] :: ds)) (ht : ∀ d ∈ ds, ∃ xs, d = .tuple xs) (hu : ∀ d ∈ (.tuple [] :: ds : List D), A.units + d.depth < cLine) :
    PySem.W.SortsAt prog w A s (PySem.W.dataKind s.heap (.tuple [] :: ds)) vs := by
  have ht' : ∀ d ∈ (.tuple [] :: ds : List D), ∃ xs, d = .tuple xs := fun d hd => by
    rcases (List.mem_cons.mp hd) with rfl | hd
    · exact ⟨[], rfl⟩
    · exact ht d hd
  have tv : ∀ {v : Value} {xs : List D} {as : List Addr} {p : Array Value → Prop}, Reads s.heap v (.tuple xs) as → (∀ a : Array Value, a.size = xs.length → p a) → TupV s.heap v p := fun {v xs as p} r hp => by
    cases r with
    | @tuple l o us n _ _ h1 h2 h3 h4 => exact ⟨l, o, us, n, rfl, h1, h2, h3, hp us (by simpa using SeqAt.ReadsAll.length _ _ _ h4)⟩
  refine ⟨fun v hv => ?_, oneType', ?_, fun h2 E Q hq => ?_⟩
  · obtain ⟨d, hd, as, r⟩ := (e.left v hv)
    exact ⟨_, PySem.W.dataKind_some hal hd r⟩
  · intro E x y a b Q ha hb hq
    obtain ⟨d, as, hd, ra, rfl⟩ := PySem.W.dataKind_inv ha
    obtain ⟨d', as', hd', rb, rfl⟩ := PySem.W.dataKind_inv hb
    have al := hal d hd d' hd'
    have ud := hu d hd
    obtain ⟨xs, rfl⟩ := ht' d hd
    obtain ⟨ys, rfl⟩ := ht' d' hd'
    rw [PyProof.Rows.keyLt'_oneType]
    exact oneLt_tup ra rb (by simpa [PySem.W.alike] using al) (Nat.lt_of_le_of_lt (Nat.add_le_add_left (Nat.min_le_left _ _) _) ud) hq
  · cases e with
    | cons r0 rs =>
      obtain ⟨as, r0⟩ := r0
      refine tup_kind (tv r0 fun a z => by simpa using z) (fun z hz => ?_) hq
      obtain ⟨d, hd, as', r⟩ := rs.left z hz
      obtain ⟨xs, rfl⟩ := ht d hd
      exact tv r fun _ _ => trivial
end
/-! ### the order of rows of ints -/
def tupD (b : List Int) : D := .tuple (b.map .int)
def leL (p q : List Int) : Bool := decide (p ≤ q)
theorem dataLe_tup : PySem.W.dataLe false tupD = leL := by
  funext p q
  show (!PySem.W.dataLt (.tuple (q.map .int)) (.tuple (p.map .int))) = _
  rw [PySem.W.dataLt_tuple]
  show (!PySem.W.rowLt (q.map .int) (p.map .int)) = _
  rw [PySem.W.dataLt_ints]
  unfold leL
  by_cases h : q < p
  · have h' : ¬ p ≤ q := fun r => List.not_lt.mpr r h
    simp [h, h']
  · have h' : p ≤ q := List.not_lt.mp h
    simp [h, h']
def rSortedTL (K : PySem.W.Frag) : List V → Hp → VK → Prop := fun vs H Q => ∃ (a : Addr) (xs : List V) (bs : List (List Int)), vs = [V.ref a] ∧ SqL K H a xs ∧ ∃ F, Evl.Ex F H ∧ DaAll K F xs (([] :: bs).map tupD) ∧
  ∀ (ys : List V) (p : Addr), DaAll K F ys ((([] :: bs).mergeSort leL).map tupD) → H p = none → Q (.ref p) (upd H p (.lst ys))
section
variable {X : Cx}
theorem each_out {F : Hp} : ∀ {out : List Value} {bs : List (List Int)}, PySem.W.EachIs (fun v b => Da X.K F (backV v) (tupD b) ∧ RelV (backV v) v) out bs → DaAll X.K F (out.map backV) (bs.map tupD) ∧ Vals (out.map backV) out
  | _, _, .nil => ⟨.nil, .nil⟩
  | _, _, .cons h t => by
    obtain ⟨a, b⟩ := each_out t
    exact ⟨.cons h.1 a, .cons h.2 b⟩
theorem each_in {F : Hp} : ∀ {bs : List (List Int)} {xs : List V} {us : List Value}, DaAll X.K F xs (bs.map tupD) → Vals xs us → PySem.W.EachIs (fun v b => Da X.K F (backV v) (tupD b) ∧ RelV (backV v) v) us bs
  | [], _, _, h, r => by
    cases h
    cases r
    exact .nil
  | b :: bs, _, _, h, r => by
    cases h with
    | cons h1 h2 =>
      cases r with
      | cons r1 r2 =>
        refine .cons ?_ (each_in h2 r2)
        have h1' : Da X.K F _ (.tuple (b.map .int)) := h1
        cases h1' with
        | tup k1 k2 =>
          rename_i u _ _ _
          have e : u = Value.ref _ := r1
          subst e
          exact ⟨.tup k1 k2, rfl⟩
theorem lay_tups (bs : List (List Int)) : PyData.canLayAll0 (bs.map tupD) = true ∧ PyData.depthAll (bs.map tupD) ≤ 1 := by
  induction bs with
  | nil => exact ⟨by simp [PyData.canLayAll0], by simp [PyData.depthAll]⟩
  | cons b bs ih =>
    have c : ∀ l : List Int, PyData.canLayAll0 (l.map .int) = true ∧ PyData.depthAll (l.map .int) = 0 := fun l => by
      induction l with
      | nil => exact ⟨by simp [PyData.canLayAll0], by simp [PyData.depthAll]⟩
      | cons i l ih => exact ⟨by simp [PyData.canLayAll0, PyData.canLay0, ih.1], by simp [PyData.depthAll, PyData.depth, ih.2]⟩
    obtain ⟨c1, c2⟩ := c b
    exact ⟨by simp [PyData.canLayAll0, PyData.canLay0, tupD, c1, ih.1], by simp [PyData.depthAll, PyData.depth, tupD, c2, ih.2]⟩
end
section
variable {prog : Program} {w : World} {A : Around} {s : Shared} {E : Value → Shared → Prop}
theorem sorted_tup {l : Addr} {its : List Value} {bs : List (List Int)} {R : Value → List Int → Prop} {Q : Value → Shared → Prop} (hl : s.heap.IsList l its.toArray) (lz : its.length ≤ sizeLine)
    (er : PySem.W.EachIs (fun v b => ∃ as, Reads s.heap v (tupD b) as) its ([] :: bs)) (e1 : PySem.W.EachIs R its ([] :: bs)) (hu : A.units + 64 < cLine)
    (h : ∀ (h' : Heap) (d : Addr) (out : List Value), out.length = its.length → PySem.W.EachIs R out (([] :: bs).mergeSort leL) → (∀ b o, s.heap.get? b = some o → h'.get? b = some o) → s.heap.objs.size ≤ d → (∃ n, h'.get? d = some (seqObj "list" out.toArray n)) → Q (.ref d) { s with heap := h' }) :
    (wpAny (model prog w) A (call (.builtin "sorted") [.ref l]) Q E s) := by
  have er' : PySem.W.EachIs (fun v b => ∃ as, Reads (PySem.W.sortingHeap (PySem.W.copyHeap s.heap its) (s.heap.objs.size + 1) its) v (tupD b) as) its ([] :: bs) := er.mono fun _ _ ⟨as, r⟩ => ⟨as, PyProof.Rows.Reads.keeps (fun _ _ => PySem.W.sorting_copy_old) r⟩
  have hal : PySem.W.AllAlike (([] :: bs).map tupD) := PySem.W.AllAlike.of fun b b' => by
    show PySem.W.alike (.tuple (b.map .int)) (.tuple (b'.map .int)) = true
    simp [PySem.W.alike, PySem.W.alike_ints]
  have dp : ∀ d ∈ ([] :: bs).map tupD, d.depth ≤ 1 := fun d hd => by
    obtain ⟨b, _, rfl⟩ := (List.mem_map).mp hd
    have := PySem.W.depth_ints b
    simp [tupD, PyData.depth, this]
  have S := sortsAt_tup (prog := prog) (w := w) (A := A.in1.in1) (s := { s with heap := PySem.W.sortingHeap (PySem.W.copyHeap s.heap its) (s.heap.objs.size + 1) its }) (ds := bs.map tupD) (PySem.W.each_map (R := fun v d => ∃ as, Reads (PySem.W.sortingHeap (PySem.W.copyHeap s.heap its) (s.heap.objs.size + 1) its) v d as) tupD er') hal (fun d hd => by
      obtain ⟨b, _, rfl⟩ := (List.mem_map).mp hd
      exact ⟨_, rfl⟩) (fun d hd => by
      have := dp d hd
      have : A.in1.in1.units = A.units + 2 := rfl
      omega)
  have eo := PySem.W.sortVals_data false e1 er' hal
  rw [dataLe_tup] at eo
  refine PySem.W.sorted_vals hl S lz ?_
  exact h _ _ _ (PySem.W.sortVals_length false rfl) eo (fun b o e => sortedAll_old e) (Nat.le_succ _) (sortedAll_at s.heap its _)
end
section
variable {X : Cx}
theorem cr_sortedTL (hc : X.calm = true) (hu : X.A.units + 64 < cLine) : CallR X (.builtin "sorted") (rSortedTL X.K) := by
  intro pins s σ H vs us Q I r; intro h
  obtain ⟨a, xs, bs, rfl, hs, F, ex, hd, q⟩ := h
  rw [Vals.ref1 r]
  obtain ⟨its, rv, hl, hz⟩ := (I.list hs)
  have lz : its.length ≤ sizeLine := by rw [← rv.length]; exact hz
  have e1 := each_in (X := X) hd rv
  obtain ⟨lay1, lay2⟩ := lay_tups ([] :: bs)
  obtain ⟨as, rd⟩ := Dp.readsAll I _ _ its (da_dpa _ _ lay1 (hd.up ex)) rv
  have er := PySem.W.readsAll_each tupD rd
  refine sorted_tup hl.isList lz er e1 hu fun h' d out le eo kp hsz hn => ?_
  obtain ⟨o1, o2⟩ := each_out eo
  have ln : (out.map backV).length ≤ sizeLine := by rw [List.length_map, le]; exact lz
  obtain ⟨n, hn⟩ := hn
  exact ⟨.ref d, upd H d (.lst (out.map backV)), I.laid (t' := s.toks) kp hsz ⟨ln, out, n, o2, hn⟩, rfl, q _ d o1 (I.hok.fresh hsz)⟩
end
/-! ### by data -/
def rowsD : List D → Option (List (List Int))
  | [] => some []
  | .tuple xs :: r => (intsD xs).bind fun b => (rowsD r).map (b :: ·)
  | _ => none
theorem rowsD_some : ∀ {ds : List D} {bs : List (List Int)}, rowsD ds = some bs → ds = bs.map tupD
  | [], bs, h => by
    cases h
    rfl
  | d :: ds, bs, h => by
    unfold rowsD at h
    split at h
    · rename_i e; cases e
    · rename_i xs r e
      cases e
      obtain ⟨b, h1, h2⟩ := Option.bind_eq_some_iff.mp h
      obtain ⟨q, h3, h4⟩ := Option.map_eq_some_iff.mp h2
      subst h4
      rw [List.map_cons, ← rowsD_some h3, intsD_some h1]
      rfl
    · cases h
theorem rowsD_map (bs : List (List Int)) : rowsD (bs.map tupD) = some bs := by
  induction bs with
  | nil => rfl
  | cons b bs ih =>
    show (intsD (b.map .int)).bind (fun c => (rowsD (bs.map tupD)).map (c :: ·)) = _
    rw [intsD_map, ih]
    rfl
def sortE : List (List Int) → Option D
  | [] :: bs => some (.list ((([] :: bs).mergeSort leL).map tupD))
  | _ => none
/-- sorted(x), x a list of tuples of ints, the first of them empty -/
def bSortedE : List D → Option D
  | [.list ds] => (rowsD ds).bind sortE
  | _ => none
theorem bSortedE_l (bs : List (List Int)) : bSortedE [.list (([] :: bs).map tupD)] = some (.list ((([] :: bs).mergeSort leL).map tupD)) := by
  show (rowsD (([] :: bs).map tupD)).bind sortE = _
  rw [rowsD_map]
  rfl
section
variable {K : PySem.W.Frag}
theorem rc_sortedE : RdC K (rSortedTL K) bSortedE := fun F H xs as c e hx hc Q k => by
  unfold bSortedE at hc
  split at hc <;> try (cases hc; done)
  obtain ⟨bs, h1, h2⟩ := Option.bind_eq_some_iff.mp hc
  have := rowsD_some h1
  subst this
  unfold sortE at h2
  split at h2 <;> try (cases h2; done)
  cases h2
  obtain ⟨x, rfl, b⟩ := bw1 hx
  obtain ⟨p, vs, rfl, h3, h4⟩ := b.list e
  exact ⟨p, vs, _, rfl, (Or.inl (Or.inl h3)), F, e, h4, fun ys d dd hz => k _ _ (Grow.made e hz) _ (.lst upd_same (dd.up (Evl.Ex.new (Evl.fresh_back e hz))))⟩
end
end DL

/-! DLH -/
/-! tuple * 1, () * n: the tuple itself -/
namespace DL
open PySem L2 PySem.Spec PyProof.Rows
theorem tuple_mul1 (l : Addr) (us : Array Value) (n : Nat) (dd : Option Addr) (sl : Array (Option Value)) (x : Int) (u : Tok) (c0 : (decide (x < -(2 ^ 63)) || decide (x ≥ 2 ^ 63)) = false) (c1 : (us.isEmpty || x == 1) = true) :
    Meets (Builtin.«tuple.__mul__» ⟨[.ref l, .int x u], []⟩) (fun _ R s => s.heap.get? l = some { cls := .type "tuple", dict := dd, data := .seq us n, slots := sl } ∧
      R (.ok (.ret (Value.ref l))) s) :=
  .of_wp fun pg wd Ar R s h => by
    obtain ⟨hp, ge, dr, tk, os⟩ := s
    obtain ⟨hl, h⟩ := h
    have f1 := AutoSeq1.idx_int
    (wp_walk using wpAny_loadPart' hl)
    (repeat (first
      | (refine wpAny_ite_false (decide_eq_false (by rw [c0]; exact Bool.false_ne_true)) (?_); wp_walk using wpAny_loadPart' hl)
      | (refine wpAny_ite_true (decide_eq_true c1) (?_); wp_walk using wpAny_loadPart' hl)))
    exact ⟨_, rfl, h⟩
def rRepT1 (K : PySem.W.Frag) : R2 := fun x y H Q => ∃ l k xs, x = .ref l ∧ y = .int k ∧ SqT K H l xs ∧ (xs = [] ∨ k = 1) ∧ -1000 ≤ k ∧ k ≤ 1000 ∧ Q (.ref l) H
section
variable {X : Cx}
theorem op_repT1 : OpR X (binaryOp .Mult) (rRepT1 X.K) := by
  intro pins s σ H x y v u Q I rx ry; intro h
  obtain ⟨l, k, xs, rfl, rfl, hT, hne, h1, h2, q⟩ := h
  cases rx
  obtain ⟨t, rfl⟩ := ry
  obtain ⟨its, r, ⟨⟨cls, dd, data, sl⟩, ho, hc, n, hd⟩, hs⟩ := I.tuple (hT)
  simp only at hc hd
  subst hc hd
  have c0 : ((decide (k < -(2 ^ 63)) || decide (k ≥ 2 ^ 63)) = false) := by
    rw [decide_eq_false (by omega), decide_eq_false (by omega)]; rfl
  have c1 : (its.toArray.isEmpty || k == 1) = true := by
    rcases hne with e | e
    · subst e
      cases r
      rfl
    · rw [e]
      simp
  have call := tuple_mul1 l its.toArray n dd sl k t c0 c1
  refine wpAny_binaryOp_repeat_ref (T := "tuple") (U := "int") (by decide) ⟨_, ho, rfl⟩ (fun s' => typeIs_int s' k t) noFill_tuple_mul F.fills_int_mul F.slot_int_rmul repeat_tuple F.slot_int_index.lookup (call_meets F.slot_int_rmul (typeIs_int s k t) F.entry_int_rmul (F.args_int_rmul_2 _ _) (int_rmul_tuple k t l its.toArray n dd sl) ⟨ho, rfl, ⟨_, ho, rfl⟩, call_meets F.slot_tuple_mul ⟨_, ho, rfl⟩ F.entry_tuple_mul (F.args_tuple_mul_2 _ _) call ⟨ho, ?_⟩⟩)
  exact ⟨.ref l, H, I, rfl, q⟩
end
def oMulT1 : D → D → Option D
  | .tuple xs, .int j => if (xs = [] ∨ j = 1) ∧ -1000 ≤ j ∧ j ≤ 1000 then some (.tuple xs) else none
  | _, _ => none
theorem rd_mulT1 {K : PySem.W.Frag} : RdO K (rRepT1 K) oMulT1 := fun F H x y a b c e hx hy hc Q k => by
  cases a <;> cases b <;> simp only [oMulT1] at hc <;> try (cases hc; done)
  split at hc
  · rename_i h1
    cases hc
    obtain ⟨p, vs, rfl, h2, h3⟩ := hx.tuple e
    refine ⟨p, _, vs, rfl, hy.int, h2, ?_, h1.2.1, h1.2.2, ?_⟩
    rotate_left
    · cases hx with
      | fr h => exact k _ _ (.refl e) _ h
    rcases h1.1 with z | z
    · subst z
      cases h3
      exact .inl rfl
    · exact .inr z
  · cases hc
/-- times, a tuple by any number -/
def oMulB (a b : D) : Option D := match oMul1 a b with
  | some c => some c
  | none => oMulT1 a b
theorem op_mulB {X : Cx} : OpR X (binaryOp .Mult) (fun x y H Q => rMulD X.K x y H Q ∨ rRepT1 X.K x y H Q) := op_mulD.or op_repT1
theorem rd_mulB {K : PySem.W.Frag} : RdO K (fun x y H Q => rMulD K x y H Q ∨ rRepT1 K x y H Q) oMulB := RdO.or rd_mul rd_mulT1 fun a b c h => by
  unfold oMulB at h
  split at h
  · rename_i d hd
    cases h
    exact .inl hd
  · exact .inr h
end DL

/-! DLI -/
/-! isinstance(e, C), e an error that may hold a field: where it is one -/
namespace PySem.W
open PySem PyProof.Rows PySem.Calls
section
variable {K : Frag} {x t c : Value} {H : Heap → Prop}
theorem yes_ans (ty : ∀ (M : Model) (h : Heap), K.In h → H h → Looks M h (typeOf x) t) (e : kitOne K t c = some true) : Answers (fun s => K.In s.heap ∧ H s.heap) x c true := by
  intro dep tk prog w A R s hs
  obtain ⟨h0, g, d, tt, os⟩ := (s)
  obtain ⟨⟨X, p⟩, hq⟩ := hs
  have LT := ty (model prog w) h0 X p
  unfold kitOne at e
  (unfold Builtin.«isinstance.nested»)
  refine wpAny_bind (LT.at (?_))
  by_cases q : (t == c) = true
  · rw [if_pos q]
    first
      | ((repeat lk); exact hq tt)
      | exact (wpAny_bind (wpAny_rule (hq tt)))
      | exact (wpAny_bind (wpAny_rule (wpAny_pure (hq tt))))
  · rw [if_neg q] at e
    rw [if_neg q]
    obtain ⟨hty, his, hsub⟩ := (kit_cls (M := model prog w) X e)
    have LI : Looks (model prog w) h0 (isInstance x c) true := LT.andThen hsub
    refine wpAny_bind (hty.at (?_))
    rw [if_pos (by decide)]
    k_delta "plainIsInstance"
    refine wpAny_bind (wpAny_bind (his.at (?_)))
    (simp only [Bool.not_true, Bool.false_eq_true, if_false])
    refine wpAny_bind (LI.at (?_))
    first
      | exact (wpAny_pure (wpAny_pure (hq tt)))
      | ((simp only [if_true]); first | exact wpAny_pure (wpAny_pure (hq tt)) | exact wpAny_pure (hq tt) | exact wpAny_bind (wpAny_pure (wpAny_pure (hq tt))))
theorem yes_one {prog : Program} {w : World} {A : Around} {E : Value → Shared → Prop} {s : Shared} {Q : Value → Shared → Prop} (ty : ∀ (M : Model) (h : Heap), K.In h → H h → Looks M h (typeOf x) t) (X : K.In s.heap) (p : H s.heap) (e : kitOne K t c = some true) (hx : x ≠ .builtin "__main__.__loader__#opaque") (h : ∀ tk, Q (.bool true) { s with toks := tk }) :
    (wpAny (model prog w) A (call (.builtin "isinstance") [x, c]) Q E s) :=
  call_isinstance (S := fun _ R s => (K.In s.heap ∧ H s.heap) ∧ ∀ tk, R (.ok (.ret (.bool true))) { s with toks := tk })
    (fun prog w A R s hs => isinstance_outer (yes_ans ty e 0 _ prog w A R s hs) hx) ⟨⟨X, p⟩, h⟩
end
end PySem.W
namespace DL
open PySem L2 PySem.Spec PyProof.Rows
open Evl (Ex ex_l ex_t ex_rd)
theorem call_isY {X : Cx} {a D : Addr} {dd : Option Addr} {oe : Obj} {pn : List (Addr × Obj)} (hz : Zc (.ref D) dd oe) : CallR (X.suite a ((a, oe) :: pn)) (.builtin "isinstance") (fun xs H Q => ∃ c cv, xs = [.ref a, c] ∧ (∀ u, RelV c u → u = cv) ∧ PySem.W.kitOne X.K (.ref D) cv = some true ∧ Q (.bl true) H) := by
  intro pins s σ H xs us Q I r; intro h
  obtain ⟨c, cv, rfl, hcv, e, q⟩ := h
  cases r with
  | cons rx rr =>
    cases rr with
    | cons rt rr =>
      cases rr
      cases rx
      have ec := hcv _ rt
      subst ec
      obtain ⟨hget, _⟩ := (I.pin (a, oe) (List.mem_append.mpr (.inl List.mem_cons_self)))
      refine PySem.W.yes_one (H := fun h => h.get? a = some oe) (fun M h _ g => ?_) I.kIn hget e (fun z => nomatch z) fun tk => ⟨.bl true, H, I.kept (t' := tk) fun _ _ z => z, rfl, q⟩
      exact hz.1 ▸ (show PySem.W.Looks M h (typeOf (.ref a)) oe.cls from (PySem.W.Looks.ld g).andThen .now)
/-- isinstance(e, C), e the error; it may hold a field where the answer is yes -/
def xIsF (ns : List Str) (sub : List Str) : Exc → Env → R Bool := fun x _ => if ns.contains x.cls = true ∧ (x.args = [] ∨ sub.contains x.cls = true) then .ok (sub.contains x.cls) else .bad
section
variable {X : Cx} {i : Nat} {pos : Pos}
theorem pe_isy {xn cn : Str} {p1 p2 p3 : Pos} {C : Addr} {ns sub : List Str} (T : IsF X.K X.mg C ns sub) (hg : Gl X "isinstance") (hm : X.mg "isinstance" = none) (hgC : Gl X cn) (hC : X.mg cn = some (.ref C)) (hN : X.N[i]? = some xn) (hv : Vis X.env.scope xn)
    (hd : (xn == ("__debug__" : Str)) = false) (hcd : (xn == ("__classdict__" : Str)) = false) (hdc : (cn == ("__debug__" : Str)) = false)
    (he : ∀ X' : Cx, X'.env = X.env → starEach [.Name xn p1, .Name cn p2] X'.env = (false, eval (.Name xn p1) X'.env) :: starEach [.Name cn p2] X'.env) (hpl : (backTo pos (starEach [.Name cn p2] X.env)).any (·.1) = false)
    (a : Addr) (ob : Obj) (cls : Value) (dd : Option Addr) (pn : List (Addr × Obj)) (hz : Zc cls dd ob) :
    PE (X.suite a ((a, ob) :: pn)) (.Call (.Name "isinstance" p3) [.Name xn p1, .Name cn p2] [] pos) (fun σ H Q => ∃ F x, σ[i]? = some (some (.ref a)) ∧ XRep X.K X.mg F x cls dd ∧ ns.contains x.cls = true ∧ sub.contains x.cls = true ∧ Q (.bl true) H) := by
  by_cases hcl : ∃ n ∈ ns, sub.contains n = true ∧ ∃ Dn, X.mg n = some (.ref Dn) ∧ cls = .ref Dn
  · obtain ⟨n, hn, sn, Dn, hDn, rfl⟩ := hcl
    obtain ⟨Dn', h1, _, h3⟩ := T.all n hn
    rw [hDn] at h1
    cases h1
    rw [sn] at h3
    refine pe_imp (pe_callB (call_isY hz) hg hm PyProof.Rows.boot_isinstance (pa_cons (pe_var hN hv hd hcd) (pa_cons (pe_glob hgC hC (v := .ref C) rfl hdc) pa_nil) (he (X.suite a ((a, ob) :: pn)) rfl)) (by decide) (by decide) (he (X.suite a ((a, ob) :: pn)) rfl) hpl) fun σ H Q ⟨F, x, hs, hx, hc, ha, q⟩ => ?_
    exact ⟨.ref a, hs, .ref C, .ref C, rfl, fun u r => r, h3, q⟩
  · refine pe_imp (t := fun _ _ _ => False) ⟨fun _ _ _ _ _ _ z => z.elim⟩ fun σ H Q ⟨F, x, hs, hx, hc, ha, q⟩ => ?_
    obtain ⟨C', c1, c2, c3⟩ := hx
    exact hcl ⟨x.cls, by simpa using hc, ha, C', c1, c2⟩
theorem et_isy {xn cn : Str} {p1 p2 p3 : Pos} {C : Addr} {ns sub : List Str} (T : IsF X.K X.mg C ns sub) (hg : Gl X "isinstance") (hm : X.mg "isinstance" = none) (hgC : Gl X cn) (hC : X.mg cn = some (.ref C)) (hN : X.N[i]? = some xn := by rfl) (hv : Vis X.env.scope xn := by first | exact Or.inl rfl | exact Or.inr (Or.inl rfl) | exact Or.inr (Or.inr rfl))
    (hd : (xn == ("__debug__" : Str)) = false := by decide) (hcd : (xn == ("__classdict__" : Str)) = false := by decide) (hdc : (cn == ("__debug__" : Str)) = false := by decide)
    (he : ∀ X' : Cx, X'.env = X.env → starEach [.Name xn p1, .Name cn p2] X'.env = (false, eval (.Name xn p1) X'.env) :: starEach [.Name cn p2] X'.env := by intro _ _; rfl) (hpl : (backTo pos (starEach [.Name cn p2] X.env)).any (·.1) = false := by rfl) :
    ET X i (.Call (.Name "isinstance" p3) [.Name xn p1, .Name cn p2] [] pos) (xIsF ns sub) := by
  refine ⟨fun a ob cls dd pn z w => ?_⟩
  by_cases hdn : dd = none
  · subst hdn
    refine pt_imp (pt_val (pe_isx T hg hm hgC hC hN hv hd hcd hdc he hpl a ob cls none pn z w)) fun σ H Q ⟨F0, H0, F, ρ, x, r, hs, hx, k⟩ => ?_
    have ha : x.args = [] := by
      obtain ⟨C', c1, c2, c3⟩ := hx
      rcases c3 with ⟨c3, _⟩ | ⟨dx, fs, _, c4, _⟩
      · exact c3
      · cases c4
    unfold xIsF at k
    split at k
    · rename_i y
      exact ⟨F, x, hs, hx, y.1, ha, _, rfl, k F H (.refl r.g.in_)⟩
    · exact k.elim
  · refine pt_imp (pt_val (pe_isy T hg hm hgC hC hN hv hd hcd hdc he hpl a ob cls dd pn z)) fun σ H Q ⟨F0, H0, F, ρ, x, r, hs, hx, k⟩ => ?_
    have ha : x.args ≠ [] := by
      obtain ⟨C', c1, c2, c3⟩ := hx
      rcases c3 with ⟨_, c3⟩ | ⟨dx, fs, c4, _⟩
      · exact absurd c3 hdn
      · exact c4
    unfold xIsF at k
    split at k
    · rename_i y
      have s := y.2.resolve_left ha
      rw [s] at k
      exact ⟨F, x, hs, hx, y.1, s, _, rfl, k F H (.refl r.g.in_)⟩
    · exact k.elim
end
end DL

/-! DLJ -/
/-! e.replace(y, z) of written texts, within a list that begins with a written text -/
namespace DL
open PySem L2 PySem.Spec PyProof.Rows
open Evl (Ex ex_l ex_t ex_rd)
structure DET (X : Cx) (W : WX) (e : Expr) (f : Env → R D) : Prop where
  pet : PET X e (tE X.K X.mg W f)
structure DAT (X : Cx) (W : WX) (es : List Expr) (q : Env → R (List D)) : Prop where
  pat : PAT X es (tAD X.K X.mg W q)
section
variable {X : Cx} {W : WX} {e o : Expr} {es : List Expr} {f : Env → R D} {q : Env → R (List D)} {pos : Pos}
theorem pet_imp {t t' : TE} (z : PET X e t) (i : ∀ σ H Q, t' σ H Q → t σ H Q) : PET X e t' := fun pins s σ H Q h0 I h => z pins s σ H Q h0 I (i σ H Q h)
theorem pat_imp {t t' : TA} (z : PAT X es t) (i : ∀ σ H Q, t' σ H Q → t σ H Q) : PAT X es t' := fun pos pins s σ H Q h0 I h => z pos pins s σ H Q h0 I (i σ H Q h)
theorem det_of (h : DE X W e f) : DET X W e f := ⟨fun pins s σ H Q _ I z => h.pe.run pins s σ H Q I z⟩
theorem dat_nil : DAT X W [] aNil := ⟨fun pos pins s σ H Q _ I z => (da_nil (X := X) (W := W)).pa.run pos pins s σ H Q I z⟩
theorem dat_cons (ha : DET X W e f) (hr : DAT X W es q) (hs : starEach (e :: es) X.env = (false, eval e X.env) :: starEach es X.env := by rfl) : DAT X W (e :: es) (aCons f q) :=
  ⟨pat_imp (pat_cons ha.pet hr.pat hs) fun σ H Q ⟨F0, H0, F, ρ, r, k⟩ => ⟨F0, H0, F, ρ, r, (ROk.step (r := f ρ) k).imp fun a F1 H1 _ g1 q1 v hv => ⟨F0, H0, F1, ρ, r.grow g1, (ROk.step (r := q ρ) q1).imp fun xs F2 H2 _ g2 q2 vs hvs =>
    q2 F2 H2 (.refl g2.in_) (v :: vs) (.cons (hv.up g2.f) hvs)⟩⟩⟩
/-- behind a written text a token is out -/
theorem da_tok {c : Str} {j : Nat} {p : Pos} (hr : DAT X W es q) (hs : starEach (.Constant (.str c) j p :: es) X.env = (false, eval (.Constant (.str c) j p) X.env) :: starEach es X.env := by rfl) : DA X W (.Constant (.str c) j p :: es) (aCons (cC (.str c)) q) := by
  refine ⟨⟨fun pos pins s σ H Q I h => ?_⟩⟩
  obtain ⟨F0, H0, F, ρ, r, k⟩ := h
  rw [hs]
  show wpAny _ _ (spliced ((false, eval (.Constant (.str c) j p) X.env) :: backTo pos (starEach es X.env))) _ _ s
  (refine Calls.spliced_cons (Calls.Constant_str ?_))
  have k' : ROk X.K X.mg (fun c d H' => W c d σ H') F H (fun ds F' H' => ∀ vs, DaAll X.K F' vs ds → Q vs H') ((q ρ).bind fun xs => .ok (.str c :: xs)) := k
  refine thn (hr.pat pos pins { s with toks := s.toks + 1 } σ H (fun vs H1 => Q (V.str c :: vs) H1) (by show 1 ≤ s.toks + 1; omega) (I.tok _) ⟨F0, H0, F, ρ, r, (ROk.step (r := q ρ) k').imp fun xs F2 H2 _ g2 q2 vs hvs => q2 F2 H2 (.refl g2.in_) (V.str c :: vs) (.cons (.str c) hvs)⟩) fun us s2 ⟨xs, H2, I2, r2, q2⟩ => ⟨V.str c :: xs, H2, I2, .cons ⟨s.toks, rfl⟩ r2, q2⟩
def cRepl (y z : Str) (f : Env → R D) : Env → R D := fun ρ => (f ρ).bind fun a => match a with
  | .str x => if x.length + (x.length + 1) * z.length ≤ 16777216 then .ok (.str (Txt.replace x y z)) else .bad
  | _ => .bad
theorem det_repl {y z : Str} {j k : Nat} {c0 c1 apos : Pos} (ho : DE X W o f) (hyz : (y == z) = false := by decide)
    (hst : starEach [.Constant (.str y) j c0, .Constant (.str z) k c1] X.env = [(false, eval (.Constant (.str y) j c0) X.env), (false, eval (.Constant (.str z) k c1) X.env)] := (by rfl))
    (hline : (apos.endLine == pos.line) = true := by rfl) (hbase : attributeBase o "replace" X.env (eval o X.env) = eval o X.env := by rfl) :
    DET X W (.Call (.Attribute o "replace" apos) [.Constant (.str y) j c0, .Constant (.str z) k c1] [] pos) (cRepl y z f) :=
  ⟨pet_imp (CwR.pet_replC ho.pe hyz hst hbase hline) fun σ H Q ⟨F0, H0, F, ρ, r, k⟩ => ⟨F0, H0, F, ρ, r, (ROk.step (r := f ρ) k).imp fun a F1 H1 _ g1 q1 x hx => by
    split at q1
    · rename_i s _
      split at q1
      · rename_i hl
        cases hx
        exact ⟨s, rfl, hl, q1 F1 H1 (.refl g1.in_) _ (.str _)⟩
      · exact q1.elim
    · exact q1.elim⟩⟩
end
end DL

/-! DLK -/
/-! the signs of a text; list of a text; f-texts of texts and ints -/
namespace DL
open PySem L2 PySem.Spec PyProof.Rows
open Evl (Ex ex_l ex_t ex_rd)
def signsS (x : Str) : List Str := x.cps.toList.map fun c => ⟨#[c]⟩
def signsD (x : Str) : List D := (signsS x).map .str
theorem signs_len (x : Str) : (signsD x).length = x.cps.size := by simp [signsD, signsS]
theorem signs_at {x : Str} {i c : Nat} (h : x.cps[i]? = some c) : (signsD x)[i]? = some (.str ⟨#[c]⟩) := by
  unfold signsD signsS
  rw [List.getElem?_map, List.getElem?_map, Array.getElem?_toList, h]
  rfl
theorem itd_str {K : PySem.W.Frag} {S : Hp → Hp → Prop} (x : Str) : ItD K (Its x) S (signsD x) where
  goes := fun i F1 H1 s hi => by rw [signs_len] at hi; exact hi
  stops := fun F1 H1 s => by rw [signs_len]; exact Nat.le_refl _
  yields := fun i F1 H1 v H2 d s e hd y => by
    obtain ⟨rfl, c, h1, rfl⟩ := y
    rw [signs_at h1] at hd
    cases hd
    exact ⟨F1, .refl e, .str _⟩
def signsO : D → Option (List D)
  | .str x => some (signsD x)
  | _ => none
/-- what is walked: the signs of a text -/
def cSigns (f : Env → R D) : Env → R (List D) := fun ρ => (f ρ).bind fun a => ofO (signsO a)
section
variable {X : Cx} {W : WX} {tg e : Expr} {f : Env → R D}
theorem di_signs (ha : DE X W e f) : DI X W tg e (cSigns f) :=
  ⟨pi_imp (pi_str ha.pe) fun σ H R' ⟨F0, H0, F, ρ, r, k⟩ => ⟨F0, H0, F, ρ, r, (ROk.step (r := f ρ) k).imp fun a F1 H1 _ g1 q1 x hx => by
    obtain ⟨ds, e, q⟩ := q1.ofO
    cases a <;> simp only [signsO] at e <;> try (cases e; done)
    cases e
    cases hx
    exact ⟨_, rfl, q F1 H1 (.refl g1.in_) _ (itd_str _)⟩⟩⟩
end
/-! list of a text -/
theorem vals_signs {x : Str} {acc : Array Value} (h : ItemsOf (SignAt x) acc x.cps.size) : Vals ((signsS x).map V.str) acc.toList := by
  have e : acc.toList.length = x.cps.size := by rw [Array.length_toList]; exact h.1
  have hl : ((signsS x).map V.str).length = x.cps.size := by simp [signsS]
  have go : ∀ (us : List Value) (vs : List V), vs.length = us.length → (∀ (j : Nat) u v, us[j]? = some u → vs[j]? = some v → RelV v u) → Vals vs us := by
    intro us
    induction us with
    | nil =>
      intro vs hl _
      (rw [List.eq_nil_of_length_eq_zero hl])
      exact .nil
    | cons u us ih =>
      intro vs hl hr
      cases vs with
      | nil => simp at hl
      | cons v vs => exact .cons (hr 0 u v rfl rfl) (ih vs (by simpa using hl) fun j a b h1 h2 => hr (j + 1) a b (by simpa using h1) (by simpa using h2))
  refine go _ _ (by rw [hl, e]) fun j u v h1 h2 => ?_
  obtain ⟨c, t, hc, rfl⟩ := h.2 j u (by rw [← h1, Array.getElem?_toList])
  unfold signsS at h2
  rw [List.getElem?_map, List.getElem?_map, Array.getElem?_toList, hc] at h2
  cases h2
  exact ⟨t, rfl⟩
def rListS : List V → Hp → VK → Prop := fun vs H Q => ∃ x : Str, vs = [.str x] ∧ x.length ≤ 100000 ∧ ∀ p, H p = none → Q (.ref p) (upd H p (.lst ((signsS x).map V.str)))
section
variable {X : Cx}
theorem call_listS (hc : X.calm = true) : CallR X (.type "list") rListS := by
  intro pins s σ H vs us Q I r; intro h
  obtain ⟨x, rfl, hx, q⟩ := h
  cases r with
  | cons r1 rr =>
    cases rr
    obtain ⟨t, rfl⟩ := r1
    have hz : x.cps.size ≤ sizeLine := by
      rw [sizeLine_eq]
      have : x.length = x.cps.size := rfl
      omega
    refine call_list_str (I.ok.hd hc) x t (fun h' tk acc c kp hn hi => ?_) hz
    have lz : ((signsS x).map V.str).length ≤ sizeLine := by rw [List.length_map, signsS, List.length_map, Array.length_toList]; exact hz
    exact ⟨.ref s.heap.objs.size, upd H s.heap.objs.size (.lst ((signsS x).map V.str)), I.laid (t' := tk) kp (Nat.le_refl _) ⟨lz, acc.toList, c, vals_signs hi, by rw [Array.toArray_toList]; exact hn⟩, rfl, q _ (I.hok.fresh (Nat.le_refl _))⟩
end
def bListS : List D → Option D
  | [.str x] => if x.length ≤ 100000 then some (.list (signsD x)) else none
  | _ => none
theorem rc_listS {K : PySem.W.Frag} : RdC K rListS bListS := fun F H xs as c e hx hc Q k => by
  unfold bListS at hc
  split at hc
  · split at hc
    · rename_i hl
      cases hc
      obtain ⟨x, rfl, b⟩ := bw1 hx
      exact ⟨_, by rw [b.str], hl, fun p hp => k _ _ (Grow.made e hp) _ (.lst upd_same (dpa_ofStrs))⟩
    · cases hc
  · cases hc
/-! f-texts -/
def fmtO : D → Option D
  | .str y => if y.length ≤ 100000 then some (.str y) else none
  | .int i => if i.natAbs.log2 < 1920 then some (.str (toString i)) else none
  | _ => none
def cJs : List (Env → R D) → Str → Env → R D
  | [], acc, _ => .ok (.str acc)
  | f :: fs, acc, ρ => (f ρ).bind fun a => match a with
    | .str y => if (acc ++ y).length ≤ 100000 then cJs fs (acc ++ y) ρ else .bad
    | _ => .bad
inductive DJ (X : Cx) (W : WX) : List Expr → List (Env → R D) → Prop where
  | nil : DJ X W [] []
  | cons {e : Expr} {es : List Expr} {f : Env → R D} {fs : List (Env → R D)} (h : DE X W e f) (r : DJ X W es fs) : DJ X W (e :: es) (f :: fs)
section
variable {X : Cx} {W : WX} {e v1 v2 : Expr} {es rest : List Expr} {f : Env → R D} {fs : List (Env → R D)} {pos : Pos}
theorem de_fmt (ha : DE X W e f) : DE X W (.FormattedValue e (-1) none pos) (cUn fmtO f) :=
  ⟨pe_imp (pe_fmt ha.pe) fun σ H Q ⟨F0, H0, F, ρ, r, k⟩ => ⟨F0, H0, F, ρ, r, (ROk.step (r := f ρ) k).imp fun a F1 H1 _ g1 q1 x hx => by
    obtain ⟨c, h1, q⟩ := q1.ofO
    cases a <;> simp only [fmtO] at h1 <;> try (cases h1; done)
    · split at h1
      · rename_i z
        cases h1
        cases hx
        exact .inr ⟨_, rfl, z, q F1 H1 (.refl g1.in_) _ (.str _)⟩
      · cases h1
    · split at h1
      · rename_i z
        cases h1
        cases hx
        exact .inl ⟨_, rfl, Evl.sz_of z, q F1 H1 (.refl g1.in_) _ (.str _)⟩
      · cases h1⟩⟩
theorem dj_pj (h : DJ X W es fs) : PJ X es (fs.map fun f => tE X.K X.mg W f) := by
  induction h with
  | nil => exact .nil
  | cons h _ ih => exact .cons h.pe ih
theorem js_run {ρ : Env} {F0 H0 : Hp} {σ : L2.St} {Q : V → Hp → Prop} : ∀ (fs : List (Env → R D)) (acc : Str) (F H : Hp), Rep X.K F0 H0 F H ρ σ →
    ROk X.K X.mg (fun c d H' => W c d σ H') F H (fun a F' H' => ∀ v, Da X.K F' v a → Q v H') (cJs fs acc ρ) → tJs (fs.map fun f => tE X.K X.mg W f) acc σ H fun out H1 => Q (.str out) H1
  | [], acc, F, H, r, k => k F H (.refl r.g.in_) _ (.str _)
  | f :: fs, acc, F, H, r, k => by
    have k : ROk X.K X.mg (fun c d H' => W c d σ H') F H (fun a F' H' => ∀ v, Da X.K F' v a → Q v H') ((f ρ).bind fun a => match a with
      | .str y => if (acc ++ y).length ≤ 100000 then cJs fs (acc ++ y) ρ else .bad
      | _ => .bad) := k
    show tE X.K X.mg W f σ H _
    refine ⟨F0, H0, F, ρ, r, (ROk.step (r := f ρ) k).imp fun a F1 H1 _ g1 q1 x hx => ?_⟩
    split at q1
    · rename_i y
      split at q1
      · rename_i z
        cases hx
        exact ⟨_, rfl, Evl.sz_of z, js_run fs _ F1 H1 (r.grow g1) q1⟩
      · exact q1.elim
    · exact q1.elim
theorem de_joined (h : DJ X W (v1 :: v2 :: rest) fs) : DE X W (.JoinedStr (v1 :: v2 :: rest) pos) (cJs fs Str.empty) :=
  ⟨pe_imp (pe_joined (dj_pj h)) fun σ H Q ⟨F0, H0, F, ρ, r, k⟩ => js_run fs Str.empty F H r k⟩
end
end DL

/-! DLs -/
namespace DL
open PySem L2 PySem.Spec PyProof.Rows

/-! ### rewriting rules: what the functions of the layer come to -/
section
variable {α β : Type} {ρ : Env} {f g h : Env → R D} {t u : Env → R Bool} {q : Env → R (List D)} {b c : Env → Out} {o o' : D → D → Option D} {i j k : Nat}
@[simp] theorem bind_okS {a : α} {f : α → R β} : (R.ok a).bind f = f a := id rfl
@[simp] theorem bind_excS {x : Exc} {f : α → R β} : (R.exc x : R α).bind f = .exc x := id rfl
@[simp] theorem bind_badS {f : α → R β} : (R.bad : R α).bind f = .bad := id rfl
@[simp] theorem bind_ite {p : Prop} [Decidable p] {x y : R α} {f : α → R β} : (if p then x else y).bind f = if p then x.bind f else y.bind f := by split <;> rfl
@[simp] theorem ofO_someS {a : α} : ofO (some a) = .ok a := id rfl
@[simp] theorem ofO_noneS : ofO (none : Option α) = .bad := id rfl
@[simp] theorem ofO_ite {p : Prop} [Decidable p] {x y : Option α} : ofO (if p then x else y) = if p then ofO x else ofO y := by split <;> rfl
def lkV : Option SV → R D
  | some (.val d) => .ok d
  | _ => .bad
def lkB : Option SV → R D
  | some (.val d) => .ok d
  | some (.own ds) => .ok (.list ds)
  | some (.dic ks) => .ok (dcD ks)
  | _ => .bad
@[simp] theorem lkV_val {d : D} : lkV (some (.val d)) = .ok d := id rfl
@[simp] theorem lkB_val {d : D} : lkB (some (.val d)) = .ok d := id rfl
@[simp] theorem lkB_own {d : List D} : lkB (some (.own d)) = .ok (.list d) := id rfl
@[simp] theorem lkB_dic {ks : List (Key × D)} : lkB (some (.dic ks)) = .ok (dcD ks) := id rfl
@[simp] theorem ev_cVar : cVar i ρ = lkV ρ[i]? := id rfl
@[simp] theorem ev_cBor : cBor i ρ = lkB ρ[i]? := id rfl
@[simp] theorem ev_cC {d : D} : cC d ρ = .ok d := id rfl
@[simp] theorem ev_cOp : cOp o f g ρ = (f ρ).bind fun a => (g ρ).bind fun b => ofO (o a b) := id rfl
@[simp] theorem ev_cUn {o : D → Option D} : cUn o f ρ = (f ρ).bind fun a => ofO (o a) := id rfl
@[simp] theorem ev_cTest : cTest f ρ = (f ρ).bind fun a => ofO (truB a) := id rfl
@[simp] theorem ev_cChain : cChain o o' f g h ρ = (f ρ).bind fun a => (g ρ).bind fun b => (ofO ((o a b).bind truB)).bind fun k => if k = true then (h ρ).bind fun c => ofO (o' b c) else .ok (.bool false) := id rfl
@[simp] theorem ev_cAnd : cAnd t u ρ = (t ρ).bind fun k => if k = true then u ρ else .ok false := id rfl
@[simp] theorem ev_cOr : cOr t u ρ = (t ρ).bind fun k => if k = true then .ok true else u ρ := id rfl
@[simp] theorem ev_cNot : cNot t ρ = (t ρ).bind fun k => .ok (!k) := id rfl
@[simp] theorem ev_cAndV : cAndV f g ρ = (f ρ).bind fun a => (ofO (truB a)).bind fun k => if k = true then g ρ else .ok (.bool false) := by simp only [cAndV, cTest]; cases f ρ <;> rfl
@[simp] theorem ev_cOrV : cOrV f g ρ = (f ρ).bind fun a => (ofO (truB a)).bind fun k => if k = true then .ok (.bool true) else g ρ := by simp only [cOrV, cTest]; cases f ρ <;> rfl
@[simp] theorem ev_cNotV : cNotV f ρ = (f ρ).bind fun a => (ofO (truB a)).bind fun k => .ok (.bool (!k)) := by simp only [cNotV, cTest]; cases f ρ <;> rfl
@[simp] theorem ev_cIf : cIf t f g ρ = (t ρ).bind fun k => if k = true then f ρ else g ρ := id rfl
@[simp] theorem ev_aNil : aNil ρ = .ok [] := id rfl
@[simp] theorem ev_aCons : aCons f q ρ = (f ρ).bind fun x => (q ρ).bind fun xs => .ok (x :: xs) := id rfl
@[simp] theorem ev_cTup : cTup q ρ = (q ρ).bind fun ds => if ds.length ≤ 100000 then .ok (.tuple ds) else .bad := id rfl
@[simp] theorem ev_cLst : cLst q ρ = (q ρ).bind fun ds => if ds.length ≤ 100000 then .ok ds else .bad := id rfl
@[simp] theorem ev_asList {f : Env → R (List D)} : asList f ρ = (f ρ).bind fun ds => .ok (.list ds) := id rfl
@[simp] theorem ev_asVal : asVal f ρ = (f ρ).bind fun ds => .ok (.val ds) := id rfl
@[simp] theorem ev_asOwn {f : Env → R (List D)} : asOwn f ρ = (f ρ).bind fun ds => .ok (.own ds) := id rfl
@[simp] theorem ev_cBt {o : List D → Option D} : cBt o q ρ = (q ρ).bind fun as => ofO (o as) := id rfl
@[simp] theorem ev_cIs {p : D → Bool} : cIs p f ρ = (f ρ).bind fun a => .ok (.bool (p a)) := id rfl
@[simp] theorem ev_cCall {s : List D → R D} : cCall s q ρ = (q ρ).bind s := id rfl
@[simp] theorem ev_pNone : pNone ρ = .ok none := id rfl
@[simp] theorem ev_pSome : pSome f ρ = (f ρ).bind fun a => (ofO (intD a)).bind fun i => .ok (some i) := id rfl
@[simp] theorem ev_cSl {lo hi : Env → R (Option Int)} : cSl f lo hi ρ = (f ρ).bind fun a => (lo ρ).bind fun l => (hi ρ).bind fun h => ofO (oSl a l h) := id rfl
@[simp] theorem ev_cItems : cItems f ρ = (f ρ).bind fun a => ofO (itemsD a) := id rfl
@[simp] theorem ev_cIt {o : List D → Option (List D)} : cIt o q ρ = (q ρ).bind fun as => ofO (o as) := id rfl
@[simp] theorem ev_cLc {it : Env → R (List D)} {s : D → Env → Option Env} {vs : List Nat} : cLc it s t f vs ρ = (it ρ).bind fun ds => if ds.length ≤ 100000 then noX (lcGo s t f (wipeR ρ vs) ds) else .bad := id rfl
@[simp] theorem ev_cYes : cYes ρ = .ok true := id rfl
@[simp] theorem ev_noX {a : α} : noX (.ok a) = .ok a := id rfl
@[simp] theorem ev_sName {d : D} : sName i d ρ = some (ρ.set i (.val d)) := id rfl
@[simp] theorem ev_sNil : sNil [] ρ = some ρ := id rfl
@[simp] theorem ev_sCons {s : D → Env → Option Env} {r : List D → Env → Option Env} {d : D} {ds : List D} : sCons s r (d :: ds) ρ = (s d ρ).bind fun ρ' => r ds ρ' := id rfl
@[simp] theorem ev_sTup {r : List D → Env → Option Env} {ds : List D} : sTup r (.tuple ds) ρ = r ds ρ := id rfl
@[simp] theorem exB_okS {a : α} {k : α → Out} : exB ρ (.ok a) k = k a := id rfl
@[simp] theorem exB_excS {x : Exc} {k : α → Out} : exB ρ (.exc x : R α) k = .ex x ρ := id rfl
@[simp] theorem exB_badS {k : α → Out} : exB ρ (.bad : R α) k = .bad := id rfl
@[simp] theorem exB_ite {p : Prop} [Decidable p] {x y : R α} {k : α → Out} : exB ρ (if p then x else y) k = if p then exB ρ x k else exB ρ y k := by split <;> rfl
@[simp] theorem ev_sNx : sNx ρ = .nx ρ := id rfl
def thenO (x : Out) (h : Env → Out) : Out := match x with
  | .nx ρ' => h ρ'
  | o => o
@[simp] theorem ev_sSeq : sSeq b c ρ = thenO (b ρ) c := id rfl
@[simp] theorem thenO_nx : thenO (.nx ρ) c = c ρ := id rfl
@[simp] theorem thenO_rt {d : D} : thenO (.rt d) c = .rt d := id rfl
@[simp] theorem thenO_ex {x : Exc} : thenO (.ex x ρ) c = .ex x ρ := id rfl
@[simp] theorem thenO_ct : thenO (.ct ρ) c = .ct ρ := id rfl
@[simp] theorem thenO_bk : thenO (.bk ρ) c = .bk ρ := id rfl
@[simp] theorem thenO_bad : thenO .bad c = .bad := id rfl
@[simp] theorem thenO_ite {p : Prop} [Decidable p] {x y : Out} : thenO (if p then x else y) c = if p then thenO x c else thenO y c := by split <;> rfl
@[simp] theorem ev_sRet : sRet f ρ = exB ρ (f ρ) fun d => .rt d := id rfl
@[simp] theorem ev_sRetN : sRetN ρ = .rt .none := id rfl
@[simp] theorem ev_sIf : sIf t b c ρ = exB ρ (t ρ) fun k => if k = true then b ρ else c ρ := id rfl
@[simp] theorem ev_sDrop : sDrop f ρ = exB ρ (f ρ) fun _ => .nx ρ := id rfl
@[simp] theorem ev_sAsg {f : Env → R SV} : sAsg i f ρ = exB ρ (f ρ) fun sv => .nx (ρ.set i sv) := id rfl
def optO : Option Env → Out
  | some ρ' => .nx ρ'
  | none => .bad
@[simp] theorem optO_some : optO (some ρ) = .nx ρ := id rfl
@[simp] theorem ev_sTo {s : D → Env → Option Env} : sTo s f ρ = exB ρ (f ρ) fun d => optO (s d ρ) := id rfl
@[simp] theorem ev_sPar {f g : Env → R SV} : sPar i j f g ρ = exB ρ (f ρ) fun x => exB ρ (g ρ) fun y => .nx ((ρ.set i x).set j y) := id rfl
def par3 (ρ : Env) (i j k : Nat) : List D → Out
  | [x, y, z] => .nx (((ρ.set i (.val x)).set j (.val y)).set k (.val z))
  | _ => .bad
@[simp] theorem par3_ok {x y z : D} : par3 ρ i j k [x, y, z] = .nx (((ρ.set i (.val x)).set j (.val y)).set k (.val z)) := id rfl
@[simp] theorem ev_sPar3 : sPar3 i j k q ρ = exB ρ (q ρ) fun ds => par3 ρ i j k ds := by
  unfold sPar3
  congr 1
@[simp] theorem ev_sFrz : sFrz i b ρ = b (frz i ρ) := id rfl
@[simp] theorem ev_sRaise {x : Str} : sRaise x ρ = .ex ⟨x, []⟩ ρ := id rfl
def raO (x fld : Str) (ρ : Env) : D → Out
  | .int i => if i.natAbs < 1000 then .ex ⟨x, [(fld, .int i)]⟩ ρ else .bad
  | _ => .bad
@[simp] theorem ev_sRaiseA {x fld : Str} : sRaiseA x fld f ρ = exB ρ (f ρ) (raO x fld ρ) := id rfl
@[simp] theorem raO_int {x fld : Str} {n : Int} : raO x fld ρ (.int n) = if n.natAbs < 1000 then .ex ⟨x, [(fld, .int n)]⟩ ρ else .bad := id rfl
def lkF : Option D → R D
  | some d => .ok d
  | none => .bad
@[simp] theorem lkF_some {d : D} : lkF (some d) = .ok d := id rfl
@[simp] theorem lkF_none : lkF none = .bad := id rfl
@[simp] theorem ev_xFld {ns : List Str} {fld : Str} {x : Exc} : xFld ns fld x ρ = if ns.contains x.cls = true then lkF (x.args.lookup fld) else .bad := id rfl
@[simp] theorem ev_xPair {t : Str} {f : Exc → Env → R D} {x : Exc} : xPair t f x ρ = (f x ρ).bind fun d => .ok (.tuple [.str t, d]) := id rfl
def lkA (ρ : Env) (i : Nat) (f : R D) : Option SV → Out
  | some (.own ds) => exB ρ f fun d => if ds.length < 100000 then .nx (ρ.set i (.own (ds ++ [d]))) else .bad
  | _ => .bad
@[simp] theorem lkA_own {r : R D} {ds : List D} : lkA ρ i r (some (.own ds)) = exB ρ r fun d => if ds.length < 100000 then .nx (ρ.set i (.own (ds ++ [d]))) else .bad := id rfl
@[simp] theorem ev_sApp : sApp i f ρ = lkA ρ i (f ρ) ρ[i]? := by
  unfold sApp lkA
  split <;> simp_all
def lkP (ρ : Env) (i : Nat) (d : D) (g : R D) : Option SV → Out
  | some (.dic ks) => exB ρ g fun b => match keyD b with
    | some k => if ks.length < 100000 then .nx (ρ.set i (.dic (setK ks k d))) else .bad
    | none => .bad
  | _ => .bad
@[simp] theorem lkP_i {d : D} {n : Int} {ks : List (Key × D)} : lkP ρ i d (.ok (.int n)) (some (.dic ks)) = if ks.length < 100000 then .nx (ρ.set i (.dic (setK ks (.inl n) d))) else .bad := id rfl
@[simp] theorem ev_sPut : sPut i f g ρ = exB ρ (f ρ) fun d => lkP ρ i d (g ρ) ρ[i]? := by
  unfold sPut lkP
  congr 1
def lkPL (ρ : Env) (i : Nat) (d : D) (g : R D) : Option SV → Out
  | some (.own ds) => exB ρ g fun b => match intD b with
    | some k => match ixN ds.length k with
      | some j => .nx (ρ.set i (.own (ds.set j d)))
      | none => .bad
    | none => .bad
  | _ => .bad
@[simp] theorem lkPL_i {d : D} {n : Int} {ds : List D} : lkPL ρ i d (.ok (.int n)) (some (.own ds)) = (match ixN ds.length n with | some j => .nx (ρ.set i (.own (ds.set j d))) | none => .bad) := id rfl
@[simp] theorem ev_sPutL : sPutL i f g ρ = exB ρ (f ρ) fun d => lkPL ρ i d (g ρ) ρ[i]? := by
  unfold sPutL lkPL
  congr 1
def lkE (ρ : Env) (i : Nat) (r : R D) : Option SV → Out
  | some (.own ds) => exB ρ r fun d => match d with
    | .list es => if ds.length + es.length ≤ 100000 then .nx (ρ.set i (.own (ds ++ es))) else .bad
    | _ => .bad
  | _ => .bad
@[simp] theorem lkE_l {ds es : List D} : lkE ρ i (.ok (.list es)) (some (.own ds)) = if ds.length + es.length ≤ 100000 then .nx (ρ.set i (.own (ds ++ es))) else .bad := id rfl
@[simp] theorem ev_sExt : sExt i f ρ = lkE ρ i (f ρ) ρ[i]? := by
  unfold sExt lkE
  generalize ρ[i]? = x
  cases x with
  | none => rfl
  | some sv =>
    cases sv <;> first
      | rfl
      | (congr 1; funext d; cases d <;> rfl)
@[simp] theorem ev_cMt {m : D → List D → Option D} : cMt m f q ρ = (f ρ).bind fun a => if lstB a = true then (q ρ).bind fun as => ofO (m a as) else .bad := id rfl
@[simp] theorem lstB_l {xs : List D} : lstB (.list xs) = true := id rfl
@[simp] theorem ev_cGet2 : cGet2 f g h ρ = (f ρ).bind fun a => (ofO (dctK a)).bind fun ks => (g ρ).bind fun b => (h ρ).bind fun d => (ofO (keyD b)).bind fun k => .ok ((getK ks k).getD d) := id rfl
@[simp] theorem dctK_d {ks : List (Key × D)} : dctK (dcD ks) = some ks := dctK_dcD ks
@[simp] theorem keyD_i {n : Int} : keyD (.int n) = some (.inl n) := id rfl
@[simp] theorem ev_asDic : asDic ρ = .ok (.dic []) := id rfl
def lkG (ρ : Env) (i : Nat) (o : D → D → Option D) (r : R D) : R D → Out
  | .ok a => exB ρ r fun b => match o a b with
    | some c => .nx (ρ.set i (.val c))
    | none => .bad
  | _ => .bad
@[simp] theorem ev_sAug : sAug i o f ρ = lkG ρ i o (f ρ) (lkV ρ[i]?) := id rfl
@[simp] theorem lkG_ok {a : D} {r : R D} : lkG ρ i o r (.ok a) = exB ρ r fun b => match o a b with | some c => .nx (ρ.set i (.val c)) | none => .bad := id rfl
@[simp] theorem ev_sFor {it : Env → R (List D)} {s : D → Env → Option Env} : sFor it s b ρ = exB ρ (it ρ) fun ds => forLoop s b ds ρ := id rfl
@[simp] theorem ev_sWhile : sWhile t b ρ = whileLoop t b FUEL ρ := id rfl
@[simp] theorem toR_nx : toR (.nx ρ) = .ok .none := id rfl
@[simp] theorem toR_rt {d : D} : toR (.rt d) = .ok d := id rfl
@[simp] theorem toR_ex {x : Exc} : toR (.ex x ρ) = .exc x := id rfl
@[simp] theorem toR_bad : toR .bad = .bad := id rfl
@[simp] theorem toR_ite {p : Prop} [Decidable p] {x y : Out} : toR (if p then x else y) = if p then toR x else toR y := by split <;> rfl
end
section
variable {α : Type} {ρ : Env} {f g : Env → R D} {h : Env → R SV} {q : Env → R (List SV)} {is : List Nat} {i : Nat}
@[simp] theorem ev_xNil : xNil ρ = .ok [] := id rfl
@[simp] theorem ev_xCons : xCons h q ρ = (h ρ).bind fun x => (q ρ).bind fun xs => .ok (x :: xs) := id rfl
@[simp] theorem ev_sParN : sParN is q ρ = exB ρ (q ρ) fun svs => if svs.length = is.length ∧ svs.length ≤ 100000 then .nx (setAll ρ is svs) else .bad := id rfl
@[simp] theorem setAll_nil {l : List α} : setAll l [] [] = l := id rfl
@[simp] theorem setAll_cons {l as : List α} {a : α} : setAll l (i :: is) (a :: as) = setAll (l.set i a) is as := id rfl
@[simp] theorem ev_cRg : cRg f g ρ = (f ρ).bind fun a => (g ρ).bind fun b => ofO (rg2 a b) := id rfl
@[simp] theorem ev_cTrg : cTrg f g ρ = (cRg f g ρ).bind fun ds => .ok (.tuple ds) := id rfl
@[simp] theorem rg2_ii {a b : Int} : rg2 (.int a) (.int b) = range2D [.int a, .int b] := id rfl
@[simp] theorem ev_cM1 {o : D → D → Option D} : cM1 o f g ρ = (f ρ).bind fun a => if isStrD a = true then (g ρ).bind fun b => ofO (o a b) else .bad := id rfl
@[simp] theorem isStr_s {x : Str} : isStrD (.str x) = true := id rfl
@[simp] theorem ev_cRepl {y z : Str} : cRepl y z f ρ = (f ρ).bind fun a => match a with | .str x => if x.length + (x.length + 1) * z.length ≤ 16777216 then .ok (.str (Txt.replace x y z)) else .bad | _ => .bad := id rfl
@[simp] theorem ev_cSigns : cSigns f ρ = (f ρ).bind fun a => ofO (signsO a) := id rfl
@[simp] theorem signsO_s {x : Str} : signsO (.str x) = some (signsD x) := id rfl
@[simp] theorem bListS_s {x : Str} : bListS [.str x] = if x.length ≤ 100000 then some (.list (signsD x)) else none := id rfl
@[simp] theorem fmtO_s {x : Str} : fmtO (.str x) = if x.length ≤ 100000 then some (.str x) else none := id rfl
@[simp] theorem fmtO_i {i : Int} : fmtO (.int i) = if i.natAbs.log2 < 1920 then some (.str (toString i)) else none := id rfl
@[simp] theorem cJs_nil {acc : Str} : cJs [] acc ρ = .ok (.str acc) := id rfl
@[simp] theorem cJs_cons {acc : Str} {fs : List (Env → R D)} : cJs (f :: fs) acc ρ = (f ρ).bind fun a => match a with | .str y => if (acc ++ y).length ≤ 100000 then cJs fs (acc ++ y) ρ else .bad | _ => .bad := id rfl
@[simp] theorem bGcd_i {a b : Int} : bGcd [.int a, .int b] = some (.int ((Nat.gcd a.natAbs b.natAbs : Nat) : Int)) := id rfl
@[simp] theorem bLcm_i {a b : Int} : bLcm [.int a, .int b] = if LcmOk a b then some (.int ((Nat.lcm a.natAbs b.natAbs : Nat) : Int)) else none := id rfl
@[simp] theorem oJoin_l {a : Str} {xs : List Str} : oJoin (.str a) (.list (xs.map .str)) = joinS a xs := by
  show (strsD (xs.map .str)).bind (joinS a) = _
  rw [strsD_map] <;> rfl
@[simp] theorem oSplit_s {a b : Str} : oSplit (.str a) (.str b) = if (b.length == 0) = false ∧ a.length + 2 ≤ 100000 then some (.list ((Txt.split a b).map .str)) else none := id rfl
end
/-! operators on data of known kind -/
section
variable {i j : Int} {x y : Str} {xs ys : List D} {a b : D}
@[simp] theorem oAdd_ii : oAdd (.int i) (.int j) = some (.int (i + j)) := id rfl
@[simp] theorem oAdd_ss : oAdd (.str x) (.str y) = if x.length + y.length ≤ 100000 then some (.str (x ++ y)) else none := id rfl
@[simp] theorem oAdd_tt : oAdd (.tuple xs) (.tuple ys) = if xs.length + ys.length ≤ 100000 then some (.tuple (xs ++ ys)) else none := id rfl
@[simp] theorem oAdd_ll : oAdd (.list xs) (.list ys) = if xs.length + ys.length ≤ 100000 then some (.list (xs ++ ys)) else none := id rfl
@[simp] theorem oAugAdd_ii : oAugAdd (.int i) (.int j) = some (.int (i + j)) := id rfl
@[simp] theorem oSub_ii : oSub (.int i) (.int j) = some (.int (i - j)) := id rfl
@[simp] theorem oMul_ii : oMul1 (.int i) (.int j) = if CMul i j then some (.int (i * j)) else none := id rfl
@[simp] theorem oMul_li : oMul1 (.list xs) (.int j) = if 0 ≤ j ∧ j ≤ 100000 ∧ xs.length * j.toNat ≤ 100000 then some (.list (List.replicate j.toNat xs).flatten) else none := id rfl
@[simp] theorem oMul_ti : oMul1 (.tuple xs) (.int j) = if xs ≠ [] ∧ 2 ≤ j ∧ j ≤ 1000 ∧ xs.length ≤ 1000 then some (.tuple (List.replicate j.toNat xs).flatten) else none := id rfl
@[simp] theorem oMod_ii : oMod (.int i) (.int j) = if 0 < j then some (.int (i % j)) else none := id rfl
@[simp] theorem oDiv_ii : oDiv (.int i) (.int j) = if CDivW i j then some (.int (i / j)) else none := id rfl
@[simp] theorem oPow_ii : oPow (.int i) (.int j) = if CPow i j then some (.int (i ^ j.toNat)) else none := id rfl
@[simp] theorem oLt_ii : oLt (.int i) (.int j) = some (.bool (decide (i < j))) := id rfl
@[simp] theorem oLe_ii : oLe (.int i) (.int j) = some (.bool (decide (i ≤ j))) := id rfl
@[simp] theorem oGt_ii : oGt (.int i) (.int j) = some (.bool (decide (j < i))) := id rfl
@[simp] theorem oGe_ii : oGe (.int i) (.int j) = some (.bool (decide (j ≤ i))) := id rfl
@[simp] theorem oNeg_i : oNeg (.int i) = some (.int (-i)) := id rfl
@[simp] theorem oIs_n : oIs a .none = some (.bool (isNone a)) := id rfl
@[simp] theorem oIsNot_n : oIsNot a .none = some (.bool (!isNone a)) := id rfl
@[simp] theorem oIx_l : oIx (.list xs) (.int i) = atI xs i := id rfl
@[simp] theorem oIx_t : oIx (.tuple xs) (.int i) = atI xs i := id rfl
@[simp] theorem oIxA_l : oIxA (.list xs) (.int i) = atI xs i := id rfl
@[simp] theorem oIxA_t : oIxA (.tuple xs) (.int i) = atI xs i := id rfl
@[simp] theorem oIxA_d {ks : List (Key × D)} : oIxA (dcD ks) (.int i) = getK ks (.inl i) := by
  show oDGet (dcD ks) (.int i) = _
  unfold oDGet
  rw [dctK_dcD] <;> rfl
@[simp] theorem bSorted_i {ns : List Int} : bSortedA [.list (ns.map PyData.int)] = some (.list ((srt ns).map .int)) := by
  simp [bSortedA, bSorted, intsD_map]
@[simp] theorem bMax1_i {n : Int} {ns : List Int} : bMax1 [.list (.int n :: ns.map PyData.int)] = some (.int (top n ns)) := by simp [bMax1, intsD, intsD_map]
@[simp] theorem bMin1_i {n : Int} {ns : List Int} : bMin1 [.list (.int n :: ns.map PyData.int)] = some (.int (low n ns)) := by simp [bMin1, intsD, intsD_map]
@[simp] theorem oSl_l {l u : Option Int} : oSl (.list xs) l u = some (.list (cut xs l u)) := id rfl
@[simp] theorem oSl_t {l u : Option Int} : oSl (.tuple xs) l u = some (.tuple (cut xs l u)) := id rfl
@[simp] theorem truB_b {k : Bool} : truB (.bool k) = some k := id rfl
@[simp] theorem intD_i : intD (.int i) = some i := id rfl
@[simp] theorem items_l : itemsD (.list xs) = some xs := id rfl
@[simp] theorem items_t : itemsD (.tuple xs) = some xs := id rfl
@[simp] theorem bLen_l : bLen [.list xs] = some (.int xs.length) := id rfl
@[simp] theorem bLen_t : bLen [.tuple xs] = some (.int xs.length) := id rfl
@[simp] theorem bAbs_i : bAbs [.int i] = some (.int (if i < 0 then -i else i)) := id rfl
@[simp] theorem bMax2_i : bMax2 [.int i, .int j] = some (.int (if j > i then j else i)) := id rfl
@[simp] theorem bMin2_i : bMin2 [.int i, .int j] = some (.int (if j < i then j else i)) := id rfl
@[simp] theorem bInt_i : bInt [.int i] = some (.int i) := id rfl
@[simp] theorem bTuple_l : bTuple [.list xs] = some (.tuple xs) := id rfl
@[simp] theorem bTuple_t : bTuple [.tuple xs] = some (.tuple xs) := id rfl
@[simp] theorem bList_l : bList [.list xs] = some (.list xs) := id rfl
@[simp] theorem bList_t : bList [.tuple xs] = some (.list xs) := id rfl
@[simp] theorem bAll_b {bs : List Bool} : bAll [.list (bs.map PyData.bool)] = some (.bool (bs.all id)) := by simp [bAll, blsD_map]
@[simp] theorem bAny_b {bs : List Bool} : bAny [.list (bs.map PyData.bool)] = some (.bool (bs.any id)) := by simp [bAny, blsD_map]
@[simp] theorem bSum_i {ns : List Int} : bSum [.list (ns.map PyData.int)] = some (.int ns.sum) := by simp [bSum, intsD_map]
@[simp] theorem range1_i : range1D [.int i] = if -1000000 < i ∧ i < 1000000 then some (rangeD 0 i.toNat) else none := id rfl
@[simp] theorem zip2_l : zip2D [.list xs, .list ys] = some (zipD xs ys) := id rfl
@[simp] theorem zip2_t : zip2D [.tuple xs, .tuple ys] = some (zipD xs ys) := id rfl
@[simp] theorem enum1_l : enum1D [.list xs] = some (enumD 0 xs) := id rfl
theorem cmul_l (h : -18446744073709551616 < i ∧ i < 18446744073709551616) : CMul i j := .inl (by omega)
theorem cmul_r (h : -18446744073709551616 < j ∧ j < 18446744073709551616) : CMul i j := .inr (by omega)
theorem cdivw (h : 0 < j ∧ j < 18446744073709551616) : CDivW i j := wide_div (b := 64) h.1 (by omega) (by decide) (by decide)
end

def tryO (ns : List Str) (cl : List ClD) : Out → Out
  | .ex x ρ => if ns.contains x.cls = true then handle cl x ρ else .bad
  | o => o
@[simp] theorem ev_sTry {ns : List Str} {g : Env → Out} {cl : List ClD} {ρ : Env} : sTry ns g cl ρ = tryO ns cl (g ρ) := id rfl
@[simp] theorem tryO_nx {ns : List Str} {cl : List ClD} {ρ : Env} : tryO ns cl (.nx ρ) = .nx ρ := id rfl
@[simp] theorem tryO_rt {ns : List Str} {cl : List ClD} {d : D} : tryO ns cl (.rt d) = .rt d := id rfl
@[simp] theorem tryO_ex {ns : List Str} {cl : List ClD} {x : Exc} {ρ : Env} : tryO ns cl (.ex x ρ) = if ns.contains x.cls = true then handle cl x ρ else .bad := id rfl
@[simp] theorem handle_nil {x : Exc} {ρ : Env} : handle [] x ρ = .ex x ρ := id rfl
@[simp] theorem handle_cons {sub : List Str} {o : Option Nat} {s : Exc → Env → Out} {r : List ClD} {x : Exc} {ρ : Env} : handle ((sub, o, s) :: r) x ρ = if sub.contains x.cls = true then noXO (s x ρ) else handle r x ρ := id rfl
@[simp] theorem noXO_rt {d : D} : noXO (.rt d) = .rt d := id rfl
@[simp] theorem noXO_nx {ρ : Env} : noXO (.nx ρ) = .nx ρ := id rfl
@[simp] theorem noXO_ct {ρ : Env} : noXO (.ct ρ) = .ct ρ := id rfl
@[simp] theorem ev_xRet {i : Nat} {f : Exc → Env → R D} {x : Exc} {ρ : Env} : xRet i f x ρ = if i < ρ.length then exB ρ (f x (ρ.set i .no)) fun d => .rt d else .bad := id rfl
@[simp] theorem ev_xIf {t : Exc → Env → R Bool} {f g : Exc → Env → R D} {x : Exc} {ρ : Env} : xIf t f g x ρ = (t x ρ).bind fun b => if b = true then f x ρ else g x ρ := id rfl
@[simp] theorem ev_xIs {ns sub : List Str} {x : Exc} {ρ : Env} : xIs ns sub x ρ = if ns.contains x.cls = true ∧ x.args = [] then .ok (sub.contains x.cls) else .bad := id rfl
@[simp] theorem ev_xIsF {ns sub : List Str} {x : Exc} {ρ : Env} : xIsF ns sub x ρ = if ns.contains x.cls = true ∧ (x.args = [] ∨ sub.contains x.cls = true) then .ok (sub.contains x.cls) else .bad := id rfl
@[simp] theorem ev_xIsV {ns sub : List Str} {x : Exc} {ρ : Env} : xIsV ns sub x ρ = if ns.contains x.cls = true ∧ x.args = [] then .ok (.bool (sub.contains x.cls)) else .bad := id rfl

/-! ### loops -/
theorem for_nil {s : D → Env → Option Env} {b : Env → Out} {ρ : Env} : forLoop s b [] ρ = .nx ρ := rfl
theorem for_eq {s : D → Env → Option Env} {b : Env → Out} {ρ : Env} {d : D} {ds : List D} : forLoop s b (d :: ds) ρ = (match s d ρ with
    | none => .bad
    | some ρ1 => match b ρ1 with
      | .nx ρ2 => forLoop s b ds ρ2
      | .ct ρ2 => forLoop s b ds ρ2
      | .bk ρ2 => .nx ρ2
      | o => o) := rfl
theorem for_cons {s : D → Env → Option Env} {b : Env → Out} {ρ ρ1 ρ2 : Env} {d : D} {ds : List D} (h : s d ρ = some ρ1) (h2 : b ρ1 = .nx ρ2) : forLoop s b (d :: ds) ρ = forLoop s b ds ρ2 := by simp only [for_eq, h, h2]
theorem for_cont {s : D → Env → Option Env} {b : Env → Out} {ρ ρ1 ρ2 : Env} {d : D} {ds : List D} (h : s d ρ = some ρ1) (h2 : b ρ1 = .ct ρ2) : forLoop s b (d :: ds) ρ = forLoop s b ds ρ2 := by simp only [for_eq, h, h2]
theorem for_ret {s : D → Env → Option Env} {b : Env → Out} {ρ ρ1 : Env} {d x : D} {ds : List D} (h : s d ρ = some ρ1) (h2 : b ρ1 = .rt x) : forLoop s b (d :: ds) ρ = .rt x := by simp only [for_eq, h, h2]
theorem for_brk {s : D → Env → Option Env} {b : Env → Out} {ρ ρ1 ρ2 : Env} {d : D} {ds : List D} (h : s d ρ = some ρ1) (h2 : b ρ1 = .bk ρ2) : forLoop s b (d :: ds) ρ = .nx ρ2 := by simp only [for_eq, h, h2]
/-- a loop whose turns all go on, by an invariant over what is left -/
theorem for_inv {s : D → Env → Option Env} {b : Env → Out} (I : List D → Env → Prop) : ∀ (ds : List D) (ρ : Env), I ds ρ → (∀ d r ρ, I (d :: r) ρ → ∃ ρ1 ρ2, s d ρ = some ρ1 ∧ (b ρ1 = .nx ρ2 ∨ b ρ1 = .ct ρ2) ∧ I r ρ2) → ∃ ρ', forLoop s b ds ρ = .nx ρ' ∧ I [] ρ'
  | [], ρ, h, _ => ⟨ρ, rfl, h⟩
  | d :: r, ρ, h, st => by
    obtain ⟨ρ1, ρ2, h1, h2, h3⟩ := st d r ρ h
    obtain ⟨ρ', h4, h5⟩ := for_inv I r ρ2 h3 st
    refine ⟨ρ', ?_, h5⟩
    rcases h2 with h2 | h2
    · rw [for_cons h1 h2, h4]
    · rw [for_cont h1 h2, h4]
theorem while_eq {t : Env → R Bool} {b : Env → Out} {ρ : Env} {n : Nat} : whileLoop t b (n + 1) ρ = exB ρ (t ρ) fun k => if k = true then (match b ρ with
      | .nx ρ2 => whileLoop t b n ρ2
      | .ct ρ2 => whileLoop t b n ρ2
      | .bk ρ2 => .nx ρ2
      | o => o) else .nx ρ := rfl
theorem while_stop {t : Env → R Bool} {b : Env → Out} {ρ : Env} {n : Nat} (h : t ρ = .ok false) : whileLoop t b (n + 1) ρ = .nx ρ := by simp [while_eq, h]
theorem while_go {t : Env → R Bool} {b : Env → Out} {ρ ρ' : Env} {n : Nat} (h : t ρ = .ok true) (h2 : b ρ = .nx ρ') : whileLoop t b (n + 1) ρ = whileLoop t b n ρ' := by simp [while_eq, h, h2]
/-- a comprehension without tests whose element is told -/
theorem lc_map {s : D → Env → Option Env} {t : Env → R Bool} {el : Env → R D} {ρ : Env} {φ : D → D} : ∀ (ds : List D), (∀ d ∈ ds, ∃ ρ', s d ρ = some ρ' ∧ t ρ' = .ok true ∧ el ρ' = .ok (φ d)) → lcGo s t el ρ ds = .ok (ds.map φ)
  | [], _ => rfl
  | d :: ds, h => by
    obtain ⟨ρ', h1, h2, h3⟩ := h d List.mem_cons_self
    unfold lcGo
    rw [h1]
    simp only [ofO_someS, bind_okS, h2, if_true, h3]
    rw [lc_map ds fun x hx => h x (.tail _ hx)]
    rfl
/-- .. with tests -/
theorem lc_filter {s : D → Env → Option Env} {t : Env → R Bool} {el : Env → R D} {ρ : Env} {φ : D → D} {p : D → Bool} : ∀ (ds : List D), (∀ d ∈ ds, ∃ ρ', s d ρ = some ρ' ∧ t ρ' = .ok (p d) ∧ (p d = true → el ρ' = .ok (φ d))) → lcGo s t el ρ ds = .ok ((ds.filter p).map φ)
  | [], _ => rfl
  | d :: ds, h => by
    obtain ⟨ρ', h1, h2, h3⟩ := h d List.mem_cons_self
    unfold lcGo
    rw [h1]
    simp only [ofO_someS, bind_okS, h2]
    rw [lc_filter ds fun x hx => h x (.tail _ hx)]
    cases hp : p d with
    | true =>
      simp only [if_true, h3 hp, List.filter_cons_of_pos hp, bind_okS, List.map_cons]
    | false =>
      rw [if_neg Bool.false_ne_true, List.filter_cons_of_neg (by rw [hp]; exact Bool.false_ne_true)]
@[simp] theorem lcGo_nil {s : D → Env → Option Env} {t : Env → R Bool} {el : Env → R D} {ρ : Env} : lcGo s t el ρ [] = .ok [] := id rfl
theorem lcGo_cons {s : D → Env → Option Env} {t : Env → R Bool} {el : Env → R D} {ρ : Env} {d : D} {ds : List D} : lcGo s t el ρ (d :: ds) = (ofO (s d ρ)).bind fun ρ' => (t ρ').bind fun b => if b = true then (el ρ').bind fun y => (lcGo s t el ρ ds).bind fun ys => .ok (y :: ys) else lcGo s t el ρ ds := rfl
/-! ### shapes of data, for == -/
structure Sh (n : Nat) (d : D) : Prop where
  lay : d.canLay0 = true
  dep : d.depth ≤ n
theorem Sh.ok {n : Nat} {d : D} (h : Sh n d) (hn : n ≤ 64 := by decide) : SeqAt.shaped d = true := by
  unfold SeqAt.shaped
  rw [h.lay, decide_eq_true (Nat.le_trans h.dep hn)]
  rfl
theorem Sh.mono {n m : Nat} {d : D} (h : Sh n d) (k : n ≤ m) : Sh m d := ⟨h.lay, Nat.le_trans h.dep k⟩
theorem sh_int {n : Nat} {i : Int} : Sh n (.int i) := ⟨by simp [PyData.canLay0], by simp [PyData.depth]⟩
theorem sh_bool {n : Nat} {i : Bool} : Sh n (.bool i) := ⟨by simp [PyData.canLay0], by simp [PyData.depth]⟩
theorem sh_none {n : Nat} : Sh n .none := ⟨by simp [PyData.canLay0], by simp [PyData.depth]⟩
theorem sh_all {n : Nat} : ∀ {ds : List D}, (∀ d ∈ ds, Sh n d) → PyData.canLayAll0 ds = true ∧ PyData.depthAll ds ≤ n
  | [], _ => ⟨by simp [PyData.canLayAll0], by simp [PyData.depthAll]⟩
  | d :: ds, h => by
    obtain ⟨a, b⟩ := sh_all (ds := ds) fun x hx => h x (.tail _ hx)
    have c := h d List.mem_cons_self
    exact ⟨by simp [PyData.canLayAll0, a, c.lay], by simp only [PyData.depthAll]; have := c.dep; omega⟩
theorem sh_tup {n : Nat} {ds : List D} (h : ∀ d ∈ ds, Sh n d) : Sh (n + 1) (.tuple ds) := by
  obtain ⟨a, b⟩ := sh_all h
  exact ⟨by simpa [PyData.canLay0] using a, by simp only [PyData.depth]; omega⟩
theorem sh_lst {n : Nat} {ds : List D} (h : ∀ d ∈ ds, Sh n d) : Sh (n + 1) (.list ds) := by
  obtain ⟨a, b⟩ := sh_all h
  exact ⟨by simpa [PyData.canLay0] using a, by simp only [PyData.depth]; omega⟩
theorem oEq_of {a b : D} {n m : Nat} (h : Sh n a) (k : Sh m b) (hn : n ≤ 64 := by decide) (hm : m ≤ 64 := by decide) : oEq a b = some (.bool (PyData.eqv a b)) := by
  unfold oEq
  rw [if_pos ⟨h.ok hn, k.ok hm⟩]
theorem oNe_of {a b : D} {n m : Nat} (h : Sh n a) (k : Sh m b) (hn : n ≤ 64 := by decide) (hm : m ≤ 64 := by decide) : oNe a b = some (.bool (!PyData.eqv a b)) := by
  unfold oNe
  rw [if_pos ⟨h.ok hn, k.ok hm⟩]
mutual
theorem eqv_same : ∀ d : D, d.canLay0 = true → PyData.eqv d d = true
  | .none, _ => by simp only [PyData.eqv]
  | .bool k, _ => by simp only [PyData.eqv, beq_self_eq_true]
  | .int k, _ => by simp only [PyData.eqv, beq_self_eq_true]
  | .str s, _ => by simp [PyData.eqv]
  | .list xs, h => by simp only [PyData.eqv]; exact eqvs_same xs (by simpa [PyData.canLay0] using h)
  | .tuple xs, h => by simp only [PyData.eqv]; exact eqvs_same xs (by simpa [PyData.canLay0] using h)
  | .dict kvs, h => by simp [PyData.canLay0] at h
theorem eqvs_same : ∀ ds : List D, PyData.canLayAll0 ds = true → PyData.eqvAll ds ds = true
  | [], _ => by simp only [PyData.eqvAll]
  | d :: ds, h => by
    have h' : d.canLay0 = true ∧ PyData.canLayAll0 ds = true := by simpa [PyData.canLayAll0] using h
    simp only [PyData.eqvAll, eqv_same d h'.1, eqvs_same ds h'.2, Bool.and_self]
end
theorem oEq_same {a : D} {n : Nat} (h : Sh n a) (hn : n ≤ 64 := by decide) : oEq a a = some (.bool true) := by rw [oEq_of h h hn hn, eqv_same a h.lay]
theorem oNe_same {a : D} {n : Nat} (h : Sh n a) (hn : n ≤ 64 := by decide) : oNe a a = some (.bool false) := by rw [oNe_of h h hn hn, eqv_same a h.lay]; rfl
@[simp] theorem oEq_ii {i j : Int} : oEq (.int i) (.int j) = some (.bool (decide (i = j))) := by
  rw [oEq_of (n := 0) (m := 0) sh_int sh_int]
  simp only [PyData.eqv]
  congr 2
@[simp] theorem oNe_ii {i j : Int} : oNe (.int i) (.int j) = some (.bool (!decide (i = j))) := by
  rw [oNe_of (n := 0) (m := 0) sh_int sh_int]
  simp only [PyData.eqv]
  congr 2
end DL

/-! MD -/
namespace DL.Dr
open PySem L2
def b2_dr : Env → Out := (sIf (cTest (cOp oLt (cBt bLen (aCons (cBor 2) aNil)) (cBor 1))) (sSeq (sAsg 3 (asVal (cOp oMod (cBt bInt (aCons (cOp oAdd (cOp oAdd (cOp oMul1 (cBor 3) (cC (.int 69621))) (cBor 6)) (cC (.int 1))) aNil)) (cC (.int 2147483647)))))
  (sApp 2 (cOp oMod (cOp oDiv (cBt bInt (aCons (cBor 3) aNil)) (cC (.int 7))) (cC (.int 65521))))) sNx)
def b1_dr : Env → Out := (sIf (cTest (cOp oGt (cBor 5) (cC (.int 0)))) (sSeq (sApp 2 (cOp oMod (cBt bInt (aCons (cBor 5) aNil)) (cC (.int 1009))))
  (sAsg 5 (asVal (cOp oDiv (cBor 5) (cC (.int 1009)))))) sNx)
def b0_dr : Env → Out := (sSeq (sAsg 5 (asVal (cBt bAbs (aCons (cBor 4) aNil))))
  (sSeq (sAsg 3 (asVal (cOp oMod (cBt bInt (aCons (cOp oAdd (cOp oAdd (cOp oMul1 (cBor 3) (cC (.int 48271))) (cBor 5)) (cC (.int 11))) aNil)) (cC (.int 2147483647)))))
  (sIf (cTest (cOp oGe (cBor 5) (cOp oPow (cC (.int 10)) (cC (.int 18))))) (sFor (cIt range1D (aCons (cC (.int 60)) aNil)) (sName 6) b1_dr) (sApp 2 (cOp oMod (cOp oDiv (cBt bInt (aCons (cOp oAdd (cOp oMul1 (cBor 3) (cC (.int 16807))) (cC (.int 5))) aNil)) (cC (.int 3))) (cC (.int 65521)))))))
def c_dr : Env → Out := (sSeq (sAsg 2 (asOwn (cLst aNil)))
  (sSeq (sAsg 3 (asVal (cC (.int 7))))
  (sSeq (sFor (cItems (cSl (cBor 0) pNone (pSome (cC (.int 63))))) (sName 4) b0_dr)
  (sSeq (sFor (cIt range1D (aCons (cVar 1) aNil)) (sName 6) b2_dr)
  (sRet (cSl (cBor 2) pNone (pSome (cVar 1))))))))
def f_dr : List D → R D := semOf 7 2 c_dr
/-- draws: so many, each from 0 to less than 65521 -/
def InR (l : List Int) : Prop := ∀ d ∈ l, 0 ≤ d ∧ d < 65521
theorem InR.app {l : List Int} {x : Int} (h : InR l) (hx : 0 ≤ x ∧ x < 65521) : InR (l ++ [x]) := fun d hd => by
  rcases List.mem_append.mp hd with z | z
  · exact h d z
  · rw [List.mem_singleton.mp z]; exact hx
theorem pow18 : (10 : Int) ^ (18 : Int).toNat = 1000000000000000000 := by decide
theorem cpow18 : CPow 10 18 := by decide
theorem b1_ok (s m : D) (acc : List Int) (x3 x4 x6 : SV) (n : Int) (hn : 0 ≤ n) (hl : acc.length < 99999) : ∃ acc' n', b1_dr [.val s, .val m, .own (acc.map .int), x3, x4, .val (.int n), x6] = .nx [.val s, .val m, .own (acc'.map .int), x3, x4, .val (.int n'), x6] ∧
    0 ≤ n' ∧ acc'.length ≤ acc.length + 1 ∧ (InR acc → InR acc') := by
  by_cases h : 0 < n
  · refine ⟨acc ++ [n % 1009], n / 1009, ?_, by omega, by simp, fun q => q.app (by omega)⟩
    simp [b1_dr, h, hl, show acc.length < 100000 by omega, cdivw (i := n) (j := 1009) (by omega)]
  · refine ⟨acc, n, ?_, hn, by omega, id⟩
    simp [b1_dr, h]
theorem set_at {α : Type} (a b c d e f g x : α) : [a, b, c, d, e, f, g].set 6 x = [a, b, c, d, e, f, x] := rfl
/-- the inner loop -/
theorem loop1 (s m : D) (x3 x4 : SV) : ∀ (l : List D) (acc : List Int) (n : Int) (x6 : SV), 0 ≤ n → acc.length + l.length < 99999 → ∃ acc' n' x6', forLoop (sName 6) b1_dr l [.val s, .val m, .own (acc.map .int), x3, x4, .val (.int n), x6] =
    .nx [.val s, .val m, .own (acc'.map .int), x3, x4, .val (.int n'), x6'] ∧ acc'.length ≤ acc.length + l.length ∧ (InR acc → InR acc')
  | [], acc, n, x6, _, _ => ⟨acc, n, x6, rfl, by simp, id⟩
  | d :: l, acc, n, x6, hn, hl => by
    simp only [List.length_cons] at hl
    obtain ⟨a1, n1, e1, h1, h2, h3⟩ := b1_ok s m acc x3 x4 (.val d) n hn (by omega)
    obtain ⟨a2, n2, y, e2, h4, h5⟩ := loop1 s m x3 x4 l a1 n1 (.val d) h1 (by omega)
    refine ⟨a2, n2, y, ?_, by simp; omega, fun q => h5 (h3 q)⟩
    rw [for_cons rfl e1, e2]
theorem b0_ok (s m : D) (acc : List Int) (sd c : Int) (x5 x6 : SV) (hs : 0 ≤ sd ∧ sd < 2147483647) (hl : acc.length < 99900) : ∃ acc' sd' x5' x6', b0_dr [.val s, .val m, .own (acc.map .int), .val (.int sd), .val (.int c), x5, x6] =
    .nx [.val s, .val m, .own (acc'.map .int), .val (.int sd'), .val (.int c), x5', x6'] ∧ (0 ≤ sd' ∧ sd' < 2147483647) ∧ acc'.length ≤ acc.length + 60 ∧ (InR acc → InR acc') := by
  generalize hab : (if c < 0 then -c else c) = n
  have hn : 0 ≤ n := by split at hab <;> omega
  have hsd : 0 ≤ (sd * 48271 + n + 11) % 2147483647 ∧ (sd * 48271 + n + 11) % 2147483647 < 2147483647 := by omega
  generalize hs2 : (sd * 48271 + n + 11) % 2147483647 = s2 at hsd
  by_cases hb : 1000000000000000000 ≤ n
  · obtain ⟨a1, n1, y, e1, h1, h2⟩ := loop1 s m (.val (.int s2)) (.val (.int c)) (rangeD 0 60) acc n x6 hn (by rw [rangeD_len]; omega)
    refine ⟨a1, s2, .val (.int n1), y, ?_, hsd, by rw [rangeD_len] at h1; exact h1, h2⟩
    simp [b0_dr, hab, cmul_l (i := sd) (j := 48271) (by omega), hs2, cpow18, hb, e1]
  · refine ⟨acc ++ [(s2 * 16807 + 5) / 3 % 65521], s2, .val (.int n), x6, ?_, hsd, by simp, fun q => q.app (by omega)⟩
    simp [b0_dr, hab, cmul_l (i := sd) (j := 48271) (by omega), cmul_l (i := s2) (j := 16807) (by omega), hs2, cpow18, hb, show acc.length < 100000 by omega, cdivw (i := s2 * 16807 + 5) (j := 3) (by omega)]
theorem loop0 (s m : D) : ∀ (l : List Int) (acc : List Int) (sd : Int) (x4 x5 x6 : SV), (0 ≤ sd ∧ sd < 2147483647) → acc.length + 60 * l.length < 99900 → ∃ acc' sd' x4' x5' x6', forLoop (sName 4) b0_dr (l.map .int) [.val s, .val m, .own (acc.map .int), .val (.int sd), x4, x5, x6] =
    .nx [.val s, .val m, .own (acc'.map .int), .val (.int sd'), x4', x5', x6'] ∧ (0 ≤ sd' ∧ sd' < 2147483647) ∧ acc'.length ≤ acc.length + 60 * l.length ∧ (InR acc → InR acc')
  | [], acc, sd, x4, x5, x6, hs, _ => ⟨acc, sd, x4, x5, x6, rfl, hs, by simp, id⟩
  | c :: l, acc, sd, x4, x5, x6, hs, hl => by
    simp only [List.length_cons] at hl
    obtain ⟨a1, s1, y5, y6, e1, h1, h2, h3⟩ := b0_ok s m acc sd c x5 x6 hs (by omega)
    obtain ⟨a2, s2, z4, z5, z6, e2, h4, h5, h6⟩ := loop0 s m l a1 s1 (.val (.int c)) y5 y6 h1 (by omega)
    refine ⟨a2, s2, z4, z5, z6, ?_, h4, by simp; omega, fun q => h6 (h3 q)⟩
    rw [List.map_cons, for_cons rfl e1, e2]
theorem b2_ok (s : D) (m : Int) (acc : List Int) (sd k : Int) (x4 x5 : SV) (hs : 0 ≤ sd ∧ sd < 2147483647) (hk : 0 ≤ k) (hl : acc.length < 99900) : ∃ acc' sd', b2_dr [.val s, .val (.int m), .own (acc.map .int), .val (.int sd), x4, x5, .val (.int k)] =
    .nx [.val s, .val (.int m), .own (acc'.map .int), .val (.int sd'), x4, x5, .val (.int k)] ∧ (0 ≤ sd' ∧ sd' < 2147483647) ∧ acc'.length ≤ acc.length + 1 ∧ ((acc.length : Int) < m → acc'.length = acc.length + 1) ∧ (m ≤ acc.length → acc' = acc) ∧ (InR acc → InR acc') := by
  have hsd : 0 ≤ (sd * 69621 + k + 1) % 2147483647 ∧ (sd * 69621 + k + 1) % 2147483647 < 2147483647 := by omega
  generalize hs2 : (sd * 69621 + k + 1) % 2147483647 = s2 at hsd
  by_cases hb : (acc.length : Int) < m
  · refine ⟨acc ++ [s2 / 7 % 65521], s2, ?_, hsd, by simp, fun _ => by simp, fun _ => by omega, fun q => q.app (by omega)⟩
    simp [b2_dr, hb, cmul_l (i := sd) (j := 69621) (by omega), hs2, show acc.length < 100000 by omega, cdivw (i := s2) (j := 7) (by omega)]
  · refine ⟨acc, sd, ?_, hs, by omega, fun q => absurd q hb, fun _ => rfl, id⟩
    simp [b2_dr, hb]
theorem loop2 (s : D) (m : Int) (x4 x5 : SV) : ∀ (l : List Nat) (acc : List Int) (sd : Int) (x6 : SV), (0 ≤ sd ∧ sd < 2147483647) → acc.length + l.length < 99900 → ∃ acc' sd' x6', forLoop (sName 6) b2_dr (l.map fun i => .int (0 + (i : Nat))) [.val s, .val (.int m), .own (acc.map .int), .val (.int sd), x4, x5, x6] =
    .nx [.val s, .val (.int m), .own (acc'.map .int), .val (.int sd'), x4, x5, x6'] ∧ (m ≤ acc.length + l.length → m ≤ acc'.length) ∧ acc'.length ≤ acc.length + l.length ∧ (InR acc → InR acc')
  | [], acc, sd, x6, hs, _ => ⟨acc, sd, x6, rfl, by simp, by simp, id⟩
  | c :: l, acc, sd, x6, hs, hl => by
    simp only [List.length_cons] at hl
    obtain ⟨a1, s1, e1, h1, h2, h3, h3', h4⟩ := b2_ok s m acc sd (0 + (c : Nat)) x4 x5 hs (by omega) (by omega)
    obtain ⟨a2, s2, z6, e2, h5, h6, h7⟩ := loop2 s m x4 x5 l a1 s1 (.val (.int (0 + (c : Nat)))) h1 (by omega)
    refine ⟨a2, s2, z6, ?_, ?_, by simp; omega, fun q => h7 (h4 q)⟩
    · rw [List.map_cons, for_cons rfl e1, e2]
    · intro q
      simp only [List.length_cons] at q
      by_cases hb : (acc.length : Int) < m
      · exact h5 (by have := h3 hb; omega)
      · have := h3' (by omega)
        subst this
        exact h5 (by omega)
theorem cut_most {α : Type} (l : List α) (n : Nat) : cut l none (some (n : Int)) = l.take n := by
  unfold cut
  rw [HT.sIx_none, HT.sIx_nat, List.drop_zero, Nat.sub_zero]
  rcases Nat.le_total n l.length with h | h
  · rw [Nat.min_eq_left h]
  · rw [Nat.min_eq_right h, List.take_of_length_le h, List.take_length]
theorem oSl_scr (ns : List Int) (l u : Option Int) : oSl (scrD ns) l u = some (.list (cut (ns.map PyData.int) l u)) := by
  have g : isScr (ns.map fun n => (PyData.int n, PyData.none)) = true := by cases ns <;> rfl
  show (if isScr (ns.map fun n => (PyData.int n, PyData.none)) = true then some (PyData.list (cut ((ns.map fun n => (PyData.int n, PyData.none)).map (fun p => p.1)) l u)) else none) = _
  rw [if_pos g, fst_ints]
/-- the draws of a script -/
theorem draws (ns : List Int) (h : ns.length ≤ 63) (m : Nat) (hm : m ≤ 1000) : ∃ ds : List Int, f_dr [scrD ns, .int m] = .ok (.list (ds.map .int)) ∧ ds.length = m ∧ InR ds := by
  obtain ⟨a1, s1, y4, y5, y6, e1, h1, h2, h3⟩ := loop0 (scrD ns) (.int m) ((ns.take 63)) [] 7 .no .no .no (by omega) (by simp; omega)
  obtain ⟨a2, s2, y6', e2, h4, h5, h6⟩ := loop2 (scrD ns) m y4 y5 (List.range m) a1 s1 y6 h1 (by simp at h2 ⊢; omega)
  have hlen : m ≤ a2.length := by simp at h4; omega
  refine ⟨a2.take m, ?_, by simp; omega, fun d hd => h6 (h3 fun _ z => by cases z) d (List.mem_of_mem_take hd)⟩
  have e1' : forLoop (sName 4) b0_dr (List.take 63 (ns.map PyData.int)) [.val (scrD ns), .val (.int (m : Int)), .own [], .val (.int 7), .no, .no, .no] = .nx [.val (scrD ns), .val (.int (m : Int)), .own (a1.map .int), .val (.int s1), y4, y5, y6] := by
    rw [← List.map_take]; exact e1
  have e2' : forLoop (sName 6) b2_dr (rangeD 0 m) [.val (scrD ns), .val (.int (m : Int)), .own (a1.map .int), .val (.int s1), y4, y5, y6] = .nx [.val (scrD ns), .val (.int (m : Int)), .own (a2.map .int), .val (.int s2), y4, y5, y6'] := e2
  have st : f_dr [scrD ns, .int m] = toR (c_dr [.val (scrD ns), .val (.int m), .no, .no, .no, .no, .no]) := rfl
  rw [st]
  have q1 : cut (ns.map PyData.int) none (some 63) = List.take 63 (ns.map PyData.int) := cut_most _ 63
  have q2 : cut (a2.map PyData.int) none (some (m : Int)) = (a2.map PyData.int).take m := cut_most _ m
  simp [c_dr, oSl_scr, q1, e1', show (-1000000 < (m : Int) ∧ (m : Int) < 1000000) by omega, e2', q2]
end DL.Dr

/-! MQ -/
namespace DL.Q
open PySem
/-! ### quotients in lowest terms -/
structure Low (x y : Int) : Prop where
  pos : 0 < y
  cop : x.gcd y = 1
theorem low_unique {x y u v : Int} (h : Low x y) (k : Low u v) (e : x * v = u * y) : x = u ∧ y = v := by
  have e' : x.natAbs * v.natAbs = u.natAbs * y.natAbs := by rw [← Int.natAbs_mul, ← Int.natAbs_mul, e]
  have hc : Nat.Coprime x.natAbs y.natAbs := h.cop
  have kc : Nat.Coprime u.natAbs v.natAbs := k.cop
  have d1 : y.natAbs ∣ v.natAbs := Nat.Coprime.dvd_of_dvd_mul_left hc.symm (show y.natAbs ∣ x.natAbs * v.natAbs from e' ▸ Nat.dvd_mul_left _ _)
  have d2 : v.natAbs ∣ y.natAbs := Nat.Coprime.dvd_of_dvd_mul_left kc.symm (show v.natAbs ∣ u.natAbs * y.natAbs from e' ▸ Nat.dvd_mul_left _ _)
  have ev : y.natAbs = v.natAbs := Nat.dvd_antisymm d1 d2
  have h1 := h.pos
  have h2 := k.pos
  have yv : y = v := by omega
  subst yv
  exact ⟨Int.eq_of_mul_eq_mul_right (by omega) e, rfl⟩
/-- the quotient up / down in lowest terms -/
def num (p q : Int) : Int := if 0 < q then p / p.gcd q else 0 - p / p.gcd q
def den (p q : Int) : Int := if 0 < q then q / p.gcd q else 0 - q / p.gcd q
theorem gcd_facts {p q : Int} (hq : q ≠ 0) : ∃ a b : Int, p = a * (p.gcd q : Int) ∧ q = b * (p.gcd q : Int) ∧ a.gcd b = 1 ∧ 0 < (p.gcd q : Int) ∧ p / (p.gcd q : Int) = a ∧ q / (p.gcd q : Int) = b := by
  have g0 : 0 < p.gcd q := Int.gcd_pos_of_ne_zero_right p hq
  have g0' : 0 < (p.gcd q : Int) := by omega
  refine ⟨p / (p.gcd q : Int), q / (p.gcd q : Int), (Int.ediv_mul_cancel (Int.gcd_dvd_left p q)).symm, (Int.ediv_mul_cancel (Int.gcd_dvd_right p q)).symm, ?_, g0', rfl, rfl⟩
  have c := Nat.coprime_div_gcd_div_gcd (m := p.natAbs) (n := q.natAbs) g0
  have e1 : (p / (p.gcd q : Int)).natAbs = p.natAbs / p.natAbs.gcd q.natAbs := by
    rw [Int.natAbs_ediv_of_dvd (Int.gcd_dvd_left p q)]; rfl
  have e2 : (q / (p.gcd q : Int)).natAbs = q.natAbs / p.natAbs.gcd q.natAbs := by
    rw [Int.natAbs_ediv_of_dvd (Int.gcd_dvd_right p q)]; rfl
  show (p / (p.gcd q : Int)).natAbs.gcd (q / (p.gcd q : Int)).natAbs = 1
  rw [e1, e2]
  exact c
theorem low_num {p q : Int} (hq : q ≠ 0) : Low (num p q) (den p q) ∧ num p q * q = p * den p q := by
  obtain ⟨a, b, ha, hb, hc, hg, ea, eb⟩ := gcd_facts (p := p) hq
  unfold num den
  rw [ea, eb]
  generalize (p.gcd q : Int) = g at *
  have pq : a * q = p * b := by rw [ha, hb]; simp only [Int.mul_assoc, Int.mul_comm, Int.mul_left_comm]
  by_cases h : 0 < q
  · rw [if_pos h, if_pos h]
    refine ⟨⟨?_, hc⟩, pq⟩
    rw [hb] at h
    exact Int.pos_of_mul_pos_left h hg
  · rw [if_neg h, if_neg h]
    refine ⟨⟨?_, ?_⟩, ?_⟩
    · have h' : 0 < -q := by omega
      have e : -q = (-b) * g := by rw [hb]; simp [Int.neg_mul]
      rw [e] at h'
      have := Int.pos_of_mul_pos_left h' hg
      omega
    · have e1 : (0 - a).gcd (0 - b) = a.gcd b := by simp
      rw [e1]; exact hc
    · rw [show (0 - a) * q = -(a * q) by simp [Int.neg_mul], show p * (0 - b) = -(p * b) by rw [Int.zero_sub, Int.mul_neg], pq]
/-- the data of a quotient -/
def fr (p q : Int) : D := .tuple [.int (num p q), .int (den p q)]
theorem num_eq {p q r s : Int} (hq : q ≠ 0) (hs : s ≠ 0) (e : p * s = r * q) : num p q = num r s ∧ den p q = den r s := by
  obtain ⟨l1, c1⟩ := low_num (p := p) hq
  obtain ⟨l2, c2⟩ := low_num (p := r) hs
  refine low_unique l1 l2 ?_
  -- n1 * q = p * d1, n2 * s = r * d2
  have : (num p q * den r s) * (q * s) = (num r s * den p q) * (q * s) := by
    calc (num p q * den r s) * (q * s) = (num p q * q) * (den r s * s) := by simp only [Int.mul_assoc, Int.mul_comm, Int.mul_left_comm]
      _ = (p * den p q) * (den r s * s) := by rw [c1]
      _ = (p * s) * (den p q * den r s) := by simp only [Int.mul_assoc, Int.mul_comm, Int.mul_left_comm]
      _ = (r * q) * (den p q * den r s) := by rw [e]
      _ = (r * den r s) * (den p q * q) := by simp only [Int.mul_assoc, Int.mul_comm, Int.mul_left_comm]
      _ = (num r s * s) * (den p q * q) := by rw [c2]
      _ = (num r s * den p q) * (q * s) := by simp only [Int.mul_assoc, Int.mul_comm, Int.mul_left_comm]
  exact Int.eq_of_mul_eq_mul_right (Int.mul_ne_zero hq hs) this
theorem fr_eq {p q r s : Int} (hq : q ≠ 0) (hs : s ≠ 0) (e : p * s = r * q) : fr p q = fr r s := by
  unfold fr
  obtain ⟨e1, e2⟩ := num_eq hq hs e
  rw [e1, e2]
theorem num_iff {p q r s : Int} (hq : q ≠ 0) (hs : s ≠ 0) (h1 : num p q = num r s) (h2 : den p q = den r s) : p * s = r * q := by
  obtain ⟨l1, c1⟩ := low_num (p := p) hq
  obtain ⟨l2, c2⟩ := low_num (p := r) hs
  have d := l1.pos
  rw [h1, h2] at c1
  rw [h2] at d
  have : (p * s) * den r s = (r * q) * den r s := by
    calc (p * s) * den r s = (p * den r s) * s := by simp only [Int.mul_assoc, Int.mul_comm, Int.mul_left_comm]
      _ = (num r s * q) * s := by rw [c1]
      _ = (num r s * s) * q := by simp only [Int.mul_assoc, Int.mul_comm, Int.mul_left_comm]
      _ = (r * den r s) * q := by rw [c2]
      _ = (r * q) * den r s := by simp only [Int.mul_assoc, Int.mul_comm, Int.mul_left_comm]
  exact Int.eq_of_mul_eq_mul_right (by omega) this
/-- what is in lowest terms stays -/
theorem num_low {x y : Int} (h : Low x y) : num x y = x ∧ den x y = y := by
  have := h.pos
  unfold num den
  rw [if_pos this, if_pos this, h.cop]
  simp
theorem fr_low {x y : Int} (h : Low x y) : fr x y = .tuple [.int x, .int y] := by
  unfold fr
  obtain ⟨a, b⟩ := num_low h
  rw [a, b]
/-- sizes -/
theorem num_le {p q : Int} (hq : 0 < q) (hp : 0 < p) : 0 < num p q ∧ num p q ≤ p ∧ 0 < den p q ∧ den p q ≤ q := by
  obtain ⟨a, b, ha, hb, hc, hg, ea, eb⟩ := gcd_facts (p := p) (q := q) (by omega)
  unfold num den
  rw [if_pos hq, if_pos hq, ea, eb]
  generalize (p.gcd q : Int) = g at *
  have a0 : 0 < a := Int.pos_of_mul_pos_left (by rw [← ha]; exact hp) hg
  have b0 : 0 < b := Int.pos_of_mul_pos_left (by rw [← hb]; exact hq) hg
  have one : ∀ z : Int, 0 < z → z ≤ z * g := fun z hz => by
    have := Int.mul_le_mul_of_nonneg_left (show (1 : Int) ≤ g by omega) (show 0 ≤ z by omega)
    omega
  exact ⟨a0, by have := one a a0; omega, b0, by have := one b b0; omega⟩
theorem num_abs {p q : Int} (hq : q ≠ 0) : (num p q).natAbs ≤ p.natAbs ∧ (den p q).natAbs ≤ q.natAbs := by
  obtain ⟨a, b, ha, hb, hc, hg, ea, eb⟩ := gcd_facts (p := p) (q := q) hq
  unfold num den
  rw [ea, eb]
  generalize (p.gcd q : Int) = g at *
  have one : ∀ z : Int, z.natAbs ≤ (z * g).natAbs := fun z => by
    rw [Int.natAbs_mul]
    exact Nat.le_mul_of_pos_right _ (by omega)
  have h1 := one a
  have h2 := one b
  rw [← ha] at h1
  rw [← hb] at h2
  split <;> omega
/-- small enough for products -/
structure Sm (p q : Int) : Prop where
  q0 : 0 < q
  n : (num p q).natAbs < 2147483648
  d : (den p q).natAbs < 2147483648
theorem sm {p q : Int} (hq : 0 < q) (h1 : p.natAbs < 2147483648) (h2 : q < 2147483648) : Sm p q := by
  obtain ⟨a, b⟩ := num_abs (p := p) (q := q) (by omega)
  exact ⟨hq, by omega, by omega⟩
theorem Sm.c {p q : Int} (h : Sm p q) : num p q * q = p * den p q ∧ 0 < den p q := by
  obtain ⟨l, c⟩ := low_num (p := p) (q := q) (by have := h.q0; omega)
  exact ⟨c, l.pos⟩
theorem mul_lt {a b : Int} (ha : a.natAbs < 2147483648) (hb : b.natAbs < 2147483648) : (a * b).natAbs < 4611686018427387905 := by
  rw [Int.natAbs_mul]
  exact Nat.lt_of_le_of_lt (Nat.mul_le_mul (Nat.le_of_lt_succ (show a.natAbs < 2147483648 from ha)) (Nat.le_of_lt_succ (show b.natAbs < 2147483648 from hb))) (by decide)
theorem sm_cm {a b : Int} (ha : a.natAbs < 2147483648) : L2.CMul a b := cmul_l (by omega)
theorem x_mul {a b c d : Int} (h : Sm a b) (k : Sm c d) : fr (num a b * num c d) (den a b * den c d) = fr (a * c) (b * d) ∧ 0 < den a b * den c d ∧ (den a b * den c d).natAbs < 9000000000000000000 := by
  obtain ⟨c1, p1⟩ := h.c
  obtain ⟨c2, p2⟩ := k.c
  have hp := Int.mul_pos p1 p2
  have hb := Int.mul_pos h.q0 k.q0
  refine ⟨fr_eq (by omega) (by omega) ?_, hp, by have := mul_lt h.d k.d; omega⟩
  calc num a b * num c d * (b * d) = (num a b * b) * (num c d * d) := by simp only [Int.mul_assoc, Int.mul_comm, Int.mul_left_comm]
    _ = (a * den a b) * (c * den c d) := by rw [c1, c2]
    _ = a * c * (den a b * den c d) := by simp only [Int.mul_assoc, Int.mul_comm, Int.mul_left_comm]
theorem x_div {a b c d : Int} (h : Sm a b) (k : Sm c d) (hc : 0 < c) : fr (num a b * den c d) (den a b * num c d) = fr (a * d) (b * c) ∧ 0 < den a b * num c d ∧ (den a b * num c d).natAbs < 9000000000000000000 := by
  obtain ⟨c1, p1⟩ := h.c
  obtain ⟨c2, p2⟩ := k.c
  have p3 : 0 < num c d := by
    have : 0 < num c d * d := by rw [c2]; exact Int.mul_pos hc p2
    exact Int.pos_of_mul_pos_left this k.q0
  have hp := Int.mul_pos p1 p3
  have hb := Int.mul_pos h.q0 hc
  refine ⟨fr_eq (by omega) (by omega) ?_, hp, by have := mul_lt h.d k.n; omega⟩
  calc num a b * den c d * (b * c) = (num a b * b) * (c * den c d) := by simp only [Int.mul_assoc, Int.mul_comm, Int.mul_left_comm]
    _ = (a * den a b) * (num c d * d) := by rw [c1, c2]
    _ = a * d * (den a b * num c d) := by simp only [Int.mul_assoc, Int.mul_comm, Int.mul_left_comm]
theorem x_add {a b c d : Int} (h : Sm a b) (k : Sm c d) : fr (num a b * den c d + num c d * den a b) (den a b * den c d) = fr (a * d + c * b) (b * d) ∧ 0 < den a b * den c d ∧ (den a b * den c d).natAbs < 9000000000000000000 := by
  obtain ⟨c1, p1⟩ := h.c
  obtain ⟨c2, p2⟩ := k.c
  have hp := Int.mul_pos p1 p2
  have hb := Int.mul_pos h.q0 k.q0
  refine ⟨fr_eq (by omega) (by omega) ?_, hp, by have := mul_lt h.d k.d; omega⟩
  calc (num a b * den c d + num c d * den a b) * (b * d) = (num a b * b) * (den c d * d) + (num c d * d) * (den a b * b) := by (simp only [Int.add_mul, Int.mul_add, Int.mul_assoc, Int.mul_comm, Int.mul_left_comm])
    _ = (a * den a b) * (den c d * d) + (c * den c d) * (den a b * b) := by rw [c1, c2]
    _ = (a * d + c * b) * (den a b * den c d) := by (simp only [Int.add_mul, Int.mul_add, Int.mul_assoc, Int.mul_comm, Int.mul_left_comm])
theorem x_sub {a b c d : Int} (h : Sm a b) (k : Sm c d) : fr (num a b * den c d - num c d * den a b) (den a b * den c d) = fr (a * d - c * b) (b * d) ∧ 0 < den a b * den c d ∧ (den a b * den c d).natAbs < 9000000000000000000 := by
  obtain ⟨c1, p1⟩ := h.c
  obtain ⟨c2, p2⟩ := k.c
  have hp := Int.mul_pos p1 p2
  have hb := Int.mul_pos h.q0 k.q0
  refine ⟨fr_eq (by omega) (by omega) ?_, hp, by have := mul_lt h.d k.d; omega⟩
  calc (num a b * den c d - num c d * den a b) * (b * d) = (num a b * b) * (den c d * d) - (num c d * d) * (den a b * b) := by (simp only [Int.sub_mul, Int.mul_sub, Int.mul_assoc, Int.mul_comm, Int.mul_left_comm])
    _ = (a * den a b) * (den c d * d) - (c * den c d) * (den a b * b) := by rw [c1, c2]
    _ = (a * d - c * b) * (den a b * den c d) := by (simp only [Int.sub_mul, Int.mul_sub, Int.mul_assoc, Int.mul_comm, Int.mul_left_comm])
/-- which of two is less -/
theorem x_lt {a b c d : Int} (h : Sm a b) (k : Sm c d) : num a b * den c d < num c d * den a b ↔ a * d < c * b := by
  obtain ⟨c1, p1⟩ := h.c
  obtain ⟨c2, p2⟩ := k.c
  have hp := Int.mul_pos p1 p2
  have hb := Int.mul_pos h.q0 k.q0
  have e1 : (num a b * den c d) * (b * d) = (a * d) * (den a b * den c d) := by
    calc (num a b * den c d) * (b * d) = (num a b * b) * (den c d * d) := by simp only [Int.mul_assoc, Int.mul_comm, Int.mul_left_comm]
      _ = (a * den a b) * (den c d * d) := by rw [c1]
      _ = (a * d) * (den a b * den c d) := by simp only [Int.mul_assoc, Int.mul_comm, Int.mul_left_comm]
  have e2 : (num c d * den a b) * (b * d) = (c * b) * (den a b * den c d) := by
    calc (num c d * den a b) * (b * d) = (num c d * d) * (den a b * b) := by simp only [Int.mul_assoc, Int.mul_comm, Int.mul_left_comm]
      _ = (c * den c d) * (den a b * b) := by rw [c2]
      _ = (c * b) * (den a b * den c d) := by simp only [Int.mul_assoc, Int.mul_comm, Int.mul_left_comm]
  constructor
  · intro q
    have := Int.mul_lt_mul_of_pos_right q hb
    rw [e1, e2] at this
    exact Int.lt_of_mul_lt_mul_right this (Int.le_of_lt hp)
  · intro q
    have := Int.mul_lt_mul_of_pos_right q hp
    rw [← e1, ← e2] at this
    exact Int.lt_of_mul_lt_mul_right this (Int.le_of_lt hb)
/-! the loop of Euclid -/
theorem euclid {t : Env → R Bool} {b : Env → Out} {E : Nat → Nat → Env} (ht : ∀ x y, t (E x y) = .ok (decide (0 < y))) (hb : ∀ x y, 0 < y → b (E x y) = .nx (E y (x % y))) : ∀ (n : Nat) (x y : Nat), y < n → whileLoop t b n (E x y) = .nx (E (Nat.gcd x y) 0)
  | 0, x, y, h => by omega
  | n + 1, x, y, h => by
    by_cases hy : 0 < y
    · rw [while_go (by rw [ht, decide_eq_true hy]) (hb x y hy)]
      have := Nat.mod_lt x hy
      rw [euclid ht hb n y (x % y) (by omega), Nat.gcd_comm x y, Nat.gcd_rec y x]
      rw [Nat.gcd_comm]
    · have : y = 0 := by omega
      subst this
      rw [while_stop (by rw [ht]; rfl), Nat.gcd_zero_right]
end DL.Q

/-! MR -/
namespace DL.Q
open PySem L2
def c_is_whole : Env → Out := (sRet (cAndV (cIs isIntD (cBor 0)) (cAndV (cNotV (cIs isBoolD (cBor 0))) (cChain oLe oLe (cBor 1) (cBor 0) (cBor 2)))))
def f_is_whole : List D → R D := semOf 3 3 c_is_whole
def b0_divisor : Env → Out := (sPar 0 1 (asVal (cVar 1)) (asVal (cOp oMod (cBor 0) (cBor 1))))
def c_divisor : Env → Out := (sSeq (sPar 0 1 (asVal (cBt bAbs (aCons (cBor 0) aNil))) (asVal (cBt bAbs (aCons (cBor 1) aNil))))
  (sSeq (sWhile (cTest (cOp oGt (cBor 1) (cC (.int 0)))) b0_divisor)
  (sRet (cVar 0))))
def f_divisor : List D → R D := semOf 2 2 c_divisor
def c_ratio : Env → Out := (sSeq (sAsg 2 (asVal (cCall f_divisor (aCons (cVar 0) (aCons (cVar 1) aNil)))))
  (sRet (cIf (cTest (cOp oGt (cBor 1) (cC (.int 0)))) (cTup (aCons (cOp oDiv (cBor 0) (cBor 2)) (aCons (cOp oDiv (cBor 1) (cBor 2)) aNil))) (cTup (aCons (cOp oSub (cC (.int 0)) (cOp oDiv (cBor 0) (cBor 2))) (aCons (cOp oSub (cC (.int 0)) (cOp oDiv (cBor 1) (cBor 2))) aNil))))))
def f_ratio : List D → R D := semOf 3 2 c_ratio
def c_plus : Env → Out := (sRet (cCall f_ratio (aCons (cOp oAdd (cOp oMul1 (cOp oIxA (cBor 0) (cC (.int 0))) (cOp oIxA (cBor 1) (cC (.int 1)))) (cOp oMul1 (cOp oIxA (cBor 1) (cC (.int 0))) (cOp oIxA (cBor 0) (cC (.int 1))))) (aCons (cOp oMul1 (cOp oIxA (cBor 0) (cC (.int 1))) (cOp oIxA (cBor 1) (cC (.int 1)))) aNil))))
def f_plus : List D → R D := semOf 2 2 c_plus
def c_minus : Env → Out := (sRet (cCall f_ratio (aCons (cOp oSub (cOp oMul1 (cOp oIxA (cBor 0) (cC (.int 0))) (cOp oIxA (cBor 1) (cC (.int 1)))) (cOp oMul1 (cOp oIxA (cBor 1) (cC (.int 0))) (cOp oIxA (cBor 0) (cC (.int 1))))) (aCons (cOp oMul1 (cOp oIxA (cBor 0) (cC (.int 1))) (cOp oIxA (cBor 1) (cC (.int 1)))) aNil))))
def f_minus : List D → R D := semOf 2 2 c_minus
def c_times : Env → Out := (sRet (cCall f_ratio (aCons (cOp oMul1 (cOp oIxA (cBor 0) (cC (.int 0))) (cOp oIxA (cBor 1) (cC (.int 0)))) (aCons (cOp oMul1 (cOp oIxA (cBor 0) (cC (.int 1))) (cOp oIxA (cBor 1) (cC (.int 1)))) aNil))))
def f_times : List D → R D := semOf 2 2 c_times
def c_over : Env → Out := (sRet (cCall f_ratio (aCons (cOp oMul1 (cOp oIxA (cBor 0) (cC (.int 0))) (cOp oIxA (cBor 1) (cC (.int 1)))) (aCons (cOp oMul1 (cOp oIxA (cBor 0) (cC (.int 1))) (cOp oIxA (cBor 1) (cC (.int 0)))) aNil))))
def f_over : List D → R D := semOf 2 2 c_over
def c_is_less : Env → Out := (sRet (cOp oLt (cOp oMul1 (cOp oIxA (cBor 0) (cC (.int 0))) (cOp oIxA (cBor 1) (cC (.int 1)))) (cOp oMul1 (cOp oIxA (cBor 1) (cC (.int 0))) (cOp oIxA (cBor 0) (cC (.int 1))))))
def f_is_less : List D → R D := semOf 2 2 c_is_less
def c_is_ratio : Env → Out := (sSeq (sIf (cOr (cNot (cTest (cIs isTupleD (cBor 0)))) (cTest (cOp oNe (cBt bLen (aCons (cBor 0) aNil)) (cC (.int 2))))) (sRet (cC (.bool false))) sNx)
  (sSeq (sIf (cNot (cTest (cBt bAll (aCons (asList (cLc (cItems (cBor 0)) (sName 1) cYes (cAndV (cIs isIntD (cBor 1)) (cNotV (cIs isBoolD (cBor 1)))) [1])) aNil)))) (sRet (cC (.bool false))) sNx)
  (sRet (cAndV (cOp oGt (cOp oIxA (cBor 0) (cC (.int 1))) (cC (.int 0))) (cOp oEq (cCall f_divisor (aCons (cOp oIxA (cBor 0) (cC (.int 0))) (aCons (cOp oIxA (cBor 0) (cC (.int 1))) aNil))) (cC (.int 1)))))))
def f_is_ratio : List D → R D := semOf 2 1 c_is_ratio
def c_is_small : Env → Out := (sRet (cAndV (cCall f_is_ratio (aCons (cVar 0) aNil)) (cAndV (cCall f_is_whole (aCons (cOp oIxA (cBor 0) (cC (.int 0))) (aCons (cOp oSub (cC (.int 0)) (cC (.int 1000000))) (aCons (cC (.int 1000000)) aNil)))) (cOp oLe (cOp oIxA (cBor 0) (cC (.int 1))) (cC (.int 1000000))))))
def f_is_small : List D → R D := semOf 1 1 c_is_small
def b0__law_plain : Env → Out := (sPar 2 3 (asVal (cVar 3)) (asVal (cOp oMod (cBt bInt (aCons (cBor 2) aNil)) (cBor 3))))
def c__law_plain : Env → Out := (sSeq (sPar 2 3 (asVal (cBt bMax2 (aCons (cBor 0) (aCons (cOp oSub (cC (.int 0)) (cBor 0)) aNil)))) (asVal (cBt bMax2 (aCons (cBor 1) (aCons (cOp oSub (cC (.int 0)) (cBor 1)) aNil)))))
  (sSeq (sWhile (cTest (cOp oGt (cBor 3) (cC (.int 0)))) b0__law_plain)
  (sRet (cIf (cTest (cOp oGt (cBor 1) (cC (.int 0)))) (cTup (aCons (cOp oDiv (cBor 0) (cBor 2)) (aCons (cOp oDiv (cBor 1) (cBor 2)) aNil))) (cTup (aCons (cOp oSub (cC (.int 0)) (cOp oDiv (cBor 0) (cBor 2))) (aCons (cOp oSub (cC (.int 0)) (cOp oDiv (cBor 1) (cBor 2))) aNil)))))))
def f__law_plain : List D → R D := semOf 4 2 c__law_plain
def c__law_plus : Env → Out := (sRet (cCall f__law_plain (aCons (cOp oAdd (cOp oMul1 (cOp oIxA (cBor 0) (cC (.int 0))) (cOp oIxA (cBor 1) (cC (.int 1)))) (cOp oMul1 (cOp oIxA (cBor 1) (cC (.int 0))) (cOp oIxA (cBor 0) (cC (.int 1))))) (aCons (cOp oMul1 (cOp oIxA (cBor 0) (cC (.int 1))) (cOp oIxA (cBor 1) (cC (.int 1)))) aNil))))
def f__law_plus : List D → R D := semOf 2 2 c__law_plus
def c__law_minus : Env → Out := (sRet (cCall f__law_plain (aCons (cOp oSub (cOp oMul1 (cOp oIxA (cBor 0) (cC (.int 0))) (cOp oIxA (cBor 1) (cC (.int 1)))) (cOp oMul1 (cOp oIxA (cBor 1) (cC (.int 0))) (cOp oIxA (cBor 0) (cC (.int 1))))) (aCons (cOp oMul1 (cOp oIxA (cBor 0) (cC (.int 1))) (cOp oIxA (cBor 1) (cC (.int 1)))) aNil))))
def f__law_minus : List D → R D := semOf 2 2 c__law_minus
def c__law_by : Env → Out := (sRet (cCall f__law_plain (aCons (cOp oMul1 (cOp oIxA (cBor 0) (cC (.int 0))) (cOp oIxA (cBor 1) (cC (.int 0)))) (aCons (cOp oMul1 (cOp oIxA (cBor 0) (cC (.int 1))) (cOp oIxA (cBor 1) (cC (.int 1)))) aNil))))
def f__law_by : List D → R D := semOf 2 2 c__law_by
def c__law_over : Env → Out := (sRet (cCall f__law_plain (aCons (cOp oMul1 (cOp oIxA (cBor 0) (cC (.int 0))) (cOp oIxA (cBor 1) (cC (.int 1)))) (aCons (cOp oMul1 (cOp oIxA (cBor 0) (cC (.int 1))) (cOp oIxA (cBor 1) (cC (.int 0)))) aNil))))
def f__law_over : List D → R D := semOf 2 2 c__law_over
def c__law_less : Env → Out := (sRet (cOp oLt (cOp oMul1 (cOp oIxA (cBor 0) (cC (.int 0))) (cOp oIxA (cBor 1) (cC (.int 1)))) (cOp oMul1 (cOp oIxA (cBor 1) (cC (.int 0))) (cOp oIxA (cBor 0) (cC (.int 1))))))
def f__law_less : List D → R D := semOf 2 2 c__law_less
def c_ascends : Env → Out := (sRet (cBt bAll (aCons (asList (cLc (cIt zip2D (aCons (cBor 0) (aCons (cSl (cBor 0) (pSome (cC (.int 1))) pNone) aNil))) (sTup (sCons (sName 1) (sCons (sName 2) sNil))) cYes (cOp oLt (cBor 1) (cBor 2)) [1, 2])) aNil)))
def f_ascends : List D → R D := semOf 3 1 c_ascends
def c_is_post : Env → Out := (sSeq (sIf (cOr (cNot (cTest (cIs isTupleD (cBor 0)))) (cTest (cOp oNe (cBt bLen (aCons (cBor 0) aNil)) (cC (.int 2))))) (sRet (cC (.bool false))) sNx)
  (sRet (cAndV (cCall f_is_whole (aCons (cOp oIxA (cBor 0) (cC (.int 0))) (aCons (cC (.int 0)) (aCons (cC (.int 1000)) aNil)))) (cCall f_is_whole (aCons (cOp oIxA (cBor 0) (cC (.int 1))) (aCons (cC (.int 1)) (aCons (cC (.int 1000)) aNil)))))))
def f_is_post : List D → R D := semOf 1 1 c_is_post
def c_are_posts : Env → Out := (sSeq (sIf (cOr (cNot (cTest (cIs isTupleD (cBor 0)))) (cOr (cNot (cTest (cChain oLe oLe (cC (.int 1)) (cBt bLen (aCons (cBor 0) aNil)) (cC (.int 8))))) (cNot (cTest (cBt bAll (aCons (asList (cLc (cItems (cBor 0)) (sName 1) cYes (cCall f_is_post (aCons (cVar 1) aNil)) [1])) aNil)))))) (sRet (cC (.bool false))) sNx)
  (sRet (cCall f_ascends (aCons (asList (cLc (cItems (cBor 0)) (sName 1) cYes (cOp oIxA (cBor 1) (cC (.int 0))) [1])) aNil))))
def f_are_posts : List D → R D := semOf 2 1 c_are_posts
def b0__law_posts : Env → Out := (sSeq (sAsg 4 (asVal (cBt bInt (aCons (cOp oIxA (cBor 0) (cOp oAdd (cC (.int 1)) (cBor 3))) aNil))))
  (sPut 2 (cOp oAdd (cC (.int 1)) (cOp oMod (cOp oDiv (cBor 4) (cC (.int 32))) (cC (.int 20)))) (cOp oMod (cBor 4) (cC (.int 30)))))
def c__law_posts : Env → Out := (sSeq (sAsg 2 asDic)
  (sSeq (sFor (cIt range1D (aCons (cOp oAdd (cC (.int 1)) (cOp oMod (cBt bInt (aCons (cOp oIxA (cBor 0) (cC (.int 0))) aNil)) (cBor 1))) aNil)) (sName 3) b0__law_posts)
  (sRet (cBt bTuple (aCons (asList (cLc (cItems (cBt bSortedC (aCons (cBor 2) aNil))) (sName 5) cYes (cTup (aCons (cVar 5) (aCons (cOp oIxA (cBor 2) (cBor 5)) aNil))) [5])) aNil)))))
def f__law_posts : List D → R D := semOf 6 2 c__law_posts
def isW (d : D) (a b : Int) : Bool := match d with
  | .int i => decide (a ≤ i ∧ i ≤ b)
  | _ => false
theorem is_whole_ok (d : D) (a b : Int) : f_is_whole [d, .int a, .int b] = .ok (.bool (isW d a b)) := by
  cases d with
  | int i =>
    by_cases h : a ≤ i
    · simp [f_is_whole, semOf, c_is_whole, isIntD, isBoolD, isW, h]
    · simp [f_is_whole, semOf, c_is_whole, isIntD, isBoolD, isW, h]
  | _ => simp [f_is_whole, semOf, c_is_whole, isIntD, isBoolD, isW]
theorem absI (i : Int) : (if i < 0 then -i else i) = (i.natAbs : Int) := by split <;> omega
theorem divisor_ok (a b : Int) (hb : b.natAbs < FUEL) : f_divisor [.int a, .int b] = .ok (.int (a.gcd b)) := by
  have e := euclid (t := cTest (cOp oGt (cBor 1) (cC (.int 0)))) (b := b0_divisor) (E := fun x y => [.val (.int (x : Nat)), .val (.int (y : Nat))]) (fun x y => by simp) (fun x y hy => by
    simp [b0_divisor]
    omega) FUEL a.natAbs b.natAbs hb
  simp [f_divisor, semOf, c_divisor, absI, e]
  rfl
theorem ratio_ok (p q : Int) (hq : q ≠ 0) (hb : q.natAbs < 9000000000000000000) : f_ratio [.int p, .int q] = .ok (fr p q) := by
  have g0 : 0 < p.gcd q := Int.gcd_pos_of_ne_zero_right p hq
  have g1 : p.gcd q ≤ q.natAbs := Int.gcd_le_natAbs_right p hq
  have d := divisor_ok p q (by unfold FUEL; omega)
  have c1 : CDivW p (p.gcd q) := cdivw (by omega)
  have c2 : CDivW q (p.gcd q) := cdivw (by omega)
  by_cases h : 0 < q
  · simp [f_ratio, semOf, c_ratio, d, h, c1, c2, fr, num, den]
  · simp [f_ratio, semOf, c_ratio, d, h, c1, c2, fr, num, den]
theorem atI0 {α : Type} (x : α) (l : List α) : atI (x :: l) 0 = some x := atI_nat (j := 0) rfl
theorem atI1 {α : Type} (x y : α) (l : List α) : atI (x :: y :: l) 1 = some y := atI_nat (j := 1) rfl
theorem plain_ok (p q : Int) (hq : q ≠ 0) (hb : q.natAbs < 9000000000000000000) : f__law_plain [.int p, .int q] = .ok (fr p q) := by
  have g0 : 0 < p.gcd q := Int.gcd_pos_of_ne_zero_right p hq
  have g1 : p.gcd q ≤ q.natAbs := Int.gcd_le_natAbs_right p hq
  have c1 : CDivW p (p.gcd q) := cdivw (by omega)
  have c2 : CDivW q (p.gcd q) := cdivw (by omega)
  have m : ∀ i : Int, (if i < -i then -i else i) = (i.natAbs : Int) := fun i => by split <;> omega
  have e := euclid (t := cTest (cOp oGt (cBor 3) (cC (.int 0)))) (b := b0__law_plain) (E := fun x y => [.val (.int p), .val (.int q), .val (.int (x : Nat)), .val (.int (y : Nat))]) (fun x y => by simp) (fun x y hy => by
    simp [b0__law_plain]
    omega) FUEL p.natAbs q.natAbs (by unfold FUEL; omega)
  have e' : whileLoop (cTest (cOp oGt (cBor 3) (cC (.int 0)))) b0__law_plain FUEL [.val (.int p), .val (.int q), .val (.int (p.natAbs : Int)), .val (.int (q.natAbs : Int))] = .nx [.val (.int p), .val (.int q), .val (.int (p.gcd q : Int)), .val (.int 0)] := e
  by_cases h : 0 < q
  · simp only [f__law_plain, semOf, c__law_plain]
    simp [m, e', h, c1, c2, fr, num, den]
  · simp only [f__law_plain, semOf, c__law_plain]
    simp [m, e', h, c1, c2, fr, num, den]
theorem times_ok {a b c d : Int} (h : Sm a b) (k : Sm c d) : f_times [fr a b, fr c d] = .ok (fr (a * c) (b * d)) := by
  obtain ⟨e1, e2, e3⟩ := x_mul h k
  have r := ratio_ok (num a b * num c d) (den a b * den c d) (by omega) e3
  rw [e1] at r
  simp [f_times, semOf, c_times, fr, atI0, atI1, sm_cm h.n, sm_cm h.d, r]
theorem x_divS {a b c d : Int} (h : Sm a b) (k : Sm c d) (hc : c ≠ 0) : fr (num a b * den c d) (den a b * num c d) = fr (a * d) (b * c) ∧ den a b * num c d ≠ 0 ∧ (den a b * num c d).natAbs < 9000000000000000000 := by
  obtain ⟨c1, p1⟩ := h.c
  obtain ⟨c2, p2⟩ := k.c
  have p3 : num c d ≠ 0 := fun z => by
    rw [z, Int.zero_mul] at c2
    exact Int.mul_ne_zero hc (by omega) c2.symm
  have hb := h.q0
  refine ⟨fr_eq (Int.mul_ne_zero (by omega) p3) (Int.mul_ne_zero (by omega) hc) ?_, Int.mul_ne_zero (by omega) p3, by have := mul_lt h.d k.n; omega⟩
  calc num a b * den c d * (b * c) = (num a b * b) * (c * den c d) := by simp only [Int.mul_assoc, Int.mul_comm, Int.mul_left_comm]
    _ = (a * den a b) * (num c d * d) := by rw [c1, c2]
    _ = a * d * (den a b * num c d) := by simp only [Int.mul_assoc, Int.mul_comm, Int.mul_left_comm]
theorem over_ok {a b c d : Int} (h : Sm a b) (k : Sm c d) (hc : c ≠ 0) : f_over [fr a b, fr c d] = .ok (fr (a * d) (b * c)) := by
  obtain ⟨e1, e2, e3⟩ := x_divS h k hc
  have r := ratio_ok (num a b * den c d) (den a b * num c d) e2 e3
  rw [e1] at r
  simp [f_over, semOf, c_over, fr, atI0, atI1, sm_cm h.n, sm_cm h.d, r]
theorem minus_ok {a b c d : Int} (h : Sm a b) (k : Sm c d) : f_minus [fr a b, fr c d] = .ok (fr (a * d - c * b) (b * d)) := by
  obtain ⟨e1, e2, e3⟩ := x_sub h k
  have r := ratio_ok (num a b * den c d - num c d * den a b) (den a b * den c d) (by omega) e3
  rw [e1] at r
  simp [f_minus, semOf, c_minus, fr, atI0, atI1, sm_cm h.n, sm_cm h.d, sm_cm k.n, r]
theorem less_ok {a b c d : Int} (h : Sm a b) (k : Sm c d) : f_is_less [fr a b, fr c d] = .ok (.bool (decide (a * d < c * b))) := by
  have e := x_lt h k
  simp [f_is_less, semOf, c_is_less, fr, atI0, atI1, sm_cm h.n, sm_cm h.d, sm_cm k.n, e]
theorem plus_ok {a b c d : Int} (h : Sm a b) (k : Sm c d) : f_plus [fr a b, fr c d] = .ok (fr (a * d + c * b) (b * d)) := by
  obtain ⟨e1, e2, e3⟩ := x_add h k
  have r := ratio_ok (num a b * den c d + num c d * den a b) (den a b * den c d) (by omega) e3
  rw [e1] at r
  simp [f_plus, semOf, c_plus, fr, atI0, atI1, sm_cm h.n, sm_cm h.d, sm_cm k.n, r]
theorem lminus_ok {a b c d : Int} (h : Sm a b) (k : Sm c d) : f__law_minus [fr a b, fr c d] = .ok (fr (a * d - c * b) (b * d)) := by
  obtain ⟨e1, e2, e3⟩ := x_sub h k
  have r := plain_ok (num a b * den c d - num c d * den a b) (den a b * den c d) (by omega) e3
  rw [e1] at r
  simp [f__law_minus, semOf, c__law_minus, fr, atI0, atI1, sm_cm h.n, sm_cm h.d, sm_cm k.n, r]
theorem lless_ok {a b c d : Int} (h : Sm a b) (k : Sm c d) : f__law_less [fr a b, fr c d] = .ok (.bool (decide (a * d < c * b))) := by
  have e := x_lt h k
  simp [f__law_less, semOf, c__law_less, fr, atI0, atI1, sm_cm h.n, sm_cm h.d, sm_cm k.n, e]
theorem by_ok {a b c d : Int} (h : Sm a b) (k : Sm c d) : f__law_by [fr a b, fr c d] = .ok (fr (a * c) (b * d)) := by
  obtain ⟨e1, e2, e3⟩ := x_mul h k
  have r := plain_ok (num a b * num c d) (den a b * den c d) (by omega) e3
  rw [e1] at r
  simp [f__law_by, semOf, c__law_by, fr, atI0, atI1, sm_cm h.n, sm_cm h.d, r]
theorem lover_ok {a b c d : Int} (h : Sm a b) (k : Sm c d) (hc : c ≠ 0) : f__law_over [fr a b, fr c d] = .ok (fr (a * d) (b * c)) := by
  obtain ⟨e1, e2, e3⟩ := x_divS h k hc
  have r := plain_ok (num a b * den c d) (den a b * num c d) e2 e3
  rw [e1] at r
  simp [f__law_over, semOf, c__law_over, fr, atI0, atI1, sm_cm h.n, sm_cm h.d, r]
theorem lplus_ok {a b c d : Int} (h : Sm a b) (k : Sm c d) : f__law_plus [fr a b, fr c d] = .ok (fr (a * d + c * b) (b * d)) := by
  obtain ⟨e1, e2, e3⟩ := x_add h k
  have r := plain_ok (num a b * den c d + num c d * den a b) (den a b * den c d) (by omega) e3
  rw [e1] at r
  simp [f__law_plus, semOf, c__law_plus, fr, atI0, atI1, sm_cm h.n, sm_cm h.d, sm_cm k.n, r]
theorem sh_fr {n : Nat} (a b : Int) : Sh (n + 1) (fr a b) := sh_tup fun d hd => by
  simp only [List.mem_cons, List.not_mem_nil, or_false] at hd
  rcases hd with rfl | rfl <;> exact sh_int
theorem is_ratio_ok {x y : Int} (h : Low x y) (hb : y.natAbs < FUEL) : f_is_ratio [.tuple [.int x, .int y]] = .ok (.bool true) := by
  have d := divisor_ok x y hb
  rw [h.cop] at d
  have := h.pos
  simp [f_is_ratio, semOf, c_is_ratio, isTupleD, lcGo_cons, isIntD, isBoolD, wipeR, bAll, blsD, atI0, atI1, d, this]

theorem fr_one (h : Int) : fr h 1 = .tuple [.int h, .int 1] := fr_low ⟨by decide, by simp⟩
/-- equal as data: equal as quotients -/
theorem eqv_fr {p q r s : Int} (hq : q ≠ 0) (hs : s ≠ 0) : PyData.eqv (fr p q) (fr r s) = decide (p * s = r * q) := by
  have e : PyData.eqv (fr p q) (fr r s) = (decide (num p q = num r s) && decide (den p q = den r s)) := by
    simp [fr, PyData.eqv, PyData.eqvAll]
    rfl
  rw [e]
  by_cases h : p * s = r * q
  · obtain ⟨h1, h2⟩ := num_eq hq hs h
    simp [h1, h2, h]
  · rw [decide_eq_false h]
    by_cases h1 : num p q = num r s
    · by_cases h2 : den p q = den r s
      · exact absurd (num_iff hq hs h1 h2) h
      · simp [h2]
    · simp [h1]
theorem oEq_fr {p q r s : Int} (hq : q ≠ 0) (hs : s ≠ 0) : oEq (fr p q) (fr r s) = some (.bool (decide (p * s = r * q))) := by
  rw [oEq_of (sh_fr (n := 0) p q) (sh_fr (n := 0) r s), eqv_fr hq hs]
theorem oNe_fr {p q r s : Int} (hq : q ≠ 0) (hs : s ≠ 0) : oNe (fr p q) (fr r s) = some (.bool (!decide (p * s = r * q))) := by
  rw [oNe_of (sh_fr (n := 0) p q) (sh_fr (n := 0) r s), eqv_fr hq hs]
end DL.Q

/-! MP -/
namespace DL.Q
open PySem L2 DL.Dr
theorem cut_from {α : Type} (l : List α) (n : Nat) : cut l (some (n : Int)) none = l.drop n := by
  unfold cut
  rw [HT.sIx_none, HT.sIx_nat]
  rcases Nat.le_total n l.length with h | h
  · rw [Nat.min_eq_left h]
    exact List.take_of_length_le (by rw [List.length_drop]; exact Nat.le_refl _)
  · rw [Nat.min_eq_right h, Nat.sub_self, List.take_zero, List.drop_of_length_le h]
/-- a post: where, how high -/
def pd (x : Int × Int) : D := .tuple [.int x.1, .int x.2]
theorem asc_go (y0 : SV) : ∀ (l : List Int) (x : Int) (y1 y2 : SV), (x :: l).Pairwise (· < ·) → ∃ bs, lcGo (sTup (sCons (sName 1) (sCons (sName 2) sNil))) cYes (cOp oLt (cBor 1) (cBor 2)) [y0, y1, y2] (zipD ((x :: l).map .int) (l.map .int)) = .ok bs ∧ blsD bs = some (l.map fun _ => true)
  | [], x, y1, y2, _ => ⟨[], rfl, rfl⟩
  | z :: l, x, y1, y2, h => by
    obtain ⟨h1, h2⟩ := (List.pairwise_cons).mp h
    obtain ⟨bs, e, e2⟩ := asc_go y0 l z y1 y2 h2
    refine ⟨.bool true :: bs, ?_, by simp [blsD, e2]⟩
    have q := h1 z List.mem_cons_self
    rw [show zipD ((x :: z :: l).map PyData.int) ((z :: l).map PyData.int) = .tuple [.int x, .int z] :: zipD ((z :: l).map PyData.int) (l.map PyData.int) from rfl, lcGo_cons]
    generalize zipD ((z :: l).map PyData.int) (l.map PyData.int) = rr at e ⊢
    simp [q, e]
theorem ascends_ok (l : List Int) (h : l.Pairwise (· < ·)) (hn : l.length ≤ 1000) : f_ascends [.list (l.map .int)] = .ok (.bool true) := by
  have c : cut (l.map PyData.int) (some 1) none = (l.map PyData.int).drop 1 := cut_from _ 1
  match l, h with
  | [], _ =>
    simp [f_ascends, semOf, c_ascends, c, zipD, bAll, blsD]
  | x :: l, h =>
    obtain ⟨bs, e, e2⟩ := asc_go (.val (.list ((x :: l).map .int))) l x .no .no h
    have ea : bAll [.list bs] = some (.bool true) := by
      simp only [bAll, e2, Option.map_some]
      congr 2
      simp
    have zl : (zipD ((x :: l).map PyData.int) (l.map PyData.int)).length ≤ 100000 := by
      rw [zipD_len]
      simp at hn ⊢
      omega
    simp only [List.map_cons] at c e zl
    simp [f_ascends, semOf, c_ascends, c, wipeR]
    rw [if_pos zl, e]
    simp [ea]
structure Pst (P : List (Int × Int)) : Prop where
  n0 : 1 ≤ P.length
  n1 : P.length ≤ 8
  b : ∀ x ∈ P, 0 ≤ x.1 ∧ x.1 < 30 ∧ 1 ≤ x.2 ∧ x.2 ≤ 20
  up : (P.map (·.1)).Pairwise (· < ·)
theorem is_post_ok {x : Int × Int} (h : 0 ≤ x.1 ∧ x.1 ≤ 1000 ∧ 1 ≤ x.2 ∧ x.2 ≤ 1000) : f_is_post [pd x] = .ok (.bool true) := by
  have w1 := is_whole_ok (.int x.1) 0 1000
  have w2 := is_whole_ok (.int x.2) 1 1000
  have w1' : isW (.int x.1) 0 1000 = true := by simp [isW]; omega
  have w2' : isW (.int x.2) 1 1000 = true := by simp [isW]; omega
  simp [f_is_post, semOf, c_is_post, pd, isTupleD, atI0, atI1, w1, w2, w1', w2']
theorem are_posts_ok {P : List (Int × Int)} (h : Pst P) : f_are_posts [.tuple (P.map pd)] = .ok (.bool true) := by
  have n0 := h.n0
  have n1 := h.n1
  have q1 : lcGo (sName 1) cYes (cCall f_is_post (aCons (cVar 1) aNil)) [.val (.tuple (P.map pd)), .no] (P.map pd) = .ok ((P.map pd).map fun _ => .bool true) := by
    refine lc_map _ fun d hd => ?_
    obtain ⟨x, hx, rfl⟩ := List.mem_map.mp hd
    have b := h.b x hx
    exact ⟨_, rfl, rfl, by simp [is_post_ok (x := x) ⟨b.1, by omega, b.2.2.1, by omega⟩]⟩
  have e1 : (P.map pd).map (fun _ => PyData.bool true) = (P.map fun _ => true).map PyData.bool := by simp
  rw [e1] at q1
  have q2 : ∀ l : List (Int × Int), lcGo (sName 1) cYes (cOp oIxA (cBor 1) (cC (.int 0))) [.val (.tuple (P.map pd)), .no] (l.map pd) = .ok ((l.map (·.1)).map PyData.int) := by
    intro l
    induction l with
    | nil => rfl
    | cons x l ih =>
      rw [List.map_cons, lcGo_cons]
      simp [pd, atI0]
      rw [ih]
      simp
  have q3 := q2 P
  have as := ascends_ok (P.map (·.1)) h.up (by rw [List.length_map]; omega)
  have ea : bAll [.list ((P.map fun _ => true).map PyData.bool)] = some (.bool true) := by rw [bAll_b]; simp
  have n2 : (1 : Int) ≤ (P.length : Nat) := by omega
  have n3 : ((P.length : Nat) : Int) ≤ 8 := by omega
  have n4 : P.length ≤ 100000 := by omega
  generalize hP : P.map pd = PD at q1 q3 ⊢
  have ln : PD.length = P.length := by rw [← hP]; simp
  generalize (P.map fun _ => true).map PyData.bool = bs at q1 ea
  generalize (P.map (·.1)).map PyData.int = ns at q3 as
  simp [f_are_posts, semOf, c_are_posts, isTupleD, ln, n2, n3, n4, wipeR, q1, q3, ea, as]
theorem up_nodup : ∀ l : List Int, l.Pairwise (· ≤ ·) → l.Nodup → l.Pairwise (· < ·)
  | [], _, _ => .nil
  | x :: l, h, d => by
    obtain ⟨a, b⟩ := List.pairwise_cons.mp h
    obtain ⟨e, f⟩ := List.nodup_cons.mp d
    refine List.pairwise_cons.mpr ⟨fun y hy => ?_, up_nodup l b f⟩
    have q := a y hy
    have n : x ≠ y := fun z => e (z.symm ▸ hy)
    omega
/-! ### the posts of a row of draws -/
def kp (x : Int × Int) : Key × D := (.inl x.1, .int x.2)
def ups (L : List (Int × Int)) (p h : Int) : List (Int × Int) := if (L.any fun x => decide (x.1 = p)) = true then L.map (fun x => if x.1 = p then (x.1, h) else x) else L ++ [(p, h)]
theorem ups_ok (L : List (Int × Int)) (p h : Int) : setK (L.map kp) (.inl p) (.int h) = (ups L p h).map kp := by
  have e : ((L.map kp).any fun q => decide (q.1 = Sum.inl p)) = L.any fun x => decide (x.1 = p) := by
    rw [List.any_map]
    congr 1
    funext x
    simp [kp]
  unfold setK ups
  rw [e]
  split
  · rw [List.map_map, List.map_map]
    refine List.map_congr_left (fun x _ => ?_)
    show (if (kp x).1 = Sum.inl p then ((kp x).1, PyData.int h) else kp x) = kp (if x.1 = p then (x.1, h) else x)
    by_cases hx : x.1 = p
    · rw [if_pos (show (kp x).1 = Sum.inl p from congrArg Sum.inl hx), if_pos hx]
      rfl
    · rw [if_neg (show ¬ (kp x).1 = Sum.inl p from fun z => hx (Sum.inl.inj z)), if_neg hx]
  · simp [kp]
structure Fd (L : List (Int × Int)) : Prop where
  nd : (L.map (·.1)).Nodup
  b : ∀ x ∈ L, 0 ≤ x.1 ∧ x.1 < 30 ∧ 1 ≤ x.2 ∧ x.2 ≤ 20
theorem ups_fd {L : List (Int × Int)} {p h : Int} (f : Fd L) (hp : 0 ≤ p ∧ p < 30) (hh : 1 ≤ h ∧ h ≤ 20) : Fd (ups L p h) ∧ 1 ≤ (ups L p h).length ∧ (ups L p h).length ≤ L.length + 1 := by
  unfold ups
  split
  · rename_i a
    refine ⟨⟨?_, fun x hx => ?_⟩, ?_, by simp⟩
    · have e : (L.map (fun x => if x.1 = p then (x.1, h) else x)).map (·.1) = L.map (·.1) := by
        rw [List.map_map]
        refine List.map_congr_left (fun x _ => ?_)
        simp only [Function.comp]
        split <;> rfl
      rw [e]
      exact f.nd
    · obtain ⟨z, hz, e⟩ := List.mem_map.mp hx
      have b := f.b z hz
      split at e
      · rw [← e]; exact ⟨b.1, b.2.1, hh⟩
      · rw [← e]; exact b
    · obtain ⟨x, hx, _⟩ := List.any_eq_true.mp a
      rw [List.length_map]
      exact List.length_pos_of_mem hx
  · rename_i a
    refine ⟨⟨?_, fun x hx => ?_⟩, by simp, by simp⟩
    · rw [List.map_append, List.map_cons, List.map_nil]
      refine List.nodup_append.mpr ⟨f.nd, by simp, fun x hx y hy => ?_⟩
      rw [List.mem_singleton.mp hy]
      intro e
      refine a ?_
      obtain ⟨z, hz, e2⟩ := List.mem_map.mp hx
      exact List.any_eq_true.mpr ⟨z, hz, decide_eq_true (e2.trans e)⟩
    · rcases (List.mem_append.mp hx) with hx | hx
      · exact f.b x hx
      · rw [List.mem_singleton.mp hx]; exact ⟨hp.1, hp.2, hh⟩
theorem intKs_kp : ∀ L : List (Int × Int), intKs (L.map kp) = some (L.map (·.1))
  | [] => rfl
  | x :: L => by
    show (intKs (L.map kp)).map (x.1 :: ·) = _
    rw [intKs_kp L]
    rfl
theorem sorted_kp (L : List (Int × Int)) : bSortedC [dcD (L.map kp)] = some (.list ((srt (L.map (·.1))).map .int)) := by
  have e : bSortedB [dcD (L.map kp)] = some (.list ((srt (L.map (·.1))).map .int)) := by
    show (dctK (dcD (L.map kp))).bind (fun ks => (intKs ks).map fun ns => PyData.list ((srt ns).map .int)) = _
    rw [dctK_dcD, Option.bind_some, intKs_kp] <;> rfl
  unfold bSortedC
  rw [e]
def look (L : List (Int × Int)) (p : Int) : Int := ((L.find? fun x => decide (x.1 = p)).map (·.2)).getD 1
theorem get_kp (L : List (Int × Int)) (p : Int) (h : p ∈ L.map (·.1)) : getK (L.map kp) (.inl p) = some (.int (look L p)) ∧ (p, look L p) ∈ L := by
  induction L with
  | nil => simp at h
  | cons x L ih =>
    by_cases e : x.1 = p
    · refine ⟨by simp [getK, kp, look, e], ?_⟩
      have : look (x :: L) p = x.2 := by simp [look, e]
      rw [this, ← e]
      exact List.mem_cons_self
    · have h' : p ∈ L.map (·.1) := by
        rw [List.map_cons] at h
        rcases (List.mem_cons.mp h) with q | q
        · exact absurd q.symm e
        · exact q
      obtain ⟨a, b⟩ := ih h'
      have e1 : look (x :: L) p = look L p := by simp [look, e]
      have e2 : getK ((x :: L).map kp) (.inl p) = getK (L.map kp) (.inl p) := by simp [getK, kp, e]
      rw [e1, e2]
      exact ⟨a, .tail _ b⟩
theorem posts_loop {ds : List Int} (many : Int) (hr : InR ds) : ∀ (l : List Nat) (L : List (Int × Int)) (y3 y4 y5 : SV), (∀ i ∈ l, 1 + i < ds.length) → Fd L → L.length + l.length ≤ 1000 → ∃ L' y3' y4',
    forLoop (sName 3) b0__law_posts (l.map fun i => .int (0 + (i : Nat))) [.val (.list (ds.map .int)), .val (.int many), .dic (L.map kp), y3, y4, y5] = .nx [.val (.list (ds.map .int)), .val (.int many), .dic (L'.map kp), y3', y4', y5] ∧ Fd L' ∧ L'.length ≤ L.length + l.length ∧ (l ≠ [] → 1 ≤ L'.length)
  | [], L, y3, y4, y5, _, f, _ => ⟨L, y3, y4, rfl, f, by simp, fun h => absurd rfl h⟩
  | i :: l, L, y3, y4, y5, hi, f, hl => by
    have h1 := hi i List.mem_cons_self
    simp only [List.length_cons] at hl
    obtain ⟨v, hv⟩ : ∃ v, ds[1 + i]? = some v := ⟨_, List.getElem?_eq_getElem h1⟩
    have r0 := hr v (List.mem_of_getElem? hv)
    have at1 : atI (ds.map PyData.int) (1 + (i : Int)) = some (.int v) := by
      have := atI_nat (j := 1 + i) (v := PyData.int v) (xs := ds.map PyData.int) (by simp [hv])
      rw [← this]
      congr 1
    obtain ⟨f', l0, l1⟩ := ups_fd f (p := v % 30) (h := 1 + v / 32 % 20) (by omega) (by omega)
    obtain ⟨L', y3', y4', e, g1, g2, g3⟩ := posts_loop many hr l (ups L (v % 30) (1 + v / 32 % 20)) (.val (.int (i : Nat))) (.val (.int v)) y5 (fun j hj => hi j (.tail _ hj)) f' (by omega)
    refine ⟨L', y3', y4', ?_, g1, by simp; omega, fun _ => ?_⟩
    · rw [List.map_cons, show ((0 : Int) + (i : Nat)) = (i : Int) by omega]
      rw [for_cons (ρ1 := [.val (.list (ds.map .int)), .val (.int many), .dic (L.map kp), .val (.int (i : Nat)), y4, y5]) (ρ2 := [.val (.list (ds.map .int)), .val (.int many), .dic ((ups L (v % 30) (1 + v / 32 % 20)).map kp), .val (.int (i : Nat)), .val (.int v), y5]) rfl ?_, e]
      simp [b0__law_posts, at1, cdivw (i := v) (j := 32) (by omega), ups_ok, show L.length < 100000 by omega]
    · by_cases e : l = []
      · subst e
        have : forLoop (sName 3) b0__law_posts (([] : List Nat).map fun i => .int (0 + (i : Nat))) [.val (.list (ds.map .int)), .val (.int many), .dic ((ups L (v % 30) (1 + v / 32 % 20)).map kp), .val (.int (i : Nat)), .val (.int v), y5] = .nx [.val (.list (ds.map .int)), .val (.int many), .dic ((ups L (v % 30) (1 + v / 32 % 20)).map kp), .val (.int (i : Nat)), .val (.int v), y5] := rfl
        rw [this] at e
        have q := Out.nx.inj e
        simp only [List.cons.injEq, SV.dic.injEq] at q
        have q2 := congrArg List.length q.2.2.1
        simp at q2
        omega
      · exact g3 e
theorem law_posts_ok {ds : List Int} (hr : InR ds) (hl : 20 ≤ ds.length) (many : Int) (hm : 1 ≤ many ∧ many ≤ 8) : ∃ P, f__law_posts [.list (ds.map .int), .int many] = .ok (.tuple (P.map pd)) ∧ Pst P := by
  obtain ⟨v, hv⟩ : ∃ v, ds[0]? = some v := ⟨_, List.getElem?_eq_getElem (by omega)⟩
  have at0 : atI (ds.map PyData.int) 0 = some (.int v) := atI_nat (j := 0) (by simp [hv])
  obtain ⟨n, hn, n0, n1⟩ : ∃ n, 1 + v % many = n ∧ 1 ≤ n ∧ n ≤ 8 := ⟨_, rfl, by have := Int.emod_nonneg v (show many ≠ 0 by omega); omega, by have := Int.emod_lt_of_pos v (show 0 < many by omega); omega⟩
  obtain ⟨L, y3, y4, e, f, l1, l2⟩ := posts_loop many hr (List.range n.toNat) [] .no .no .no (fun i hi => by have := List.mem_range.mp hi; omega) ⟨by simp, fun x hx => by cases hx⟩ (by simp; omega)
  rw [show (List.range n.toNat).map (fun i : Nat => PyData.int (0 + (i : Int))) = rangeD 0 n.toNat from rfl] at e
  simp only [List.map_nil, List.length_nil, List.length_range, Nat.zero_add] at e l1
  have l3 : 1 ≤ L.length := l2 (by
    intro h
    have q := congrArg List.length h
    simp at q
    omega)
  have sl := srt_len (L.map (·.1))
  rw [List.length_map] at sl
  have go : ∀ l : List Int, (∀ p ∈ l, p ∈ L.map (·.1)) → lcGo (sName 5) cYes (cTup (aCons (cVar 5) (aCons (cOp oIxA (cBor 2) (cBor 5)) aNil))) [.val (.list (ds.map .int)), .val (.int many), .dic (L.map kp), y3, y4, .no] (l.map .int) = .ok ((l.map fun p => (p, look L p)).map pd) := by
    intro l hl
    induction l with
    | nil => rfl
    | cons p l ih =>
      rw [List.map_cons, lcGo_cons]
      have g := (get_kp L p (hl p List.mem_cons_self)).1
      have ih' := ih fun q hq => hl q (.tail _ hq)
      generalize l.map PyData.int = rr at ih' ⊢
      simp [g, ih', pd]
  have go1 := go (srt (L.map (·.1))) fun p hp => mem_srt.mp hp
  refine ⟨(srt (L.map (·.1))).map fun p => (p, look L p), ?_, ?_, ?_, fun x hx => ?_, ?_⟩
  · have lr : (rangeD 0 n.toNat).length ≤ 100000 := by rw [rangeD_len]; omega
    have ls : (srt (L.map (·.1))).length ≤ 100000 := by omega
    have so := sorted_kp L
    generalize ((srt (L.map (·.1))).map fun p => (p, look L p)).map pd = PD at go1 ⊢
    simp [f__law_posts, semOf, c__law_posts, at0, show 0 < many by omega, hn, show -1000000 < n ∧ n < 1000000 by omega, e, so, ls, wipeR, go1]
  · rw [List.length_map]; omega
  · rw [List.length_map]; omega
  · obtain ⟨p, hp, rfl⟩ := List.mem_map.mp hx
    exact f.b _ (get_kp L p (mem_srt.mp hp)).2
  · rw [List.map_map]
    have e2 : (srt (L.map (·.1))).map ((·.1) ∘ fun p => (p, look L p)) = srt (L.map (·.1)) := by
      refine (List.map_congr_left fun x _ => ?_).trans (List.map_id _)
      rfl
    rw [e2]
    exact up_nodup _ (srt_up _) ((srt_perm _).nodup_iff.mpr f.nd)
/-! ### for the laws' turns -/
theorem dget {ds : List Int} (hr : InR ds) (i : Nat) (hi : i < ds.length) : ∃ v, atI (ds.map PyData.int) (i : Int) = some (.int v) ∧ 0 ≤ v := by
  refine ⟨ds[i], ?_, (hr _ (List.getElem_mem hi)).1⟩
  exact atI_nat (by simp [hi])
/-- one of 0 to n - 1, and so on -/
theorem pick {v : Int} (a n : Int) (hn : 0 < n) : ∃ h, a + v % n = h ∧ a ≤ h ∧ h ≤ a + n - 1 := ⟨_, rfl, by have := Int.emod_nonneg v (show n ≠ 0 by omega); omega, by have := Int.emod_lt_of_pos v hn; omega⟩
/-- a loop whose turns change nothing but the name of the loop -/
theorem for_same {i : Nat} {b : Env → Out} {ρ : Env} : ∀ (ds : List D) (x : SV), (∀ d ∈ ds, b (ρ.set i (.val d)) = .nx (ρ.set i (.val d))) → ∃ y, forLoop (sName i) b ds (ρ.set i x) = .nx (ρ.set i y)
  | [], x, _ => ⟨x, rfl⟩
  | d :: ds, x, h => by
    obtain ⟨y, e⟩ := for_same ds (.val d) fun z hz => h z (.tail _ hz)
    refine ⟨y, ?_⟩
    rw [for_cons (ρ1 := ρ.set i (.val d)) (ρ2 := ρ.set i (.val d)) (by simp) (h d List.mem_cons_self), e]
end DL.Q

/-! ME -/
namespace DL
open PySem L2
/-! ### slots that stay -/
/-- nothing but the slots of S has changed -/
structure Same (S : List Nat) (ρ ρ' : Env) : Prop where
  len : ρ'.length = ρ.length
  at' : ∀ i, S.contains i = false → ρ'[i]? = ρ[i]?
section
variable {S T : List Nat} {ρ ρ1 ρ2 : Env} {i : Nat} {v : SV}
theorem Same.refl : Same S ρ ρ := ⟨rfl, fun _ _ => rfl⟩
theorem Same.trans (a : Same S ρ ρ1) (b : Same S ρ1 ρ2) : Same S ρ ρ2 := ⟨b.len.trans a.len, fun i h => (b.at' i h).trans (a.at' i h)⟩
theorem Same.mono (a : Same S ρ ρ1) (h : S.all T.contains = true) : Same T ρ ρ1 := ⟨a.len, fun i hi => a.at' i (by
  cases e : S.contains i with
  | false => rfl
  | true =>
    have m := List.contains_iff_mem.mp e
    have := List.all_eq_true.mp h i m
    rw [hi] at this
    cases this)⟩
theorem Same.set (a : Same S ρ ρ1) (h : S.contains i = true) : Same S ρ (ρ1.set i v) := ⟨by rw [List.length_set, a.len], fun j hj => by
  have n : i ≠ j := fun e => by
    subst e
    rw [h] at hj
    cases hj
  rw [List.getElem?_set_ne n]
  exact a.at' j hj⟩
theorem Same.get (a : Same S ρ ρ1) {x : Option SV} (h : ρ[i]? = x) (hi : S.contains i = false := by decide) : ρ1[i]? = x := (a.at' i hi).trans h
theorem set_get (h : i < ρ.length) : (ρ.set i v)[i]? = some v := by rw [List.getElem?_set_self h]
end
/-- a loop whose turns change only the slots of S -/
theorem for_keep {S : List Nat} {i : Nat} {b : Env → Out} {ρ0 : Env} (hi : S.contains i = true) : ∀ (ds : List D) (ρ : Env), Same S ρ0 ρ → (∀ d ∈ ds, ∀ ρ, Same S ρ0 ρ → ∃ ρ', b (ρ.set i (.val d)) = .nx ρ' ∧ Same S ρ0 ρ') → ∃ ρ', forLoop (sName i) b ds ρ = .nx ρ' ∧ Same S ρ0 ρ'
  | [], ρ, h, _ => ⟨ρ, rfl, h⟩
  | d :: ds, ρ, h, st => by
    obtain ⟨ρ1, e1, h1⟩ := st d List.mem_cons_self ρ h
    obtain ⟨ρ2, e2, h2⟩ := for_keep hi ds ρ1 h1 fun x hx => st x (.tail _ hx)
    exact ⟨ρ2, by rw [for_cons (ρ1 := ρ.set i (.val d)) rfl e1, e2], h2⟩
/-- .. with an invariant of the turns' number -/
theorem for_step {S : List Nat} {i : Nat} {b : Env → Out} {ρ0 : Env} (I : Nat → Env → Prop) : ∀ (ds : List D) (n : Nat) (ρ : Env), Same S ρ0 ρ → I n ρ → (∀ (k : Nat) d, ds[k]? = some d → ∀ ρ, Same S ρ0 ρ → I (n + k) ρ → ∃ ρ', (b (ρ.set i (.val d)) = .nx ρ' ∨ b (ρ.set i (.val d)) = .ct ρ') ∧ Same S ρ0 ρ' ∧ I (n + k + 1) ρ') → ∃ ρ', forLoop (sName i) b ds ρ = .nx ρ' ∧ Same S ρ0 ρ' ∧ I (n + ds.length) ρ'
  | [], n, ρ, h, hI, _ => ⟨ρ, rfl, h, hI⟩
  | d :: ds, n, ρ, h, hI, st => by
    obtain ⟨ρ1, e1, h1, h1'⟩ := st 0 d rfl ρ h hI
    obtain ⟨ρ2, e2, h2, h2'⟩ := for_step (S := S) (i := i) (b := b) (ρ0 := ρ0) I ds (n + 1) ρ1 h1 h1' fun k x hx ρ s z => by
      rw [show n + 1 + k = n + (k + 1) by omega] at z ⊢
      exact st (k + 1) x (by simpa using hx) ρ s z
    refine ⟨ρ2, ?_, h2, by rw [show n + (d :: ds).length = n + 1 + ds.length by simp; omega]; exact h2'⟩
    rcases e1 with e1 | e1
    · rw [for_cons (ρ1 := ρ.set i (.val d)) rfl e1, e2]
    · rw [for_cont (ρ1 := ρ.set i (.val d)) rfl e1, e2]
/-- a comprehension over items of one shape -/
theorem lc_mapA {α : Type} {s : D → Env → Option Env} {t : Env → R Bool} {el : Env → R D} {ρ : Env} {g φ : α → D} : ∀ (N : List α), (∀ a ∈ N, ∃ ρ', s (g a) ρ = some ρ' ∧ t ρ' = .ok true ∧ el ρ' = .ok (φ a)) → lcGo s t el ρ (N.map g) = .ok (N.map φ)
  | [], _ => rfl
  | a :: N, h => by
    obtain ⟨ρ', h1, h2, h3⟩ := h a List.mem_cons_self
    rw [List.map_cons, lcGo_cons, h1, ofO_someS, bind_okS, h2, bind_okS, if_pos rfl, h3, bind_okS, lc_mapA N fun x hx => h x (.tail _ hx)]
    rfl
theorem lc_filterA {α : Type} {s : D → Env → Option Env} {t : Env → R Bool} {el : Env → R D} {ρ : Env} {g φ : α → D} {p : α → Bool} : ∀ (N : List α), (∀ a ∈ N, ∃ ρ', s (g a) ρ = some ρ' ∧ t ρ' = .ok (p a) ∧ (p a = true → el ρ' = .ok (φ a))) → lcGo s t el ρ (N.map g) = .ok ((N.filter p).map φ)
  | [], _ => rfl
  | a :: N, h => by
    obtain ⟨ρ', h1, h2, h3⟩ := h a List.mem_cons_self
    rw [List.map_cons, lcGo_cons, h1, ofO_someS, bind_okS, h2, bind_okS, lc_filterA N fun x hx => h x (.tail _ hx)]
    cases hp : p a with
    | true => rw [if_pos rfl, h3 hp, bind_okS, List.filter_cons_of_pos hp] <;> rfl
    | false => rw [if_neg Bool.false_ne_true, List.filter_cons_of_neg (by rw [hp]; exact Bool.false_ne_true)]
theorem nx_of {b : Env → Out} {ρ ρ' : Env} {c : Env → Out} (h : b ρ = .nx ρ') : sSeq b c ρ = c ρ' := by rw [ev_sSeq, h, thenO_nx]
end DL

/-! MU -/
/-! rows of ints, used by many laws -/
namespace DL.U
open PySem L2
abbrev Asc (m : List Int) : Prop := m.Pairwise (· < ·)
abbrev mk (m : List Int) : D := .tuple (m.map .int)
abbrev ml (m : List Int) : D := .list (m.map .int)
theorem cut_fromI {α : Type} (l : List α) (n : Nat) : cut l (some (n : Int)) none = l.drop n := Q.cut_from l n
theorem atI_map {α β : Type} (f : α → β) (l : List α) (i : Int) : atI (l.map f) i = (atI l i).map f := by
  unfold atI
  rw [List.length_map]
  cases ixN l.length i with
  | none => rfl
  | some j => simp
theorem atI_m1 {α : Type} (l : List α) : atI l (-1) = l.getLast? := by
  unfold atI ixN
  rw [(List.getLast?_eq_getElem?)]
  cases l with
  | nil => rfl
  | cons x l =>
    have h : ¬ (0 : Int) ≤ -1 := by omega
    rw [if_neg h, if_pos (by simp; omega)]
    have e : (-1 + ((x :: l).length : Int)).toNat = (x :: l).length - 1 := by simp; omega
    rw [e]
    rfl
theorem shaped_l (ns : List Int) : SeqAt.shaped (ml ns) = true := (sh_lst (n := 0) fun d hd => by
  obtain ⟨i, _, rfl⟩ := List.mem_map.mp hd
  exact sh_int).ok
theorem any_i (k : Int) (ns : List Int) : ((ns.map PyData.int).any fun z => PyData.eqv z (.int k)) = decide (k ∈ ns) := by
  rw [Bool.eq_iff_iff, List.any_map, List.any_eq_true, decide_eq_true_eq]
  constructor
  · rintro ⟨z, hz, e⟩
    have e' : PyData.eqv (.int z) (.int k) = true := e
    simp only [PyData.eqv] at e'
    have : z = k := by simpa using e'
    rw [← this]; exact hz
  · intro h
    refine ⟨k, h, ?_⟩
    show PyData.eqv (.int k) (.int k) = true
    simp [PyData.eqv]
theorem notin_l (k : Int) (ns : List Int) : oNotInB (.int k) (ml ns) = some (.bool (!decide (k ∈ ns))) := by
  show oNotIn (.int k) (ml ns) = _
  unfold oNotIn
  simp only []
  rw [if_pos ⟨(sh_int (n := 0) (i := k)).ok, shaped_l ns⟩, any_i]
theorem flat_t (ns : List Int) : (ns.map PyData.int).all flatD = true := by
  rw [List.all_eq_true]
  intro d hd
  obtain ⟨i, _, rfl⟩ := List.mem_map.mp hd
  rfl
theorem in_t (k : Int) (ns : List Int) : oInB (.int k) (mk ns) = some (.bool (decide (k ∈ ns))) := by
  show oInT (.int k) (mk ns) = _
  unfold oInT
  simp only []
  rw [if_pos ⟨rfl, flat_t ns⟩, any_i]
theorem notin_t (k : Int) (ns : List Int) : oNotInB (.int k) (mk ns) = some (.bool (!decide (k ∈ ns))) := by
  show oNotInT (.int k) (mk ns) = _
  unfold oNotInT
  simp only []
  rw [if_pos ⟨rfl, flat_t ns⟩, any_i]
theorem eqv_is : ∀ a b : List Int, PyData.eqvAll (a.map .int) (b.map .int) = decide (a = b)
  | [], [] => by (simp [PyData.eqvAll])
  | [], _ :: _ => by (simp [PyData.eqvAll])
  | _ :: _, [] => by (simp [PyData.eqvAll])
  | x :: a, y :: b => by
    simp only [List.map_cons, PyData.eqvAll, PyData.eqv, eqv_is a b]
    rw [Bool.eq_iff_iff]
    simp
theorem eq_l (a b : List Int) : oEq (ml a) (ml b) = some (.bool (decide (a = b))) := by
  unfold oEq
  rw [if_pos ⟨shaped_l a, shaped_l b⟩]
  simp only [PyData.eqv, eqv_is]
theorem sh_mk (a : List Int) : Sh 1 (mk a) := sh_tup (n := 0) fun d hd => by
  obtain ⟨i, _, rfl⟩ := List.mem_map.mp hd
  exact sh_int
theorem ne_t (a : List Int) : oNe (mk a) (mk a) = some (.bool false) := oNe_same (sh_mk a)
def rg (a : Int) (n : Nat) : List Int := (List.range n).map fun i => a + (i : Nat)
theorem rangeD_rg (a : Int) (n : Nat) : rangeD a n = (rg a n).map .int := by
  unfold rangeD rg
  rw [List.map_map]
  rfl
theorem mem_rg {a k : Int} {n : Nat} : k ∈ rg a n ↔ a ≤ k ∧ k < a + n := by
  unfold rg
  rw [List.mem_map]
  constructor
  · rintro ⟨i, hi, rfl⟩
    have := List.mem_range.mp hi
    omega
  · rintro ⟨h1, h2⟩
    exact ⟨(k - a).toNat, List.mem_range.mpr (by omega), by omega⟩
theorem rg_len (a : Int) (n : Nat) : (rg a n).length = n := by simp [rg]
theorem rg_asc (a : Int) (n : Nat) : Asc (rg a n) := by
  unfold rg Asc
  rw [List.pairwise_map]
  exact List.pairwise_lt_range.imp fun h => by omega
theorem range2_rg (a b : Int) (h : -1000000 < a ∧ a < 1000000 ∧ -1000000 < b ∧ b < 1000000) : range2D [.int a, .int b] = some ((rg a (b - a).toNat).map .int) := by
  show (if -1000000 < a ∧ a < 1000000 ∧ -1000000 < b ∧ b < 1000000 then some (rangeD a (b - a).toNat) else none) = _
  rw [if_pos h, rangeD_rg]
theorem asc_nodup {m : List Int} (h : Asc m) : m.Nodup := h.imp fun z => by omega
theorem asc_one {a b : List Int} (ha : Asc a) (hb : Asc b) (h : ∀ k, k ∈ a ↔ k ∈ b) : a = b := (sset_one ha h).trans (sset_one hb fun k => Iff.rfl).symm
theorem asc_last : ∀ {m : List Int}, Asc m → ∀ {L : Int}, m.getLast? = some L → ∀ x ∈ m, x ≤ L
  | [], _, L, h, x, hx => by cases hx
  | [y], _, L, h, x, hx => by
    simp at h hx
    omega
  | y :: z :: m, a, L, h, x, hx => by
    obtain ⟨a1, a2⟩ := List.pairwise_cons.mp a
    have h' : (z :: m).getLast? = some L := by rw [List.getLast?_cons_cons] at h; exact h
    have ih := asc_last a2 h'
    rcases (List.mem_cons.mp hx) with e | e
    · subst e
      have := a1 z (by simp)
      have := ih z (by simp)
      omega
    · exact ih x e
theorem zip_i : ∀ a b : List Int, zipD (a.map .int) (b.map .int) = (a.zip b).map fun p => .tuple [.int p.1, .int p.2]
  | [], b => by simp [zipD]
  | x :: a, [] => by simp [zipD]
  | x :: a, y :: b => by simp [zipD, zip_i a b]
theorem asc_zip : ∀ {m : List Int}, Asc m → ∀ p ∈ m.zip (m.drop 1), p.1 < p.2
  | [], _, p, h => by simp at h
  | [x], _, p, h => by simp at h
  | x :: y :: m, a, p, h => by
    obtain ⟨a1, a2⟩ := List.pairwise_cons.mp a
    simp only [List.drop_succ_cons, List.drop_zero, List.zip_cons_cons, List.mem_cons] at h
    rcases h with e | e
    · subst e
      exact a1 y (by simp)
    · exact asc_zip a2 p (by simpa using e)
theorem rg_succ (a : Int) (n : Nat) : rg a (n + 1) = rg a n ++ [a + n] := by
  unfold rg
  rw [List.range_succ, List.map_append]
  rfl
theorem low_asc : ∀ (k : Int) (r : List Int), Asc (k :: r) → low k r = k
  | k, [], _ => rfl
  | k, y :: r, h => by
    obtain ⟨h1, h2⟩ := (List.pairwise_cons).mp h
    have e : (if y < k then y else k) = k := by
      have := h1 y (by simp)
      rw [if_neg (by omega)]
    show low (if y < k then y else k) r = k
    rw [e]
    exact low_asc k r (List.pairwise_cons.mpr ⟨fun z hz => h1 z (by simp [hz]), (List.pairwise_cons.mp h2).2⟩)
theorem filter_le {α : Type} {p q : α → Bool} (h : ∀ x, p x = true → q x = true) : ∀ l : List α, (l.filter p).length ≤ (l.filter q).length
  | [] => Nat.le_refl _
  | x :: l => by
    have := filter_le h l
    rw [List.filter_cons]; rw [List.filter_cons]
    by_cases e : p x = true
    · rw [if_pos e, if_pos (h x e)]
      simpa using this
    · rw [if_neg e]
      split
      · (simp only [List.length_cons]); omega
      · exact this
theorem set_set' (ρ : Env) (i : Nat) (x y : SV) : (ρ.set i x).set i y = ρ.set i y := List.set_set ..
theorem ne_b (b : Bool) : oNe (.bool b) (.bool b) = some (.bool false) := oNe_same (n := 0) sh_bool
theorem srt_asc {a m : List Int} (h : Asc m) (p : m.Perm a) : srt a = m := (srt_one p (h.imp fun z => Int.le_of_lt z)).symm
theorem cut_len {α : Type} (l : List α) (a b : Option Int) : (cut l a b).length ≤ l.length := by
  unfold cut
  rw [List.length_take]; rw [List.length_drop]
  omega
theorem cut_mapI {α β : Type} (f : α → β) (l : List α) (a b : Option Int) : cut (l.map f) a b = (cut l a b).map f := by
  unfold cut
  rw [List.length_map, List.map_take, List.map_drop]
def dg (ds : List Int) (i : Int) : Int := (atI ds i).getD 0
theorem dg_at {ds : List Int} (hr : Dr.InR ds) {i : Int} (h0 : 0 ≤ i) (h1 : i < (ds.length : Int)) : atI (ds.map PyData.int) i = some (.int (dg ds i)) ∧ 0 ≤ dg ds i ∧ dg ds i < 65521 := by
  obtain ⟨j, rfl⟩ : ∃ j : Nat, i = j := ⟨i.toNat, by omega⟩
  have hj : j < ds.length := by omega
  have e : atI ds (j : Int) = some ds[j] := atI_nat (List.getElem?_eq_getElem hj)
  have := hr ds[j] (List.getElem_mem hj)
  unfold dg
  rw [atI_map, e]
  exact ⟨rfl, this⟩
theorem in_l (k : Int) (ns : List Int) : oInB (.int k) (ml ns) = some (.bool (decide (k ∈ ns))) := by
  show oIn (.int k) (ml ns) = _
  unfold oIn
  simp only []
  rw [if_pos ⟨(sh_int (n := 0) (i := k)).ok, shaped_l ns⟩, any_i]
theorem range1_rg (b : Int) (h : 0 ≤ b ∧ b < 1000000) : range1D [.int b] = some ((rg 0 b.toNat).map .int) := by
  rw [range1_i, if_pos (by omega), rangeD_rg]
theorem idx_int : ∀ (l : List Int) (k : Int), k ∈ l → idxD (l.map .int) (.int k) = some (l.idxOf k)
  | [], k, h => by cases h
  | y :: l, k, h => by
    rw [List.map_cons]
    unfold idxD
    by_cases e : y = k
    · subst e
      rw [if_pos (by simp [PyData.eqv])]
      simp
    · have e2 : ¬ PyData.eqv (.int y) (.int k) = true := by simp [PyData.eqv, e]
      have h' : k ∈ l := by
        rcases (List.mem_cons.mp h) with z | z
        · exact absurd z.symm e
        · exact z
      rw [if_neg e2, idx_int l k h', List.idxOf_cons]
      have : (y == k) = false := by simp [e]
      rw [this]
      rfl
theorem index_ok {l : List Int} {k : Int} (h : k ∈ l) : mIndexL (ml l) [.int k] = some (.int (l.idxOf k : Nat)) := by
  show (if SeqAt.shaped (ml l) = true ∧ SeqAt.shaped (.int k) = true then (idxD (l.map .int) (.int k)).map (fun j => PyData.int (j : Nat)) else none) = _
  rw [if_pos ⟨shaped_l l, (sh_int (n := 0) (i := k)).ok⟩, idx_int l k h]
  rfl
theorem idx_first : ∀ {l : List Int} {k : Int}, k ∈ l → l[l.idxOf k]? = some k ∧ ∀ i, i < l.idxOf k → l[i]? ≠ some k
  | [], k, h => by cases h
  | y :: l, k, h => by
    rw [List.idxOf_cons]
    by_cases e : y = k
    · subst e
      simp
    · have be : (y == k) = false := by simp [e]
      have h' : k ∈ l := by
        rcases (List.mem_cons.mp h) with z | z
        · exact absurd z.symm e
        · exact z
      obtain ⟨a, b⟩ := idx_first h'
      rw [be]
      refine ⟨by simpa using a, fun i hi => ?_⟩
      cases i with
      | zero => simpa using e
      | succ i => simpa using b i (by simpa using hi)
theorem rg_get {a : Int} {n i : Nat} (h : i < n) : (rg a n)[i]? = some (a + (i : Nat)) := by
  unfold rg
  rw [List.getElem?_map, List.getElem?_range h] <;> rfl
end DL.U

/-! MB -/
namespace DL.B
open PySem L2
/-! ### bells: the program's functions, printed -/
abbrev f_is_whole := Q.f_is_whole
def c_is_bell : Env → Out := (sSeq (sIf (cOr (cNot (cTest (cIs isTupleD (cBor 0)))) (cTest (cOp oNe (cBt bLen (aCons (cBor 0) aNil)) (cC (.int 3))))) (sRet (cC (.bool false))) sNx)
  (sSeq (sIf (cOr (cNot (cTest (cIs isStrD (cOp oIxA (cBor 0) (cC (.int 0)))))) (cOr (cTest (cOp oNe (cBt bLen (aCons (cOp oIxA (cBor 0) (cC (.int 0))) aNil)) (cC (.int 1)))) (cTest (cOp oNotInB (cOp oIxA (cBor 0) (cC (.int 0))) (cC (.str "abcdefgh")))))) (sRet (cC (.bool false))) sNx)
  (sRet (cAndV (cCall f_is_whole (aCons (cOp oIxA (cBor 0) (cC (.int 1))) (aCons (cC (.int 0)) (aCons (cC (.int 120)) aNil)))) (cCall f_is_whole (aCons (cOp oIxA (cBor 0) (cC (.int 2))) (aCons (cC (.int 1)) (aCons (cC (.int 60)) aNil))))))))
def f_is_bell : List D → R D := semOf 1 1 c_is_bell
def c_are_bells : Env → Out := (sRet (cAndV (cIs isTupleD (cBor 0)) (cAndV (cChain oLe oLe (cC (.int 1)) (cBt bLen (aCons (cBor 0) aNil)) (cC (.int 6))) (cBt bAll (aCons (asList (cLc (cItems (cBor 0)) (sName 1) cYes (cCall f_is_bell (aCons (cVar 1) aNil)) [1])) aNil)))))
def f_are_bells : List D → R D := semOf 2 1 c_are_bells
def c_check_bells : Env → Out := (sIf (cNot (cTest (cCall f_are_bells (aCons (cVar 0) aNil)))) (sRaise "BadBells") sNx)
def f_check_bells : List D → R D := semOf 1 1 c_check_bells
def c_check_minute : Env → Out := (sIf (cNot (cTest (cCall f_is_whole (aCons (cVar 0) (aCons (cC (.int 0)) (aCons (cC (.int 1000000000000000000)) aNil)))))) (sRaise "BadMinute") sNx)
def f_check_minute : List D → R D := semOf 1 1 c_check_minute
def c_does_strike : Env → Out := (sSeq (sTo (sTup (sCons (sName 2) (sCons (sName 3) (sCons (sName 4) sNil)))) (cVar 0))
  (sRet (cAndV (cOp oGe (cBor 1) (cBor 3)) (cOp oEq (cOp oMod (cOp oSub (cBor 1) (cBor 3)) (cBor 4)) (cC (.int 0))))))
def f_does_strike : List D → R D := semOf 5 2 c_does_strike
def c_strikers_in : Env → Out := (sRet (asList (cLc (cIt enumAD (aCons (cBor 0) aNil)) (sTup (sCons (sName 2) (sCons (sName 3) sNil))) (cTest (cCall f_does_strike (aCons (cVar 3) (aCons (cVar 1) aNil)))) (cVar 2) [2, 3])))
def f_strikers_in : List D → R D := semOf 4 2 c_strikers_in
def c_strikers_at : Env → Out := (sSeq (sDrop (cCall f_check_bells (aCons (cVar 0) aNil)))
  (sSeq (sDrop (cCall f_check_minute (aCons (cVar 1) aNil)))
  (sRet (cBt bTuple (aCons (cCall f_strikers_in (aCons (cVar 0) (aCons (cVar 1) aNil))) aNil)))))
def f_strikers_at : List D → R D := semOf 2 2 c_strikers_at
def c_how_often_by : Env → Out := (sRet (cIf (cTest (cOp oLt (cBor 2) (cBor 0))) (cC (.int 0)) (cOp oAdd (cOp oDiv (cOp oSub (cBor 2) (cBor 0)) (cBor 1)) (cC (.int 1)))))
def f_how_often_by : List D → R D := semOf 3 3 c_how_often_by
def c_struck_by : Env → Out := (sSeq (sDrop (cCall f_check_bells (aCons (cVar 0) aNil)))
  (sSeq (sDrop (cCall f_check_minute (aCons (cVar 1) aNil)))
  (sRet (cBt bTuple (aCons (asList (cLc (cItems (cBor 0)) (sTup (sCons (sName 2) (sCons (sName 3) (sCons (sName 4) sNil)))) cYes (cCall f_how_often_by (aCons (cVar 3) (aCons (cVar 4) (aCons (cVar 1) aNil)))) [2, 3, 4])) aNil)))))
def f_struck_by : List D → R D := semOf 5 2 c_struck_by
def c_all_by : Env → Out := (sRet (cBt bSum (aCons (asList (cLc (cItems (cBor 0)) (sTup (sCons (sName 2) (sCons (sName 3) (sCons (sName 4) sNil)))) cYes (cCall f_how_often_by (aCons (cVar 3) (aCons (cVar 4) (aCons (cVar 1) aNil)))) [2, 3, 4])) aNil)))
def f_all_by : List D → R D := semOf 5 2 c_all_by
def c_number_of_strike : Env → Out := (sSeq (sDrop (cCall f_check_bells (aCons (cVar 0) aNil)))
  (sSeq (sDrop (cCall f_check_minute (aCons (cVar 1) aNil)))
  (sSeq (sIf (cNot (cTest (cCall f_is_whole (aCons (cVar 2) (aCons (cC (.int 0)) (aCons (cOp oSub (cBt bLen (aCons (cBor 0) aNil)) (cC (.int 1))) aNil)))))) (sRaise "BadBell") sNx)
  (sSeq (sAsg 3 (asVal (cCall f_strikers_in (aCons (cVar 0) (aCons (cVar 1) aNil)))))
  (sRet (cIf (cTest (cOp oInB (cBor 2) (cBor 3))) (cOp oAdd (cOp oAdd (cCall f_all_by (aCons (cVar 0) (aCons (cOp oSub (cBor 1) (cC (.int 1))) aNil))) (cMt mIndexL (cBor 3) (aCons (cBor 2) aNil))) (cC (.int 1))) (cC .none)))))))
def f_number_of_strike : List D → R D := semOf 4 3 c_number_of_strike
def c_check_number : Env → Out := (sIf (cNot (cTest (cCall f_is_whole (aCons (cVar 0) (aCons (cC (.int 1)) (aCons (cC (.int 1000000000000)) aNil)))))) (sRaise "BadNumber") sNx)
def f_check_number : List D → R D := semOf 1 1 c_check_number
def b0_nth_strike : Env → Out := (sSeq (sAsg 4 (asVal (cOp oDiv (cOp oAdd (cBor 2) (cBor 3)) (cC (.int 2)))))
  (sIf (cTest (cOp oGe (cCall f_all_by (aCons (cVar 0) (aCons (cVar 4) aNil))) (cBor 1))) (sAsg 3 (asVal (cVar 4))) (sAsg 2 (asVal (cOp oAdd (cBor 4) (cC (.int 1)))))))
def c_nth_strike : Env → Out := (sSeq (sDrop (cCall f_check_bells (aCons (cVar 0) aNil)))
  (sSeq (sDrop (cCall f_check_number (aCons (cVar 1) aNil)))
  (sSeq (sPar 2 3 (asVal (cC (.int 0))) (asVal (cOp oAdd (cC (.int 120)) (cOp oMul1 (cBor 1) (cC (.int 60))))))
  (sSeq (sWhile (cTest (cOp oLt (cBor 2) (cBor 3))) b0_nth_strike)
  (sRet (cTup (aCons (cVar 2) (aCons (cOp oIxA (cCall f_strikers_in (aCons (cVar 0) (aCons (cVar 2) aNil))) (cOp oSub (cOp oSub (cBor 1) (cCall f_all_by (aCons (cVar 0) (aCons (cOp oSub (cBor 2) (cC (.int 1))) aNil)))) (cC (.int 1)))) aNil))))))))
def f_nth_strike : List D → R D := semOf 5 2 c_nth_strike
def c__law_strikes : Env → Out := (sRet (cAndV (cOp oGe (cBor 1) (cOp oIxA (cBor 0) (cC (.int 1)))) (cOp oEq (cOp oMod (cBt bInt (aCons (cOp oSub (cBor 1) (cOp oIxA (cBor 0) (cC (.int 1)))) aNil)) (cOp oIxA (cBor 0) (cC (.int 2)))) (cC (.int 0)))))
def f__law_strikes : List D → R D := semOf 2 2 c__law_strikes
def c__law_often : Env → Out := (sRet (cIf (cTest (cOp oLt (cBor 1) (cOp oIxA (cBor 0) (cC (.int 1))))) (cC (.int 0)) (cOp oAdd (cOp oDiv (cOp oSub (cBor 1) (cOp oIxA (cBor 0) (cC (.int 1)))) (cOp oIxA (cBor 0) (cC (.int 2)))) (cC (.int 1)))))
def f__law_often : List D → R D := semOf 2 2 c__law_often
/-! ### what they come to -/
abbrev Bl := Str × Int × Int
def bd (x : Bl) : D := .tuple [.str x.1, .int x.2.1, .int x.2.2]
structure Be (x : Bl) : Prop where
  l : bLen [.str x.1] = some (.int 1)
  t : oNotInB (.str x.1) (.str "abcdefgh") = some (.bool false)
  f0 : 0 ≤ x.2.1
  f1 : x.2.1 ≤ 120
  e0 : 1 ≤ x.2.2
  e1 : x.2.2 ≤ 60
structure Bs (B : List Bl) : Prop where
  n0 : 1 ≤ B.length
  n1 : B.length ≤ 6
  b : ∀ x ∈ B, Be x
abbrev bt (B : List Bl) : D := .tuple (B.map bd)
def stk (x : Bl) (m : Int) : Bool := decide (x.2.1 ≤ m) && decide ((m - x.2.1) % x.2.2 = 0)
def oft (x : Bl) (m : Int) : Int := if m < x.2.1 then 0 else (m - x.2.1) / x.2.2 + 1
def sIn (B : List Bl) (m : Int) : List Int := (B.zipIdx.filter fun q => stk q.1 m).map fun q => ((q.2 : Nat) : Int)
def all (B : List Bl) (m : Int) : Int := (B.map fun x => oft x m).sum
theorem oft_step {x : Bl} (h : Be x) (m : Int) : oft x m = oft x (m - 1) + if stk x m = true then 1 else 0 := by
  have e0 := h.e0
  unfold oft stk
  generalize x.2.1 = f
  generalize x.2.2 = e at e0
  by_cases c : m < f
  · have c2 : m - 1 < f := by omega
    have c3 : ¬ f ≤ m := by omega
    simp [c, c2, c3]
  · by_cases d : m - 1 < f
    · have : m = f := by omega
      subst this
      simp [d]
    · have c3 : f ≤ m := by omega
      rw [if_neg c, if_neg d]
      obtain ⟨u, hu⟩ : ∃ u, m - f = u := ⟨_, rfl⟩
      have h1 : m - 1 - f = u - 1 := by omega
      have u1 : 1 ≤ u := by omega
      rw [hu, h1]
      have key : u / e = (u - 1) / e + if u % e = 0 then 1 else 0 := by
        have a1 := Int.emod_add_mul_ediv u e
        have a2 := Int.emod_add_mul_ediv (u - 1) e
        have b1 := Int.emod_nonneg u (show e ≠ 0 by omega)
        have b2 := Int.emod_lt_of_pos u (show 0 < e by omega)
        have b3 := Int.emod_nonneg (u - 1) (show e ≠ 0 by omega)
        have b4 := Int.emod_lt_of_pos (u - 1) (show 0 < e by omega)
        by_cases z : u % e = 0
        · rw [if_pos z]
          have : (u - 1) / e = u / e - 1 := by
            rw [Int.ediv_eq_iff_of_pos (by omega)]
            constructor
            · rw [Int.mul_comm, Int.mul_sub]
              omega
            · rw [Int.sub_mul, Int.one_mul, Int.mul_comm]
              omega
          omega
        · rw [if_neg z]
          have : (u - 1) / e = u / e := by
            rw [Int.ediv_eq_iff_of_pos (by omega)]
            constructor
            · rw [Int.mul_comm]
              omega
            · rw [Int.mul_comm]
              omega
          omega
      rw [key]
      by_cases z : u % e = 0
      · simp [z, c3]
      · simp [z]
theorem oft_mono {x : Bl} (h : Be x) {m m' : Int} (l : m ≤ m') : oft x m ≤ oft x m' := by
  have e0 := h.e0
  unfold oft
  by_cases c : m < x.2.1
  · rw [if_pos c]
    split
    · omega
    · have := Int.ediv_nonneg (show 0 ≤ m' - x.2.1 by omega) (show 0 ≤ x.2.2 by omega)
      omega
  · rw [if_neg c, if_neg (by omega)]
    have := Int.ediv_le_ediv (show 0 < x.2.2 by omega) (show m - x.2.1 ≤ m' - x.2.1 by omega)
    omega
theorem oft_big {x : Bl} (h : Be x) {n : Int} (hn : 0 ≤ n) : n ≤ oft x (120 + n * 60) := by
  have e0 := h.e0
  have e1 := h.e1
  have f1 := h.f1
  unfold oft
  rw [if_neg (by omega)]
  have : n ≤ (120 + n * 60 - x.2.1) / x.2.2 := by
    rw [Int.le_ediv_iff_mul_le (by omega)]
    have := Int.mul_le_mul_of_nonneg_left e1 hn
    omega
  omega
theorem oft_nonneg {x : Bl} (h : Be x) (m : Int) : 0 ≤ oft x m := by
  unfold oft
  split
  · omega
  · have := Int.ediv_nonneg (show 0 ≤ m - x.2.1 by omega) (show 0 ≤ x.2.2 by have := h.e0; omega)
    omega
theorem oft_neg {x : Bl} (h : Be x) {m : Int} (hm : m < 0) : oft x m = 0 := by
  unfold oft
  rw [if_pos (by have := h.f0; omega)]
section
variable {B : List Bl}
theorem all_mono (h : ∀ x ∈ B, Be x) {m m' : Int} (l : m ≤ m') : all B m ≤ all B m' := by
  unfold all
  induction B with
  | nil => simp
  | cons x B ih =>
    have := oft_mono (h x (by simp)) l
    have := ih fun y hy => h y (by simp [hy])
    simp only [List.sum_cons, List.map_cons]
    omega
theorem all_nonneg (h : ∀ x ∈ B, Be x) (m : Int) : 0 ≤ all B m := by
  unfold all
  induction B with
  | nil => simp
  | cons x B ih =>
    have := oft_nonneg (h x (by simp)) m
    have := ih fun y hy => h y (by simp [hy])
    simp only [List.sum_cons, List.map_cons]
    omega
theorem all_neg (h : ∀ x ∈ B, Be x) {m : Int} (hm : m < 0) : all B m = 0 := by
  unfold all
  induction B with
  | nil => simp
  | cons x B ih =>
    have := oft_neg (h x (by simp)) hm
    have := ih fun y hy => h y (by simp [hy])
    simp only [List.sum_cons, List.map_cons]
    omega
theorem all_big (h : Bs B) {n : Int} (hn : 0 ≤ n) : n ≤ all B (120 + n * 60) := by
  have n0 := h.n0
  have hb := h.b
  cases B with
  | nil => simp at n0
  | cons x B =>
    have a := oft_big (hb x (by simp)) hn
    have b := all_nonneg (B := B) (fun y hy => hb y (by simp [hy])) (120 + n * 60)
    unfold all at b ⊢
    simp only [List.sum_cons, List.map_cons]
    omega
theorem sIn_from (B : List Bl) (m : Int) (k : Nat) : ((B.zipIdx k).filter fun q => stk q.1 m).length = (B.filter fun x => stk x m).length := by
  induction B generalizing k with
  | nil => rfl
  | cons x B ih =>
    rw [List.zipIdx_cons, List.filter_cons, List.filter_cons]
    by_cases c : stk x m = true
    · rw [if_pos c, if_pos c, List.length_cons, List.length_cons, ih]
    · rw [if_neg c, if_neg c, ih]
theorem sIn_len (B : List Bl) (m : Int) : (sIn B m).length = (B.filter fun x => stk x m).length := by
  unfold sIn
  rw [List.length_map, sIn_from]
theorem all_step (h : ∀ x ∈ B, Be x) (m : Int) : all B m = all B (m - 1) + ((sIn B m).length : Nat) := by
  rw [sIn_len]
  unfold all
  induction B with
  | nil => simp
  | cons x B ih =>
    have a := oft_step (h x (by simp)) m
    have b := ih fun y hy => h y (by simp [hy])
    simp only [List.map_cons, List.sum_cons, List.filter_cons]
    by_cases c : stk x m = true
    · rw [if_pos c] at a
      rw [if_pos c, List.length_cons]
      omega
    · rw [if_neg c] at a
      rw [if_neg c]
      omega
end
section
variable {x : Bl} {B : List Bl} {m : Int}
theorem be_ok (h : Be x) : f_is_bell [bd x] = .ok (.bool true) := by
  have l := h.l
  have t := h.t
  have w1 := Q.is_whole_ok (.int x.2.1) 0 120
  have w2 := Q.is_whole_ok (.int x.2.2) 1 60
  have v1 : Q.isW (.int x.2.1) 0 120 = true := by simp [Q.isW, h.f0, h.f1]
  have v2 : Q.isW (.int x.2.2) 1 60 = true := by simp [Q.isW, h.e0, h.e1]
  rw [v1] at w1
  rw [v2] at w2
  have a0 : atI [PyData.str x.1, .int x.2.1, .int x.2.2] 0 = some (.str x.1) := rfl
  have a1 : atI [PyData.str x.1, .int x.2.1, .int x.2.2] 1 = some (.int x.2.1) := rfl
  have a2 : atI [PyData.str x.1, .int x.2.1, .int x.2.2] 2 = some (.int x.2.2) := rfl
  simp [f_is_bell, semOf, c_is_bell, bd, isTupleD, isStrD, a0, a1, a2, l, t, w1, w2]
theorem bells_ok (h : Bs B) : f_are_bells [bt B] = .ok (.bool true) := by
  have e : lcGo (sName 1) cYes (cCall f_is_bell (aCons (cVar 1) aNil)) [.val (bt B), .no] (B.map bd) = .ok (B.map fun _ => .bool true) :=
    lc_mapA B fun x hx => ⟨_, rfl, rfl, by simp [be_ok (h.b x hx)]⟩
  have ba : bAll [.list (B.map fun _ => PyData.bool true)] = some (.bool true) := by
    have := bAll_b (bs := B.map fun _ => true)
    rw [List.map_map] at this
    rw [show ((fun _ : Bl => PyData.bool true)) = PyData.bool ∘ fun _ => true from rfl, this]
    simp
  have n0 := h.n0
  have n1 := h.n1
  simp [f_are_bells, semOf, c_are_bells, isTupleD, wipeR, e, ba, show (1 : Int) ≤ (B.length : Int) by omega, show (B.length : Int) ≤ 6 by omega, show B.length ≤ 100000 by omega]
theorem chk_bells (h : Bs B) : f_check_bells [bt B] = .ok .none := by
  simp [f_check_bells, semOf, c_check_bells, bells_ok h]
theorem to_bd {s : List D → Env → Option Env} {ρ : Env} : sTup s (bd x) ρ = s [.str x.1, .int x.2.1, .int x.2.2] ρ := rfl
theorem strike_ok (h : Be x) (m : Int) : f_does_strike [bd x, .int m] = .ok (.bool (stk x m)) := by
  have e0 := h.e0
  unfold stk
  by_cases c : x.2.1 ≤ m
  · simp [f_does_strike, semOf, c_does_strike, to_bd, c, show 0 < x.2.2 by omega]
  · simp [f_does_strike, semOf, c_does_strike, to_bd, c]
theorem often_ok (h : Be x) (m : Int) : f_how_often_by [.int x.2.1, .int x.2.2, .int m] = .ok (.int (oft x m)) := by
  have e0 := h.e0
  have e1 := h.e1
  unfold oft
  by_cases c : m < x.2.1
  · simp [f_how_often_by, semOf, c_how_often_by, c]
  · have cd : CDivW (m - x.2.1) x.2.2 := cdivw ⟨by omega, by omega⟩
    simp [f_how_often_by, semOf, c_how_often_by, c, cd]
theorem enum_zip : ∀ (B : List Bl) (k : Nat), enumD k (B.map bd) = (B.zipIdx k).map fun q => .tuple [.int ((q.2 : Nat) : Int), bd q.1]
  | [], _ => rfl
  | x :: B, k => by
    rw [List.map_cons, List.zipIdx_cons, List.map_cons, ← enum_zip B (k + 1)]
    rfl
theorem sIn_ok (h : Bs B) (m : Int) : f_strikers_in [bt B, .int m] = .ok (.list ((sIn B m).map .int)) := by
  have n1 := h.n1
  have e : lcGo (sTup (sCons (sName 2) (sCons (sName 3) sNil))) (cTest (cCall f_does_strike (aCons (cVar 3) (aCons (cVar 1) aNil)))) (cVar 2) [.val (bt B), .val (.int m), .no, .no] (B.zipIdx.map fun q => .tuple [.int ((q.2 : Nat) : Int), bd q.1]) = .ok ((sIn B m).map .int) := by
    unfold sIn
    rw [List.map_map]
    exact lc_filterA _ fun q hq => ⟨_, rfl, by
      have := strike_ok (h.b q.1 (List.fst_mem_of_mem_zipIdx hq)) m
      simp [this], fun _ => by simp⟩
  have z := enum_zip B 0
  have l : (B.zipIdx.map fun q => PyData.tuple [.int ((q.2 : Nat) : Int), bd q.1]).length ≤ 100000 := by simp; omega
  generalize (B.zipIdx.map fun q => PyData.tuple [.int ((q.2 : Nat) : Int), bd q.1]) = ZZ at *
  generalize (sIn B m).map PyData.int = SS at *
  simp [f_strikers_in, semOf, c_strikers_in, z, wipeR, e, l]
theorem ofts_go (h : Bs B) (m : Int) (y2 y3 y4 : SV) : lcGo (sTup (sCons (sName 2) (sCons (sName 3) (sCons (sName 4) sNil)))) cYes (cCall f_how_often_by (aCons (cVar 3) (aCons (cVar 4) (aCons (cVar 1) aNil)))) [.val (bt B), .val (.int m), y2, y3, y4] (B.map bd) = .ok ((B.map fun x => oft x m).map .int) := by
  rw [List.map_map]
  exact lc_mapA B fun x hx => ⟨_, to_bd, rfl, by simp [often_ok (h.b x hx)]⟩
theorem all_ok (h : Bs B) (m : Int) : f_all_by [bt B, .int m] = .ok (.int (all B m)) := by
  have n1 := h.n1
  have e := ofts_go h m .no .no .no
  have s := bSum_i (ns := B.map fun x => oft x m)
  have l : B.length ≤ 100000 := by omega
  unfold all
  generalize (B.map fun x => oft x m).sum = T at *
  generalize (B.map fun x => oft x m).map PyData.int = SS at *
  simp [f_all_by, semOf, c_all_by, wipeR, e, l, s]
theorem chk_minute {m : Int} (h0 : 0 ≤ m) (h1 : m ≤ 1000000000000000000) : f_check_minute [.int m] = .ok .none := by
  have w := Q.is_whole_ok (.int m) 0 1000000000000000000
  rw [show Q.isW (.int m) 0 1000000000000000000 = true by simp [Q.isW, h0, h1]] at w
  simp [f_check_minute, semOf, c_check_minute, w]
theorem at_ok (h : Bs B) {m : Int} (h0 : 0 ≤ m) (h1 : m ≤ 1000000000000000000) : f_strikers_at [bt B, .int m] = .ok (.tuple ((sIn B m).map .int)) := by
  simp [f_strikers_at, semOf, c_strikers_at, chk_bells h, chk_minute h0 h1, sIn_ok h]
theorem by_ok (h : Bs B) {m : Int} (h0 : 0 ≤ m) (h1 : m ≤ 1000000000000000000) : f_struck_by [bt B, .int m] = .ok (.tuple ((B.map fun x => oft x m).map .int)) := by
  have n1 := h.n1
  have e := ofts_go h m .no .no .no
  have l : B.length ≤ 100000 := by omega
  have cb := chk_bells h
  generalize (B.map fun x => oft x m).map PyData.int = SS at *
  simp [f_struck_by, semOf, c_struck_by, cb, chk_minute h0 h1, wipeR, e, l]
/-! ### the so many-th strike -/
theorem halve (h : Bs B) {n : Int} : ∀ (k : Nat) (lo hi : Int) (fuel : Nat) (y : SV), hi - lo < 2 ^ k → k < fuel → lo ≤ hi → all B (lo - 1) < n → n ≤ all B hi →
    ∃ L y', whileLoop (cTest (cOp oLt (cBor 2) (cBor 3))) b0_nth_strike fuel [.val (bt B), .val (.int n), .val (.int lo), .val (.int hi), y] = .nx [.val (bt B), .val (.int n), .val (.int L), .val (.int L), y'] ∧ all B (L - 1) < n ∧ n ≤ all B L ∧ lo ≤ L ∧ L ≤ hi
  | k, lo, hi, 0, y, _, hf, _, _, _ => absurd hf (Nat.not_lt_zero _)
  | 0, lo, hi, fuel + 1, y, hk, _, hl, a, b => by
    have : lo = hi := by simp at hk; omega
    subst this
    exact ⟨lo, y, while_stop (by simp), a, b, Int.le_refl _, Int.le_refl _⟩
  | k + 1, lo, hi, fuel + 1, y, hk, hf, hl, a, b => by
    by_cases c : lo < hi
    · obtain ⟨mid, hm⟩ : ∃ mid, (lo + hi) / 2 = mid := ⟨_, rfl⟩
      have m0 : lo ≤ mid := by omega
      have m1 : mid < hi := by omega
      have p : (2 : Int) ^ (k + 1) = 2 * 2 ^ k := by rw [Int.pow_succ, Int.mul_comm]
      rw [p] at hk
      have ao := all_ok h mid
      have cd : CDivW (lo + hi) 2 := cdivw (by decide)
      have t : (cTest (cOp oLt (cBor 2) (cBor 3))) [.val (bt B), .val (.int n), .val (.int lo), .val (.int hi), y] = .ok true := by simp [c]
      by_cases d : n ≤ all B mid
      · have st : b0_nth_strike [.val (bt B), .val (.int n), .val (.int lo), .val (.int hi), y] = .nx [.val (bt B), .val (.int n), .val (.int lo), .val (.int mid), .val (.int mid)] := by
          generalize bt B = BB at *
          simp [b0_nth_strike, cd, hm, ao, d]
        obtain ⟨L, y', e, r⟩ := halve h k lo mid fuel (.val (.int mid)) (by omega) (by omega) (by omega) a d
        exact ⟨L, y', by rw [while_go t st, e], r.1, r.2.1, r.2.2.1, by omega⟩
      · have st : b0_nth_strike [.val (bt B), .val (.int n), .val (.int lo), .val (.int hi), y] = .nx [.val (bt B), .val (.int n), .val (.int (mid + 1)), .val (.int hi), .val (.int mid)] := by
          generalize bt B = BB at *
          simp [b0_nth_strike, cd, hm, ao, d]
        obtain ⟨L, y', e, r⟩ := halve h k (mid + 1) hi fuel (.val (.int mid)) (by omega) (by omega) (by omega) (by rw [Int.add_sub_cancel]; omega) b
        exact ⟨L, y', by rw [while_go t st, e], r.1, r.2.1, by omega, r.2.2.2⟩
    · have : lo = hi := by omega
      subst this
      exact ⟨lo, y, while_stop (by simp), a, b, Int.le_refl _, Int.le_refl _⟩
theorem nth_ok (h : Bs B) {n : Int} (n1 : 1 ≤ n) (n2 : n ≤ 1000000000000) : ∃ (L : Int) (k : Int), f_nth_strike [bt B, .int n] = .ok (.tuple [.int L, .int k]) ∧ 0 ≤ L ∧ L ≤ 120 + n * 60 ∧ all B (L - 1) < n ∧ n ≤ all B L ∧ (sIn B L)[(n - all B (L - 1) - 1).toNat]? = some k := by
  have w := Q.is_whole_ok (.int n) 1 1000000000000
  rw [show Q.isW (.int n) 1 1000000000000 = true by simp [Q.isW, n1, n2]] at w
  have cn : f_check_number [.int n] = .ok .none := by simp [f_check_number, semOf, c_check_number, w]
  have cb := chk_bells h
  obtain ⟨L, y, e, a, b, l0, l1⟩ := halve h (n := n) 46 0 (120 + n * 60) FUEL .no (by
    rw [show (2 : Int) ^ 46 = 70368744177664 by decide]
    omega) (by unfold FUEL; decide) (by omega) (by rw [all_neg h.b (by omega)]; omega) (all_big h (by omega))
  have st := all_step h.b L
  obtain ⟨j, hj⟩ : ∃ j : Nat, n - all B (L - 1) - 1 = j := ⟨(n - all B (L - 1) - 1).toNat, by omega⟩
  have jl : j < (sIn B L).length := by omega
  obtain ⟨k, hk⟩ : ∃ k, (sIn B L)[j]? = some k := ⟨_, List.getElem?_eq_getElem jl⟩
  refine ⟨L, k, ?_, l0, l1, a, b, by rw [hj]; simpa using hk⟩
  have si := sIn_ok h L
  have ao := all_ok h (L - 1)
  have ai : atI ((sIn B L).map PyData.int) (j : Int) = some (.int k) := atI_nat (by rw [List.getElem?_map, hk] <;> rfl)
  generalize (sIn B L).map PyData.int = SS at *
  generalize bt B = BB at *
  have cm : CMul n 60 := cmul_r (by decide)
  simp [f_nth_strike, semOf, c_nth_strike, cb, cn, cm, e, si, ao, hj, ai]
end
end DL.B

/-! MB2 -/
namespace DL.B
open PySem L2
def c__law_same : Env → Out := (sRet (cAndV (cOp oEq (cBor 0) (cBor 1)) (cOp oEqS (cBt bRepr (aCons (cBor 0) aNil)) (cBt bRepr (aCons (cBor 1) aNil)))))
def f__law_same : List D → R D := semOf 2 2 c__law_same
/-! ### the law's own words -/
section
variable {x : Bl} {B : List Bl} {m : Int}
theorem l_strike_ok (h : Be x) (m : Int) : f__law_strikes [bd x, .int m] = .ok (.bool (stk x m)) := by
  have e0 := h.e0
  have i1 : oIxA (bd x) (.int 1) = some (.int x.2.1) := rfl
  have i2 : oIxA (bd x) (.int 2) = some (.int x.2.2) := rfl
  unfold stk
  by_cases c : x.2.1 ≤ m
  · simp [f__law_strikes, semOf, c__law_strikes, i1, i2, c, show 0 < x.2.2 by omega]
  · simp [f__law_strikes, semOf, c__law_strikes, i1, i2, c]
theorem l_often_ok (h : Be x) (m : Int) : f__law_often [bd x, .int m] = .ok (.int (oft x m)) := by
  have e0 := h.e0
  have e1 := h.e1
  have i1 : oIxA (bd x) (.int 1) = some (.int x.2.1) := rfl
  have i2 : oIxA (bd x) (.int 2) = some (.int x.2.2) := rfl
  unfold oft
  by_cases c : m < x.2.1
  · simp [f__law_often, semOf, c__law_often, i1, i2, c]
  · have cd : CDivW (m - x.2.1) x.2.2 := cdivw ⟨by omega, by omega⟩
    simp [f__law_often, semOf, c__law_often, i1, i2, c, cd]
theorem idx_int : ∀ (l : List Int) (k : Int), k ∈ l → idxD (l.map .int) (.int k) = some (l.idxOf k)
  | [], k, h => by cases h
  | y :: l, k, h => by
    rw [List.map_cons]
    unfold idxD
    by_cases e : y = k
    · subst e
      rw [if_pos (by simp [PyData.eqv])]
      simp
    · have e2 : ¬ PyData.eqv (.int y) (.int k) = true := by simp [PyData.eqv, e]
      have h' : k ∈ l := by
        rcases (List.mem_cons.mp h) with z | z
        · exact absurd z.symm e
        · exact z
      rw [if_neg e2, idx_int l k h', List.idxOf_cons]
      have : (y == k) = false := by simp [e]
      rw [this]
      rfl
theorem shaped_l (ns : List Int) : SeqAt.shaped (.list (ns.map .int)) = true := (sh_lst (n := 0) fun d hd => by
  obtain ⟨i, _, rfl⟩ := List.mem_map.mp hd
  exact sh_int).ok
theorem index_ok {l : List Int} {k : Int} (h : k ∈ l) : mIndexL (.list (l.map .int)) [.int k] = some (.int (l.idxOf k : Nat)) := by
  show (if SeqAt.shaped (.list (l.map .int)) = true ∧ SeqAt.shaped (.int k) = true then (idxD (l.map .int) (.int k)).map (fun j => PyData.int (j : Nat)) else none) = _
  rw [if_pos ⟨shaped_l l, (sh_int (n := 0) (i := k)).ok⟩, idx_int l k h] <;> rfl
theorem any_i (k : Int) (ns : List Int) : ((ns.map PyData.int).any fun z => PyData.eqv z (.int k)) = decide (k ∈ ns) := by
  rw [Bool.eq_iff_iff, List.any_map, List.any_eq_true, decide_eq_true_eq]
  constructor
  · rintro ⟨z, hz, e⟩
    have e' : PyData.eqv (.int z) (.int k) = true := e
    simp only [PyData.eqv] at e'
    have : z = k := by simpa using e'
    rw [← this]
    exact hz
  · intro h
    refine ⟨k, h, ?_⟩
    show PyData.eqv (.int k) (.int k) = true
    simp [PyData.eqv]
theorem in_l (k : Int) (ns : List Int) : oInB (.int k) (.list (ns.map .int)) = some (.bool (decide (k ∈ ns))) := by
  show oIn (.int k) (.list (ns.map .int)) = _
  unfold oIn
  simp only []
  rw [if_pos ⟨(sh_int (n := 0) (i := k)).ok, shaped_l ns⟩, any_i]
def numb (B : List Bl) (m k : Int) : D := if k ∈ sIn B m then .int (all B (m - 1) + ((sIn B m).idxOf k : Nat) + 1) else .none
theorem number_ok (h : Bs B) (h0 : 0 ≤ m) (h1 : m ≤ 1000000000000000000) {k : Int} (k0 : 0 ≤ k) (k1 : k < B.length) : f_number_of_strike [bt B, .int m, .int k] = .ok (numb B m k) := by
  have w := Q.is_whole_ok (.int k) 0 ((B.length : Nat) - 1)
  rw [show Q.isW (.int k) 0 ((B.length : Nat) - 1) = true by simp [Q.isW, k0]; omega] at w
  have cb := chk_bells h
  have cm := chk_minute h0 h1
  have si := sIn_ok h m
  have ao := all_ok h (m - 1)
  have il := in_l k (sIn B m)
  unfold numb
  by_cases c : k ∈ sIn B m
  · have ix := index_ok c
    rw [decide_eq_true c] at il
    rw [if_pos c]
    generalize (sIn B m).map PyData.int = SS at *
    simp [f_number_of_strike, semOf, c_number_of_strike, cb, cm, w, si, il, ao, ix]
  · rw [decide_eq_false c] at il
    rw [if_neg c]
    generalize (sIn B m).map PyData.int = SS at *
    simp [f_number_of_strike, semOf, c_number_of_strike, cb, cm, w, si, il]
/-! ### what is alike, is written alike -/
theorem shown_i {i : Int} (h : i.natAbs < 10 ^ 25) : (PyData.shown (.int i)).length ≤ 26 := by
  have e := int_text_length_le10 (k := 25) (by decide) h
  show (Str.ofString (toString i)).length ≤ 26
  rw [ofString_length]
  exact e
theorem log_i {i : Int} (h : i.natAbs < 10 ^ 25) : i.natAbs.log2 < 1920 := by
  by_cases z : i.natAbs = 0
  · rw [z]
    decide
  · rw [Nat.log2_lt z]
    exact Nat.lt_trans h (by decide)
theorem sho_int {i : Int} (h : i.natAbs < 10 ^ 25) : shOk (.int i) = true := by
  have a := shown_i h
  have b := log_i h
  unfold shOk
  simp [PyData.canLay0, PyData.showable, PyData.hasDict, PyData.depth, b]
  omega
theorem sho_none : shOk .none = true := by decide +kernel
theorem ints_show : ∀ {ns : List Int}, (∀ i ∈ ns, i.natAbs < 10 ^ 25) → PyData.showableAll (ns.map .int) = true ∧ PyData.hasDictAll (ns.map .int) = false ∧ ((PyData.shownAll (ns.map .int)).map (·.length)).sum ≤ 26 * ns.length ∧ (PyData.shownAll (ns.map .int)).length = ns.length
  | [], _ => by simp [PyData.showableAll, PyData.hasDictAll, PyData.shownAll]
  | n :: ns, h => by
    obtain ⟨a, b, c, d⟩ := ints_show (ns := ns) fun i hi => h i (by simp [hi])
    have l := log_i (h n (by simp))
    have s := shown_i (h n (by simp))
    refine ⟨by simp [PyData.showableAll, PyData.showable, a, l], by simp [PyData.hasDictAll, PyData.hasDict, b], ?_, by simp [PyData.shownAll, d]⟩
    simp only [List.map_cons, PyData.shownAll, List.sum_cons, List.length_cons]
    omega
theorem sho_tup {ns : List Int} (h : ∀ i ∈ ns, i.natAbs < 10 ^ 25) (hl : ns.length ≤ 1000) : shOk (.tuple (ns.map .int)) = true := by
  obtain ⟨a, b, c, d⟩ := ints_show h
  have z := tupleText_len_le (PyData.shownAll (ns.map .int))
  have sh : Sh 1 (.tuple (ns.map .int)) := sh_tup (n := 0) fun e he => by
    obtain ⟨i, _, rfl⟩ := List.mem_map.mp he
    exact sh_int
  have dp := sh.dep
  have ly := sh.lay
  have ln : (PyData.shown (.tuple (ns.map .int))).length ≤ 100000 := by
    show (tupleText (PyData.shownAll (ns.map .int))).length ≤ 100000
    omega
  have sw : PyData.showable (.tuple (ns.map .int)) = true := by simpa only [PyData.showable] using a
  have hd : PyData.hasDict (.tuple (ns.map .int)) = false := by simpa only [PyData.hasDict] using b
  unfold shOk
  rw [ly, sw, hd, decide_eq_true (show (PyData.tuple (ns.map .int)).depth ≤ 20 by omega), decide_eq_true ln]
  rfl
theorem same_ok {d : D} (h : shOk d = true) : f__law_same [d, d] = .ok (.bool true) := by
  have r := bRepr_ok h
  unfold shOk at h
  simp only [Bool.and_eq_true, decide_eq_true_eq, Bool.not_eq_true'] at h
  have e := oEq_same (n := 20) (a := d) ⟨h.1, h.2.2.2.1⟩
  simp [f__law_same, semOf, c__law_same, r, e]
/-! ### ranks -/
theorem sIn_asc (B : List Bl) (m : Int) (k : Nat) : (((B.zipIdx k).filter fun q => stk q.1 m).map fun q => ((q.2 : Nat) : Int)).Pairwise (· < ·) ∧ ∀ i ∈ ((B.zipIdx k).filter fun q => stk q.1 m).map (fun q => ((q.2 : Nat) : Int)), (k : Int) ≤ i := by
  induction B generalizing k with
  | nil => simp
  | cons x B ih =>
    obtain ⟨a, b⟩ := ih (k + 1)
    rw [List.zipIdx_cons, List.filter_cons]
    by_cases c : stk x m = true
    · rw [if_pos c, List.map_cons]
      refine ⟨List.pairwise_cons.mpr ⟨fun i hi => by have := b i hi; omega, a⟩, fun i hi => ?_⟩
      rcases (List.mem_cons.mp hi) with z | z
      · omega
      · have := b i z
        omega
    · rw [if_neg c]
      exact ⟨a, fun i hi => by have := b i hi; omega⟩
theorem asc_sIn (B : List Bl) (m : Int) : (sIn B m).Pairwise (· < ·) := (sIn_asc B m 0).1
theorem mem_sIn {k : Nat} : (k : Int) ∈ sIn B m ↔ ∃ x, B[k]? = some x ∧ stk x m = true := by
  unfold sIn
  rw [List.mem_map]
  constructor
  · rintro ⟨q, hq, e⟩
    obtain ⟨q1, q2⟩ := List.mem_filter.mp hq
    have z := List.mem_zipIdx_iff_getElem?.mp q1
    have : q.2 = k := by omega
    rw [this] at z
    exact ⟨q.1, z, q2⟩
  · rintro ⟨x, hx, hs⟩
    exact ⟨(x, k), List.mem_filter.mpr ⟨List.mem_zipIdx_iff_getElem?.mpr hx, hs⟩, rfl⟩
theorem sIn_bd {i : Int} (h : i ∈ sIn B m) : ∃ k : Nat, i = k ∧ k < B.length := by
  unfold sIn at h
  obtain ⟨q, hq, e⟩ := List.mem_map.mp h
  have z := List.mem_zipIdx_iff_getElem?.mp (List.mem_filter.mp hq).1
  exact ⟨q.2, e.symm, (List.getElem?_eq_some_iff.mp z).1⟩
/-- in an ascending row: the place of a number is how many are smaller -/
theorem idx_asc : ∀ {l : List Int}, l.Pairwise (· < ·) → ∀ {k : Int}, k ∈ l → l.idxOf k = (l.filter fun i => decide (i < k)).length ∧ l.idxOf k + 1 = (l.filter fun i => decide (i ≤ k)).length
  | [], _, k, h => by cases h
  | y :: l, p, k, h => by
    obtain ⟨p1, p2⟩ := List.pairwise_cons.mp p
    by_cases e : y = k
    · subst e
      have n : ∀ i ∈ l, ¬ i < y := fun i hi => by have := p1 i hi; omega
      have n2 : ∀ i ∈ l, ¬ i ≤ y := fun i hi => by have := p1 i hi; omega
      have f1 : l.filter (fun i => decide (i < y)) = [] := List.filter_eq_nil_iff.mpr fun i hi => by simpa using n i hi
      have f2 : l.filter (fun i => decide (i ≤ y)) = [] := List.filter_eq_nil_iff.mpr fun i hi => by simpa using n2 i hi
      simp [f1, f2]
    · have h' : k ∈ l := by
        rcases (List.mem_cons.mp h) with z | z
        · exact absurd z.symm e
        · exact z
      obtain ⟨a, b⟩ := idx_asc p2 h'
      have := p1 k h'
      have be : (y == k) = false := by simp [e]
      rw [List.idxOf_cons, be]
      rw [List.filter_cons, List.filter_cons, if_pos (by simpa using this), if_pos (by simp; omega), List.length_cons, List.length_cons]
      simp only [cond_false]
      omega
theorem get_idx {l : List Int} (p : l.Pairwise (· < ·)) {j : Nat} {k : Int} (h : l[j]? = some k) : l.idxOf k = j := by
  have nd : l.Nodup := p.imp fun z => by omega
  obtain ⟨hj, e⟩ := List.getElem?_eq_some_iff.mp h
  subst e
  exact nd.idxOf_getElem j hj
end
end DL.B

/-! MB3 -/
/-! the laws' bells; values that are no bells; writing of data -/
namespace DL.B
open PySem L2
def b0__law_bells : Env → Out := (sSeq (sPar 5 6 (asVal (cOp oIxA (cC (.str "abch")) (cOp oMod (cBt bInt (aCons (cOp oIxA (cBor 0) (cOp oAdd (cC (.int 1)) (cOp oMul1 (cC (.int 3)) (cBor 4)))) aNil)) (cC (.int 4))))) (asVal (cOp oMod (cBt bInt (aCons (cOp oIxA (cBor 0) (cOp oAdd (cC (.int 2)) (cOp oMul1 (cC (.int 3)) (cBor 4)))) aNil)) (cOp oAdd (cBor 2) (cC (.int 1))))))
  (sApp 3 (cTup (aCons (cVar 5) (aCons (cVar 6) (aCons (cOp oIxA (cBor 1) (cOp oMod (cBt bInt (aCons (cOp oIxA (cBor 0) (cOp oAdd (cC (.int 3)) (cOp oMul1 (cC (.int 3)) (cBor 4)))) aNil)) (cBt bLen (aCons (cBor 1) aNil)))) aNil))))))
def c__law_bells : Env → Out := (sSeq (sAsg 3 (asOwn (cLst aNil)))
  (sSeq (sFor (cIt range1D (aCons (cOp oAdd (cC (.int 1)) (cOp oMod (cBt bInt (aCons (cOp oIxA (cBor 0) (cC (.int 0))) aNil)) (cC (.int 6)))) aNil)) (sName 4) b0__law_bells)
  (sRet (cBt bTuple (aCons (cBor 3) aNil)))))
def f__law_bells : List D → R D := semOf 7 3 c__law_bells
def c__law_wrongs : Env → Out := (sSeq (sAsg 0 (asVal (cTup (aCons (cC (.str "a")) (aCons (cC (.int 0)) (aCons (cC (.int 1)) aNil))))))
  (sRet (asList (cLst (aCons (cC .none) (aCons (cTup aNil) (aCons (asList (cLst (aCons (cVar 0) aNil))) (aCons (cOp oMul1 (cTup (aCons (cVar 0) aNil)) (cC (.int 7))) (aCons (cTup (aCons (cTup (aCons (cC (.str "i")) (aCons (cC (.int 0)) (aCons (cC (.int 1)) aNil)))) aNil)) (aCons (cTup (aCons (cTup (aCons (cC (.str "")) (aCons (cC (.int 0)) (aCons (cC (.int 1)) aNil)))) aNil)) (aCons (cTup (aCons (cTup (aCons (cC (.str "ab")) (aCons (cC (.int 0)) (aCons (cC (.int 1)) aNil)))) aNil)) (aCons (cTup (aCons (cTup (aCons (cC (.str "a")) (aCons (cUn oNeg (cC (.int 1))) (aCons (cC (.int 1)) aNil)))) aNil)) (aCons (cTup (aCons (cTup (aCons (cC (.str "a")) (aCons (cC (.int 121)) (aCons (cC (.int 1)) aNil)))) aNil)) (aCons (cTup (aCons (cTup (aCons (cC (.str "a")) (aCons (cC (.int 0)) (aCons (cC (.int 0)) aNil)))) aNil)) (aCons (cTup (aCons (cTup (aCons (cC (.str "a")) (aCons (cC (.int 0)) (aCons (cC (.int 61)) aNil)))) aNil)) (aCons (cTup (aCons (cTup (aCons (cC (.str "a")) (aCons (cC (.bool true)) (aCons (cC (.int 1)) aNil)))) aNil)) (aCons (cTup (aCons (cTup (aCons (cC (.str "a")) (aCons (cC (.int 0)) aNil))) aNil)) (aCons (cVar 0) (aCons (cC (.int 5)) aNil)))))))))))))))))))
def f__law_wrongs : List D → R D := semOf 1 0 c__law_wrongs
theorem in_tones {a b : Str} (h : (Builtin.Str.occurrences b a 0 b.length 1).isEmpty = false) : oNotInB (.str a) (.str b) = some (.bool false) := by
  show some (PyData.bool (!(!(Builtin.Str.occurrences b a 0 b.length 1).isEmpty))) = _
  rw [h]
  rfl
theorem tone_at {v : Int} : ∃ t : Str, oIxA (.str "abch") (.int (v % 4)) = some (.str t) ∧ bLen [.str t] = some (.int 1) ∧ oNotInB (.str t) (.str "abcdefgh") = some (.bool false) := by
  have c : v % 4 = 0 ∨ v % 4 = 1 ∨ v % 4 = 2 ∨ v % 4 = 3 := by omega
  rcases c with c | c | c | c <;> rw [c]
  · exact ⟨"a", by rfl, by rfl, in_tones (by decide +kernel)⟩
  · exact ⟨"b", by rfl, by rfl, in_tones (by decide +kernel)⟩
  · exact ⟨"c", by rfl, by rfl, in_tones (by decide +kernel)⟩
  · exact ⟨"h", by rfl, by rfl, in_tones (by decide +kernel)⟩
theorem bells_go {ds E : List Int} {most : Int} (hr : Dr.InR ds) (hl : 22 ≤ ds.length) (e0 : 0 < E.length) (eb : ∀ e ∈ E, 1 ≤ e ∧ e ≤ 60) (m0 : 0 ≤ most) (m1 : most ≤ 120) : ∀ (l : List Nat) (B : List Bl) (y4 y5 y6 : SV), (∀ i ∈ l, i < 6) → (∀ x ∈ B, Be x) → B.length + l.length ≤ 100 → ∃ (B' : List Bl) (z4 z5 z6 : SV),
    forLoop (sName 4) b0__law_bells (l.map fun i => .int ((0 : Int) + (i : Nat))) [.val (.list (ds.map .int)), .val (.list (E.map .int)), .val (.int most), .own (B.map bd), y4, y5, y6] = .nx [.val (.list (ds.map .int)), .val (.list (E.map .int)), .val (.int most), .own (B'.map bd), z4, z5, z6] ∧ (∀ x ∈ B', Be x) ∧ B'.length = B.length + l.length
  | [], B, y4, y5, y6, _, hB, _ => ⟨B, y4, y5, y6, rfl, hB, rfl⟩
  | i :: l, B, y4, y5, y6, hi, hB, hn => by
    have i6 := hi i (by simp)
    obtain ⟨a, a0, a1⟩ := U.dg_at hr (i := 1 + 3 * (i : Nat)) (by omega) (by omega)
    obtain ⟨b, b0, b1⟩ := U.dg_at hr (i := 2 + 3 * (i : Nat)) (by omega) (by omega)
    obtain ⟨c, c0, c1⟩ := U.dg_at hr (i := 3 + 3 * (i : Nat)) (by omega) (by omega)
    generalize U.dg ds (1 + 3 * ((i : Nat) : Int)) = u at a a0 a1
    generalize U.dg ds (2 + 3 * ((i : Nat) : Int)) = v at b b0 b1
    generalize U.dg ds (3 + 3 * ((i : Nat) : Int)) = w at c c0 c1
    obtain ⟨t, t1, t2, t3⟩ := tone_at (v := u)
    have f0 := Int.emod_nonneg v (show most + 1 ≠ 0 by omega)
    have f1 := Int.emod_lt_of_pos v (show 0 < most + 1 by omega)
    have g0 := Int.emod_nonneg w (show (E.length : Int) ≠ 0 by omega)
    have g1 := Int.emod_lt_of_pos w (show (0 : Int) < (E.length : Int) by omega)
    obtain ⟨j, hj⟩ : ∃ j : Nat, w % (E.length : Int) = j := ⟨(w % (E.length : Int)).toNat, by omega⟩
    have jl : j < E.length := by omega
    have ej := eb E[j] (List.getElem_mem jl)
    have ae : atI (E.map PyData.int) (j : Int) = some (.int E[j]) := atI_nat (by rw [List.getElem?_map, List.getElem?_eq_getElem jl] <;> rfl)
    obtain ⟨x, hx⟩ : ∃ x : Bl, (t, v % (most + 1), E[j]) = x := ⟨_, rfl⟩
    have bx : Be x := by
      subst hx
      exact ⟨t2, t3, f0, by show v % (most + 1) ≤ 120; omega, ej.1, ej.2⟩
    simp only [List.length_cons] at hn
    obtain ⟨B', z4, z5, z6, e, h1, h2⟩ := bells_go hr hl e0 eb m0 m1 l (B ++ [x]) (.val (.int ((0 : Int) + (i : Nat)))) (.val (.str t)) (.val (.int (v % (most + 1)))) (fun k hk => hi k (by simp [hk])) (fun y hy => by
      rcases (List.mem_append.mp hy) with z | z
      · exact hB y z
      · rw [(List.mem_singleton.mp z)]
        exact bx) (by rw [List.length_append, List.length_singleton]; omega)
    refine ⟨B', z4, z5, z6, ?_, h1, by rw [h2, List.length_append]; simp; omega⟩
    have c3 : CMul 3 (i : Int) := cmul_l (by decide)
    have dx : bd x = .tuple [.str t, .int (v % (most + 1)), .int E[j]] := by rw [← hx]; rfl
    have st : b0__law_bells [.val (.list (ds.map .int)), .val (.list (E.map .int)), .val (.int most), .own (B.map bd), .val (.int ((0 : Int) + (i : Nat))), y5, y6] = .nx [.val (.list (ds.map .int)), .val (.list (E.map .int)), .val (.int most), .own ((B ++ [x]).map bd), .val (.int ((0 : Int) + (i : Nat))), .val (.str t), .val (.int (v % (most + 1)))] := by
      rw [List.map_append, List.map_cons, List.map_nil, dx]
      have bl : (B.map bd).length < 100000 := by rw [List.length_map]; omega
      generalize B.map bd = BB at *
      simp [b0__law_bells, c3, a, b, c, t1, hj, ae, show 0 < most + 1 by omega, show 0 < E.length by omega, bl]
    rw [List.map_cons, for_cons (ρ1 := [.val (.list (ds.map .int)), .val (.list (E.map .int)), .val (.int most), .own (B.map bd), .val (.int ((0 : Int) + (i : Nat))), y5, y6]) rfl st, e]
theorem law_bells_ok {ds E : List Int} {most : Int} (hr : Dr.InR ds) (hl : 22 ≤ ds.length) (e0 : 0 < E.length) (eb : ∀ e ∈ E, 1 ≤ e ∧ e ≤ 60) (m0 : 0 ≤ most) (m1 : most ≤ 120) : ∃ B, Bs B ∧ f__law_bells [.list (ds.map .int), .list (E.map .int), .int most] = .ok (bt B) := by
  obtain ⟨a, a0, a1⟩ := U.dg_at hr (i := 0) (by omega) (by omega)
  generalize U.dg ds 0 = v at a a0 a1
  have r0 := Int.emod_nonneg v (show (6 : Int) ≠ 0 by decide)
  have r1 := Int.emod_lt_of_pos v (show (0 : Int) < 6 by decide)
  obtain ⟨n, hn⟩ : ∃ n : Nat, 1 + v % 6 = n := ⟨(1 + v % 6).toNat, by omega⟩
  obtain ⟨B, z4, z5, z6, e, h1, h2⟩ := bells_go hr hl e0 eb m0 m1 (List.range n) [] .no .no .no (fun i hi => by have := List.mem_range.mp hi; omega) (fun x hx => by cases hx) (by rw [List.length_range]; simp; omega)
  have bn : B.length = n := by rw [h2, List.length_range]; simp
  refine ⟨B, ⟨by omega, by omega, h1⟩, ?_⟩
  have e' : forLoop (sName 4) b0__law_bells (rangeD 0 n) [.val (.list (ds.map .int)), .val (.list (E.map .int)), .val (.int most), .own [], .no, .no, .no] = .nx [.val (.list (ds.map .int)), .val (.list (E.map .int)), .val (.int most), .own (B.map bd), z4, z5, z6] := e
  have hn' : (1 + v % 6).toNat = n := by omega
  generalize ds.map PyData.int = DD at *
  generalize E.map PyData.int = EE at *
  simp [f__law_bells, semOf, c__law_bells, a, hn', e', show (-1000000 : Int) < 1 + v % 6 by omega, show 1 + v % 6 < 1000000 by omega]
def wrongs : List D := [.none, .tuple [], .list [.tuple [.str "a", .int 0, .int 1]], .tuple (List.replicate 7 (.tuple [.str "a", .int 0, .int 1])), .tuple [.tuple [.str "i", .int 0, .int 1]], .tuple [.tuple [.str "", .int 0, .int 1]], .tuple [.tuple [.str "ab", .int 0, .int 1]], .tuple [.tuple [.str "a", .int (-1), .int 1]], .tuple [.tuple [.str "a", .int 121, .int 1]],
  .tuple [.tuple [.str "a", .int 0, .int 0]], .tuple [.tuple [.str "a", .int 0, .int 61]], .tuple [.tuple [.str "a", .bool true, .int 1]], .tuple [.tuple [.str "a", .int 0]], .tuple [.str "a", .int 0, .int 1], .int 5]
theorem wrongs_ok : f__law_wrongs [] = .ok (.list wrongs) := by rfl
theorem in_a : oNotInB (.str "a") (.str "abcdefgh") = some (.bool false) := in_tones (by decide +kernel)
theorem in_i : oNotInB (.str "i") (.str "abcdefgh") = some (.bool true) := by
  show some (PyData.bool (!(!(Builtin.Str.occurrences "abcdefgh" "i" 0 (Str.ofString "abcdefgh").length 1).isEmpty))) = _
  rw [show (Builtin.Str.occurrences "abcdefgh" "i" 0 (Str.ofString "abcdefgh").length 1).isEmpty = true by decide +kernel]
  rfl
theorem bell_no {t : Str} {f e : D} (hl : bLen [.str t] = some (.int 1)) (ht : oNotInB (.str t) (.str "abcdefgh") = some (.bool false)) (h : (Q.isW f 0 120 && Q.isW e 1 60) = false) : f_is_bell [.tuple [.str t, f, e]] = .ok (.bool false) := by
  have w1 := Q.is_whole_ok f 0 120
  have w2 := Q.is_whole_ok e 1 60
  have a0 : atI [PyData.str t, f, e] 0 = some (.str t) := rfl
  have a1 : atI [PyData.str t, f, e] 1 = some f := rfl
  have a2 : atI [PyData.str t, f, e] 2 = some e := rfl
  cases h1 : Q.isW f 0 120 with
  | true =>
    rw [h1] at h w1
    rw [Bool.true_and] at h
    rw [h] at w2
    simp [f_is_bell, semOf, c_is_bell, isTupleD, isStrD, a0, a1, a2, hl, ht, w1, w2]
  | false =>
    rw [h1] at w1
    simp [f_is_bell, semOf, c_is_bell, isTupleD, isStrD, a0, a1, a2, hl, ht, w1]
theorem one_no {x : D} (h : f_is_bell [x] = .ok (.bool false)) : f_are_bells [.tuple [x]] = .ok (.bool false) := by
  have ba : bAll [.list [.bool false]] = some (.bool false) := rfl
  simp [f_are_bells, semOf, c_are_bells, isTupleD, wipeR, lcGo_cons, h, ba]
theorem wrong_no : ∀ w ∈ wrongs, f_are_bells [w] = .ok (.bool false) := by
  have la : bLen [.str "a"] = some (.int 1) := rfl
  intro w hw
  simp only [wrongs, List.not_mem_nil, List.mem_cons, or_false] at hw
  rcases hw with rfl | rfl | rfl | rfl | rfl | rfl | rfl | rfl | rfl | rfl | rfl | rfl | rfl | rfl | rfl
  · rfl
  · rfl
  · rfl
  · rfl
  · refine one_no ?_
    have li : bLen [.str "i"] = some (.int 1) := rfl
    have a0 : atI [PyData.str "i", .int 0, .int 1] 0 = some (.str "i") := rfl
    simp [f_is_bell, semOf, c_is_bell, isTupleD, isStrD, a0, li, in_i]
  · exact one_no (by rfl)
  · exact one_no (by rfl)
  · exact one_no (bell_no la in_a (by decide))
  · exact one_no (bell_no la in_a (by decide))
  · exact one_no (bell_no la in_a (by decide))
  · exact one_no (bell_no la in_a (by decide))
  · exact one_no (bell_no la in_a (by decide))
  · exact one_no (by rfl)
  · rfl
  · rfl
def words (w : Str) (n : Nat) : D := .list (List.replicate n (.str w))
theorem ne_words {w : Str} (h : PyData.strOk w = true) (n : Nat) : oNe (words w n) (words w n) = some (.bool false) := oNe_same (n := 1) (sh_lst fun d hd => by
  rw [List.eq_of_mem_replicate hd]
  exact ⟨by simp [PyData.canLay0, h], by simp [PyData.depth]⟩)
/-- data and how long they are written -/
structure Wr (k n : Nat) (d : D) : Prop where
  lay : d.canLay0 = true
  sw : d.showable = true
  hd : d.hasDict = false
  dp : d.depth ≤ n
  ln : d.shown.length ≤ k
theorem Wr.mono {k n k' n' : Nat} {d : D} (h : Wr k n d) (a : k ≤ k') (b : n ≤ n') : Wr k' n' d := ⟨h.lay, h.sw, h.hd, Nat.le_trans h.dp b, Nat.le_trans h.ln a⟩
theorem Wr.ok {k n : Nat} {d : D} (h : Wr k n d) (a : k ≤ 100000 := by decide) (b : n ≤ 20 := by decide) : shOk d = true := by
  unfold shOk
  rw [h.lay, h.sw, h.hd, decide_eq_true (Nat.le_trans h.dp b), decide_eq_true (Nat.le_trans h.ln a)]
  rfl
theorem wr_int {i : Int} (h : i.natAbs < 10 ^ 25) : Wr 26 0 (.int i) := by
  have a := shown_i h
  have b := log_i h
  exact ⟨by simp [PyData.canLay0], by simp [PyData.showable, b], by simp [PyData.hasDict], by simp [PyData.depth], a⟩
theorem wr_all {k n : Nat} : ∀ {ds : List D}, (∀ d ∈ ds, Wr k n d) → PyData.canLayAll0 ds = true ∧ PyData.showableAll ds = true ∧ PyData.hasDictAll ds = false ∧ PyData.depthAll ds ≤ n ∧ ((PyData.shownAll ds).map (·.length)).sum ≤ k * ds.length ∧ (PyData.shownAll ds).length = ds.length
  | [], _ => by simp [PyData.canLayAll0, PyData.showableAll, PyData.hasDictAll, PyData.shownAll, PyData.depthAll]
  | d :: ds, h => by
    obtain ⟨a, b, c, e, f, g⟩ := wr_all (ds := ds) fun x hx => h x (.tail _ hx)
    have w := h d List.mem_cons_self
    have w4 := w.dp
    have w5 := w.ln
    refine ⟨by simp [PyData.canLayAll0, a, w.lay], by simp [PyData.showableAll, b, w.sw], by simp [PyData.hasDictAll, c, w.hd], by simp only [PyData.depthAll]; omega, ?_, by simp [PyData.shownAll, g]⟩
    simp only [PyData.shownAll, List.map_cons, List.sum_cons, List.length_cons]
    have : k * (ds.length + 1) = k * ds.length + k := by rw [Nat.mul_add, Nat.mul_one]
    omega
theorem wr_tup {k n m : Nat} {ds : List D} (h : ∀ d ∈ ds, Wr k n d) (hm : ds.length ≤ m) : Wr ((k + 2) * m + 3) (n + 1) (.tuple ds) := by
  obtain ⟨a, b, c, e, f, g⟩ := wr_all h
  refine ⟨by simpa [PyData.canLay0] using a, by simpa only [PyData.showable] using b, by simpa only [PyData.hasDict] using c, by simp only [PyData.depth]; omega, ?_⟩
  have z := tupleText_len_le (PyData.shownAll ds)
  show (tupleText (PyData.shownAll ds)).length ≤ _
  have e1 : k * ds.length ≤ k * m := Nat.mul_le_mul_left k hm
  have e2 : (k + 2) * m = k * m + 2 * m := Nat.add_mul k 2 m
  omega
theorem Wr.same {k n : Nat} {d : D} (h : Wr k n d) (a : k ≤ 100000 := by decide) (b : n ≤ 20 := by decide) : f__law_same [d, d] = .ok (.bool true) := same_ok (h.ok a b)
theorem wr_ints {ns : List Int} {m : Nat} (h : ∀ i ∈ ns, i.natAbs < 10 ^ 25) (hm : ns.length ≤ m) : Wr ((26 + 2) * m + 3) 1 (.tuple (ns.map .int)) := wr_tup (fun d hd => by
  obtain ⟨i, hi, rfl⟩ := List.mem_map.mp hd
  exact wr_int (h i hi)) (by rw [List.length_map]; exact hm)

end DL.B

/-! MO -/
/-! texts cut at a separator, and joined again -/
namespace DL.O
open PySem TL
theorem spl_ne (S : List Nat) : ∀ (l : List Nat) (k : Nat) (acc : List Nat), spl S k acc l ≠ []
  | [], k, acc => by rw [spl_nil]; simp
  | x :: l, 0, acc => by
    unfold spl
    split
    · simp
    · exact spl_ne S l 0 _
  | x :: l, k + 1, acc => by
    unfold spl
    exact spl_ne S l k acc
theorem joinL_cons {S p : List Nat} {ps : List (List Nat)} (h : ps ≠ []) : joinL S (p :: ps) = p ++ (S ++ joinL S ps) := by
  cases ps with
  | nil => exact absurd rfl h
  | cons q r => rfl
theorem join_spl {S : List Nat} (hS : S ≠ []) : ∀ (l : List Nat) (k : Nat) (acc : List Nat), joinL S (spl S k acc l) = acc ++ l.drop k
  | [], k, acc => by rw [spl_nil]; simp [joinL]
  | c :: r, 0, acc => by
    by_cases h : pre S (c :: r) = true
    · rw [spl_hit h, joinL_cons (spl_ne S r (S.length - 1) []), join_spl hS r (S.length - 1) []]
      have e : (c :: r).take S.length = S := by simpa [pre] using h
      have n : 0 < S.length := List.length_pos_iff.mpr hS
      obtain ⟨m, hm⟩ : ∃ m, S.length = m + 1 := ⟨S.length - 1, by omega⟩
      have d : S ++ r.drop (S.length - 1) = c :: r := by
        have z := List.take_append_drop S.length (c :: r)
        rw [e] at z
        rw [hm] at z ⊢
        simpa using z
      rw [List.nil_append, d, List.drop_zero]
    · have h : pre S (c :: r) = false := by simpa using h
      rw [spl_miss h, join_spl hS r 0 (acc ++ [c])]
      simp
  | c :: r, k + 1, acc => by
    show joinL S (spl S k acc r) = _
    rw [join_spl hS r k acc]
    rfl
theorem split_tl {x y : Str} (hy : tl y ≠ []) (hk : y.cps.all (· < 256) = true) : (Txt.split x y).map tl = spl (tl y) 0 [] (tl x) := split_spl x y hy (kind_ok hk)
theorem join_split {x y : Str} (hy : tl y ≠ []) (hk : y.cps.all (· < 256) = true) : Txt.join y (Txt.split x y) = x := by
  refine ext_tl ?_
  rw [join_eq, tl_join, split_tl hy hk, join_spl hy]
  rfl
theorem spl_in (S : List Nat) : ∀ (l : List Nat) (k : Nat) (acc : List Nat), ∀ p ∈ spl S k acc l, ∀ c ∈ p, c ∈ acc ∨ c ∈ l
  | [], k, acc, p, hp, c, hc => by
    rw [spl_nil] at hp
    rw [List.mem_singleton.mp hp] at hc
    exact .inl hc
  | x :: l, 0, acc, p, hp, c, hc => by
    unfold spl at hp
    split at hp
    · rcases (List.mem_cons.mp hp) with rfl | hp
      · exact .inl hc
      · rcases spl_in S l _ _ p hp c hc with h | h
        · exact absurd h List.not_mem_nil
        · exact .inr (.tail _ h)
    · rcases spl_in S l _ _ p hp c hc with h | h
      · rcases (List.mem_append.mp h) with h | h
        · exact .inl h
        · exact .inr (by rw [List.mem_singleton.mp h]; exact List.mem_cons_self)
      · exact .inr (.tail _ h)
  | x :: l, k + 1, acc, p, hp, c, hc => by
    unfold spl at hp
    rcases spl_in S l _ _ p hp c hc with h | h
    · exact .inl h
    · exact .inr (.tail _ h)
theorem spl_sz (S : List Nat) : ∀ (l : List Nat) (k : Nat) (acc : List Nat), (spl S k acc l).length ≤ l.length + 1 ∧ ∀ p ∈ spl S k acc l, p.length ≤ acc.length + l.length
  | [], k, acc => by
    rw [spl_nil]
    simp
  | x :: l, 0, acc => by
    unfold spl
    split
    · obtain ⟨a, c⟩ := spl_sz S l (S.length - 1) []
      refine ⟨by simp only [List.length_cons]; omega, fun p hp => ?_⟩
      rcases (List.mem_cons.mp hp) with rfl | hp
      · omega
      · have := c p hp
        simp only [List.length_nil, List.length_cons] at *
        omega
    · obtain ⟨a, c⟩ := spl_sz S l 0 (acc ++ [x])
      refine ⟨by simp only [List.length_cons]; omega, fun p hp => ?_⟩
      have := c p hp
      simp only [List.length_append, List.length_cons, List.length_nil] at *
      omega
  | x :: l, k + 1, acc => by
    unfold spl
    obtain ⟨a, c⟩ := spl_sz S l k acc
    refine ⟨by simp only [List.length_cons]; omega, fun p hp => ?_⟩
    have := c p hp
    simp only [List.length_cons]
    omega
end DL.O

/-! C_K48 -/
namespace DL.K48
open PySem
abbrev errs : List Str := ["BadText", "BadBells"]
abbrev w_part : List Str := ["BadText"]
def b2__law_draws : Env → Out := (sIf (cTest (cOp oLt (cBt bLen (aCons (cBor 2) aNil)) (cBor 1))) (sSeq (sAsg 3 (asVal (cOp oMod (cBt bInt (aCons (cOp oAdd (cOp oAdd (cOp oMul1 (cBor 3) (cC (.int 69621))) (cBor 6)) (cC (.int 1))) aNil)) (cC (.int 2147483647)))))
  (sApp 2 (cOp oMod (cOp oDiv (cBt bInt (aCons (cBor 3) aNil)) (cC (.int 7))) (cC (.int 65521))))) sNx)
def b1__law_draws : Env → Out := (sIf (cTest (cOp oGt (cBor 5) (cC (.int 0)))) (sSeq (sApp 2 (cOp oMod (cBt bInt (aCons (cBor 5) aNil)) (cC (.int 1009))))
  (sAsg 5 (asVal (cOp oDiv (cBor 5) (cC (.int 1009)))))) sNx)
def b0__law_draws : Env → Out := (sSeq (sAsg 5 (asVal (cBt bAbs (aCons (cBor 4) aNil))))
  (sSeq (sAsg 3 (asVal (cOp oMod (cBt bInt (aCons (cOp oAdd (cOp oAdd (cOp oMul1 (cBor 3) (cC (.int 48271))) (cBor 5)) (cC (.int 11))) aNil)) (cC (.int 2147483647)))))
  (sIf (cTest (cOp oGe (cBor 5) (cOp oPow (cC (.int 10)) (cC (.int 18))))) (sFor (cIt range1D (aCons (cC (.int 60)) aNil)) (sName 6) b1__law_draws) (sApp 2 (cOp oMod (cOp oDiv (cBt bInt (aCons (cOp oAdd (cOp oMul1 (cBor 3) (cC (.int 16807))) (cC (.int 5))) aNil)) (cC (.int 3))) (cC (.int 65521)))))))
def c__law_draws : Env → Out := (sSeq (sAsg 2 (asOwn (cLst aNil)))
  (sSeq (sAsg 3 (asVal (cC (.int 7))))
  (sSeq (sFor (cItems (cSl (cBor 0) pNone (pSome (cC (.int 63))))) (sName 4) b0__law_draws)
  (sSeq (sFor (cIt range1D (aCons (cVar 1) aNil)) (sName 6) b2__law_draws)
  (sRet (cSl (cBor 2) pNone (pSome (cVar 1))))))))
def f__law_draws : List D → R D := semOf 7 2 c__law_draws
def b0__law_bells : Env → Out := (sSeq (sPar 5 6 (asVal (cOp oIxA (cC (.str "abch")) (cOp oMod (cBt bInt (aCons (cOp oIxA (cBor 0) (cOp oAdd (cC (.int 1)) (cOp oMul1 (cC (.int 3)) (cBor 4)))) aNil)) (cC (.int 4))))) (asVal (cOp oMod (cBt bInt (aCons (cOp oIxA (cBor 0) (cOp oAdd (cC (.int 2)) (cOp oMul1 (cC (.int 3)) (cBor 4)))) aNil)) (cOp oAdd (cBor 2) (cC (.int 1))))))
  (sApp 3 (cTup (aCons (cVar 5) (aCons (cVar 6) (aCons (cOp oIxA (cBor 1) (cOp oMod (cBt bInt (aCons (cOp oIxA (cBor 0) (cOp oAdd (cC (.int 3)) (cOp oMul1 (cC (.int 3)) (cBor 4)))) aNil)) (cBt bLen (aCons (cBor 1) aNil)))) aNil))))))
def c__law_bells : Env → Out := (sSeq (sAsg 3 (asOwn (cLst aNil)))
  (sSeq (sFor (cIt range1D (aCons (cOp oAdd (cC (.int 1)) (cOp oMod (cBt bInt (aCons (cOp oIxA (cBor 0) (cC (.int 0))) aNil)) (cC (.int 6)))) aNil)) (sName 4) b0__law_bells)
  (sRet (cBt bTuple (aCons (cBor 3) aNil)))))
def f__law_bells : List D → R D := semOf 7 3 c__law_bells
def c__law_text : Env → Out := (sRet (cM1 oJoin (cC (.str "; ")) (asList (cLc (cItems (cBor 0)) (sName 1) cYes (cOp oAdd (cOp oAdd (cOp oAdd (cOp oAdd (cOp oIxA (cBor 1) (cC (.int 0))) (cC (.str " "))) (cBt bStr (aCons (cOp oIxA (cBor 1) (cC (.int 1))) aNil))) (cC (.str " "))) (cBt bStr (aCons (cOp oIxA (cBor 1) (cC (.int 2))) aNil))) [1]))))
def f__law_text : List D → R D := semOf 2 1 c__law_text
def c__law_same : Env → Out := (sRet (cAndV (cOp oEq (cBor 0) (cBor 1)) (cOp oEqS (cBt bRepr (aCons (cBor 0) aNil)) (cBt bRepr (aCons (cBor 1) aNil)))))
def f__law_same : List D → R D := semOf 2 2 c__law_same
def c__number : Env → Out := (sSeq (sIf (cOr (cNot (cTest (cChain oLe oLe (cC (.int 1)) (cBt bLen (aCons (cBor 0) aNil)) (cC (.int 3))))) (cNot (cTest (cBt bAll (aCons (asList (cLc (cSigns (cVar 0)) (sName 1) cYes (cOp oInB (cBor 1) (cC (.str "0123456789"))) [1])) aNil))))) (sRet (cC .none)) sNx)
  (sRet (cIf (cOr (cTest (cOp oEq (cBor 0) (cC (.str "0")))) (cTest (cOp oNe (cOp oIxA (cBor 0) (cC (.int 0))) (cC (.str "0"))))) (cBt bInt (aCons (cBor 0) aNil)) (cC .none))))
def f__number : List D → R D := semOf 2 1 c__number
def c_is_whole : Env → Out := (sRet (cAndV (cIs isIntD (cBor 0)) (cAndV (cNotV (cIs isBoolD (cBor 0))) (cChain oLe oLe (cBor 1) (cBor 0) (cBor 2)))))
def f_is_whole : List D → R D := semOf 3 3 c_is_whole
def c_is_bell : Env → Out := (sSeq (sIf (cOr (cNot (cTest (cIs isTupleD (cBor 0)))) (cTest (cOp oNe (cBt bLen (aCons (cBor 0) aNil)) (cC (.int 3))))) (sRet (cC (.bool false))) sNx)
  (sSeq (sIf (cOr (cNot (cTest (cIs isStrD (cOp oIxA (cBor 0) (cC (.int 0)))))) (cOr (cTest (cOp oNe (cBt bLen (aCons (cOp oIxA (cBor 0) (cC (.int 0))) aNil)) (cC (.int 1)))) (cTest (cOp oNotInB (cOp oIxA (cBor 0) (cC (.int 0))) (cC (.str "abcdefgh")))))) (sRet (cC (.bool false))) sNx)
  (sRet (cAndV (cCall f_is_whole (aCons (cOp oIxA (cBor 0) (cC (.int 1))) (aCons (cC (.int 0)) (aCons (cC (.int 120)) aNil)))) (cCall f_is_whole (aCons (cOp oIxA (cBor 0) (cC (.int 2))) (aCons (cC (.int 1)) (aCons (cC (.int 60)) aNil))))))))
def f_is_bell : List D → R D := semOf 1 1 c_is_bell
def c_are_bells : Env → Out := (sRet (cAndV (cIs isTupleD (cBor 0)) (cAndV (cChain oLe oLe (cC (.int 1)) (cBt bLen (aCons (cBor 0) aNil)) (cC (.int 6))) (cBt bAll (aCons (asList (cLc (cItems (cBor 0)) (sName 1) cYes (cCall f_is_bell (aCons (cVar 1) aNil)) [1])) aNil)))))
def f_are_bells : List D → R D := semOf 2 1 c_are_bells
def c__bell : Env → Out := (sSeq (sAsg 1 (asVal (cM1 oSplit (cVar 0) (cC (.str " ")))))
  (sSeq (sIf (cTest (cOp oNe (cBt bLen (aCons (cBor 1) aNil)) (cC (.int 3)))) (sRet (cC .none)) sNx)
  (sSeq (sAsg 2 (asVal (cTup (aCons (cOp oIxA (cBor 1) (cC (.int 0))) (aCons (cCall f__number (aCons (cOp oIxA (cBor 1) (cC (.int 1))) aNil)) (aCons (cCall f__number (aCons (cOp oIxA (cBor 1) (cC (.int 2))) aNil)) aNil))))))
  (sRet (cIf (cTest (cCall f_are_bells (aCons (cTup (aCons (cVar 2) aNil)) aNil))) (cVar 2) (cC .none))))))
def f__bell : List D → R D := semOf 3 1 c__bell
def b0_bells_of : Env → Out := (sSeq (sAsg 4 (asVal (cCall f__bell (aCons (cVar 3) aNil))))
  (sSeq (sIf (cOr (cTest (cOp oIs (cBor 4) (cC .none))) (cTest (cOp oGe (cBor 2) (cC (.int 6))))) (sRaiseA "BadText" "part" (cOp oAdd (cBor 2) (cC (.int 1)))) sNx)
  (sApp 1 (cVar 4))))
def c_bells_of : Env → Out := (sSeq (sIf (cNot (cTest (cIs isStrD (cBor 0)))) (sRaiseA "BadText" "part" (cC (.int 0))) sNx)
  (sSeq (sAsg 1 (asOwn (cLst aNil)))
  (sSeq (sFor (cIt enumAD (aCons (cM1 oSplit (cVar 0) (cC (.str "; "))) aNil)) (sTup (sCons (sName 2) (sCons (sName 3) sNil))) b0_bells_of)
  (sRet (cBt bTuple (aCons (cBor 1) aNil))))))
def f_bells_of : List D → R D := semOf 5 1 c_bells_of
def b0__law_told : Env → Out := (sRet (cTup (aCons (cC (.str "told")) (aCons (cCall f_bells_of (aCons (cVar 0) aNil)) aNil))))
def c__law_told : Env → Out := (sTry errs b0__law_told ((["BadText"], some 1, xRet 1 (xPair "part" (xFld w_part "part"))) :: []))
def f__law_told : List D → R D := semOf 2 1 c__law_told
def c_check_bells : Env → Out := (sIf (cNot (cTest (cCall f_are_bells (aCons (cVar 0) aNil)))) (sRaise "BadBells") sNx)
def f_check_bells : List D → R D := semOf 1 1 c_check_bells
def c_bells_text : Env → Out := (sSeq (sDrop (cCall f_check_bells (aCons (cVar 0) aNil)))
  (sRet (cM1 oJoin (cC (.str "; ")) (asList (cLc (cItems (cBor 0)) (sTup (sCons (sName 1) (sCons (sName 2) (sCons (sName 3) sNil)))) cYes (cJs ((cUn fmtO (cVar 1)) :: ((cC (.str " ")) :: ((cUn fmtO (cVar 2)) :: ((cC (.str " ")) :: ((cUn fmtO (cVar 3)) :: []))))) Str.empty) [1, 2, 3])))))
def f_bells_text : List D → R D := semOf 4 1 c_bells_text
def b0__law_refused : Env → Out := (sDrop (cCall f_bells_text (aCons (cVar 0) aNil)))
def c__law_refused : Env → Out := (sSeq (sTry errs b0__law_refused ((["BadBells"], none, fun _ => (sRet (cC (.bool true)))) :: []))
  (sRet (cC (.bool false))))
def f__law_refused : List D → R D := semOf 1 1 c__law_refused
def c__law_bell : Env → Out := (sSeq (sAsg 1 (asVal (cM1 oSplit (cVar 0) (cC (.str " ")))))
  (sSeq (sIf (cOr (cTest (cOp oNe (cBt bLen (aCons (cBor 1) aNil)) (cC (.int 3)))) (cTest (cOp oNotInB (cOp oIxA (cBor 1) (cC (.int 0))) (cBt bListS (aCons (cC (.str "abcdefgh")) aNil))))) (sRet (cC .none)) sNx)
  (sSeq (sPar 2 3 (asVal (asList (cLc (cIt range1D (aCons (cC (.int 121)) aNil)) (sName 4) cYes (cBt bStr (aCons (cBor 4) aNil)) [4]))) (asVal (asList (cLc (cIt range2D (aCons (cC (.int 1)) (aCons (cC (.int 61)) aNil))) (sName 4) cYes (cBt bStr (aCons (cBor 4) aNil)) [4]))))
  (sSeq (sIf (cOr (cTest (cOp oNotInB (cOp oIxA (cBor 1) (cC (.int 1))) (cBor 2))) (cTest (cOp oNotInB (cOp oIxA (cBor 1) (cC (.int 2))) (cBor 3)))) (sRet (cC .none)) sNx)
  (sRet (cTup (aCons (cOp oIxA (cBor 1) (cC (.int 0))) (aCons (cMt mIndexL (cBor 2) (aCons (cOp oIxA (cBor 1) (cC (.int 1))) aNil)) (aCons (cOp oAdd (cMt mIndexL (cBor 3) (aCons (cOp oIxA (cBor 1) (cC (.int 2))) aNil)) (cC (.int 1))) aNil)))))))))
def f__law_bell : List D → R D := semOf 5 1 c__law_bell
def c__law_due : Env → Out := (sSeq (sAsg 1 (asVal (asList (cLc (cItems (cM1 oSplit (cVar 0) (cC (.str "; ")))) (sName 3) cYes (cCall f__law_bell (aCons (cVar 3) aNil)) [3]))))
  (sSeq (sAsg 2 (asVal (asList (cLc (cIt range1D (aCons (cBt bLen (aCons (cBor 1) aNil)) aNil)) (sName 4) (cOr (cTest (cOp oIs (cOp oIxA (cBor 1) (cBor 4)) (cC .none))) (cTest (cOp oGt (cBor 4) (cC (.int 5))))) (cVar 4) [4]))))
  (sRet (cIf (cTest (cOp oGt (cBt bLen (aCons (cBor 2) aNil)) (cC (.int 0)))) (cTup (aCons (cC (.str "part")) (aCons (cOp oAdd (cOp oIxA (cBor 2) (cC (.int 0))) (cC (.int 1))) aNil))) (cTup (aCons (cC (.str "told")) (aCons (cBt bTuple (aCons (cBor 1) aNil)) aNil)))))))
def f__law_due : List D → R D := semOf 5 1 c__law_due
def c__law_wrongs : Env → Out := (sSeq (sAsg 0 (asVal (cTup (aCons (cC (.str "a")) (aCons (cC (.int 0)) (aCons (cC (.int 1)) aNil))))))
  (sRet (asList (cLst (aCons (cC .none) (aCons (cTup aNil) (aCons (asList (cLst (aCons (cVar 0) aNil))) (aCons (cOp oMul1 (cTup (aCons (cVar 0) aNil)) (cC (.int 7))) (aCons (cTup (aCons (cTup (aCons (cC (.str "i")) (aCons (cC (.int 0)) (aCons (cC (.int 1)) aNil)))) aNil)) (aCons (cTup (aCons (cTup (aCons (cC (.str "")) (aCons (cC (.int 0)) (aCons (cC (.int 1)) aNil)))) aNil)) (aCons (cTup (aCons (cTup (aCons (cC (.str "ab")) (aCons (cC (.int 0)) (aCons (cC (.int 1)) aNil)))) aNil)) (aCons (cTup (aCons (cTup (aCons (cC (.str "a")) (aCons (cUn oNeg (cC (.int 1))) (aCons (cC (.int 1)) aNil)))) aNil)) (aCons (cTup (aCons (cTup (aCons (cC (.str "a")) (aCons (cC (.int 121)) (aCons (cC (.int 1)) aNil)))) aNil)) (aCons (cTup (aCons (cTup (aCons (cC (.str "a")) (aCons (cC (.int 0)) (aCons (cC (.int 0)) aNil)))) aNil)) (aCons (cTup (aCons (cTup (aCons (cC (.str "a")) (aCons (cC (.int 0)) (aCons (cC (.int 61)) aNil)))) aNil)) (aCons (cTup (aCons (cTup (aCons (cC (.str "a")) (aCons (cC (.bool true)) (aCons (cC (.int 1)) aNil)))) aNil)) (aCons (cTup (aCons (cTup (aCons (cC (.str "a")) (aCons (cC (.int 0)) aNil))) aNil)) (aCons (cVar 0) (aCons (cC (.int 5)) aNil)))))))))))))))))))
def f__law_wrongs : List D → R D := semOf 1 0 c__law_wrongs
def b2_law : Env → Out := (sIf (cNot (cTest (cCall f__law_same (aCons (cCall f__law_told (aCons (cVar 15) aNil)) (aCons (cTup (aCons (cC (.str "part")) (aCons (cC (.int 0)) aNil))) aNil))))) (sRet (cC (.bool false))) sNx)
def b1_law : Env → Out := (sIf (cNot (cTest (cCall f__law_same (aCons (cCall f__law_told (aCons (cVar 14) aNil)) (aCons (cCall f__law_due (aCons (cVar 14) aNil)) aNil))))) (sRet (cC (.bool false))) sNx)
def b0_law : Env → Out := (sSeq (sPar3 7 8 9 (aCons (cBt bInt (aCons (cOp oIxA (cBor 1) (cOp oAdd (cC (.int 30)) (cBor 2))) aNil)) (aCons (cOp oMod (cBt bInt (aCons (cOp oIxA (cBor 1) (cOp oAdd (cC (.int 40)) (cBor 2))) aNil)) (cOp oAdd (cBt bLen (aCons (cBor 6) aNil)) (cC (.int 1)))) (aCons (cOp oMod (cBt bInt (aCons (cOp oIxA (cBor 1) (cOp oAdd (cC (.int 50)) (cBor 2))) aNil)) (cOp oAdd (cBt bLen (aCons (cBor 5) aNil)) (cC (.int 1)))) aNil))))
  (sSeq (sAsg 10 (asVal (cOp oIxA (cC (.str " 0123456789abchi;-")) (cOp oMod (cBt bInt (aCons (cOp oIxA (cBor 1) (cOp oAdd (cC (.int 60)) (cBor 2))) aNil)) (cC (.int 18))))))
  (sSeq (sAsg 11 (asVal (cOp oIxA (asList (cLst (aCons (cC (.str "a 0 0")) (aCons (cC (.str "a 121 1")) (aCons (cC (.str "a 120 60")) (aCons (cC (.str "i 0 1")) (aCons (cC (.str "a 00 1")) (aCons (cC (.str "a 1")) (aCons (cC (.str "")) (aCons (cC (.str "A 1 1")) (aCons (cC (.str "a  1 1")) (aCons (cC (.str "h 5 61")) (aCons (cC (.str "b 7 07")) (aCons (cC (.str "c -1 5")) aNil)))))))))))))) (cOp oMod (cBor 7) (cC (.int 12))))))
  (sSeq (sAsg 12 (asVal (asList (cLst (aCons (cOp oAdd (cOp oAdd (cSl (cBor 6) pNone (pSome (cVar 8))) (asList (cLst (aCons (cVar 11) aNil)))) (cSl (cBor 6) (pSome (cVar 8)) pNone)) (aCons (cOp oAdd (cSl (cBor 6) pNone (pSome (cVar 8))) (cSl (cBor 6) (pSome (cOp oAdd (cBor 8) (cC (.int 1)))) pNone)) (aCons (cOp oAdd (cOp oAdd (cSl (cBor 6) pNone (pSome (cVar 8))) (cOp oMul1 (cSl (cBor 6) (pSome (cVar 8)) (pSome (cOp oAdd (cBor 8) (cC (.int 1))))) (cC (.int 2)))) (cSl (cBor 6) (pSome (cOp oAdd (cBor 8) (cC (.int 1)))) pNone)) (aCons (cRev (cBor 6)) aNil))))))))
  (sSeq (sAsg 13 (asVal (cOp oAdd (asList (cLc (cItems (cBor 12)) (sName 17) cYes (cM1 oJoin (cC (.str "; ")) (cBor 17)) [17])) (asList (cLst (aCons (cOp oAdd (cOp oAdd (cSl (cBor 5) pNone (pSome (cVar 9))) (cBor 10)) (cSl (cBor 5) (pSome (cVar 9)) pNone)) (aCons (cOp oAdd (cSl (cBor 5) pNone (pSome (cVar 9))) (cSl (cBor 5) (pSome (cOp oAdd (cBor 9) (cC (.int 1)))) pNone)) (aCons (cSl (cBor 5) pNone (pSome (cVar 9))) (aCons (cOp oAdd (cOp oAdd (cSl (cBor 5) pNone (pSome (cVar 9))) (cBor 10)) (cSl (cBor 5) (pSome (cOp oAdd (cBor 9) (cC (.int 1)))) pNone)) aNil)))))))))
  (sFor (cItems (cVar 13)) (sName 14) b1_law))))))
def c_law : Env → Out := (sSeq (sAsg 1 (asVal (cCall f__law_draws (aCons (cVar 0) (aCons (cC (.int 90)) aNil)))))
  (sSeq (sAsg 3 (asVal (asList (cLc (cIt range1D (aCons (cC (.int 6)) aNil)) (sName 2) cYes (cOp oAdd (cOp oMod (cBt bInt (aCons (cOp oIxA (cBor 1) (cOp oAdd (cC (.int 21)) (cBor 2))) aNil)) (cC (.int 60))) (cC (.int 1))) [2]))))
  (sSeq (sAsg 4 (asVal (cCall f__law_bells (aCons (cVar 1) (aCons (cVar 3) (aCons (cOp oIxA (asList (cLst (aCons (cC (.int 120)) (aCons (cC (.int 9)) aNil)))) (cOp oMod (cBt bInt (aCons (cOp oIxA (cBor 1) (cC (.int 20))) aNil)) (cC (.int 2)))) aNil))))))
  (sSeq (sAsg 5 (asVal (cCall f__law_text (aCons (cVar 4) aNil))))
  (sSeq (sIf (cOr (cNot (cTest (cCall f__law_same (aCons (cCall f_bells_text (aCons (cVar 4) aNil)) (aCons (cVar 5) aNil))))) (cNot (cTest (cCall f__law_same (aCons (cCall f_bells_of (aCons (cVar 5) aNil)) (aCons (cVar 4) aNil)))))) (sRet (cC (.bool false))) sNx)
  (sSeq (sAsg 6 (asVal (cM1 oSplit (cVar 5) (cC (.str "; ")))))
  (sSeq (sFor (cIt range1D (aCons (cC (.int 9)) aNil)) (sName 2) b0_law)
  (sSeq (sFor (cItems (cTup (aCons (cC .none) (aCons (cC (.int 5)) (aCons (cTup (aCons (cC (.str "a 0 1")) aNil)) (aCons (cC (.bool true)) aNil)))))) (sName 15) b2_law)
  (sSeq (sIf (cNot (cTest (cBt bAll (aCons (asList (cLc (cItems (cCall f__law_wrongs aNil)) (sName 15) cYes (cCall f__law_refused (aCons (cVar 15) aNil)) [15])) aNil)))) (sRet (cC (.bool false))) sNx)
  (sSeq (sAsg 16 (asVal (cM1 oJoin (cC (.str "; ")) (cOp oMul1 (asList (cLst (aCons (cC (.str "a 0 1")) aNil))) (cC (.int 6))))))
  (sRet (cAndV (cCall f__law_same (aCons (cCall f__law_told (aCons (cOp oAdd (cBor 16) (cC (.str "; a 0 1"))) aNil)) (aCons (cTup (aCons (cC (.str "part")) (aCons (cC (.int 7)) aNil))) aNil))) (cAndV (cCall f__law_same (aCons (cCall f__law_told (aCons (cVar 16) aNil)) (aCons (cTup (aCons (cC (.str "told")) (aCons (cOp oMul1 (cTup (aCons (cTup (aCons (cC (.str "a")) (aCons (cC (.int 0)) (aCons (cC (.int 1)) aNil)))) aNil)) (cC (.int 6))) aNil))) aNil))) (cCall f__law_same (aCons (cCall f__law_told (aCons (cC (.str "")) aNil)) (aCons (cTup (aCons (cC (.str "part")) (aCons (cC (.int 1)) aNil))) aNil))))))))))))))))
def f_law : List D → R D := semOf 18 1 c_law
end DL.K48

/-! M_K48 -/
/-! k48: words and numbers -/
namespace DL.K48
open PySem L2 DL.U TL
theorem k_draws : f__law_draws = Dr.f_dr := rfl
theorem k_whole : f_is_whole = Q.f_is_whole := rfl
structure Tx (t : Str) (n : Nat) : Prop where
  ok : PyData.strOk t = true
  len : t.length ≤ n
theorem tx_ok {t : Str} : PyData.strOk t = true ↔ ∀ c ∈ tl t, c < 1114112 := by
  unfold PyData.strOk
  (rw [← Array.all_toList, List.all_eq_true])
  simp only [decide_eq_true_eq]
theorem txSh {n : Nat} {x : Str} (h : PyData.strOk x = true) : Sh n (.str x) := ⟨by simp [PyData.canLay0, h], by simp [PyData.depth]⟩
theorem txEqv {x y : Str} : PyData.eqv (.str x) (.str y) = (x == y) := by simp [PyData.eqv]
theorem txEq {x y : Str} (h : PyData.strOk x = true) (k : PyData.strOk y = true) : oEq (.str x) (.str y) = some (.bool (x == y)) := by
  rw [oEq_of (n := 0) (m := 0) (txSh h) (txSh k), txEqv]
theorem txNe {x y : Str} (h : PyData.strOk x = true) (k : PyData.strOk y = true) : oNe (.str x) (.str y) = some (.bool (!(x == y))) := by
  rw [oNe_of (n := 0) (m := 0) (txSh h) (txSh k), txEqv]
theorem txLen {x : Str} (h : x.length ≤ 100000) : bLen [.str x] = some (.int (x.length : Nat)) := by
  show (if x.length ≤ 100000 then some (PyData.int x.length) else none) = _
  rw [if_pos h]
/-! ### parts of a text -/
theorem parts_ok {t y : Str} {n : Nat} (h : Tx t n) (hy : tl y ≠ []) (hk : y.cps.all (· < 256) = true) :
    Txt.split t y ≠ [] ∧ (Txt.split t y).length ≤ n + 1 ∧ ∀ p ∈ Txt.split t y, Tx p n := by
  have e := O.split_tl (x := t) hy hk
  have lt : (tl t).length ≤ n := by rw [← len_tl]; exact h.len
  obtain ⟨a, b⟩ := O.spl_sz (tl y) (tl t) 0 []
  refine ⟨fun z => ?_, ?_, fun p hp => ?_⟩
  · rw [z] at e
    exact O.spl_ne _ _ _ _ e.symm
  · have l : ((Txt.split t y).map tl).length = (Txt.split t y).length := List.length_map ..
    rw [e] at l
    omega
  · have m : tl p ∈ spl (tl y) 0 [] (tl t) := by
      rw [← e]
      exact List.mem_map_of_mem hp
    refine ⟨tx_ok.mpr fun c hc => ?_, ?_⟩
    · rcases O.spl_in _ _ _ _ _ m c hc with z | z
      · exact absurd z List.not_mem_nil
      · exact tx_ok.mp h.ok c z
    · have := b _ m
      rw [len_tl]
      simp only [List.length_nil] at this
      omega
def numT (i : Int) : Str := toString i
def isD (c : Nat) : Bool := decide (48 ≤ c) && decide (c ≤ 57)
def valid (w : Str) : Bool := decide (1 ≤ (tl w).length) && (decide ((tl w).length ≤ 3) && ((tl w).all isD && (w == ("0" : Str) || !((tl w).head? == some 48))))
def numD (w : Str) : D := if valid w = true then .int ((PySem.intText? w).getD 0) else .none
theorem num_read {i : Int} (h0 : 0 ≤ i) (h1 : i < 1000) : PySem.intText? (numT i) = some i := PySem.W.KIN.num_reads h0 (by omega)
theorem one_fig : ∀ a : Fin 10, (⟨#[48 + a.val]⟩ : Str) = numT ((a.val : Nat) : Int) := by decide +kernel
theorem two_fig : ∀ a b : Fin 10, a.val ≠ 0 → (⟨#[48 + a.val, 48 + b.val]⟩ : Str) = numT ((10 * a.val + b.val : Nat) : Int) := by decide +kernel
theorem three_fig : ∀ a b c : Fin 10, a.val ≠ 0 → (⟨#[48 + a.val, 48 + b.val, 48 + c.val]⟩ : Str) = numT ((100 * a.val + 10 * b.val + c.val : Nat) : Int) := by decide +kernel
theorem fig_of {c : Nat} (h : isD c = true) : ∃ a : Fin 10, c = 48 + a.val := by
  unfold isD at h
  rw [Bool.and_eq_true, decide_eq_true_eq, decide_eq_true_eq] at h
  exact ⟨⟨c - 48, by omega⟩, by show c = 48 + (c - 48); omega⟩
theorem str_of_tl {w : Str} {cs : List Nat} (h : tl w = cs) : w = ⟨cs.toArray⟩ := ext_tl (by rw [h])
theorem valid_num {w : Str} (h : valid w = true) : ∃ i : Int, 0 ≤ i ∧ i < 1000 ∧ w = numT i := by
  unfold valid at h
  simp only [Bool.and_eq_true, decide_eq_true_eq, Bool.or_eq_true, beq_iff_eq, Bool.not_eq_true'] at h
  obtain ⟨h1, h2, h3, h4⟩ := h
  rcases h4 with rfl | h4
  · exact ⟨0, by decide, by decide, by decide +kernel⟩
  · match e : tl w, h1, h2, h3, h4 with
    | [a], _, _, h3, _ =>
      obtain ⟨x, rfl⟩ := fig_of (List.all_eq_true.mp h3 a (by simp))
      exact ⟨((x.val : Nat) : Int), by omega, by have := x.isLt; omega, (str_of_tl e).trans (one_fig x)⟩
    | [a, b], _, _, h3, h4 =>
      obtain ⟨x, rfl⟩ := fig_of (List.all_eq_true.mp h3 a (by simp))
      obtain ⟨y, rfl⟩ := fig_of (List.all_eq_true.mp h3 b (by simp))
      have hx : x.val ≠ 0 := fun z => by rw [z] at h4; simp at h4
      exact ⟨((10 * x.val + y.val : Nat) : Int), by omega, by have := x.isLt; have := y.isLt; omega, (str_of_tl e).trans (two_fig x y hx)⟩
    | [a, b, c], _, _, h3, h4 =>
      obtain ⟨x, rfl⟩ := fig_of (List.all_eq_true.mp h3 a (by simp))
      obtain ⟨y, rfl⟩ := fig_of (List.all_eq_true.mp h3 b (by simp))
      obtain ⟨z, rfl⟩ := fig_of (List.all_eq_true.mp h3 c (by simp))
      have hx : x.val ≠ 0 := fun z => by rw [z] at h4; simp at h4
      exact ⟨((100 * x.val + 10 * y.val + z.val : Nat) : Int), by omega, by have := x.isLt; have := y.isLt; have := z.isLt; omega, (str_of_tl e).trans (three_fig x y z hx)⟩
theorem valid_small : ∀ a : Fin 121, valid (numT ((a.val : Nat) : Int)) = true := by decide +kernel
theorem num_valid {i : Int} (h0 : 0 ≤ i) (h1 : i ≤ 120) : valid (numT i) = true := by
  have := valid_small ⟨i.toNat, by omega⟩
  rwa [show (((⟨i.toNat, by omega⟩ : Fin 121).val : Nat) : Int) = i from Int.toNat_of_nonneg h0] at this
theorem numD_num {i : Int} (h0 : 0 ≤ i) (h1 : i ≤ 120) : numD (numT i) = .int i := by
  unfold numD
  rw [if_pos (num_valid h0 h1), num_read h0 (by omega)]
  rfl
theorem numD_in {w : Str} {lo hi : Int} (hlo : 0 ≤ lo) (h : Q.isW (numD w) lo hi = true) : ∃ i : Int, lo ≤ i ∧ i ≤ hi ∧ w = numT i ∧ numD w = .int i := by
  unfold numD at h ⊢
  by_cases v : valid w = true
  · rw [if_pos v] at h ⊢
    obtain ⟨i, i0, i1, rfl⟩ := valid_num v
    rw [num_read i0 i1] at h ⊢
    have h : Q.isW (.int i) lo hi = true := h
    simp [Q.isW] at h
    exact ⟨i, h.1, h.2, rfl, rfl⟩
  · rw [if_neg v] at h
    simp [Q.isW] at h
/-! the program's _number -/
theorem in_figs (c : Nat) : oInB (.str ⟨#[c]⟩) (.str "0123456789") = some (.bool (isD c)) := by
  show some (PyData.bool (!(Builtin.Str.occurrences "0123456789" ⟨#[c]⟩ 0 ("0123456789" : Str).length 1).isEmpty)) = _
  rw [StrLaws.found_one]
  have e0 : ("0123456789" : Str).cps.toList = [48, 49, 50, 51, 52, 53, 54, 55, 56, 57] := by decide +kernel
  rw [e0]
  congr 2
  unfold isD
  rw [Bool.eq_iff_iff, Bool.and_eq_true, decide_eq_true_eq, decide_eq_true_eq, decide_eq_true_eq]
  simp only [List.mem_cons, List.not_mem_nil, or_false]
  omega
theorem signs_tl (w : Str) : signsD w = (tl w).map fun c => .str ⟨#[c]⟩ := by
  unfold signsD signsS
  rw [List.map_map]
  rfl
theorem one_sign (c : Nat) : ((⟨#[c]⟩ : Str) == ("0" : Str)) = (some c == some 48) := by
  have e : ("0" : Str) = ⟨#[48]⟩ := by decide +kernel
  rw [e, Bool.eq_iff_iff]
  simp
theorem number_ok {w : Str} {n : Nat} (h : Tx w n) (hn : n ≤ 1000) : f__number [.str w] = .ok (numD w) := by
  have hl := h.len
  have lt : w.length = (tl w).length := len_tl w
  have ln := txLen (x := w) (by omega)
  rw [lt] at ln
  have lc : lcGo (sName 1) cYes (cOp oInB (cBor 1) (cC (.str "0123456789"))) [.val (.str w), .no] (signsD w) = .ok (((tl w).map isD).map .bool) := by
    rw [signs_tl, List.map_map]
    exact lc_mapA _ fun c hc => ⟨_, rfl, rfl, by simp [in_figs]⟩
  have ba := bAll_b (bs := (tl w).map isD)
  have bb : ((tl w).map isD).all id = (tl w).all isD := by rw [List.all_map]; rfl
  rw [bb] at ba
  have ls : (signsD w).length ≤ 100000 := by rw [signs_tl, List.length_map]; omega
  have q0 : oEq (.str w) (.str "0") = some (.bool (w == ("0" : Str))) := txEq h.ok (by decide +kernel)
  have v : valid w = (decide (1 ≤ (tl w).length) && (decide ((tl w).length ≤ 3) && ((tl w).all isD && (w == ("0" : Str) || !((tl w).head? == some 48))))) := rfl
  have iv : valid w = true → bInt [.str w] = some (numD w) := fun z => by
    show (if w.length ≤ 640 then (PySem.intText? w).map fun n => PyData.int n else none) = _
    obtain ⟨i, i0, i1, e⟩ := valid_num z
    have r := num_read i0 i1
    unfold numD
    rw [if_pos z, e, r]
    have l3 : (numT i).length ≤ 640 := by
      rw [← e, lt]
      rw [v] at z
      simp only [Bool.and_eq_true, decide_eq_true_eq] at z
      omega
    rw [if_pos l3]
    rfl
  by_cases c1 : 1 ≤ (tl w).length
  · by_cases c3 : (tl w).length ≤ 3
    · obtain ⟨c0, cr, ec⟩ : ∃ c0 cr, tl w = c0 :: cr := by
        cases z : tl w with
        | nil => rw [z] at c1; exact absurd c1 (by decide)
        | cons a b => exact ⟨a, b, rfl⟩
      have ix : oIxA (.str w) (.int 0) = some (.str ⟨#[c0]⟩) := by
        show (if w.length ≤ 100000 then (atI w.cps.toList 0).map fun c => PyData.str ⟨#[c]⟩ else none) = _
        rw [if_pos (by omega)]
        have e : w.cps.toList = c0 :: cr := ec
        rw [e, Q.atI0]
        rfl
      have ok0 : PyData.strOk (⟨#[c0]⟩ : Str) = true := tx_ok.mpr fun c hc => tx_ok.mp h.ok c (by
        rw [ec]
        have : tl (⟨#[c0]⟩ : Str) = [c0] := rfl
        rw [this] at hc
        rw [List.mem_singleton.mp hc]
        exact List.mem_cons_self)
      have n0 : oNe (.str ⟨#[c0]⟩) (.str "0") = some (.bool (!((tl w).head? == some 48))) := by
        rw [txNe ok0 (by decide +kernel), one_sign, ec]
        rfl
      have g1 : (1 : Int) ≤ ((tl w).length : Int) := by omega
      have g3 : ((tl w).length : Int) ≤ 3 := by omega
      rw [decide_eq_true c1, decide_eq_true c3, Bool.true_and, Bool.true_and] at v
      have nv : valid w = false → numD w = .none := fun z => by unfold numD; rw [z]; rfl
      generalize ((tl w).map isD).map PyData.bool = FF at *
      generalize (tl w).all isD = q1 at *
      generalize (w == ("0" : Str)) = q2 at *
      generalize (!((tl w).head? == some 48)) = q3 at *
      generalize numD w = ND at *
      generalize (tl w).length = len at *
      cases q1
      · have e := nv (by rw [v]; rfl)
        simp [f__number, semOf, c__number, ln, g1, g3, wipeR, lc, ls, ba, e]
      · cases q2
        · cases q3
          · have e := nv (by rw [v]; rfl)
            simp [f__number, semOf, c__number, ln, g1, g3, wipeR, lc, ls, ba, q0, ix, n0, e]
          · have e := iv (by rw [v]; rfl)
            simp [f__number, semOf, c__number, ln, g1, g3, wipeR, lc, ls, ba, q0, ix, n0, e]
        · have e := iv (by rw [v]; rfl)
          simp [f__number, semOf, c__number, ln, g1, g3, wipeR, lc, ls, ba, q0, e]
    · have e : numD w = .none := by
        unfold numD
        rw [v, decide_eq_false c3]
        simp
      have g1 : (1 : Int) ≤ ((tl w).length : Int) := by omega
      have g3 : ¬ ((tl w).length : Int) ≤ 3 := by omega
      generalize numD w = ND at *
      generalize (tl w).length = len at *
      simp [f__number, semOf, c__number, ln, g1, g3, e]
  · have e : numD w = .none := by
      unfold numD
      rw [v, decide_eq_false c1]
      simp
    have g1 : ¬ (1 : Int) ≤ ((tl w).length : Int) := by omega
    generalize numD w = ND at *
    generalize (tl w).length = len at *
    simp [f__number, semOf, c__number, ln, g1, e]
end DL.K48


/-! k48: parts -/
namespace DL.K48
open PySem L2 DL.U TL
open DL.B (Bl bd bt Be Bs Wr)
theorem k_isbell : f_is_bell = B.f_is_bell := rfl
theorem k_bells : f_are_bells = B.f_are_bells := rfl
theorem k_check : f_check_bells = B.f_check_bells := rfl
theorem k_lbells : f__law_bells = B.f__law_bells := rfl
theorem k_wrongs : f__law_wrongs = B.f__law_wrongs := rfl
theorem k_same : f__law_same = B.f__law_same := rfl
def wds (p : Str) : List Str := Txt.split p " "
def prts (t : Str) : List Str := Txt.split t "; "
theorem wds_ok {p : Str} {n : Nat} (h : Tx p n) : wds p ≠ [] ∧ (wds p).length ≤ n + 1 ∧ ∀ w ∈ wds p, Tx w n := parts_ok h (by decide +kernel) (by decide +kernel)
theorem prts_ok {p : Str} {n : Nat} (h : Tx p n) : prts p ≠ [] ∧ (prts p).length ≤ n + 1 ∧ ∀ w ∈ prts p, Tx w n := parts_ok h (by decide +kernel) (by decide +kernel)
theorem split_w {p : Str} {n : Nat} (h : Tx p n) (hn : n ≤ 1000) : oSplit (.str p) (.str " ") = some (.list ((wds p).map .str)) := by
  have := h.len
  rw [oSplit_s, if_pos ⟨by decide +kernel, by omega⟩]
  rfl
theorem split_p {p : Str} {n : Nat} (h : Tx p n) (hn : n ≤ 1000) : oSplit (.str p) (.str "; ") = some (.list ((prts p).map .str)) := by
  have := h.len
  rw [oSplit_s, if_pos ⟨by decide +kernel, by omega⟩]
  rfl
/-! ### tones -/
def tones : List Str := ["a", "b", "c", "d", "e", "f", "g", "h"]
def toneL : List Nat → Bool
  | [c] => decide (97 ≤ c) && decide (c ≤ 104)
  | _ => false
def toneB (w : Str) : Bool := toneL (tl w)
theorem tone_fig : ∀ a : Fin 8, (⟨#[97 + a.val]⟩ : Str) ∈ tones := by decide +kernel
theorem tones_b : ∀ w ∈ tones, toneB w = true := by decide +kernel
theorem tone_mem {w : Str} (h : toneB w = true) : w ∈ tones := by
  unfold toneB at h
  match e : tl w, h with
  | [c], h =>
    have h' : 97 ≤ c ∧ c ≤ 104 := by simpa [toneL] using h
    have f := tone_fig ⟨c - 97, by omega⟩
    have z : 97 + (c - 97) = c := by omega
    have f : (⟨#[97 + (c - 97)]⟩ : Str) ∈ tones := f
    rw [z] at f
    rw [str_of_tl e]
    exact f
theorem tone_any (w : Str) : (tones.any fun z => z == w) = toneB w := by
  rw [Bool.eq_iff_iff, List.any_eq_true]
  constructor
  · rintro ⟨z, hz, e⟩
    rw [← beq_iff_eq.mp e]
    exact tones_b z hz
  · intro h
    exact ⟨w, tone_mem h, by simp⟩
theorem signs_tones : signsD "abcdefgh" = tones.map .str := by
  have e : signsS "abcdefgh" = tones := by decide +kernel
  unfold signsD
  rw [e]
theorem sh_strs {l : List Str} (h : ∀ w ∈ l, PyData.strOk w = true) : SeqAt.shaped (PyData.list (l.map PyData.str)) = true := (sh_lst (n := 0) fun d hd => by
  obtain ⟨i, hi, rfl⟩ := List.mem_map.mp hd
  exact txSh (h i hi)).ok
theorem notin_strs {l : List Str} {w : Str} (h : ∀ w ∈ l, PyData.strOk w = true) (k : PyData.strOk w = true) : oNotInB (.str w) (.list (l.map .str)) = some (.bool (!(l.any fun z => z == w))) := by
  show oNotIn (.str w) (.list (l.map .str)) = _
  unfold oNotIn
  simp only []
  rw [if_pos ⟨(txSh (n := 0) k).ok, sh_strs h⟩, List.any_map]
  congr 4
theorem law_tone {w : Str} (k : PyData.strOk w = true) : oNotInB (.str w) (.list (signsD "abcdefgh")) = some (.bool (!toneB w)) := by
  rw [signs_tones, notin_strs (by decide +kernel) k, tone_any]
/-- a bell's tone, as the program looks at it -/
theorem len_one {w : Str} (h : w.length ≤ 1000) : bLen [.str w] = some (.int (w.length : Nat)) := txLen (by omega)
theorem tone_in {c : Nat} : oNotInB (.str ⟨#[c]⟩) (.str "abcdefgh") = some (.bool (!toneB ⟨#[c]⟩)) := by
  show some (PyData.bool (!(!(Builtin.Str.occurrences "abcdefgh" ⟨#[c]⟩ 0 ("abcdefgh" : Str).length 1).isEmpty))) = _
  rw [StrLaws.found_one]
  have e0 : ("abcdefgh" : Str).cps.toList = [97, 98, 99, 100, 101, 102, 103, 104] := by decide +kernel
  rw [e0]
  have t : toneB ⟨#[c]⟩ = (decide (97 ≤ c) && decide (c ≤ 104)) := rfl
  rw [t]
  congr 3
  rw [Bool.eq_iff_iff, Bool.and_eq_true, decide_eq_true_eq, decide_eq_true_eq, decide_eq_true_eq]
  simp only [List.mem_cons, List.not_mem_nil, or_false]
  omega
theorem bell_gen {w : Str} {d1 d2 : D} (h : w.length ≤ 1000) : f_is_bell [.tuple [.str w, d1, d2]] = .ok (.bool (toneB w && (Q.isW d1 0 120 && Q.isW d2 1 60))) := by
  have a0 : oIxA (.tuple [.str w, d1, d2]) (.int 0) = some (.str w) := rfl
  have a1 : oIxA (.tuple [.str w, d1, d2]) (.int 1) = some d1 := rfl
  have a2 : oIxA (.tuple [.str w, d1, d2]) (.int 2) = some d2 := rfl
  have ll : bLen [.tuple [.str w, d1, d2]] = some (.int 3) := rfl
  have it : isTupleD (.tuple [.str w, d1, d2]) = true := rfl
  have ln := len_one h
  have w1 := Q.is_whole_ok d1 0 120
  have w2 := Q.is_whole_ok d2 1 60
  rw [← k_whole] at w1 w2
  have n3 : oNe (.int 3) (.int 3) = some (.bool false) := by rw [oNe_ii]; rfl
  by_cases c : w.length = 1
  · obtain ⟨k, hk⟩ : ∃ k, w = ⟨#[k]⟩ := by
      obtain ⟨⟨cs⟩⟩ := w
      match cs, c with
      | [k], _ => exact ⟨k, rfl⟩
    have ti := tone_in (c := k)
    rw [← hk] at ti
    rw [c] at ln
    have ln : bLen [.str w] = some (.int 1) := ln
    have n1 : oNe (.int 1) (.int 1) = some (.bool false) := by rw [oNe_ii]; rfl
    generalize PyData.tuple [.str w, d1, d2] = T at *
    generalize toneB w = q at *
    generalize Q.isW d1 0 120 = q1 at *
    generalize Q.isW d2 1 60 = q2 at *
    cases q
    · simp [-oNe_ii, -oIxA_t, f_is_bell, semOf, c_is_bell, it, ll, n3, a0, ln, n1, ti]
    · cases q1
      · simp [-oNe_ii, -oIxA_t, f_is_bell, semOf, c_is_bell, it, ll, n3, a0, a1, a2, ln, n1, ti, w1]
      · simp [-oNe_ii, -oIxA_t, f_is_bell, semOf, c_is_bell, it, ll, n3, a0, a1, a2, ln, n1, ti, w1, w2]
  · have t : toneB w = false := by
      unfold toneB
      have l : (tl w).length ≠ 1 := by rw [← len_tl]; exact c
      match e : tl w, l with
      | [], _ => rfl
      | [_], l => exact absurd rfl l
      | _ :: _ :: _, _ => rfl
    have n1 : oNe (.int (w.length : Int)) (.int 1) = some (.bool true) := by rw [oNe_ii, decide_eq_false (by omega)]; rfl
    rw [t, Bool.false_and]
    generalize PyData.tuple [.str w, d1, d2] = T at *
    simp [-oNe_ii, -oIxA_t, f_is_bell, semOf, c_is_bell, it, ll, a0, ln, n1, n3]
theorem one_bell {x : D} {b : Bool} (h : f_is_bell [x] = .ok (.bool b)) : f_are_bells [.tuple [x]] = .ok (.bool b) := by
  have ba : bAll [.list [.bool b]] = some (.bool b) := by cases b <;> rfl
  simp [f_are_bells, semOf, c_are_bells, isTupleD, wipeR, lcGo_cons, h, ba]
/-! ### the bell of a part -/
def ival : D → Int
  | .int i => i
  | _ => 0
def bellL : List Str → Option Bl
  | [w0, w1, w2] => if (toneB w0 && (Q.isW (numD w1) 0 120 && Q.isW (numD w2) 1 60)) = true then some (w0, ival (numD w1), ival (numD w2)) else none
  | _ => none
def bellR (p : Str) : Option Bl := bellL (wds p)
def bellO : Option Bl → D
  | some x => bd x
  | none => .none
theorem three_of {xs : List Str} (h : xs.length = 3) : ∃ a b c, xs = [a, b, c] := by
  match xs, h with
  | [a, b, c], _ => exact ⟨a, b, c, rfl⟩
theorem bellL_no {xs : List Str} (h : xs.length ≠ 3) : bellL xs = none := by
  match xs, h with
  | [], _ => rfl
  | [_], _ => rfl
  | [_, _], _ => rfl
  | [_, _, _], h => exact absurd rfl h
  | _ :: _ :: _ :: _ :: _, _ => rfl
theorem bellL_some {w0 w1 w2 : Str} (h : (toneB w0 && (Q.isW (numD w1) 0 120 && Q.isW (numD w2) 1 60)) = true) : ∃ i j : Int, 0 ≤ i ∧ i ≤ 120 ∧ 1 ≤ j ∧ j ≤ 60 ∧ w1 = numT i ∧ w2 = numT j ∧ numD w1 = .int i ∧ numD w2 = .int j ∧ bellL [w0, w1, w2] = some (w0, i, j) := by
  have e : bellL [w0, w1, w2] = some (w0, ival (numD w1), ival (numD w2)) := if_pos h
  rw [Bool.and_eq_true, Bool.and_eq_true] at h
  obtain ⟨i, i0, i1, h1, n1⟩ := numD_in (by decide) h.2.1
  obtain ⟨j, j0, j1, h2, n2⟩ := numD_in (by decide) h.2.2
  refine ⟨i, j, i0, i1, j0, j1, h1, h2, n1, n2, ?_⟩
  rw [e, n1, n2]
  rfl
def st0_c__bell : Env → Out := (sAsg 1 (asVal (cM1 oSplit (cVar 0) (cC (.str " ")))))
def st1_c__bell : Env → Out := (sIf (cTest (cOp oNe (cBt bLen (aCons (cBor 1) aNil)) (cC (.int 3)))) (sRet (cC .none)) sNx)
def st2_c__bell : Env → Out := (sAsg 2 (asVal (cTup (aCons (cOp oIxA (cBor 1) (cC (.int 0))) (aCons (cCall f__number (aCons (cOp oIxA (cBor 1) (cC (.int 1))) aNil)) (aCons (cCall f__number (aCons (cOp oIxA (cBor 1) (cC (.int 2))) aNil)) aNil))))))
def st3_c__bell : Env → Out := (sRet (cIf (cTest (cCall f_are_bells (aCons (cTup (aCons (cVar 2) aNil)) aNil))) (cVar 2) (cC .none)))
theorem eq_c__bell : c__bell = (sSeq st0_c__bell (sSeq st1_c__bell (sSeq st2_c__bell st3_c__bell))) := rfl

def st0_c__law_bell : Env → Out := (sAsg 1 (asVal (cM1 oSplit (cVar 0) (cC (.str " ")))))
def st1_c__law_bell : Env → Out := (sIf (cOr (cTest (cOp oNe (cBt bLen (aCons (cBor 1) aNil)) (cC (.int 3)))) (cTest (cOp oNotInB (cOp oIxA (cBor 1) (cC (.int 0))) (cBt bListS (aCons (cC (.str "abcdefgh")) aNil))))) (sRet (cC .none)) sNx)
def st2_c__law_bell : Env → Out := (sPar 2 3 (asVal (asList (cLc (cIt range1D (aCons (cC (.int 121)) aNil)) (sName 4) cYes (cBt bStr (aCons (cBor 4) aNil)) [4]))) (asVal (asList (cLc (cIt range2D (aCons (cC (.int 1)) (aCons (cC (.int 61)) aNil))) (sName 4) cYes (cBt bStr (aCons (cBor 4) aNil)) [4]))))
def st3_c__law_bell : Env → Out := (sIf (cOr (cTest (cOp oNotInB (cOp oIxA (cBor 1) (cC (.int 1))) (cBor 2))) (cTest (cOp oNotInB (cOp oIxA (cBor 1) (cC (.int 2))) (cBor 3)))) (sRet (cC .none)) sNx)
def st4_c__law_bell : Env → Out := (sRet (cTup (aCons (cOp oIxA (cBor 1) (cC (.int 0))) (aCons (cMt mIndexL (cBor 2) (aCons (cOp oIxA (cBor 1) (cC (.int 1))) aNil)) (aCons (cOp oAdd (cMt mIndexL (cBor 3) (aCons (cOp oIxA (cBor 1) (cC (.int 2))) aNil)) (cC (.int 1))) aNil)))))
theorem eq_c__law_bell : c__law_bell = (sSeq st0_c__law_bell (sSeq st1_c__law_bell (sSeq st2_c__law_bell (sSeq st3_c__law_bell st4_c__law_bell)))) := rfl

section
variable {p : Str} {n : Nat}
theorem bell_ok (h : Tx p n) (hn : n ≤ 1000) : f__bell [.str p] = .ok (bellO (bellR p)) := by
  have sp := split_w h hn
  obtain ⟨a, b, c⟩ := wds_ok h
  have e0 : st0_c__bell [.val (.str p), .no, .no] = .nx [.val (.str p), .val (.list ((wds p).map .str)), .no] := by
    generalize (wds p).map PyData.str = XX at *
    simp [st0_c__bell, sp]
  have br : bellR p = bellL (wds p) := rfl
  rw [br]
  generalize wds p = xs at *
  show toR (c__bell [.val (.str p), .no, .no]) = _
  rw [eq_c__bell, nx_of e0]
  by_cases l3 : xs.length = 3
  · obtain ⟨w0, w1, w2, rfl⟩ := three_of l3
    have n1 := number_ok (c w1 (by simp)) hn
    have n2 := number_ok (c w2 (by simp)) hn
    have g := one_bell (bell_gen (w := w0) (d1 := numD w1) (d2 := numD w2) (by have := (c w0 (by simp)).len; omega))
    have a0 : oIxA (.list [.str w0, .str w1, .str w2]) (.int 0) = some (.str w0) := rfl
    have a1 : oIxA (.list [.str w0, .str w1, .str w2]) (.int 1) = some (.str w1) := rfl
    have a2 : oIxA (.list [.str w0, .str w1, .str w2]) (.int 2) = some (.str w2) := rfl
    have ll : bLen [.list [.str w0, .str w1, .str w2]] = some (.int 3) := rfl
    have mm : ([w0, w1, w2] : List Str).map PyData.str = [.str w0, .str w1, .str w2] := rfl
    rw [mm]
    have res : bellO (bellL [w0, w1, w2]) = if (toneB w0 && (Q.isW (numD w1) 0 120 && Q.isW (numD w2) 1 60)) = true then .tuple [.str w0, numD w1, numD w2] else .none := by
      by_cases q : (toneB w0 && (Q.isW (numD w1) 0 120 && Q.isW (numD w2) 1 60)) = true
      · obtain ⟨i, j, _, _, _, _, _, _, m1, m2, e⟩ := bellL_some q
        rw [if_pos q, e, m1, m2]
        rfl
      · have e : bellL [w0, w1, w2] = none := if_neg q
        rw [if_neg q, e]
        rfl
    rw [res]
    generalize (toneB w0 && (Q.isW (numD w1) 0 120 && Q.isW (numD w2) 1 60)) = q at *
    generalize numD w1 = N1 at *
    generalize numD w2 = N2 at *
    generalize PyData.list [.str w0, .str w1, .str w2] = LL at *
    cases q <;> simp [-oIxA_l, st1_c__bell, st2_c__bell, st3_c__bell, ll, a0, a1, a2, n1, n2, g]
  · rw [bellL_no l3]
    have ne : ¬ ((xs.length : Int) = 3) := by omega
    have ll : bLen [.list (xs.map .str)] = some (.int (xs.length : Int)) := by simp
    generalize PyData.list (xs.map .str) = LL at *
    simp [st1_c__bell, ll, ne, bellO]
end
/-! ### the law's -/
def firsts : List Str := (rg 0 121).map numT
def everies : List Str := (rg 1 60).map numT
theorem firsts_ok : ∀ w ∈ firsts, PyData.strOk w = true := by decide +kernel
theorem everies_ok : ∀ w ∈ everies, PyData.strOk w = true := by decide +kernel
theorem firsts_ix : ∀ a : Fin 121, firsts.idxOf (numT ((a.val : Nat) : Int)) = a.val := by decide +kernel
theorem everies_ix : ∀ a : Fin 60, everies.idxOf (numT ((a.val + 1 : Nat) : Int)) = a.val := by decide +kernel
theorem first_at {i : Int} (h0 : 0 ≤ i) (h1 : i ≤ 120) : (firsts.idxOf (numT i) : Int) = i := by
  have := firsts_ix ⟨i.toNat, by omega⟩
  rw [show (((⟨i.toNat, by omega⟩ : Fin 121).val : Nat) : Int) = i from Int.toNat_of_nonneg h0] at this
  rw [this]
  exact Int.toNat_of_nonneg h0
theorem every_at {i : Int} (h0 : 1 ≤ i) (h1 : i ≤ 60) : (everies.idxOf (numT i) : Int) + 1 = i := by
  have := everies_ix ⟨(i - 1).toNat, by omega⟩
  have z : (((i - 1).toNat + 1 : Nat) : Int) = i := by omega
  have this : everies.idxOf (numT (((i - 1).toNat + 1 : Nat) : Int)) = (i - 1).toNat := this
  rw [z] at this
  rw [this]
  omega
theorem in_firsts (w : Str) : (firsts.any fun z => z == w) = Q.isW (numD w) 0 120 := by
  rw [Bool.eq_iff_iff, List.any_eq_true]
  constructor
  · rintro ⟨z, hz, e⟩
    obtain ⟨i, hi, rfl⟩ := List.mem_map.mp hz
    have hi := mem_rg.mp hi
    rw [← beq_iff_eq.mp e, numD_num hi.1 (by omega)]
    simp [Q.isW]
    omega
  · intro h
    obtain ⟨i, i0, i1, rfl, _⟩ := numD_in (by decide) h
    exact ⟨numT i, List.mem_map_of_mem (mem_rg.mpr ⟨i0, by omega⟩), by simp⟩
theorem in_everies (w : Str) : (everies.any fun z => z == w) = Q.isW (numD w) 1 60 := by
  rw [Bool.eq_iff_iff, List.any_eq_true]
  constructor
  · rintro ⟨z, hz, e⟩
    obtain ⟨i, hi, rfl⟩ := List.mem_map.mp hz
    have hi := mem_rg.mp hi
    rw [← beq_iff_eq.mp e, numD_num (by omega) (by omega)]
    simp [Q.isW]
    omega
  · intro h
    obtain ⟨i, i0, i1, rfl, _⟩ := numD_in (by decide) h
    exact ⟨numT i, List.mem_map_of_mem (mem_rg.mpr ⟨i0, by omega⟩), by simp⟩
theorem idx_str : ∀ (l : List Str) (w : Str), w ∈ l → idxD (l.map .str) (.str w) = some (l.idxOf w)
  | [], w, h => by cases h
  | y :: l, w, h => by
    rw [List.map_cons]
    unfold idxD
    by_cases e : y = w
    · subst e
      rw [if_pos (by simp [PyData.eqv])]
      simp
    · have e2 : ¬ PyData.eqv (.str y) (.str w) = true := by simp [PyData.eqv, e]
      have h' : w ∈ l := by
        rcases (List.mem_cons.mp h) with z | z
        · exact absurd z.symm e
        · exact z
      rw [if_neg e2, idx_str l w h', List.idxOf_cons]
      have : (y == w) = false := by simp [e]
      rw [this]
      rfl
theorem index_str {l : List Str} {w : Str} (h : ∀ z ∈ l, PyData.strOk z = true) (k : w ∈ l) : mIndexL (.list (l.map .str)) [.str w] = some (.int (l.idxOf w : Nat)) := by
  show (if SeqAt.shaped (.list (l.map .str)) = true ∧ SeqAt.shaped (.str w) = true then (idxD (l.map .str) (.str w)).map (fun j => PyData.int (j : Nat)) else none) = _
  rw [if_pos ⟨sh_strs h, (txSh (n := 0) (h w k)).ok⟩, idx_str l w k]
  rfl
theorem str_num {i : Int} (h0 : 0 ≤ i) (h1 : i ≤ 121) : bStr [.int i] = some (.str (numT i)) := by
  show (if i.natAbs.log2 < 1920 then some (PyData.str (toString i)) else none) = _
  rw [if_pos (B.log_i (by omega))]
  rfl
theorem nums_lc {a : Int} {m : Nat} (ha : 0 ≤ a) (hb : a + m ≤ 122) {ρ : Env} {i : Nat} (hi : i < ρ.length) : lcGo (sName i) cYes (cBt bStr (aCons (cBor i) aNil)) ρ ((rg a m).map .int) = .ok (((rg a m).map numT).map .str) := by
  rw [List.map_map]
  refine lc_mapA _ fun k hk => ⟨_, rfl, rfl, ?_⟩
  have hk := mem_rg.mp hk
  have g : (ρ.set i (.val (.int k)))[i]? = some (.val (.int k)) := List.getElem?_set_self hi
  simp [-getElem?_pos, -List.getElem?_set_self, g, str_num (i := k) (by omega) (by omega)]
section
variable {p : Str} {n : Nat}
theorem law_bell_ok (h : Tx p n) (hn : n ≤ 1000) : f__law_bell [.str p] = .ok (bellO (bellR p)) := by
  have sp := split_w h hn
  obtain ⟨a, b, c⟩ := wds_ok h
  have e0 : st0_c__law_bell [.val (.str p), .no, .no, .no, .no] = .nx [.val (.str p), .val (.list ((wds p).map .str)), .no, .no, .no] := by
    generalize (wds p).map PyData.str = XX at *
    simp [st0_c__law_bell, sp]
  have br : bellR p = bellL (wds p) := rfl
  rw [br]
  generalize wds p = xs at *
  show toR (c__law_bell [.val (.str p), .no, .no, .no, .no]) = _
  rw [eq_c__law_bell, nx_of e0]
  have lt : bListS [.str "abcdefgh"] = some (.list (signsD "abcdefgh")) := rfl
  by_cases l3 : xs.length = 3
  · obtain ⟨w0, w1, w2, rfl⟩ := three_of l3
    have o1 := (c w1 (by simp)).ok
    have o2 := (c w2 (by simp)).ok
    have tn := law_tone (c w0 (by simp)).ok
    have a0 : oIxA (.list [.str w0, .str w1, .str w2]) (.int 0) = some (.str w0) := rfl
    have a1 : oIxA (.list [.str w0, .str w1, .str w2]) (.int 1) = some (.str w1) := rfl
    have a2 : oIxA (.list [.str w0, .str w1, .str w2]) (.int 2) = some (.str w2) := rfl
    have ll : bLen [.list [.str w0, .str w1, .str w2]] = some (.int 3) := rfl
    have mm : ([w0, w1, w2] : List Str).map PyData.str = [.str w0, .str w1, .str w2] := rfl
    rw [mm]
    by_cases qt : toneB w0 = true
    · rw [qt] at tn
      have e1 : st1_c__law_bell [.val (.str p), .val (.list [.str w0, .str w1, .str w2]), .no, .no, .no] = .nx [.val (.str p), .val (.list [.str w0, .str w1, .str w2]), .no, .no, .no] := by
        generalize signsD "abcdefgh" = SG at *
        generalize PyData.list [.str w0, .str w1, .str w2] = LL at *
        simp [-oIxA_l, -bListS_s, st1_c__law_bell, ll, a0, lt, tn]
      have r1 : range1D [.int 121] = some ((rg 0 121).map .int) := range1_rg 121 (by decide)
      have r2 : range2D [.int 1, .int 61] = some ((rg 1 60).map .int) := range2_rg 1 61 (by decide)
      have f1 := nums_lc (a := 0) (m := 121) (by decide) (by decide) (ρ := [.val (.str p), .val (.list [.str w0, .str w1, .str w2]), .no, .no, .no]) (i := 4) (by simp)
      have f2 := nums_lc (a := 1) (m := 60) (by decide) (by decide) (ρ := [.val (.str p), .val (.list [.str w0, .str w1, .str w2]), .no, .no, .no]) (i := 4) (by simp)
      have k1 : ((rg 0 121).map PyData.int).length ≤ 100000 := by decide
      have k2 : ((rg 1 60).map PyData.int).length ≤ 100000 := by decide
      have e2 : st2_c__law_bell [.val (.str p), .val (.list [.str w0, .str w1, .str w2]), .no, .no, .no] = .nx [.val (.str p), .val (.list [.str w0, .str w1, .str w2]), .val (.list (firsts.map .str)), .val (.list (everies.map .str)), .no] := by
        have d1 : firsts = (rg 0 121).map numT := rfl
        have d2 : everies = (rg 1 60).map numT := rfl
        rw [d1, d2]
        generalize ((rg 0 121).map numT).map PyData.str = F1 at *
        generalize ((rg 1 60).map numT).map PyData.str = F2 at *
        generalize (rg 0 121).map PyData.int = R1 at *
        generalize (rg 1 60).map PyData.int = R2 at *
        generalize PyData.list [.str w0, .str w1, .str w2] = LL at *
        simp [-range1_i, st2_c__law_bell, r1, r2, wipeR, f1, f2, k1, k2]
      rw [nx_of e1, nx_of e2]
      have q1 := notin_strs firsts_ok o1
      have q2 := notin_strs everies_ok o2
      rw [in_firsts] at q1
      rw [in_everies] at q2
      by_cases g : (Q.isW (numD w1) 0 120 && Q.isW (numD w2) 1 60) = true
      · obtain ⟨i, j, i0, i1, j0, j1, h1, h2, _, _, e⟩ := bellL_some (w0 := w0) (w1 := w1) (w2 := w2) (by rw [qt, Bool.true_and]; exact g)
        rw [Bool.and_eq_true] at g
        rw [g.1] at q1
        rw [g.2] at q2
        have m1 := index_str (w := w1) firsts_ok (by rw [h1]; exact List.mem_map_of_mem (mem_rg.mpr ⟨i0, by omega⟩))
        have m2 := index_str (w := w2) everies_ok (by rw [h2]; exact List.mem_map_of_mem (mem_rg.mpr ⟨j0, by omega⟩))
        have v1 : ((firsts.idxOf w1 : Nat) : Int) = i := by rw [h1]; exact first_at i0 i1
        have v2 : ((everies.idxOf w2 : Nat) : Int) + 1 = j := by rw [h2]; exact every_at j0 j1
        rw [v1] at m1
        rw [e]
        have res : bellO (some (w0, i, j)) = .tuple [.str w0, .int i, .int j] := rfl
        rw [res]
        generalize ((everies.idxOf w2 : Nat) : Int) = jj at *
        generalize firsts.map PyData.str = F1 at *
        generalize everies.map PyData.str = F2 at *
        have z1 : lstB (.list F1) = true := rfl
        have z2 : lstB (.list F2) = true := rfl
        generalize PyData.list F1 = L1 at *
        generalize PyData.list F2 = L2 at *
        generalize PyData.list [.str w0, .str w1, .str w2] = LL at *
        simp [-oIxA_l, st3_c__law_bell, st4_c__law_bell, a0, a1, a2, q1, q2, z1, z2, m1, m2, v2]
      · have e : bellL [w0, w1, w2] = none := if_neg (by rw [qt, Bool.true_and]; exact g)
        rw [e]
        generalize Q.isW (numD w1) 0 120 = b1 at *
        generalize Q.isW (numD w2) 1 60 = b2 at *
        generalize PyData.list (firsts.map PyData.str) = F1 at *
        generalize PyData.list (everies.map PyData.str) = F2 at *
        generalize PyData.list [.str w0, .str w1, .str w2] = LL at *
        cases b1
        · simp [-oIxA_l, st3_c__law_bell, a1, q1, bellO]
        · cases b2
          · simp [-oIxA_l, st3_c__law_bell, a1, a2, q1, q2, bellO]
          · exact absurd rfl g
    · have qt : toneB w0 = false := by simpa using qt
      have e : bellL [w0, w1, w2] = none := if_neg (by rw [qt, Bool.false_and]; decide)
      rw [qt] at tn
      rw [e]
      generalize signsD "abcdefgh" = SG at *
      generalize PyData.list [.str w0, .str w1, .str w2] = LL at *
      simp [-oIxA_l, -bListS_s, st1_c__law_bell, ll, a0, lt, tn, bellO]
  · rw [bellL_no l3]
    have ne : ¬ ((xs.length : Int) = 3) := by omega
    have ll : bLen [.list (xs.map .str)] = some (.int (xs.length : Int)) := by simp
    generalize PyData.list (xs.map .str) = LL at *
    simp [st1_c__law_bell, ll, ne, bellO]
end
end DL.K48


/-! k48: texts -/
namespace DL.K48
open PySem L2 DL.U TL
open DL.B (Bl bd bt Be Bs Wr)
def bellD (p : Str) : D := bellO (bellR p)
def badP (p : Str) (k : Nat) : Bool := isNone (bellD p) || decide (5 < k)
/-- the first part at fault, from the k-th on -/
def fst : List Str → Nat → Option Nat
  | [], _ => none
  | p :: r, k => if badP p k = true then some (k + 1) else fst r (k + 1)
def st0_b0_bells_of : Env → Out := (sAsg 4 (asVal (cCall f__bell (aCons (cVar 3) aNil))))
def st1_b0_bells_of : Env → Out := (sIf (cOr (cTest (cOp oIs (cBor 4) (cC .none))) (cTest (cOp oGe (cBor 2) (cC (.int 6))))) (sRaiseA "BadText" "part" (cOp oAdd (cBor 2) (cC (.int 1)))) sNx)
def st2_b0_bells_of : Env → Out := (sApp 1 (cVar 4))
theorem eq_b0_bells_of : b0_bells_of = (sSeq st0_b0_bells_of (sSeq st1_b0_bells_of st2_b0_bells_of)) := rfl

section
variable {p : Str} {n k : Nat} {x0 x1 x2 x3 x4 : SV} {acc : List D}
theorem of_0 (h : Tx p n) (hn : n ≤ 1000) : st0_b0_bells_of [x0, x1, x2, .val (.str p), x4] = .nx [x0, x1, x2, .val (.str p), .val (bellD p)] := by
  have e := bell_ok h hn
  have d : bellO (bellR p) = bellD p := rfl
  rw [d] at e
  generalize bellD p = R at *
  simp [st0_b0_bells_of, e]
theorem of_1 (hk : k ≤ 6) : ∃ ρ, st1_b0_bells_of [x0, x1, .val (.int k), x3, .val (bellD p)] = if badP p k = true then .ex ⟨"BadText", [("part", .int ((k + 1 : Nat) : Int))]⟩ ρ else .nx [x0, x1, .val (.int k), x3, .val (bellD p)] := by
  refine ⟨[x0, x1, .val (.int k), x3, .val (bellD p)], ?_⟩
  have gk : oGe (.int (k : Int)) (.int 6) = some (.bool (decide (5 < k))) := by
    rw [oGe_ii]
    congr 2
    rw [decide_eq_decide]
    omega
  have na : ((k : Int) + 1).natAbs < 1000 := by omega
  have b : badP p k = (isNone (bellD p) || decide (5 < k)) := rfl
  rw [b]
  generalize decide (5 < k) = q at *
  generalize hi : isNone (bellD p) = i at *
  generalize bellD p = T at *
  cases i <;> cases q <;> simp [-oGe_ii, st1_b0_bells_of, gk, hi, na]
theorem of_2 (hl : acc.length < 100000) : st2_b0_bells_of [x0, .own acc, x2, x3, .val (bellD p)] = .nx [x0, .own (acc ++ [bellD p]), x2, x3, .val (bellD p)] := by
  generalize bellD p = T at *
  simp [st2_b0_bells_of, hl]
theorem of_loop (hn : n ≤ 1000) : ∀ (r : List Str) (k : Nat) (acc : List D) (x2 x3 x4 : SV), (∀ p ∈ r, Tx p n) → k ≤ 6 → acc.length = k →
    (∃ ρ y2 y3 y4, forLoop (sTup (sCons (sName 2) (sCons (sName 3) sNil))) b0_bells_of (enumD k (r.map .str)) [x0, .own acc, x2, x3, x4] = match fst r k with
      | some j => .ex ⟨"BadText", [("part", .int (j : Nat))]⟩ ρ
      | none => .nx [x0, .own (acc ++ r.map bellD), y2, y3, y4])
  | [], k, acc, x2, x3, x4, _, _, _ => ⟨[], x2, x3, x4, by simp [fst, enumD, for_nil]⟩
  | p :: r, k, acc, x2, x3, x4, h, hk, hl => by
    have e0 := of_0 (x0 := x0) (x1 := .own acc) (x2 := .val (.int k)) (x4 := x4) (h p List.mem_cons_self) hn
    obtain ⟨ρ, e1⟩ := of_1 (p := p) (x0 := x0) (x1 := .own acc) (x3 := .val (.str p)) hk
    have ec : enumD k ((p :: r).map .str) = .tuple [.int (k : Nat), .str p] :: enumD (k + 1) (r.map .str) := rfl
    rw [ec]
    unfold fst
    by_cases c : badP p k = true
    · rw [if_pos c] at e1 ⊢
      refine ⟨ρ, x2, x3, x4, ?_⟩
      have eb : b0_bells_of [x0, .own acc, .val (.int k), .val (.str p), x4] = .ex ⟨"BadText", [("part", .int ((k + 1 : Nat) : Int))]⟩ ρ := by
        rw [eq_b0_bells_of, nx_of e0, ev_sSeq, e1]
        rfl
      rw [for_eq]
      simp only [ev_sTup, ev_sCons, ev_sName, ev_sNil, Option.bind_some, List.set_cons_succ, List.set_cons_zero, eb]
    · rw [if_neg c] at e1 ⊢
      have hk' : k < 6 := by
        unfold badP at c
        simp only [Bool.or_eq_true, decide_eq_true_eq, not_or] at c
        omega
      obtain ⟨ρ', z2, z3, z4, f⟩ := of_loop hn r (k + 1) (acc ++ [bellD p]) (.val (.int k)) (.val (.str p)) (.val (bellD p)) (fun q hq => h q (.tail _ hq)) (by omega) (by simp [hl])
      refine ⟨ρ', z2, z3, z4, ?_⟩
      have eb : b0_bells_of [x0, .own acc, .val (.int k), .val (.str p), x4] = .nx [x0, .own (acc ++ [bellD p]), .val (.int k), .val (.str p), .val (bellD p)] := by
        rw [eq_b0_bells_of, nx_of e0, nx_of e1]
        exact of_2 (by omega)
      rw [for_cons (ρ1 := [x0, .own acc, .val (.int k), .val (.str p), x4]) rfl eb, f, List.map_cons, List.append_assoc]
      rfl
end
def badText (j : Nat) : Exc := ⟨"BadText", [("part", .int (j : Nat))]⟩
theorem bells_of_ok {t : Str} {n : Nat} (h : Tx t n) (hn : n ≤ 1000) : f_bells_of [.str t] = match fst (prts t) 0 with
    | some j => .exc (badText j)
    | none => .ok (.tuple ((prts t).map bellD)) := by
  have sp := split_p h hn
  obtain ⟨a, b, c⟩ := prts_ok h
  obtain ⟨ρ, y2, y3, y4, f⟩ := of_loop (x0 := .val (.str t)) hn (prts t) 0 [] .no .no .no c (by omega) rfl
  rw [List.nil_append] at f
  generalize fst (prts t) 0 = o at *
  generalize (prts t).map PyData.str = PP at *
  generalize (prts t).map bellD = TT at *
  cases o with
  | none => simp [f_bells_of, semOf, c_bells_of, sp, f]
  | some j => simp [f_bells_of, semOf, c_bells_of, sp, f, badText]
abbrev clT : List ClD := ((["BadText"], some 1, xRet 1 (xPair "part" (xFld w_part "part"))) :: [])
theorem told_eq : c__law_told = sTry errs b0__law_told clT := rfl
def partD (j : Nat) : D := .tuple [.str "part", .int (j : Nat)]
def toldT (d : D) : D := .tuple [.str "told", d]
theorem h_text {j : Nat} {x0 x1 : SV} : tryO errs clT (.ex (badText j) [x0, x1]) = .rt (partD j) := rfl
theorem told_exc {d : D} {j : Nat} (h : f_bells_of [d] = .exc (badText j)) : f__law_told [d] = .ok (partD j) := by
  have eb : b0__law_told [.val d, .no] = .ex (badText j) [.val d, .no] := by
    generalize badText j = B at *
    simp [b0__law_told, h]
  show toR (c__law_told [.val d, .no]) = _
  rw [told_eq, ev_sTry, eb, h_text]
  rfl
theorem told_ok {d v : D} (h : f_bells_of [d] = .ok v) : f__law_told [d] = .ok (toldT v) := by
  have eb : b0__law_told [.val d, .no] = .rt (toldT v) := by simp [b0__law_told, h, toldT]
  show toR (c__law_told [.val d, .no]) = _
  rw [told_eq, ev_sTry, eb]
  rfl
def resD (t : Str) : D := match fst (prts t) 0 with
  | some j => partD j
  | none => toldT (.tuple ((prts t).map bellD))
theorem told_text {t : Str} {n : Nat} (h : Tx t n) (hn : n ≤ 1000) : f__law_told [.str t] = .ok (resD t) := by
  have e := bells_of_ok h hn
  unfold resD
  cases hf : fst (prts t) 0 with
  | none =>
    rw [hf] at e
    exact told_ok e
  | some j =>
    rw [hf] at e
    exact told_exc e
theorem told_other {d : D} (h : isStrD d = false) : f__law_told [d] = .ok (partD 0) := by
  refine told_exc ?_
  simp [f_bells_of, semOf, c_bells_of, h, badText]
/-! ### the law's reading -/
def wrL : List Str → Nat → List Int
  | [], _ => []
  | p :: r, k => if badP p k = true then (k : Int) :: wrL r (k + 1) else wrL r (k + 1)
theorem wr_fst : ∀ (r : List Str) (k : Nat), (wrL r k = [] ∧ fst r k = none) ∨ ∃ (i : Nat) (l : List Int), wrL r k = (i : Int) :: l ∧ fst r k = some (i + 1)
  | [], k => .inl ⟨rfl, rfl⟩
  | p :: r, k => by
    unfold wrL fst
    by_cases c : badP p k = true
    · rw [if_pos c, if_pos c]
      exact .inr ⟨k, wrL r (k + 1), rfl, rfl⟩
    · rw [if_neg c, if_neg c]
      exact wr_fst r (k + 1)
theorem wr_len : ∀ (r : List Str) (k : Nat), (wrL r k).length ≤ r.length
  | [], k => Nat.le_refl _
  | p :: r, k => by
    have := wr_len r (k + 1)
    unfold wrL
    split <;> simp <;> omega
theorem rg_cons (a : Int) (m : Nat) : rg a (m + 1) = a :: rg (a + 1) m := by
  unfold rg
  (rw [List.range_succ_eq_map, List.map_cons, List.map_map])
  refine congr (congrArg _ (by simp)) (List.map_congr_left fun i _ => ?_)
  show a + ((i + 1 : Nat) : Int) = a + 1 + (i : Int)
  omega
theorem wr_lc {P : List Str} {x0 x2 x3 x4 : SV} : ∀ (r : List Str) (k : Nat), P.drop k = r →
    lcGo (sName 4) (cOr (cTest (cOp oIs (cOp oIxA (cBor 1) (cBor 4)) (cC .none))) (cTest (cOp oGt (cBor 4) (cC (.int 5))))) (cVar 4) [x0, .val (.list (P.map bellD)), x2, x3, x4] ((rg (k : Int) r.length).map .int) = .ok ((wrL r k).map .int)
  | [], k, _ => rfl
  | p :: r, k, hd => by
    have ix : P[k]? = some p := by
      have := congrArg (fun l => l[0]?) hd
      simpa using this
    have hd' : P.drop (k + 1) = r := by
      rw [← List.drop_drop, hd]
      rfl
    have ih := wr_lc (x0 := x0) (x2 := x2) (x3 := x3) (x4 := x4) r (k + 1) hd'
    have ia : oIxA (.list (P.map bellD)) (.int k) = some (bellD p) := by
      rw [oIxA_l, atI_map, atI_nat ix]
      rfl
    have ec : (rg (k : Int) (p :: r).length).map PyData.int = .int (k : Int) :: (rg ((k + 1 : Nat) : Int) r.length).map .int := by
      rw [List.length_cons, rg_cons]
      rfl
    rw [ec, lcGo_cons]
    have gk : oGt (.int (k : Int)) (.int 5) = some (.bool (decide (5 < k))) := by
      rw [oGt_ii]
      congr 2
      rw [decide_eq_decide]
      omega
    have b : badP p k = (isNone (bellD p) || decide (5 < k)) := rfl
    unfold wrL
    rw [b]
    generalize (rg ((k + 1 : Nat) : Int) r.length).map PyData.int = RR at *
    generalize decide (5 < k) = q at *
    generalize hi : isNone (bellD p) = i at *
    generalize bellD p = T at *
    generalize PyData.list (P.map bellD) = PP at *
    cases i <;> cases q <;> simp [-oGt_ii, gk, ia, hi, ih]
def st0_c__law_due : Env → Out := (sAsg 1 (asVal (asList (cLc (cItems (cM1 oSplit (cVar 0) (cC (.str "; ")))) (sName 3) cYes (cCall f__law_bell (aCons (cVar 3) aNil)) [3]))))
def st1_c__law_due : Env → Out := (sAsg 2 (asVal (asList (cLc (cIt range1D (aCons (cBt bLen (aCons (cBor 1) aNil)) aNil)) (sName 4) (cOr (cTest (cOp oIs (cOp oIxA (cBor 1) (cBor 4)) (cC .none))) (cTest (cOp oGt (cBor 4) (cC (.int 5))))) (cVar 4) [4]))))
def st2_c__law_due : Env → Out := (sRet (cIf (cTest (cOp oGt (cBt bLen (aCons (cBor 2) aNil)) (cC (.int 0)))) (cTup (aCons (cC (.str "part")) (aCons (cOp oAdd (cOp oIxA (cBor 2) (cC (.int 0))) (cC (.int 1))) aNil))) (cTup (aCons (cC (.str "told")) (aCons (cBt bTuple (aCons (cBor 1) aNil)) aNil)))))
theorem eq_c__law_due : c__law_due = (sSeq st0_c__law_due (sSeq st1_c__law_due st2_c__law_due)) := rfl

theorem due_ok {t : Str} {n : Nat} (h : Tx t n) (hn : n ≤ 1000) : f__law_due [.str t] = .ok (resD t) := by
  have sp := split_p h hn
  obtain ⟨a, b, c⟩ := prts_ok h
  have lc : lcGo (sName 3) cYes (cCall f__law_bell (aCons (cVar 3) aNil)) [.val (.str t), .no, .no, .no, .no] ((prts t).map .str) = .ok ((prts t).map bellD) :=
    lc_mapA _ fun p hp => ⟨_, rfl, rfl, by simp [law_bell_ok (c p hp) hn, bellD]⟩
  have l1 : ((prts t).map PyData.str).length ≤ 100000 := by rw [List.length_map]; omega
  have e0 : st0_c__law_due [.val (.str t), .no, .no, .no, .no] = .nx [.val (.str t), .val (.list ((prts t).map bellD)), .no, .no, .no] := by
    generalize (prts t).map PyData.str = PP at *
    generalize (prts t).map bellD = TT at *
    simp [st0_c__law_due, sp, wipeR, lc, l1]
  have w := wr_lc (P := prts t) (x0 := .val (.str t)) (x2 := .no) (x3 := .no) (x4 := .no) (prts t) 0 rfl
  have w : lcGo (sName 4) (cOr (cTest (cOp oIs (cOp oIxA (cBor 1) (cBor 4)) (cC .none))) (cTest (cOp oGt (cBor 4) (cC (.int 5))))) (cVar 4) [.val (.str t), .val (.list ((prts t).map bellD)), .no, .no, .no] ((rg 0 (prts t).length).map .int) = .ok ((wrL (prts t) 0).map .int) := w
  have r : range1D [.int ((prts t).length : Int)] = some ((rg 0 (prts t).length).map .int) := range1_rg _ ⟨by omega, by omega⟩
  have l2 : ((prts t).map bellD).length = (prts t).length := List.length_map ..
  have l3 : ((rg 0 (prts t).length).map PyData.int).length ≤ 100000 := by rw [List.length_map, rg_len]; omega
  have e1 : st1_c__law_due [.val (.str t), .val (.list ((prts t).map bellD)), .no, .no, .no] = .nx [.val (.str t), .val (.list ((prts t).map bellD)), .val (.list ((wrL (prts t) 0).map .int)), .no, .no] := by
    generalize (wrL (prts t) 0).map PyData.int = WW at *
    generalize (rg 0 (prts t).length).map PyData.int = RR at *
    generalize (prts t).map bellD = TT at *
    generalize (prts t).length = m at *
    simp [-range1_i, st1_c__law_due, l2, r, wipeR, w, l3]
  show toR (c__law_due [.val (.str t), .no, .no, .no, .no]) = _
  rw [eq_c__law_due, nx_of e0, nx_of e1]
  unfold resD
  rcases wr_fst (prts t) 0 with ⟨w1, w2⟩ | ⟨i, l, w1, w2⟩
  · rw [w1, w2]
    generalize (prts t).map bellD = TT at *
    simp [st2_c__law_due, toldT]
  · rw [w1, w2]
    have z : partD (i + 1) = .tuple [.str "part", .int ((i : Int) + 1)] := rfl
    have i0 : oIxA (.list (.int (i : Int) :: l.map .int)) (.int 0) = some (.int (i : Int)) := Q.atI0 _ _
    have lp : (0 : Int) < (l.length : Int) + 1 := by omega
    generalize (prts t).map bellD = TT at *
    simp [-oIxA_l, st2_c__law_due, i0, z, lp]
/-! ### how long they are written -/
theorem be_of {x : Bl} (h0 : toneB x.1 = true) (h1 : 0 ≤ x.2.1) (h2 : x.2.1 ≤ 120) (h3 : 1 ≤ x.2.2) (h4 : x.2.2 ≤ 60) : Be x := by
  have t : ∀ w ∈ tones, bLen [.str w] = some (.int 1) ∧ oNotInB (.str w) (.str "abcdefgh") = some (.bool false) := by
    intro w hw
    simp only [tones, List.mem_cons, List.not_mem_nil, or_false] at hw
    rcases hw with rfl | rfl | rfl | rfl | rfl | rfl | rfl | rfl <;> exact ⟨rfl, B.in_tones (by decide +kernel)⟩
  obtain ⟨a, b⟩ := t x.1 (tone_mem h0)
  exact ⟨a, b, h1, h2, h3, h4⟩
theorem bellR_be {p : Str} {x : Bl} (h : bellR p = some x) : toneB x.1 = true ∧ 0 ≤ x.2.1 ∧ x.2.1 ≤ 120 ∧ 1 ≤ x.2.2 ∧ x.2.2 ≤ 60 := by
  unfold bellR at h
  by_cases l3 : (wds p).length = 3
  · obtain ⟨w0, w1, w2, e⟩ := three_of l3
    rw [e] at h
    by_cases q : (toneB w0 && (Q.isW (numD w1) 0 120 && Q.isW (numD w2) 1 60)) = true
    · obtain ⟨i, j, a, b, c, d, _, _, _, _, e2⟩ := bellL_some q
      rw [e2] at h
      cases h
      exact ⟨(Bool.and_eq_true_iff.mp q).1, a, b, c, d⟩
    · have z : bellL [w0, w1, w2] = none := if_neg q
      rw [z] at h
      cases h
  · rw [bellL_no l3] at h
    cases h
theorem wr_tone : ∀ w ∈ tones, PyData.strOk w = true ∧ (reprText w).length ≤ 5 := by decide +kernel
theorem wr_str {w : Str} {k : Nat} (h : PyData.strOk w = true) (hl : (reprText w).length ≤ k) : Wr k 0 (.str w) := ⟨by simp [PyData.canLay0, h], by simp [PyData.showable], by simp [PyData.hasDict], by simp [PyData.depth], hl⟩
theorem wr_bell {x : Bl} (h0 : toneB x.1 = true) (h1 : 0 ≤ x.2.1) (h2 : x.2.1 ≤ 120) (h3 : 1 ≤ x.2.2) (h4 : x.2.2 ≤ 60) : Wr ((26 + 2) * 3 + 3) 1 (bd x) := B.wr_tup (fun d hd => by
  obtain ⟨a, b⟩ := wr_tone x.1 (tone_mem h0)
  rcases (List.mem_cons.mp hd) with rfl | hd
  · exact (wr_str a b).mono (by decide) (by decide)
  · rcases (List.mem_cons.mp hd) with rfl | hd
    · exact B.wr_int (by omega)
    · rw [List.mem_singleton.mp hd]
      exact B.wr_int (by omega)) (by simp)
theorem wr_part {j : Nat} (h : j ≤ 10) : Wr ((26 + 2) * 2 + 3) 1 (partD j) := B.wr_tup (fun d hd => by
  rcases (List.mem_cons.mp hd) with rfl | hd
  · exact (wr_str (w := "part") (k := 26) (by decide +kernel) (by decide +kernel)).mono (by decide) (by decide)
  · rw [List.mem_singleton.mp hd]
    exact B.wr_int (by omega)) (by simp)
theorem fst_le : ∀ (r : List Str) (k j : Nat), k ≤ 6 → fst r k = some j → j ≤ 7
  | [], _, _, _, h => (by cases h)
  | p :: r, k, j, hk, h => by
    unfold fst at h
    by_cases c : badP p k = true
    · rw [if_pos c] at h
      cases h
      omega
    · rw [if_neg c] at h
      have hk' : k < 6 := by
        unfold badP at c
        simp only [Bool.or_eq_true, decide_eq_true_eq, not_or] at c
        omega
      exact fst_le r (k + 1) j (by omega) h
theorem fst_none : ∀ (r : List Str) (k : Nat), k ≤ 6 → fst r k = none → (∀ p ∈ r, ∃ x, bellR p = some x) ∧ k + r.length ≤ 6
  | [], k, hk, _ => ⟨fun _ h => absurd h List.not_mem_nil, hk⟩
  | p :: r, k, hk, h => by
    unfold fst at h
    by_cases c : badP p k = true
    · rw [if_pos c] at h
      cases h
    · rw [if_neg c] at h
      unfold badP at c
      simp only [Bool.or_eq_true, decide_eq_true_eq, not_or] at c
      obtain ⟨a, b⟩ := fst_none r (k + 1) (by omega) h
      refine ⟨fun q hq => ?_, by simp only [List.length_cons]; omega⟩
      rcases (List.mem_cons.mp hq) with rfl | hq
      · cases hb : bellR q with
        | none =>
          have z : bellD q = .none := by unfold bellD; rw [hb]; rfl
          rw [z] at c
          exact absurd rfl c.1
        | some x => exact ⟨x, rfl⟩
      · exact a q hq
theorem wr_told {ds : List D} (h : ∀ d ∈ ds, Wr ((26 + 2) * 3 + 3) 1 d) (hl : ds.length ≤ 7) : Wr ((((((26 + 2) * 3 + 3) + 2) * 7 + 3) + 2) * 2 + 3) 3 (toldT (.tuple ds)) := B.wr_tup (fun d hd => by
  rcases (List.mem_cons.mp hd) with rfl | hd
  · exact (wr_str (w := "told") (k := 26) (by decide +kernel) (by decide +kernel)).mono (by decide) (by decide)
  · rw [List.mem_singleton.mp hd]
    exact B.wr_tup h hl) (by simp)
theorem wr_res (t : Str) : Wr 2000 3 (resD t) := by
  unfold resD
  cases hf : fst (prts t) 0 with
  | some j => exact (wr_part (by have := fst_le _ 0 j (by decide) hf; omega)).mono (by decide) (by decide)
  | none =>
    obtain ⟨a, b⟩ := fst_none _ 0 (by decide) hf
    refine (wr_told (fun d hd => ?_) (by rw [List.length_map]; omega)).mono (by decide) (by decide)
    obtain ⟨p, hp, rfl⟩ := List.mem_map.mp hd
    obtain ⟨x, hx⟩ := a p hp
    have e : bellD p = bd x := by unfold bellD; rw [hx]; rfl
    rw [e]
    obtain ⟨h0, h1, h2, h3, h4⟩ := bellR_be hx
    exact wr_bell h0 h1 h2 h3 h4
theorem same_res {t : Str} {n : Nat} (h : Tx t n) (hn : n ≤ 1000) : f__law_told [.str t] = .ok (resD t) ∧ f__law_due [.str t] = .ok (resD t) ∧ f__law_same [resD t, resD t] = .ok (.bool true) :=
  ⟨told_text h hn, due_ok h hn, (wr_res t).same⟩
end DL.K48


/-! k48: texts of bells -/
namespace DL.K48
open PySem L2 DL.U TL
open DL.B (Bl bd bt Be Bs Wr)
theorem jl_in : ∀ (S : List Nat) (ps : List (List Nat)), ∀ c ∈ joinL S ps, c ∈ S ∨ ∃ p ∈ ps, c ∈ p := by
  intro S ps
  induction ps with
  | nil => intro c hc; exact absurd hc List.not_mem_nil
  | cons p ps ih =>
    intro c hc
    cases ps with
    | nil => exact .inr ⟨p, List.mem_cons_self, hc⟩
    | cons q r =>
      rcases (List.mem_append.mp hc) with hc | hc
      · exact .inr ⟨p, List.mem_cons_self, hc⟩
      · rcases List.mem_append.mp hc with hc | hc
        · exact .inl hc
        · rcases ih c hc with h | ⟨z, hz, h⟩
          · exact .inl h
          · exact .inr ⟨z, .tail _ hz, h⟩
theorem jl_le (S : List Nat) : ∀ (ps : List (List Nat)) (m : Nat), (∀ p ∈ ps, p.length ≤ m) → (joinL S ps).length ≤ ps.length * (m + S.length)
  | [], m, _ => by simp [joinL]
  | [p], m, h => by
    have := h p List.mem_cons_self
    simp [joinL]
    omega
  | p :: q :: r, m, h => by
    have := h p List.mem_cons_self
    have ih := jl_le S (q :: r) m fun z hz => h z (.tail _ hz)
    simp only [joinL, List.length_append, List.length_cons] at ih ⊢
    have e : (r.length + 1 + 1) * (m + S.length) = (r.length + 1) * (m + S.length) + (m + S.length) := Nat.succ_mul _ _
    omega
theorem tx_join {y : Str} {ps : List Str} {m a b : Nat} (hy : Tx y a) (h : ∀ p ∈ ps, Tx p m) (hl : ps.length ≤ b) : Tx (Txt.join y ps) (b * (m + a)) := by
  refine ⟨tx_ok.mpr fun c hc => ?_, ?_⟩
  · rw [join_eq, tl_join] at hc
    rcases jl_in _ _ c hc with k | ⟨p, hp, k⟩
    · exact tx_ok.mp hy.ok c k
    · obtain ⟨w, hw, rfl⟩ := List.mem_map.mp hp
      exact tx_ok.mp (h w hw).ok c k
  · rw [len_tl, join_eq, tl_join]
    have := jl_le (tl y) (ps.map tl) m fun p hp => by
      obtain ⟨w, hw, rfl⟩ := List.mem_map.mp hp
      rw [← len_tl]
      exact (h w hw).len
    rw [List.length_map] at this
    have hy' : (tl y).length ≤ a := by rw [← len_tl]; exact hy.len
    exact Nat.le_trans this (Nat.mul_le_mul hl (Nat.add_le_add_left hy' _))
theorem joins_ok {y : Str} {ps : List Str} {m a b : Nat} (hy : Tx y a) (h : ∀ p ∈ ps, Tx p m) (hl : ps.length ≤ b) (hb : b * m + b * a ≤ 16777216) : oJoin (.str y) (.list (ps.map .str)) = some (.str (Txt.join y ps)) := by
  have k : (ps.map (·.length)).sum + ps.length * y.length ≤ 16777216 := by
    have sm : ∀ ws : List Str, (∀ w ∈ ws, Tx w m) → (ws.map (·.length)).sum ≤ ws.length * m := by
      intro ws
      induction ws with
      | nil => intro _; simp
      | cons w ws ih =>
        intro q
        have a := (q w List.mem_cons_self).len
        have b := ih fun z hz => q z (.tail _ hz)
        (simp only [List.map_cons, List.sum_cons, List.length_cons])
        rw [Nat.succ_mul]
        omega
    have s1 := sm ps h
    have s2 : ps.length * m ≤ b * m := Nat.mul_le_mul_right _ hl
    have s3 : ps.length * y.length ≤ b * a := Nat.mul_le_mul hl hy.len
    omega
  rw [oJoin_l]
  unfold joinS
  rw [if_pos k]
theorem tx_one : Tx " " 1 := ⟨by decide +kernel, by decide +kernel⟩
theorem tx_semi : Tx "; " 2 := ⟨by decide +kernel, by decide +kernel⟩
theorem tx_up {t : Str} {n m : Nat} (h : Tx t n) (k : n ≤ m) : Tx t m := ⟨h.ok, Nat.le_trans h.len k⟩
theorem tx_cut {t : Str} {n : Nat} (h : Tx t n) (lo hi : Option Int) : Tx (cutS t lo hi) n := by
  have e : (tl (cutS t lo hi)) = (t.cps.toList.drop (HT.sIx t.length 0 lo)).take (HT.sIx t.length t.length hi - HT.sIx t.length 0 lo) := rfl
  refine ⟨tx_ok.mpr fun c hc => tx_ok.mp h.ok c ?_, ?_⟩
  · rw [e] at hc
    exact List.mem_of_mem_drop (List.mem_of_mem_take hc)
  · have hl := h.len
    rw [len_tl] at hl ⊢
    rw [e]
    have hl : t.cps.toList.length ≤ n := hl
    rw [List.length_take]; rw [List.length_drop]
    omega
theorem tx_app {a b : Str} {n m : Nat} (h : Tx a n) (k : Tx b m) : Tx (a ++ b) (n + m) := by
  refine ⟨tx_ok.mpr fun c hc => ?_, ?_⟩
  · rw [tl_append] at hc
    rcases (List.mem_append.mp hc) with hc | hc
    · exact tx_ok.mp h.ok c hc
    · exact tx_ok.mp k.ok c hc
  · have e1 := h.len
    have e2 := k.len
    rw [len_tl] at e1 e2 ⊢
    rw [tl_append, List.length_append]
    omega
theorem sl_ok {t : Str} {n : Nat} (h : Tx t n) (hn : n ≤ 1000) (lo hi : Option Int) : oSl (.str t) lo hi = some (.str (cutS t lo hi)) := by
  have := h.len
  show (if t.length ≤ 100000 then some (PyData.str (cutS t lo hi)) else none) = _
  rw [if_pos (by omega)]
theorem ad_ok {a b : Str} {n m : Nat} (h : Tx a n) (k : Tx b m) (hn : n + m ≤ 5000) : oAdd (.str a) (.str b) = some (.str (a ++ b)) := by
  have := h.len
  have := k.len
  rw [oAdd_ss, if_pos (by omega)]
/-! ### a bell's text -/
abbrev al : List Nat := [32, 48, 49, 50, 51, 52, 53, 54, 55, 56, 57, 59, 97, 98, 99, 100, 101, 102, 103, 104]
structure WF (w : Str) (n : Nat) : Prop where
  tx : Tx w n
  n32 : 32 ∉ tl w
  n59 : 59 ∉ tl w
  al : ∀ c ∈ tl w, c ∈ K48.al
theorem num_wf {i : Int} (h0 : 0 ≤ i) (h1 : i ≤ 120) : WF (numT i) 3 := by
  have f : ∀ a : Fin 121, (PyData.strOk (numT ((a.val : Nat) : Int)) = true ∧ (numT ((a.val : Nat) : Int)).length ≤ 3) ∧ 32 ∉ tl (numT ((a.val : Nat) : Int)) ∧ 59 ∉ tl (numT ((a.val : Nat) : Int)) ∧ ∀ c ∈ tl (numT ((a.val : Nat) : Int)), c ∈ al := by decide +kernel
  have := f ⟨i.toNat, by omega⟩
  rw [show (((⟨i.toNat, by omega⟩ : Fin 121).val : Nat) : Int) = i from Int.toNat_of_nonneg h0] at this
  exact ⟨⟨this.1.1, this.1.2⟩, this.2.1, this.2.2.1, this.2.2.2⟩
theorem tone_wf {w : Str} (h : toneB w = true) : WF w 1 := by
  have f : ∀ w ∈ tones, (PyData.strOk w = true ∧ w.length ≤ 1) ∧ 32 ∉ tl w ∧ 59 ∉ tl w ∧ ∀ c ∈ tl w, c ∈ al := by decide +kernel
  have := f w (tone_mem h)
  exact ⟨⟨this.1.1, this.1.2⟩, this.2.1, this.2.2.1, this.2.2.2⟩
def bellT (x : Bl) : Str := x.1 ++ (" " : Str) ++ numT x.2.1 ++ (" " : Str) ++ numT x.2.2
theorem be_tone {x : Bl} (h : Be x) : toneB x.1 = true := by
  have l := h.l
  have t := h.t
  have c : x.1.length = 1 := by
    have l' : (if x.1.length ≤ 100000 then some (PyData.int x.1.length) else none) = some (.int 1) := l
    split at l'
    · injection l' with l'
      injection l' with l'
      omega
    · cases l'
  obtain ⟨k, hk⟩ : ∃ k, x.1 = ⟨#[k]⟩ := by
    obtain ⟨w, _⟩ := x
    obtain ⟨⟨cs⟩⟩ := w
    match cs, c with
    | [k], _ => exact ⟨k, rfl⟩
  rw [hk, tone_in] at t
  rw [hk]
  injection t with t
  injection t with t
  simpa using t
section
variable {x : Bl}
theorem bell_tl (x : Bl) : tl (bellT x) = tl x.1 ++ (32 :: (tl (numT x.2.1) ++ (32 :: tl (numT x.2.2)))) := by
  have s : tl (" " : Str) = [32] := by decide +kernel
  unfold bellT
  rw [tl_append, tl_append, tl_append, tl_append, s]
  simp
theorem bell_join (x : Bl) : bellT x = Txt.join " " [x.1, numT x.2.1, numT x.2.2] := by
  refine ext_tl ?_
  have s : tl (" " : Str) = [32] := by decide +kernel
  rw [bell_tl, join_eq, tl_join, s]
  rfl
theorem bell_wds (h : Be x) : wds (bellT x) = [x.1, numT x.2.1, numT x.2.2] := by
  rw [bell_join]
  refine split_join (s := 32) (S := []) (by decide +kernel) (by decide +kernel) (by simp) fun w hw => ?_
  simp only [List.mem_cons, List.not_mem_nil, or_false] at hw
  rcases hw with rfl | rfl | rfl
  · exact (tone_wf (be_tone h)).n32
  · exact (num_wf h.f0 h.f1).n32
  · exact (num_wf (by have := h.e0; omega) (by have := h.e1; omega)).n32
theorem bell_read (h : Be x) : bellR (bellT x) = some x := by
  have e0 := h.e0
  have e1 := h.e1
  unfold bellR
  rw [bell_wds h]
  have n1 := numD_num h.f0 h.f1
  have n2 := numD_num (i := x.2.2) (by omega) (by omega)
  have g : (toneB x.1 && (Q.isW (numD (numT x.2.1)) 0 120 && Q.isW (numD (numT x.2.2)) 1 60)) = true := by
    rw [be_tone h, n1, n2]
    simp [Q.isW, h.f0, h.f1, e0, e1]
  show (if _ then some (x.1, ival (numD (numT x.2.1)), ival (numD (numT x.2.2))) else none) = _
  rw [if_pos g, n1, n2]
  rfl
theorem bell_tx (h : Be x) : Tx (bellT x) 9 := by
  have a := (tone_wf (be_tone h)).tx
  have b := (num_wf h.f0 h.f1).tx
  have c := (num_wf (i := x.2.2) (by have := h.e0; omega) (by have := h.e1; omega)).tx
  exact tx_app (tx_app (tx_app (tx_app a tx_one) b) tx_one) c
theorem bell_sep (h : Be x) : 59 ∉ tl (bellT x) := fun z => by
  rw [bell_tl] at z
  simp only [List.mem_append, List.mem_cons] at z
  rcases z with z | z | z | z | z
  · exact (tone_wf (be_tone h)).n59 z
  · exact absurd z (by decide)
  · exact (num_wf h.f0 h.f1).n59 z
  · exact absurd z (by decide)
  · exact (num_wf (i := x.2.2) (by have := h.e0; omega) (by have := h.e1; omega)).n59 z
theorem bell_al (h : Be x) : ∀ c ∈ tl (bellT x), c ∈ al := fun c z => by
  rw [bell_tl] at z
  simp only [List.mem_append, List.mem_cons] at z
  rcases z with z | z | z | z | z
  · exact (tone_wf (be_tone h)).al c z
  · rw [z]; decide
  · exact (num_wf h.f0 h.f1).al c z
  · rw [z]; decide
  · exact (num_wf (i := x.2.2) (by have := h.e0; omega) (by have := h.e1; omega)).al c z
theorem empty_app (w : Str) : Str.empty ++ w = w := ext_tl (by rw [tl_append]; rfl)
end
def textT (B : List Bl) : Str := Txt.join "; " (B.map bellT)
section
variable {B : List Bl}
theorem bells_tx (h : Bs B) : ∀ p ∈ B.map bellT, Tx p 9 := fun p hp => by
  obtain ⟨x, hx, rfl⟩ := List.mem_map.mp hp
  exact bell_tx (h.b x hx)
theorem text_join (h : Bs B) : oJoin (.str "; ") (.list ((B.map bellT).map .str)) = some (.str (textT B)) := joins_ok (m := 9) (a := 2) (b := 6) tx_semi (bells_tx h) (by rw [List.length_map]; exact h.n1) (by decide)
theorem text_tx (h : Bs B) : Tx (textT B) 66 := tx_join (m := 9) (a := 2) (b := 6) tx_semi (bells_tx h) (by rw [List.length_map]; exact h.n1)
theorem text_prts (h : Bs B) : prts (textT B) = B.map bellT :=
  split_join (s := 59) (S := [32]) (by decide +kernel) (by decide +kernel) (fun z => by
    rw [List.map_eq_nil_iff] at z
    have := h.n0
    rw [z] at this
    exact absurd this (by decide)) fun w hw => by
    obtain ⟨x, hx, rfl⟩ := List.mem_map.mp hw
    exact bell_sep (h.b x hx)
theorem fst_bells : ∀ (r : List Bl) (k : Nat), (∀ x ∈ r, Be x) → k + r.length ≤ 6 → fst (r.map bellT) k = none
  | [], k, _, _ => rfl
  | x :: r, k, h, hk => by
    simp only [List.length_cons] at hk
    have e : bellD (bellT x) = bd x := by unfold bellD; rw [bell_read (h x List.mem_cons_self)]; rfl
    have b : badP (bellT x) k = false := by
      unfold badP
      rw [e, decide_eq_false (by omega)]
      rfl
    show (if badP (bellT x) k = true then some (k + 1) else fst (r.map bellT) (k + 1)) = none
    rw [b, if_neg (by decide)]
    exact fst_bells r (k + 1) (fun q hq => h q (.tail _ hq)) (by omega)
theorem text_of (h : Bs B) : f_bells_of [.str (textT B)] = .ok (bt B) ∧ resD (textT B) = toldT (bt B) := by
  have f := fst_bells B 0 h.b (by have := h.n1; omega)
  have m : (B.map bellT).map bellD = B.map bd := by
    rw [List.map_map]
    refine List.map_congr_left fun x hx => ?_
    show bellO (bellR (bellT x)) = bd x
    rw [bell_read (h.b x hx)]
    rfl
  refine ⟨?_, ?_⟩
  · have e := bells_of_ok (text_tx h) (by omega)
    rw [text_prts h, f, m] at e
    exact e
  · unfold resD
    rw [text_prts h, f, m]
/-! how long it is written -/
theorem one_sgn : ∀ c ∈ al, (Builtin.Str.reprChar 39 c).length ≤ 1 ∧ (Builtin.Str.reprChar 34 c).length ≤ 1 := by decide +kernel
theorem fold_le (q : Nat) (hq : q = 39 ∨ q = 34) : ∀ (l : List Nat) (n : Nat), (∀ c ∈ l, c ∈ al) → l.foldl (fun n c => n + (Builtin.Str.reprChar q c).length) n ≤ n + l.length
  | [], n, _ => by simp
  | c :: l, n, h => by
    have a := one_sgn c (h c List.mem_cons_self)
    have b : (Builtin.Str.reprChar q c).length ≤ 1 := by
      rcases hq with rfl | rfl
      · exact a.1
      · exact a.2
    have ih := fold_le q hq l (n + (Builtin.Str.reprChar q c).length) fun z hz => h z (.tail _ hz)
    rw [List.foldl_cons]; rw [List.length_cons]
    omega
theorem wr_text {t : Str} {n : Nat} (h : Tx t n) (k : ∀ c ∈ tl t, c ∈ al) : Wr (n + 2) 0 (.str t) := by
  refine wr_str h.ok ?_
  rw [← reprLen_eq, ← Array.foldl_toList]
  have q : reprQuote t = 39 ∨ reprQuote t = 34 := by
    unfold reprQuote
    split
    · exact .inr rfl
    · exact .inl rfl
  have a := fold_le (reprQuote t) q t.cps.toList 2 k
  have b := h.len
  have e : t.cps.toList.length = t.length := by rw [len_tl]
  omega
theorem text_al (h : Bs B) : ∀ c ∈ tl (textT B), c ∈ al := fun c z => by
  have e : tl (textT B) = joinL (tl "; ") ((B.map bellT).map tl) := by unfold textT; rw [join_eq, tl_join]
  rw [e] at z
  rcases jl_in _ _ _ z with k | ⟨p, hp, k⟩
  · have s : tl ("; " : Str) = [59, 32] := by decide +kernel
    rw [s] at k
    simp only [List.mem_cons, List.not_mem_nil, or_false] at k
    rcases k with rfl | rfl <;> decide
  · obtain ⟨w, hw, rfl⟩ := List.mem_map.mp hp
    obtain ⟨x, hx, rfl⟩ := List.mem_map.mp hw
    exact bell_al (h.b x hx) c k
theorem same_text (h : Bs B) : f__law_same [.str (textT B), .str (textT B)] = .ok (.bool true) := (wr_text (text_tx h) (text_al h)).same
theorem same_bells (h : Bs B) : f__law_same [bt B, bt B] = .ok (.bool true) := by
  have w : Wr ((((26 + 2) * 3 + 3) + 2) * 6 + 3) 2 (bt B) := DL.B.wr_tup (fun d hd => by
    obtain ⟨x, hx, rfl⟩ := List.mem_map.mp hd
    have b := h.b x hx
    exact wr_bell (be_tone b) b.f0 b.f1 b.e0 b.e1) (by rw [List.length_map]; exact h.n1)
  exact w.same
/-! ### the program's text, and the law's -/
theorem law_text_ok (h : Bs B) : f__law_text [bt B] = .ok (.str (textT B)) := by
  have j := text_join h
  have lc : lcGo (sName 1) cYes (cOp oAdd (cOp oAdd (cOp oAdd (cOp oAdd (cOp oIxA (cBor 1) (cC (.int 0))) (cC (.str " "))) (cBt bStr (aCons (cOp oIxA (cBor 1) (cC (.int 1))) aNil))) (cC (.str " "))) (cBt bStr (aCons (cOp oIxA (cBor 1) (cC (.int 2))) aNil))) [.val (bt B), .no] (B.map bd) = .ok ((B.map bellT).map .str) := by
    rw [List.map_map]
    refine lc_mapA _ fun x hx => ⟨_, rfl, rfl, ?_⟩
    have b := h.b x hx
    have t0 := (tone_wf (be_tone b)).tx
    have t1 := (num_wf b.f0 b.f1).tx
    have t2 := (num_wf (i := x.2.2) (by have := b.e0; omega) (by have := b.e1; omega)).tx
    have a1 := ad_ok t0 tx_one (by decide)
    have a2 := ad_ok (tx_app t0 tx_one) t1 (by decide)
    have a3 := ad_ok (tx_app (tx_app t0 tx_one) t1) tx_one (by decide)
    have a4 := ad_ok (tx_app (tx_app (tx_app t0 tx_one) t1) tx_one) t2 (by decide)
    have s1 := str_num (i := x.2.1) b.f0 (by have := b.f1; omega)
    have s2 := str_num (i := x.2.2) (by have := b.e0; omega) (by have := b.e1; omega)
    have i0 : oIxA (bd x) (.int 0) = some (.str x.1) := rfl
    have i1 : oIxA (bd x) (.int 1) = some (.int x.2.1) := rfl
    have i2 : oIxA (bd x) (.int 2) = some (.int x.2.2) := rfl
    have bt' : bellT x = x.1 ++ (" " : Str) ++ numT x.2.1 ++ (" " : Str) ++ numT x.2.2 := rfl
    show _ = R.ok (PyData.str (bellT x))
    rw [bt']
    generalize numT x.2.1 = N1 at *
    generalize numT x.2.2 = N2 at *
    generalize bd x = X at *
    simp [-oAdd_ss, i0, i1, i2, s1, s2, a1, a2, a3, a4]
  have hl : (B.map bd).length ≤ 100000 := by rw [List.length_map]; have := h.n1; omega
  have em : bt B = .tuple (B.map bd) := rfl
  rw [em] at lc ⊢
  generalize (B.map bellT).map PyData.str = RR at *
  generalize B.map bd = BB at *
  simp [f__law_text, semOf, c__law_text, wipeR, lc, j, hl]
theorem bells_text_ok (h : Bs B) : f_bells_text [bt B] = .ok (.str (textT B)) := by
  have j := text_join h
  have ck := DL.B.chk_bells h
  rw [← k_check] at ck
  have lc : lcGo (sTup (sCons (sName 1) (sCons (sName 2) (sCons (sName 3) sNil)))) cYes (cJs ((cUn fmtO (cVar 1)) :: ((cC (.str " ")) :: ((cUn fmtO (cVar 2)) :: ((cC (.str " ")) :: ((cUn fmtO (cVar 3)) :: []))))) Str.empty) [.val (bt B), .no, .no, .no] (B.map bd) = .ok ((B.map bellT).map .str) := by
    rw [List.map_map]
    refine lc_mapA _ fun x hx => ⟨[.val (bt B), .val (.str x.1), .val (.int x.2.1), .val (.int x.2.2)], rfl, rfl, ?_⟩
    have b := h.b x hx
    have t0 := (tone_wf (be_tone b)).tx
    have t1 := (num_wf b.f0 b.f1).tx
    have t2 := (num_wf (i := x.2.2) (by have := b.e0; omega) (by have := b.e1; omega)).tx
    have u2 := tx_app t0 tx_one
    have u3 := tx_app u2 t1
    have u4 := tx_app u3 tx_one
    have u5 := tx_app u4 t2
    have e0 := empty_app x.1
    have g1 : x.1.length ≤ 100000 := by have := t0.len; omega
    have g2 : (x.1 ++ (" " : Str)).length ≤ 100000 := by have := u2.len; omega
    have g3 : (x.1 ++ (" " : Str) ++ numT x.2.1).length ≤ 100000 := by have := u3.len; omega
    have g4 : (x.1 ++ (" " : Str) ++ numT x.2.1 ++ (" " : Str)).length ≤ 100000 := by have := u4.len; omega
    have g5 : (x.1 ++ (" " : Str) ++ numT x.2.1 ++ (" " : Str) ++ numT x.2.2).length ≤ 100000 := by have := u5.len; omega
    have f1 : fmtO (.int x.2.1) = some (.str (numT x.2.1)) := by
      show (if x.2.1.natAbs.log2 < 1920 then some (PyData.str (toString x.2.1)) else none) = _
      rw [if_pos (DL.B.log_i (by have := b.f0; have := b.f1; omega))]
      rfl
    have f2 : fmtO (.int x.2.2) = some (.str (numT x.2.2)) := by
      show (if x.2.2.natAbs.log2 < 1920 then some (PyData.str (toString x.2.2)) else none) = _
      rw [if_pos (DL.B.log_i (by have := b.e0; have := b.e1; omega))]
      rfl
    have f0 : fmtO (.str x.1) = some (.str x.1) := if_pos g1
    have bt' : bellT x = x.1 ++ (" " : Str) ++ numT x.2.1 ++ (" " : Str) ++ numT x.2.2 := rfl
    show _ = R.ok (PyData.str (bellT x))
    rw [bt']
    generalize numT x.2.1 = N1 at *
    generalize numT x.2.2 = N2 at *
    simp [-fmtO_s, -fmtO_i, f0, f1, f2, e0, g1, g2, g3, g4, g5]
  have hl : (B.map bd).length ≤ 100000 := by rw [List.length_map]; have := h.n1; omega
  have em : bt B = .tuple (B.map bd) := rfl
  rw [em] at lc ck ⊢
  generalize (B.map bellT).map PyData.str = RR at *
  generalize B.map bd = BB at *
  simp [f_bells_text, semOf, c_bells_text, ck, wipeR, lc, j, hl]
end
theorem refused_ok {w : D} (h : w ∈ DL.B.wrongs) : f__law_refused [w] = .ok (.bool true) := by
  have n := DL.B.wrong_no w h
  rw [← k_bells] at n
  have c : f_check_bells [w] = .exc ⟨"BadBells", []⟩ := by simp [f_check_bells, semOf, c_check_bells, n]
  have a : f_bells_text [w] = .exc ⟨"BadBells", []⟩ := by simp [f_bells_text, semOf, c_bells_text, c]
  have eb : b0__law_refused [.val w] = .ex ⟨"BadBells", []⟩ [.val w] := by simp [b0__law_refused, a]
  have hh : tryO errs ((["BadBells"], none, fun _ => (sRet (cC (.bool true)))) :: []) (.ex ⟨"BadBells", []⟩ [.val w]) = .rt (.bool true) := rfl
  show toR (c__law_refused [.val w]) = _
  unfold c__law_refused
  rw [ev_sSeq, ev_sTry, eb, hh]
  rfl
end DL.K48


/-! k48: the law -/
namespace DL.K48
open PySem L2 DL.U TL
open DL.B (Bl bd bt Be Bs Wr)
theorem pick_str {l : List Str} {i : Int} (h0 : 0 ≤ i) (h1 : i < (l.length : Int)) : ∃ w ∈ l, oIxA (.list (l.map .str)) (.int i) = some (.str w) := by
  obtain ⟨j, rfl⟩ : ∃ j : Nat, i = j := ⟨i.toNat, by omega⟩
  have hj : j < l.length := by omega
  refine ⟨l[j], List.getElem_mem hj, ?_⟩
  rw [oIxA_l, atI_map, atI_nat (List.getElem?_eq_getElem hj)]
  rfl
theorem pick_sign {z : Str} (hz : PyData.strOk z = true) (hl : z.length ≤ 1000) {i : Int} (h0 : 0 ≤ i) (h1 : i < (z.length : Int)) : ∃ s : Str, Tx s 1 ∧ oIxA (.str z) (.int i) = some (.str s) := by
  obtain ⟨j, rfl⟩ : ∃ j : Nat, i = j := ⟨i.toNat, by omega⟩
  have hj : j < z.cps.toList.length := by
    have : z.length = z.cps.toList.length := len_tl z
    omega
  refine ⟨⟨#[z.cps.toList[j]]⟩, ⟨tx_ok.mpr fun c hc => ?_, Nat.le_refl 1⟩, ?_⟩
  · have hc : c ∈ [z.cps.toList[j]] := hc
    rw [List.mem_singleton.mp hc]
    exact tx_ok.mp hz _ (List.getElem_mem hj)
  · show (if z.length ≤ 100000 then (atI z.cps.toList (j : Int)).map fun c => PyData.str ⟨#[c]⟩ else none) = _
    rw [if_pos (by omega), atI_nat (List.getElem?_eq_getElem hj)]
    rfl
def news : List Str := ["a 0 0", "a 121 1", "a 120 60", "i 0 1", "a 00 1", "a 1", "", "A 1 1", "a  1 1", "h 5 61", "b 7 07", "c -1 5"]
theorem news_ok : ∀ w ∈ news, PyData.strOk w = true ∧ w.length ≤ 8 := by decide +kernel
theorem adl {X Y : List Str} (h : X.length + Y.length ≤ 1000) : oAdd (.list (X.map .str)) (.list (Y.map .str)) = some (.list ((X ++ Y).map .str)) := by
  rw [oAdd_ll, if_pos (by rw [List.length_map, List.length_map]; omega), List.map_append]
def bentL (B : List Bl) (a : Nat) (nw : Str) : List (List Str) := [cut (B.map bellT) none (some (a : Int)) ++ [nw] ++ cut (B.map bellT) (some (a : Int)) none, cut (B.map bellT) none (some (a : Int)) ++ cut (B.map bellT) (some ((a : Int) + 1)) none, cut (B.map bellT) none (some (a : Int)) ++ (cut (B.map bellT) (some (a : Int)) (some ((a : Int) + 1)) ++ cut (B.map bellT) (some (a : Int)) (some ((a : Int) + 1))) ++ cut (B.map bellT) (some ((a : Int) + 1)) none, (B.map bellT).reverse]
theorem cut_mem {l : List Str} {lo hi : Option Int} {w : Str} (h : w ∈ cut l lo hi) : w ∈ l := List.mem_of_mem_drop (List.mem_of_mem_take h)
theorem bentL_ok {B : List Bl} {a : Nat} {nw : Str} (h : Bs B) (hw : Tx nw 9) : ∀ l ∈ bentL B a nw, (∀ p ∈ l, Tx p 9) ∧ l.length ≤ 30 := by
  have bx := bells_tx h
  have bl : (B.map bellT).length ≤ 6 := by rw [List.length_map]; exact h.n1
  have cl : ∀ lo hi, (cut (B.map bellT) lo hi).length ≤ 6 := fun lo hi => Nat.le_trans (U.cut_len _ _ _) bl
  intro l hl
  simp only [bentL, List.mem_cons, List.not_mem_nil, or_false] at hl
  rcases hl with rfl | rfl | rfl | rfl
  · refine ⟨fun p hp => ?_, ?_⟩
    · simp only [List.mem_append, List.mem_cons, List.not_mem_nil, or_false] at hp
      rcases hp with (hp | rfl) | hp
      · exact bx p (cut_mem hp)
      · exact hw
      · exact bx p (cut_mem hp)
    · have a1 := cl none (some (a : Int))
      have a2 := cl (some (a : Int)) none
      simp only [List.length_append, List.length_cons, List.length_nil]
      omega
  · refine ⟨fun p hp => ?_, ?_⟩
    · rcases (List.mem_append.mp hp) with hp | hp
      · exact bx p (cut_mem hp)
      · exact bx p (cut_mem hp)
    · have a1 := cl none (some (a : Int))
      have a2 := cl (some ((a : Int) + 1)) none
      simp only [List.length_append]
      omega
  · refine ⟨fun p hp => ?_, ?_⟩
    · simp only [List.mem_append] at hp
      rcases hp with (hp | hp | hp) | hp
      · exact bx p (cut_mem hp)
      · exact bx p (cut_mem hp)
      · exact bx p (cut_mem hp)
      · exact bx p (cut_mem hp)
    · have a1 := cl none (some (a : Int))
      have a2 := cl (some ((a : Int) + 1)) none
      have a3 := cl (some (a : Int)) (some ((a : Int) + 1))
      simp only [List.length_append]
      omega
  · exact ⟨fun p hp => bx p (List.mem_reverse.mp hp), by rw [List.length_reverse]; omega⟩
def textL (B : List Bl) (a : Nat) (nw : Str) (sp : Int) (sg : Str) : List Str := (bentL B a nw).map (fun l => Txt.join "; " l) ++ [cutS (textT B) none (some sp) ++ sg ++ cutS (textT B) (some sp) none, cutS (textT B) none (some sp) ++ cutS (textT B) (some (sp + 1)) none, cutS (textT B) none (some sp), cutS (textT B) none (some sp) ++ sg ++ cutS (textT B) (some (sp + 1)) none]
theorem textL_ok {B : List Bl} {a : Nat} {nw sg : Str} {sp : Int} (h : Bs B) (hw : Tx nw 9) (hs : Tx sg 1) : ∀ t ∈ textL B a nw sp sg, Tx t 1000 := by
  have tt := text_tx h
  have c1 := tx_cut tt none (some sp)
  have c2 := tx_cut tt (some sp) none
  have c3 := tx_cut tt (some (sp + 1)) none
  intro t ht
  rcases List.mem_append.mp ht with ht | ht
  · obtain ⟨l, hl, rfl⟩ := List.mem_map.mp ht
    obtain ⟨b1, b2⟩ := bentL_ok h hw l hl
    exact tx_up (tx_join (m := 9) (a := 2) (b := 30) tx_semi b1 b2) (by decide)
  · simp only [List.mem_cons, List.not_mem_nil, or_false] at ht
    rcases ht with rfl | rfl | rfl | rfl
    · exact tx_up (tx_app (tx_app c1 hs) c2) (by decide)
    · exact tx_up (tx_app c1 c3) (by decide)
    · exact tx_up c1 (by decide)
    · exact tx_up (tx_app (tx_app c1 hs) c3) (by decide)
def st0_b0_law : Env → Out := (sPar3 7 8 9 (aCons (cBt bInt (aCons (cOp oIxA (cBor 1) (cOp oAdd (cC (.int 30)) (cBor 2))) aNil)) (aCons (cOp oMod (cBt bInt (aCons (cOp oIxA (cBor 1) (cOp oAdd (cC (.int 40)) (cBor 2))) aNil)) (cOp oAdd (cBt bLen (aCons (cBor 6) aNil)) (cC (.int 1)))) (aCons (cOp oMod (cBt bInt (aCons (cOp oIxA (cBor 1) (cOp oAdd (cC (.int 50)) (cBor 2))) aNil)) (cOp oAdd (cBt bLen (aCons (cBor 5) aNil)) (cC (.int 1)))) aNil))))
def st1_b0_law : Env → Out := (sAsg 10 (asVal (cOp oIxA (cC (.str " 0123456789abchi;-")) (cOp oMod (cBt bInt (aCons (cOp oIxA (cBor 1) (cOp oAdd (cC (.int 60)) (cBor 2))) aNil)) (cC (.int 18))))))
def st2_b0_law : Env → Out := (sAsg 11 (asVal (cOp oIxA (asList (cLst (aCons (cC (.str "a 0 0")) (aCons (cC (.str "a 121 1")) (aCons (cC (.str "a 120 60")) (aCons (cC (.str "i 0 1")) (aCons (cC (.str "a 00 1")) (aCons (cC (.str "a 1")) (aCons (cC (.str "")) (aCons (cC (.str "A 1 1")) (aCons (cC (.str "a  1 1")) (aCons (cC (.str "h 5 61")) (aCons (cC (.str "b 7 07")) (aCons (cC (.str "c -1 5")) aNil)))))))))))))) (cOp oMod (cBor 7) (cC (.int 12))))))
def st3_b0_law : Env → Out := (sAsg 12 (asVal (asList (cLst (aCons (cOp oAdd (cOp oAdd (cSl (cBor 6) pNone (pSome (cVar 8))) (asList (cLst (aCons (cVar 11) aNil)))) (cSl (cBor 6) (pSome (cVar 8)) pNone)) (aCons (cOp oAdd (cSl (cBor 6) pNone (pSome (cVar 8))) (cSl (cBor 6) (pSome (cOp oAdd (cBor 8) (cC (.int 1)))) pNone)) (aCons (cOp oAdd (cOp oAdd (cSl (cBor 6) pNone (pSome (cVar 8))) (cOp oMul1 (cSl (cBor 6) (pSome (cVar 8)) (pSome (cOp oAdd (cBor 8) (cC (.int 1))))) (cC (.int 2)))) (cSl (cBor 6) (pSome (cOp oAdd (cBor 8) (cC (.int 1)))) pNone)) (aCons (cRev (cBor 6)) aNil))))))))
def st4_b0_law : Env → Out := (sAsg 13 (asVal (cOp oAdd (asList (cLc (cItems (cBor 12)) (sName 17) cYes (cM1 oJoin (cC (.str "; ")) (cBor 17)) [17])) (asList (cLst (aCons (cOp oAdd (cOp oAdd (cSl (cBor 5) pNone (pSome (cVar 9))) (cBor 10)) (cSl (cBor 5) (pSome (cVar 9)) pNone)) (aCons (cOp oAdd (cSl (cBor 5) pNone (pSome (cVar 9))) (cSl (cBor 5) (pSome (cOp oAdd (cBor 9) (cC (.int 1)))) pNone)) (aCons (cSl (cBor 5) pNone (pSome (cVar 9))) (aCons (cOp oAdd (cOp oAdd (cSl (cBor 5) pNone (pSome (cVar 9))) (cBor 10)) (cSl (cBor 5) (pSome (cOp oAdd (cBor 9) (cC (.int 1)))) pNone)) aNil)))))))))
def st5_b0_law : Env → Out := (sFor (cItems (cVar 13)) (sName 14) b1_law)
theorem eq_b0_law : b0_law = (sSeq st0_b0_law (sSeq st1_b0_law (sSeq st2_b0_law (sSeq st3_b0_law (sSeq st4_b0_law st5_b0_law))))) := rfl

section
variable {ds : List Int} {B : List Bl} {sc : D} {k nu sp : Int} {a : Nat} {sg nw : Str} {x0 x1 x2 x3 x7 x8 x9 x10 x11 x12 x13 x14 x15 x16 x17 : SV}
theorem tn_0 (hr : Dr.InR ds) (hl : ds.length = 90) (hB : Bs B) (hk : 0 ≤ k ∧ k ≤ 8) : ∃ (nu : Int) (a : Nat) (sp : Int), st0_b0_law [.val sc, .val (ml ds), .val (.int k), x3, .val (bt B), .val (.str (textT B)), .val (.list ((B.map bellT).map .str)), x7, x8, x9, x10, x11, x12, x13, x14, x15, x16, x17] = .nx [.val sc, .val (ml ds), .val (.int k), x3, .val (bt B), .val (.str (textT B)), .val (.list ((B.map bellT).map .str)), .val (.int nu), .val (.int (a : Nat)), .val (.int sp), x10, x11, x12, x13, x14, x15, x16, x17] := by
  have i0 : oIxA (ml ds) (.int (30 + k)) = some (.int (dg ds (30 + k))) := (dg_at hr (by omega) (by omega)).1
  have i1 : oIxA (ml ds) (.int (40 + k)) = some (.int (dg ds (40 + k))) := (dg_at hr (by omega) (by omega)).1
  have i2 : oIxA (ml ds) (.int (50 + k)) = some (.int (dg ds (50 + k))) := (dg_at hr (by omega) (by omega)).1
  have c1 : (0 : Int) < (B.length : Int) + 1 := by omega
  have m1 := Int.emod_nonneg (dg ds (40 + k)) (show (B.length : Int) + 1 ≠ 0 by omega)
  refine ⟨dg ds (30 + k), (dg ds (40 + k) % ((B.length : Int) + 1)).toNat, dg ds (50 + k) % (((textT B).length : Int) + 1), ?_⟩
  rw [Int.toNat_of_nonneg m1]
  have l1 : bLen [.list ((B.map bellT).map .str)] = some (.int (B.length : Int)) := by simp
  have l2 := txLen (x := textT B) (by have := (text_tx hB).len; omega)
  have c2 : (0 : Int) < ((textT B).length : Int) + 1 := by omega
  generalize ((textT B).length : Int) = tl' at *
  generalize PyData.list ((B.map bellT).map .str) = PP at *
  generalize textT B = T at *
  generalize bt B = BT at *
  generalize (B.length : Int) = bl at *
  generalize ml ds = DS at *
  generalize dg ds (30 + k) = v0 at *
  generalize dg ds (40 + k) = v1 at *
  generalize dg ds (50 + k) = v2 at *
  simp [st0_b0_law, i0, i1, i2, l1, l2, c1, c2]
theorem tn_1 (hr : Dr.InR ds) (hl : ds.length = 90) (hk : 0 ≤ k ∧ k ≤ 8) : ∃ sg : Str, Tx sg 1 ∧ st1_b0_law [.val sc, .val (ml ds), .val (.int k), x3, .val (bt B), .val (.str (textT B)), .val (.list ((B.map bellT).map .str)), .val (.int nu), .val (.int (a : Nat)), .val (.int sp), x10, x11, x12, x13, x14, x15, x16, x17] = .nx [.val sc, .val (ml ds), .val (.int k), x3, .val (bt B), .val (.str (textT B)), .val (.list ((B.map bellT).map .str)), .val (.int nu), .val (.int (a : Nat)), .val (.int sp), .val (.str sg), x11, x12, x13, x14, x15, x16, x17] := by
  have i0 : oIxA (ml ds) (.int (60 + k)) = some (.int (dg ds (60 + k))) := (dg_at hr (by omega) (by omega)).1
  have zl : (" 0123456789abchi;-" : Str).length = 18 := by decide +kernel
  obtain ⟨s, hs, e⟩ := pick_sign (z := " 0123456789abchi;-") (by decide +kernel) (by decide +kernel) (i := dg ds (60 + k) % 18) (by omega) (by rw [zl]; omega)
  refine ⟨s, hs, ?_⟩
  generalize PyData.list ((B.map bellT).map .str) = PP at *
  generalize textT B = T at *
  generalize bt B = BT at *
  generalize ml ds = DS at *
  generalize dg ds (60 + k) = v at *
  simp [st1_b0_law, i0, e]
theorem tn_2 : ∃ nw : Str, Tx nw 9 ∧ st2_b0_law [.val sc, .val (ml ds), .val (.int k), x3, .val (bt B), .val (.str (textT B)), .val (.list ((B.map bellT).map .str)), .val (.int nu), .val (.int (a : Nat)), .val (.int sp), .val (.str sg), x11, x12, x13, x14, x15, x16, x17] = .nx [.val sc, .val (ml ds), .val (.int k), x3, .val (bt B), .val (.str (textT B)), .val (.list ((B.map bellT).map .str)), .val (.int nu), .val (.int (a : Nat)), .val (.int sp), .val (.str sg), .val (.str nw), x12, x13, x14, x15, x16, x17] := by
  have nl : (news.length : Int) = 12 := rfl
  obtain ⟨w, hw, e⟩ := pick_str (l := news) (i := nu % 12) (by omega) (by rw [nl]; omega)
  obtain ⟨o, l⟩ := news_ok w hw
  refine ⟨w, ⟨o, by omega⟩, ?_⟩
  have e : oIxA (.list [.str "a 0 0", .str "a 121 1", .str "a 120 60", .str "i 0 1", .str "a 00 1", .str "a 1", .str "", .str "A 1 1", .str "a  1 1", .str "h 5 61", .str "b 7 07", .str "c -1 5"]) (.int (nu % 12)) = some (.str w) := e
  generalize PyData.list ((B.map bellT).map .str) = PP at *
  generalize textT B = T at *
  generalize bt B = BT at *
  generalize ml ds = DS at *
  simp [-oIxA_l, st2_b0_law, e]
theorem sl_l (P : List Str) (lo hi : Option Int) : oSl (.list (P.map .str)) lo hi = some (.list ((cut P lo hi).map .str)) := by rw [oSl_l, U.cut_mapI]
theorem tn_3 (hB : Bs B) : st3_b0_law [.val sc, .val (ml ds), .val (.int k), x3, .val (bt B), .val (.str (textT B)), .val (.list ((B.map bellT).map .str)), .val (.int nu), .val (.int (a : Nat)), .val (.int sp), .val (.str sg), .val (.str nw), x12, x13, x14, x15, x16, x17] = .nx [.val sc, .val (ml ds), .val (.int k), x3, .val (bt B), .val (.str (textT B)), .val (.list ((B.map bellT).map .str)), .val (.int nu), .val (.int (a : Nat)), .val (.int sp), .val (.str sg), .val (.str nw), .val (.list ((bentL B a nw).map fun l => .list (l.map .str))), x13, x14, x15, x16, x17] := by
  have bl : (B.map bellT).length ≤ 6 := by rw [List.length_map]; exact hB.n1
  unfold bentL
  generalize B.map bellT = P at *
  have cl : ∀ lo hi, (cut P lo hi).length ≤ 6 := fun lo hi => Nat.le_trans (U.cut_len _ _ _) bl
  have s1 := sl_l P none (some (a : Int))
  have s2 := sl_l P (some (a : Int)) none
  have s3 := sl_l P (some ((a : Int) + 1)) none
  have s4 := sl_l P (some (a : Int)) (some ((a : Int) + 1))
  have k1 := cl none (some (a : Int))
  have k2 := cl (some (a : Int)) none
  have k3 := cl (some ((a : Int) + 1)) none
  have k4 := cl (some (a : Int)) (some ((a : Int) + 1))
  generalize cut P none (some (a : Int)) = C1 at *
  generalize cut P (some (a : Int)) none = C2 at *
  generalize cut P (some ((a : Int) + 1)) none = C3 at *
  generalize cut P (some (a : Int)) (some ((a : Int) + 1)) = C4 at *
  have a1 : oAdd (.list (C1.map .str)) (.list [.str nw]) = some (.list ((C1 ++ [nw]).map .str)) := adl (Y := [nw]) (by simp; omega)
  have a2 := adl (X := C1 ++ [nw]) (Y := C2) (by simp; omega)
  have a3 := adl (X := C1) (Y := C3) (by omega)
  have a4 := adl (X := C1) (Y := C4 ++ C4) (by simp; omega)
  have a5 := adl (X := C1 ++ (C4 ++ C4)) (Y := C3) (by simp; omega)
  have m2 : oMul1 (.list (C4.map .str)) (.int 2) = some (.list ((C4 ++ C4).map .str)) := by
    rw [oMul_li, if_pos ⟨by decide, by decide, by rw [List.length_map]; show C4.length * 2 ≤ 100000; omega⟩]
    show some (PyData.list (List.replicate 2 (C4.map .str)).flatten) = _
    rw [List.map_append]
    simp [List.replicate]
  have rv : oRev (.list (P.map .str)) = some (.list (P.reverse.map .str)) := by rw [oRev_list, List.map_reverse]
  have res : (([C1 ++ [nw] ++ C2, C1 ++ C3, C1 ++ (C4 ++ C4) ++ C3, P.reverse] : List (List Str)).map fun l => PyData.list (l.map .str)) = [.list ((C1 ++ [nw] ++ C2).map .str), .list ((C1 ++ C3).map .str), .list ((C1 ++ (C4 ++ C4) ++ C3).map .str), .list (P.reverse.map .str)] := rfl
  rw [res]
  generalize PyData.list ((C1 ++ [nw] ++ C2).map .str) = L1 at *
  generalize PyData.list ((C1 ++ C3).map .str) = L2 at *
  generalize PyData.list ((C1 ++ (C4 ++ C4) ++ C3).map .str) = L3 at *
  generalize PyData.list (P.reverse.map .str) = L4 at *
  generalize PyData.list ((C1 ++ [nw]).map .str) = M1 at *
  generalize PyData.list ((C1 ++ (C4 ++ C4)).map .str) = M2 at *
  generalize PyData.list ((C4 ++ C4).map .str) = M3 at *
  generalize PyData.list (C1.map .str) = D1 at *
  generalize PyData.list (C2.map .str) = D2 at *
  generalize PyData.list (C3.map .str) = D3 at *
  generalize PyData.list (C4.map .str) = D4 at *
  generalize PyData.list (P.map .str) = PP at *
  generalize textT B = T at *
  generalize bt B = BT at *
  generalize ml ds = DS at *
  simp [-oSl_l, -oAdd_ll, -oMul_li, -oRev_list, st3_b0_law, s1, s2, s3, s4, a1, a2, a3, a4, a5, m2, rv]
theorem tn_4 (hB : Bs B) (hw : Tx nw 9) (hs : Tx sg 1) : st4_b0_law [.val sc, .val (ml ds), .val (.int k), x3, .val (bt B), .val (.str (textT B)), .val (.list ((B.map bellT).map .str)), .val (.int nu), .val (.int (a : Nat)), .val (.int sp), .val (.str sg), .val (.str nw), .val (.list ((bentL B a nw).map fun l => .list (l.map .str))), x13, x14, x15, x16, x17] = .nx [.val sc, .val (ml ds), .val (.int k), x3, .val (bt B), .val (.str (textT B)), .val (.list ((B.map bellT).map .str)), .val (.int nu), .val (.int (a : Nat)), .val (.int sp), .val (.str sg), .val (.str nw), .val (.list ((bentL B a nw).map fun l => .list (l.map .str))), .val (.list ((textL B a nw sp sg).map .str)), x14, x15, x16, x17] := by
  have tt := text_tx hB
  have c1 := tx_cut tt none (some sp)
  have c2 := tx_cut tt (some sp) none
  have c3 := tx_cut tt (some (sp + 1)) none
  have s1 := sl_ok tt (by decide) none (some sp)
  have s2 := sl_ok tt (by decide) (some sp) none
  have s3 := sl_ok tt (by decide) (some (sp + 1)) none
  have a1 := ad_ok c1 hs (by decide)
  have a2 := ad_ok (tx_app c1 hs) c2 (by decide)
  have a3 := ad_ok c1 c3 (by decide)
  have a4 := ad_ok (tx_app c1 hs) c3 (by decide)
  have bo := bentL_ok (a := a) hB hw
  unfold textL
  have bl : (bentL B a nw).length = 4 := rfl
  have lc : lcGo (sName 17) cYes (cM1 oJoin (cC (.str "; ")) (cBor 17)) [.val sc, .val (ml ds), .val (.int k), x3, .val (bt B), .val (.str (textT B)), .val (.list ((B.map bellT).map .str)), .val (.int nu), .val (.int (a : Nat)), .val (.int sp), .val (.str sg), .val (.str nw), .val (.list ((bentL B a nw).map fun l => .list (l.map .str))), x13, x14, x15, x16, .no] ((bentL B a nw).map fun l => .list (l.map .str)) = .ok (((bentL B a nw).map fun l => Txt.join "; " l).map .str) := by
    rw [List.map_map]
    refine lc_mapA (s := sName 17) (t := cYes) (el := cM1 oJoin (cC (.str "; ")) (cBor 17)) (g := fun l => PyData.list (l.map .str)) (φ := fun l => PyData.str (Txt.join "; " l)) (bentL B a nw) fun l hl => ⟨_, rfl, rfl, ?_⟩
    have j := joins_ok (m := 9) (a := 2) (b := 30) tx_semi (bo l hl).1 (bo l hl).2 (by decide)
    show _ = R.ok (PyData.str (Txt.join "; " l))
    generalize Txt.join "; " l = JL at *
    generalize l.map PyData.str = LL at *
    generalize ((bentL B a nw).map fun l => PyData.list (l.map .str)) = BN at *
    generalize PyData.list ((B.map bellT).map .str) = PP at *
    generalize textT B = T at *
    generalize bt B = BT at *
    generalize ml ds = DS at *
    simp [j]
  have l4 : ((bentL B a nw).map fun l => PyData.list (l.map .str)).length ≤ 100000 := by rw [List.length_map, bl]; decide
  have aa := adl (X := (bentL B a nw).map fun l => Txt.join "; " l) (Y := [cutS (textT B) none (some sp) ++ sg ++ cutS (textT B) (some sp) none, cutS (textT B) none (some sp) ++ cutS (textT B) (some (sp + 1)) none, cutS (textT B) none (some sp), cutS (textT B) none (some sp) ++ sg ++ cutS (textT B) (some (sp + 1)) none]) (by rw [List.length_map, bl]; show 4 + 4 ≤ 1000; decide)
  have mm : ([cutS (textT B) none (some sp) ++ sg ++ cutS (textT B) (some sp) none, cutS (textT B) none (some sp) ++ cutS (textT B) (some (sp + 1)) none, cutS (textT B) none (some sp), cutS (textT B) none (some sp) ++ sg ++ cutS (textT B) (some (sp + 1)) none] : List Str).map PyData.str = [.str (cutS (textT B) none (some sp) ++ sg ++ cutS (textT B) (some sp) none), .str (cutS (textT B) none (some sp) ++ cutS (textT B) (some (sp + 1)) none), .str (cutS (textT B) none (some sp)), .str (cutS (textT B) none (some sp) ++ sg ++ cutS (textT B) (some (sp + 1)) none)] := rfl
  rw [mm] at aa
  generalize ((bentL B a nw).map (fun l => Txt.join "; " l) ++ [cutS (textT B) none (some sp) ++ sg ++ cutS (textT B) (some sp) none, cutS (textT B) none (some sp) ++ cutS (textT B) (some (sp + 1)) none, cutS (textT B) none (some sp), cutS (textT B) none (some sp) ++ sg ++ cutS (textT B) (some (sp + 1)) none]).map PyData.str = RES at *
  generalize ((bentL B a nw).map fun l => Txt.join "; " l).map PyData.str = JN at *
  generalize ((bentL B a nw).map fun l => PyData.list (l.map .str)) = BN at *
  generalize cutS (textT B) none (some sp) = C1 at *
  generalize cutS (textT B) (some sp) none = C2 at *
  generalize cutS (textT B) (some (sp + 1)) none = C3 at *
  generalize PyData.list ((B.map bellT).map .str) = PP at *
  generalize textT B = T at *
  generalize bt B = BT at *
  generalize ml ds = DS at *
  simp [-oAdd_ss, -oAdd_ll, st4_b0_law, wipeR, lc, l4, s1, s2, s3, a1, a2, a3, a4, aa]
theorem one_b {t : Str} (h : Tx t 1000) : b1_law [.val sc, .val (ml ds), .val (.int k), x3, .val (bt B), .val (.str (textT B)), .val (.list ((B.map bellT).map .str)), .val (.int nu), .val (.int (a : Nat)), .val (.int sp), .val (.str sg), .val (.str nw), .val (.list ((bentL B a nw).map fun l => .list (l.map .str))), .val (.list ((textL B a nw sp sg).map .str)), .val (.str t), x15, x16, x17] = .nx [.val sc, .val (ml ds), .val (.int k), x3, .val (bt B), .val (.str (textT B)), .val (.list ((B.map bellT).map .str)), .val (.int nu), .val (.int (a : Nat)), .val (.int sp), .val (.str sg), .val (.str nw), .val (.list ((bentL B a nw).map fun l => .list (l.map .str))), .val (.list ((textL B a nw sp sg).map .str)), .val (.str t), x15, x16, x17] := by
  obtain ⟨e1, e2, e3⟩ := same_res h (by decide)
  generalize resD t = R at *
  generalize PyData.list ((B.map bellT).map .str) = PP at *
  generalize textT B = T at *
  generalize bt B = BT at *
  generalize ml ds = DS at *
  simp [b1_law, e1, e2, e3]
theorem tn_5 (hB : Bs B) (hw : Tx nw 9) (hs : Tx sg 1) : ∃ y14, st5_b0_law [.val sc, .val (ml ds), .val (.int k), x3, .val (bt B), .val (.str (textT B)), .val (.list ((B.map bellT).map .str)), .val (.int nu), .val (.int (a : Nat)), .val (.int sp), .val (.str sg), .val (.str nw), .val (.list ((bentL B a nw).map fun l => .list (l.map .str))), .val (.list ((textL B a nw sp sg).map .str)), x14, x15, x16, x17] = .nx [.val sc, .val (ml ds), .val (.int k), x3, .val (bt B), .val (.str (textT B)), .val (.list ((B.map bellT).map .str)), .val (.int nu), .val (.int (a : Nat)), .val (.int sp), .val (.str sg), .val (.str nw), .val (.list ((bentL B a nw).map fun l => .list (l.map .str))), .val (.list ((textL B a nw sp sg).map .str)), y14, x15, x16, x17] := by
  obtain ⟨y, f⟩ := Q.for_same (i := 14) (b := b1_law) (ρ := [.val sc, .val (ml ds), .val (.int k), x3, .val (bt B), .val (.str (textT B)), .val (.list ((B.map bellT).map .str)), .val (.int nu), .val (.int (a : Nat)), .val (.int sp), .val (.str sg), .val (.str nw), .val (.list ((bentL B a nw).map fun l => .list (l.map .str))), .val (.list ((textL B a nw sp sg).map .str)), x14, x15, x16, x17]) ((textL B a nw sp sg).map .str) x14 fun d hd => by
    obtain ⟨t, ht, rfl⟩ := List.mem_map.mp hd
    exact one_b (textL_ok hB hw hs t ht)
  exact ⟨y, f⟩
theorem turn_ok (hr : Dr.InR ds) (hl : ds.length = 90) (hB : Bs B) (hk : 0 ≤ k ∧ k ≤ 8) : ∃ z7 z8 z9 z10 z11 z12 z13 z14, b0_law [.val sc, .val (ml ds), .val (.int k), x3, .val (bt B), .val (.str (textT B)), .val (.list ((B.map bellT).map .str)), x7, x8, x9, x10, x11, x12, x13, x14, x15, x16, x17] = .nx [.val sc, .val (ml ds), .val (.int k), x3, .val (bt B), .val (.str (textT B)), .val (.list ((B.map bellT).map .str)), z7, z8, z9, z10, z11, z12, z13, z14, x15, x16, x17] := by
  obtain ⟨nu, a, sp, e0⟩ := tn_0 (sc := sc) (x3 := x3) (x7 := x7) (x8 := x8) (x9 := x9) (x10 := x10) (x11 := x11) (x12 := x12) (x13 := x13) (x14 := x14) (x15 := x15) (x16 := x16) (x17 := x17) hr hl hB hk
  obtain ⟨sg, hs, e1⟩ := tn_1 (B := B) (sc := sc) (nu := nu) (a := a) (sp := sp) (x3 := x3) (x10 := x10) (x11 := x11) (x12 := x12) (x13 := x13) (x14 := x14) (x15 := x15) (x16 := x16) (x17 := x17) hr hl hk
  obtain ⟨nw, hw, e2⟩ := tn_2 (ds := ds) (B := B) (sc := sc) (k := k) (nu := nu) (a := a) (sp := sp) (sg := sg) (x3 := x3) (x11 := x11) (x12 := x12) (x13 := x13) (x14 := x14) (x15 := x15) (x16 := x16) (x17 := x17)
  have e3 := tn_3 (ds := ds) (sc := sc) (k := k) (nu := nu) (a := a) (sp := sp) (sg := sg) (nw := nw) (x3 := x3) (x12 := x12) (x13 := x13) (x14 := x14) (x15 := x15) (x16 := x16) (x17 := x17) hB
  have e4 := tn_4 (ds := ds) (sc := sc) (k := k) (nu := nu) (a := a) (sp := sp) (x3 := x3) (x13 := x13) (x14 := x14) (x15 := x15) (x16 := x16) (x17 := x17) hB hw hs
  obtain ⟨y14, e5⟩ := tn_5 (ds := ds) (sc := sc) (k := k) (nu := nu) (a := a) (sp := sp) (x3 := x3) (x14 := x14) (x15 := x15) (x16 := x16) (x17 := x17) hB hw hs
  refine ⟨.val (.int nu), .val (.int (a : Nat)), .val (.int sp), .val (.str sg), .val (.str nw), .val (.list ((bentL B a nw).map fun l => .list (l.map .str))), .val (.list ((textL B a nw sp sg).map .str)), y14, ?_⟩
  rw [eq_b0_law, nx_of e0, nx_of e1, nx_of e2, nx_of e3, nx_of e4]
  exact e5
theorem turns_loop (hr : Dr.InR ds) (hl : ds.length = 90) (hB : Bs B) : ∀ (r : List Int) (x2 x7 x8 x9 x10 x11 x12 x13 x14 : SV), (∀ k ∈ r, 0 ≤ k ∧ k ≤ 8) → ∃ y2 y7 y8 y9 y10 y11 y12 y13 y14, forLoop (sName 2) b0_law (r.map .int) [.val sc, .val (ml ds), x2, x3, .val (bt B), .val (.str (textT B)), .val (.list ((B.map bellT).map .str)), x7, x8, x9, x10, x11, x12, x13, x14, x15, x16, x17] = .nx [.val sc, .val (ml ds), y2, x3, .val (bt B), .val (.str (textT B)), .val (.list ((B.map bellT).map .str)), y7, y8, y9, y10, y11, y12, y13, y14, x15, x16, x17]
  | [], x2, x7, x8, x9, x10, x11, x12, x13, x14, _ => ⟨x2, x7, x8, x9, x10, x11, x12, x13, x14, rfl⟩
  | k :: r, x2, x7, x8, x9, x10, x11, x12, x13, x14, hk => by
    obtain ⟨z7, z8, z9, z10, z11, z12, z13, z14, e⟩ := turn_ok (sc := sc) (x3 := x3) (x7 := x7) (x8 := x8) (x9 := x9) (x10 := x10) (x11 := x11) (x12 := x12) (x13 := x13) (x14 := x14) (x15 := x15) (x16 := x16) (x17 := x17) hr hl hB (hk k List.mem_cons_self)
    obtain ⟨w2, w7, w8, w9, w10, w11, w12, w13, w14, f⟩ := turns_loop hr hl hB r (.val (.int k)) z7 z8 z9 z10 z11 z12 z13 z14 fun q hq => hk q (.tail _ hq)
    refine ⟨w2, w7, w8, w9, w10, w11, w12, w13, w14, ?_⟩
    rw [List.map_cons, for_cons (ρ1 := [.val sc, .val (ml ds), .val (.int k), x3, .val (bt B), .val (.str (textT B)), .val (.list ((B.map bellT).map .str)), x7, x8, x9, x10, x11, x12, x13, x14, x15, x16, x17]) rfl e]
    exact f
end
def st0_c_law : Env → Out := (sAsg 1 (asVal (cCall f__law_draws (aCons (cVar 0) (aCons (cC (.int 90)) aNil)))))
def st1_c_law : Env → Out := (sAsg 3 (asVal (asList (cLc (cIt range1D (aCons (cC (.int 6)) aNil)) (sName 2) cYes (cOp oAdd (cOp oMod (cBt bInt (aCons (cOp oIxA (cBor 1) (cOp oAdd (cC (.int 21)) (cBor 2))) aNil)) (cC (.int 60))) (cC (.int 1))) [2]))))
def st2_c_law : Env → Out := (sAsg 4 (asVal (cCall f__law_bells (aCons (cVar 1) (aCons (cVar 3) (aCons (cOp oIxA (asList (cLst (aCons (cC (.int 120)) (aCons (cC (.int 9)) aNil)))) (cOp oMod (cBt bInt (aCons (cOp oIxA (cBor 1) (cC (.int 20))) aNil)) (cC (.int 2)))) aNil))))))
def st3_c_law : Env → Out := (sAsg 5 (asVal (cCall f__law_text (aCons (cVar 4) aNil))))
def st4_c_law : Env → Out := (sIf (cOr (cNot (cTest (cCall f__law_same (aCons (cCall f_bells_text (aCons (cVar 4) aNil)) (aCons (cVar 5) aNil))))) (cNot (cTest (cCall f__law_same (aCons (cCall f_bells_of (aCons (cVar 5) aNil)) (aCons (cVar 4) aNil)))))) (sRet (cC (.bool false))) sNx)
def st5_c_law : Env → Out := (sAsg 6 (asVal (cM1 oSplit (cVar 5) (cC (.str "; ")))))
def st6_c_law : Env → Out := (sFor (cIt range1D (aCons (cC (.int 9)) aNil)) (sName 2) b0_law)
def st7_c_law : Env → Out := (sFor (cItems (cTup (aCons (cC .none) (aCons (cC (.int 5)) (aCons (cTup (aCons (cC (.str "a 0 1")) aNil)) (aCons (cC (.bool true)) aNil)))))) (sName 15) b2_law)
def st8_c_law : Env → Out := (sIf (cNot (cTest (cBt bAll (aCons (asList (cLc (cItems (cCall f__law_wrongs aNil)) (sName 15) cYes (cCall f__law_refused (aCons (cVar 15) aNil)) [15])) aNil)))) (sRet (cC (.bool false))) sNx)
def st9_c_law : Env → Out := (sAsg 16 (asVal (cM1 oJoin (cC (.str "; ")) (cOp oMul1 (asList (cLst (aCons (cC (.str "a 0 1")) aNil))) (cC (.int 6))))))
def st10_c_law : Env → Out := (sRet (cAndV (cCall f__law_same (aCons (cCall f__law_told (aCons (cOp oAdd (cBor 16) (cC (.str "; a 0 1"))) aNil)) (aCons (cTup (aCons (cC (.str "part")) (aCons (cC (.int 7)) aNil))) aNil))) (cAndV (cCall f__law_same (aCons (cCall f__law_told (aCons (cVar 16) aNil)) (aCons (cTup (aCons (cC (.str "told")) (aCons (cOp oMul1 (cTup (aCons (cTup (aCons (cC (.str "a")) (aCons (cC (.int 0)) (aCons (cC (.int 1)) aNil)))) aNil)) (cC (.int 6))) aNil))) aNil))) (cCall f__law_same (aCons (cCall f__law_told (aCons (cC (.str "")) aNil)) (aCons (cTup (aCons (cC (.str "part")) (aCons (cC (.int 1)) aNil))) aNil))))))
theorem eq_c_law : c_law = (sSeq st0_c_law (sSeq st1_c_law (sSeq st2_c_law (sSeq st3_c_law (sSeq st4_c_law (sSeq st5_c_law (sSeq st6_c_law (sSeq st7_c_law (sSeq st8_c_law (sSeq st9_c_law st10_c_law)))))))))) := rfl

/-! ### the law -/
def evL (ds : List Int) : List Int := (rg 0 6).map fun k => dg ds (21 + k) % 60 + 1
def oneB : Bl := ("a", 0, 1)
def six : List Bl := List.replicate 6 oneB
theorem oneB_be : Be oneB := be_of (by decide +kernel) (by decide) (by decide) (by decide) (by decide)
theorem six_bs : Bs six := ⟨by decide, by decide, fun x hx => by rw [List.eq_of_mem_replicate hx]; exact oneB_be⟩
theorem law_true (ns : List Int) (h : ns.length ≤ 63) : f_law [scrD ns] = .ok (.bool true) := by
  obtain ⟨ds, e, hl, hr⟩ := Dr.draws ns h 90 (by decide)
  rw [← k_draws] at e
  have e0 : st0_c_law [.val (scrD ns), .no, .no, .no, .no, .no, .no, .no, .no, .no, .no, .no, .no, .no, .no, .no, .no, .no] = .nx [.val (scrD ns), .val (ml ds), .no, .no, .no, .no, .no, .no, .no, .no, .no, .no, .no, .no, .no, .no, .no, .no] := by
    have e : f__law_draws [scrD ns, .int 90] = .ok (ml ds) := e
    generalize scrD ns = SC at *
    generalize ml ds = DS at *
    simp [st0_c_law, e]
  have e1 : st1_c_law [.val (scrD ns), .val (ml ds), .no, .no, .no, .no, .no, .no, .no, .no, .no, .no, .no, .no, .no, .no, .no, .no] = .nx [.val (scrD ns), .val (ml ds), .no, .val (ml (evL ds)), .no, .no, .no, .no, .no, .no, .no, .no, .no, .no, .no, .no, .no, .no] := by
    have r : range1D [.int 6] = some ((rg 0 6).map .int) := range1_rg 6 (by decide)
    have lc : lcGo (sName 2) cYes (cOp oAdd (cOp oMod (cBt bInt (aCons (cOp oIxA (cBor 1) (cOp oAdd (cC (.int 21)) (cBor 2))) aNil)) (cC (.int 60))) (cC (.int 1))) [.val (scrD ns), .val (ml ds), .no, .no, .no, .no, .no, .no, .no, .no, .no, .no, .no, .no, .no, .no, .no, .no] ((rg 0 6).map .int) = .ok ((evL ds).map .int) := by
      unfold evL
      rw [List.map_map]
      refine lc_mapA _ fun k hk => ⟨_, rfl, rfl, ?_⟩
      have hk := mem_rg.mp hk
      have i1 : oIxA (ml ds) (.int (21 + k)) = some (.int (dg ds (21 + k))) := (dg_at hr (by omega) (by omega)).1
      generalize scrD ns = SC at *
      generalize ml ds = DS at *
      simp [i1]
    have l6 : ((rg 0 6).map PyData.int).length ≤ 100000 := by decide
    have em : ml (evL ds) = .list ((evL ds).map .int) := rfl
    rw [em]
    generalize (evL ds).map PyData.int = EE at *
    generalize (rg 0 6).map PyData.int = RR at *
    generalize scrD ns = SC at *
    generalize ml ds = DS at *
    simp [-range1_i, st1_c_law, r, wipeR, lc, l6]
  have el : (evL ds).length = 6 := by simp [evL, rg_len]
  have eb : ∀ e ∈ evL ds, 1 ≤ e ∧ e ≤ 60 := fun e he => by
    obtain ⟨k, _, rfl⟩ := List.mem_map.mp he
    omega
  obtain ⟨most, m0, m1, im⟩ : ∃ most : Int, 0 ≤ most ∧ most ≤ 120 ∧ oIxA (.list [.int 120, .int 9]) (.int (dg ds 20 % 2)) = some (.int most) := by
    have c : dg ds 20 % 2 = 0 ∨ dg ds 20 % 2 = 1 := by omega
    rcases c with c | c <;> rw [c]
    · exact ⟨120, by decide, by decide, rfl⟩
    · exact ⟨9, by decide, by decide, rfl⟩
  obtain ⟨B, hB, lb⟩ := DL.B.law_bells_ok (ds := ds) (E := evL ds) (most := most) hr (by omega) (by omega) eb m0 m1
  rw [← k_lbells] at lb
  have e2 : st2_c_law [.val (scrD ns), .val (ml ds), .no, .val (ml (evL ds)), .no, .no, .no, .no, .no, .no, .no, .no, .no, .no, .no, .no, .no, .no] = .nx [.val (scrD ns), .val (ml ds), .no, .val (ml (evL ds)), .val (bt B), .no, .no, .no, .no, .no, .no, .no, .no, .no, .no, .no, .no, .no] := by
    have i20 : oIxA (ml ds) (.int 20) = some (.int (dg ds 20)) := (dg_at hr (by omega) (by omega)).1
    have lb : f__law_bells [ml ds, ml (evL ds), .int most] = .ok (bt B) := lb
    generalize ml (evL ds) = EE at *
    generalize scrD ns = SC at *
    generalize ml ds = DS at *
    generalize bt B = BT at *
    generalize dg ds 20 = v at *
    simp [-oIxA_l, st2_c_law, i20, im, lb]
  have e3 : st3_c_law [.val (scrD ns), .val (ml ds), .no, .val (ml (evL ds)), .val (bt B), .no, .no, .no, .no, .no, .no, .no, .no, .no, .no, .no, .no, .no] = .nx [.val (scrD ns), .val (ml ds), .no, .val (ml (evL ds)), .val (bt B), .val (.str (textT B)), .no, .no, .no, .no, .no, .no, .no, .no, .no, .no, .no, .no] := by
    have t := law_text_ok hB
    generalize ml (evL ds) = EE at *
    generalize scrD ns = SC at *
    generalize ml ds = DS at *
    generalize bt B = BT at *
    simp [st3_c_law, t]
  have e4 : st4_c_law [.val (scrD ns), .val (ml ds), .no, .val (ml (evL ds)), .val (bt B), .val (.str (textT B)), .no, .no, .no, .no, .no, .no, .no, .no, .no, .no, .no, .no] = .nx [.val (scrD ns), .val (ml ds), .no, .val (ml (evL ds)), .val (bt B), .val (.str (textT B)), .no, .no, .no, .no, .no, .no, .no, .no, .no, .no, .no, .no] := by
    have t1 := bells_text_ok hB
    have t2 := (text_of hB).1
    have s1 := same_text hB
    have s2 := same_bells hB
    generalize textT B = T at *
    generalize ml (evL ds) = EE at *
    generalize scrD ns = SC at *
    generalize ml ds = DS at *
    generalize bt B = BT at *
    simp [st4_c_law, t1, t2, s1, s2]
  have e5 : st5_c_law [.val (scrD ns), .val (ml ds), .no, .val (ml (evL ds)), .val (bt B), .val (.str (textT B)), .no, .no, .no, .no, .no, .no, .no, .no, .no, .no, .no, .no] = .nx [.val (scrD ns), .val (ml ds), .no, .val (ml (evL ds)), .val (bt B), .val (.str (textT B)), .val (.list ((B.map bellT).map .str)), .no, .no, .no, .no, .no, .no, .no, .no, .no, .no, .no] := by
    have sp := split_p (text_tx hB) (by decide)
    rw [text_prts hB] at sp
    generalize (B.map bellT).map PyData.str = PP at *
    generalize textT B = T at *
    generalize ml (evL ds) = EE at *
    generalize scrD ns = SC at *
    generalize ml ds = DS at *
    generalize bt B = BT at *
    simp [st5_c_law, sp]
  obtain ⟨y2, y7, y8, y9, y10, y11, y12, y13, y14, f6⟩ := turns_loop (sc := scrD ns) (x3 := .val (ml (evL ds))) (x15 := .no) (x16 := .no) (x17 := .no) hr hl hB (rg 0 9) .no .no .no .no .no .no .no .no .no fun k hk => by have := mem_rg.mp hk; omega
  have e6 : st6_c_law [.val (scrD ns), .val (ml ds), .no, .val (ml (evL ds)), .val (bt B), .val (.str (textT B)), .val (.list ((B.map bellT).map .str)), .no, .no, .no, .no, .no, .no, .no, .no, .no, .no, .no] = .nx [.val (scrD ns), .val (ml ds), y2, .val (ml (evL ds)), .val (bt B), .val (.str (textT B)), .val (.list ((B.map bellT).map .str)), y7, y8, y9, y10, y11, y12, y13, y14, .no, .no, .no] := by
    have r : range1D [.int 9] = some ((rg 0 9).map .int) := range1_rg 9 (by decide)
    generalize (rg 0 9).map PyData.int = RR at *
    generalize (B.map bellT).map PyData.str = PP at *
    generalize textT B = T at *
    generalize ml (evL ds) = EE at *
    generalize scrD ns = SC at *
    generalize ml ds = DS at *
    generalize bt B = BT at *
    simp [-range1_i, st6_c_law, r, f6]
  obtain ⟨z15, f7⟩ := Q.for_same (i := 15) (b := b2_law) (ρ := [.val (scrD ns), .val (ml ds), y2, .val (ml (evL ds)), .val (bt B), .val (.str (textT B)), .val (.list ((B.map bellT).map .str)), y7, y8, y9, y10, y11, y12, y13, y14, .no, .no, .no]) [.none, .int 5, .tuple [.str "a 0 1"], .bool true] .no fun d hd => by
    have c : isStrD d = false := by
      simp only [List.mem_cons, List.not_mem_nil, or_false] at hd
      rcases hd with rfl | rfl | rfl | rfl <;> rfl
    have t := told_other c
    have s := (wr_part (j := 0) (by decide)).same
    rw [← k_same] at s
    have pd : partD 0 = .tuple [.str "part", .int 0] := rfl
    rw [pd] at t s
    generalize (B.map bellT).map PyData.str = PP at *
    generalize textT B = T at *
    generalize ml (evL ds) = EE at *
    generalize scrD ns = SC at *
    generalize ml ds = DS at *
    generalize bt B = BT at *
    simp [b2_law, t, s]
  have e7 : st7_c_law [.val (scrD ns), .val (ml ds), y2, .val (ml (evL ds)), .val (bt B), .val (.str (textT B)), .val (.list ((B.map bellT).map .str)), y7, y8, y9, y10, y11, y12, y13, y14, .no, .no, .no] = .nx [.val (scrD ns), .val (ml ds), y2, .val (ml (evL ds)), .val (bt B), .val (.str (textT B)), .val (.list ((B.map bellT).map .str)), y7, y8, y9, y10, y11, y12, y13, y14, z15, .no, .no] := by
    have f7 : forLoop (sName 15) b2_law [.none, .int 5, .tuple [.str "a 0 1"], .bool true] [.val (scrD ns), .val (ml ds), y2, .val (ml (evL ds)), .val (bt B), .val (.str (textT B)), .val (.list ((B.map bellT).map .str)), y7, y8, y9, y10, y11, y12, y13, y14, .no, .no, .no] = .nx [.val (scrD ns), .val (ml ds), y2, .val (ml (evL ds)), .val (bt B), .val (.str (textT B)), .val (.list ((B.map bellT).map .str)), y7, y8, y9, y10, y11, y12, y13, y14, z15, .no, .no] := f7
    generalize (B.map bellT).map PyData.str = PP at *
    generalize textT B = T at *
    generalize ml (evL ds) = EE at *
    generalize scrD ns = SC at *
    generalize ml ds = DS at *
    generalize bt B = BT at *
    simp [st7_c_law, f7]
  have e8 : st8_c_law [.val (scrD ns), .val (ml ds), y2, .val (ml (evL ds)), .val (bt B), .val (.str (textT B)), .val (.list ((B.map bellT).map .str)), y7, y8, y9, y10, y11, y12, y13, y14, z15, .no, .no] = .nx [.val (scrD ns), .val (ml ds), y2, .val (ml (evL ds)), .val (bt B), .val (.str (textT B)), .val (.list ((B.map bellT).map .str)), y7, y8, y9, y10, y11, y12, y13, y14, z15, .no, .no] := by
    have wo : f__law_wrongs [] = .ok (.list DL.B.wrongs) := DL.B.wrongs_ok
    have lc : lcGo (sName 15) cYes (cCall f__law_refused (aCons (cVar 15) aNil)) [.val (scrD ns), .val (ml ds), y2, .val (ml (evL ds)), .val (bt B), .val (.str (textT B)), .val (.list ((B.map bellT).map .str)), y7, y8, y9, y10, y11, y12, y13, y14, .no, .no, .no] DL.B.wrongs = .ok ((DL.B.wrongs.map fun _ => true).map .bool) := by
      have a := lc_mapA (s := sName 15) (t := cYes) (el := cCall f__law_refused (aCons (cVar 15) aNil)) (ρ := [.val (scrD ns), .val (ml ds), y2, .val (ml (evL ds)), .val (bt B), .val (.str (textT B)), .val (.list ((B.map bellT).map .str)), y7, y8, y9, y10, y11, y12, y13, y14, .no, .no, .no]) (g := id) (φ := fun _ => PyData.bool true) DL.B.wrongs fun d hd => ⟨_, rfl, rfl, by simp [refused_ok hd]⟩
      rw [List.map_id] at a
      rw [List.map_map]
      exact a
    have ba := bAll_b (bs := DL.B.wrongs.map fun _ => true)
    have bb : (DL.B.wrongs.map fun _ => true).all id = true := by simp
    rw [bb] at ba
    have wl : DL.B.wrongs.length ≤ 100000 := by decide
    generalize (DL.B.wrongs.map fun _ => true).map PyData.bool = BB at *
    generalize DL.B.wrongs = WW at *
    generalize (B.map bellT).map PyData.str = PP at *
    generalize textT B = T at *
    generalize ml (evL ds) = EE at *
    generalize scrD ns = SC at *
    generalize ml ds = DS at *
    generalize bt B = BT at *
    simp [st8_c_law, wo, wipeR, lc, ba, wl]
  have sb : six.map bellT = List.replicate 6 ("a 0 1" : Str) := by decide +kernel
  have e9 : st9_c_law [.val (scrD ns), .val (ml ds), y2, .val (ml (evL ds)), .val (bt B), .val (.str (textT B)), .val (.list ((B.map bellT).map .str)), y7, y8, y9, y10, y11, y12, y13, y14, z15, .no, .no] = .nx [.val (scrD ns), .val (ml ds), y2, .val (ml (evL ds)), .val (bt B), .val (.str (textT B)), .val (.list ((B.map bellT).map .str)), y7, y8, y9, y10, y11, y12, y13, y14, z15, .val (.str (textT six)), .no] := by
    have j := text_join six_bs
    rw [sb] at j
    have m : oMul1 (.list [.str "a 0 1"]) (.int 6) = some (.list ((List.replicate 6 ("a 0 1" : Str)).map .str)) := rfl
    generalize (List.replicate 6 ("a 0 1" : Str)).map PyData.str = L6 at *
    generalize textT six = T6 at *
    generalize (B.map bellT).map PyData.str = PP at *
    generalize textT B = T at *
    generalize ml (evL ds) = EE at *
    generalize scrD ns = SC at *
    generalize ml ds = DS at *
    generalize bt B = BT at *
    simp [-oMul_li, -oJoin_l, st9_c_law, m, j]
  have e10 : st10_c_law [.val (scrD ns), .val (ml ds), y2, .val (ml (evL ds)), .val (bt B), .val (.str (textT B)), .val (.list ((B.map bellT).map .str)), y7, y8, y9, y10, y11, y12, y13, y14, z15, .val (.str (textT six)), .no] = .rt (.bool true) := by
    have t6 := told_text (text_tx six_bs) (by decide)
    rw [(text_of six_bs).2] at t6
    have tx7 : Tx (textT six ++ ("; a 0 1" : Str)) (66 + 10) := tx_app (text_tx six_bs) ⟨by decide +kernel, by decide +kernel⟩
    have a7 := ad_ok (text_tx six_bs) (b := "; a 0 1") (m := 10) ⟨by decide +kernel, by decide +kernel⟩ (by decide)
    have t7 := told_text tx7 (by decide)
    have r7 : resD (textT six ++ ("; a 0 1" : Str)) = partD 7 := by
      have f : fst (prts (textT six ++ ("; a 0 1" : Str))) 0 = some 7 := by decide +kernel
      unfold resD
      rw [f]
    rw [r7] at t7
    have t0 := told_text (t := "") (n := 0) ⟨by decide +kernel, by decide +kernel⟩ (by decide)
    have r0 : resD "" = partD 1 := by
      have f : fst (prts "") 0 = some 1 := by decide +kernel
      unfold resD
      rw [f]
    rw [r0] at t0
    have s7 := (wr_part (j := 7) (by decide)).same
    have s1 := (wr_part (j := 1) (by decide)).same
    have s6 := (wr_res (textT six)).same
    rw [(text_of six_bs).2] at s6
    rw [← k_same] at s7 s1 s6
    have p7 : partD 7 = .tuple [.str "part", .int 7] := rfl
    have p1 : partD 1 = .tuple [.str "part", .int 1] := rfl
    have m6 : oMul1 (.tuple [.tuple [.str "a", .int 0, .int 1]]) (.int 6) = some (bt six) := rfl
    have p6 : toldT (bt six) = .tuple [.str "told", bt six] := rfl
    rw [p7] at t7 s7
    rw [p1] at t0 s1
    rw [p6] at t6 s6
    generalize bt six = B6 at *
    generalize textT six ++ ("; a 0 1" : Str) = T7 at *
    generalize textT six = T6 at *
    generalize (B.map bellT).map PyData.str = PP at *
    generalize textT B = T at *
    generalize ml (evL ds) = EE at *
    generalize scrD ns = SC at *
    generalize ml ds = DS at *
    generalize bt B = BT at *
    simp [-oAdd_ss, -oMul_ti, st10_c_law, a7, t7, t6, t0, s7, s1, s6, m6]
  show toR (c_law [.val (scrD ns), .no, .no, .no, .no, .no, .no, .no, .no, .no, .no, .no, .no, .no, .no, .no, .no, .no]) = _
  rw [eq_c_law, nx_of e0, nx_of e1, nx_of e2, nx_of e3, nx_of e4, nx_of e5, nx_of e6, nx_of e7, nx_of e8, nx_of e9, e10]
  rfl
end DL.K48

/-! W_K48 -/
namespace DL.K48
open PySem L2 PySem.Spec PyProof.Rows
def topS (i : Nat) : Stmt := PySem.Challenge.pw_sandwright_k48_whole_bell_texts.main.body.getD i (.Pass ⟨0, 0, 0, 0⟩)
abbrev s__law_draws : Stmt := topS 22
abbrev N__law_draws : List Str := ["script", "many", "draws", "seed", "cell", "number", "k"]
theorem sc__law_draws : FnScope N__law_draws ["script", "many"] (defScope s__law_draws) := ⟨rfl, rfl, rfl, by decide +kernel, rfl, by decide +kernel, by decide +kernel⟩
abbrev s__law_bells : Stmt := topS 23
abbrev N__law_bells : List Str := ["draws", "everies", "most", "bells", "k", "tone", "first"]
theorem sc__law_bells : FnScope N__law_bells ["draws", "everies", "most"] (defScope s__law_bells) := ⟨rfl, rfl, rfl, by decide +kernel, rfl, by decide +kernel, by decide +kernel⟩
abbrev s__law_text : Stmt := topS 28
abbrev N__law_text : List Str := ["bells", "bell"]
theorem sc__law_text : FnScope N__law_text ["bells"] (defScope s__law_text) := ⟨rfl, rfl, rfl, by decide +kernel, rfl, by decide +kernel, by decide +kernel⟩
abbrev s__law_same : Stmt := topS 27
abbrev N__law_same : List Str := ["told", "due"]
theorem sc__law_same : FnScope N__law_same ["told", "due"] (defScope s__law_same) := ⟨rfl, rfl, rfl, by decide +kernel, rfl, by decide +kernel, by decide +kernel⟩
abbrev s__number : Stmt := topS 18
abbrev N__number : List Str := ["word", "sign"]
theorem sc__number : FnScope N__number ["word"] (defScope s__number) := ⟨rfl, rfl, rfl, by decide +kernel, rfl, by decide +kernel, by decide +kernel⟩
abbrev s_is_whole : Stmt := topS 5
abbrev N_is_whole : List Str := ["value", "least", "most"]
theorem sc_is_whole : FnScope N_is_whole ["value", "least", "most"] (defScope s_is_whole) := ⟨rfl, rfl, rfl, by decide +kernel, rfl, by decide +kernel, by decide +kernel⟩
abbrev s_is_bell : Stmt := topS 11
abbrev N_is_bell : List Str := ["value"]
theorem sc_is_bell : FnScope N_is_bell ["value"] (defScope s_is_bell) := ⟨rfl, rfl, rfl, by decide +kernel, rfl, by decide +kernel, by decide +kernel⟩
abbrev s_are_bells : Stmt := topS 12
abbrev N_are_bells : List Str := ["value", "one"]
theorem sc_are_bells : FnScope N_are_bells ["value"] (defScope s_are_bells) := ⟨rfl, rfl, rfl, by decide +kernel, rfl, by decide +kernel, by decide +kernel⟩
abbrev s__bell : Stmt := topS 19
abbrev N__bell : List Str := ["part", "words", "bell"]
theorem sc__bell : FnScope N__bell ["part"] (defScope s__bell) := ⟨rfl, rfl, rfl, by decide +kernel, rfl, by decide +kernel, by decide +kernel⟩
abbrev s_bells_of : Stmt := topS 20
abbrev N_bells_of : List Str := ["text", "bells", "number", "part", "bell"]
theorem sc_bells_of : FnScope N_bells_of ["text"] (defScope s_bells_of) := ⟨rfl, rfl, rfl, by decide +kernel, rfl, by decide +kernel, by decide +kernel⟩
abbrev s__law_told : Stmt := topS 31
abbrev N__law_told : List Str := ["text", "e"]
theorem sc__law_told : FnScope N__law_told ["text"] (defScope s__law_told) := ⟨rfl, rfl, rfl, by decide +kernel, rfl, by decide +kernel, by decide +kernel⟩
abbrev s_check_bells : Stmt := topS 13
abbrev N_check_bells : List Str := ["bells"]
theorem sc_check_bells : FnScope N_check_bells ["bells"] (defScope s_check_bells) := ⟨rfl, rfl, rfl, by decide +kernel, rfl, by decide +kernel, by decide +kernel⟩
abbrev s_bells_text : Stmt := topS 17
abbrev N_bells_text : List Str := ["bells", "tone", "first", "every"]
theorem sc_bells_text : FnScope N_bells_text ["bells"] (defScope s_bells_text) := ⟨rfl, rfl, rfl, by decide +kernel, rfl, by decide +kernel, by decide +kernel⟩
abbrev s__law_refused : Stmt := topS 32
abbrev N__law_refused : List Str := ["value"]
theorem sc__law_refused : FnScope N__law_refused ["value"] (defScope s__law_refused) := ⟨rfl, rfl, rfl, by decide +kernel, rfl, by decide +kernel, by decide +kernel⟩
abbrev s__law_bell : Stmt := topS 29
abbrev N__law_bell : List Str := ["part", "words", "firsts", "everies", "k"]
theorem sc__law_bell : FnScope N__law_bell ["part"] (defScope s__law_bell) := ⟨rfl, rfl, rfl, by decide +kernel, rfl, by decide +kernel, by decide +kernel⟩
abbrev s__law_due : Stmt := topS 30
abbrev N__law_due : List Str := ["text", "bells", "wrong", "part", "k"]
theorem sc__law_due : FnScope N__law_due ["text"] (defScope s__law_due) := ⟨rfl, rfl, rfl, by decide +kernel, rfl, by decide +kernel, by decide +kernel⟩
abbrev s__law_wrongs : Stmt := topS 26
abbrev N__law_wrongs : List Str := ["bell"]
theorem sc__law_wrongs : FnScope N__law_wrongs [] (defScope s__law_wrongs) := ⟨rfl, rfl, rfl, by decide +kernel, rfl, by decide +kernel, by decide +kernel⟩
abbrev s_law : Stmt := topS 33
abbrev N_law : List Str := ["script", "draws", "k", "everies", "bells", "text", "parts", "number", "at", "spot", "sign", "new", "bents", "texts", "one", "wrong", "six", "bent"]
theorem sc_law : FnScope N_law ["script"] (defScope s_law) := ⟨rfl, rfl, rfl, by decide +kernel, rfl, by decide +kernel, by decide +kernel⟩
structure Txt (K : PySem.W.Frag) (mg : Str → Option Value) (C_BadText C_BadBells : Addr) (t_FIGURES t_TONES t_MOST_FIRST t_MOST_EVERY t_MOST_BELLS t_BETWEEN : Tok) : Prop where
  b_abs : mg "abs" = none
  b_all : mg "all" = none
  b_bool : mg "bool" = none
  b_enumerate : mg "enumerate" = none
  b_int : mg "int" = none
  b_isinstance : mg "isinstance" = none
  b_len : mg "len" = none
  b_list : mg "list" = none
  b_range : mg "range" = none
  b_repr : mg "repr" = none
  b_str : mg "str" = none
  b_super : mg "super" = none
  b_tuple : mg "tuple" = none
  c_FIGURES : mg "FIGURES" = some (.str "0123456789" t_FIGURES)
  c_TONES : mg "TONES" = some (.str "abcdefgh" t_TONES)
  c_MOST_FIRST : mg "MOST_FIRST" = some (.int 120 t_MOST_FIRST)
  c_MOST_EVERY : mg "MOST_EVERY" = some (.int 60 t_MOST_EVERY)
  c_MOST_BELLS : mg "MOST_BELLS" = some (.int 6 t_MOST_BELLS)
  c_BETWEEN : mg "BETWEEN" = some (.str "; " t_BETWEEN)
  x_BadText : ExcG K mg "BadText" C_BadText "part"
  x_BadBells : ExcF K mg "BadBells" C_BadBells
  w_part : FldF K mg "part" w_part
  h_BadText : HF K mg (.ref C_BadText) errs ["BadText"]
  h_BadBells : HF K mg (.ref C_BadBells) errs ["BadBells"]
section
variable {P : Program} {w : World} {K : PySem.W.Frag} {mg : Str → Option Value} {base : Heap} {C_BadText C_BadBells : Addr} {t_FIGURES t_TONES t_MOST_FIRST t_MOST_EVERY t_MOST_BELLS t_BETWEEN : Tok}
theorem ok__law_draws {f : Addr} {fd : FuncData} (T : Txt K mg C_BadText C_BadBells t_FIGURES t_TONES t_MOST_FIRST t_MOST_EVERY t_MOST_BELLS t_BETWEEN) (Fn : Fun K "_law_draws" "_law_draws" s__law_draws f fd) : FnOk P w K mg base (L2.CX P w) 1 f fd ["script", "many"] (spD K mg 2 f__law_draws) :=
  fn_okD (k := 0) (g := c__law_draws) rfl rfl rfl Fn sc__law_draws fun cdv A outer s H E hr tk hp =>
  (dss_cons (ds_asg (i := 2) sc__law_draws.nd rfl (by first | exact Or.inl rfl | exact Or.inr rfl) (DN.x (dn_lst da_nil)))
  (dss_cons (ds_asg (i := 3) sc__law_draws.nd rfl (by first | exact Or.inl rfl | exact Or.inr rfl) (DE.x de_int))
  (dss_cons (ds_for hp rfl (di_seq (de_sl (db_var 0) do_none (do_some de_int))) (dg_name (i := 4) sc__law_draws.nd rfl (by first | exact Or.inl rfl | exact Or.inr rfl)) (dss_cons (ds_asg (i := 5) sc__law_draws.nd rfl (by first | exact Or.inl rfl | exact Or.inr rfl) (DE.x (de_callB rc_abs call_abs (by rfl) T.b_abs bt_abs (dab_cons (db_var 4) dab_nil))))
  (dss_cons (ds_asg (i := 3) sc__law_draws.nd rfl (by first | exact Or.inl rfl | exact Or.inr rfl) (DE.x (de_op op_mod rd_mod (DE.bor (de_callTy rc_int call_intD (by rfl) T.b_int bt_int (dab_cons (DE.bor (de_op op_addD rd_add (DE.bor (de_op op_addD rd_add (DE.bor (de_op op_mulD rd_mul (db_var 3) (DE.bor de_int))) (db_var 5))) (DE.bor de_int))) dab_nil))) (DE.bor de_int))))
  (dss_one (ds_if (dt_cmp op_ge rd_ge (db_var 5) (DE.bor (de_op op_pow rd_pow (DE.bor de_int) (DE.bor de_int))) (nomark _)) (dss_one (ds_for hp rfl (di_range1 (by rfl) T.b_range (da_cons de_int da_nil)) (dg_name (i := 6) sc__law_draws.nd rfl (by first | exact Or.inl rfl | exact Or.inr rfl)) (dss_one (ds_if (dt_cmp op_gt rd_gt (db_var 5) (DE.bor de_int) (nomark _)) (dss_cons (ds_app (i := 2) rfl (by first | exact Or.inl rfl | exact Or.inr (Or.inl rfl)) (de_op op_mod rd_mod (DE.bor (de_callTy rc_int call_intD (by rfl) T.b_int bt_int (dab_cons (db_var 5) dab_nil))) (DE.bor de_int)))
  (dss_one (ds_asg (i := 5) sc__law_draws.nd rfl (by first | exact Or.inl rfl | exact Or.inr rfl) (DE.x (de_op op_fdivW rd_div (db_var 5) (DE.bor de_int)))))) dss_nil)))) (dss_one (ds_app (i := 2) rfl (by first | exact Or.inl rfl | exact Or.inr (Or.inl rfl)) (de_op op_mod rd_mod (DE.bor (de_op op_fdivW rd_div (DE.bor (de_callTy rc_int call_intD (by rfl) T.b_int bt_int (dab_cons (DE.bor (de_op op_addD rd_add (DE.bor (de_op op_mulD rd_mul (db_var 3) (DE.bor de_int))) (DE.bor de_int))) dab_nil))) (DE.bor de_int))) (DE.bor de_int)))))))))
  (dss_cons (ds_for hp rfl (di_range1 (by rfl) T.b_range (da_cons (de_var 1) da_nil)) (dg_name (i := 6) sc__law_draws.nd rfl (by first | exact Or.inl rfl | exact Or.inr rfl)) (dss_one (ds_if (dt_cmp op_ltD rd_lt (DE.bor (de_callB rc_len call_len (by rfl) T.b_len bt_len (dab_cons (db_var 2) dab_nil))) (db_var 1) (nomark _)) (dss_cons (ds_asg (i := 3) sc__law_draws.nd rfl (by first | exact Or.inl rfl | exact Or.inr rfl) (DE.x (de_op op_mod rd_mod (DE.bor (de_callTy rc_int call_intD (by rfl) T.b_int bt_int (dab_cons (DE.bor (de_op op_addD rd_add (DE.bor (de_op op_addD rd_add (DE.bor (de_op op_mulD rd_mul (db_var 3) (DE.bor de_int))) (db_var 6))) (DE.bor de_int))) dab_nil))) (DE.bor de_int))))
  (dss_one (ds_app (i := 2) rfl (by first | exact Or.inl rfl | exact Or.inr (Or.inl rfl)) (de_op op_mod rd_mod (DE.bor (de_op op_fdivW rd_div (DE.bor (de_callTy rc_int call_intD (by rfl) T.b_int bt_int (dab_cons (db_var 3) dab_nil))) (DE.bor de_int))) (DE.bor de_int))))) dss_nil)))
  (dss_one (ds_ret (de_sl (db_var 2) do_none (do_some (de_var 1)))))))))
theorem ok__law_bells {f : Addr} {fd : FuncData} (T : Txt K mg C_BadText C_BadBells t_FIGURES t_TONES t_MOST_FIRST t_MOST_EVERY t_MOST_BELLS t_BETWEEN) (Fn : Fun K "_law_bells" "_law_bells" s__law_bells f fd) : FnOk P w K mg base (L2.CX P w) 1 f fd ["draws", "everies", "most"] (spD K mg 3 f__law_bells) :=
  fn_okD (k := 0) (g := c__law_bells) rfl rfl rfl Fn sc__law_bells fun cdv A outer s H E hr tk hp =>
  (dss_cons (ds_asg (i := 3) sc__law_bells.nd rfl (by first | exact Or.inl rfl | exact Or.inr rfl) (DN.x (dn_lst da_nil)))
  (dss_cons (ds_for hp rfl (di_range1 (by rfl) T.b_range (da_cons (de_op op_addD rd_add (DE.bor de_int) (DE.bor (de_op op_mod rd_mod (DE.bor (de_callTy rc_int call_intD (by rfl) T.b_int bt_int (dab_cons (DE.bor (de_ix (ixA (room1 hr)) rd_ixA (db_var 0) (DE.bor de_int))) dab_nil))) (DE.bor de_int)))) da_nil)) (dg_name (i := 4) sc__law_bells.nd rfl (by first | exact Or.inl rfl | exact Or.inr rfl)) (dss_cons (ds_par (i := 5) (j := 6) rfl sc__law_bells.nd rfl rfl (by decide) rfl rfl (DE.x (de_ix (ixA (room1 hr)) rd_ixA (DE.bor de_str) (DE.bor (de_op op_mod rd_mod (DE.bor (de_callTy rc_int call_intD (by rfl) T.b_int bt_int (dab_cons (DE.bor (de_ix (ixA (room1 hr)) rd_ixA (db_var 0) (DE.bor (de_op op_addD rd_add (DE.bor de_int) (DE.bor (de_op op_mulD rd_mul (DE.bor de_int) (db_var 4))))))) dab_nil))) (DE.bor de_int))))) (DE.x (de_op op_mod rd_mod (DE.bor (de_callTy rc_int call_intD (by rfl) T.b_int bt_int (dab_cons (DE.bor (de_ix (ixA (room1 hr)) rd_ixA (db_var 0) (DE.bor (de_op op_addD rd_add (DE.bor de_int) (DE.bor (de_op op_mulD rd_mul (DE.bor de_int) (db_var 4))))))) dab_nil))) (DE.bor (de_op op_addD rd_add (db_var 2) (DE.bor de_int))))) rfl)
  (dss_one (ds_app (i := 3) rfl (by first | exact Or.inl rfl | exact Or.inr (Or.inl rfl)) (de_tup (da_cons (de_var 5) (da_cons (de_var 6) (da_cons (de_ix (ixA (room1 hr)) rd_ixA (db_var 1) (DE.bor (de_op op_mod rd_mod (DE.bor (de_callTy rc_int call_intD (by rfl) T.b_int bt_int (dab_cons (DE.bor (de_ix (ixA (room1 hr)) rd_ixA (db_var 0) (DE.bor (de_op op_addD rd_add (DE.bor de_int) (DE.bor (de_op op_mulD rd_mul (DE.bor de_int) (db_var 4))))))) dab_nil))) (DE.bor (de_callB rc_len call_len (by rfl) T.b_len bt_len (dab_cons (db_var 1) dab_nil)))))) da_nil))))))))
  (dss_one (ds_ret (de_callTy rc_tuple call_tuple_of (by rfl) T.b_tuple bt_tuple (dab_cons (db_var 3) dab_nil))))))
theorem ok__law_text {f : Addr} {fd : FuncData} (T : Txt K mg C_BadText C_BadBells t_FIGURES t_TONES t_MOST_FIRST t_MOST_EVERY t_MOST_BELLS t_BETWEEN) (Fn : Fun K "_law_text" "_law_text" s__law_text f fd) : FnOk P w K mg base (L2.CX P w) 1 f fd ["bells"] (spD K mg 1 f__law_text) :=
  fn_okD (k := 0) (g := c__law_text) rfl rfl rfl Fn sc__law_text fun cdv A outer s H E hr tk hp =>
  (dss_one (ds_ret (de_join de_str (DE.bor (DN.val (dn_lc rfl sc__law_text.nd (dib_seq (db_var 0)) (blkOk_by (N := N__law_text) (sc := defScope s__law_text) (own := [("bell", 1)]) (by decide +kernel)) (fun _ _ _ _ _ => (dg_name (i := 1) sc__law_text.nd rfl (by first | exact Or.inl rfl | exact Or.inr rfl))) (fun _ _ _ _ _ => dts_nil) (fun _ _ _ _ _ => (de_op op_addD rd_add (DE.bor (de_op op_addD rd_add (DE.bor (de_op op_addD rd_add (DE.bor (de_op op_addD rd_add (DE.bor (de_ix (ixA (room1 hr)) rd_ixA (db_var 1) (DE.bor de_int))) (DE.bor de_str))) (DE.bor (de_callTy rc_str call_str_int (by rfl) T.b_str bt_str (dab_cons (DE.bor (de_ix (ixA (room1 hr)) rd_ixA (db_var 1) (DE.bor de_int))) dab_nil))))) (DE.bor de_str))) (DE.bor (de_callTy rc_str call_str_int (by rfl) T.b_str bt_str (dab_cons (DE.bor (de_ix (ixA (room1 hr)) rd_ixA (db_var 1) (DE.bor de_int))) dab_nil))))) rfl (by decide)))))))
theorem ok__law_same {f : Addr} {fd : FuncData} (T : Txt K mg C_BadText C_BadBells t_FIGURES t_TONES t_MOST_FIRST t_MOST_EVERY t_MOST_BELLS t_BETWEEN) (Fn : Fun K "_law_same" "_law_same" s__law_same f fd) : FnOkG P w K mg base (L2.CX P w) 1 f fd ["told", "due"] (spD K mg 2 f__law_same) :=
  fn_okG (k := 0) (g := c__law_same) rfl rfl rfl Fn sc__law_same fun cdv A outer s H E hr gd tk hp =>
  (dss_one (ds_ret (de_and (de_cmp (op_eqD (room64 hr)) rd_eq (db_var 0) (db_var 1) (nomark _)) (de_one (de_cmp op_eq rd_eqS (DE.bor (de_callB rc_repr (cr_repr gd (room64 hr)) (by rfl) T.b_repr bt_repr (dab_cons (db_var 0) dab_nil))) (DE.bor (de_callB rc_repr (cr_repr gd (room64 hr)) (by rfl) T.b_repr bt_repr (dab_cons (db_var 1) dab_nil))) (nomark _))))))
theorem ok__number {f : Addr} {fd : FuncData} (T : Txt K mg C_BadText C_BadBells t_FIGURES t_TONES t_MOST_FIRST t_MOST_EVERY t_MOST_BELLS t_BETWEEN) (Fn : Fun K "_number" "_number" s__number f fd) : FnOk P w K mg base (L2.CX P w) 1 f fd ["word"] (spD K mg 1 f__number) :=
  fn_okD (k := 0) (g := c__number) rfl rfl rfl Fn sc__number fun cdv A outer s H E hr tk hp =>
  (dss_cons (ds_if (DW.dt (dw_or (dt_not (dt_chain op_le rd_le op_le rd_le (DE.bor de_int) (DE.bor (de_callB rc_len call_len (by rfl) T.b_len bt_len (dab_cons (db_var 0) dab_nil))) (DE.bor de_int))) (dw_or1 (dt_not (dt_val (de_callB rc_all (cr_all rfl) (by rfl) T.b_all bt_all (dab_cons (DE.bor (DN.val (dn_lc rfl sc__number.nd (DI.b (di_signs (de_var 0))) (blkOk_by (N := N__number) (sc := defScope s__number) (own := [("sign", 1)]) (by decide +kernel)) (fun _ _ _ _ _ => (dg_name (i := 1) sc__number.nd rfl (by first | exact Or.inl rfl | exact Or.inr rfl))) (fun _ _ _ _ _ => dts_nil) (fun _ _ _ _ _ => (de_cmp (op_inB (room65 hr)) rd_inB (db_var 1) (DE.bor (de_gstr (by rfl) T.c_FIGURES)) (by with_unfolding_all rfl))) rfl (by decide)))) dab_nil))))))) (dss_one (ds_ret de_non)) dss_nil)
  (dss_one (ds_ret (de_if (DW.dt (dw_or (dt_cmp (op_eqD (room64 hr)) rd_eq (db_var 0) (DE.bor de_str) (nomark _)) (dw_or1 (dt_cmp (op_neD (room64 hr)) rd_ne (DE.bor (de_ix (ixA (room1 hr)) rd_ixA (db_var 0) (DE.bor de_int))) (DE.bor de_str) (nomark _))))) (de_callTy rc_int call_intD (by rfl) T.b_int bt_int (dab_cons (db_var 0) dab_nil)) de_non))))
theorem ok_is_whole {f : Addr} {fd : FuncData} (T : Txt K mg C_BadText C_BadBells t_FIGURES t_TONES t_MOST_FIRST t_MOST_EVERY t_MOST_BELLS t_BETWEEN) (Fn : Fun K "is_whole" "is_whole" s_is_whole f fd) : FnOk P w K mg base (L2.CX P w) 1 f fd ["value", "least", "most"] (spD K mg 3 f_is_whole) :=
  fn_okD (k := 0) (g := c_is_whole) rfl rfl rfl Fn sc_is_whole fun cdv A outer s H E hr tk hp =>
  (dss_one (ds_ret (de_and (de_isinst is_int (by rfl) T.b_isinstance (by rfl) T.b_int (db_var 0)) (de_and (de_not (de_isinst is_bool (by rfl) T.b_isinstance (by rfl) T.b_bool (db_var 0))) (de_one (de_chain op_le rd_le op_le rd_le (db_var 1) (db_var 0) (db_var 2)))))))
theorem ok_is_bell {f : Addr} {fd : FuncData} (T : Txt K mg C_BadText C_BadBells t_FIGURES t_TONES t_MOST_FIRST t_MOST_EVERY t_MOST_BELLS t_BETWEEN) (Fn : Fun K "is_bell" "is_bell" s_is_bell f fd) (k_is_whole : Callee P w K mg base 1 "is_whole" 3 f_is_whole) : FnOk P w K mg base (L2.CX P w) 2 f fd ["value"] (spD K mg 1 f_is_bell) :=
  fn_okD (k := 1) (g := c_is_bell) rfl rfl rfl Fn sc_is_bell fun cdv A outer s H E hr tk hp =>
  (dss_cons (ds_if (DW.dt (dw_or (dt_not (dt_val (de_isinst is_tuple (by rfl) T.b_isinstance (by rfl) T.b_tuple (db_var 0)))) (dw_or1 (dt_cmp (op_neD (room64 hr)) rd_ne (DE.bor (de_callB rc_len call_len (by rfl) T.b_len bt_len (dab_cons (db_var 0) dab_nil))) (DE.bor de_int) (nomark _))))) (dss_one (ds_ret de_bl)) dss_nil)
  (dss_cons (ds_if (DW.dt (dw_or (dt_not (dt_val (de_isinst is_str (by rfl) T.b_isinstance (by rfl) T.b_str (DE.bor (de_ix (ixA (room1 hr)) rd_ixA (db_var 0) (DE.bor de_int)))))) (dw_or (dt_cmp (op_neD (room64 hr)) rd_ne (DE.bor (de_callB rc_len call_len (by rfl) T.b_len bt_len (dab_cons (DE.bor (de_ix (ixA (room1 hr)) rd_ixA (db_var 0) (DE.bor de_int))) dab_nil))) (DE.bor de_int) (nomark _)) (dw_or1 (dt_cmp (op_notinB (room65 hr)) rd_notinB (DE.bor (de_ix (ixA (room1 hr)) rd_ixA (db_var 0) (DE.bor de_int))) (DE.bor (de_gstr (by rfl) T.c_TONES)) (by with_unfolding_all rfl)))))) (dss_one (ds_ret de_bl)) dss_nil)
  (dss_one (ds_ret (de_and (de_call k_is_whole hr (by decide) (by rfl) tk (da_cons (de_ix (ixA (room1 hr)) rd_ixA (db_var 0) (DE.bor de_int)) (da_cons de_int (da_cons (de_gint (by rfl) T.c_MOST_FIRST) da_nil)))) (de_one (de_call k_is_whole hr (by decide) (by rfl) tk (da_cons (de_ix (ixA (room1 hr)) rd_ixA (db_var 0) (DE.bor de_int)) (da_cons de_int (da_cons (de_gint (by rfl) T.c_MOST_EVERY) da_nil))))))))))
theorem ok_are_bells {f : Addr} {fd : FuncData} (T : Txt K mg C_BadText C_BadBells t_FIGURES t_TONES t_MOST_FIRST t_MOST_EVERY t_MOST_BELLS t_BETWEEN) (Fn : Fun K "are_bells" "are_bells" s_are_bells f fd) (k_is_bell : Callee P w K mg base 2 "is_bell" 1 f_is_bell) : FnOk P w K mg base (L2.CX P w) 3 f fd ["value"] (spD K mg 1 f_are_bells) :=
  fn_okD (k := 2) (g := c_are_bells) rfl rfl rfl Fn sc_are_bells fun cdv A outer s H E hr tk hp =>
  (dss_one (ds_ret (de_and (de_isinst is_tuple (by rfl) T.b_isinstance (by rfl) T.b_tuple (db_var 0)) (de_and (de_chain op_le rd_le op_le rd_le (DE.bor de_int) (DE.bor (de_callB rc_len call_len (by rfl) T.b_len bt_len (dab_cons (db_var 0) dab_nil))) (DE.bor (de_gint (by rfl) T.c_MOST_BELLS))) (de_one (de_callB rc_all (cr_all rfl) (by rfl) T.b_all bt_all (dab_cons (DE.bor (DN.val (dn_lc rfl sc_are_bells.nd (dib_seq (db_var 0)) (blkOk_by (N := N_are_bells) (sc := defScope s_are_bells) (own := [("one", 1)]) (by decide +kernel)) (fun _ _ _ _ _ => (dg_name (i := 1) sc_are_bells.nd rfl (by first | exact Or.inl rfl | exact Or.inr rfl))) (fun _ _ _ _ _ => dts_nil) (fun _ _ _ _ _ => (de_call k_is_bell hr (by decide) (by rfl) takes0 (da_cons (de_var 1) da_nil))) rfl (by decide)))) dab_nil)))))))
theorem ok__bell {f : Addr} {fd : FuncData} (T : Txt K mg C_BadText C_BadBells t_FIGURES t_TONES t_MOST_FIRST t_MOST_EVERY t_MOST_BELLS t_BETWEEN) (Fn : Fun K "_bell" "_bell" s__bell f fd) (k__number : Callee P w K mg base 1 "_number" 1 f__number) (k_are_bells : Callee P w K mg base 3 "are_bells" 1 f_are_bells) : FnOk P w K mg base (L2.CX P w) 4 f fd ["part"] (spD K mg 1 f__bell) :=
  fn_okD (k := 3) (g := c__bell) rfl rfl rfl Fn sc__bell fun cdv A outer s H E hr tk hp =>
  (dss_cons (ds_asg (i := 1) sc__bell.nd rfl (by first | exact Or.inl rfl | exact Or.inr rfl) (DE.x (de_split (de_var 0) de_str)))
  (dss_cons (ds_if (dt_cmp (op_neD (room64 hr)) rd_ne (DE.bor (de_callB rc_len call_len (by rfl) T.b_len bt_len (dab_cons (db_var 1) dab_nil))) (DE.bor de_int) (nomark _)) (dss_one (ds_ret de_non)) dss_nil)
  (dss_cons (ds_asg (i := 2) sc__bell.nd rfl (by first | exact Or.inl rfl | exact Or.inr rfl) (DE.x (de_tup (da_cons (de_ix (ixA (room1 hr)) rd_ixA (db_var 1) (DE.bor de_int)) (da_cons (de_call k__number hr (by decide) (by rfl) tk (da_cons (de_ix (ixA (room1 hr)) rd_ixA (db_var 1) (DE.bor de_int)) da_nil)) (da_cons (de_call k__number hr (by decide) (by rfl) tk (da_cons (de_ix (ixA (room1 hr)) rd_ixA (db_var 1) (DE.bor de_int)) da_nil)) da_nil))))))
  (dss_one (ds_ret (de_if (dt_val (de_call k_are_bells hr (by decide) (by rfl) tk (da_cons (de_tup (da_cons (de_var 2) da_nil)) da_nil))) (de_var 2) de_non))))))
theorem ok_bells_of {f : Addr} {fd : FuncData} (T : Txt K mg C_BadText C_BadBells t_FIGURES t_TONES t_MOST_FIRST t_MOST_EVERY t_MOST_BELLS t_BETWEEN) (Fn : Fun K "bells_of" "bells_of" s_bells_of f fd) (k__bell : Callee P w K mg base 4 "_bell" 1 f__bell) (k_BadText : XFld P w K mg base 1 "BadText" C_BadText "part") : FnOk P w K mg base (L2.CX P w) 5 f fd ["text"] (spD K mg 1 f_bells_of) :=
  fn_okD (k := 4) (g := c_bells_of) rfl rfl rfl Fn sc_bells_of fun cdv A outer s H E hr tk hp =>
  (dss_cons (ds_if (dt_not (dt_val (de_isinst is_str (by rfl) T.b_isinstance (by rfl) T.b_str (db_var 0)))) (dss_one (ds_raiseA rfl k_BadText hr (by decide) tk (by rfl) de_int)) dss_nil)
  (dss_cons (ds_asg (i := 1) sc_bells_of.nd rfl (by first | exact Or.inl rfl | exact Or.inr rfl) (DN.x (dn_lst da_nil)))
  (dss_cons (ds_for hp rfl (di_enumA (by rfl) T.b_enumerate (da_cons (de_split (de_var 0) (de_gstr (by rfl) T.c_BETWEEN)) da_nil)) (dg_tup rfl (dgs_cons (dg_name (i := 2) sc_bells_of.nd rfl (by first | exact Or.inl rfl | exact Or.inr rfl)) (dgs_cons (dg_name (i := 3) sc_bells_of.nd rfl (by first | exact Or.inl rfl | exact Or.inr rfl)) dgs_nil)) (sCons_len (sCons_len sNil_len))) (dss_cons (ds_asg (i := 4) sc_bells_of.nd rfl (by first | exact Or.inl rfl | exact Or.inr rfl) (DE.x (de_call k__bell hr (by decide) (by rfl) tk (da_cons (de_var 3) da_nil))))
  (dss_cons (ds_if (DW.dt (dw_or (dt_cmp op_isN rd_is (db_var 4) (DE.bor de_non) (nomark _)) (dw_or1 (dt_cmp op_ge rd_ge (db_var 2) (DE.bor (de_gint (by rfl) T.c_MOST_BELLS)) (nomark _))))) (dss_one (ds_raiseA rfl k_BadText hr (by decide) tk (by rfl) (de_op op_addD rd_add (db_var 2) (DE.bor de_int)))) dss_nil)
  (dss_one (ds_app (i := 1) rfl (by first | exact Or.inl rfl | exact Or.inr (Or.inl rfl)) (de_var 4))))))
  (dss_one (ds_ret (de_callTy rc_tuple call_tuple_of (by rfl) T.b_tuple bt_tuple (dab_cons (db_var 1) dab_nil)))))))
theorem ok__law_told {f : Addr} {fd : FuncData} (T : Txt K mg C_BadText C_BadBells t_FIGURES t_TONES t_MOST_FIRST t_MOST_EVERY t_MOST_BELLS t_BETWEEN) (Fn : Fun K "_law_told" "_law_told" s__law_told f fd) (k_bells_of : Callee P w K mg base 5 "bells_of" 1 f_bells_of) : FnOk P w K mg base (L2.CX P w) 6 f fd ["text"] (spD K mg 1 f__law_told) :=
  fn_okD (k := 5) (g := c__law_told) rfl rfl rfl Fn sc__law_told fun cdv A outer s H E hr tk hp =>
  (dss_one (ds_try rfl rfl sc__law_told.nd tk (fun W pn xe tk hp => (dss_one (ds_ret (de_tup (da_cons de_str (da_cons (de_call k_bells_of hr (by decide) (by rfl) tk (da_cons (de_var 0) da_nil)) da_nil)))))) (.named ⟨by rfl, by decide, .inl T.x_BadText.gC⟩ T.h_BadText rfl rfl (ex_pair (ex_fld (i := 1) T.w_part)) .nil)))
theorem ok_check_bells {f : Addr} {fd : FuncData} (T : Txt K mg C_BadText C_BadBells t_FIGURES t_TONES t_MOST_FIRST t_MOST_EVERY t_MOST_BELLS t_BETWEEN) (Fn : Fun K "check_bells" "check_bells" s_check_bells f fd) (k_are_bells : Callee P w K mg base 3 "are_bells" 1 f_are_bells) : FnOk P w K mg base (L2.CX P w) 4 f fd ["bells"] (spD K mg 1 f_check_bells) :=
  fn_okD (k := 3) (g := c_check_bells) rfl rfl rfl Fn sc_check_bells fun cdv A outer s H E hr tk hp =>
  (dss_one (ds_if (dt_not (dt_val (de_call k_are_bells hr (by decide) (by rfl) tk (da_cons (de_var 0) da_nil)))) (dss_one (ds_raise rfl T.x_BadBells tk (by rfl))) dss_nil))
theorem ok_bells_text {f : Addr} {fd : FuncData} (T : Txt K mg C_BadText C_BadBells t_FIGURES t_TONES t_MOST_FIRST t_MOST_EVERY t_MOST_BELLS t_BETWEEN) (Fn : Fun K "bells_text" "bells_text" s_bells_text f fd) (k_check_bells : Callee P w K mg base 4 "check_bells" 1 f_check_bells) : FnOk P w K mg base (L2.CX P w) 5 f fd ["bells"] (spD K mg 1 f_bells_text) :=
  fn_okD (k := 4) (g := c_bells_text) rfl rfl rfl Fn sc_bells_text fun cdv A outer s H E hr tk hp =>
  (dss_cons (ds_drop (de_call k_check_bells hr (by decide) (by rfl) tk (da_cons (de_var 0) da_nil)))
  (dss_one (ds_ret (de_join (de_gstr (by rfl) T.c_BETWEEN) (DE.bor (DN.val (dn_lc rfl sc_bells_text.nd (dib_seq (db_var 0)) (blkOk_by (N := N_bells_text) (sc := defScope s_bells_text) (own := [("tone", 1), ("first", 2), ("every", 3)]) (by decide +kernel)) (fun _ _ _ _ _ => (dg_tup rfl (dgs_cons (dg_name (i := 1) sc_bells_text.nd rfl (by first | exact Or.inl rfl | exact Or.inr rfl)) (dgs_cons (dg_name (i := 2) sc_bells_text.nd rfl (by first | exact Or.inl rfl | exact Or.inr rfl)) (dgs_cons (dg_name (i := 3) sc_bells_text.nd rfl (by first | exact Or.inl rfl | exact Or.inr rfl)) dgs_nil))) (sCons_len (sCons_len (sCons_len sNil_len))))) (fun _ _ _ _ _ => dts_nil) (fun _ _ _ _ _ => (de_joined (.cons (de_fmt (de_var 1)) (.cons de_str (.cons (de_fmt (de_var 2)) (.cons de_str (.cons (de_fmt (de_var 3)) .nil))))))) rfl (by decide))))))))
theorem ok__law_refused {f : Addr} {fd : FuncData} (T : Txt K mg C_BadText C_BadBells t_FIGURES t_TONES t_MOST_FIRST t_MOST_EVERY t_MOST_BELLS t_BETWEEN) (Fn : Fun K "_law_refused" "_law_refused" s__law_refused f fd) (k_bells_text : Callee P w K mg base 5 "bells_text" 1 f_bells_text) : FnOk P w K mg base (L2.CX P w) 6 f fd ["value"] (spD K mg 1 f__law_refused) :=
  fn_okD (k := 5) (g := c__law_refused) rfl rfl rfl Fn sc__law_refused fun cdv A outer s H E hr tk hp =>
  (dss_cons (ds_try rfl rfl sc__law_refused.nd tk (fun W pn xe tk hp => (dss_one (ds_drop (de_call k_bells_text hr (by decide) (by rfl) tk (da_cons (de_var 0) da_nil))))) (.plain ⟨by rfl, by decide, .inl T.x_BadBells.gC⟩ T.h_BadBells (fun a pn => (dss_one (ds_ret de_bl))) .nil))
  (dss_one (ds_ret de_bl)))
theorem ok__law_bell {f : Addr} {fd : FuncData} (T : Txt K mg C_BadText C_BadBells t_FIGURES t_TONES t_MOST_FIRST t_MOST_EVERY t_MOST_BELLS t_BETWEEN) (Fn : Fun K "_law_bell" "_law_bell" s__law_bell f fd) : FnOk P w K mg base (L2.CX P w) 1 f fd ["part"] (spD K mg 1 f__law_bell) :=
  fn_okD (k := 0) (g := c__law_bell) rfl rfl rfl Fn sc__law_bell fun cdv A outer s H E hr tk hp =>
  (dss_cons (ds_asg (i := 1) sc__law_bell.nd rfl (by first | exact Or.inl rfl | exact Or.inr rfl) (DE.x (de_split (de_var 0) de_str)))
  (dss_cons (ds_if (DW.dt (dw_or (dt_cmp (op_neD (room64 hr)) rd_ne (DE.bor (de_callB rc_len call_len (by rfl) T.b_len bt_len (dab_cons (db_var 1) dab_nil))) (DE.bor de_int) (nomark _)) (dw_or1 (dt_cmp (op_notinB (room65 hr)) rd_notinB (DE.bor (de_ix (ixA (room1 hr)) rd_ixA (db_var 1) (DE.bor de_int))) (DE.bor (de_callTy rc_listS (call_listS rfl) (by rfl) T.b_list bt_list (dab_cons (DE.bor de_str) dab_nil))) (by with_unfolding_all rfl))))) (dss_one (ds_ret de_non)) dss_nil)
  (dss_cons (ds_par (i := 2) (j := 3) rfl sc__law_bell.nd rfl rfl (by decide) rfl rfl (DE.x (DN.val (dn_lc rfl sc__law_bell.nd (DI.b (di_range1 (by rfl) T.b_range (da_cons de_int da_nil))) (blkOk_by (N := N__law_bell) (sc := defScope s__law_bell) (own := [("k", 4)]) (by decide +kernel)) (fun _ _ _ _ _ => (dg_name (i := 4) sc__law_bell.nd rfl (by first | exact Or.inl rfl | exact Or.inr rfl))) (fun _ _ _ _ _ => dts_nil) (fun _ _ _ _ _ => (de_callTy rc_str call_str_int (by rfl) T.b_str bt_str (dab_cons (db_var 4) dab_nil))) rfl (by decide)))) (DE.x (DN.val (dn_lc rfl sc__law_bell.nd (DI.b (di_range2 (by rfl) T.b_range (da_cons de_int (da_cons de_int da_nil)))) (blkOk_by (N := N__law_bell) (sc := defScope s__law_bell) (own := [("k", 4)]) (by decide +kernel)) (fun _ _ _ _ _ => (dg_name (i := 4) sc__law_bell.nd rfl (by first | exact Or.inl rfl | exact Or.inr rfl))) (fun _ _ _ _ _ => dts_nil) (fun _ _ _ _ _ => (de_callTy rc_str call_str_int (by rfl) T.b_str bt_str (dab_cons (db_var 4) dab_nil))) rfl (by decide)))) rfl)
  (dss_cons (ds_if (DW.dt (dw_or (dt_cmp (op_notinB (room65 hr)) rd_notinB (DE.bor (de_ix (ixA (room1 hr)) rd_ixA (db_var 1) (DE.bor de_int))) (db_var 2) (by with_unfolding_all rfl)) (dw_or1 (dt_cmp (op_notinB (room65 hr)) rd_notinB (DE.bor (de_ix (ixA (room1 hr)) rd_ixA (db_var 1) (DE.bor de_int))) (db_var 3) (by with_unfolding_all rfl))))) (dss_one (ds_ret de_non)) dss_nil)
  (dss_one (ds_ret (de_tup (da_cons (de_ix (ixA (room1 hr)) rd_ixA (db_var 1) (DE.bor de_int)) (da_cons (de_meth rm_indexL PySem.F.slot_list_index PySem.F.type_list_index (mt_indexD (room65 hr)) (db_var 2) (dab_cons (DE.bor (de_ix (ixA (room1 hr)) rd_ixA (db_var 1) (DE.bor de_int))) dab_nil)) (da_cons (de_op op_addD rd_add (DE.bor (de_meth rm_indexL PySem.F.slot_list_index PySem.F.type_list_index (mt_indexD (room65 hr)) (db_var 3) (dab_cons (DE.bor (de_ix (ixA (room1 hr)) rd_ixA (db_var 1) (DE.bor de_int))) dab_nil))) (DE.bor de_int)) da_nil))))))))))
theorem ok__law_due {f : Addr} {fd : FuncData} (T : Txt K mg C_BadText C_BadBells t_FIGURES t_TONES t_MOST_FIRST t_MOST_EVERY t_MOST_BELLS t_BETWEEN) (Fn : Fun K "_law_due" "_law_due" s__law_due f fd) (k__law_bell : Callee P w K mg base 1 "_law_bell" 1 f__law_bell) : FnOk P w K mg base (L2.CX P w) 2 f fd ["text"] (spD K mg 1 f__law_due) :=
  fn_okD (k := 1) (g := c__law_due) rfl rfl rfl Fn sc__law_due fun cdv A outer s H E hr tk hp =>
  (dss_cons (ds_asg (i := 1) sc__law_due.nd rfl (by first | exact Or.inl rfl | exact Or.inr rfl) (DE.x (DN.val (dn_lc rfl sc__law_due.nd (dib_seq (DE.bor (de_split (de_var 0) de_str))) (blkOk_by (N := N__law_due) (sc := defScope s__law_due) (own := [("part", 3)]) (by decide +kernel)) (fun _ _ _ _ _ => (dg_name (i := 3) sc__law_due.nd rfl (by first | exact Or.inl rfl | exact Or.inr rfl))) (fun _ _ _ _ _ => dts_nil) (fun _ _ _ _ _ => (de_call k__law_bell hr (by decide) (by rfl) takes0 (da_cons (de_var 3) da_nil))) rfl (by decide)))))
  (dss_cons (ds_setLcV (i := 2) rfl sc__law_due.nd rfl rfl (sw_true rfl rfl rfl (by decide +kernel)) (DI.b (di_range1 (by rfl) T.b_range (da_cons (de_callB rc_len call_len (by rfl) T.b_len bt_len (dab_cons (db_var 1) dab_nil)) da_nil))) (blkOk_by (N := N__law_due) (sc := defScope s__law_due) (own := [("k", 4)]) (by decide +kernel)) (fun _ _ _ _ _ => (dg_name (i := 4) sc__law_due.nd rfl (by first | exact Or.inl rfl | exact Or.inr rfl))) (fun _ _ _ _ _ => (dts_one (DW.dt (dw_or (dt_cmp op_isN rd_is (DE.bor (de_ix (ixA (room1 hr)) rd_ixA (db_var 1) (db_var 4))) (DE.bor de_non) (nomark _)) (dw_or1 (dt_cmp op_gt rd_gt (db_var 4) (DE.bor de_int) (nomark _))))))) (fun _ _ _ _ _ => (de_var 4)) rfl (by decide))
  (dss_one (ds_ret (de_if (dt_cmp op_gt rd_gt (DE.bor (de_callB rc_len call_len (by rfl) T.b_len bt_len (dab_cons (db_var 2) dab_nil))) (DE.bor de_int) (nomark _)) (de_tup (da_cons de_str (da_cons (de_op op_addD rd_add (DE.bor (de_ix (ixA (room1 hr)) rd_ixA (db_var 2) (DE.bor de_int))) (DE.bor de_int)) da_nil))) (de_tup (da_cons de_str (da_cons (de_callTy rc_tuple call_tuple_of (by rfl) T.b_tuple bt_tuple (dab_cons (db_var 1) dab_nil)) da_nil))))))))
theorem ok__law_wrongs {f : Addr} {fd : FuncData} (T : Txt K mg C_BadText C_BadBells t_FIGURES t_TONES t_MOST_FIRST t_MOST_EVERY t_MOST_BELLS t_BETWEEN) (Fn : Fun K "_law_wrongs" "_law_wrongs" s__law_wrongs f fd) : FnOk P w K mg base (L2.CX P w) 1 f fd [] (spD K mg 0 f__law_wrongs) :=
  fn_okD (k := 0) (g := c__law_wrongs) rfl rfl rfl Fn sc__law_wrongs fun cdv A outer s H E hr tk hp =>
  (dss_cons (ds_asg (i := 0) sc__law_wrongs.nd rfl (by first | exact Or.inl rfl | exact Or.inr rfl) (DE.x (de_tup (da_cons de_str (da_cons de_int (da_cons de_int da_nil))))))
  (dss_one (ds_ret (DN.val (dn_lst (da_cons de_non (da_cons (de_tup da_nil) (da_cons (DN.val (dn_lst (da_cons (de_var 0) da_nil))) (da_cons (de_op op_mulD rd_mul (DE.bor (de_tup (da_cons (de_var 0) da_nil))) (DE.bor de_int)) (da_cons (de_tup (da_cons (de_tup (da_cons de_str (da_cons de_int (da_cons de_int da_nil)))) da_nil)) (da_cons (de_tup (da_cons (de_tup (da_cons de_str (da_cons de_int (da_cons de_int da_nil)))) da_nil)) (da_cons (de_tup (da_cons (de_tup (da_cons de_str (da_cons de_int (da_cons de_int da_nil)))) da_nil)) (da_cons (de_tup (da_cons (de_tup (da_cons de_str (da_cons (de_neg de_int) (da_cons de_int da_nil)))) da_nil)) (da_cons (de_tup (da_cons (de_tup (da_cons de_str (da_cons de_int (da_cons de_int da_nil)))) da_nil)) (da_cons (de_tup (da_cons (de_tup (da_cons de_str (da_cons de_int (da_cons de_int da_nil)))) da_nil)) (da_cons (de_tup (da_cons (de_tup (da_cons de_str (da_cons de_int (da_cons de_int da_nil)))) da_nil)) (da_cons (de_tup (da_cons (de_tup (da_cons de_str (da_cons de_bl (da_cons de_int da_nil)))) da_nil)) (da_cons (de_tup (da_cons (de_tup (da_cons de_str (da_cons de_int da_nil))) da_nil)) (da_cons (de_var 0) (da_cons de_int da_nil))))))))))))))))))))
theorem ok_law {f : Addr} {fd : FuncData} (T : Txt K mg C_BadText C_BadBells t_FIGURES t_TONES t_MOST_FIRST t_MOST_EVERY t_MOST_BELLS t_BETWEEN) (Fn : Fun K "law" "law" s_law f fd) (k__law_draws : Callee P w K mg base 1 "_law_draws" 2 f__law_draws) (k__law_bells : Callee P w K mg base 1 "_law_bells" 3 f__law_bells) (k__law_text : Callee P w K mg base 1 "_law_text" 1 f__law_text) (k__law_same : CalleeG P w K mg base 1 "_law_same" 2 f__law_same) (k_bells_text : Callee P w K mg base 5 "bells_text" 1 f_bells_text) (k_bells_of : Callee P w K mg base 5 "bells_of" 1 f_bells_of) (k__law_told : Callee P w K mg base 6 "_law_told" 1 f__law_told) (k__law_due : Callee P w K mg base 2 "_law_due" 1 f__law_due) (k__law_wrongs : Callee P w K mg base 1 "_law_wrongs" 0 f__law_wrongs) (k__law_refused : Callee P w K mg base 6 "_law_refused" 1 f__law_refused) : FnOkG P w K mg base (L2.CX P w) 7 f fd ["script"] (spD K mg 1 f_law) :=
  fn_okG (k := 6) (g := c_law) rfl rfl rfl Fn sc_law fun cdv A outer s H E hr gd tk hp =>
  (dss_cons (ds_asg (i := 1) sc_law.nd rfl (by first | exact Or.inl rfl | exact Or.inr rfl) (DE.x (de_call k__law_draws hr (by decide) (by rfl) tk (da_cons (de_var 0) (da_cons de_int da_nil)))))
  (dss_cons (ds_setLcV (i := 3) rfl sc_law.nd rfl rfl (sw_true rfl rfl rfl (by decide +kernel)) (DI.b (di_range1 (by rfl) T.b_range (da_cons de_int da_nil))) (blkOk_by (N := N_law) (sc := defScope s_law) (own := [("k", 2)]) (by decide +kernel)) (fun _ _ _ _ _ => (dg_name (i := 2) sc_law.nd rfl (by first | exact Or.inl rfl | exact Or.inr rfl))) (fun _ _ _ _ _ => dts_nil) (fun _ _ _ _ _ => (de_op op_addD rd_add (DE.bor (de_op op_mod rd_mod (DE.bor (de_callTy rc_int call_intD (by rfl) T.b_int bt_int (dab_cons (DE.bor (de_ix (ixA (room1 hr)) rd_ixA (db_var 1) (DE.bor (de_op op_addD rd_add (DE.bor de_int) (db_var 2))))) dab_nil))) (DE.bor de_int))) (DE.bor de_int))) rfl (by decide))
  (dss_cons (ds_asg (i := 4) sc_law.nd rfl (by first | exact Or.inl rfl | exact Or.inr rfl) (DE.x (de_call k__law_bells hr (by decide) (by rfl) tk (da_cons (de_var 1) (da_cons (de_var 3) (da_cons (de_ix (ixA (room1 hr)) rd_ixA (DE.bor (DN.val (dn_lst (da_cons de_int (da_cons de_int da_nil))))) (DE.bor (de_op op_mod rd_mod (DE.bor (de_callTy rc_int call_intD (by rfl) T.b_int bt_int (dab_cons (DE.bor (de_ix (ixA (room1 hr)) rd_ixA (db_var 1) (DE.bor de_int))) dab_nil))) (DE.bor de_int)))) da_nil))))))
  (dss_cons (ds_asg (i := 5) sc_law.nd rfl (by first | exact Or.inl rfl | exact Or.inr rfl) (DE.x (de_call k__law_text hr (by decide) (by rfl) tk (da_cons (de_var 4) da_nil))))
  (dss_cons (ds_if (DW.dt (dw_or (dt_not (dt_val (de_callG k__law_same hr gd (by decide) (by rfl) tk (da_cons (de_call k_bells_text hr (by decide) (by rfl) tk (da_cons (de_var 4) da_nil)) (da_cons (de_var 5) da_nil))))) (dw_or1 (dt_not (dt_val (de_callG k__law_same hr gd (by decide) (by rfl) tk (da_cons (de_call k_bells_of hr (by decide) (by rfl) tk (da_cons (de_var 5) da_nil)) (da_cons (de_var 4) da_nil)))))))) (dss_one (ds_ret de_bl)) dss_nil)
  (dss_cons (ds_asg (i := 6) sc_law.nd rfl (by first | exact Or.inl rfl | exact Or.inr rfl) (DE.x (de_split (de_var 5) de_str)))
  (dss_cons (ds_for hp rfl (di_range1 (by rfl) T.b_range (da_cons de_int da_nil)) (dg_name (i := 2) sc_law.nd rfl (by first | exact Or.inl rfl | exact Or.inr rfl)) (dss_cons (ds_par3 (i := 7) (j := 8) (l := 9) rfl sc_law.nd rfl rfl rfl (by decide) (by decide) (by decide) rfl rfl rfl (da_cons (de_callTy rc_int call_intD (by rfl) T.b_int bt_int (dab_cons (DE.bor (de_ix (ixA (room1 hr)) rd_ixA (db_var 1) (DE.bor (de_op op_addD rd_add (DE.bor de_int) (db_var 2))))) dab_nil)) (da_cons (de_op op_mod rd_mod (DE.bor (de_callTy rc_int call_intD (by rfl) T.b_int bt_int (dab_cons (DE.bor (de_ix (ixA (room1 hr)) rd_ixA (db_var 1) (DE.bor (de_op op_addD rd_add (DE.bor de_int) (db_var 2))))) dab_nil))) (DE.bor (de_op op_addD rd_add (DE.bor (de_callB rc_len call_len (by rfl) T.b_len bt_len (dab_cons (db_var 6) dab_nil))) (DE.bor de_int)))) (da_cons (de_op op_mod rd_mod (DE.bor (de_callTy rc_int call_intD (by rfl) T.b_int bt_int (dab_cons (DE.bor (de_ix (ixA (room1 hr)) rd_ixA (db_var 1) (DE.bor (de_op op_addD rd_add (DE.bor de_int) (db_var 2))))) dab_nil))) (DE.bor (de_op op_addD rd_add (DE.bor (de_callB rc_len call_len (by rfl) T.b_len bt_len (dab_cons (db_var 5) dab_nil))) (DE.bor de_int)))) da_nil))) rfl)
  (dss_cons (ds_asg (i := 10) sc_law.nd rfl (by first | exact Or.inl rfl | exact Or.inr rfl) (DE.x (de_ix (ixA (room1 hr)) rd_ixA (DE.bor de_str) (DE.bor (de_op op_mod rd_mod (DE.bor (de_callTy rc_int call_intD (by rfl) T.b_int bt_int (dab_cons (DE.bor (de_ix (ixA (room1 hr)) rd_ixA (db_var 1) (DE.bor (de_op op_addD rd_add (DE.bor de_int) (db_var 2))))) dab_nil))) (DE.bor de_int))))))
  (dss_cons (ds_asg (i := 11) sc_law.nd rfl (by first | exact Or.inl rfl | exact Or.inr rfl) (DE.x (de_ix (ixA (room1 hr)) rd_ixA (DE.bor (DN.val (dn_lst (da_cons de_str (da_cons de_str (da_cons de_str (da_cons de_str (da_cons de_str (da_cons de_str (da_cons de_str (da_cons de_str (da_cons de_str (da_cons de_str (da_cons de_str (da_cons de_str da_nil))))))))))))))) (DE.bor (de_op op_mod rd_mod (db_var 7) (DE.bor de_int))))))
  (dss_cons (ds_asg (i := 12) sc_law.nd rfl (by first | exact Or.inl rfl | exact Or.inr rfl) (DE.x (DN.val (dn_lst (da_cons (de_op op_addD rd_add (DE.bor (de_op op_addD rd_add (DE.bor (de_sl (db_var 6) do_none (do_some (de_var 8)))) (DE.bor (DN.val (dn_lst (da_cons (de_var 11) da_nil)))))) (DE.bor (de_sl (db_var 6) (do_some (de_var 8)) do_none))) (da_cons (de_op op_addD rd_add (DE.bor (de_sl (db_var 6) do_none (do_some (de_var 8)))) (DE.bor (de_sl (db_var 6) (do_some (de_op op_addD rd_add (db_var 8) (DE.bor de_int))) do_none))) (da_cons (de_op op_addD rd_add (DE.bor (de_op op_addD rd_add (DE.bor (de_sl (db_var 6) do_none (do_some (de_var 8)))) (DE.bor (de_op op_mulD rd_mul (DE.bor (de_sl (db_var 6) (do_some (de_var 8)) (do_some (de_op op_addD rd_add (db_var 8) (DE.bor de_int))))) (DE.bor de_int))))) (DE.bor (de_sl (db_var 6) (do_some (de_op op_addD rd_add (db_var 8) (DE.bor de_int))) do_none))) (da_cons (de_rev (db_var 6)) da_nil))))))))
  (dss_cons (ds_asg (i := 13) sc_law.nd rfl (by first | exact Or.inl rfl | exact Or.inr rfl) (DE.x (de_op op_addD rd_add (DE.bor (DN.val (dn_lc rfl sc_law.nd (dib_seq (db_var 12)) (blkOk_by (N := N_law) (sc := defScope s_law) (own := [("bent", 17)]) (by decide +kernel)) (fun _ _ _ _ _ => (dg_name (i := 17) sc_law.nd rfl (by first | exact Or.inl rfl | exact Or.inr rfl))) (fun _ _ _ _ _ => dts_nil) (fun _ _ _ _ _ => (de_join de_str (db_var 17))) rfl (by decide)))) (DE.bor (DN.val (dn_lst (da_cons (de_op op_addD rd_add (DE.bor (de_op op_addD rd_add (DE.bor (de_sl (db_var 5) do_none (do_some (de_var 9)))) (db_var 10))) (DE.bor (de_sl (db_var 5) (do_some (de_var 9)) do_none))) (da_cons (de_op op_addD rd_add (DE.bor (de_sl (db_var 5) do_none (do_some (de_var 9)))) (DE.bor (de_sl (db_var 5) (do_some (de_op op_addD rd_add (db_var 9) (DE.bor de_int))) do_none))) (da_cons (de_sl (db_var 5) do_none (do_some (de_var 9))) (da_cons (de_op op_addD rd_add (DE.bor (de_op op_addD rd_add (DE.bor (de_sl (db_var 5) do_none (do_some (de_var 9)))) (db_var 10))) (DE.bor (de_sl (db_var 5) (do_some (de_op op_addD rd_add (db_var 9) (DE.bor de_int))) do_none))) da_nil))))))))))
  (dss_one (ds_for hp rfl (di_seq (de_var 13)) (dg_name (i := 14) sc_law.nd rfl (by first | exact Or.inl rfl | exact Or.inr rfl)) (dss_one (ds_if (dt_not (dt_val (de_callG k__law_same hr gd (by decide) (by rfl) tk (da_cons (de_call k__law_told hr (by decide) (by rfl) tk (da_cons (de_var 14) da_nil)) (da_cons (de_call k__law_due hr (by decide) (by rfl) tk (da_cons (de_var 14) da_nil)) da_nil))))) (dss_one (ds_ret de_bl)) dss_nil))))))))))
  (dss_cons (ds_for hp rfl (di_seq (de_tup (da_cons de_non (da_cons de_int (da_cons (de_tup (da_cons de_str da_nil)) (da_cons de_bl da_nil)))))) (dg_name (i := 15) sc_law.nd rfl (by first | exact Or.inl rfl | exact Or.inr rfl)) (dss_one (ds_if (dt_not (dt_val (de_callG k__law_same hr gd (by decide) (by rfl) tk (da_cons (de_call k__law_told hr (by decide) (by rfl) tk (da_cons (de_var 15) da_nil)) (da_cons (de_tup (da_cons de_str (da_cons de_int da_nil))) da_nil))))) (dss_one (ds_ret de_bl)) dss_nil)))
  (dss_cons (ds_if (dt_not (dt_val (de_callB rc_all (cr_all rfl) (by rfl) T.b_all bt_all (dab_cons (DE.bor (DN.val (dn_lc rfl sc_law.nd (dib_seq (DE.bor (de_call0 k__law_wrongs hr (by decide) (by rfl) tk))) (blkOk_by (N := N_law) (sc := defScope s_law) (own := [("wrong", 15)]) (by decide +kernel)) (fun _ _ _ _ _ => (dg_name (i := 15) sc_law.nd rfl (by first | exact Or.inl rfl | exact Or.inr rfl))) (fun _ _ _ _ _ => dts_nil) (fun _ _ _ _ _ => (de_call k__law_refused hr (by decide) (by rfl) takes0 (da_cons (de_var 15) da_nil))) rfl (by decide)))) dab_nil)))) (dss_one (ds_ret de_bl)) dss_nil)
  (dss_cons (ds_asg (i := 16) sc_law.nd rfl (by first | exact Or.inl rfl | exact Or.inr rfl) (DE.x (de_join de_str (DE.bor (de_op op_mulD rd_mul (DE.bor (DN.val (dn_lst (da_cons de_str da_nil)))) (DE.bor de_int))))))
  (dss_one (ds_ret (de_and (de_callG k__law_same hr gd (by decide) (by rfl) tk (da_cons (de_call k__law_told hr (by decide) (by rfl) tk (da_cons (de_op op_addD rd_add (db_var 16) (DE.bor de_str)) da_nil)) (da_cons (de_tup (da_cons de_str (da_cons de_int da_nil))) da_nil))) (de_and (de_callG k__law_same hr gd (by decide) (by rfl) tk (da_cons (de_call k__law_told hr (by decide) (by rfl) tk (da_cons (de_var 16) da_nil)) (da_cons (de_tup (da_cons de_str (da_cons (de_op op_mulD rd_mul (DE.bor (de_tup (da_cons (de_tup (da_cons de_str (da_cons de_int (da_cons de_int da_nil)))) da_nil))) (DE.bor de_int)) da_nil))) da_nil))) (de_one (de_callG k__law_same hr gd (by decide) (by rfl) tk (da_cons (de_call k__law_told hr (by decide) (by rfl) tk (da_cons de_str da_nil)) (da_cons (de_tup (da_cons de_str (da_cons de_int da_nil))) da_nil))))))))))))))))))
end
abbrev st_BadText : Stmt := (clsBody (topS 2)).getD 0 (.Pass ⟨0, 0, 0, 0⟩)
abbrev nf_BadText (cc c : Addr) : NdefX.NF := ⟨"__init__", "BadText.__init__", defArgs st_BadText, defBody st_BadText, defScope st_BadText, [(("__class__" : Str), cc)], c⟩
theorem ini_BadText {P : Program} {w : World} {K : PySem.W.Frag} {mg : Str → Option Value} {base : Heap} {C fI cc c : Addr} {fd : FuncData} (hfd : ∃ oc od dV kV doc pm an ct osl, fd = PySem.W.ksFn (nf_BadText cc c).name (nf_BadText cc c).qual (nf_BadText cc c).params (nf_BadText cc c).body (nf_BadText cc c).scope dV kV doc pm an (.ref (nf_BadText cc c).c) ct cc ∧ K.lookup fI = some ⟨oc, od, .func fd, osl⟩)
    (T : ExI P K mg C fI cc "part" (nf_BadText cc c)) (b_str : mg "str" = none) : FnOk P w K mg base (L2.CX P w) 1 fI fd ["self", "part"] (spI C "part") :=
  init_ok (k := 0) (q := cOp oAdd (cC (.str "not right at part ")) (cBt bStr (aCons (cBor 1) aNil))) hfd T (show NdefX.NScope ["self", "part", xcls] ["self", "part"] [xcls] (defScope st_BadText) from NdefX.nscope_by (by decide +kernel)) rfl rfl rfl rfl ⟨by decide, by decide, by decide, by decide⟩ (fun _ => rfl) (fun _ => rfl) (fun _ => rfl) (fun _ => rfl) (fun _ => rfl)
    (fun A outer s H E hr => de_op op_addD rd_add (DE.bor de_str) (DE.bor (de_callTy rc_str call_str_int (by rfl) b_str bt_str (dab_cons (db_var 1) dab_nil)))) (ini_q "not right at part " (by decide))
theorem all_mk {l : PySem.W.OpenLaw} {w : World} {K : PySem.W.Frag} {h : Heap} {mg : Str → Option Value} {fa : Addr} (X : K.In h) (G : h.Ns mainGlobals mg) (hfa : mg "law" = some (.ref fa))
    {p__law_draws : Addr} {od__law_draws an__law_draws : Option Addr} {sl__law_draws : Array (Option Value)} {oc__law_draws kV__law_draws dc__law_draws pm__law_draws cd__law_draws ct__law_draws : Value}
    {p__law_bells : Addr} {od__law_bells an__law_bells : Option Addr} {sl__law_bells : Array (Option Value)} {oc__law_bells kV__law_bells dc__law_bells pm__law_bells cd__law_bells ct__law_bells : Value}
    {p__law_text : Addr} {od__law_text an__law_text : Option Addr} {sl__law_text : Array (Option Value)} {oc__law_text kV__law_text dc__law_text pm__law_text cd__law_text ct__law_text : Value}
    {p__law_same : Addr} {od__law_same an__law_same : Option Addr} {sl__law_same : Array (Option Value)} {oc__law_same kV__law_same dc__law_same pm__law_same cd__law_same ct__law_same : Value}
    {p__number : Addr} {od__number an__number : Option Addr} {sl__number : Array (Option Value)} {oc__number kV__number dc__number pm__number cd__number ct__number : Value}
    {p_is_whole : Addr} {od_is_whole an_is_whole : Option Addr} {sl_is_whole : Array (Option Value)} {oc_is_whole kV_is_whole dc_is_whole pm_is_whole cd_is_whole ct_is_whole : Value}
    {p_is_bell : Addr} {od_is_bell an_is_bell : Option Addr} {sl_is_bell : Array (Option Value)} {oc_is_bell kV_is_bell dc_is_bell pm_is_bell cd_is_bell ct_is_bell : Value}
    {p_are_bells : Addr} {od_are_bells an_are_bells : Option Addr} {sl_are_bells : Array (Option Value)} {oc_are_bells kV_are_bells dc_are_bells pm_are_bells cd_are_bells ct_are_bells : Value}
    {p__bell : Addr} {od__bell an__bell : Option Addr} {sl__bell : Array (Option Value)} {oc__bell kV__bell dc__bell pm__bell cd__bell ct__bell : Value}
    {p_bells_of : Addr} {od_bells_of an_bells_of : Option Addr} {sl_bells_of : Array (Option Value)} {oc_bells_of kV_bells_of dc_bells_of pm_bells_of cd_bells_of ct_bells_of : Value}
    {p__law_told : Addr} {od__law_told an__law_told : Option Addr} {sl__law_told : Array (Option Value)} {oc__law_told kV__law_told dc__law_told pm__law_told cd__law_told ct__law_told : Value}
    {p_check_bells : Addr} {od_check_bells an_check_bells : Option Addr} {sl_check_bells : Array (Option Value)} {oc_check_bells kV_check_bells dc_check_bells pm_check_bells cd_check_bells ct_check_bells : Value}
    {p_bells_text : Addr} {od_bells_text an_bells_text : Option Addr} {sl_bells_text : Array (Option Value)} {oc_bells_text kV_bells_text dc_bells_text pm_bells_text cd_bells_text ct_bells_text : Value}
    {p__law_refused : Addr} {od__law_refused an__law_refused : Option Addr} {sl__law_refused : Array (Option Value)} {oc__law_refused kV__law_refused dc__law_refused pm__law_refused cd__law_refused ct__law_refused : Value}
    {p__law_bell : Addr} {od__law_bell an__law_bell : Option Addr} {sl__law_bell : Array (Option Value)} {oc__law_bell kV__law_bell dc__law_bell pm__law_bell cd__law_bell ct__law_bell : Value}
    {p__law_due : Addr} {od__law_due an__law_due : Option Addr} {sl__law_due : Array (Option Value)} {oc__law_due kV__law_due dc__law_due pm__law_due cd__law_due ct__law_due : Value}
    {p__law_wrongs : Addr} {od__law_wrongs an__law_wrongs : Option Addr} {sl__law_wrongs : Array (Option Value)} {oc__law_wrongs kV__law_wrongs dc__law_wrongs pm__law_wrongs cd__law_wrongs ct__law_wrongs : Value}
    {p_law : Addr} {od_law an_law : Option Addr} {sl_law : Array (Option Value)} {oc_law kV_law dc_law pm_law cd_law ct_law : Value}
    {C_BadText C_BadBells : Addr}
    {t_FIGURES t_TONES t_MOST_FIRST t_MOST_EVERY t_MOST_BELLS t_BETWEEN : Tok}
    {nm_BadText q_BadText : Str} {N_BadText : Addr} {bs_BadText bm_BadText : List Value} {sn_BadText : List Str} {sub_BadText : List Value} {ab_BadText : Bool} {col_BadText : Option Bool} {dd_BadText : Option Addr} {k0_BadText k1_BadText k2_BadText k3_BadText k5_BadText : Option Value}
    {I_BadText c_BadText cc_BadText : Addr} {oc_BadText kV_BadText dc_BadText pm_BadText ct_BadText ccl_BadText cl_BadText : Value} {od_BadText an_BadText cdd_BadText cld_BadText : Option Addr} {sl_BadText ccs_BadText csl_BadText : Array (Option Value)} {vs_BadText : Array Value} {file_BadText : Str} {tf_BadText : Tok}
    (a__law_draws : PySem.W.nsIn K mainGlobals "_law_draws" = some (some (.ref p__law_draws))) (l__law_draws : K.lookup p__law_draws = some ⟨oc__law_draws, od__law_draws, .func (PySem.W.fnOf "_law_draws" "_law_draws" (defArgs s__law_draws) (defBody s__law_draws) (defScope s__law_draws) .none kV__law_draws dc__law_draws pm__law_draws an__law_draws cd__law_draws ct__law_draws), sl__law_draws⟩) (d__law_draws : PySem.W.codeIn K cd__law_draws "_law_draws" = true) (e__law_draws : PySem.W.keepIn K (.ref p__law_draws) = true)
    (a__law_bells : PySem.W.nsIn K mainGlobals "_law_bells" = some (some (.ref p__law_bells))) (l__law_bells : K.lookup p__law_bells = some ⟨oc__law_bells, od__law_bells, .func (PySem.W.fnOf "_law_bells" "_law_bells" (defArgs s__law_bells) (defBody s__law_bells) (defScope s__law_bells) .none kV__law_bells dc__law_bells pm__law_bells an__law_bells cd__law_bells ct__law_bells), sl__law_bells⟩) (d__law_bells : PySem.W.codeIn K cd__law_bells "_law_bells" = true) (e__law_bells : PySem.W.keepIn K (.ref p__law_bells) = true)
    (a__law_text : PySem.W.nsIn K mainGlobals "_law_text" = some (some (.ref p__law_text))) (l__law_text : K.lookup p__law_text = some ⟨oc__law_text, od__law_text, .func (PySem.W.fnOf "_law_text" "_law_text" (defArgs s__law_text) (defBody s__law_text) (defScope s__law_text) .none kV__law_text dc__law_text pm__law_text an__law_text cd__law_text ct__law_text), sl__law_text⟩) (d__law_text : PySem.W.codeIn K cd__law_text "_law_text" = true) (e__law_text : PySem.W.keepIn K (.ref p__law_text) = true)
    (a__law_same : PySem.W.nsIn K mainGlobals "_law_same" = some (some (.ref p__law_same))) (l__law_same : K.lookup p__law_same = some ⟨oc__law_same, od__law_same, .func (PySem.W.fnOf "_law_same" "_law_same" (defArgs s__law_same) (defBody s__law_same) (defScope s__law_same) .none kV__law_same dc__law_same pm__law_same an__law_same cd__law_same ct__law_same), sl__law_same⟩) (d__law_same : PySem.W.codeIn K cd__law_same "_law_same" = true) (e__law_same : PySem.W.keepIn K (.ref p__law_same) = true)
    (a__number : PySem.W.nsIn K mainGlobals "_number" = some (some (.ref p__number))) (l__number : K.lookup p__number = some ⟨oc__number, od__number, .func (PySem.W.fnOf "_number" "_number" (defArgs s__number) (defBody s__number) (defScope s__number) .none kV__number dc__number pm__number an__number cd__number ct__number), sl__number⟩) (d__number : PySem.W.codeIn K cd__number "_number" = true) (e__number : PySem.W.keepIn K (.ref p__number) = true)
    (a_is_whole : PySem.W.nsIn K mainGlobals "is_whole" = some (some (.ref p_is_whole))) (l_is_whole : K.lookup p_is_whole = some ⟨oc_is_whole, od_is_whole, .func (PySem.W.fnOf "is_whole" "is_whole" (defArgs s_is_whole) (defBody s_is_whole) (defScope s_is_whole) .none kV_is_whole dc_is_whole pm_is_whole an_is_whole cd_is_whole ct_is_whole), sl_is_whole⟩) (d_is_whole : PySem.W.codeIn K cd_is_whole "is_whole" = true) (e_is_whole : PySem.W.keepIn K (.ref p_is_whole) = true)
    (a_is_bell : PySem.W.nsIn K mainGlobals "is_bell" = some (some (.ref p_is_bell))) (l_is_bell : K.lookup p_is_bell = some ⟨oc_is_bell, od_is_bell, .func (PySem.W.fnOf "is_bell" "is_bell" (defArgs s_is_bell) (defBody s_is_bell) (defScope s_is_bell) .none kV_is_bell dc_is_bell pm_is_bell an_is_bell cd_is_bell ct_is_bell), sl_is_bell⟩) (d_is_bell : PySem.W.codeIn K cd_is_bell "is_bell" = true) (e_is_bell : PySem.W.keepIn K (.ref p_is_bell) = true)
    (a_are_bells : PySem.W.nsIn K mainGlobals "are_bells" = some (some (.ref p_are_bells))) (l_are_bells : K.lookup p_are_bells = some ⟨oc_are_bells, od_are_bells, .func (PySem.W.fnOf "are_bells" "are_bells" (defArgs s_are_bells) (defBody s_are_bells) (defScope s_are_bells) .none kV_are_bells dc_are_bells pm_are_bells an_are_bells cd_are_bells ct_are_bells), sl_are_bells⟩) (d_are_bells : PySem.W.codeIn K cd_are_bells "are_bells" = true) (e_are_bells : PySem.W.keepIn K (.ref p_are_bells) = true)
    (a__bell : PySem.W.nsIn K mainGlobals "_bell" = some (some (.ref p__bell))) (l__bell : K.lookup p__bell = some ⟨oc__bell, od__bell, .func (PySem.W.fnOf "_bell" "_bell" (defArgs s__bell) (defBody s__bell) (defScope s__bell) .none kV__bell dc__bell pm__bell an__bell cd__bell ct__bell), sl__bell⟩) (d__bell : PySem.W.codeIn K cd__bell "_bell" = true) (e__bell : PySem.W.keepIn K (.ref p__bell) = true)
    (a_bells_of : PySem.W.nsIn K mainGlobals "bells_of" = some (some (.ref p_bells_of))) (l_bells_of : K.lookup p_bells_of = some ⟨oc_bells_of, od_bells_of, .func (PySem.W.fnOf "bells_of" "bells_of" (defArgs s_bells_of) (defBody s_bells_of) (defScope s_bells_of) .none kV_bells_of dc_bells_of pm_bells_of an_bells_of cd_bells_of ct_bells_of), sl_bells_of⟩) (d_bells_of : PySem.W.codeIn K cd_bells_of "bells_of" = true) (e_bells_of : PySem.W.keepIn K (.ref p_bells_of) = true)
    (a__law_told : PySem.W.nsIn K mainGlobals "_law_told" = some (some (.ref p__law_told))) (l__law_told : K.lookup p__law_told = some ⟨oc__law_told, od__law_told, .func (PySem.W.fnOf "_law_told" "_law_told" (defArgs s__law_told) (defBody s__law_told) (defScope s__law_told) .none kV__law_told dc__law_told pm__law_told an__law_told cd__law_told ct__law_told), sl__law_told⟩) (d__law_told : PySem.W.codeIn K cd__law_told "_law_told" = true) (e__law_told : PySem.W.keepIn K (.ref p__law_told) = true)
    (a_check_bells : PySem.W.nsIn K mainGlobals "check_bells" = some (some (.ref p_check_bells))) (l_check_bells : K.lookup p_check_bells = some ⟨oc_check_bells, od_check_bells, .func (PySem.W.fnOf "check_bells" "check_bells" (defArgs s_check_bells) (defBody s_check_bells) (defScope s_check_bells) .none kV_check_bells dc_check_bells pm_check_bells an_check_bells cd_check_bells ct_check_bells), sl_check_bells⟩) (d_check_bells : PySem.W.codeIn K cd_check_bells "check_bells" = true) (e_check_bells : PySem.W.keepIn K (.ref p_check_bells) = true)
    (a_bells_text : PySem.W.nsIn K mainGlobals "bells_text" = some (some (.ref p_bells_text))) (l_bells_text : K.lookup p_bells_text = some ⟨oc_bells_text, od_bells_text, .func (PySem.W.fnOf "bells_text" "bells_text" (defArgs s_bells_text) (defBody s_bells_text) (defScope s_bells_text) .none kV_bells_text dc_bells_text pm_bells_text an_bells_text cd_bells_text ct_bells_text), sl_bells_text⟩) (d_bells_text : PySem.W.codeIn K cd_bells_text "bells_text" = true) (e_bells_text : PySem.W.keepIn K (.ref p_bells_text) = true)
    (a__law_refused : PySem.W.nsIn K mainGlobals "_law_refused" = some (some (.ref p__law_refused))) (l__law_refused : K.lookup p__law_refused = some ⟨oc__law_refused, od__law_refused, .func (PySem.W.fnOf "_law_refused" "_law_refused" (defArgs s__law_refused) (defBody s__law_refused) (defScope s__law_refused) .none kV__law_refused dc__law_refused pm__law_refused an__law_refused cd__law_refused ct__law_refused), sl__law_refused⟩) (d__law_refused : PySem.W.codeIn K cd__law_refused "_law_refused" = true) (e__law_refused : PySem.W.keepIn K (.ref p__law_refused) = true)
    (a__law_bell : PySem.W.nsIn K mainGlobals "_law_bell" = some (some (.ref p__law_bell))) (l__law_bell : K.lookup p__law_bell = some ⟨oc__law_bell, od__law_bell, .func (PySem.W.fnOf "_law_bell" "_law_bell" (defArgs s__law_bell) (defBody s__law_bell) (defScope s__law_bell) .none kV__law_bell dc__law_bell pm__law_bell an__law_bell cd__law_bell ct__law_bell), sl__law_bell⟩) (d__law_bell : PySem.W.codeIn K cd__law_bell "_law_bell" = true) (e__law_bell : PySem.W.keepIn K (.ref p__law_bell) = true)
    (a__law_due : PySem.W.nsIn K mainGlobals "_law_due" = some (some (.ref p__law_due))) (l__law_due : K.lookup p__law_due = some ⟨oc__law_due, od__law_due, .func (PySem.W.fnOf "_law_due" "_law_due" (defArgs s__law_due) (defBody s__law_due) (defScope s__law_due) .none kV__law_due dc__law_due pm__law_due an__law_due cd__law_due ct__law_due), sl__law_due⟩) (d__law_due : PySem.W.codeIn K cd__law_due "_law_due" = true) (e__law_due : PySem.W.keepIn K (.ref p__law_due) = true)
    (a__law_wrongs : PySem.W.nsIn K mainGlobals "_law_wrongs" = some (some (.ref p__law_wrongs))) (l__law_wrongs : K.lookup p__law_wrongs = some ⟨oc__law_wrongs, od__law_wrongs, .func (PySem.W.fnOf "_law_wrongs" "_law_wrongs" (defArgs s__law_wrongs) (defBody s__law_wrongs) (defScope s__law_wrongs) .none kV__law_wrongs dc__law_wrongs pm__law_wrongs an__law_wrongs cd__law_wrongs ct__law_wrongs), sl__law_wrongs⟩) (d__law_wrongs : PySem.W.codeIn K cd__law_wrongs "_law_wrongs" = true) (e__law_wrongs : PySem.W.keepIn K (.ref p__law_wrongs) = true)
    (a_law : PySem.W.nsIn K mainGlobals "law" = some (some (.ref p_law))) (l_law : K.lookup p_law = some ⟨oc_law, od_law, .func (PySem.W.fnOf "law" "law" (defArgs s_law) (defBody s_law) (defScope s_law) .none kV_law dc_law pm_law an_law cd_law ct_law), sl_law⟩) (d_law : PySem.W.codeIn K cd_law "law" = true) (e_law : PySem.W.keepIn K (.ref p_law) = true)
    (z_abs : PySem.W.nsIn K mainGlobals "abs" = some none)
    (z_all : PySem.W.nsIn K mainGlobals "all" = some none)
    (z_bool : PySem.W.nsIn K mainGlobals "bool" = some none)
    (z_enumerate : PySem.W.nsIn K mainGlobals "enumerate" = some none)
    (z_int : PySem.W.nsIn K mainGlobals "int" = some none)
    (z_isinstance : PySem.W.nsIn K mainGlobals "isinstance" = some none)
    (z_len : PySem.W.nsIn K mainGlobals "len" = some none)
    (z_list : PySem.W.nsIn K mainGlobals "list" = some none)
    (z_range : PySem.W.nsIn K mainGlobals "range" = some none)
    (z_repr : PySem.W.nsIn K mainGlobals "repr" = some none)
    (z_str : PySem.W.nsIn K mainGlobals "str" = some none)
    (z_super : PySem.W.nsIn K mainGlobals "super" = some none)
    (z_tuple : PySem.W.nsIn K mainGlobals "tuple" = some none)
    (g_FIGURES : PySem.W.nsIn K mainGlobals "FIGURES" = some (some (.str "0123456789" t_FIGURES)))
    (g_TONES : PySem.W.nsIn K mainGlobals "TONES" = some (some (.str "abcdefgh" t_TONES)))
    (g_MOST_FIRST : PySem.W.nsIn K mainGlobals "MOST_FIRST" = some (some (.int 120 t_MOST_FIRST)))
    (g_MOST_EVERY : PySem.W.nsIn K mainGlobals "MOST_EVERY" = some (some (.int 60 t_MOST_EVERY)))
    (g_MOST_BELLS : PySem.W.nsIn K mainGlobals "MOST_BELLS" = some (some (.int 6 t_MOST_BELLS)))
    (g_BETWEEN : PySem.W.nsIn K mainGlobals "BETWEEN" = some (some (.str "; " t_BETWEEN)))
    (xa_BadText : PySem.W.nsIn K mainGlobals "BadText" = some (some (.ref C_BadText))) (ua_BadText : K.lookup C_BadText = some (excClassObj nm_BadText q_BadText C_BadText N_BadText bs_BadText bm_BadText true sn_BadText sub_BadText ab_BadText col_BadText dd_BadText k0_BadText k1_BadText k2_BadText k3_BadText k5_BadText "ValueError.__new__")) (ub_BadText : PySem.HandSPX.refsVE bm_BadText = true) (uc_BadText : PySem.W.findIn K (.ref C_BadText) "__setattr__" = some (some (.builtin "object.__setattr__"))) (xc_BadText : PySem.W.keepIn K (.ref C_BadText) = true) (xd_BadText : PySem.W.subIn K (.ref C_BadText) (.type "BaseException") = some true) (xe_BadText : PySem.W.typeIn K (.ref C_BadText) = some (.type "type")) (xf_BadText : PySem.W.hasDictIn K C_BadText = true) (ud_BadText : PySem.W.findIn K (.ref C_BadText) "__getattribute__" = some (some (.builtin "BaseException.__getattribute__"))) (ue_BadText : PySem.W.findIn K (.ref C_BadText) "__getattr__" = some none) (uf_BadText : PySem.W.findIn K (.ref C_BadText) "part" = some none)
    (ja_BadText : PySem.W.findIn K (.ref C_BadText) "__init__" = some (some (.ref I_BadText))) (jb_BadText : PySem.W.typeIn K (.ref I_BadText) = some (.type "function")) (jc_BadText : K.lookup I_BadText = some ⟨oc_BadText, od_BadText, .func (PySem.W.ksFn "__init__" "BadText.__init__" (defArgs st_BadText) (defBody st_BadText) (defScope st_BadText) .none kV_BadText dc_BadText pm_BadText an_BadText (.ref c_BadText) ct_BadText cc_BadText), sl_BadText⟩) (jd_BadText : PySem.W.codeIn K (.ref c_BadText) "BadText.__init__" = true) (je_BadText : K.lookup c_BadText = some ⟨ccl_BadText, cdd_BadText, .fields vs_BadText, ccs_BadText⟩) (jf_BadText : vs_BadText[2]? = some (.str file_BadText tf_BadText)) (jg_BadText : ((l.prog.main.file : Str) == file_BadText) = true) (jh_BadText : K.lookup cc_BadText = some ⟨cl_BadText, cld_BadText, .cell (some (.ref C_BadText)), csl_BadText⟩) (ji_BadText : PySem.W.mroIn K C_BadText (.ref C_BadText) = some true) (jj_BadText : PySem.W.nsIn K cStatics "thirdparty.any" = some none) (jk_BadText : PySem.W.ks_superIn K C_BadText C_BadText "__init__" = some (some (.builtin "ValueError.__init__"))) (jl_BadText : PySem.W.subIn K (.ref C_BadText) (.type "ValueError") = some true) (jm_BadText : (l.prog.main.scope.names.lookup ("super" : Str)).isSome = false)
    (xa_BadBells : PySem.W.nsIn K mainGlobals "BadBells" = some (some (.ref C_BadBells))) (xb_BadBells : PySem.W.excIn K C_BadBells [.type "ValueError", .type "Exception", .type "BaseException", .type "object"] "ValueError.__new__" = true) (xc_BadBells : PySem.W.keepIn K (.ref C_BadBells) = true) (xd_BadBells : PySem.W.subIn K (.ref C_BadBells) (.type "BaseException") = some true) (xe_BadBells : PySem.W.typeIn K (.ref C_BadBells) = some (.type "type")) (xf_BadBells : PySem.W.hasDictIn K C_BadBells = true)
    (y_BadBells_BadBells : PySem.W.subIn K (.ref C_BadBells) (.ref C_BadBells) = some true)
    (y_BadBells_BadText : PySem.W.subIn K (.ref C_BadBells) (.ref C_BadText) = some false)
    (y_BadText_BadBells : PySem.W.subIn K (.ref C_BadText) (.ref C_BadBells) = some false)
    (y_BadText_BadText : PySem.W.subIn K (.ref C_BadText) (.ref C_BadText) = some true)
    : ∃ fd : FuncData, (∀ (s : Shared) (v : Value), BindsTo s fd ⟨[v], []⟩ [("script", v)]) ∧ ∀ base : Heap, K.In base → base.Ns mainGlobals mg → FnOkG l.prog w K mg base (L2.CX l.prog w) 7 fa fd ["script"] (spLawD K) := by
  have e := hfa.symm.trans (PySem.W.mg_of X G a_law)
  cases e
  have x_BadText : ExcG K mg "BadText" C_BadText "part" := ⟨PySem.W.mg_of X G xa_BadText, ⟨⟨_, _, _, _, _, _, _, _, _, _, _, _, _, _, _, ua_BadText, ub_BadText⟩, uc_BadText, xd_BadText, xe_BadText, xc_BadText⟩, xd_BadText, xe_BadText, xf_BadText, ⟨ud_BadText, ue_BadText, xd_BadText, xf_BadText⟩, uf_BadText⟩
  have x_BadBells : ExcF K mg "BadBells" C_BadBells := ⟨PySem.W.mg_of X G xa_BadBells, xb_BadBells, xc_BadBells, xd_BadBells, xe_BadBells, xf_BadBells⟩
  have h_BadText : HF K mg (.ref C_BadText) errs ["BadText"] := ⟨fun n hn => by
    rcases List.mem_cons.mp hn with rfl | hn
    · exact ⟨C_BadText, x_BadText.gC, PySem.W.exm_ref x_BadText.bC x_BadText.hC x_BadText.tC (y_BadText_BadText.trans (congrArg some (by decide)))⟩
    rcases List.mem_cons.mp hn with rfl | hn
    · exact ⟨C_BadBells, x_BadBells.gC, PySem.W.exm_ref x_BadText.bC x_BadText.hC x_BadText.tC (y_BadBells_BadText.trans (congrArg some (by decide)))⟩
    cases hn⟩
  have h_BadBells : HF K mg (.ref C_BadBells) errs ["BadBells"] := ⟨fun n hn => by
    rcases List.mem_cons.mp hn with rfl | hn
    · exact ⟨C_BadText, x_BadText.gC, PySem.W.exm_ref x_BadBells.bC x_BadBells.hC x_BadBells.tC (y_BadText_BadBells.trans (congrArg some (by decide)))⟩
    rcases List.mem_cons.mp hn with rfl | hn
    · exact ⟨C_BadBells, x_BadBells.gC, PySem.W.exm_ref x_BadBells.bC x_BadBells.hC x_BadBells.tC (y_BadBells_BadBells.trans (congrArg some (by decide)))⟩
    cases hn⟩
  have w_part : FldF K mg "part" w_part := ⟨fun n hn => by
    rcases List.mem_cons.mp hn with rfl | hn
    · exact ⟨C_BadText, x_BadText.gC, x_BadText.xf, x_BadText.nof⟩
    cases hn⟩
  have T : Txt K mg C_BadText C_BadBells t_FIGURES t_TONES t_MOST_FIRST t_MOST_EVERY t_MOST_BELLS t_BETWEEN := { w_part := w_part, b_abs := PySem.W.mg_none_of X G z_abs, b_all := PySem.W.mg_none_of X G z_all, b_bool := PySem.W.mg_none_of X G z_bool, b_enumerate := PySem.W.mg_none_of X G z_enumerate, b_int := PySem.W.mg_none_of X G z_int, b_isinstance := PySem.W.mg_none_of X G z_isinstance, b_len := PySem.W.mg_none_of X G z_len, b_list := PySem.W.mg_none_of X G z_list, b_range := PySem.W.mg_none_of X G z_range, b_repr := PySem.W.mg_none_of X G z_repr, b_str := PySem.W.mg_none_of X G z_str, b_super := PySem.W.mg_none_of X G z_super, b_tuple := PySem.W.mg_none_of X G z_tuple, c_FIGURES := PySem.W.mg_of X G g_FIGURES, c_TONES := PySem.W.mg_of X G g_TONES, c_MOST_FIRST := PySem.W.mg_of X G g_MOST_FIRST, c_MOST_EVERY := PySem.W.mg_of X G g_MOST_EVERY, c_MOST_BELLS := PySem.W.mg_of X G g_MOST_BELLS, c_BETWEEN := PySem.W.mg_of X G g_BETWEEN, x_BadText := x_BadText, x_BadBells := x_BadBells, h_BadText := h_BadText, h_BadBells := h_BadBells }
  have F__law_draws := fun_mk (st := s__law_draws) l__law_draws d__law_draws e__law_draws
  have F__law_bells := fun_mk (st := s__law_bells) l__law_bells d__law_bells e__law_bells
  have F__law_text := fun_mk (st := s__law_text) l__law_text d__law_text e__law_text
  have F__law_same := fun_mk (st := s__law_same) l__law_same d__law_same e__law_same
  have F__number := fun_mk (st := s__number) l__number d__number e__number
  have F_is_whole := fun_mk (st := s_is_whole) l_is_whole d_is_whole e_is_whole
  have F_is_bell := fun_mk (st := s_is_bell) l_is_bell d_is_bell e_is_bell
  have F_are_bells := fun_mk (st := s_are_bells) l_are_bells d_are_bells e_are_bells
  have F__bell := fun_mk (st := s__bell) l__bell d__bell e__bell
  have F_bells_of := fun_mk (st := s_bells_of) l_bells_of d_bells_of e_bells_of
  have F__law_told := fun_mk (st := s__law_told) l__law_told d__law_told e__law_told
  have F_check_bells := fun_mk (st := s_check_bells) l_check_bells d_check_bells e_check_bells
  have F_bells_text := fun_mk (st := s_bells_text) l_bells_text d_bells_text e_bells_text
  have F__law_refused := fun_mk (st := s__law_refused) l__law_refused d__law_refused e__law_refused
  have F__law_bell := fun_mk (st := s__law_bell) l__law_bell d__law_bell e__law_bell
  have F__law_due := fun_mk (st := s__law_due) l__law_due d__law_due e__law_due
  have F__law_wrongs := fun_mk (st := s__law_wrongs) l__law_wrongs d__law_wrongs e__law_wrongs
  have F_law := fun_mk (st := s_law) l_law d_law e_law
  refine ⟨PySem.W.fnOf "law" "law" (defArgs s_law) (defBody s_law) (defScope s_law) .none kV_law dc_law pm_law an_law cd_law ct_law, fun s v => .of_eq rfl, fun base _ _ => ?_⟩
  have n_BadText : ExI l.prog K mg C_BadText I_BadText cc_BadText "part" (nf_BadText cc_BadText c_BadText) := ⟨x_BadText.oC, ⟨_, _, _, _, _, _, _, _, _, jc_BadText⟩, jd_BadText, ⟨_, _, _, _, _, _, je_BadText, jf_BadText, jg_BadText⟩, ⟨_, _, _, jh_BadText⟩, rfl, ji_BadText, jj_BadText, jk_BadText, jl_BadText, x_BadText.nof, jm_BadText, T.b_super⟩
  have k_BadText : XFld l.prog w K mg base 1 "BadText" C_BadText "part" := ⟨x_BadText.gC, x_BadText.oC, I_BadText, _, ["self", "part"], ja_BadText, jb_BadText, Binds.all (ps := ["self", "part"]) fun us hl => match us, hl with | [_, _], _ => rfl, ini_BadText ⟨_, _, _, _, _, _, _, _, _, rfl, jc_BadText⟩ n_BadText T.b_str⟩
  have k__law_draws : Callee l.prog w K mg base 1 "_law_draws" 2 f__law_draws := ⟨⟨p__law_draws, _, ["script", "many"], PySem.W.mg_of X G a__law_draws, F__law_draws.kp, F__law_draws.binds (ps := ["script", "many"]) fun _ _ _ _ _ _ us hl => match us, hl with | [_, _], _ => rfl, ok__law_draws T F__law_draws⟩, semOf_len⟩
  have k__law_bells : Callee l.prog w K mg base 1 "_law_bells" 3 f__law_bells := ⟨⟨p__law_bells, _, ["draws", "everies", "most"], PySem.W.mg_of X G a__law_bells, F__law_bells.kp, F__law_bells.binds (ps := ["draws", "everies", "most"]) fun _ _ _ _ _ _ us hl => match us, hl with | [_, _, _], _ => rfl, ok__law_bells T F__law_bells⟩, semOf_len⟩
  have k__law_text : Callee l.prog w K mg base 1 "_law_text" 1 f__law_text := ⟨⟨p__law_text, _, ["bells"], PySem.W.mg_of X G a__law_text, F__law_text.kp, F__law_text.binds (ps := ["bells"]) fun _ _ _ _ _ _ us hl => match us, hl with | [_], _ => rfl, ok__law_text T F__law_text⟩, semOf_len⟩
  have k__law_same : CalleeG l.prog w K mg base 1 "_law_same" 2 f__law_same := ⟨⟨p__law_same, _, ["told", "due"], PySem.W.mg_of X G a__law_same, F__law_same.kp, F__law_same.binds (ps := ["told", "due"]) fun _ _ _ _ _ _ us hl => match us, hl with | [_, _], _ => rfl, ok__law_same T F__law_same⟩, semOf_len⟩
  have k__number : Callee l.prog w K mg base 1 "_number" 1 f__number := ⟨⟨p__number, _, ["word"], PySem.W.mg_of X G a__number, F__number.kp, F__number.binds (ps := ["word"]) fun _ _ _ _ _ _ us hl => match us, hl with | [_], _ => rfl, ok__number T F__number⟩, semOf_len⟩
  have k_is_whole : Callee l.prog w K mg base 1 "is_whole" 3 f_is_whole := ⟨⟨p_is_whole, _, ["value", "least", "most"], PySem.W.mg_of X G a_is_whole, F_is_whole.kp, F_is_whole.binds (ps := ["value", "least", "most"]) fun _ _ _ _ _ _ us hl => match us, hl with | [_, _, _], _ => rfl, ok_is_whole T F_is_whole⟩, semOf_len⟩
  have k_is_bell : Callee l.prog w K mg base 2 "is_bell" 1 f_is_bell := ⟨⟨p_is_bell, _, ["value"], PySem.W.mg_of X G a_is_bell, F_is_bell.kp, F_is_bell.binds (ps := ["value"]) fun _ _ _ _ _ _ us hl => match us, hl with | [_], _ => rfl, ok_is_bell T F_is_bell k_is_whole⟩, semOf_len⟩
  have k_are_bells : Callee l.prog w K mg base 3 "are_bells" 1 f_are_bells := ⟨⟨p_are_bells, _, ["value"], PySem.W.mg_of X G a_are_bells, F_are_bells.kp, F_are_bells.binds (ps := ["value"]) fun _ _ _ _ _ _ us hl => match us, hl with | [_], _ => rfl, ok_are_bells T F_are_bells k_is_bell⟩, semOf_len⟩
  have k__bell : Callee l.prog w K mg base 4 "_bell" 1 f__bell := ⟨⟨p__bell, _, ["part"], PySem.W.mg_of X G a__bell, F__bell.kp, F__bell.binds (ps := ["part"]) fun _ _ _ _ _ _ us hl => match us, hl with | [_], _ => rfl, ok__bell T F__bell k__number k_are_bells⟩, semOf_len⟩
  have k_bells_of : Callee l.prog w K mg base 5 "bells_of" 1 f_bells_of := ⟨⟨p_bells_of, _, ["text"], PySem.W.mg_of X G a_bells_of, F_bells_of.kp, F_bells_of.binds (ps := ["text"]) fun _ _ _ _ _ _ us hl => match us, hl with | [_], _ => rfl, ok_bells_of T F_bells_of k__bell k_BadText⟩, semOf_len⟩
  have k__law_told : Callee l.prog w K mg base 6 "_law_told" 1 f__law_told := ⟨⟨p__law_told, _, ["text"], PySem.W.mg_of X G a__law_told, F__law_told.kp, F__law_told.binds (ps := ["text"]) fun _ _ _ _ _ _ us hl => match us, hl with | [_], _ => rfl, ok__law_told T F__law_told k_bells_of⟩, semOf_len⟩
  have k_check_bells : Callee l.prog w K mg base 4 "check_bells" 1 f_check_bells := ⟨⟨p_check_bells, _, ["bells"], PySem.W.mg_of X G a_check_bells, F_check_bells.kp, F_check_bells.binds (ps := ["bells"]) fun _ _ _ _ _ _ us hl => match us, hl with | [_], _ => rfl, ok_check_bells T F_check_bells k_are_bells⟩, semOf_len⟩
  have k_bells_text : Callee l.prog w K mg base 5 "bells_text" 1 f_bells_text := ⟨⟨p_bells_text, _, ["bells"], PySem.W.mg_of X G a_bells_text, F_bells_text.kp, F_bells_text.binds (ps := ["bells"]) fun _ _ _ _ _ _ us hl => match us, hl with | [_], _ => rfl, ok_bells_text T F_bells_text k_check_bells⟩, semOf_len⟩
  have k__law_refused : Callee l.prog w K mg base 6 "_law_refused" 1 f__law_refused := ⟨⟨p__law_refused, _, ["value"], PySem.W.mg_of X G a__law_refused, F__law_refused.kp, F__law_refused.binds (ps := ["value"]) fun _ _ _ _ _ _ us hl => match us, hl with | [_], _ => rfl, ok__law_refused T F__law_refused k_bells_text⟩, semOf_len⟩
  have k__law_bell : Callee l.prog w K mg base 1 "_law_bell" 1 f__law_bell := ⟨⟨p__law_bell, _, ["part"], PySem.W.mg_of X G a__law_bell, F__law_bell.kp, F__law_bell.binds (ps := ["part"]) fun _ _ _ _ _ _ us hl => match us, hl with | [_], _ => rfl, ok__law_bell T F__law_bell⟩, semOf_len⟩
  have k__law_due : Callee l.prog w K mg base 2 "_law_due" 1 f__law_due := ⟨⟨p__law_due, _, ["text"], PySem.W.mg_of X G a__law_due, F__law_due.kp, F__law_due.binds (ps := ["text"]) fun _ _ _ _ _ _ us hl => match us, hl with | [_], _ => rfl, ok__law_due T F__law_due k__law_bell⟩, semOf_len⟩
  have k__law_wrongs : Callee l.prog w K mg base 1 "_law_wrongs" 0 f__law_wrongs := ⟨⟨p__law_wrongs, _, [], PySem.W.mg_of X G a__law_wrongs, F__law_wrongs.kp, F__law_wrongs.binds (ps := []) fun _ _ _ _ _ _ us hl => match us, hl with | [], _ => rfl, ok__law_wrongs T F__law_wrongs⟩, semOf_len⟩
  exact law_endG law_true (ok_law T F_law k__law_draws k__law_bells k__law_text k__law_same k_bells_text k_bells_of k__law_told k__law_due k__law_wrongs k__law_refused)
end DL.K48
open PySem.W PySem PyProof.Rows
set_option maxRecDepth 100001 in
set_option pp.maxSteps 400 in
set_option maxHeartbeats 0 in
theorem PySem.Challenge.cw_sandwright_k48_whole_bell_texts_holds : PySem.Challenge.rw_sandwright_k48_whole_bell_texts.Holds := by
  w_on; o_law; k_head; (case hw => (w_witness2))
  k_fill
  refine DL.walk_ofG (l := PySem.Challenge.rw_sandwright_k48_whole_bell_texts) (k := 7) (x := "script") rfl rfl ⟨rfl, by decide, by decide⟩ (fun w h Y => PySem.W.kIn_of Y) ?F
  case F =>
    intro w mg fa h KX G hmg
    refine' DL.K48.all_mk KX G hmg ?a__law_draws ?l__law_draws ?d__law_draws ?e__law_draws ?a__law_bells ?l__law_bells ?d__law_bells ?e__law_bells ?a__law_text ?l__law_text ?d__law_text ?e__law_text ?a__law_same ?l__law_same ?d__law_same ?e__law_same ?a__number ?l__number ?d__number ?e__number ?a_is_whole ?l_is_whole ?d_is_whole ?e_is_whole ?a_is_bell ?l_is_bell ?d_is_bell ?e_is_bell ?a_are_bells ?l_are_bells ?d_are_bells ?e_are_bells ?a__bell ?l__bell ?d__bell ?e__bell ?a_bells_of ?l_bells_of ?d_bells_of ?e_bells_of ?a__law_told ?l__law_told ?d__law_told ?e__law_told ?a_check_bells ?l_check_bells ?d_check_bells ?e_check_bells ?a_bells_text ?l_bells_text ?d_bells_text ?e_bells_text ?a__law_refused ?l__law_refused ?d__law_refused ?e__law_refused ?a__law_bell ?l__law_bell ?d__law_bell ?e__law_bell ?a__law_due ?l__law_due ?d__law_due ?e__law_due ?a__law_wrongs ?l__law_wrongs ?d__law_wrongs ?e__law_wrongs ?a_law ?l_law ?d_law ?e_law ?z_abs ?z_all ?z_bool ?z_enumerate ?z_int ?z_isinstance ?z_len ?z_list ?z_range ?z_repr ?z_str ?z_super ?z_tuple ?g_FIGURES ?g_TONES ?g_MOST_FIRST ?g_MOST_EVERY ?g_MOST_BELLS ?g_BETWEEN ?xa_BadText ?ua_BadText ?ub_BadText ?uc_BadText ?xc_BadText ?xd_BadText ?xe_BadText ?xf_BadText ?ud_BadText ?ue_BadText ?uf_BadText ?ja_BadText ?jb_BadText ?jc_BadText ?jd_BadText ?je_BadText ?jf_BadText ?jg_BadText ?jh_BadText ?ji_BadText ?jj_BadText ?jk_BadText ?jl_BadText ?jm_BadText ?xa_BadBells ?xb_BadBells ?xc_BadBells ?xd_BadBells ?xe_BadBells ?xf_BadBells ?y_BadBells_BadBells ?y_BadBells_BadText ?y_BadText_BadBells ?y_BadText_BadText
    (case a__law_draws => k_is)
    (case l__law_draws => k_is)
    (case d__law_draws => k_is)
    (case e__law_draws => k_is)
    (case a__law_bells => k_is)
    (case l__law_bells => k_is)
    (case d__law_bells => k_is)
    (case e__law_bells => k_is)
    (case a__law_text => k_is)
    (case l__law_text => k_is)
    (case d__law_text => k_is)
    (case e__law_text => k_is)
    (case a__law_same => k_is)
    (case l__law_same => k_is)
    (case d__law_same => k_is)
    (case e__law_same => k_is)
    (case a__number => k_is)
    (case l__number => k_is)
    (case d__number => k_is)
    (case e__number => k_is)
    (case a_is_whole => k_is)
    (case l_is_whole => k_is)
    (case d_is_whole => k_is)
    (case e_is_whole => k_is)
    (case a_is_bell => k_is)
    (case l_is_bell => k_is)
    (case d_is_bell => k_is)
    (case e_is_bell => k_is)
    (case a_are_bells => k_is)
    (case l_are_bells => k_is)
    (case d_are_bells => k_is)
    (case e_are_bells => k_is)
    (case a__bell => k_is)
    (case l__bell => k_is)
    (case d__bell => k_is)
    (case e__bell => k_is)
    (case a_bells_of => k_is)
    (case l_bells_of => k_is)
    (case d_bells_of => k_is)
    (case e_bells_of => k_is)
    (case a__law_told => k_is)
    (case l__law_told => k_is)
    (case d__law_told => k_is)
    (case e__law_told => k_is)
    (case a_check_bells => k_is)
    (case l_check_bells => k_is)
    (case d_check_bells => k_is)
    (case e_check_bells => k_is)
    (case a_bells_text => k_is)
    (case l_bells_text => k_is)
    (case d_bells_text => k_is)
    (case e_bells_text => k_is)
    (case a__law_refused => k_is)
    (case l__law_refused => k_is)
    (case d__law_refused => k_is)
    (case e__law_refused => k_is)
    (case a__law_bell => k_is)
    (case l__law_bell => k_is)
    (case d__law_bell => k_is)
    (case e__law_bell => k_is)
    (case a__law_due => k_is)
    (case l__law_due => k_is)
    (case d__law_due => k_is)
    (case e__law_due => k_is)
    (case a__law_wrongs => k_is)
    (case l__law_wrongs => k_is)
    (case d__law_wrongs => k_is)
    (case e__law_wrongs => k_is)
    (case a_law => k_is)
    (case l_law => k_is)
    (case d_law => k_is)
    (case e_law => k_is)
    (case z_abs => k_is)
    (case z_all => k_is)
    (case z_bool => k_is)
    (case z_enumerate => k_is)
    (case z_int => k_is)
    (case z_isinstance => k_is)
    (case z_len => k_is)
    (case z_list => k_is)
    (case z_range => k_is)
    (case z_repr => k_is)
    (case z_str => k_is)
    (case z_super => k_is)
    (case z_tuple => k_is)
    (case g_FIGURES => k_is)
    (case g_TONES => k_is)
    (case g_MOST_FIRST => k_is)
    (case g_MOST_EVERY => k_is)
    (case g_MOST_BELLS => k_is)
    (case g_BETWEEN => k_is)
    (case xa_BadText => k_is)
    (case ua_BadText => k_is)
    (case ub_BadText => first | exact rfl | kernel_rfl | decide +kernel)
    (case uc_BadText => k_is)
    (case xc_BadText => k_is)
    (case xd_BadText => k_is)
    (case xe_BadText => k_is)
    (case xf_BadText => k_is)
    (case ud_BadText => k_is)
    (case ue_BadText => k_is)
    (case uf_BadText => k_is)
    (case ja_BadText => k_is)
    (case jb_BadText => k_is)
    (case jc_BadText => k_is)
    (case jd_BadText => k_is)
    (case je_BadText => k_is)
    (case jf_BadText => first | exact rfl | kernel_rfl | decide +kernel)
    (case jg_BadText => first | exact rfl | kernel_rfl | decide +kernel)
    (case jh_BadText => k_is)
    (case ji_BadText => k_is)
    (case jj_BadText => k_is)
    (case jk_BadText => ks_is)
    (case jl_BadText => k_is)
    (case jm_BadText => first | exact rfl | kernel_rfl | decide +kernel)
    (case xa_BadBells => k_is)
    (case xb_BadBells => k_exc)
    (case xc_BadBells => k_is)
    (case xd_BadBells => k_is)
    (case xe_BadBells => k_is)
    (case xf_BadBells => k_is)
    (case y_BadBells_BadBells => k_is)
    (case y_BadBells_BadText => k_is)
    (case y_BadText_BadBells => k_is)
    (case y_BadText_BadText => k_is)
