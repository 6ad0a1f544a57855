import PyProof.Rows.All
import Wide.All
import OpenK.AllK
import Wide.FinOn
import HandS.ForMost
import HandS.Wide
import HandS.Gcd
import HandS.IsInst
import HandS.TupAny
import HandS.TupMul
import HandS.TupLe
import HandS.Conv
import HandS.Flow
import KE.KMathG
import HandS.NoneIn
import KE.GoesMore
import HandS.Iter
import KE.DataCmp
import HandS.Style
import HandS.Dict
import HandS.Strs
import HandS.SortInts
import PyProof.TupleOfSeq
import HandS.ExcValue
import PyProof.ReprRoads
import HandS.Ends
import HandS.Exc
import HandS.ExcOwn
import HandS.ExcIs
import HandS.HeadHook1
import PyProof.ExcBaseAll.ValueError
import PyProof.FitsInt
import PySem.Challenge.RW_counterheld_k86_whole_bridges
set_option Elab.async false
set_option linter.all false
set_option maxRecDepth 100000
set_option maxHeartbeats 1000000
/-! Data, environments, and the meaning of expressions as functions on them. -/
namespace Z
open PySem PySem.Spec PyProof.Rows L2

/-- a value as data: what it is, without the heap -/
inductive D where
  | non | bl (b : Bool) | int (i : Int) | str (s : Str) | ty (n : String)
  | tup (ds : List D) | lst (ds : List D)
  | scr (ns : List Int)
  | itup (ns : List Int)
  | dk (ks : List Key) (ds : List D) | dt (ks : List (List Key)) (ds : List D)
  | obj (c : Str) (ns : List Str) (ds : List D)

abbrev Le (F H : Hp) : Prop := ∀ (a : Addr) (o : HO), F a = some o → H a = some o
theorem Le.refl (F : Hp) : Le F F := fun _ _ h => h
theorem Le.trans {F G H : Hp} (a : Le F G) (b : Le G H) : Le F H := fun x o h => b x o (a x o h)
theorem Le.new {F H : Hp} {p : Addr} {o : HO} (a : Le F H) (h : H p = none) : Le F (upd H p o) := fun b u e => by
  rw [upd_ne (ne_of_none (a b u e) h)]; exact a b u e
theorem Le.fresh {F H : Hp} {p : Addr} (a : Le F H) (h : H p = none) : F p = none := by
  cases e : F p with
  | none => rfl
  | some o => rw [a p o e] at h; cases h
theorem Le.put {F : Hp} {p : Addr} {o : HO} (h : F p = none) : Le F (upd F p o) := Le.new (Le.refl F) h
theorem Le.both {F H : Hp} {p : Addr} {o : HO} (a : Le F H) : Le (upd F p o) (upd H p o) := fun b u e => by
  unfold upd at e ⊢
  split
  · rename_i hb; rw [if_pos hb] at e; exact e
  · rename_i hb; rw [if_neg hb] at e; exact a b u e
/-- F grows at a place where H stands -/
theorem Le.into {F H : Hp} {p : Addr} {o : HO} (a : Le F H) (h : H p = some o) : Le (upd F p o) H := fun b u e => by
  unfold upd at e
  split at e
  · rename_i hb; subst hb; rw [h]; exact e
  · exact a b u e

section
variable (K : PySem.W.Frag) (cl : Str → Addr)
mutual
inductive At : Hp → V → D → Prop
  | non {F} : At F .non .non
  | bl {F} (b : Bool) : At F (.bl b) (.bl b)
  | int {F} (i : Int) : At F (.int i) (.int i)
  | str {F} (x : Str) : At F (.str x) (.str x)
  | ty {F} (n : String) : At F (.ty n) (.ty n)
  | tup {F} {a : Addr} {vs : List V} {ds : List D} : F a = some (.tup vs) → AtAll F vs ds → At F (.ref a) (.tup ds)
  | lst {F} {a : Addr} {vs : List V} {ds : List D} : F a = some (.lst vs) → AtAll F vs ds → At F (.ref a) (.lst ds)
  | scr {F} {a : Addr} {ns : List Int} : SqL K F a (ns.map V.int) → At F (.ref a) (.scr ns)
  | itup {F} {a : Addr} {ns : List Int} {o : PySem.Obj} : F a = some (.frz o (.tup (ns.map V.int))) → o.dict = none → At F (.ref a) (.itup ns)
  | dk {F} {a : Addr} {ks : List Key} {vs : List V} {ds : List D} : F a = some (.dK (ks.zip vs)) → ks.length = vs.length → AtAll F vs ds → At F (.ref a) (.dk ks ds)
  | dt {F} {a : Addr} {ks : List (List Key)} {vs : List V} {ds : List D} : F a = some (.dT (ks.zip vs)) → ks.length = vs.length → AtAll F vs ds → At F (.ref a) (.dt ks ds)
  | obj {F} {a dx : Addr} {c : Str} {ns : List Str} {vs : List V} {ds : List D} : F a = some (.ins (cl c) dx (ns.zip vs)) → ns.length = vs.length → AtAll F vs ds → At F (.ref a) (.obj c ns ds)
inductive AtAll : Hp → List V → List D → Prop
  | nil {F} : AtAll F [] []
  | cons {F} {v : V} {vs : List V} {d : D} {ds : List D} : At F v d → AtAll F vs ds → AtAll F (v :: vs) (d :: ds)
end
end

section
variable {K : PySem.W.Frag} {cl : Str → Addr}
theorem seq_le {F H : Hp} {a : Addr} {xs : List V} (e : Le F H) (h : SqL K F a xs) : SqL K H a xs := by
  rcases h with (h | ⟨o, h⟩) | h
  · exact .inl (.inl (e _ _ h))
  · exact .inl (.inr ⟨o, e _ _ h⟩)
  · exact .inr h
mutual
theorem At.mono {F H : Hp} (e : Le F H) : ∀ {v : V} {d : D}, At K cl F v d → At K cl H v d
  | _, _, .non => .non
  | _, _, .bl b => .bl b
  | _, _, .int i => .int i
  | _, _, .str x => .str x
  | _, _, .ty n => .ty n
  | _, _, .tup h a => .tup (e _ _ h) (AtAll.mono e a)
  | _, _, .lst h a => .lst (e _ _ h) (AtAll.mono e a)
  | _, _, .scr h => .scr (seq_le e h)
  | _, _, .itup h d => .itup (e _ _ h) d
  | _, _, .dk h l a => .dk (e _ _ h) l (AtAll.mono e a)
  | _, _, .dt h l a => .dt (e _ _ h) l (AtAll.mono e a)
  | _, _, .obj h l a => .obj (e _ _ h) l (AtAll.mono e a)
theorem AtAll.mono {F H : Hp} (e : Le F H) : ∀ {vs : List V} {ds : List D}, AtAll K cl F vs ds → AtAll K cl H vs ds
  | _, _, .nil => .nil
  | _, _, .cons h t => .cons (At.mono e h) (AtAll.mono e t)
end
theorem AtAll.length : ∀ {F : Hp} {vs : List V} {ds : List D}, AtAll K cl F vs ds → vs.length = ds.length
  | _, _, _, .nil => rfl
  | _, _, _, .cons _ t => by simp [AtAll.length t]
theorem AtAll.get : ∀ {F : Hp} {vs : List V} {ds : List D} {i : Nat} {d : D}, AtAll K cl F vs ds → ds[i]? = some d → ∃ v, vs[i]? = some v ∧ At K cl F v d
  | _, _, _, _, _, .nil, e => by simp at e
  | _, _, _, 0, _, .cons h _, e => by simp at e; subst e; exact ⟨_, rfl, h⟩
  | _, _, _, i + 1, _, .cons _ t, e => by
    obtain ⟨v, h1, h2⟩ := AtAll.get (i := i) t (by simpa using e)
    exact ⟨v, by simpa using h1, h2⟩
theorem AtAll.getV : ∀ {F : Hp} {vs : List V} {ds : List D} {i : Nat} {v : V}, AtAll K cl F vs ds → vs[i]? = some v → ∃ d, ds[i]? = some d ∧ At K cl F v d
  | _, _, _, _, _, .nil, e => by simp at e
  | _, _, _, 0, _, .cons h _, e => by simp at e; subst e; exact ⟨_, rfl, h⟩
  | _, _, _, i + 1, _, .cons _ t, e => by
    obtain ⟨v, h1, h2⟩ := AtAll.getV (i := i) t (by simpa using e)
    exact ⟨v, by simpa using h1, h2⟩
theorem AtAll.append : ∀ {F : Hp} {vs ws : List V} {ds es : List D}, AtAll K cl F vs ds → AtAll K cl F ws es → AtAll K cl F (vs ++ ws) (ds ++ es)
  | _, _, _, _, _, .nil, s => s
  | _, _, _, _, _, .cons r t, s => .cons r (AtAll.append t s)
theorem AtAll.take : ∀ {F : Hp} {vs : List V} {ds : List D} (n : Nat), AtAll K cl F vs ds → AtAll K cl F (vs.take n) (ds.take n)
  | _, _, _, 0, _ => .nil
  | _, _, _, _ + 1, .nil => .nil
  | _, _, _, n + 1, .cons r t => .cons r (AtAll.take n t)
theorem AtAll.drop : ∀ {F : Hp} {vs : List V} {ds : List D} (n : Nat), AtAll K cl F vs ds → AtAll K cl F (vs.drop n) (ds.drop n)
  | _, _, _, 0, r => r
  | _, _, _, _ + 1, .nil => .nil
  | _, _, _, n + 1, .cons _ t => AtAll.drop n t
theorem AtAll.set {F : Hp} {v : V} {d : D} (r : At K cl F v d) : ∀ {vs : List V} {ds : List D} (i : Nat), AtAll K cl F vs ds → AtAll K cl F (vs.set i v) (ds.set i d)
  | _, _, _, .nil => .nil
  | _, _, 0, .cons _ t => .cons r t
  | _, _, i + 1, .cons q t => .cons q (AtAll.set r i t)
theorem AtAll.eraseIdx : ∀ {F : Hp} {vs : List V} {ds : List D} (i : Nat), AtAll K cl F vs ds → AtAll K cl F (vs.eraseIdx i) (ds.eraseIdx i)
  | _, _, _, _, .nil => .nil
  | _, _, _, 0, .cons _ t => t
  | _, _, _, i + 1, .cons r t => .cons r (AtAll.eraseIdx i t)
theorem AtAll.reverse {F : Hp} {vs : List V} {ds : List D} (h : AtAll K cl F vs ds) : AtAll K cl F vs.reverse ds.reverse := by
  induction vs generalizing ds with
  | nil => cases h; exact .nil
  | cons v vs ih => cases h with | cons a b => rw [List.reverse_cons, List.reverse_cons]; exact (ih b).append (.cons a .nil)
theorem AtAll.rep {F : Hp} {vs : List V} {ds : List D} (h : AtAll K cl F vs ds) : ∀ k : Nat, AtAll K cl F (List.replicate k vs).flatten (List.replicate k ds).flatten
  | 0 => .nil
  | k + 1 => by rw [List.replicate_succ, List.replicate_succ, List.flatten_cons, List.flatten_cons]; exact h.append (AtAll.rep h k)
theorem AtAll.ints : ∀ {F : Hp} (ns : List Int), AtAll K cl F (ns.map V.int) (ns.map D.int)
  | _, [] => .nil
  | _, n :: r => .cons (.int n) (AtAll.ints r)

/-! ### containers that one def alone holds, and that it may change -/
inductive OC where
  | lst (ds : List D)
  | dct (ks : List (List Key)) (ds : List D)
def OC.d : OC → D
  | .lst ds => .lst ds
  | .dct ks ds => .dt ks ds
def OwnAt (K : PySem.W.Frag) (cl : Str → Addr) (F H : Hp) (a : Addr) : OC → Prop
  | .lst ds => ∃ vs, H a = some (.lst vs) ∧ AtAll K cl F vs ds
  | .dct ks ds => ∃ vs, H a = some (.dT (ks.zip vs)) ∧ ks.length = vs.length ∧ AtAll K cl F vs ds
theorem OwnAt.mono {F F' H H' : Hp} {a : Addr} {o : OC} (e : Le F F') (k : H' a = H a) (h : OwnAt K cl F H a o) : OwnAt K cl F' H' a o := by
  cases o with
  | lst ds => obtain ⟨vs, h1, h2⟩ := h; exact ⟨vs, k.trans h1, h2.mono e⟩
  | dct ks ds => obtain ⟨vs, h1, h2, h3⟩ := h; exact ⟨vs, k.trans h1, h2, h3.mono e⟩
theorem OwnAt.has {F H : Hp} {a : Addr} {o : OC} (h : OwnAt K cl F H a o) : ∃ ob, H a = some ob := by
  cases o with
  | lst ds => obtain ⟨vs, h1, h2⟩ := h; exact ⟨_, h1⟩
  | dct ks ds => obtain ⟨vs, h1, h2, h3⟩ := h; exact ⟨_, h1⟩
theorem OwnAt.freeze {F H : Hp} {a : Addr} {o : OC} {ob : HO} (hF : F a = none) (e : H a = some ob) (h : OwnAt K cl F H a o) : At K cl (upd F a ob) (.ref a) o.d := by
  cases o with
  | lst ds => obtain ⟨vs, h1, h2⟩ := h; rw [h1] at e; cases e; exact .lst upd_same (h2.mono (Le.put hF))
  | dct ks ds => obtain ⟨vs, h1, h2, h3⟩ := h; rw [h1] at e; cases e; exact .dt upd_same h2 (h3.mono (Le.put hF))
/-- what may be read now: the thing itself in the heap as it stands, what is in it is frozen -/
def AtT (K : PySem.W.Frag) (cl : Str → Addr) (F H : Hp) (v : V) : D → Prop
  | .lst ds => ∃ a vs, v = .ref a ∧ H a = some (.lst vs) ∧ AtAll K cl F vs ds
  | .dt ks ds => ∃ a vs, v = .ref a ∧ H a = some (.dT (ks.zip vs)) ∧ ks.length = vs.length ∧ AtAll K cl F vs ds
  | d => At K cl F v d
theorem AtT.of {F H : Hp} {v : V} {d : D} (e : Le F H) (h : At K cl F v d) : AtT K cl F H v d := by
  cases h with
  | lst h1 h2 => exact ⟨_, _, rfl, e _ _ h1, h2⟩
  | dt h1 h2 h3 => exact ⟨_, _, rfl, e _ _ h1, h2, h3⟩
  | non => exact .non
  | bl b => exact .bl b
  | int i => exact .int i
  | str x => exact .str x
  | ty n => exact .ty n
  | tup h1 h2 => exact .tup h1 h2
  | scr h1 => exact .scr h1
  | itup h1 h2 => exact .itup h1 h2
  | dk h1 h2 h3 => exact .dk h1 h2 h3
  | obj h1 h2 h3 => exact .obj h1 h2 h3
theorem AtT.own {F H : Hp} {a : Addr} {o : OC} (h : OwnAt K cl F H a o) : AtT K cl F H (.ref a) o.d := by
  cases o with
  | lst ds => obtain ⟨vs, h1, h2⟩ := h; exact ⟨_, _, rfl, h1, h2⟩
  | dct ks ds => obtain ⟨vs, h1, h2, h3⟩ := h; exact ⟨_, _, rfl, h1, h2, h3⟩
theorem AtT.now {F H : Hp} {v : V} {d : D} (e : Le F H) (h : AtT K cl F H v d) : At K cl H v d := by
  cases d with
  | lst ds => obtain ⟨a, vs, rfl, h1, h2⟩ := h; exact .lst h1 (h2.mono e)
  | dt ks ds => obtain ⟨a, vs, rfl, h1, h2, h3⟩ := h; exact .dt h1 h2 (h3.mono e)
  | _ => exact At.mono e h

/-! ### environments -/
/-- a field of an instance that is being made: data; the container in slot g -/
inductive Fv where
  | dat (d : D)
  | lnk (g : Nat)
inductive Sl where
  | dat (d : D)
  | own (o : OC)
  | par (o : OC)
  | slf (c : Str) (ns : List Str) (fs : List Fv)
def FvAt (K : PySem.W.Frag) (cl : Str → Addr) (pa : Nat → Addr) (F : Hp) (v : V) : Fv → Prop
  | .dat d => At K cl F v d
  | .lnk g => v = .ref (pa g)
theorem FvAt.mono {pa : Nat → Addr} {F F' : Hp} {v : V} {f : Fv} (e : Le F F') (h : FvAt K cl pa F v f) : FvAt K cl pa F' v f := by
  cases f with
  | dat d => exact At.mono e h
  | lnk g => exact h
theorem FvAll_mono {pa : Nat → Addr} {F F' : Hp} (e : Le F F') : ∀ {vs : List V} {fs : List Fv}, Paired (FvAt K cl pa F) vs fs → Paired (FvAt K cl pa F') vs fs
  | _, _, .nil => .nil
  | _, _, .cons h t => .cons (h.mono e) (FvAll_mono e t)
def SlfOk (K : PySem.W.Frag) (cl : Str → Addr) (pa : Nat → Addr) (F R : Hp) (σ : L2.St) (i : Nat) (c : Str) (ns : List Str) (fs : List Fv) : Prop :=
  σ[i]? = some (some (.ref (pa i))) ∧ ∃ dx vs, R (pa i) = some (.ins (cl c) dx (ns.zip vs)) ∧ ns.length = vs.length ∧ Paired (FvAt K cl pa F) vs fs
theorem SlfOk.mono {pa : Nat → Addr} {F F' R R' : Hp} {σ : L2.St} {i : Nat} {c : Str} {ns : List Str} {fs : List Fv} (e : Le F F') (r : Le R R') (h : SlfOk K cl pa F R σ i c ns fs) : SlfOk K cl pa F' R' σ i c ns fs := by
  obtain ⟨h1, dx, vs, h2, h3, h4⟩ := h
  exact ⟨h1, dx, vs, r _ _ h2, h3, FvAll_mono e h4⟩
abbrev En := List (Option Sl)
def ocOf (env : En) (i : Nat) : Option OC := match env[i]? with
  | some (some (.own o)) => some o
  | some (some (.par o)) => some o
  | _ => none
/-- the result of an expression: data; what slot i holds; a new container that nobody else holds -/
inductive Rv where
  | dat (d : D)
  | slot (i : Nat)
  | own (o : OC)

structure RS (K : PySem.W.Frag) (cl : Str → Addr) (pa : Nat → Addr) (F R H : Hp) (σ : L2.St) (ad : Nat → Addr) (env : En) : Prop where
  fh : Le F H
  rh : Le R H
  len : env.length = σ.length
  dat : ∀ (i : Nat) (d : D), env[i]? = some (some (Sl.dat d)) → ∃ v, σ[i]? = some (some v) ∧ At K cl F v d
  oc : ∀ (i : Nat) (o : OC), ocOf env i = some o → σ[i]? = some (some (.ref (ad i))) ∧ F (ad i) = none ∧ R (ad i) = none ∧ OwnAt K cl F H (ad i) o
  ne : ∀ (i j : Nat), i ≠ j → (ocOf env i).isSome = true → (ocOf env j).isSome = true → ad i ≠ ad j
  par : ∀ (i : Nat) (o : OC), env[i]? = some (some (Sl.par o)) → ad i = pa i
  dj : ∀ (a : Addr) (o : HO), R a = some o → F a = none
  slf : ∀ (i : Nat) (c : Str) (ns : List Str) (fs : List Fv), env[i]? = some (some (Sl.slf c ns fs)) → SlfOk K cl pa F R σ i c ns fs

def RvAt (K : PySem.W.Frag) (cl : Str → Addr) (F R H : Hp) (σ : L2.St) (ad : Nat → Addr) (env : En) (v : V) : Rv → Prop
  | .dat d => At K cl F v d
  | .slot i => σ[i]? = some (some v)
  | .own o => ∃ a, v = .ref a ∧ F a = none ∧ R a = none ∧ OwnAt K cl F H a o ∧ ∀ j, (ocOf env j).isSome = true → ad j ≠ a
/-- what lives on while other things are reckoned -/
def RvF (K : PySem.W.Frag) (cl : Str → Addr) (F : Hp) (σ : L2.St) (v : V) : Rv → Prop
  | .dat d => At K cl F v d
  | .slot i => σ[i]? = some (some v)
  | .own _ => False
def fz : Rv → Rv
  | .own o => .dat o.d
  | r => r
def rdS (env : En) (i : Nat) : Option D := match env[i]? with
  | some (some (.dat d)) => some d
  | some (some (.own o)) => some o.d
  | some (some (.par o)) => some o.d
  | _ => none
def rd (env : En) : Rv → Option D
  | .dat d => some d
  | .own o => some o.d
  | .slot i => rdS env i
/-- to keep a value: a container that a slot holds is frozen -/
def kpS (env : En) (i : Nat) : Option (D × En) := match env[i]? with
  | some (some (.dat d)) => some (d, env)
  | some (some (.own o)) => some (o.d, env.set i (some (.dat o.d)))
  | _ => none
def kp (env : En) : Rv → Option (D × En)
  | .dat d => some (d, env)
  | .own o => some (o.d, env)
  | .slot i => kpS env i

variable {pa : Nat → Addr} {F F' R H H' : Hp} {σ : L2.St} {ad : Nat → Addr} {env : En}
theorem oc_own {i : Nat} {o : OC} (h : env[i]? = some (some (.own o))) : ocOf env i = some o := by unfold ocOf; rw [h]
theorem oc_par {i : Nat} {o : OC} (h : env[i]? = some (some (.par o))) : ocOf env i = some o := by unfold ocOf; rw [h]
theorem oc_dat {i : Nat} {d : D} (h : env[i]? = some (some (.dat d))) : ocOf env i = none := by unfold ocOf; rw [h]
theorem oc_set_ne {i j : Nat} {s : Option Sl} (h : i ≠ j) : ocOf (env.set i s) j = ocOf env j := by unfold ocOf; rw [List.getElem?_set_ne h]

/-- H grows at a new place; F perhaps too -/
inductive Grow (F H : Hp) : Hp → Hp → Prop
  | no : Grow F H F H
  | fr (p : Addr) (o : HO) : H p = none → Grow F H (upd F p o) (upd H p o)
theorem Grow.le (g : Grow F H F' H') (e : Le F H) : Le F F' := by
  cases g with
  | no => exact Le.refl _
  | fr p o h => exact Le.put (e.fresh h)
theorem RS.newAt {p : Addr} {o : HO} (S : RS K cl pa F R H σ ad env) (h : H p = none) : RS K cl pa F R (upd H p o) σ ad env where
  fh := S.fh.new h
  rh := S.rh.new h
  len := S.len
  dat := S.dat
  oc := fun i u e => by
    obtain ⟨h1, h2, h3, h4⟩ := S.oc i u e
    refine ⟨h1, h2, h3, h4.mono (Le.refl _) ?_⟩
    obtain ⟨ob, hb⟩ := h4.has
    rw [upd_ne (ne_of_none hb h)]
  ne := S.ne
  par := S.par
  dj := S.dj
  slf := S.slf
theorem RS.grow (S : RS K cl pa F R H σ ad env) (g : Grow F H F' H') : RS K cl pa F' R H' σ ad env := by
  cases g with
  | no => exact S
  | fr p o h =>
    have S1 := S.newAt (o := o) h
    refine ⟨S.fh.both, S1.rh, S.len, fun i d e => ?_, fun i u e => ?_, S.ne, S.par, fun b u e => by rw [upd_ne (ne_of_none (S.rh b u e) h)]; exact S.dj b u e, fun i c ns fs e => (S.slf i c ns fs e).mono (Le.put (S.fh.fresh h)) (Le.refl _)⟩
    · obtain ⟨v, h1, h2⟩ := S.dat i d e
      exact ⟨v, h1, h2.mono (Le.put (S.fh.fresh h))⟩
    · obtain ⟨h1, h2, h3, h4⟩ := S1.oc i u e
      obtain ⟨_, _, _, h5⟩ := S.oc i u e
      obtain ⟨ob, hb⟩ := h5.has
      exact ⟨h1, by rw [upd_ne (ne_of_none hb h)]; exact h2, h3, h4.mono (Le.put (S.fh.fresh h)) rfl⟩
theorem RvF.mono {v : V} {r : Rv} (e : Le F F') (h : RvF K cl F σ v r) : RvF K cl F' σ v r := by
  cases r with
  | dat d => exact At.mono e h
  | slot i => exact h
  | own o => exact h
/-- a new container is frozen at need -/
theorem RS.fzz {v : V} {r : Rv} (S : RS K cl pa F R H σ ad env) (h : RvAt K cl F R H σ ad env v r) : ∃ F', Le F F' ∧ RS K cl pa F' R H σ ad env ∧ RvF K cl F' σ v (fz r) := by
  cases r with
  | dat d => exact ⟨F, Le.refl _, S, h⟩
  | slot i => exact ⟨F, Le.refl _, S, h⟩
  | own o =>
    obtain ⟨a, rfl, h1, h2, h3, h4⟩ := h
    obtain ⟨ob, hb⟩ := h3.has
    refine ⟨upd F a ob, Le.put h1, ⟨S.fh.into hb, S.rh, S.len, fun i d e => ?_, fun i u e => ?_, S.ne, S.par, fun b u e => by rw [upd_ne (fun z => by subst z; rw [h2] at e; cases e)]; exact S.dj b u e, fun i c ns fs e => (S.slf i c ns fs e).mono (Le.put h1) (Le.refl _)⟩, h3.freeze h1 hb⟩
    · obtain ⟨v, q1, q2⟩ := S.dat i d e
      exact ⟨v, q1, q2.mono (Le.put h1)⟩
    · obtain ⟨q1, q2, q3, q4⟩ := S.oc i u e
      exact ⟨q1, by rw [upd_ne (h4 i (by rw [e]; rfl))]; exact q2, q3, q4.mono (Le.put h1) rfl⟩
theorem RS.read {v : V} {r : Rv} {d : D} (S : RS K cl pa F R H σ ad env) (h : RvF K cl F σ v r) (e : rd env r = some d) : AtT K cl F H v d := by
  cases r with
  | dat d' => cases e; exact AtT.of S.fh h
  | own o => exact h.elim
  | slot i =>
    change rdS env i = some d at e
    unfold rdS at e
    split at e
    · rename_i heq
      rename_i d'; cases e
      obtain ⟨v', q1, q2⟩ := S.dat i _ heq
      have : v' = v := by rw [show σ[i]? = some (some v) from h] at q1; cases q1; rfl
      subst this
      exact AtT.of S.fh q2
    · rename_i o heq
      cases e
      obtain ⟨q1, q2, q3, q4⟩ := S.oc i o (oc_own heq)
      have : V.ref (ad i) = v := by rw [show σ[i]? = some (some v) from h] at q1; cases q1; rfl
      subst this
      exact AtT.own q4
    · rename_i o heq
      cases e
      obtain ⟨q1, q2, q3, q4⟩ := S.oc i o (oc_par heq)
      have : V.ref (ad i) = v := by rw [show σ[i]? = some (some v) from h] at q1; cases q1; rfl
      subst this
      exact AtT.own q4
    · cases e
theorem set_get_self {α : Type} {l : List α} {i : Nat} {a b : α} (h : l[i]? = some b) : (l.set i a)[i]? = some a := by
  have := (List.getElem?_eq_some_iff.mp h).1
  simp [List.getElem?_set, this]
/-- the container that slot i holds is frozen -/
theorem RS.freeze {i : Nat} {o : OC} (S : RS K cl pa F R H σ ad env) (h : env[i]? = some (some (.own o))) :
    ∃ F', Le F F' ∧ RS K cl pa F' R H σ ad (env.set i (some (.dat o.d))) ∧ At K cl F' (.ref (ad i)) o.d := by
  obtain ⟨q1, q2, q3, q4⟩ := S.oc i o (oc_own h)
  obtain ⟨ob, hb⟩ := q4.has
  have hA : At K cl (upd F (ad i) ob) (.ref (ad i)) o.d := q4.freeze q2 hb
  have hoc : ocOf (env.set i (some (Sl.dat o.d))) i = none := oc_dat (set_get_self h)
  refine ⟨upd F (ad i) ob, Le.put q2, ⟨S.fh.into hb, S.rh, by rw [List.length_set]; exact S.len, fun j d e => ?_, fun j u e => ?_, fun j k hjk hj hk => ?_, fun j u e => ?_, fun b u e => by rw [upd_ne (fun z => by subst z; rw [q3] at e; cases e)]; exact S.dj b u e, fun j c ns fs e => ?_⟩, hA⟩
  · by_cases hj : i = j
    · subst hj
      rw [set_get_self h] at e
      cases e
      exact ⟨_, q1, hA⟩
    · rw [List.getElem?_set_ne hj] at e
      obtain ⟨v, r1, r2⟩ := S.dat j d e
      exact ⟨v, r1, r2.mono (Le.put q2)⟩
  · by_cases hj : i = j
    · subst hj; rw [hoc] at e; cases e
    · rw [oc_set_ne hj] at e
      obtain ⟨r1, r2, r3, r4⟩ := S.oc j u e
      have hn : ad j ≠ ad i := S.ne j i (Ne.symm hj) (by rw [e]; rfl) (by rw [oc_own h]; rfl)
      exact ⟨r1, by rw [upd_ne hn]; exact r2, r3, r4.mono (Le.put q2) rfl⟩
  · have hj' : i ≠ j := fun z => by subst z; rw [hoc] at hj; cases hj
    have hk' : i ≠ k := fun z => by subst z; rw [hoc] at hk; cases hk
    rw [oc_set_ne hj'] at hj
    rw [oc_set_ne hk'] at hk
    exact S.ne j k hjk hj hk
  · by_cases hj : i = j
    · subst hj; rw [set_get_self h] at e; cases e
    · rw [List.getElem?_set_ne hj] at e; exact S.par j u e
  · by_cases hj : i = j
    · subst hj; rw [set_get_self h] at e; cases e
    · rw [List.getElem?_set_ne hj] at e; exact (S.slf j c ns fs e).mono (Le.put q2) (Le.refl _)
theorem RS.keep {v : V} {r : Rv} {d : D} {env' : En} (S : RS K cl pa F R H σ ad env) (h : RvF K cl F σ v r) (e : kp env r = some (d, env')) : ∃ F', Le F F' ∧ RS K cl pa F' R H σ ad env' ∧ At K cl F' v d := by
  cases r with
  | dat d' => cases e; exact ⟨F, Le.refl _, S, h⟩
  | own o => exact h.elim
  | slot i =>
    change kpS env i = some (d, env') at e
    unfold kpS at e
    split at e
    · rename_i heq
      cases e
      obtain ⟨v', q1, q2⟩ := S.dat i _ heq
      have : v' = v := by rw [show σ[i]? = some (some v) from h] at q1; cases q1; rfl
      subst this
      exact ⟨F, Le.refl _, S, q2⟩
    · rename_i o heq
      cases e
      obtain ⟨q1, _, _, _⟩ := S.oc i o (oc_own heq)
      have : V.ref (ad i) = v := by rw [show σ[i]? = some (some v) from h] at q1; cases q1; rfl
      subst this
      exact S.freeze heq
    · cases e
/-- slot i is set to data -/
theorem RS.setDat {i : Nat} {v : V} {d : D} (S : RS K cl pa F R H σ ad env) (hi : i < env.length) (h : At K cl F v d) : RS K cl pa F R H (σ.set i (some v)) ad (env.set i (some (.dat d))) := by
  have hs : (env.set i (some (Sl.dat d)))[i]? = some (some (.dat d)) := by simp [hi]
  have hoc : ocOf (env.set i (some (Sl.dat d))) i = none := oc_dat hs
  have hσ : (σ.set i (some v))[i]? = some (some v) := by have := S.len ▸ hi; simp [this]
  refine ⟨S.fh, S.rh, by rw [List.length_set, List.length_set]; exact S.len, fun j e hj => ?_, fun j u hj => ?_, fun j k hjk hj hk => ?_, fun j u hj => ?_, S.dj, fun j c ns fs hj => ?_⟩
  · by_cases z : i = j
    · subst z; rw [hs] at hj; cases hj; exact ⟨v, hσ, h⟩
    · rw [List.getElem?_set_ne z] at hj ⊢; exact S.dat j e hj
  · by_cases z : i = j
    · subst z; rw [hoc] at hj; cases hj
    · rw [oc_set_ne z] at hj; rw [List.getElem?_set_ne z]; exact S.oc j u hj
  · have hj' : i ≠ j := fun z => by subst z; rw [hoc] at hj; cases hj
    have hk' : i ≠ k := fun z => by subst z; rw [hoc] at hk; cases hk
    rw [oc_set_ne hj'] at hj
    rw [oc_set_ne hk'] at hk
    exact S.ne j k hjk hj hk
  · by_cases z : i = j
    · subst z; rw [hs] at hj; cases hj
    · rw [List.getElem?_set_ne z] at hj; exact S.par j u hj
  · by_cases z : i = j
    · subst z; rw [hs] at hj; cases hj
    · rw [List.getElem?_set_ne z] at hj
      obtain ⟨h1, h2⟩ := S.slf j c ns fs hj
      exact ⟨by rw [List.getElem?_set_ne z]; exact h1, h2⟩
/-- slot i is set to a new container -/
theorem RS.setOwn {i : Nat} {a : Addr} {o : OC} (S : RS K cl pa F R H σ ad env) (hi : i < env.length) (h1 : F a = none) (h2 : R a = none) (h3 : OwnAt K cl F H a o) (h4 : ∀ j, (ocOf env j).isSome = true → ad j ≠ a) :
    RS K cl pa F R H (σ.set i (some (.ref a))) (fun j => if j = i then a else ad j) (env.set i (some (.own o))) := by
  have hs : (env.set i (some (Sl.own o)))[i]? = some (some (.own o)) := by simp [hi]
  have hσ : (σ.set i (some (.ref a)))[i]? = some (some (V.ref a)) := by have := S.len ▸ hi; simp [this]
  refine ⟨S.fh, S.rh, by rw [List.length_set, List.length_set]; exact S.len, fun j e hj => ?_, fun j u hj => ?_, fun j k hjk hj hk => ?_, fun j u hj => ?_, S.dj, fun j c ns fs hj => ?_⟩
  · by_cases z : i = j
    · subst z; rw [hs] at hj; cases hj
    · rw [List.getElem?_set_ne z] at hj ⊢; exact S.dat j e hj
  · by_cases z : i = j
    · subst z; rw [oc_own hs] at hj; cases hj
      simp only [if_pos]
      exact ⟨hσ, h1, h2, h3⟩
    · rw [oc_set_ne z] at hj; rw [List.getElem?_set_ne z]
      simp only [if_neg (Ne.symm z)]
      exact S.oc j u hj
  · by_cases z : i = j
    · subst z
      simp only [if_pos, if_neg (Ne.symm hjk)]
      rw [oc_set_ne hjk] at hk
      exact Ne.symm (h4 k hk)
    · rw [oc_set_ne z] at hj
      simp only [if_neg (Ne.symm z)]
      by_cases y : i = k
      · subst y; simp only [if_pos]; exact h4 j hj
      · rw [oc_set_ne y] at hk
        simp only [if_neg (Ne.symm y)]
        exact S.ne j k hjk hj hk
  · by_cases z : i = j
    · subst z; rw [hs] at hj; cases hj
    · rw [List.getElem?_set_ne z] at hj
      simp only [if_neg (Ne.symm z)]
      exact S.par j u hj
  · by_cases z : i = j
    · subst z; rw [hs] at hj; cases hj
    · rw [List.getElem?_set_ne z] at hj
      obtain ⟨g1, g2⟩ := S.slf j c ns fs hj
      exact ⟨by rw [List.getElem?_set_ne z]; exact g1, g2⟩
def setOC (env : En) (i : Nat) (o : OC) : En := match env[i]? with
  | some (some (.par _)) => env.set i (some (.par o))
  | _ => env.set i (some (.own o))
/-- the container in slot i is changed -/
theorem RS.write {i : Nat} {o o' : OC} {ob : HO} (S : RS K cl pa F R H σ ad env) (h : ocOf env i = some o) (hn : OwnAt K cl F (upd H (ad i) ob) (ad i) o') : RS K cl pa F R (upd H (ad i) ob) σ ad (setOC env i o') := by
  obtain ⟨q1, q2, q3, q4⟩ := S.oc i o h
  have hi : i < env.length := by
    unfold ocOf at h
    cases e : env[i]? with
    | none => rw [e] at h; cases h
    | some _ => exact (List.getElem?_eq_some_iff.mp e).1
  have hs : (setOC env i o')[i]? = some (some (.own o')) ∨ (∃ u, env[i]? = some (some (.par u)) ∧ (setOC env i o')[i]? = some (some (.par o'))) := by
    unfold setOC
    split
    · rename_i u e; exact .inr ⟨u, e, by simp [hi]⟩
    · exact .inl (by simp [hi])
  have hoc : ocOf (setOC env i o') i = some o' := by
    rcases hs with e | ⟨u, _, e⟩
    · exact oc_own e
    · exact oc_par e
  have hne : ∀ j, i ≠ j → (setOC env i o')[j]? = env[j]? := fun j z => by unfold setOC; split <;> rw [List.getElem?_set_ne z]
  have hocne : ∀ j, i ≠ j → ocOf (setOC env i o') j = ocOf env j := fun j z => by unfold ocOf; rw [hne j z]
  refine ⟨fun b u e => ?_, fun b u e => ?_, by unfold setOC; split <;> rw [List.length_set] <;> exact S.len, fun j d e => ?_, fun j u e => ?_, fun j k hjk hj hk => ?_, fun j u e => ?_, S.dj, fun j c ns fs e => ?_⟩
  · rw [upd_ne (fun z => by subst z; rw [q2] at e; cases e)]; exact S.fh b u e
  · rw [upd_ne (fun z => by subst z; rw [q3] at e; cases e)]; exact S.rh b u e
  · by_cases z : i = j
    · subst z
      rcases hs with x | ⟨_, _, x⟩ <;> (rw [x] at e; cases e)
    · rw [hne j z] at e; exact S.dat j d e
  · by_cases z : i = j
    · subst z; rw [hoc] at e; cases e; exact ⟨q1, q2, q3, hn⟩
    · rw [hocne j z] at e
      obtain ⟨r1, r2, r3, r4⟩ := S.oc j u e
      refine ⟨r1, r2, r3, r4.mono (Le.refl _) ?_⟩
      rw [upd_ne (S.ne j i (Ne.symm z) (by rw [e]; rfl) (by rw [h]; rfl))]
  · have hj' : (ocOf env j).isSome = true := by
      by_cases z : i = j
      · subst z; rw [h]; rfl
      · rw [hocne j z] at hj; exact hj
    have hk' : (ocOf env k).isSome = true := by
      by_cases z : i = k
      · subst z; rw [h]; rfl
      · rw [hocne k z] at hk; exact hk
    exact S.ne j k hjk hj' hk'
  · by_cases z : i = j
    · subst z
      rcases hs with x | ⟨w, y, x⟩
      · rw [x] at e; cases e
      · exact S.par i w y
    · rw [hne j z] at e; exact S.par j u e
  · by_cases z : i = j
    · subst z
      rcases hs with x | ⟨_, _, x⟩ <;> (rw [x] at e; cases e)
    · rw [hne j z] at e; exact S.slf j c ns fs e
end
end Z

set_option Elab.async false
set_option linter.all false
set_option maxRecDepth 100000
set_option maxHeartbeats 1000000
namespace Z
open PySem PySem.Spec PyProof.Rows L2

/-! ### weaker readings -/
theorem PE_weak {X : Cx} {e : Expr} {t t' : TE} (h : PE X e t) (w : ∀ σ H Q, t' σ H Q → t σ H Q) : PE X e t' := ⟨fun pins s σ H Q I q => h.run pins s σ H Q I (w σ H Q q)⟩
theorem PE_or {X : Cx} {e : Expr} {t u : TE} (h : PE X e t) (h' : PE X e u) : PE X e (fun σ H Q => t σ H Q ∨ u σ H Q) := ⟨fun pins s σ H Q I q => q.elim (h.run pins s σ H Q I) (h'.run pins s σ H Q I)⟩
theorem PT_weak {X : Cx} {e : Expr} {t t' : TT} (h : PT X e t) (w : ∀ σ H Q, t' σ H Q → t σ H Q) : PT X e t' := ⟨fun pins s σ H Q I q => h.run pins s σ H Q I (w σ H Q q)⟩
theorem PW_weak {X : Cx} {e : Expr} {t t' : TT} (h : PW X e t) (w : ∀ σ H Q, t' σ H Q → t σ H Q) : PW X e t' := ⟨fun wh pins s σ H Q I q => h.run wh pins s σ H Q I (w σ H Q q)⟩
theorem PA_weak {X : Cx} {es : List Expr} {t t' : TA} (h : PA X es t) (w : ∀ σ H Q, t' σ H Q → t σ H Q) : PA X es t' := ⟨fun p pins s σ H Q I q => h.run p pins s σ H Q I (w σ H Q q)⟩
theorem PS_weak {X : Cx} {st : Stmt} {t t' : TS} (h : PS X st t) (w : ∀ D σ H, t' D σ H → t D σ H) : PS X st t' := ⟨fun pins s σ H D I q => h.run pins s σ H D I (w D σ H q)⟩
theorem PSs_weak {X : Cx} {st : List Stmt} {t t' : TS} (h : PSs X st t) (w : ∀ D σ H, t' D σ H → t D σ H) : PSs X st t' := ⟨fun pins s σ H D I q => h.run pins s σ H D I (w D σ H q)⟩
theorem OpR_or {X : Cx} {f : Value → Value → Sem Value} {r r' : R2} (h : OpR X f r) (h' : OpR X f r') : OpR X f (fun x y H Q => r x y H Q ∨ r' x y H Q) := fun pins s σ H x y v u Q I rx ry q => q.elim (h pins s σ H x y v u Q I rx ry) (h' pins s σ H x y v u Q I rx ry)

section
variable (K : PySem.W.Frag) (cl : Str → Addr)
abbrev Fe := En → Option (Rv × En)
abbrev Ft := En → Option (Bool × En)
abbrev Fa := En → Option (List Rv × En)
/-- an expression's meaning -/
def tR (f : Fe) : TE := fun σ H Q => ∃ pa F R ad env rv env', RS K cl pa F R H σ ad env ∧ f env = some (rv, env') ∧
  ∀ F' ad' H' v, Le F F' → RS K cl pa F' R H' σ ad' env' → RvAt K cl F' R H' σ ad' env' v rv → Q v H'
def tT (f : Ft) : TT := fun σ H Q => ∃ pa F R ad env b env', RS K cl pa F R H σ ad env ∧ f env = some (b, env') ∧
  ∀ F' ad' H', Le F F' → RS K cl pa F' R H' σ ad' env' → Q b H'
def tL (f : Fa) : TA := fun σ H Q => ∃ pa F R ad env rvs env', RS K cl pa F R H σ ad env ∧ f env = some (rvs, env') ∧
  ∀ F' ad' H' vs, Le F F' → RS K cl pa F' R H' σ ad' env' → Paired (fun v r => RvF K cl F' σ v r) vs rvs → Q vs H'
/-- what follows a value that an operation makes -/
def Res (F H : Hp) (r : Rv) (Q : VK) : Prop := match r with
  | .dat d => ∀ F' H' v, Grow F H F' H' → At K cl F' v d → Q v H'
  | .own o => ∀ p ob, H p = none → OwnAt K cl F (upd H p ob) p o → Q (.ref p) (upd H p ob)
  | .slot _ => True
def Op2 (g : D → D → Option Rv) (r : R2) : Prop := ∀ F H x y d e rv Q, Le F H → AtT K cl F H x d → AtT K cl F H y e → g d e = some rv → Res K cl F H rv Q → r x y H Q
def OpL (g : List D → Option Rv) (r : List V → Hp → VK → Prop) : Prop := ∀ F H xs ds rv Q, Le F H → Paired (fun v d => AtT K cl F H v d) xs ds → g ds = some rv → Res K cl F H rv Q → r xs H Q
end

section
variable {K : PySem.W.Frag} {cl : Str → Addr} {pa : Nat → Addr} {F F' R H H' : Hp} {σ : L2.St} {ad : Nat → Addr} {env env' : En}
def NoSlot : Rv → Prop
  | .slot _ => False
  | _ => True
/-- an operation's result in the environment -/
theorem RS.res {r : Rv} {Q : VK} (S : RS K cl pa F R H σ ad env) (k : ∀ F' ad' H' v, Le F F' → RS K cl pa F' R H' σ ad' env → RvAt K cl F' R H' σ ad' env v r → Q v H') : Res K cl F H r Q := by
  cases r with
  | dat d => exact fun F1 H1 v g a => k F1 ad H1 v (g.le S.fh) (S.grow g) a
  | slot i => trivial
  | own o =>
    intro p ob hp ow
    refine k F ad (upd H p ob) (.ref p) (Le.refl _) (S.newAt hp) ⟨p, rfl, S.fh.fresh hp, S.rh.fresh hp, ow, fun j hj z => ?_⟩
    cases e : ocOf env j with
    | none => rw [e] at hj; cases hj
    | some u =>
      obtain ⟨_, _, _, q4⟩ := S.oc j u e
      obtain ⟨b, hb⟩ := q4.has
      rw [z, hp] at hb; cases hb
theorem Res.dat0 {d : D} {Q : VK} (h : Res K cl F H (.dat d) Q) {v : V} (a : At K cl F v d) : Q v H := h F H v .no a
theorem Res.tup {ds : List D} {Q : VK} (h : Res K cl F H (.dat (.tup ds)) Q) (e : Le F H) {p : Addr} (hp : H p = none) {vs : List V} (a : AtAll K cl F vs ds) : Q (.ref p) (upd H p (.tup vs)) :=
  h (upd F p (.tup vs)) _ _ (.fr p _ hp) (.tup upd_same (a.mono (Le.put (e.fresh hp))))
theorem Res.lst {ds : List D} {Q : VK} (h : Res K cl F H (.own (.lst ds)) Q) {p : Addr} (hp : H p = none) {vs : List V} (a : AtAll K cl F vs ds) : Q (.ref p) (upd H p (.lst vs)) :=
  h p _ hp ⟨vs, upd_same, a⟩
theorem Res.dtN {Q : VK} (h : Res K cl F H (.own (.dct [] [])) Q) {p : Addr} (hp : H p = none) : Q (.ref p) (upd H p (.dT [])) :=
  h p _ hp ⟨[], upd_same, rfl, .nil⟩
end

/-! ### expressions -/
section
variable {X : Cx} {cl : Str → Addr} {a b c e : Expr} {pos : Pos} {fa fb fc : Fe}
def vS (i : Nat) : Fe := fun env => match env[i]? with
  | some (some _) => some (.slot i, env)
  | _ => none
theorem RS.slot {K : PySem.W.Frag} {pa : Nat → Addr} {F R H : Hp} {σ : L2.St} {ad : Nat → Addr} {env : En} {i : Nat} {s : Sl} (S : RS K cl pa F R H σ ad env) (h : env[i]? = some (some s)) : ∃ v, σ[i]? = some (some v) := by
  cases s with
  | dat d => obtain ⟨v, h1, _⟩ := S.dat i d h; exact ⟨v, h1⟩
  | own o => exact ⟨_, (S.oc i o (oc_own h)).1⟩
  | par o => exact ⟨_, (S.oc i o (oc_par h)).1⟩
  | slf c ns fs => exact ⟨_, (S.slf i c ns fs h).1⟩
theorem pr_var (i : Nat) {x : Str} {pos : Pos} (hN : X.N[i]? = some x := by rfl) (hv : Vis X.env.scope x := by first | exact Or.inl rfl | exact Or.inr (Or.inl rfl) | exact Or.inr (Or.inr rfl)) (hd : (x == ("__debug__" : Str)) = false := by decide)
    (hcd : (x == ("__classdict__" : Str)) = false := by decide) : PE X (.Name x pos) (tR X.K cl (vS i)) := by
  refine PE_weak (pe_var hN hv hd hcd) fun σ H Q q => ?_
  obtain ⟨pa, F, R, ad, env, rv, env', S, hf, k⟩ := q
  unfold vS at hf
  split at hf
  · rename_i s hs
    cases hf
    obtain ⟨v, hv⟩ := S.slot hs
    exact ⟨v, hv, k F ad H v (Le.refl _) S hv⟩
  · cases hf
/-- a constant -/
def cS (d : D) : Fe := fun env => some (.dat d, env)
theorem pr_c {v : V} {d : D} (h : PE X e (tC v)) (hd : ∀ F, At X.K cl F v d) : PE X e (tR X.K cl (cS d)) := by
  refine PE_weak h fun σ H Q q => ?_
  obtain ⟨pa, F, R, ad, env, rv, env', S, hf, k⟩ := q
  cases hf
  exact k F ad H v (Le.refl _) S (hd F)
theorem pr_int {i : Int} {j pos} : PE X (.Constant (.int i) j pos) (tR X.K cl (cS (.int i))) := pr_c pe_int fun _ => .int i
theorem pr_bl {b : Bool} {j pos} : PE X (.Constant (.bool b) j pos) (tR X.K cl (cS (.bl b))) := pr_c pe_bl fun _ => .bl b
theorem pr_non {j pos} : PE X (.Constant .none j pos) (tR X.K cl (cS .non)) := pr_c pe_non fun _ => .non
theorem pr_str {x : Str} {j pos} : PE X (.Constant (.str x) j pos) (tR X.K cl (cS (.str x))) := pr_c pe_str fun _ => .str x
theorem pr_glob {x : Str} {v : V} {d : D} {u : Value} {pos : Pos} (hm : X.mg x = some u) (r : RelV v u) (hd : ∀ F, At X.K cl F v d) (hg : Gl X x := by rfl) (hdb : (x == ("__debug__" : Str)) = false := by decide) : PE X (.Name x pos) (tR X.K cl (cS d)) :=
  pr_c (pe_glob hg hm r hdb) hd
theorem pr_gint {x : Str} {i : Int} {pos : Pos} (hm : ∃ t, X.mg x = some (.int i t)) (hg : Gl X x := by rfl) (hdb : (x == ("__debug__" : Str)) = false := by decide) : PE X (.Name x pos) (tR X.K cl (cS (.int i))) := by
  obtain ⟨t, h⟩ := hm
  exact pr_glob (v := V.int i) (d := D.int i) h ⟨t, rfl⟩ (fun _ => .int i) hg hdb
/-- a built-in class as a value -/
theorem pr_ty {x : Str} {n : String} {pos : Pos} (hm : X.mg x = none) (hv : bootBuiltins x = some (.type n)) (hg : Gl X x := by rfl) (hn : x ≠ "__name__" := by decide) (hdb : (x == ("__debug__" : Str)) = false := by decide) : PE X (.Name x pos) (tR X.K cl (cS (.ty n))) :=
  pr_c (pe_bltn (v := .ty n) hg hm hv rfl hn hdb) fun _ => .ty n

/-- two operands -/
def bin2 (g : D → D → Option Rv) (fa fb : Fe) : Fe := fun env =>
  (fa env).bind fun p => (fb p.2).bind fun q => (rd q.2 (fz p.1)).bind fun d => (rd q.2 (fz q.1)).bind fun e => (g d e).bind fun r => some (r, q.2)
theorem bin2_op {g : D → D → Option Rv} {r : R2} (hs : Op2 X.K cl g r) : ∀ σ H Q, tR X.K cl (bin2 g fa fb) σ H Q → tOp r (tR X.K cl fa) (tR X.K cl fb) σ H Q := by
  rintro σ H Q ⟨pa, F, R, ad, env, rv, env', S, hf, k⟩
  unfold bin2 at hf
  obtain ⟨⟨r1, e1⟩, h1, hf⟩ := Option.bind_eq_some_iff.mp hf
  obtain ⟨⟨r2, e2⟩, h2, hf⟩ := Option.bind_eq_some_iff.mp hf
  obtain ⟨d1, h3, hf⟩ := Option.bind_eq_some_iff.mp hf
  obtain ⟨d2, h4, hf⟩ := Option.bind_eq_some_iff.mp hf
  obtain ⟨rr, h5, hf⟩ := Option.bind_eq_some_iff.mp hf
  cases hf
  refine ⟨pa, F, R, ad, env, _, _, S, h1, fun F1 ad1 H1 x le1 S1 a1 => ?_⟩
  obtain ⟨G1, l1, T1, b1⟩ := S1.fzz a1
  refine ⟨pa, G1, R, ad1, _, _, _, T1, h2, fun F2 ad2 H2 y le2 S2 a2 => ?_⟩
  obtain ⟨G2, l2, T2, b2⟩ := S2.fzz a2
  refine hs G2 H2 x y d1 d2 _ Q T2.fh (T2.read (b1.mono (le2.trans l2)) h3) (T2.read b2 h4) h5 (T2.res fun F3 ad3 H3 v le3 S3 a3 => ?_)
  exact k F3 ad3 H3 v (((le1.trans l1).trans (le2.trans l2)).trans le3) S3 a3
theorem pr_op {op : Operator} {g : D → D → Option Rv} {r : R2} (ho : OpR X (binaryOp op) r) (hs : Op2 X.K cl g r) (ha : PE X a (tR X.K cl fa)) (hb : PE X b (tR X.K cl fb)) : PE X (.BinOp a op b pos) (tR X.K cl (bin2 g fa fb)) :=
  PE_weak (pe_op ho ha hb) (bin2_op hs)
def bRes (g : D → D → Option Bool) : D → D → Option Rv := fun d e => (g d e).bind fun b => some (.dat (.bl b))
theorem pr_cmp {op : CmpOp} {g : D → D → Option Bool} {r : R2} (ho : OpR X (compareOp op) r) (hs : Op2 X.K cl (bRes g) r) (ha : PE X a (tR X.K cl fa)) (hb : PE X b (tR X.K cl fb)) (hm : behindInMarks op b = false) : PE X (.Compare a [op] [b] pos) (tR X.K cl (bin2 (bRes g) fa fb)) :=
  PE_weak (pe_cmpR ho ha hb hm) (bin2_op hs)
def cmpT (g : D → D → Option Bool) (fa fb : Fe) : Ft := fun env =>
  (fa env).bind fun p => (fb p.2).bind fun q => (rd q.2 (fz p.1)).bind fun d => (rd q.2 (fz q.1)).bind fun e => (g d e).bind fun r => some (r, q.2)
theorem pq_cmp {op : CmpOp} {g : D → D → Option Bool} {r : R2} (ho : OpR X (compareOp op) r) (hs : Op2 X.K cl (bRes g) r) (ha : PE X a (tR X.K cl fa)) (hb : PE X b (tR X.K cl fb)) (hm : behindInMarks op b = false) : PT X (.Compare a [op] [b] pos) (tT X.K cl (cmpT g fa fb)) := by
  refine PT_weak (pt_cmpR ho ha hb hm) fun σ H Q q => ?_
  obtain ⟨pa, F, R, ad, env, rv, env', S, hf, k⟩ := q
  refine bin2_op (fa := fa) (fb := fb) hs σ H _ ⟨pa, F, R, ad, env, .dat (.bl rv), env', S, ?_, fun F' ad' H' v le S' a' => ?_⟩
  · unfold cmpT at hf
    obtain ⟨⟨r1, e1⟩, h1, hf⟩ := Option.bind_eq_some_iff.mp hf
    obtain ⟨⟨r2, e2⟩, h2, hf⟩ := Option.bind_eq_some_iff.mp hf
    obtain ⟨d1, h3, hf⟩ := Option.bind_eq_some_iff.mp hf
    obtain ⟨d2, h4, hf⟩ := Option.bind_eq_some_iff.mp hf
    obtain ⟨rr, h5, hf⟩ := Option.bind_eq_some_iff.mp hf
    cases hf
    unfold bin2
    simp only [h1, h2, h3, h4, Option.bind_some, bRes, h5]
  · cases a'
    exact ⟨rv, rfl, k F' ad' H' le S'⟩
/-- a op b op' c -/
def chn (g g' : D → D → Option Bool) (fa fb fc : Fe) : Ft := fun env =>
  (fa env).bind fun p => (fb p.2).bind fun q => (rd q.2 (fz p.1)).bind fun d => (rd q.2 (fz q.1)).bind fun e => (g d e).bind fun r =>
    if r = true then (fc q.2).bind fun s => (rd s.2 (fz q.1)).bind fun e' => (rd s.2 (fz s.1)).bind fun h => (g' e' h).bind fun r' => some (r', s.2) else some (false, q.2)
theorem chn_op {g g' : D → D → Option Bool} {r r' : R2} (hs : Op2 X.K cl (bRes g) r) (hs' : Op2 X.K cl (bRes g') r') {σ : L2.St} {H : Hp} {Q : VK}
    (h : ∃ pa F R ad env b env', RS X.K cl pa F R H σ ad env ∧ chn g g' fa fb fc env = some (b, env') ∧ ∀ F' ad' H', Le F F' → RS X.K cl pa F' R H' σ ad' env' → Q (.bl b) H') :
    tChain r r' (tR X.K cl fa) (tR X.K cl fb) (tR X.K cl fc) σ H Q := by
  obtain ⟨pa, F, R, ad, env, rv, env', S, hf, k⟩ := h
  unfold chn at hf
  obtain ⟨⟨r1, e1⟩, h1, hf⟩ := Option.bind_eq_some_iff.mp hf
  obtain ⟨⟨r2, e2⟩, h2, hf⟩ := Option.bind_eq_some_iff.mp hf
  obtain ⟨d1, h3, hf⟩ := Option.bind_eq_some_iff.mp hf
  obtain ⟨d2, h4, hf⟩ := Option.bind_eq_some_iff.mp hf
  obtain ⟨rr, h5, hf⟩ := Option.bind_eq_some_iff.mp hf
  refine ⟨pa, F, R, ad, env, _, _, S, h1, fun F1 ad1 H1 x le1 S1 a1 => ?_⟩
  obtain ⟨G1, l1, T1, b1⟩ := S1.fzz a1
  refine ⟨pa, G1, R, ad1, _, _, _, T1, h2, fun F2 ad2 H2 y le2 S2 a2 => ?_⟩
  obtain ⟨G2, l2, T2, b2⟩ := S2.fzz a2
  refine hs G2 H2 x y d1 d2 (.dat (.bl rr)) _ T2.fh (T2.read (b1.mono (le2.trans l2)) h3) (T2.read b2 h4) (by unfold bRes; rw [h5]; rfl) (T2.res fun F3 ad3 H3 v le3 S3 a3 => ?_)
  cases a3
  refine ⟨rr, rfl, ?_⟩
  cases rr with
  | false =>
    rw [if_neg Bool.false_ne_true] at hf ⊢
    cases hf
    exact k F3 ad3 H3 (((le1.trans l1).trans (le2.trans l2)).trans le3) S3
  | true =>
    rw [if_pos rfl] at hf ⊢
    obtain ⟨⟨r4, e4⟩, h6, hf⟩ := Option.bind_eq_some_iff.mp hf
    obtain ⟨d4, h7, hf⟩ := Option.bind_eq_some_iff.mp hf
    obtain ⟨d5, h8, hf⟩ := Option.bind_eq_some_iff.mp hf
    obtain ⟨r5, h9, hf⟩ := Option.bind_eq_some_iff.mp hf
    cases hf
    refine ⟨pa, F3, R, ad3, _, _, _, S3, h6, fun F4 ad4 H4 z le4 S4 a4 => ?_⟩
    obtain ⟨G4, l4, T4, b4⟩ := S4.fzz a4
    refine hs' G4 H4 y z d4 d5 (.dat (.bl rv)) _ T4.fh (T4.read (b2.mono ((le3.trans le4).trans l4)) h7) (T4.read b4 h8) (by unfold bRes; rw [h9]; rfl) (T4.res fun F5 ad5 H5 v le5 S5 a5 => ?_)
    cases a5
    exact k F5 ad5 H5 (((((le1.trans l1).trans (le2.trans l2)).trans le3).trans (le4.trans l4)).trans le5) S5
/-- a test as a value -/
def tV (f : Ft) : Fe := fun env => (f env).bind fun p => some (.dat (.bl p.1), p.2)
theorem pr_chain {op op' : CmpOp} {g g' : D → D → Option Bool} {r r' : R2} (ho : OpR X (compareOp op) r) (hs : Op2 X.K cl (bRes g) r) (ho' : OpR X (compareOp op') r') (hs' : Op2 X.K cl (bRes g') r') (ha : PE X a (tR X.K cl fa)) (hb : PE X b (tR X.K cl fb)) (hc : PE X c (tR X.K cl fc))
    (hm : lastMarks [op, op'] [b, c] = false := by with_unfolding_all rfl) : PE X (.Compare a [op, op'] [b, c] pos) (tR X.K cl (tV (chn g g' fa fb fc))) := by
  refine PE_weak (pe_chain ho ho' ha hb hc hm) fun σ H Q q => ?_
  obtain ⟨pa, F, R, ad, env, rv, env', S, hf, k⟩ := q
  unfold tV at hf
  obtain ⟨⟨b, e1⟩, h1, hf⟩ := Option.bind_eq_some_iff.mp hf
  cases hf
  exact chn_op hs hs' ⟨pa, F, R, ad, env, b, _, S, h1, fun F' ad' H' le S' => k F' ad' H' _ le S' (.bl b)⟩
theorem pq_chain {op op' : CmpOp} {g g' : D → D → Option Bool} {r r' : R2} (ho : OpR X (compareOp op) r) (hs : Op2 X.K cl (bRes g) r) (ho' : OpR X (compareOp op') r') (hs' : Op2 X.K cl (bRes g') r') (ha : PE X a (tR X.K cl fa)) (hb : PE X b (tR X.K cl fb)) (hc : PE X c (tR X.K cl fc))
    (hm : lastMarks [op, op'] [b, c] = false := by with_unfolding_all rfl) : PT X (.Compare a [op, op'] [b, c] pos) (tT X.K cl (chn g g' fa fb fc)) := by
  refine PT_weak (pt_chain ho ho' ha hb hc hm) fun σ H Q q => ?_
  obtain ⟨pa, F, R, ad, env, rv, env', S, hf, k⟩ := q
  exact chn_op hs hs' ⟨pa, F, R, ad, env, rv, _, S, hf, fun F' ad' H' le S' => ⟨rv, rfl, k F' ad' H' le S'⟩⟩

/-! ### truth -/
def truD : D → Option Bool
  | .non => some false
  | .bl b => some b
  | .int i => some (i != 0)
  | .lst ds => some (!ds.isEmpty)
  | .tup ds => some (!ds.isEmpty)
  | _ => none
theorem isEmpty_at {K : PySem.W.Frag} {F : Hp} {vs : List V} {ds : List D} (h : AtAll K cl F vs ds) : vs.isEmpty = ds.isEmpty := by cases h <;> rfl
theorem tru_of {K : PySem.W.Frag} {F H : Hp} {v : V} {d : D} {b : Bool} (le : Le F H) (h : AtT K cl F H v d) (e : truD d = some b) : TruV K v H b := by
  cases d with
  | non => cases e; cases h; exact rfl
  | bl b => cases e; cases h; exact rfl
  | int i => cases e; cases h; exact rfl
  | lst ds => cases e; obtain ⟨a, vs, rfl, h1, h2⟩ := h; exact Or.inl ⟨vs, SqL.of h1, by rw [isEmpty_at h2]⟩
  | tup ds =>
    cases e
    cases h with
    | tup h1 h2 => exact Or.inr (Or.inl ⟨_, SqT.of (le _ _ h1), by rw [isEmpty_at h2]⟩)
  | _ => cases e
def truS (f : Fe) : Ft := fun env => (f env).bind fun p => (rd p.2 (fz p.1)).bind fun d => (truD d).bind fun b => some (b, p.2)
theorem truS_op {f : Fe} {σ : L2.St} {H : Hp} {Q : Bool → Hp → Prop} (q : tT X.K cl (truS f) σ H Q) : tR X.K cl f σ H fun x H' => ∃ k, TruV X.K x H' k ∧ Q k H' := by
  obtain ⟨pa, F, R, ad, env, rv, env', S, hf, k⟩ := q
  unfold truS at hf
  obtain ⟨⟨r1, e1⟩, h1, hf⟩ := Option.bind_eq_some_iff.mp hf
  obtain ⟨d1, h3, hf⟩ := Option.bind_eq_some_iff.mp hf
  obtain ⟨b, h5, hf⟩ := Option.bind_eq_some_iff.mp hf
  cases hf
  refine ⟨pa, F, R, ad, env, _, _, S, h1, fun F1 ad1 H1 x le1 S1 a1 => ?_⟩
  obtain ⟨G1, l1, T1, b1⟩ := S1.fzz a1
  exact ⟨_, tru_of T1.fh (T1.read b1 h3) h5, k G1 ad1 H1 (le1.trans l1) T1⟩
theorem pq_val (ha : PE X a (tR X.K cl fa)) (he : ∀ whole, isTrue a X.env whole = (do let v ← whole; standAt a.pos; holding [v] (truthy v)) := by intro _; rfl) : PT X a (tT X.K cl (truS fa)) :=
  PT_weak (pt_truth ha he) fun σ H Q q => truS_op q
def notT (f : Ft) : Ft := fun env => (f env).bind fun p => some (!p.1, p.2)
theorem pq_not {f : Ft} (ha : PT X a (tT X.K cl f)) : PT X (.UnaryOp .Not a pos) (tT X.K cl (notT f)) := by
  refine PT_weak (pt_not ha) fun σ H Q q => ?_
  obtain ⟨pa, F, R, ad, env, rv, env', S, hf, k⟩ := q
  unfold notT at hf
  obtain ⟨⟨b, e1⟩, h1, hf⟩ := Option.bind_eq_some_iff.mp hf
  cases hf
  exact ⟨pa, F, R, ad, env, b, _, S, h1, k⟩
def andT (f g : Ft) : Ft := fun env => (f env).bind fun p => if p.1 = true then g p.2 else some (false, p.2)
def orT (f g : Ft) : Ft := fun env => (f env).bind fun p => if p.1 = true then some (true, p.2) else g p.2
variable {rest : List Expr} {f g : Ft}
theorem pq_and1 (ha : PT X a (tT X.K cl f)) : PW X (.BoolOp .And [a] pos) (tT X.K cl f) := pw_and1 ha
theorem pq_or1 (ha : PT X a (tT X.K cl f)) : PW X (.BoolOp .Or [a] pos) (tT X.K cl f) := pw_or1 ha
theorem pq_and (ha : PT X a (tT X.K cl f)) (hb : PW X (.BoolOp .And (b :: rest) pos) (tT X.K cl g)) : PW X (.BoolOp .And (a :: b :: rest) pos) (tT X.K cl (andT f g)) := by
  refine PW_weak (pw_and ha hb) fun σ H Q q => ?_
  obtain ⟨pa, F, R, ad, env, rv, env', S, hf, k⟩ := q
  unfold andT at hf
  obtain ⟨⟨b, e1⟩, h1, hf⟩ := Option.bind_eq_some_iff.mp hf
  refine ⟨pa, F, R, ad, env, b, _, S, h1, fun F1 ad1 H1 le1 S1 => ?_⟩
  cases b with
  | true => exact ⟨pa, F1, R, ad1, e1, rv, env', S1, hf, fun F2 ad2 H2 le2 S2 => k F2 ad2 H2 (le1.trans le2) S2⟩
  | false => cases hf; exact k F1 ad1 H1 le1 S1
theorem pq_or (ha : PT X a (tT X.K cl f)) (hb : PW X (.BoolOp .Or (b :: rest) pos) (tT X.K cl g)) : PW X (.BoolOp .Or (a :: b :: rest) pos) (tT X.K cl (orT f g)) := by
  refine PW_weak (pw_or ha hb) fun σ H Q q => ?_
  obtain ⟨pa, F, R, ad, env, rv, env', S, hf, k⟩ := q
  unfold orT at hf
  obtain ⟨⟨b, e1⟩, h1, hf⟩ := Option.bind_eq_some_iff.mp hf
  refine ⟨pa, F, R, ad, env, b, _, S, h1, fun F1 ad1 H1 le1 S1 => ?_⟩
  cases b with
  | false => exact ⟨pa, F1, R, ad1, e1, rv, env', S1, hf, fun F2 ad2 H2 le2 S2 => k F2 ad2 H2 (le1.trans le2) S2⟩
  | true => cases hf; exact k F1 ad1 H1 le1 S1
/-- and, or as values -/
def andS (f g : Fe) : Fe := fun env => (f env).bind fun p => (rd p.2 (fz p.1)).bind fun d => (truD d).bind fun b => if b = true then g p.2 else some (fz p.1, p.2)
def orS (f g : Fe) : Fe := fun env => (f env).bind fun p => (rd p.2 (fz p.1)).bind fun d => (truD d).bind fun b => if b = true then some (fz p.1, p.2) else g p.2
def notS (f : Fe) : Fe := tV (notT (truS f))
theorem rvAt_of {K : PySem.W.Frag} {F R H : Hp} {σ : L2.St} {ad : Nat → Addr} {env : En} {v : V} {r : Rv} (h : RvF K cl F σ v r) : RvAt K cl F R H σ ad env v r := by
  cases r with
  | dat d => exact h
  | slot i => exact h
  | own o => exact h.elim
theorem pr_and (ha : PE X a (tR X.K cl fa)) (hb : PE X (.BoolOp .And (b :: rest) pos) (tR X.K cl fb)) : PE X (.BoolOp .And (a :: b :: rest) pos) (tR X.K cl (andS fa fb)) := by
  refine PE_weak (pe_andT ha hb) fun σ H Q q => ?_
  obtain ⟨pa, F, R, ad, env, rv, env', S, hf, k⟩ := q
  unfold andS at hf
  obtain ⟨⟨r1, e1⟩, h1, hf⟩ := Option.bind_eq_some_iff.mp hf
  obtain ⟨d1, h3, hf⟩ := Option.bind_eq_some_iff.mp hf
  obtain ⟨b, h5, hf⟩ := Option.bind_eq_some_iff.mp hf
  refine ⟨pa, F, R, ad, env, _, _, S, h1, fun F1 ad1 H1 x le1 S1 a1 => ?_⟩
  obtain ⟨G1, l1, T1, b1⟩ := S1.fzz a1
  refine ⟨b, tru_of T1.fh (T1.read b1 h3) h5, ?_⟩
  cases b with
  | true => exact ⟨pa, G1, R, ad1, e1, rv, env', T1, hf, fun F2 ad2 H2 v le2 S2 a2 => k F2 ad2 H2 v ((le1.trans l1).trans le2) S2 a2⟩
  | false => cases hf; exact k G1 ad1 H1 x (le1.trans l1) T1 (rvAt_of b1)
theorem pr_or (ha : PE X a (tR X.K cl fa)) (hb : PE X (.BoolOp .Or (b :: rest) pos) (tR X.K cl fb)) : PE X (.BoolOp .Or (a :: b :: rest) pos) (tR X.K cl (orS fa fb)) := by
  refine PE_weak (pe_orT ha hb) fun σ H Q q => ?_
  obtain ⟨pa, F, R, ad, env, rv, env', S, hf, k⟩ := q
  unfold orS at hf
  obtain ⟨⟨r1, e1⟩, h1, hf⟩ := Option.bind_eq_some_iff.mp hf
  obtain ⟨d1, h3, hf⟩ := Option.bind_eq_some_iff.mp hf
  obtain ⟨b, h5, hf⟩ := Option.bind_eq_some_iff.mp hf
  refine ⟨pa, F, R, ad, env, _, _, S, h1, fun F1 ad1 H1 x le1 S1 a1 => ?_⟩
  obtain ⟨G1, l1, T1, b1⟩ := S1.fzz a1
  refine ⟨b, tru_of T1.fh (T1.read b1 h3) h5, ?_⟩
  cases b with
  | false => exact ⟨pa, G1, R, ad1, e1, rv, env', T1, hf, fun F2 ad2 H2 v le2 S2 a2 => k F2 ad2 H2 v ((le1.trans l1).trans le2) S2 a2⟩
  | true => cases hf; exact k G1 ad1 H1 x (le1.trans l1) T1 (rvAt_of b1)
theorem pr_one {op : BoolOp} (ha : PE X a (tR X.K cl fa)) : PE X (.BoolOp op [a] pos) (tR X.K cl fa) := pe_one ha
theorem pr_not (ha : PE X a (tR X.K cl fa)) : PE X (.UnaryOp .Not a pos) (tR X.K cl (notS fa)) := by
  refine PE_weak (pe_notT ha) fun σ H Q q => ?_
  obtain ⟨pa, F, R, ad, env, rv, env', S, hf, k⟩ := q
  unfold notS tV at hf
  obtain ⟨⟨b, e1⟩, h1, hf⟩ := Option.bind_eq_some_iff.mp hf
  cases hf
  unfold notT at h1
  obtain ⟨⟨b', e2⟩, h2, h1⟩ := Option.bind_eq_some_iff.mp h1
  cases h1
  exact truS_op ⟨pa, F, R, ad, env, b', _, S, h2, fun F' ad' H' le S' => k F' ad' H' _ le S' (.bl _)⟩
def ifS (c : Ft) (f g : Fe) : Fe := fun env => (c env).bind fun p => if p.1 = true then f p.2 else g p.2
theorem pr_if {f : Ft} (hc : PT X c (tT X.K cl f)) (ha : PE X a (tR X.K cl fa)) (hb : PE X b (tR X.K cl fb)) : PE X (.IfExp c a b pos) (tR X.K cl (ifS f fa fb)) := by
  refine PE_weak (pe_ifExp hc ha hb) fun σ H Q q => ?_
  obtain ⟨pa, F, R, ad, env, rv, env', S, hf, k⟩ := q
  unfold ifS at hf
  obtain ⟨⟨b, e1⟩, h1, hf⟩ := Option.bind_eq_some_iff.mp hf
  refine ⟨pa, F, R, ad, env, b, _, S, h1, fun F1 ad1 H1 le1 S1 => ?_⟩
  cases b with
  | true => exact ⟨pa, F1, R, ad1, e1, rv, env', S1, hf, fun F2 ad2 H2 v le2 S2 a2 => k F2 ad2 H2 v (le1.trans le2) S2 a2⟩
  | false => exact ⟨pa, F1, R, ad1, e1, rv, env', S1, hf, fun F2 ad2 H2 v le2 S2 a2 => k F2 ad2 H2 v (le1.trans le2) S2 a2⟩

/-! ### rows of expressions -/
def nilL : Fa := fun env => some ([], env)
def consL (f : Fe) (g : Fa) : Fa := fun env => (f env).bind fun p => (g p.2).bind fun q => some (fz p.1 :: q.1, q.2)
theorem pl_nil : PA X [] (tL X.K cl nilL) := by
  refine PA_weak pa_nil fun σ H Q q => ?_
  obtain ⟨pa, F, R, ad, env, rv, env', S, hf, k⟩ := q
  cases hf
  exact k F ad H [] (Le.refl _) S .nil
theorem pairF_mono {K : PySem.W.Frag} {F F' : Hp} {σ : L2.St} (le : Le F F') : ∀ {vs : List V} {rs : List Rv}, Paired (fun v r => RvF K cl F σ v r) vs rs → Paired (fun v r => RvF K cl F' σ v r) vs rs
  | _, _, .nil => .nil
  | _, _, .cons h t => .cons (h.mono le) (pairF_mono le t)
theorem pl_cons {es : List Expr} {f : Fe} {g : Fa} (ha : PE X e (tR X.K cl f)) (hr : PA X es (tL X.K cl g)) (hs : starEach (e :: es) X.env = (false, eval e X.env) :: starEach es X.env := by rfl) : PA X (e :: es) (tL X.K cl (consL f g)) := by
  refine PA_weak (pa_cons ha hr hs) fun σ H Q q => ?_
  obtain ⟨pa, F, R, ad, env, rv, env', S, hf, k⟩ := q
  unfold consL at hf
  obtain ⟨⟨r1, e1⟩, h1, hf⟩ := Option.bind_eq_some_iff.mp hf
  obtain ⟨⟨r2, e2⟩, h2, hf⟩ := Option.bind_eq_some_iff.mp hf
  cases hf
  refine ⟨pa, F, R, ad, env, _, _, S, h1, fun F1 ad1 H1 x le1 S1 a1 => ?_⟩
  obtain ⟨G1, l1, T1, b1⟩ := S1.fzz a1
  exact ⟨pa, G1, R, ad1, _, _, _, T1, h2, fun F2 ad2 H2 vs le2 S2 a2 => k F2 ad2 H2 (x :: vs) ((le1.trans l1).trans le2) S2 (.cons (b1.mono le2) a2)⟩
/-- to keep them all -/
def kpL (env : En) : List Rv → Option (List D × En)
  | [] => some ([], env)
  | r :: rs => (kp env r).bind fun p => (kpL p.2 rs).bind fun q => some (p.1 :: q.1, q.2)
theorem RS.keepL {K : PySem.W.Frag} {pa : Nat → Addr} {R H : Hp} {σ : L2.St} {ad : Nat → Addr} : ∀ {rs : List Rv} {vs : List V} {F : Hp} {env env' : En} {ds : List D}, RS K cl pa F R H σ ad env → Paired (fun v r => RvF K cl F σ v r) vs rs → kpL env rs = some (ds, env') →
    ∃ F', Le F F' ∧ RS K cl pa F' R H σ ad env' ∧ AtAll K cl F' vs ds
  | [], _, F, env, env', ds, S, .nil, e => by cases e; exact ⟨F, Le.refl _, S, .nil⟩
  | r :: rs, _, F, env, env', ds, S, .cons h t, e => by
    unfold kpL at e
    obtain ⟨⟨d, e1⟩, h1, e⟩ := Option.bind_eq_some_iff.mp e
    obtain ⟨⟨ds', e2⟩, h2, e⟩ := Option.bind_eq_some_iff.mp e
    cases e
    obtain ⟨F1, l1, S1, a1⟩ := S.keep h h1
    obtain ⟨F2, l2, S2, a2⟩ := RS.keepL S1 (pairF_mono l1 t) h2
    exact ⟨F2, l1.trans l2, S2, .cons (a1.mono l2) a2⟩
def rdL (env : En) : List Rv → Option (List D)
  | [] => some []
  | r :: rs => (rd env r).bind fun d => (rdL env rs).bind fun ds => some (d :: ds)
theorem RS.readL {K : PySem.W.Frag} {pa : Nat → Addr} {F R H : Hp} {σ : L2.St} {ad : Nat → Addr} {env : En} (S : RS K cl pa F R H σ ad env) : ∀ {rs : List Rv} {vs : List V} {ds : List D}, Paired (fun v r => RvF K cl F σ v r) vs rs → rdL env rs = some ds → Paired (fun v d => AtT K cl F H v d) vs ds
  | [], _, ds, .nil, e => by cases e; exact .nil
  | r :: rs, _, ds, .cons h t, e => by
    unfold rdL at e
    obtain ⟨d, h1, e⟩ := Option.bind_eq_some_iff.mp e
    obtain ⟨ds', h2, e⟩ := Option.bind_eq_some_iff.mp e
    cases e
    exact .cons (S.read h h1) (RS.readL S t h2)
def tupS (g : Fa) : Fe := fun env => (g env).bind fun p => (kpL p.2 p.1).bind fun q => some (.dat (.tup q.1), q.2)
def lstS (g : Fa) : Fe := fun env => (g env).bind fun p => (kpL p.2 p.1).bind fun q => some (.own (.lst q.1), q.2)
theorem pr_tup {es : List Expr} {x1} {g : Fa} (h : PA X es (tL X.K cl g)) (hlen : ∀ (env : En) (rvs : List Rv) (env' : En), g env = some (rvs, env') → rvs.length = es.length) (hl : es.length ≤ sizeLine := by decide) : PE X (.Tuple es x1 pos) (tR X.K cl (tupS g)) := by
  refine PE_weak (pe_tup h) fun σ H Q q => ?_
  obtain ⟨pa, F, R, ad, env, rv, env', S, hf, k⟩ := q
  unfold tupS at hf
  obtain ⟨⟨r1, e1⟩, h1, hf⟩ := Option.bind_eq_some_iff.mp hf
  obtain ⟨⟨ds, e2⟩, h2, hf⟩ := Option.bind_eq_some_iff.mp hf
  cases hf
  refine ⟨pa, F, R, ad, env, _, _, S, h1, fun F1 ad1 H1 vs le1 S1 a1 => ?_⟩
  obtain ⟨F2, l2, S2, a2⟩ := S1.keepL a1 h2
  refine ⟨by rw [Paired.length a1, hlen _ _ _ h1]; exact hl, fun p hp => ?_⟩
  have g := Grow.fr (F := F2) p (.tup vs) hp
  exact k _ ad1 _ (.ref p) ((le1.trans l2).trans (g.le S2.fh)) (S2.grow g) (At.tup upd_same (a2.mono (g.le S2.fh)))
theorem pr_lst {es : List Expr} {g : Fa} (h : PA X es (tL X.K cl g)) (hlen : ∀ (env : En) (rvs : List Rv) (env' : En), g env = some (rvs, env') → rvs.length = es.length) (hl : es.length ≤ sizeLine := by decide) : PE X (.List es pos) (tR X.K cl (lstS g)) := by
  refine PE_weak (pe_lst h) fun σ H Q q => ?_
  obtain ⟨pa, F, R, ad, env, rv, env', S, hf, k⟩ := q
  unfold lstS at hf
  obtain ⟨⟨r1, e1⟩, h1, hf⟩ := Option.bind_eq_some_iff.mp hf
  obtain ⟨⟨ds, e2⟩, h2, hf⟩ := Option.bind_eq_some_iff.mp hf
  cases hf
  refine ⟨pa, F, R, ad, env, _, _, S, h1, fun F1 ad1 H1 vs le1 S1 a1 => ?_⟩
  obtain ⟨F2, l2, S2, a2⟩ := S1.keepL a1 h2
  refine ⟨by rw [Paired.length a1, hlen _ _ _ h1]; exact hl, fun p hp => ?_⟩
  have rr : Res X.K cl F2 H1 (.own (.lst ds)) Q := S2.res fun F3 ad3 H3 v le3 S3 a3 => k F3 ad3 H3 v ((le1.trans l2).trans le3) S3 a3
  exact rr.lst hp a2
theorem nilL_len : ∀ (env : En) (rvs : List Rv) (env' : En), nilL env = some (rvs, env') → rvs.length = 0 := by
  intro env rvs env' h; cases h; rfl
theorem consL_len {f : Fe} {g : Fa} {n : Nat} (h : ∀ (env : En) (rvs : List Rv) (env' : En), g env = some (rvs, env') → rvs.length = n) : ∀ (env : En) (rvs : List Rv) (env' : En), consL f g env = some (rvs, env') → rvs.length = n + 1 := by
  intro env rvs env' e
  unfold consL at e
  obtain ⟨⟨r1, e1⟩, h1, e⟩ := Option.bind_eq_some_iff.mp e
  obtain ⟨⟨r2, e2⟩, h2, e⟩ := Option.bind_eq_some_iff.mp e
  cases e
  simp [h _ _ _ h2]

/-! ### calls of built-ins, by values -/
def cbS (g : List D → Option Rv) (fs : Fa) : Fe := fun env => (fs env).bind fun p => (rdL p.2 p.1).bind fun ds => (g ds).bind fun r => some (r, p.2)
theorem cb_op {g : List D → Option Rv} {fs : Fa} {r : List V → Hp → VK → Prop} (hs : OpL X.K cl g r) : ∀ σ H Q, tR X.K cl (cbS g fs) σ H Q → tCB r (tL X.K cl fs) σ H Q := by
  rintro σ H Q ⟨pa, F, R, ad, env, rv, env', S, hf, k⟩
  unfold cbS at hf
  obtain ⟨⟨r1, e1⟩, h1, hf⟩ := Option.bind_eq_some_iff.mp hf
  obtain ⟨ds, h2, hf⟩ := Option.bind_eq_some_iff.mp hf
  obtain ⟨rr, h3, hf⟩ := Option.bind_eq_some_iff.mp hf
  cases hf
  refine ⟨pa, F, R, ad, env, _, _, S, h1, fun F1 ad1 H1 vs le1 S1 a1 => ?_⟩
  exact hs F1 H1 vs ds _ Q S1.fh (S1.readL a1 h2) h3 (S1.res fun F3 ad3 H3 v le3 S3 a3 => k F3 ad3 H3 v (le1.trans le3) S3 a3)
theorem pr_blt {x : Str} {p : Pos} {es : List Expr} {id : String} {g : List D → Option Rv} {fs : Fa} {r : List V → Hp → VK → Prop} (hc : CallR X (.builtin id) r) (hs : OpL X.K cl g r) (hm : X.mg x = none) (hv : bootBuiltins x = some (.builtin id)) (ha : PA X (e :: es) (tL X.K cl fs)) (hg : Gl X x := by rfl)
    (hn : x ≠ "__name__" := by decide) (hdb : (x == ("__debug__" : Str)) = false := by decide) (he : starEach (e :: es) X.env = (false, eval e X.env) :: starEach es X.env := by rfl) (hpl : (backTo pos (starEach es X.env)).any (·.1) = false := by rfl) :
    PE X (.Call (.Name x p) (e :: es) [] pos) (tR X.K cl (cbS g fs)) := PE_weak (pe_callB hc hg hm hv ha hn hdb he hpl) (cb_op hs)
theorem pr_tyc {x : Str} {p : Pos} {es : List Expr} {T : String} {g : List D → Option Rv} {fs : Fa} {r : List V → Hp → VK → Prop} (hc : CallR X (.type T) r) (hs : OpL X.K cl g r) (hm : X.mg x = none) (hv : bootBuiltins x = some (.type T)) (ha : PA X (e :: es) (tL X.K cl fs)) (hg : Gl X x := by rfl)
    (hn : x ≠ "__name__" := by decide) (hdb : (x == ("__debug__" : Str)) = false := by decide) (he : starEach (e :: es) X.env = (false, eval e X.env) :: starEach es X.env := by rfl) (hpl : (backTo pos (starEach es X.env)).any (·.1) = false := by rfl) :
    PE X (.Call (.Name x p) (e :: es) [] pos) (tR X.K cl (cbS g fs)) := PE_weak (pe_callTy hc hg hm hv ha hn hdb he hpl) (cb_op hs)
theorem pr_bfun {x : Str} {p : Pos} {es : List Expr} {id : String} {g : List D → Option Rv} {fs : Fa} {r : List V → Hp → VK → Prop} (hc : CallR X (.builtin id) r) (hs : OpL X.K cl g r) (hm : X.mg x = some (.builtin id)) (ha : PA X (e :: es) (tL X.K cl fs)) (hg : Gl X x := by rfl)
    (hdb : (x == ("__debug__" : Str)) = false := by decide) (he : starEach (e :: es) X.env = (false, eval e X.env) :: starEach es X.env := by rfl) (hpl : (backTo pos (starEach es X.env)).any (·.1) = false := by rfl) :
    PE X (.Call (.Name x p) (e :: es) [] pos) (tR X.K cl (cbS g fs)) := PE_weak (pe_callBfun hc hg hm ha hdb he hpl) (cb_op hs)

/-! ### subscripts -/
theorem pr_ix {g : D → D → Option Rv} {r : R2} (hr : IxR X r) (hs : Op2 X.K cl g r) (ha : PE X a (tR X.K cl fa)) (hb : PE X b (tR X.K cl fb)) (hp : PlainIx b) : PE X (.Subscript a b pos) (tR X.K cl (bin2 g fa fb)) :=
  PE_weak (pe_ix hr ha hb hp) (bin2_op hs)
end
end Z

set_option Elab.async false
set_option linter.all false
set_option maxRecDepth 100000
set_option maxHeartbeats 1000000
/-! Operators and built-ins on data. -/
namespace Z
open PySem PySem.Spec PyProof.Rows L2

@[irreducible] def Big : Nat := 2 ^ 4096
theorem Big_eq : Big = 2 ^ 4096 := by unfold Big; rfl
theorem log2_Big {n : Nat} (h : n < Big) : n.log2 < 4096 := by rw [Big_eq] at h; exact PySem.Flt.log2_lt_of (by decide) h
def okMul (i j : Int) : Bool := decide (i.natAbs < 2 ^ 63) || decide (j.natAbs < 2 ^ 63) || (decide (i.natAbs < Big) && decide (j.natAbs < Big))
def okDiv (j : Int) : Bool := decide (0 < j) && decide (j.natAbs < Big)
theorem okMul_ok {i j : Int} (h : okMul i j = true) : IntMulOk i j := by
  unfold okMul at h
  rcases Bool.or_eq_true_iff.mp h with h | h
  · rcases Bool.or_eq_true_iff.mp h with h | h
    · have := of_decide_eq_true h; exact CMul.ok (.inl ⟨by omega, by omega⟩)
    · have := of_decide_eq_true h; exact CMul.ok (.inr ⟨by omega, by omega⟩)
  · obtain ⟨h1, h2⟩ := Bool.and_eq_true_iff.mp h
    have a := log2_Big (of_decide_eq_true h1)
    have b := log2_Big (of_decide_eq_true h2)
    exact CMulW.ok (show _ < _ by omega)

section
variable {X : Cx}
theorem op_mulB : OpR X (binaryOp .Mult) (rI (fun i j => okMul i j = true) fun i j => .int (i * j)) := opI fun _ _ _ _ _ _ _ hc q => mul_int q (okMul_ok hc)
theorem op_divB : OpR X (binaryOp .FloorDiv) (rI (fun _ j => okDiv j = true) fun i j => .int (i / j)) := opI fun i j _ _ _ _ _ hc q => by
  obtain ⟨h1, h2⟩ := Bool.and_eq_true_iff.mp hc
  have h3 := of_decide_eq_true h1
  exact floordiv_int (by omega) (by rw [Int.fdiv_eq_ediv_of_nonneg i (by omega)]; exact q) (.inl (PyProof.noPylong_of_log2 (by have := log2_Big (of_decide_eq_true h2); omega)))
end

def intsOf : List D → Option (List Int)
  | [] => some []
  | .int i :: r => (intsOf r).bind fun ns => some (i :: ns)
  | _ => none
theorem intsOf_eq : ∀ {ds : List D} {ns : List Int}, intsOf ds = some ns → ds = ns.map D.int
  | [], ns, h => by cases h; rfl
  | .int i :: r, ns, h => by
    unfold intsOf at h
    obtain ⟨ms, h1, h⟩ := Option.bind_eq_some_iff.mp h
    cases h
    rw [intsOf_eq h1]; rfl
  | .non :: r, ns, h => by simp [intsOf] at h
  | .bl _ :: r, ns, h => by simp [intsOf] at h
  | .str _ :: r, ns, h => by simp [intsOf] at h
  | .ty _ :: r, ns, h => by simp [intsOf] at h
  | .tup _ :: r, ns, h => by simp [intsOf] at h
  | .lst _ :: r, ns, h => by simp [intsOf] at h
  | .scr _ :: r, ns, h => by simp [intsOf] at h
  | .itup _ :: r, ns, h => by simp [intsOf] at h
  | .dk _ _ :: r, ns, h => by simp [intsOf] at h
  | .dt _ _ :: r, ns, h => by simp [intsOf] at h
  | .obj _ _ _ :: r, ns, h => by simp [intsOf] at h
theorem intsOf_map : ∀ (ns : List Int), intsOf (ns.map D.int) = some ns
  | [] => rfl
  | n :: r => by show (intsOf (r.map D.int)).bind _ = _; rw [intsOf_map r]; rfl

section
variable {K : PySem.W.Frag} {cl : Str → Addr} {F H : Hp} {v : V} {d : D} {X : Cx}
theorem AtAll.intsV : ∀ {F : Hp} {vs : List V} {ns : List Int}, AtAll K cl F vs (ns.map D.int) → vs = ns.map V.int
  | _, _, [], .nil => rfl
  | _, _, n :: r, .cons h t => by cases h; rw [AtAll.intsV t]; rfl
theorem at_int {i : Int} (h : AtT K cl F H v (.int i)) : v = .int i := by cases h; rfl
theorem at_bl {b : Bool} (h : AtT K cl F H v (.bl b)) : v = .bl b := by cases h; rfl
theorem at_str {x : Str} (h : AtT K cl F H v (.str x)) : v = .str x := by cases h; rfl
theorem at_non (h : AtT K cl F H v .non) : v = .non := by cases h; rfl
theorem at_ty {n : String} (h : AtT K cl F H v (.ty n)) : v = .ty n := by cases h; rfl
theorem at_tup {ds : List D} (h : AtT K cl F H v (.tup ds)) : ∃ a vs, v = .ref a ∧ F a = some (.tup vs) ∧ AtAll K cl F vs ds := by cases h with | tup h1 h2 => exact ⟨_, _, rfl, h1, h2⟩

/-! ### + -/
def addG : D → D → Option Rv
  | .int i, .int j => some (.dat (.int (i + j)))
  | .tup a, .tup b => if a.length + b.length ≤ 16777216 then some (.dat (.tup (a ++ b))) else none
  | .lst a, .lst b => if a.length + b.length ≤ 16777216 then some (.own (.lst (a ++ b))) else none
  | .itup ns, .tup b => if ns.length + b.length ≤ 16777216 ∧ ns ≠ [] ∧ b ≠ [] then some (.dat (.tup (ns.map D.int ++ b))) else none
  | _, _ => none
theorem at_itup {ns : List Int} (h : AtT K cl F H v (.itup ns)) : ∃ a o, v = .ref a ∧ F a = some (.frz o (.tup (ns.map V.int))) ∧ o.dict = none := by
  cases h with
  | itup h1 h2 => exact ⟨_, _, rfl, h1, h2⟩
theorem sq_frz {a : Addr} {o : PySem.Obj} {vs : List V} (h : H a = some (.frz o (.tup vs))) : SqT K H a vs := .inl (.inr ⟨o, h⟩)
def rAddZ (K : PySem.W.Frag) : R2 := fun x y H Q => rI0 (fun i j => .int (i + j)) x y H Q ∨ rCatA K x y H Q ∨ rCat x y H Q
theorem op_addZ : OpR X (binaryOp .Add) (rAddZ X.K) := OpR_or op_add (OpR_or op_catA op_cat)
theorem add_ok : Op2 K cl addG (rAddZ K) := by
  intro F H x y d e rv Q le hx hy hg res
  unfold addG at hg
  split at hg
  · cases hg
    rw [at_int hx, at_int hy]
    exact .inl ⟨_, _, rfl, rfl, res.dat0 (.int _)⟩
  · split at hg
    · rename_i a b hz
      cases hg
      obtain ⟨p, vs, rfl, h1, h2⟩ := at_tup hx
      obtain ⟨q, ws, rfl, h3, h4⟩ := at_tup hy
      have l1 := h2.length
      have l2 := h4.length
      refine .inr (.inl ⟨p, q, vs, ws, rfl, rfl, SqT.of (le _ _ h1), SqT.of (le _ _ h3), by rw [sizeLine_eq]; omega, fun e => ?_, fun e1 e2 => ?_, fun e1 e2 r hr => res.tup le hr (h2.append h4)⟩)
      · subst e; cases h2; exact res.dat0 (.tup h3 h4)
      · subst e2; cases h4; rw [List.append_nil] at res; exact res.dat0 (.tup h1 h2)
    · cases hg
  · split at hg
    · rename_i a b hz
      cases hg
      obtain ⟨p, vs, rfl, h1, h2⟩ := hx
      obtain ⟨q, ws, rfl, h3, h4⟩ := hy
      have l1 := h2.length
      have l2 := h4.length
      exact .inr (.inr ⟨p, q, vs, ws, rfl, rfl, h1, h3, by rw [sizeLine_eq]; omega, fun r hr => res.lst hr (h2.append h4)⟩)
    · cases hg
  · split at hg
    · rename_i ns b hz
      cases hg
      obtain ⟨p, o, rfl, h1, h2⟩ := at_itup hx
      obtain ⟨q, ws, rfl, h3, h4⟩ := at_tup hy
      have l2 := h4.length
      refine .inr (.inl ⟨p, q, _, ws, rfl, rfl, sq_frz (le _ _ h1), SqT.of (le _ _ h3), by rw [sizeLine_eq, List.length_map]; omega, fun e => ?_, fun e1 e2 => ?_, fun e1 e2 r hr => res.tup le hr ((AtAll.ints ns).append h4)⟩)
      · exact absurd (List.map_eq_nil_iff.mp e) hz.2.1
      · subst e2; cases h4; exact absurd rfl hz.2.2
    · cases hg
  · cases hg
/-! ### -, *, //, %, ** -/
def subG : D → D → Option Rv
  | .int i, .int j => some (.dat (.int (i - j)))
  | _, _ => none
theorem sub_ok : Op2 K cl subG (rI0 fun i j => .int (i - j)) := by
  intro F H x y d e rv Q le hx hy hg res
  unfold subG at hg
  split at hg
  · cases hg; rw [at_int hx, at_int hy]; exact ⟨_, _, rfl, rfl, res.dat0 (.int _)⟩
  · cases hg
def divG : D → D → Option Rv
  | .int i, .int j => if okDiv j = true then some (.dat (.int (i / j))) else none
  | _, _ => none
theorem div_ok : Op2 K cl divG (rI (fun _ j => okDiv j = true) fun i j => .int (i / j)) := by
  intro F H x y d e rv Q le hx hy hg res
  unfold divG at hg
  split at hg
  · split at hg
    · rename_i h; cases hg; rw [at_int hx, at_int hy]; exact ⟨_, _, rfl, rfl, h, res.dat0 (.int _)⟩
    · cases hg
  · cases hg
def modG : D → D → Option Rv
  | .int i, .int j => if 0 < j then some (.dat (.int (i % j))) else none
  | _, _ => none
theorem mod_ok : Op2 K cl modG (rI (fun _ j => 0 < j) fun i j => .int (i % j)) := by
  intro F H x y d e rv Q le hx hy hg res
  unfold modG at hg
  split at hg
  · split at hg
    · rename_i h; cases hg; rw [at_int hx, at_int hy]; exact ⟨_, _, rfl, rfl, h, res.dat0 (.int _)⟩
    · cases hg
  · cases hg
def powG : D → D → Option Rv
  | .int i, .int j => if 0 ≤ j ∧ j ≤ 1000 ∧ i.natAbs < 2 ^ 63 then some (.dat (.int (i ^ j.toNat))) else none
  | _, _ => none
theorem pow_ok : Op2 K cl powG (rI CPow fun i j => .int (i ^ j.toNat)) := by
  intro F H x y d e rv Q le hx hy hg res
  unfold powG at hg
  split at hg
  · split at hg
    · rename_i h; cases hg; rw [at_int hx, at_int hy]; exact ⟨_, _, rfl, rfl, ⟨h.1, by omega, by omega⟩, res.dat0 (.int _)⟩
    · cases hg
  · cases hg
def mulG : D → D → Option Rv
  | .int i, .int j => if okMul i j = true then some (.dat (.int (i * j))) else none
  | .lst a, .int k => if k.natAbs < 2 ^ 62 ∧ a.length * k.toNat ≤ 16777216 then some (.own (.lst (List.replicate k.toNat a).flatten)) else none
  | .tup a, .int k => if a ≠ [] ∧ 1 ≤ k ∧ k ≤ 1000 ∧ a.length ≤ 1000 then some (.dat (.tup (List.replicate k.toNat a).flatten)) else none
  | _, _ => none
end
/-- t * 1 is t itself -/
theorem tuple_mul1 (l : Addr) (items : Array Value) (n : Nat) (dd : Option Addr) (sl : Array (Option Value)) (u : Tok) :
    Meets (Builtin.«tuple.__mul__» ⟨[.ref l, .int 1 u], []⟩) (fun _ R s => s.heap.get? l = some { cls := .type "tuple", dict := dd, data := .seq items n, slots := sl } ∧ R (.ok (.ret (Value.ref l))) s) :=
  .of_wp fun prog w A R s h => by
    obtain ⟨hp, g, d, tk, os⟩ := s
    obtain ⟨hl, h⟩ := h
    have f1 := AutoSeq1.idx_int
    have c0 : (decide ((1 : Int) < -(2 ^ 63)) || decide ((1 : Int) ≥ 2 ^ 63)) = false := by decide
    have c1 : (items.isEmpty || (1 : Int) == 1) = true := by simp
    wp_walk using wpAny_loadPart' hl
    repeat (first
      | (refine wpAny_ite_false (decide_eq_false (by rw [c0]; exact Bool.false_ne_true)) ?_; wp_walk using wpAny_loadPart' hl)
      | (refine wpAny_ite_true (decide_eq_true c1) ?_; wp_walk using wpAny_loadPart' hl))
    exact ⟨_, rfl, h⟩
end Z

set_option Elab.async false
set_option linter.all false
set_option maxRecDepth 100000
set_option maxHeartbeats 1000000
namespace Z
open PySem PySem.Spec PyProof.Rows L2
section
variable {X : Cx}
def rRep1 (K : PySem.W.Frag) : R2 := fun x y H Q => ∃ l xs, x = .ref l ∧ y = .int 1 ∧ SqT K H l xs ∧ Q (.ref l) H
theorem op_rep1 : OpR X (binaryOp .Mult) (rRep1 X.K) := by
  intro pins s σ H x y v u Q I rx ry h
  obtain ⟨l, xs, rfl, rfl, hT, q⟩ := h
  cases rx
  obtain ⟨t, rfl⟩ := ry
  obtain ⟨its, r, ⟨⟨cls, dd, data, sl⟩, ho, hc, n, hd⟩, hs⟩ := I.tuple hT
  simp only at hc hd
  subst hc hd
  exact wpAny_binaryOp_repeat_ref (T := "tuple") (U := "int") (by decide) ⟨_, ho, rfl⟩ (fun s' => typeIs_int s' 1 t) noFill_tuple_mul F.fills_int_mul F.slot_int_rmul repeat_tuple F.slot_int_index.lookup
    (call_meets F.slot_int_rmul (typeIs_int s 1 t) F.entry_int_rmul (F.args_int_rmul_2 _ _) (int_rmul_tuple 1 t l its.toArray n dd sl)
      ⟨ho, rfl, ⟨_, ho, rfl⟩, call_meets F.slot_tuple_mul ⟨_, ho, rfl⟩ F.entry_tuple_mul (F.args_tuple_mul_2 _ _) (tuple_mul1 l its.toArray n dd sl t) ⟨ho, ⟨.ref l, H, I, rfl, q⟩⟩⟩)
end
section
variable {K : PySem.W.Frag} {cl : Str → Addr} {F H : Hp} {v : V} {d : D} {X : Cx}
def rMulZ (K : PySem.W.Frag) : R2 := fun x y H Q => rI (fun i j => okMul i j = true) (fun i j => .int (i * j)) x y H Q ∨ rRep x y H Q ∨ rRep1 K x y H Q ∨ rRepT K x y H Q
theorem op_mulZ : OpR X (binaryOp .Mult) (rMulZ X.K) := OpR_or op_mulB (OpR_or op_rep (OpR_or op_rep1 op_repT))
theorem mul_ok : Op2 K cl mulG (rMulZ K) := by
  intro F H x y d e rv Q le hx hy hg res
  unfold mulG at hg
  split at hg
  · split at hg
    · rename_i h; cases hg; rw [at_int hx, at_int hy]; exact .inl ⟨_, _, rfl, rfl, h, res.dat0 (.int _)⟩
    · cases hg
  · split at hg
    · rename_i a k h
      cases hg
      obtain ⟨p, vs, rfl, h1, h2⟩ := hx
      rw [at_int hy]
      have l1 := h2.length
      exact .inr (.inl ⟨p, k, vs, rfl, rfl, h1, by omega, by omega, by rw [sizeLine_eq, l1]; exact h.2, fun r hr => res.lst hr (h2.rep _)⟩)
    · cases hg
  · split at hg
    · rename_i a k h
      cases hg
      obtain ⟨p, vs, rfl, h1, h2⟩ := at_tup hx
      rw [at_int hy]
      have l1 := h2.length
      obtain ⟨n1, n2, n3, n4⟩ := h
      by_cases hk : k = 1
      · subst hk
        refine .inr (.inr (.inl ⟨p, vs, rfl, rfl, SqT.of (le _ _ h1), res.dat0 (.tup h1 ?_)⟩))
        show AtAll K cl F vs (List.replicate 1 a).flatten
        simpa using h2
      · refine .inr (.inr (.inr ⟨p, k, vs, rfl, rfl, SqT.of (le _ _ h1), fun e => ?_, by omega, n3, by omega, fun r hr => res.tup le hr (h2.rep _)⟩))
        subst e; cases h2; exact n1 rfl
    · cases hg
  · cases hg
/-! ### unary minus -/
def un1 (g : D → Option Rv) (fa : Fe) : Fe := fun env => (fa env).bind fun p => (rd p.2 (fz p.1)).bind fun d => (g d).bind fun r => some (r, p.2)
def negG : D → Option Rv
  | .int i => some (.dat (.int (-i)))
  | _ => none
theorem pr_neg {a : Expr} {pos : Pos} {fa : Fe} (ha : PE X a (tR X.K cl fa)) : PE X (.UnaryOp .USub a pos) (tR X.K cl (un1 negG fa)) := by
  refine PE_weak (pe_un un_neg ha) fun σ H Q q => ?_
  obtain ⟨pa, F, R, ad, env, rv, env', S, hf, k⟩ := q
  unfold un1 at hf
  obtain ⟨⟨r1, e1⟩, h1, hf⟩ := Option.bind_eq_some_iff.mp hf
  obtain ⟨d1, h3, hf⟩ := Option.bind_eq_some_iff.mp hf
  obtain ⟨rr, h5, hf⟩ := Option.bind_eq_some_iff.mp hf
  cases hf
  refine ⟨pa, F, R, ad, env, _, _, S, h1, fun F1 ad1 H1 x le1 S1 a1 => ?_⟩
  obtain ⟨G1, l1, T1, b1⟩ := S1.fzz a1
  have t1 := T1.read b1 h3
  unfold negG at h5
  split at h5
  · cases h5
    rw [at_int t1]
    exact ⟨_, rfl, k G1 ad1 H1 _ (le1.trans l1) T1 (.int _)⟩
  · cases h5
/-! ### comparisons -/
def ltG : D → D → Option Bool
  | .int i, .int j => some (decide (i < j))
  | _, _ => none
def leG : D → D → Option Bool
  | .int i, .int j => some (decide (i ≤ j))
  | _, _ => none
def gtG : D → D → Option Bool
  | .int i, .int j => some (decide (j < i))
  | _, _ => none
def geG : D → D → Option Bool
  | .int i, .int j => some (decide (j ≤ i))
  | _, _ => none
theorem lt_ok : Op2 K cl (bRes ltG) (rI0 fun i j => .bl (decide (i < j))) := by
  intro F H x y d e rv Q le hx hy hg res
  obtain ⟨b, h1, hg⟩ := Option.bind_eq_some_iff.mp hg
  unfold ltG at h1
  split at h1
  · cases h1; cases hg; rw [at_int hx, at_int hy]; exact ⟨_, _, rfl, rfl, res.dat0 (.bl _)⟩
  · cases h1
theorem le_ok : Op2 K cl (bRes leG) (rI0 fun i j => .bl (decide (i ≤ j))) := by
  intro F H x y d e rv Q le hx hy hg res
  obtain ⟨b, h1, hg⟩ := Option.bind_eq_some_iff.mp hg
  unfold leG at h1
  split at h1
  · cases h1; cases hg; rw [at_int hx, at_int hy]; exact ⟨_, _, rfl, rfl, res.dat0 (.bl _)⟩
  · cases h1
theorem gt_ok : Op2 K cl (bRes gtG) (rI0 fun i j => .bl (decide (j < i))) := by
  intro F H x y d e rv Q le hx hy hg res
  obtain ⟨b, h1, hg⟩ := Option.bind_eq_some_iff.mp hg
  unfold gtG at h1
  split at h1
  · cases h1; cases hg; rw [at_int hx, at_int hy]; exact ⟨_, _, rfl, rfl, res.dat0 (.bl _)⟩
  · cases h1
theorem ge_ok : Op2 K cl (bRes geG) (rI0 fun i j => .bl (decide (j ≤ i))) := by
  intro F H x y d e rv Q le hx hy hg res
  obtain ⟨b, h1, hg⟩ := Option.bind_eq_some_iff.mp hg
  unfold geG at h1
  split at h1
  · cases h1; cases hg; rw [at_int hx, at_int hy]; exact ⟨_, _, rfl, rfl, res.dat0 (.bl _)⟩
  · cases h1
/-! ### == -/
def eqG : D → D → Option Bool
  | .int i, .int j => some (decide (i = j))
  | .bl a, .bl b => some (decide (a = b))
  | .str x, .str y => some (decide (x = y))
  | .non, .non => some true
  | .non, .int _ => some false
  | .int _, .non => some false
  | .non, .bl _ => some false
  | .bl _, .non => some false
  | .non, .str _ => some false
  | .str _, .non => some false
  | .lst a, .lst b => (intsOf a).bind fun ns => (intsOf b).bind fun ms => some (decide (ns = ms))
  | _, _ => none
def neG (d e : D) : Option Bool := (eqG d e).bind fun b => some (!b)
def rEqZ (K : PySem.W.Frag) : R2 := fun x y H Q => rEq x y H Q ∨ rEqD K x y H Q
def rNeZ (K : PySem.W.Frag) : R2 := fun x y H Q => rNe x y H Q ∨ rNeD K x y H Q
theorem op_eqZ (hu : X.A.units + 64 < cLine) : OpR X (compareOp .Eq) (rEqZ X.K) := OpR_or op_eq (op_eqD hu)
theorem op_neZ (hu : X.A.units + 64 < cLine) : OpR X (compareOp .NotEq) (rNeZ X.K) := OpR_or op_ne (op_neD hu)
theorem dp_ints : ∀ (ns : List Int), DpAll K H (ns.map V.int) (ns.map PyData.int)
  | [] => .nil
  | n :: r => .cons (.int n) (dp_ints r)
theorem ints_lay : ∀ (ns : List Int), PyData.canLayAll0 (ns.map PyData.int) = true
  | [] => by simp [PyData.canLayAll0]
  | n :: r => by simp [PyData.canLayAll0, PyData.canLay0, ints_lay r]
theorem ints_depth : ∀ (ns : List Int), PyData.depthAll (ns.map PyData.int) ≤ 1
  | [] => by simp [PyData.depthAll]
  | n :: r => by
    have := ints_depth r
    simp only [List.map_cons, PyData.depthAll, PyData.depth]; omega
theorem ints_shaped (ns : List Int) : SeqAt.shaped (.list (ns.map PyData.int)) = true := by
  unfold SeqAt.shaped
  have h := ints_depth ns
  rw [Bool.and_eq_true_iff]
  refine ⟨by simp [PyData.canLay0, ints_lay], decide_eq_true ?_⟩
  simp only [PyData.depth]; omega
theorem ints_eqv : ∀ (ns ms : List Int), PyData.eqvAll (ns.map PyData.int) (ms.map PyData.int) = decide (ns = ms)
  | [], [] => by simp [PyData.eqvAll]
  | [], _ :: _ => by simp [PyData.eqvAll]
  | _ :: _, [] => by simp [PyData.eqvAll]
  | n :: r, m :: q => by
    simp only [List.map_cons, PyData.eqvAll, PyData.eqv, ints_eqv r q]
    rw [Bool.eq_iff_iff]
    simp
theorem eq_both {x y : V} {d e : D} {b : Bool} (le : Le F H) (hx : AtT K cl F H x d) (hy : AtT K cl F H y e) (h : eqG d e = some b) :
    (scal x y = true ∧ decide (x = y) = b) ∨ ∃ p q, Dp K H x p ∧ Dp K H y q ∧ SeqAt.shaped p = true ∧ SeqAt.shaped q = true ∧ PyData.eqv p q = b := by
  unfold eqG at h
  split at h
  · cases h; rw [at_int hx, at_int hy]; exact .inl ⟨rfl, by rw [dec_int]; exact (Bool.beq_eq_decide_eq _ _)⟩
  · cases h; rw [at_bl hx, at_bl hy]; exact .inl ⟨rfl, by rw [dec_bl]; exact (Bool.beq_eq_decide_eq _ _)⟩
  · cases h; rw [at_str hx, at_str hy]; exact .inl ⟨rfl, by rw [Bool.eq_iff_iff]; simp⟩
  · cases h; rw [at_non hx, at_non hy]; exact .inl ⟨rfl, by decide⟩
  · cases h; rw [at_non hx, at_int hy]; exact .inl ⟨rfl, by simp⟩
  · cases h; rw [at_int hx, at_non hy]; exact .inl ⟨rfl, by simp⟩
  · cases h; rw [at_non hx, at_bl hy]; exact .inl ⟨rfl, by simp⟩
  · cases h; rw [at_bl hx, at_non hy]; exact .inl ⟨rfl, by simp⟩
  · cases h; rw [at_non hx, at_str hy]; exact .inl ⟨rfl, by simp⟩
  · cases h; rw [at_str hx, at_non hy]; exact .inl ⟨rfl, by simp⟩
  · obtain ⟨ns, h1, h⟩ := Option.bind_eq_some_iff.mp h
    obtain ⟨ms, h2, h⟩ := Option.bind_eq_some_iff.mp h
    cases h
    rw [intsOf_eq h1] at hx
    rw [intsOf_eq h2] at hy
    obtain ⟨p, vs, rfl, e1, a1⟩ := hx
    obtain ⟨q, ws, rfl, e2, a2⟩ := hy
    rw [a1.intsV] at e1
    rw [a2.intsV] at e2
    exact .inr ⟨_, _, .lst (SqL.of e1) (dp_ints ns), .lst (SqL.of e2) (dp_ints ms), ints_shaped ns, ints_shaped ms, by simp only [PyData.eqv]; exact ints_eqv ns ms⟩
  · cases h
theorem eq_ok : Op2 K cl (bRes eqG) (rEqZ K) := by
  intro F H x y d e rv Q le hx hy hg res
  obtain ⟨b, h1, hg⟩ := Option.bind_eq_some_iff.mp hg
  cases hg
  rcases eq_both le hx hy h1 with ⟨h2, rfl⟩ | ⟨p, q, h2, h3, h4, h5, rfl⟩
  · exact .inl ⟨h2, res.dat0 (.bl _)⟩
  · exact .inr ⟨p, q, h2, h3, h4, h5, res.dat0 (.bl _)⟩
theorem ne_ok : Op2 K cl (bRes neG) (rNeZ K) := by
  intro F H x y d e rv Q le hx hy hg res
  obtain ⟨b, h1, hg⟩ := Option.bind_eq_some_iff.mp hg
  obtain ⟨c, h2, h1⟩ := Option.bind_eq_some_iff.mp h1
  cases hg
  cases h1
  rcases eq_both le hx hy h2 with ⟨g2, rfl⟩ | ⟨p, q, g2, g3, g4, g5, rfl⟩
  · exact .inl ⟨g2, res.dat0 (.bl _)⟩
  · exact .inr ⟨p, q, g2, g3, g4, g5, res.dat0 (.bl _)⟩
/-! ### is None -/
def isN : D → Bool
  | .non => true
  | _ => false
theorem isN_of (h : AtT K cl F H v d) : decide (v = .non) = isN d := by
  cases d with
  | non => cases h; rfl
  | bl b => cases h; simp [isN]
  | int b => cases h; simp [isN]
  | str b => cases h; simp [isN]
  | ty b => cases h; simp [isN]
  | tup b => cases h; simp [isN]
  | lst b => obtain ⟨a, vs, rfl, _⟩ := h; simp [isN]
  | scr b => cases h; simp [isN]
  | itup b => cases h; simp [isN]
  | dk b c => cases h; simp [isN]
  | dt b c => obtain ⟨a, vs, rfl, _⟩ := h; simp [isN]
  | obj b c e => cases h; simp [isN]
def isS (neg : Bool) (fa : Fe) : Ft := fun env => (fa env).bind fun p => (rd p.2 (fz p.1)).bind fun d => some (isN d != neg, p.2)
section
variable {a : Expr} {pos pos' : Pos} {j : Nat} {fa : Fe}
theorem is_core {neg : Bool} {σ : L2.St} {H : Hp} {Q : VK} (q : ∃ pa F R ad env b env', RS X.K cl pa F R H σ ad env ∧ isS neg fa env = some (b, env') ∧ ∀ F' ad' H', Le F F' → RS X.K cl pa F' R H' σ ad' env' → Q (.bl b) H') :
    tR X.K cl fa σ H fun x H1 => Q (.bl (decide (x = .non) != neg)) H1 := by
  obtain ⟨pa, F, R, ad, env, rv, env', S, hf, k⟩ := q
  unfold isS at hf
  obtain ⟨⟨r1, e1⟩, h1, hf⟩ := Option.bind_eq_some_iff.mp hf
  obtain ⟨d1, h3, hf⟩ := Option.bind_eq_some_iff.mp hf
  cases hf
  refine ⟨pa, F, R, ad, env, _, _, S, h1, fun F1 ad1 H1 x le1 S1 a1 => ?_⟩
  obtain ⟨G1, l1, T1, b1⟩ := S1.fzz a1
  rw [isN_of (T1.read b1 h3)]
  exact k G1 ad1 H1 (le1.trans l1) T1
theorem pc_isZ (ha : PE X a (tR X.K cl fa)) : PC X .Is a (.Constant .none j pos') (fun σ H Q => ∃ pa F R ad env b env', RS X.K cl pa F R H σ ad env ∧ isS false fa env = some (b, env') ∧ ∀ F' ad' H', Le F F' → RS X.K cl pa F' R H' σ ad' env' → Q (.bl b) H') :=
  ⟨fun pins s σ H Q I q => (pc_isN ha).run pins s σ H Q I (by have := is_core q; simp only [Bool.bne_false] at this; exact this)⟩
theorem pc_notZ (ha : PE X a (tR X.K cl fa)) : PC X .IsNot a (.Constant .none j pos') (fun σ H Q => ∃ pa F R ad env b env', RS X.K cl pa F R H σ ad env ∧ isS true fa env = some (b, env') ∧ ∀ F' ad' H', Le F F' → RS X.K cl pa F' R H' σ ad' env' → Q (.bl b) H') :=
  ⟨fun pins s σ H Q I q => (pc_notN ha).run pins s σ H Q I (by have := is_core q; simp only [Bool.bne_true] at this; exact this)⟩
theorem tV_core {f : Ft} {σ : L2.St} {H : Hp} {Q : VK} (q : tR X.K cl (tV f) σ H Q) : ∃ pa F R ad env b env', RS X.K cl pa F R H σ ad env ∧ f env = some (b, env') ∧ ∀ F' ad' H', Le F F' → RS X.K cl pa F' R H' σ ad' env' → Q (.bl b) H' := by
  obtain ⟨pa, F, R, ad, env, rv, env', S, hf, k⟩ := q
  unfold tV at hf
  obtain ⟨⟨b, e1⟩, h1, hf⟩ := Option.bind_eq_some_iff.mp hf
  cases hf
  exact ⟨pa, F, R, ad, env, b, _, S, h1, fun F' ad' H' le S' => k F' ad' H' _ le S' (.bl b)⟩
theorem tT_core {f : Ft} {σ : L2.St} {H : Hp} {Q : Bool → Hp → Prop} (q : tT X.K cl f σ H Q) : ∃ pa F R ad env b env', RS X.K cl pa F R H σ ad env ∧ f env = some (b, env') ∧ ∀ F' ad' H', Le F F' → RS X.K cl pa F' R H' σ ad' env' → (∃ c, (V.bl b) = .bl c ∧ Q c H') := by
  obtain ⟨pa, F, R, ad, env, rv, env', S, hf, k⟩ := q
  exact ⟨pa, F, R, ad, env, rv, _, S, hf, fun F' ad' H' le S' => ⟨rv, rfl, k F' ad' H' le S'⟩⟩
theorem pr_isN (ha : PE X a (tR X.K cl fa)) : PE X (.Compare a [.Is] [.Constant .none j pos'] pos) (tR X.K cl (tV (isS false fa))) := PE_weak (pe_cmp (pc_isZ ha)) fun _ _ _ q => tV_core q
theorem pr_notN (ha : PE X a (tR X.K cl fa)) : PE X (.Compare a [.IsNot] [.Constant .none j pos'] pos) (tR X.K cl (tV (isS true fa))) := PE_weak (pe_cmp (pc_notZ ha)) fun _ _ _ q => tV_core q
theorem pq_isN (ha : PE X a (tR X.K cl fa)) : PT X (.Compare a [.Is] [.Constant .none j pos'] pos) (tT X.K cl (isS false fa)) := PT_weak (pt_cmp (pc_isZ ha)) fun _ _ _ q => tT_core q
theorem pq_notN (ha : PE X a (tR X.K cl fa)) : PT X (.Compare a [.IsNot] [.Constant .none j pos'] pos) (tT X.K cl (isS true fa)) := PT_weak (pt_cmp (pc_notZ ha)) fun _ _ _ q => tT_core q
end
/-! ### in, not in: an int among ints -/
def inG (neg : Bool) : D → D → Option Bool
  | .int i, .tup b => (intsOf b).bind fun ns => some (decide (i ∈ ns) != neg)
  | _, _ => none
theorem inV_ints (i : Int) : ∀ (ns : List Int), inV (.int i) (ns.map V.int) = decide (i ∈ ns)
  | [] => by simp [inV]
  | n :: r => by
    have h := inV_ints i r
    unfold inV at h ⊢
    rw [List.map_cons, List.any_cons, h]
    show ((n == i) || decide (i ∈ r)) = decide (i ∈ n :: r)
    by_cases e : n = i
    · subst e; simp
    · have e' : ¬ i = n := fun z => e z.symm
      simp [e, e']
theorem flat_ints : ∀ (ns : List Int), (ns.map V.int).all flatV = true
  | [] => rfl
  | n :: r => by rw [List.map_cons, List.all_cons, flat_ints r]; rfl
theorem in_ok {neg : Bool} : Op2 K cl (bRes (inG neg)) (rIn K neg) := by
  intro F H x y d e rv Q le hx hy hg res
  obtain ⟨b, h1, hg⟩ := Option.bind_eq_some_iff.mp hg
  cases hg
  unfold inG at h1
  split at h1
  · obtain ⟨ns, h2, h1⟩ := Option.bind_eq_some_iff.mp h1
    cases h1
    rw [intsOf_eq h2] at hy
    obtain ⟨p, vs, rfl, e1, a1⟩ := at_tup hy
    rw [a1.intsV] at e1
    rw [at_int hx]
    refine ⟨p, ns.map V.int, rfl, .inr (SqT.of (le _ _ e1)), rfl, flat_ints ns, ?_⟩
    rw [inV_ints]
    have := res.dat0 (v := V.bl (decide (_ ∈ ns) != neg)) (.bl _)
    cases neg <;> simpa using this
  · cases h1
/-! ### items -/
def ixG : D → D → Option Rv
  | .lst ds, .int i => (atI ds i).bind fun d => some (.dat d)
  | .tup ds, .int i => (atI ds i).bind fun d => some (.dat d)
  | .itup ns, .int i => (atI (ns.map D.int) i).bind fun d => some (.dat d)
  | _, _ => none
theorem AtAll.atI {F : Hp} {vs : List V} {ds : List D} {i : Int} {d : D} (h : AtAll K cl F vs ds) (e : L2.atI ds i = some d) : ∃ v, L2.atI vs i = some v ∧ At K cl F v d := by
  unfold L2.atI at e ⊢
  rw [h.length]
  obtain ⟨j, h1, h2⟩ := Option.bind_eq_some_iff.mp e
  obtain ⟨v, h3, h4⟩ := h.get h2
  exact ⟨v, Option.bind_eq_some_iff.mpr ⟨j, h1, h3⟩, h4⟩
def rIxZ (K : PySem.W.Frag) : R2 := fun x y H Q => rIxL K x y H Q ∨ rIxT K x y H Q
theorem ix_seqZ : IxR X (rIxZ X.K) := ix_list.or ix_tup
theorem ix_ok : Op2 K cl ixG (rIxZ K) := by
  intro F H x y d e rv Q le hx hy hg res
  unfold ixG at hg
  split at hg
  · obtain ⟨z, h1, hg⟩ := Option.bind_eq_some_iff.mp hg
    cases hg
    obtain ⟨p, vs, rfl, e1, a1⟩ := hx
    obtain ⟨v, h2, h3⟩ := a1.atI h1
    rw [at_int hy]
    exact .inl ⟨p, vs, _, v, rfl, rfl, SqL.of e1, h2, res.dat0 h3⟩
  · obtain ⟨z, h1, hg⟩ := Option.bind_eq_some_iff.mp hg
    cases hg
    obtain ⟨p, vs, rfl, e1, a1⟩ := at_tup hx
    obtain ⟨v, h2, h3⟩ := a1.atI h1
    rw [at_int hy]
    exact .inr ⟨p, vs, _, v, rfl, rfl, SqT.of (le _ _ e1), h2, res.dat0 h3⟩
  · obtain ⟨z, h1, hg⟩ := Option.bind_eq_some_iff.mp hg
    cases hg
    obtain ⟨p, o, rfl, e1, e2⟩ := at_itup hx
    obtain ⟨v, h2, h3⟩ := (AtAll.ints (K := K) (cl := cl) (F := F) _).atI h1
    rw [at_int hy]
    exact .inr ⟨p, _, _, v, rfl, rfl, sq_frz (le _ _ e1), h2, res.dat0 h3⟩
  · cases hg
/-! ### slices -/
abbrev Fo := En → Option (Option Int × En)
def tO (K : PySem.W.Frag) (cl : Str → Addr) (f : Fo) : TO := fun σ H Q => ∃ pa F R ad env o env', RS K cl pa F R H σ ad env ∧ f env = some (o, env') ∧ ∀ F' ad' H', Le F F' → RS K cl pa F' R H' σ ad' env' → Q o H'
def noO : Fo := fun env => some (none, env)
def intOf : D → Option Int
  | .int i => some i
  | _ => none
def soO (f : Fe) : Fo := fun env => (f env).bind fun p => (rd p.2 (fz p.1)).bind fun d => (intOf d).bind fun i => some (some i, p.2)
theorem PO_weak {X : Cx} {e : Option Expr} {t t' : TO} (h : PO X e t) (w : ∀ σ H Q, t' σ H Q → t σ H Q) : PO X e t' := ⟨fun pins s σ H Q I q => h.run pins s σ H Q I (w σ H Q q)⟩
theorem po_noZ : PO X none (tO X.K cl noO) := by
  refine PO_weak po_none fun σ H Q q => ?_
  obtain ⟨pa, F, R, ad, env, rv, env', S, hf, k⟩ := q
  cases hf
  exact k F ad H (Le.refl _) S
theorem po_soZ {e : Expr} {f : Fe} (h : PE X e (tR X.K cl f)) : PO X (some e) (tO X.K cl (soO f)) := by
  refine PO_weak (po_some h) fun σ H Q q => ?_
  obtain ⟨pa, F, R, ad, env, rv, env', S, hf, k⟩ := q
  unfold soO at hf
  obtain ⟨⟨r1, e1⟩, h1, hf⟩ := Option.bind_eq_some_iff.mp hf
  obtain ⟨d1, h3, hf⟩ := Option.bind_eq_some_iff.mp hf
  obtain ⟨i, h5, hf⟩ := Option.bind_eq_some_iff.mp hf
  cases hf
  refine ⟨pa, F, R, ad, env, _, _, S, h1, fun F1 ad1 H1 x le1 S1 a1 => ?_⟩
  obtain ⟨G1, l1, T1, b1⟩ := S1.fzz a1
  have t1 := T1.read b1 h3
  unfold intOf at h5
  split at h5
  · cases h5; rw [at_int t1]; exact ⟨_, rfl, k G1 ad1 H1 (le1.trans l1) T1⟩
  · cases h5
def cutD {α : Type} (xs : List α) (lo hi : Option Int) : List α := (xs.drop (HT.sIx xs.length 0 lo)).take (HT.sIx xs.length xs.length hi - HT.sIx xs.length 0 lo)
theorem AtAll.cut {F : Hp} {vs : List V} {ds : List D} (h : AtAll K cl F vs ds) (lo hi : Option Int) : AtAll K cl F (cutV vs lo hi) (cutD ds lo hi) := by
  unfold cutV cutD
  rw [h.length]
  exact (h.drop _).take _
def cutG (d : D) (lo hi : Option Int) : Option Rv := match d with
  | .lst ds => some (.own (.lst (cutD ds lo hi)))
  | .tup ds => some (.dat (.tup (cutD ds lo hi)))
  | .itup ns => if HT.sIx ns.length 0 lo = 0 ∧ HT.sIx ns.length ns.length hi = ns.length then some (.dat (.itup ns)) else some (.dat (.tup (cutD (ns.map D.int) lo hi)))
  | _ => none
def slS (fa : Fe) (fl fh : Fo) : Fe := fun env => (fa env).bind fun p => (fl p.2).bind fun q => (fh q.2).bind fun r => (rd r.2 (fz p.1)).bind fun d => (cutG d q.1 r.1).bind fun z => some (z, r.2)
theorem pr_sl {e : Expr} {lo hi : Option Expr} {pos p2 : Pos} {fa : Fe} {fl fh : Fo} (he : PE X e (tR X.K cl fa)) (hl : PO X lo (tO X.K cl fl)) (hu : PO X hi (tO X.K cl fh)) : PE X (.Subscript e (.Slice lo hi none p2) pos) (tR X.K cl (slS fa fl fh)) := by
  refine PE_weak (pe_slice (sl_tupA.or sl_list) he hl hu) fun σ H Q q => ?_
  obtain ⟨pa, F, R, ad, env, rv, env', S, hf, k⟩ := q
  unfold slS at hf
  obtain ⟨⟨r1, e1⟩, h1, hf⟩ := Option.bind_eq_some_iff.mp hf
  obtain ⟨⟨o1, e2⟩, h2, hf⟩ := Option.bind_eq_some_iff.mp hf
  obtain ⟨⟨o2, e3⟩, h3, hf⟩ := Option.bind_eq_some_iff.mp hf
  obtain ⟨d1, h4, hf⟩ := Option.bind_eq_some_iff.mp hf
  obtain ⟨z, h5, hf⟩ := Option.bind_eq_some_iff.mp hf
  cases hf
  refine ⟨pa, F, R, ad, env, _, _, S, h1, fun F1 ad1 H1 x le1 S1 a1 => ?_⟩
  obtain ⟨G1, l1, T1, b1⟩ := S1.fzz a1
  refine ⟨pa, G1, R, ad1, _, _, _, T1, h2, fun F2 ad2 H2 le2 S2 => ?_⟩
  refine ⟨pa, F2, R, ad2, _, _, _, S2, h3, fun F3 ad3 H3 le3 S3 => ?_⟩
  have t1 := S3.read (b1.mono (le2.trans le3)) h4
  have res : Res X.K cl F3 H3 rv Q := S3.res fun F4 ad4 H4 v le4 S4 a4 => k F4 ad4 H4 v ((((le1.trans l1).trans le2).trans le3).trans le4) S4 a4
  unfold cutG at h5
  split at h5
  · cases h5
    obtain ⟨p, vs, rfl, e1, a1⟩ := t1
    exact .inr ⟨p, vs, rfl, SqL.of e1, fun r hr => res.lst hr (a1.cut _ _)⟩
  · cases h5
    obtain ⟨p, vs, rfl, e1, a1⟩ := at_tup t1
    refine .inl ⟨p, vs, rfl, SqT.of (S3.fh _ _ e1), fun hw => ?_, fun hw r hr => res.tup S3.fh hr (a1.cut _ _)⟩
    have hc := a1.cut o1 o2
    refine res.dat0 (.tup e1 ?_)
    have : cutV vs o1 o2 = vs := by
      unfold cutV
      rw [hw.1, hw.2]; simp
    rw [this] at hc
    exact hc
  · rename_i ns
    obtain ⟨p, o, rfl, e1, e2⟩ := at_itup t1
    split at h5
    · rename_i hw
      cases h5
      exact .inl ⟨p, _, rfl, sq_frz (S3.fh _ _ e1), fun _ => res.dat0 (.itup e1 e2), fun hn => absurd (by rw [List.length_map]; exact hw) hn⟩
    · rename_i hw
      cases h5
      exact .inl ⟨p, _, rfl, sq_frz (S3.fh _ _ e1), fun hn => absurd (by rw [List.length_map] at hn; exact hn) hw, fun _ r hr => res.tup S3.fh hr ((AtAll.ints ns).cut _ _)⟩
  · cases h5
end
end Z

set_option Elab.async false
set_option linter.all false
set_option maxRecDepth 100000
set_option maxHeartbeats 1000000
/-! Built-ins, by values. -/
namespace Z
open PySem PySem.Spec PyProof.Rows L2
section
variable {K : PySem.W.Frag} {cl : Str → Addr} {F H : Hp} {v : V} {d : D} {X : Cx}
theorem pair1 {R : V → D → Prop} {xs : List V} {d : D} (h : Paired R xs [d]) : ∃ v, xs = [v] ∧ R v d := by
  cases h with | cons a b => cases b; exact ⟨_, rfl, a⟩
theorem pair2 {R : V → D → Prop} {xs : List V} {d e : D} (h : Paired R xs [d, e]) : ∃ v w, xs = [v, w] ∧ R v d ∧ R w e := by
  cases h with | cons a b => cases b with | cons c f => cases f; exact ⟨_, _, rfl, a, c⟩

def lenG : List D → Option Rv
  | [.lst ds] => some (.dat (.int ds.length))
  | [.tup ds] => some (.dat (.int ds.length))
  | [.scr ns] => some (.dat (.int ns.length))
  | [.itup ns] => some (.dat (.int ns.length))
  | _ => none
theorem len_ok : OpL K cl lenG (fun xs H Q => ∃ p ys, xs = [.ref p] ∧ (SqL K H p ys ∨ SqT K H p ys) ∧ Q (.int ys.length) H) := by
  intro F H xs ds rv Q le hx hg res
  unfold lenG at hg
  split at hg
  · cases hg
    obtain ⟨v, rfl, h⟩ := pair1 hx
    obtain ⟨a, vs, rfl, e, al⟩ := h
    exact ⟨a, vs, rfl, .inl (SqL.of e), by rw [al.length]; exact res.dat0 (.int _)⟩
  · cases hg
    obtain ⟨v, rfl, h⟩ := pair1 hx
    obtain ⟨a, vs, rfl, e, al⟩ := at_tup h
    exact ⟨a, vs, rfl, .inr (SqT.of (le _ _ e)), by rw [al.length]; exact res.dat0 (.int _)⟩
  · cases hg
    obtain ⟨v, rfl, h⟩ := pair1 hx
    cases h with
    | scr e => exact ⟨_, _, rfl, .inl (seq_le le e), by rw [List.length_map]; exact res.dat0 (.int _)⟩
  · cases hg
    obtain ⟨v, rfl, h⟩ := pair1 hx
    obtain ⟨a, o, rfl, e1, e2⟩ := at_itup h
    exact ⟨a, _, rfl, .inr (sq_frz (le _ _ e1)), by rw [List.length_map]; exact res.dat0 (.int _)⟩
  · cases hg
def intG : List D → Option Rv
  | [.int i] => some (.dat (.int i))
  | [.bl b] => some (.dat (.int (if b then 1 else 0)))
  | _ => none
theorem int_ok : OpL K cl intG (fun xs H Q => (∃ i, xs = [.int i] ∧ Q (.int i) H) ∨ ∃ k, xs = [.bl k] ∧ Q (.int (if k then 1 else 0)) H) := by
  intro F H xs ds rv Q le hx hg res
  unfold intG at hg
  split at hg
  · cases hg
    obtain ⟨v, rfl, h⟩ := pair1 hx
    rw [at_int h]; exact .inl ⟨_, rfl, res.dat0 (.int _)⟩
  · cases hg
    obtain ⟨v, rfl, h⟩ := pair1 hx
    rw [at_bl h]; exact .inr ⟨_, rfl, res.dat0 (.int _)⟩
  · cases hg
def absG : List D → Option Rv
  | [.int i] => some (.dat (.int (if i < 0 then -i else i)))
  | _ => none
theorem abs_ok : OpL K cl absG (fun xs H Q => ∃ i, xs = [.int i] ∧ Q (.int (if i < 0 then -i else i)) H) := by
  intro F H xs ds rv Q le hx hg res
  unfold absG at hg
  split at hg
  · cases hg
    obtain ⟨v, rfl, h⟩ := pair1 hx
    rw [at_int h]; exact ⟨_, rfl, res.dat0 (.int _)⟩
  · cases hg
def tupleG : List D → Option Rv
  | [.lst ds] => some (.dat (.tup ds))
  | [.tup ds] => some (.dat (.tup ds))
  | [.itup ns] => some (.dat (.itup ns))
  | _ => none
theorem tuple_ok : OpL K cl tupleG (fun xs H Q => ∃ p ys, xs = [.ref p] ∧ ((SqL K H p ys ∧ ∀ l, H l = none → Q (.ref l) (upd H l (.tup ys))) ∨ (SqT K H p ys ∧ Q (.ref p) H))) := by
  intro F H xs ds rv Q le hx hg res
  unfold tupleG at hg
  split at hg
  · cases hg
    obtain ⟨v, rfl, h⟩ := pair1 hx
    obtain ⟨a, vs, rfl, e, al⟩ := h
    exact ⟨a, vs, rfl, .inl ⟨SqL.of e, fun l hl => res.tup le hl al⟩⟩
  · cases hg
    obtain ⟨v, rfl, h⟩ := pair1 hx
    obtain ⟨a, vs, rfl, e, al⟩ := at_tup h
    exact ⟨a, vs, rfl, .inr ⟨SqT.of (le _ _ e), res.dat0 (.tup e al)⟩⟩
  · cases hg
    obtain ⟨v, rfl, h⟩ := pair1 hx
    obtain ⟨a, o, rfl, e1, e2⟩ := at_itup h
    exact ⟨a, _, rfl, .inr ⟨sq_frz (le _ _ e1), res.dat0 (.itup e1 e2)⟩⟩
  · cases hg
def listG : List D → Option Rv
  | [.lst ds] => some (.own (.lst ds))
  | [.tup ds] => some (.own (.lst ds))
  | [.itup ns] => some (.own (.lst (ns.map D.int)))
  | _ => none
theorem list_ok : OpL K cl listG (fun xs H Q => ∃ p ys, xs = [.ref p] ∧ (SqL K H p ys ∨ SqT K H p ys) ∧ ∀ l, H l = none → Q (.ref l) (upd H l (.lst ys))) := by
  intro F H xs ds rv Q le hx hg res
  unfold listG at hg
  split at hg
  · cases hg
    obtain ⟨v, rfl, h⟩ := pair1 hx
    obtain ⟨a, vs, rfl, e, al⟩ := h
    exact ⟨a, vs, rfl, .inl (SqL.of e), fun l hl => res.lst hl al⟩
  · cases hg
    obtain ⟨v, rfl, h⟩ := pair1 hx
    obtain ⟨a, vs, rfl, e, al⟩ := at_tup h
    exact ⟨a, vs, rfl, .inr (SqT.of (le _ _ e)), fun l hl => res.lst hl al⟩
  · cases hg
    obtain ⟨v, rfl, h⟩ := pair1 hx
    obtain ⟨a, o, rfl, e1, e2⟩ := at_itup h
    exact ⟨a, _, rfl, .inr (sq_frz (le _ _ e1)), fun l hl => res.lst hl (AtAll.ints _)⟩
  · cases hg
def blsOf : List D → Option (List Bool)
  | [] => some []
  | .bl b :: r => (blsOf r).bind fun bs => some (b :: bs)
  | _ => none
theorem blsOf_eq {ds : List D} {bs : List Bool} (h : blsOf ds = some bs) : ds = bs.map D.bl := by
  induction ds generalizing bs with
  | nil => cases h; rfl
  | cons d r ih =>
    cases d with
    | bl b =>
      change ((blsOf r).bind fun bs => some (b :: bs)) = some bs at h
      obtain ⟨ms, h1, h⟩ := Option.bind_eq_some_iff.mp h
      cases h
      rw [ih h1]; rfl
    | _ => cases h
theorem blsOf_map : ∀ (bs : List Bool), blsOf (bs.map D.bl) = some bs
  | [] => rfl
  | b :: r => by show (blsOf (r.map D.bl)).bind _ = _; rw [blsOf_map r]; rfl
theorem AtAll.blsV : ∀ {F : Hp} {vs : List V} {bs : List Bool}, AtAll K cl F vs (bs.map D.bl) → vs = bs.map V.bl
  | _, _, [], .nil => rfl
  | _, _, n :: r, .cons h t => by cases h; rw [AtAll.blsV t]; rfl
def allG : List D → Option Rv
  | [.lst ds] => (blsOf ds).bind fun bs => some (.dat (.bl (bs.all id)))
  | _ => none
def anyG : List D → Option Rv
  | [.lst ds] => (blsOf ds).bind fun bs => some (.dat (.bl (bs.any id)))
  | _ => none
theorem all_ok : OpL K cl allG (rAll K) := by
  intro F H xs ds rv Q le hx hg res
  unfold allG at hg
  split at hg
  · obtain ⟨bs, h1, hg⟩ := Option.bind_eq_some_iff.mp hg
    cases hg
    obtain ⟨v, rfl, h⟩ := pair1 hx
    obtain ⟨a, vs, rfl, e, al⟩ := h
    rw [blsOf_eq h1] at al
    rw [al.blsV] at e
    exact ⟨a, bs, rfl, SqL.of e, res.dat0 (.bl _)⟩
  · cases hg
theorem any_ok : OpL K cl anyG (rAny K) := by
  intro F H xs ds rv Q le hx hg res
  unfold anyG at hg
  split at hg
  · obtain ⟨bs, h1, hg⟩ := Option.bind_eq_some_iff.mp hg
    cases hg
    obtain ⟨v, rfl, h⟩ := pair1 hx
    obtain ⟨a, vs, rfl, e, al⟩ := h
    rw [blsOf_eq h1] at al
    rw [al.blsV] at e
    exact ⟨a, bs, rfl, SqL.of e, res.dat0 (.bl _)⟩
  · cases hg
def gcdG : List D → Option Rv
  | [.int i, .int j] => some (.dat (.int ((Nat.gcd i.natAbs j.natAbs : Nat) : Int)))
  | _ => none
theorem gcd_ok : OpL K cl gcdG rGcd := by
  intro F H xs ds rv Q le hx hg res
  unfold gcdG at hg
  split at hg
  · cases hg
    obtain ⟨v, w, rfl, h1, h2⟩ := pair2 hx
    rw [at_int h1, at_int h2]
    exact ⟨_, _, rfl, res.dat0 (.int _)⟩
  · cases hg
def lcmG : List D → Option Rv
  | [.int i, .int j] => if i.natAbs < Big ∧ j.natAbs < Big then some (.dat (.int ((Nat.lcm i.natAbs j.natAbs : Nat) : Int))) else none
  | _ => none
def rLcm : List V → Hp → VK → Prop := fun vs H Q => ∃ a b : Int, vs = [.int a, .int b] ∧ a.natAbs < Big ∧ b.natAbs < Big ∧ Q (.int ((Nat.lcm a.natAbs b.natAbs : Nat) : Int)) H
theorem log2_mul_lt {a b n m : Nat} (ha : a < 2 ^ n) (hb : b < 2 ^ m) : a * b < 2 ^ (n + m) := by
  rw [Nat.pow_add]
  exact Nat.mul_lt_mul'' ha hb
theorem cr_lcm : CallR X (.builtin "math.lcm") rLcm := by
  intro pins s σ H vs us Q I r h
  obtain ⟨a, b, rfl, ha, hb, q⟩ := h
  obtain ⟨t, u, rfl⟩ := Vals.int2 r
  have la := log2_Big ha
  have lb := log2_Big hb
  have l1 : (max 1 a.natAbs).log2 < 4096 := by
    rcases Nat.le_total 1 a.natAbs with z | z
    · rw [Nat.max_eq_right z]; exact la
    · rw [Nat.max_eq_left z]; decide
  have l2 : (max a.natAbs b.natAbs).log2 < 4096 := by
    rcases Nat.le_total a.natAbs b.natAbs with z | z
    · rw [Nat.max_eq_right z]; exact lb
    · rw [Nat.max_eq_left z]; exact la
  have e : (Nat.lcm 1 a.natAbs) = a.natAbs := by rw [Nat.lcm_one_left]
  have hs : ((((Nat.lcm 1 a.natAbs).lcm b.natAbs : Nat) : Int)).natAbs.log2 < bitsLine := by
    rw [e, Int.natAbs_natCast]
    rw [Big_eq] at ha hb
    have hl : a.natAbs.lcm b.natAbs < 2 ^ (4096 + 4096) := Nat.lt_of_le_of_lt (Nat.div_le_self _ _) (log2_mul_lt ha hb)
    have := PySem.Flt.log2_lt_of (by decide) hl
    have eb : bitsLine = 134217728 := by decide
    omega
  have g := (PySem.W.mg_run_lcm a t b u (by omega) (by omega) hs).meets (prog := X.prog)
  exact call_function_meets PySem.W.MGF.kind_lcm PySem.W.MGF.plain_lcm PySem.W.MGF.entry_lcm (PySem.W.MGF.args_lcm _ _) (PySem.W.mg_run_lcm a t b u (by omega) (by omega) hs).meets ⟨.int _, H, I.tok _, ⟨_, by rw [e]⟩, q⟩
theorem lcm_ok : OpL K cl lcmG rLcm := by
  intro F H xs ds rv Q le hx hg res
  unfold lcmG at hg
  split at hg
  · split at hg
    · rename_i hb
      cases hg
      obtain ⟨v, w, rfl, h1, h2⟩ := pair2 hx
      rw [at_int h1, at_int h2]
      exact ⟨_, _, rfl, hb.1, hb.2, res.dat0 (.int _)⟩
    · cases hg
  · cases hg
/-! ### isinstance -/
def kindD : D → Option String
  | .non => some "NoneType"
  | .bl _ => some "bool"
  | .int _ => some "int"
  | .str _ => some "str"
  | .tup _ => some "tuple"
  | .itup _ => some "tuple"
  | .lst _ => some "list"
  | .dk _ _ => some "dict"
  | .dt _ _ => some "dict"
  | _ => none
def isTy (k n : String) : Bool := k == n || (k == "bool" && n == "int")
def tysOf : List D → Option (List String)
  | [] => some []
  | .ty n :: r => (tysOf r).bind fun ns => some (n :: ns)
  | _ => none
def okTy (n : String) : Bool := n == "int" || n == "bool" || n == "str" || n == "tuple" || n == "list"
theorem tysOf_eq {ds : List D} {ns : List String} (h : tysOf ds = some ns) : ds = ns.map D.ty := by
  induction ds generalizing ns with
  | nil => cases h; rfl
  | cons d r ih =>
    cases d with
    | ty b =>
      change ((tysOf r).bind fun bs => some (b :: bs)) = some ns at h
      obtain ⟨ms, h1, h⟩ := Option.bind_eq_some_iff.mp h
      cases h
      rw [ih h1]; rfl
    | _ => cases h
theorem kit_all : (["NoneType", "bool", "int", "str", "tuple", "list", "dict"].all fun k => ["int", "bool", "str", "tuple", "list"].all fun n => decide (kitB k n = some (isTy k n))) = true := by decide +kernel
theorem kit_of' {d : D} {k n : String} (h : kindD d = some k) (hn : okTy n = true) : kitB k n = some (isTy k n) := by
  have ha := List.all_eq_true.mp kit_all
  have hk : k ∈ ["NoneType", "bool", "int", "str", "tuple", "list", "dict"] := by cases d <;> cases h <;> decide
  have hb := List.all_eq_true.mp (ha k hk)
  have hm : n ∈ ["int", "bool", "str", "tuple", "list"] := by
    unfold okTy at hn
    simp only [Bool.or_eq_true, beq_iff_eq] at hn
    rcases hn with (((h | h) | h) | h) | h <;> subst h <;> decide
  exact of_decide_eq_true (hb n hm)
theorem ty_of {k : String} (h : kindD d = some k) (le : Le F H) (a : AtT K cl F H v d) : TyX K H v (.type k) := by
  cases d with
  | non => cases h; cases a; exact .base .non
  | bl b => cases h; cases a; exact .base (.bl _)
  | int i => cases h; cases a; exact .base (.int _)
  | str i => cases h; cases a; exact .base (.str _)
  | tup ds => cases h; obtain ⟨p, vs, rfl, e, _⟩ := at_tup a; exact .base (.tup (le _ _ e))
  | itup ns => cases h; obtain ⟨p, o, rfl, e, _⟩ := at_itup a; exact .fTuple (le _ _ e)
  | lst ds => cases h; obtain ⟨p, vs, rfl, e, _⟩ := a; exact .base (.lst e)
  | dk ks ds => cases h; cases a with | dk e _ _ => exact .base (.dK (le _ _ e))
  | dt ks ds => cases h; obtain ⟨p, vs, rfl, e, _⟩ := a; exact .base (.dT e)
  | _ => cases h
def isiG : List D → Option Rv
  | [x, .ty n] => (kindD x).bind fun k => if okTy n = true then some (.dat (.bl (isTy k n))) else none
  | [x, .tup cs] => (kindD x).bind fun k => (tysOf cs).bind fun ns => if ns.all okTy = true then some (.dat (.bl (ns.any fun n => isTy k n))) else none
  | _ => none
def rIsiZ (K : PySem.W.Frag) : List V → Hp → VK → Prop := fun xs H Q => rIsi K xs H Q ∨ rIsiT K xs H Q
theorem call_isiZ : CallR X (.builtin "isinstance") (rIsiZ X.K) := call_isi.or call_isiT
theorem kitAny_tys {k : String} (hk : ∀ n, okTy n = true → kitB k n = some (isTy k n)) : ∀ (ns : List String), ns.all okTy = true → PySem.W.kitAny K (.type k) (ns.map Value.type) = some (ns.any fun n => isTy k n)
  | [], _ => kitAny_nil
  | n :: r, h => by
    rw [List.all_cons, Bool.and_eq_true_iff] at h
    refine kitAny_cons (kit_ty (hk n h.1)) (fun hb => ?_) (fun hb => ?_)
    · rw [kitAny_tys hk r h.2, List.any_cons, hb, Bool.false_or]
    · rw [List.any_cons, hb, Bool.true_or]
theorem AtAll.tysV : ∀ {F : Hp} {vs : List V} {ns : List String}, AtAll K cl F vs (ns.map D.ty) → vs = ns.map V.ty
  | _, _, [], .nil => rfl
  | _, _, n :: r, .cons h t => by cases h; rw [AtAll.tysV t]; rfl
theorem cls_tys : ∀ (ns : List String), Paired ClsV (ns.map V.ty) (ns.map Value.type)
  | [] => .nil
  | n :: r => .cons (.ty n) (cls_tys r)
theorem isi_ok : OpL K cl isiG (rIsiZ K) := by
  intro F H xs ds rv Q le hx hg res
  unfold isiG at hg
  split at hg
  · obtain ⟨k, h1, hg⟩ := Option.bind_eq_some_iff.mp hg
    split at hg
    · rename_i hn
      cases hg
      obtain ⟨v, w, rfl, a1, a2⟩ := pair2 hx
      rw [at_ty a2]
      exact .inl ⟨v, _, _, _, _, rfl, .ty _, ty_of h1 le a1, kit_ty (kit_of' h1 hn), res.dat0 (.bl _)⟩
    · cases hg
  · obtain ⟨k, h1, hg⟩ := Option.bind_eq_some_iff.mp hg
    obtain ⟨ns, h2, hg⟩ := Option.bind_eq_some_iff.mp hg
    split at hg
    · rename_i hn
      cases hg
      obtain ⟨v, w, rfl, a1, a2⟩ := pair2 hx
      rw [tysOf_eq h2] at a2
      obtain ⟨p, vs, rfl, e, al⟩ := at_tup a2
      rw [al.tysV] at e
      exact .inr ⟨v, p, _, _, _, _, rfl, le _ _ e, cls_tys ns, ty_of h1 le a1, kitAny_tys (fun n hn => kit_of' h1 hn) ns hn, res.dat0 (.bl _)⟩
    · cases hg
  · cases hg
end
end Z

set_option Elab.async false
set_option linter.all false
set_option maxRecDepth 100000
set_option maxHeartbeats 1000000
/-! Targets, what is walked, comprehensions. -/
namespace Z
open PySem PySem.Spec PyProof.Rows L2
section
variable (K : PySem.W.Frag) (cl : Str → Addr)
abbrev Fb := Z.D → En → Option En
abbrev Fbs := List Z.D → En → Option En
abbrev Fi := En → Option (List Z.D × En)
def tG (ws : List Nat) (b : Fb) : TG := fun v σ H Q => ∃ pa F R ad env d env', RS K cl pa F R H σ ad env ∧ At K cl F v d ∧ b d env = some env' ∧ ∀ F' ad' σ' H', Le F F' → RS K cl pa F' R H' σ' ad' env' → wipe σ' ws = wipe σ ws → Q σ' H'
def tGs (ws : List Nat) (b : Fbs) : TGs := fun vs σ H Q => ∃ pa F R ad env ds env', RS K cl pa F R H σ ad env ∧ AtAll K cl F vs ds ∧ b ds env = some env' ∧ ∀ F' ad' σ' H', Le F F' → RS K cl pa F' R H' σ' ad' env' → wipe σ' ws = wipe σ ws → Q σ' H'
structure IterOf (F : Hp) (J : It) (ds : List Z.D) : Prop where
  go : ∀ F2 H i, Le F F2 → Le F2 H → i < ds.length → J.go i H
  stop : ∀ F2 H, Le F F2 → Le F2 H → J.stop ds.length H
  yld : ∀ F2 H i x H' d, Le F F2 → Le F2 H → ds[i]? = some d → J.yld i H x H' → ∃ F3, Grow F2 H F3 H' ∧ At K cl F3 x d
def tI (f : Fi) : TI := fun σ H R => ∃ pa F Rr ad env ds env', RS K cl pa F Rr H σ ad env ∧ f env = some (ds, env') ∧ ∀ F' ad' H' J, Le F F' → RS K cl pa F' Rr H' σ ad' env' → IterOf K cl F' J ds → R J H'
end
theorem PG_weak {X : Cx} {e : Expr} {t t' : TG} (h : PG X e t) (w : ∀ v σ H Q, t' v σ H Q → t v σ H Q) : PG X e t' := ⟨fun pins s σ H v u Q I r q => h.run pins s σ H v u Q I r (w v σ H Q q)⟩
theorem PG_or {X : Cx} {e : Expr} {t u : TG} (h : PG X e t) (h' : PG X e u) : PG X e (fun v σ H Q => t v σ H Q ∨ u v σ H Q) := ⟨fun pins s σ H v w Q I r q => q.elim (h.run pins s σ H v w Q I r) (h'.run pins s σ H v w Q I r)⟩
theorem PGs_weak {X : Cx} {e : List Expr} {t t' : TGs} (h : PGs X e t) (w : ∀ v σ H Q, t' v σ H Q → t v σ H Q) : PGs X e t' := ⟨fun pins s σ H v u Q I r q => h.run pins s σ H v u Q I r (w v σ H Q q)⟩
theorem PI_weak {X : Cx} {tg e : Expr} {t t' : TI} (h : PI X tg e t) (w : ∀ σ H Q, t' σ H Q → t σ H Q) : PI X tg e t' := ⟨fun pins s σ H R I q => h.run pins s σ H R I (w σ H R q)⟩
theorem PI_or {X : Cx} {tg e : Expr} {t u : TI} (h : PI X tg e t) (h' : PI X tg e u) : PI X tg e (fun σ H R => t σ H R ∨ u σ H R) := ⟨fun pins s σ H R I q => q.elim (h.run pins s σ H R I) (h'.run pins s σ H R I)⟩
section
variable {X : Cx} {cl : Str → Addr} {e : Expr} {pos : Pos} {ws : List Nat}
theorem wipe_in {σ : L2.St} {i : Nat} : ∀ {vs : List Nat}, i ∈ vs → (wipe σ vs)[i]? = if i < σ.length then some none else none
  | v :: vs, h => by
    unfold wipe
    by_cases e : v = i
    · subst e
      rw [List.getElem?_set, wipe_length]
      simp
    · rw [List.getElem?_set_ne e]
      exact wipe_in (by simpa [Ne.symm e] using h)
theorem wipe_out' {σ : L2.St} {i : Nat} : ∀ {vs : List Nat}, i ∉ vs → (wipe σ vs)[i]? = σ[i]?
  | [], _ => rfl
  | v :: vs, h => by
    unfold wipe
    rw [List.getElem?_set_ne (fun z => h (by simp [z])), wipe_out' (fun z => h (by simp [z]))]
theorem wipe_eq {σ τ : L2.St} {vs : List Nat} (hl : σ.length = τ.length) (h : ∀ i, i ∉ vs → σ[i]? = τ[i]?) : wipe σ vs = wipe τ vs := by
  refine List.ext_getElem? fun i => ?_
  by_cases hi : i ∈ vs
  · rw [wipe_in hi, wipe_in hi, hl]
  · rw [wipe_out' hi, wipe_out' hi, h i hi]
theorem wipe_set {σ : L2.St} {i : Nat} {x : Option V} {vs : List Nat} (h : i ∈ vs) : wipe (σ.set i x) vs = wipe σ vs :=
  wipe_eq (by simp) fun j hj => List.getElem?_set_ne (fun z : i = j => hj (by rw [← z]; exact h))
theorem wipe_wipe {σ : L2.St} {vs : List Nat} : wipe (wipe σ vs) vs = wipe σ vs :=
  wipe_eq (wipe_length _ _) fun j hj => wipe_out' hj
/-! ### targets -/
def nmB (i : Nat) : Fb := fun d env => if i < env.length then some (env.set i (some (.dat d))) else none
theorem pg_nm (i : Nat) {x : Str} (hN : X.N.Nodup) (hw : i ∈ ws := by decide) (hi : X.N[i]? = some x := by rfl) (hx : Loc X.env.scope x := by first | exact Or.inl rfl | exact Or.inr rfl) (hf : X.fn x = true ∨ X.env.scope.names.lookup x = some .local := by first | exact .inl rfl | exact .inr rfl) : PG X (.Name x pos) (tG X.K cl ws (nmB i)) := by
  refine PG_weak (pg_name hN hi hx hf) fun v σ H Q q => ?_
  obtain ⟨pa, F, R, ad, env, d, env', S, a, hb, k⟩ := q
  unfold nmB at hb
  split at hb
  · rename_i hl; cases hb
    exact k F ad _ H (Le.refl _) (S.setDat hl a) (wipe_set hw)
  · cases hb
def nilB : Fbs := fun ds env => match ds with
  | [] => some env
  | _ => none
def consB (b : Fb) (bs : Fbs) : Fbs := fun ds env => match ds with
  | d :: r => (b d env).bind fun e => bs r e
  | [] => none
theorem pgs_nilZ : PGs X [] (tGs X.K cl ws nilB) := by
  refine PGs_weak pgs_nil fun v σ H Q q => ?_
  obtain ⟨pa, F, R, ad, env, ds, env', S, a, hb, k⟩ := q
  unfold nilB at hb
  split at hb
  · cases hb; cases a; exact ⟨rfl, k F ad σ H (Le.refl _) S rfl⟩
  · cases hb
theorem pgs_consZ {es : List Expr} {b : Fb} {bs : Fbs} (h1 : PG X e (tG X.K cl ws b)) (h2 : PGs X es (tGs X.K cl ws bs)) (hs : (assignEach (e :: es) X.env).map (·.2) = assign e X.env :: (assignEach es X.env).map (·.2) := by rfl) : PGs X (e :: es) (tGs X.K cl ws (consB b bs)) := by
  refine PGs_weak (pgs_cons h1 h2 hs) fun v σ H Q q => ?_
  obtain ⟨pa, F, R, ad, env, ds, env', S, a, hb, k⟩ := q
  unfold consB at hb
  split at hb
  · obtain ⟨e1, h3, hb⟩ := Option.bind_eq_some_iff.mp hb
    cases a with
    | cons a1 a2 =>
      exact ⟨_, _, rfl, pa, F, R, ad, env, _, _, S, a1, h3, fun F1 ad1 σ1 H1 le1 S1 w1 => ⟨pa, F1, R, ad1, _, _, _, S1, a2.mono le1, hb, fun F2 ad2 σ2 H2 le2 S2 w2 => k F2 ad2 σ2 H2 (le1.trans le2) S2 (w2.trans w1)⟩⟩
  · cases hb
def tupB (n : Nat) (bs : Fbs) : Fb := fun d env => match d with
  | .tup ds => if ds.length = n then bs ds env else none
  | .lst ds => if ds.length = n then bs ds env else none
  | _ => none
theorem pg_tupZ {es : List Expr} {kk : Nat} {bs : Fbs} {n : Nat} (hc : X.calm = true) (h : PGs X es (tGs X.K cl ws bs)) (hn : (assignEach es X.env).length = n := by rfl) (hst : (assignEach es X.env).findIdx? (·.1) = none := by rfl) : PG X (.Tuple es kk pos) (tG X.K cl ws (tupB n bs)) := by
  refine PG_weak (PG_or (pg_tup hc h hn hst) (pg_unl hc h hn hst)) fun v σ H Q q => ?_
  obtain ⟨pa, F, R, ad, env, d, env', S, a, hb, k⟩ := q
  unfold tupB at hb
  split at hb
  · split at hb
    · rename_i hl
      cases a with
      | tup e1 a1 => exact .inl ⟨_, _, rfl, SqT.of (S.fh _ _ e1), by rw [a1.length]; exact hl, pa, F, R, ad, env, _, _, S, a1, hb, k⟩
    · cases hb
  · split at hb
    · rename_i hl
      cases a with
      | lst e1 a1 => exact .inr ⟨_, _, rfl, SqL.of (S.fh _ _ e1), by rw [a1.length]; exact hl, pa, F, R, ad, env, _, _, S, a1, hb, k⟩
    · cases hb
  · cases hb
theorem at_lstF {K : PySem.W.Frag} {F : Hp} {v : V} {ds : List Z.D} (h : At K cl F v (.lst ds)) : ∃ a vs, v = .ref a ∧ F a = some (.lst vs) ∧ AtAll K cl F vs ds := by cases h with | lst h1 h2 => exact ⟨_, _, rfl, h1, h2⟩
theorem at_tupF {K : PySem.W.Frag} {F : Hp} {v : V} {ds : List Z.D} (h : At K cl F v (.tup ds)) : ∃ a vs, v = .ref a ∧ F a = some (.tup vs) ∧ AtAll K cl F vs ds := by cases h with | tup h1 h2 => exact ⟨_, _, rfl, h1, h2⟩
theorem at_scrF {K : PySem.W.Frag} {F : Hp} {v : V} {ns : List Int} (h : At K cl F v (.scr ns)) : ∃ a, v = .ref a ∧ SqL K F a (ns.map V.int) := by cases h with | scr h1 => exact ⟨_, rfl, h1⟩
/-! ### what is walked -/
def itemsOf : Z.D → Option (List Z.D)
  | .lst ds => some ds
  | .tup ds => some ds
  | .scr ns => some (ns.map Z.D.int)
  | .itup ns => some (ns.map Z.D.int)
  | _ => none
def seqI (f : Fe) : Fi := fun env => (f env).bind fun p => (kp p.2 (fz p.1)).bind fun q => (itemsOf q.1).bind fun ds => some (ds, q.2)
theorem get_lt {α : Type} {l : List α} {i : Nat} {x : α} (h : l[i]? = some x) : i < l.length := (List.getElem?_eq_some_iff.mp h).1
theorem iter_lst {K : PySem.W.Frag} {F : Hp} {a : Addr} {vs : List V} {ds : List Z.D} (h : ∀ H, Le F H → SqL K H a vs) (al : AtAll K cl F vs ds) : IterOf K cl F (Itl K a) ds where
  go := fun F2 H i l1 l2 hi => by
    have hv : i < vs.length := by rw [al.length]; exact hi
    exact ⟨vs, vs[i], h H (l1.trans l2), List.getElem?_eq_getElem hv⟩
  stop := fun F2 H l1 l2 => ⟨vs, h H (l1.trans l2), by rw [al.length]; exact Nat.le_refl _⟩
  yld := fun F2 H i x H' d l1 l2 hd hy => by
    obtain ⟨rfl, hy⟩ := hy
    obtain ⟨v, h1, h2⟩ := al.get hd
    have := hy vs (h H' (l1.trans l2))
    rw [h1] at this; cases this
    exact ⟨F2, .no, h2.mono l1⟩
theorem iter_tup {K : PySem.W.Frag} {F : Hp} {a : Addr} {vs : List V} {ds : List Z.D} (h : ∀ H, Le F H → SqT K H a vs) (al : AtAll K cl F vs ds) : IterOf K cl F (Itt K a) ds where
  go := fun F2 H i l1 l2 hi => by
    have hv : i < vs.length := by rw [al.length]; exact hi
    exact ⟨vs, vs[i], h H (l1.trans l2), List.getElem?_eq_getElem hv⟩
  stop := fun F2 H l1 l2 => ⟨vs, h H (l1.trans l2), by rw [al.length]; exact Nat.le_refl _⟩
  yld := fun F2 H i x H' d l1 l2 hd hy => by
    obtain ⟨rfl, hy⟩ := hy
    obtain ⟨v, h1, h2⟩ := al.get hd
    have := hy vs (h H' (l1.trans l2))
    rw [h1] at this; cases this
    exact ⟨F2, .no, h2.mono l1⟩
theorem pi_seqZ {tg : Expr} {f : Fe} (h : PE X e (tR X.K cl f)) : PI X tg e (tI X.K cl (seqI f)) := by
  refine PI_weak (PI_or (pi_list h) (pi_tup h)) fun σ H R q => ?_
  obtain ⟨pa, F, Rr, ad, env, ds, env', S, hf, k⟩ := q
  unfold seqI at hf
  obtain ⟨⟨r1, e1⟩, h1, hf⟩ := Option.bind_eq_some_iff.mp hf
  obtain ⟨⟨d, e2⟩, h2, hf⟩ := Option.bind_eq_some_iff.mp hf
  obtain ⟨its, h3, hf⟩ := Option.bind_eq_some_iff.mp hf
  cases hf
  change itemsOf d = some _ at h3
  cases d with
  | lst ds =>
    cases h3
    refine .inl ⟨pa, F, Rr, ad, env, _, _, S, h1, fun F1 ad1 H1 x le1 S1 a1 => ?_⟩
    obtain ⟨G1, l1, T1, b1⟩ := S1.fzz a1
    obtain ⟨G2, l2, T2, b2⟩ := T1.keep b1 h2
    obtain ⟨p, vs, rfl, e3, al⟩ := at_lstF b2
    exact ⟨_, rfl, ⟨_, SqL.of (T2.fh _ _ e3)⟩, k G2 ad1 H1 _ ((le1.trans l1).trans l2) T2 (iter_lst (fun H h => SqL.of (h _ _ e3)) al)⟩
  | tup ds =>
    cases h3
    refine .inr ⟨pa, F, Rr, ad, env, _, _, S, h1, fun F1 ad1 H1 x le1 S1 a1 => ?_⟩
    obtain ⟨G1, l1, T1, b1⟩ := S1.fzz a1
    obtain ⟨G2, l2, T2, b2⟩ := T1.keep b1 h2
    obtain ⟨p, vs, rfl, e3, al⟩ := at_tupF b2
    exact ⟨_, rfl, ⟨_, SqT.of (T2.fh _ _ e3)⟩, k G2 ad1 H1 _ ((le1.trans l1).trans l2) T2 (iter_tup (fun H h => SqT.of (h _ _ e3)) al)⟩
  | itup ns =>
    cases h3
    refine .inr ⟨pa, F, Rr, ad, env, _, _, S, h1, fun F1 ad1 H1 x le1 S1 a1 => ?_⟩
    obtain ⟨G1, l1, T1, b1⟩ := S1.fzz a1
    obtain ⟨G2, l2, T2, b2⟩ := T1.keep b1 h2
    obtain ⟨p, o, rfl, e3, _⟩ := at_itup (H := H1) (show AtT X.K cl G2 H1 x (.itup ns) from b2)
    exact ⟨_, rfl, ⟨_, sq_frz (T2.fh _ _ e3)⟩, k G2 ad1 H1 _ ((le1.trans l1).trans l2) T2 (iter_tup (fun H h => sq_frz (h _ _ e3)) (AtAll.ints _))⟩
  | scr ns =>
    cases h3
    refine .inl ⟨pa, F, Rr, ad, env, _, _, S, h1, fun F1 ad1 H1 x le1 S1 a1 => ?_⟩
    obtain ⟨G1, l1, T1, b1⟩ := S1.fzz a1
    obtain ⟨G2, l2, T2, b2⟩ := T1.keep b1 h2
    obtain ⟨p, rfl, e3⟩ := at_scrF b2
    exact ⟨_, rfl, ⟨_, seq_le T2.fh e3⟩, k G2 ad1 H1 _ ((le1.trans l1).trans l2) T2 (iter_lst (fun H h => seq_le h e3) (AtAll.ints _))⟩
  | _ => cases h3
/-- lo, lo + 1, .., n of them -/
def rngD (lo : Int) (n : Nat) : List Z.D := (List.range n).map fun (i : Nat) => Z.D.int (lo + (i : Int))
theorem rngD_length (lo : Int) (n : Nat) : (rngD lo n).length = n := by unfold rngD; simp
theorem rngD_get {lo : Int} {n i : Nat} (h : i < n) : (rngD lo n)[i]? = some (.int (lo + i)) := by unfold rngD; simp [h]
theorem iter_rng {K : PySem.W.Frag} {F : Hp} (lo : Int) (n : Nat) : IterOf K cl F (Itr lo n) (rngD lo n) where
  go := fun F2 H i l1 l2 hi => by rw [rngD_length] at hi; exact hi
  stop := fun F2 H l1 l2 => by rw [rngD_length]; exact Nat.le_refl n
  yld := fun F2 H i x H' d l1 l2 hd hy => by
    obtain ⟨rfl, rfl⟩ := hy
    have hi := get_lt hd
    rw [rngD_length] at hi
    rw [rngD_get hi] at hd
    cases hd
    exact ⟨F2, .no, .int _⟩
def rngI1 (fs : Fa) : Fi := fun env => (fs env).bind fun p => (rdL p.2 p.1).bind fun ds => match ds with
  | [.int j] => if j.natAbs < 2 ^ 61 then some (rngD 0 j.toNat, p.2) else none
  | _ => none
def rngI2 (fs : Fa) : Fi := fun env => (fs env).bind fun p => (rdL p.2 p.1).bind fun ds => match ds with
  | [.int i, .int j] => if i.natAbs < 2 ^ 61 ∧ j.natAbs < 2 ^ 61 then some (rngD i (j - i).toNat, p.2) else none
  | _ => none
theorem pi_rng1 {tg a : Expr} {p : Pos} {fs : Fa} (hm : X.mg "range" = none) (ha : PA X [a] (tL X.K cl fs)) (hg : Gl X "range" := by rfl) (hs : starEach [a] X.env = [(false, eval a X.env)] := by rfl) : PI X tg (.Call (.Name "range" p) [a] [] pos) (tI X.K cl (rngI1 fs)) := by
  refine PI_weak (pi_range1 hg hm ha hs) fun σ H R q => ?_
  obtain ⟨pa, F, Rr, ad, env, ds, env', S, hf, k⟩ := q
  unfold rngI1 at hf
  obtain ⟨⟨r1, e1⟩, h1, hf⟩ := Option.bind_eq_some_iff.mp hf
  obtain ⟨xs, h2, hf⟩ := Option.bind_eq_some_iff.mp hf
  split at hf
  · split at hf
    · rename_i j hj
      cases hf
      refine ⟨pa, F, Rr, ad, env, _, _, S, h1, fun F1 ad1 H1 vs le1 S1 a1 => ?_⟩
      obtain ⟨v, rfl, t⟩ := pair1 (S1.readL a1 h2)
      rw [at_int t]
      exact ⟨j, rfl, by omega, by omega, k F1 ad1 H1 _ le1 S1 (iter_rng 0 _)⟩
    · cases hf
  · cases hf
theorem pi_rng2 {tg a b : Expr} {p : Pos} {fs : Fa} (hm : X.mg "range" = none) (ha : PA X [a, b] (tL X.K cl fs)) (hg : Gl X "range" := by rfl) (hs : starEach [a, b] X.env = [(false, eval a X.env), (false, eval b X.env)] := by rfl) (hs2 : starEach [b] X.env = [(false, eval b X.env)] := by rfl) : PI X tg (.Call (.Name "range" p) [a, b] [] pos) (tI X.K cl (rngI2 fs)) := by
  refine PI_weak (pi_range2 hg hm ha hs hs2) fun σ H R q => ?_
  obtain ⟨pa, F, Rr, ad, env, ds, env', S, hf, k⟩ := q
  unfold rngI2 at hf
  obtain ⟨⟨r1, e1⟩, h1, hf⟩ := Option.bind_eq_some_iff.mp hf
  obtain ⟨xs, h2, hf⟩ := Option.bind_eq_some_iff.mp hf
  split at hf
  · split at hf
    · rename_i i j hj
      cases hf
      refine ⟨pa, F, Rr, ad, env, _, _, S, h1, fun F1 ad1 H1 vs le1 S1 a1 => ?_⟩
      obtain ⟨v, w, rfl, t1, t2⟩ := pair2 (S1.readL a1 h2)
      rw [at_int t1, at_int t2]
      exact ⟨i, j, rfl, ⟨by omega, by omega, by omega, by omega⟩, k F1 ad1 H1 _ le1 S1 (iter_rng i _)⟩
    · cases hf
  · cases hf
/-! ### comprehensions -/
def wipeE (env : En) : List Nat → En
  | [] => env
  | v :: vs => (wipeE env vs).set v none
/-- the slots of a comprehension's own names as they were ahead of it -/
def backE (env0 env : En) : List Nat → En
  | [] => env
  | v :: vs => (backE env0 env vs).set v (match env0[v]? with
    | some (some (.dat d)) => some (.dat d)
    | _ => none)
def lcGo (b : Fb) (t : Ft) (f : Fe) (vs : List Nat) : List Z.D → List Z.D → En → Option (List Z.D × En)
  | [], acc, env => some (acc, wipeE env vs)
  | d :: ds, acc, env => (b d (wipeE env vs)).bind fun e1 => (t e1).bind fun p => if p.1 = true then (f p.2).bind fun q => (kp q.2 (fz q.1)).bind fun r => lcGo b t f vs ds (acc ++ [r.1]) r.2 else lcGo b t f vs ds acc p.2
def lcS (fi : Fi) (b : Fb) (t : Ft) (f : Fe) (vs : List Nat) : Fe := fun env => (fi env).bind fun p => if p.1.length ≤ 16777215 then (lcGo b t f vs p.1 [] p.2).bind fun q => some (.own (.lst q.1), backE p.2 q.2 vs) else none
end
section
variable {K : PySem.W.Frag} {cl : Str → Addr} {pa : Nat → Addr} {F F' R H H' : Hp} {σ : L2.St} {ad : Nat → Addr} {env env' : En}
theorem wipeE_length (env : En) : ∀ vs, (wipeE env vs).length = env.length
  | [] => rfl
  | v :: vs => by unfold wipeE; rw [List.length_set, wipeE_length env vs]
theorem wipeE_get {i : Nat} : ∀ {vs : List Nat}, i ∉ vs → (wipeE env vs)[i]? = env[i]?
  | [], _ => rfl
  | v :: vs, h => by
    unfold wipeE
    rw [List.getElem?_set_ne (fun z => h (by simp [z])), wipeE_get (fun z => h (by simp [z]))]
theorem wipeE_none {i : Nat} : ∀ {vs : List Nat}, i ∈ vs → ∀ s, (wipeE env vs)[i]? ≠ some (some s)
  | v :: vs, h, s => by
    unfold wipeE
    by_cases e : v = i
    · subst e
      rw [List.getElem?_set]
      simp only [if_true]
      split
      · intro z; cases z
      · intro z; cases z
    · rw [List.getElem?_set_ne e]
      exact wipeE_none (by simpa [Ne.symm e] using h) s
theorem wipeE_idem (vs : List Nat) (h : ∀ i, i ∈ vs → env[i]? = some none ∨ env[i]? = none) : ∀ ws, (∀ i ∈ ws, i ∈ vs) → wipeE env ws = env
  | [], _ => rfl
  | w :: ws, hw => by
    unfold wipeE
    rw [wipeE_idem vs h ws (fun i hi => hw i (by simp [hi]))]
    rcases h w (hw w (by simp)) with e | e
    · refine List.ext_getElem? fun j => ?_
      by_cases z : w = j
      · subst z; rw [e, List.getElem?_set]; simp [get_lt e]
      · rw [List.getElem?_set_ne z]
    · rw [List.set_eq_of_length_le (List.getElem?_eq_none_iff.mp e)]
theorem wipeSt_get {i : Nat} : ∀ {vs : List Nat}, i ∉ vs → (wipe σ vs)[i]? = σ[i]?
  | [], _ => rfl
  | v :: vs, h => by
    unfold wipe
    rw [List.getElem?_set_ne (fun z => h (by simp [z])), wipeSt_get (fun z => h (by simp [z]))]
/-- fewer slots -/
theorem RS.less {σ' : L2.St} {env' : En} (S : RS K cl pa F R H σ ad env) (hl : env'.length = σ'.length) (h : ∀ (i : Nat) (s : Sl), env'[i]? = some (some s) → env[i]? = some (some s) ∧ σ'[i]? = σ[i]?) : RS K cl pa F R H σ' ad env' where
  fh := S.fh
  rh := S.rh
  len := hl
  dat := fun i d e => by obtain ⟨h1, h2⟩ := h i _ e; rw [h2]; exact S.dat i d h1
  oc := fun i o e => by
    have : ∃ s, env'[i]? = some (some s) := by
      unfold ocOf at e
      split at e
      · rename_i q; exact ⟨_, q⟩
      · rename_i q; exact ⟨_, q⟩
      · cases e
    obtain ⟨s, hs⟩ := this
    obtain ⟨h1, h2⟩ := h i s hs
    rw [h2]
    exact S.oc i o (by unfold ocOf at e ⊢; rw [h1]; rw [hs] at e; exact e)
  ne := fun i j hij hi hj => by
    have aux : ∀ i, (ocOf env' i).isSome = true → (ocOf env i).isSome = true := fun i hi => by
      have : ∃ s, env'[i]? = some (some s) := by
        unfold ocOf at hi
        split at hi
        · rename_i q; exact ⟨_, q⟩
        · rename_i q; exact ⟨_, q⟩
        · cases hi
      obtain ⟨s, hs⟩ := this
      obtain ⟨h1, _⟩ := h i s hs
      unfold ocOf at hi ⊢; rw [h1]; rw [hs] at hi; exact hi
    exact S.ne i j hij (aux i hi) (aux j hj)
  par := fun i o e => S.par i o (h i _ e).1
  dj := S.dj
  slf := fun i c ns fs e => by
    obtain ⟨h1, h2⟩ := h i _ e
    obtain ⟨g1, g2⟩ := S.slf i c ns fs h1
    exact ⟨by rw [h2]; exact g1, g2⟩
theorem RS.wiped (S : RS K cl pa F R H σ ad env) (vs : List Nat) : RS K cl pa F R H (L2.wipe σ vs) ad (wipeE env vs) := by
  refine S.less (by rw [wipeE_length, wipe_length, S.len]) fun i s e => ?_
  by_cases hi : i ∈ vs
  · exact absurd e (wipeE_none hi s)
  · rw [wipeE_get hi] at e; exact ⟨e, wipeSt_get hi⟩
theorem backE_length (env0 env : En) : ∀ vs, (backE env0 env vs).length = env.length
  | [] => rfl
  | v :: vs => by unfold backE; rw [List.length_set, backE_length env0 env vs]
theorem backE_get {env0 : En} {i : Nat} : ∀ {vs : List Nat}, i ∉ vs → (backE env0 env vs)[i]? = env[i]?
  | [], _ => rfl
  | v :: vs, h => by
    unfold backE
    rw [List.getElem?_set_ne (fun z => h (by simp [z])), backE_get (fun z => h (by simp [z]))]
theorem backE_in {env0 : En} {i : Nat} {s : Sl} : ∀ {vs : List Nat}, i ∈ vs → (backE env0 env vs)[i]? = some (some s) → ∃ d, s = .dat d ∧ env0[i]? = some (some (.dat d))
  | v :: vs, h, e => by
    unfold backE at e
    by_cases z : v = i
    · subst z
      rw [List.getElem?_set] at e
      simp only [if_true] at e
      split at e
      · rename_i hv
        injection e with e
        split at e
        · rename_i d q; cases e; exact ⟨d, rfl, q⟩
        · cases e
      · cases e
    · rw [List.getElem?_set_ne z] at e
      exact backE_in (by simpa [Ne.symm z] using h) e
/-- behind a comprehension: its own names as they were -/
theorem RS.back {env0 : En} {ad0 : Nat → Addr} {F0 R0 H0 : Hp} {pa0 : Nat → Addr} {vs : List Nat} (S : RS K cl pa F R H (L2.wipe σ vs) ad env) (hw : ∀ (i : Nat), i ∈ vs → ∀ (s : Sl), env[i]? ≠ some (some s)) (S0 : RS K cl pa0 F0 R0 H0 σ ad0 env0) (le : Le F0 F) : RS K cl pa F R H σ ad (backE env0 env vs) := by
  have hoc : ∀ i o, ocOf (backE env0 env vs) i = some o → ocOf env i = some o ∧ i ∉ vs := fun i o e => by
    by_cases hi : i ∈ vs
    · unfold ocOf at e
      split at e
      · rename_i q; obtain ⟨d, z, _⟩ := backE_in hi q; cases z
      · rename_i q; obtain ⟨d, z, _⟩ := backE_in hi q; cases z
      · cases e
    · refine ⟨?_, hi⟩
      unfold ocOf at e ⊢; rw [backE_get hi] at e; exact e
  refine ⟨S.fh, S.rh, by rw [backE_length, S.len, wipe_length], fun i d e => ?_, fun i o e => ?_, fun i j hij hi hj => ?_, fun i o e => ?_, S.dj, fun i c ns fs e => ?_⟩
  · by_cases hi : i ∈ vs
    · obtain ⟨d', z, q⟩ := backE_in hi e
      cases z
      obtain ⟨v, h1, h2⟩ := S0.dat i d q
      exact ⟨v, h1, h2.mono le⟩
    · rw [backE_get hi] at e
      rw [← wipeSt_get hi]
      exact S.dat i d e
  · obtain ⟨h1, hi⟩ := hoc i o e
    rw [← wipeSt_get hi]
    exact S.oc i o h1
  · have aux : ∀ i, (ocOf (backE env0 env vs) i).isSome = true → (ocOf env i).isSome = true := fun i hi => by
      cases e : ocOf (backE env0 env vs) i with
      | none => rw [e] at hi; cases hi
      | some o => rw [(hoc i o e).1]; rfl
    exact S.ne i j hij (aux i hi) (aux j hj)
  · by_cases hi : i ∈ vs
    · obtain ⟨d, z, _⟩ := backE_in hi e; cases z
    · rw [backE_get hi] at e; exact S.par i o e
  · by_cases hi : i ∈ vs
    · obtain ⟨d, z, _⟩ := backE_in hi e; cases z
    · rw [backE_get hi] at e
      obtain ⟨g1, g2⟩ := S.slf i c ns fs e
      exact ⟨by rw [← wipeSt_get hi]; exact g1, g2⟩
/-- another's object aside -/
theorem RS.aside {p : Addr} {o : HO} (S : RS K cl pa F R H σ ad env) (hF : F p = none) (hR : R p = none) (hH : H p = some o) (hn : ∀ j, (ocOf env j).isSome = true → ad j ≠ p) : RS K cl pa F (upd R p o) H σ ad env := by
  refine ⟨S.fh, S.rh.into hH, S.len, S.dat, fun i u e => ?_, S.ne, S.par, fun b u e => ?_, fun i c ns fs e => (S.slf i c ns fs e).mono (Le.refl _) (Le.put hR)⟩
  · obtain ⟨h1, h2, h3, h4⟩ := S.oc i u e
    exact ⟨h1, h2, by rw [upd_ne (hn i (by rw [e]; rfl))]; exact h3, h4⟩
  · unfold upd at e
    split at e
    · rename_i hb; rw [hb]; exact hF
    · exact S.dj b u e
/-- and changed -/
theorem RS.asideUp {p : Addr} {xs : List V} {o' : HO} (S : RS K cl pa F (upd R p (.lst xs)) H σ ad env) (hR : R p = none) : F p = none ∧ H p = some (.lst xs) ∧ (∀ j, (ocOf env j).isSome = true → ad j ≠ p) ∧ RS K cl pa F R (upd H p o') σ ad env := by
  have hF : F p = none := S.dj p _ upd_same
  have hn : ∀ j, (ocOf env j).isSome = true → ad j ≠ p := fun j hj z => by
    cases e : ocOf env j with
    | none => rw [e] at hj; cases hj
    | some u =>
      obtain ⟨_, _, h3, _⟩ := S.oc j u e
      rw [z, upd_same] at h3; cases h3
  refine ⟨hF, S.rh p _ upd_same, hn, ⟨fun b u e => ?_, fun b u e => ?_, S.len, S.dat, fun i u e => ?_, S.ne, S.par, fun b u e => ?_, fun i c ns fs e => ?_⟩⟩
  · rw [upd_ne (fun z => by subst z; rw [hF] at e; cases e)]; exact S.fh b u e
  · rw [upd_ne (fun z => by subst z; rw [hR] at e; cases e)]; exact S.rh b u (by rw [upd_ne (fun z => by subst z; rw [hR] at e; cases e)]; exact e)
  · obtain ⟨h1, h2, h3, h4⟩ := S.oc i u e
    have hne := hn i (by rw [e]; rfl)
    refine ⟨h1, h2, by rw [upd_ne hne] at h3; exact h3, h4.mono (Le.refl _) (by rw [upd_ne hne])⟩
  · exact S.dj b u (by rw [upd_ne (fun z => by subst z; rw [hR] at e; cases e)]; exact e)
  · obtain ⟨h1, dx, vs, h2, h3⟩ := S.slf i c ns fs e
    refine ⟨h1, dx, vs, ?_, h3⟩
    rw [upd_ne (fun z => by rw [z, upd_same] at h2; cases h2)] at h2
    exact h2
end
end Z

set_option Elab.async false
set_option linter.all false
set_option maxRecDepth 100000
set_option maxHeartbeats 1000000
namespace Z
open PySem PySem.Spec PyProof.Rows L2
section
variable {K : PySem.W.Frag} {cl : Str → Addr} {pa : Nat → Addr} {F F' R H H' : Hp} {σ : L2.St} {ad : Nat → Addr} {env env' : En}
theorem upd_self {H : Hp} {p : Addr} {o : HO} (h : H p = some o) : upd H p o = H := by
  funext b
  unfold upd
  split
  · rename_i e; rw [e, h]
  · rfl
theorem oc_wipe {vs : List Nat} {j : Nat} (h : (ocOf (wipeE env vs) j).isSome = true) : (ocOf env j).isSome = true := by
  by_cases hj : j ∈ vs
  · exfalso
    unfold ocOf at h
    split at h
    · rename_i q; exact wipeE_none hj _ q
    · rename_i q; exact wipeE_none hj _ q
    · cases h
  · unfold ocOf at h ⊢; rw [wipeE_get hj] at h; exact h
theorem oc_back {env0 : En} {vs : List Nat} {j : Nat} (h : (ocOf (backE env0 env vs) j).isSome = true) : (ocOf env j).isSome = true := by
  by_cases hj : j ∈ vs
  · exfalso
    unfold ocOf at h
    split at h
    · rename_i q; obtain ⟨d, z, _⟩ := backE_in hj q; cases z
    · rename_i q; obtain ⟨d, z, _⟩ := backE_in hj q; cases z
    · cases h
  · unfold ocOf at h ⊢; rw [backE_get hj] at h; exact h
theorem drop_get {α : Type} {l : List α} {i : Nat} {x : α} (h : l[i]? = some x) : l.drop i = x :: l.drop (i + 1) := by
  obtain ⟨hi, e⟩ := List.getElem?_eq_some_iff.mp h
  rw [List.drop_eq_getElem_cons hi, e]
end
section
variable {X : Cx} {cl : Str → Addr} {pos : Pos}
/-- the word of a comprehension's loop -/
def LcW (K : PySem.W.Frag) (cl : Str → Addr) (pa : Nat → Addr) (F1 R : Hp) (σ : L2.St) (Dl : Addr) (b : Fb) (t : Ft) (f : Fe) (vs : List Nat) (ds : List Z.D) (res : List Z.D × En) (i m : Nat) (Hc : Hp) : Prop :=
  m + i = ds.length ∧ R Dl = none ∧ ∃ F2 ad2 env2 vacc dacc, Le F1 F2 ∧ RS K cl pa F2 R Hc (wipe σ vs) ad2 (wipeE env2 vs) ∧ F2 Dl = none ∧ Hc Dl = some (.lst vacc) ∧ AtAll K cl F2 vacc dacc ∧
    (∀ j, (ocOf (wipeE env2 vs) j).isSome = true → ad2 j ≠ Dl) ∧ dacc.length ≤ i ∧ lcGo b t f vs (ds.drop i) dacc env2 = some res
theorem lc_red {fi : Fi} {b : Fb} {t : Ft} {f : Fe} {vs : List Nat} : ∀ σ H Q, tR X.K cl (lcS fi b t f vs) σ H Q → tLc (tI X.K cl fi) (tG X.K cl vs b) (tT X.K cl t) (tR X.K cl f) vs σ H Q := by
  intro σ H Q q
  obtain ⟨pa, F, R, ad, env, rv, env', S, hf, k⟩ := q
  unfold lcS at hf
  obtain ⟨⟨ds, e1⟩, h1, hf⟩ := Option.bind_eq_some_iff.mp hf
  dsimp only at hf
  split at hf
  · rename_i hlen
    obtain ⟨res, h2, hf⟩ := Option.bind_eq_some_iff.mp hf
    cases hf
    refine ⟨pa, F, R, ad, env, _, _, S, h1, fun F1 ad1 H1 J le1 S1 it => fun Dl hD => ?_⟩
    refine ⟨LcW X.K cl pa F1 R σ Dl b t f vs ds res, ⟨ds.length, rfl, S1.rh.fresh hD, F1, ad1, e1, [], [], Le.refl _, (S1.newAt hD).wiped vs, S1.fh.fresh hD, upd_same, .nil, fun j hj z => ?_, Nat.le_refl _, h2⟩, fun i m Hc w => ?_⟩
    · have hj' := oc_wipe hj
      cases e : ocOf e1 j with
      | none => rw [e] at hj'; cases hj'
      | some u =>
        obtain ⟨_, _, _, q4⟩ := S1.oc j u e
        obtain ⟨ob, hb⟩ := q4.has
        rw [z, hD] at hb; cases hb
    · obtain ⟨hm, hR, F2, ad2, env2, vacc, dacc, le2, S2, hF2, hDl, al, hne, hlen2, hgo⟩ := w
      by_cases hi' : i < ds.length
      · -- a turn
        right
        obtain ⟨d, hd⟩ : ∃ d, ds[i]? = some d := ⟨_, List.getElem?_eq_getElem hi'⟩
        rw [drop_get hd] at hgo
        unfold lcGo at hgo
        obtain ⟨e3, hb, hgo⟩ := Option.bind_eq_some_iff.mp hgo
        obtain ⟨⟨bb, e4⟩, htt, hgo⟩ := Option.bind_eq_some_iff.mp hgo
        refine ⟨it.go F2 Hc i le2 S2.fh hi', LcW X.K cl pa F1 R σ Dl b t f vs ds res (i + 1) (m - 1), fun H' w' => ⟨m - 1, by omega, w'⟩, fun x H' hy => ?_⟩
        obtain ⟨F3, g, ax⟩ := it.yld F2 Hc i x H' d le2 S2.fh hd hy
        have S2' := S2.aside hF2 hR hDl hne
        have S3 := S2'.grow g
        refine ⟨pa, F3, _, ad2, _, d, e3, S3, ax, hb, fun F4 ad4 σ4 H4 le4 S4 hw => ⟨by rw [hw, wipe_wipe], ?_⟩⟩
        have hw4 : wipe σ4 vs = wipe σ vs := by rw [hw, wipe_wipe]
        refine ⟨pa, F4, _, ad4, e3, bb, e4, S4, htt, fun F5 ad5 H5 le5 S5 => ?_⟩
        have le25 : Le F2 F5 := ((g.le S2.fh).trans le4).trans le5
        cases bb with
        | true =>
          rw [if_pos rfl] at hgo
          refine iteT ?_
          obtain ⟨⟨rr, e5⟩, hff, hgo⟩ := Option.bind_eq_some_iff.mp hgo
          obtain ⟨⟨dd, e6⟩, hk, hgo⟩ := Option.bind_eq_some_iff.mp hgo
          refine ⟨pa, F5, _, ad5, e4, rr, e5, S5, hff, fun F6 ad6 H6 y le6 S6 a6 => ?_⟩
          obtain ⟨F7, l7, S7, b7⟩ := S6.fzz a6
          obtain ⟨F8, l8, S8, b8⟩ := S7.keep b7 hk
          obtain ⟨z1, z2, z3, z4⟩ := S8.asideUp (o' := .lst (vacc ++ [y])) hR
          have le28 : Le F2 F8 := ((le25.trans le6).trans l7).trans l8
          have hlv := al.length
          refine ⟨vacc, z2, by rw [sizeLine_eq]; omega, by omega, hR, F8, ad6, e6, vacc ++ [y], dacc ++ [dd], le2.trans le28, ?_, z1, upd_same, (al.mono le28).append (.cons b8 .nil), fun j hj => z3 j (oc_wipe hj), by simp; omega, hgo⟩
          have := z4.wiped vs
          rw [hw4] at this
          exact this
        | false =>
          rw [if_neg Bool.false_ne_true] at hgo
          refine iteF ?_
          obtain ⟨z1, z2, z3, z4⟩ := S5.asideUp (o' := .lst vacc) hR
          rw [upd_self z2] at z4
          refine ⟨by omega, hR, F5, ad5, e4, vacc, dacc, le2.trans le25, ?_, z1, z2, al.mono le25, fun j hj => z3 j (oc_wipe hj), by omega, hgo⟩
          have := z4.wiped vs
          rw [hw4] at this
          exact this
      · left
        have hie : i = ds.length := by omega
        subst hie
        rw [List.drop_length] at hgo
        cases hgo
        refine ⟨it.stop F2 Hc le2 S2.fh, ?_⟩
        have SB : RS X.K cl pa F2 R Hc σ ad2 (backE e1 (wipeE env2 vs) vs) := S2.back (fun i hi s => wipeE_none hi s) S1 le2
        exact k F2 ad2 Hc (.ref Dl) (le1.trans le2) SB ⟨Dl, rfl, hF2, hR, ⟨vacc, hDl, al⟩, fun j hj => hne j (oc_back hj)⟩
  · cases hf
theorem pr_lc {elt tg iter : Expr} {ifs : List Expr} {scope : Scope} {own : List (Str × Nat)} {fi : Fi} {b : Fb} {t : Ft} {f : Fe} (hc : X.calm = true) (hN : X.N.Nodup) (hi : PI X tg iter (tI X.K cl fi)) (ok : BlkOk X.N X.env.scope scope own)
    (hg : ∀ (s : Shared) (H : Hp) (C : Addr) (cs : List (Str × Addr)) (fp : List Addr), PG (X.blk s H scope (compEnvC scope cs C X.env) fp) tg (tG X.K cl (own.map (·.2)) b))
    (ht : ∀ (s : Shared) (H : Hp) (C : Addr) (cs : List (Str × Addr)) (fp : List Addr), PTs (X.blk s H scope (compEnvC scope cs C X.env) fp) ifs (tT X.K cl t))
    (he : ∀ (s : Shared) (H : Hp) (C : Addr) (cs : List (Str × Addr)) (fp : List Addr), PE (X.blk s H scope (compEnvC scope cs C X.env) fp) elt (tR X.K cl f))
    (hs : ∀ x, foldedSetIterable iter X.env x = pure x := by intro _; rfl) :
    PE X (.ListComp elt [⟨tg, iter, ifs, 0⟩] scope pos) (tR X.K cl (lcS fi b t f (own.map (·.2)))) := by
  exact PE_weak (pe_lc hc hN hi ok hg ht he hs) lc_red
def yesT : Ft := fun env => some (true, env)
theorem pts_nilZ : PTs X [] (tT X.K cl yesT) := ⟨fun pins s σ H Q I q => by
  obtain ⟨pa, F, R, ad, env, b, env', S, hf, k⟩ := q
  cases hf
  exact pts_nil.run pins s σ H Q I (k F ad H (Le.refl _) S)⟩
theorem pts_oneZ {c : Expr} {t : Ft} (h : PT X c (tT X.K cl t)) : PTs X [c] (tT X.K cl t) := pts_one h
end
end Z

set_option Elab.async false
set_option linter.all false
set_option maxRecDepth 100000
set_option maxHeartbeats 1000000
/-! Statements. -/
namespace Z
open PySem PySem.Spec PyProof.Rows L2
inductive Out where
  | nx (e : En)
  | bk (e : En)
  | ct (e : En)
  | rt (r : Rv) (e : En)
abbrev Fs := En → Option Out
section
variable (K : PySem.W.Frag) (cl : Str → Addr)
def OutK (pa : Nat → Addr) (F R : Hp) (E : Ends) : Out → Prop
  | .nx e => ∀ F' ad' σ' H', Le F F' → RS K cl pa F' R H' σ' ad' e → E.nx σ' H'
  | .bk e => ∀ F' ad' σ' H', Le F F' → RS K cl pa F' R H' σ' ad' e → E.bk σ' H'
  | .ct e => ∀ F' ad' σ' H', Le F F' → RS K cl pa F' R H' σ' ad' e → E.ct σ' H'
  | .rt r e => ∀ F' ad' σ' H' v, Le F F' → RS K cl pa F' R H' σ' ad' e → RvAt K cl F' R H' σ' ad' e v r → E.rt v H'
def tS (f : Fs) : TS := fun E σ H => ∃ pa F R ad env out, RS K cl pa F R H σ ad env ∧ f env = some out ∧ OutK K cl pa F R E out
end
section
variable {K : PySem.W.Frag} {cl : Str → Addr} {pa : Nat → Addr} {F F' R H H' : Hp} {E : Ends}
theorem OutK.mono {o : Out} (le : Le F F') (h : OutK K cl pa F R E o) : OutK K cl pa F' R E o := by
  cases o with
  | nx e => exact fun F1 ad σ' H1 l => h F1 ad σ' H1 (le.trans l)
  | bk e => exact fun F1 ad σ' H1 l => h F1 ad σ' H1 (le.trans l)
  | ct e => exact fun F1 ad σ' H1 l => h F1 ad σ' H1 (le.trans l)
  | rt r e => exact fun F1 ad σ' H1 v l => h F1 ad σ' H1 v (le.trans l)
end
section
variable {X : Cx} {cl : Str → Addr} {e : Expr} {pos : Pos} {st : Stmt} {rest : List Stmt}
def doneS : Fs := fun env => some (.nx env)
def seqS (f g : Fs) : Fs := fun env => (f env).bind fun o => match o with
  | .nx e => g e
  | .bk e => some (.bk e)
  | .ct e => some (.ct e)
  | .rt r e => some (.rt r e)
theorem qss_nil : PSs X [] (tS X.K cl doneS) := by
  refine PSs_weak pss_nil fun E σ H q => ?_
  obtain ⟨pa, F, R, ad, env, out, S, hf, k⟩ := q
  cases hf
  exact k F ad σ H (Le.refl _) S
theorem qss_one {f : Fs} (h : PS X st (tS X.K cl f)) : PSs X [st] (tS X.K cl f) := pss_one h
theorem qss_cons {f g : Fs} (h : PS X st (tS X.K cl f)) (h2 : PSs X rest (tS X.K cl g)) : PSs X (st :: rest) (tS X.K cl (seqS f g)) := by
  refine PSs_weak (pss_cons h h2) fun E σ H q => ?_
  obtain ⟨pa, F, R, ad, env, out, S, hf, k⟩ := q
  unfold seqS at hf
  obtain ⟨o, h1, hf⟩ := Option.bind_eq_some_iff.mp hf
  refine ⟨pa, F, R, ad, env, o, S, h1, ?_⟩
  cases o with
  | nx e1 => exact fun F1 ad1 σ1 H1 l S1 => ⟨pa, F1, R, ad1, e1, out, S1, hf, k.mono l⟩
  | bk e1 => cases hf; exact k
  | ct e1 => cases hf; exact k
  | rt r e1 => cases hf; exact k
theorem qs_pass : PS X (.Pass pos) (tS X.K cl doneS) := by
  refine PS_weak ps_pass fun E σ H q => ?_
  obtain ⟨pa, F, R, ad, env, out, S, hf, k⟩ := q
  cases hf
  exact k F ad σ H (Le.refl _) S
def brkS : Fs := fun env => some (.bk env)
def cntS : Fs := fun env => some (.ct env)
theorem qs_break : PS X (.Break pos) (tS X.K cl brkS) := by
  refine PS_weak ps_break fun E σ H q => ?_
  obtain ⟨pa, F, R, ad, env, out, S, hf, k⟩ := q
  cases hf
  exact k F ad σ H (Le.refl _) S
theorem qs_cont : PS X (.Continue pos) (tS X.K cl cntS) := by
  refine PS_weak ps_continue fun E σ H q => ?_
  obtain ⟨pa, F, R, ad, env, out, S, hf, k⟩ := q
  cases hf
  exact k F ad σ H (Le.refl _) S
def noS : Fs := fun _ => none
/-- what is never come to -/
theorem qs_no : PS X st (tS X.K cl noS) := ⟨fun pins s σ H E I q => by
  obtain ⟨pa, F, R, ad, env, out, S, hf, k⟩ := q
  cases hf⟩
def noR : Fe := fun _ => none
theorem pr_no : PE X e (tR X.K cl noR) := ⟨fun pins s σ H Q I q => by
  obtain ⟨pa, F, R, ad, env, rv, env', S, hf, k⟩ := q
  cases hf⟩
def retS (f : Fe) : Fs := fun env => (f env).bind fun p => some (.rt p.1 p.2)
theorem qs_ret {f : Fe} (h : PE X e (tR X.K cl f)) : PS X (.Return (some e) pos) (tS X.K cl (retS f)) := by
  refine PS_weak (ps_ret h) fun E σ H q => ?_
  obtain ⟨pa, F, R, ad, env, out, S, hf, k⟩ := q
  unfold retS at hf
  obtain ⟨⟨r1, e1⟩, h1, hf⟩ := Option.bind_eq_some_iff.mp hf
  cases hf
  exact ⟨pa, F, R, ad, env, r1, e1, S, h1, fun F1 ad1 H1 v l S1 a1 => k F1 ad1 σ H1 v l S1 a1⟩
def retN : Fs := fun env => some (.rt (.dat .non) env)
theorem qs_retN : PS X (.Return none pos) (tS X.K cl retN) := by
  refine PS_weak ps_retN fun E σ H q => ?_
  obtain ⟨pa, F, R, ad, env, out, S, hf, k⟩ := q
  cases hf
  exact k F ad σ H .non (Le.refl _) S .non
def iffS (c : Ft) (f g : Fs) : Fs := fun env => (c env).bind fun p => if p.1 = true then f p.2 else g p.2
theorem qs_if {c : Expr} {a b : List Stmt} {t : Ft} {f g : Fs} (hc : PT X c (tT X.K cl t)) (ha : PSs X a (tS X.K cl f)) (hb : PSs X b (tS X.K cl g)) : PS X (.If c a b pos) (tS X.K cl (iffS t f g)) := by
  refine PS_weak (ps_if hc ha hb) fun E σ H q => ?_
  obtain ⟨pa, F, R, ad, env, out, S, hf, k⟩ := q
  unfold iffS at hf
  obtain ⟨⟨b, e1⟩, h1, hf⟩ := Option.bind_eq_some_iff.mp hf
  refine ⟨pa, F, R, ad, env, b, e1, S, h1, fun F1 ad1 H1 l S1 => ?_⟩
  cases b with
  | true => exact ⟨pa, F1, R, ad1, e1, out, S1, hf, k.mono l⟩
  | false => exact ⟨pa, F1, R, ad1, e1, out, S1, hf, k.mono l⟩
/-- an expression whose value is dropped -/
def dropS (f : Fe) : Fs := fun env => (f env).bind fun p => some (.nx p.2)
theorem qs_expr {f : Fe} (h : PE X e (tR X.K cl f)) (hs : swapsWith e none pos.line X.env = pure false := by rfl) : PS X (.Expr e pos) (tS X.K cl (dropS f)) := by
  refine PS_weak (ps_expr h hs) fun E σ H q => ?_
  obtain ⟨pa, F, R, ad, env, out, S, hf, k⟩ := q
  unfold dropS at hf
  obtain ⟨⟨r1, e1⟩, h1, hf⟩ := Option.bind_eq_some_iff.mp hf
  cases hf
  exact ⟨pa, F, R, ad, env, r1, e1, S, h1, fun F1 ad1 H1 v l S1 a1 => k F1 ad1 σ H1 l S1⟩
/-! ### assignments -/
def setE (i : Nat) (p : Rv × En) : Option En := match p.1 with
  | .own o => if i < p.2.length then some (p.2.set i (some (.own o))) else none
  | .dat d => nmB i d p.2
  | .slot j => (kp p.2 (.slot j)).bind fun q => nmB i q.1 q.2
def asgS (i : Nat) (f : Fe) : Fs := fun env => (f env).bind fun p => (setE i p).bind fun e => some (.nx e)
theorem kpS_len {env e : En} {j : Nat} {d : Z.D} (h : kpS env j = some (d, e)) : e.length = env.length := by
  unfold kpS at h
  split at h
  · cases h; rfl
  · cases h; rw [List.length_set]
  · cases h
theorem setE_ok {pa : Nat → Addr} {F R H : Hp} {σ : L2.St} {ad : Nat → Addr} {env e' : En} {v : V} {r : Rv} {i : Nat} (S : RS X.K cl pa F R H σ ad env) (a : RvAt X.K cl F R H σ ad env v r) (h : setE i (r, env) = some e') :
    ∃ F' ad', Le F F' ∧ RS X.K cl pa F' R H (σ.set i (some v)) ad' e' := by
  unfold setE at h
  cases r with
  | own o =>
    dsimp only at h
    split at h
    · rename_i hl
      cases h
      obtain ⟨p, rfl, h1, h2, h3, h4⟩ := a
      exact ⟨F, _, Le.refl _, S.setOwn hl h1 h2 h3 h4⟩
    · cases h
  | dat d =>
    dsimp only [nmB] at h
    split at h
    · rename_i hl; cases h; exact ⟨F, ad, Le.refl _, S.setDat hl a⟩
    · cases h
  | slot j =>
    dsimp only at h
    obtain ⟨⟨d, e1⟩, h1, h⟩ := Option.bind_eq_some_iff.mp h
    obtain ⟨F1, l1, S1, a1⟩ := S.keep (r := .slot j) a h1
    dsimp only [nmB] at h
    split at h
    · rename_i hl; cases h; exact ⟨F1, ad, l1, S1.setDat hl a1⟩
    · cases h
theorem asg_red {i : Nat} {f : Fe} {te : TE} (w : ∀ σ H Q, tR X.K cl f σ H Q → te σ H Q) : ∀ E σ H, tS X.K cl (asgS i f) E σ H → tAsg te (gName i) E σ H := by
  intro E σ H q
  obtain ⟨pa, F, R, ad, env, out, S, hf, k⟩ := q
  unfold asgS at hf
  obtain ⟨⟨r1, e1⟩, h1, hf⟩ := Option.bind_eq_some_iff.mp hf
  obtain ⟨e2, h2, hf⟩ := Option.bind_eq_some_iff.mp hf
  cases hf
  refine w σ H _ ⟨pa, F, R, ad, env, r1, e1, S, h1, fun F1 ad1 H1 v l S1 a1 => ?_⟩
  obtain ⟨F2, ad2, l2, S2⟩ := setE_ok S1 a1 h2
  exact k F2 ad2 _ H1 (l.trans l2) S2
theorem qs_set (i : Nat) {x : Str} {f : Fe} {pos' : Pos} (hN : X.N.Nodup) (he : PE X e (tR X.K cl f)) (hi : X.N[i]? = some x := by rfl) (hx : Loc X.env.scope x := by first | exact Or.inl rfl | exact Or.inr rfl)
    (hs : swapsWith e (some (.Name x pos')) pos.line X.env = pure false := by rfl) (hf : X.fn x = true ∨ X.env.scope.names.lookup x = some .local := by first | exact .inl rfl | exact .inr rfl) :
    PS X (.Assign [.Name x pos'] e pos) (tS X.K cl (asgS i f)) := PS_weak (ps_set hN hi hx he hs hf) (asg_red fun _ _ _ q => q)
theorem qs_setLc (i : Nat) {y : Str} {py : Pos} {elt tg iter : Expr} {ifs : List Expr} {scope : Scope} {own : List (Str × Nat)} {spos : Pos} {fi : Fi} {b : Fb} {t : Ft} {f : Fe} (hc : X.calm = true) (hN : X.N.Nodup)
    (hi : PI X tg iter (tI X.K cl fi)) (ok : BlkOk X.N X.env.scope scope own)
    (hg : ∀ (s : Shared) (H : Hp) (C : Addr) (cs : List (Str × Addr)) (fp : List Addr), PG (X.blk s H scope (compEnvC scope cs C X.env) fp) tg (tG X.K cl (own.map (·.2)) b))
    (ht : ∀ (s : Shared) (H : Hp) (C : Addr) (cs : List (Str × Addr)) (fp : List Addr), PTs (X.blk s H scope (compEnvC scope cs C X.env) fp) ifs (tT X.K cl t))
    (he : ∀ (s : Shared) (H : Hp) (C : Addr) (cs : List (Str × Addr)) (fp : List Addr), PE (X.blk s H scope (compEnvC scope cs C X.env) fp) elt (tR X.K cl f))
    (hsw : swapsWith (.ListComp elt [⟨tg, iter, ifs, 0⟩] scope pos) (some (.Name y py)) spos.line X.env = pure true)
    (hy : X.N[i]? = some y := by rfl) (hl : X.env.scope.names.lookup y = some .local := by rfl) (hs : ∀ x, foldedSetIterable iter X.env x = pure x := by intro _; rfl) :
    PS X (.Assign [.Name y py] (.ListComp elt [⟨tg, iter, ifs, 0⟩] scope pos) spos) (tS X.K cl (asgS i (lcS fi b t f (own.map (·.2))))) :=
  PS_weak (ps_setLc hc hN hy hl hsw hi ok hg ht he hs) (asg_red lc_red)
/-- a, b = e -/
def asgT (b : Fb) (f : Fe) : Fs := fun env => (f env).bind fun p => (kp p.2 (fz p.1)).bind fun q => (b q.1 q.2).bind fun e => some (.nx e)
theorem qs_asg {tg : Expr} {ws : List Nat} {b : Fb} {f : Fe} (he : PE X e (tR X.K cl f)) (hg : PG X tg (tG X.K cl ws b)) (hs : swapsWithSole [tg] e pos.line X.env = pure false := by rfl) (hw : swappedStores [tg] e X.env = pure none := by rfl)
    (h1 : (assignEach [tg] X.env).map (·.2) = [assign tg X.env] := by rfl) : PS X (.Assign [tg] e pos) (tS X.K cl (asgT b f)) := by
  refine PS_weak (ps_asg he hg hs hw h1) fun E σ H q => ?_
  obtain ⟨pa, F, R, ad, env, out, S, hf, k⟩ := q
  unfold asgT at hf
  obtain ⟨⟨r1, e1⟩, h1, hf⟩ := Option.bind_eq_some_iff.mp hf
  obtain ⟨⟨d, e2⟩, h2, hf⟩ := Option.bind_eq_some_iff.mp hf
  obtain ⟨e3, h3, hf⟩ := Option.bind_eq_some_iff.mp hf
  cases hf
  refine ⟨pa, F, R, ad, env, r1, e1, S, h1, fun F1 ad1 H1 v l S1 a1 => ?_⟩
  obtain ⟨F2, l2, S2, a2⟩ := S1.fzz a1
  obtain ⟨F3, l3, S3, a3⟩ := S2.keep a2 h2
  exact ⟨pa, F3, R, ad1, e2, d, e3, S3, a3, h3, fun F4 ad4 σ4 H4 l4 S4 _ => k F4 ad4 σ4 H4 (((l.trans l2).trans l3).trans l4) S4⟩
/-- a, b = x, y (plain names): stored from the right -/
def parS (i j : Nat) (fs : Fa) : Fs := fun env => (fs env).bind fun p => (kpL p.2 p.1).bind fun q => match q.1 with
  | [d, e] => (nmB i d q.2).bind fun e1 => (nmB j e e1).bind fun e2 => some (.nx e2)
  | _ => none
theorem qs_par (i j : Nat) {x y : Str} {a b : Expr} {fs : Fa} {px py pt : Pos} {kt k2 pt2} (hc : X.calm = true) (hN : X.N.Nodup) (ha : PA X [a, b] (tL X.K cl fs)) (hi : X.N[i]? = some x := by rfl) (hj : X.N[j]? = some y := by rfl) (hij : i ≠ j := by decide)
    (hx : X.env.scope.names.lookup x = some .local := by rfl) (hy : X.env.scope.names.lookup y = some .local := by rfl)
    (hw : swappedStores [.Tuple [.Name x px, .Name y py] kt pt] (.Tuple [a, b] k2 pt2) X.env = pure (some [x, y]) := by rfl)
    (hs : swapsWithSole [.Tuple [.Name x px, .Name y py] kt pt] (.Tuple [a, b] k2 pt2) pos.line X.env = pure false := by rfl) :
    PS X (.Assign [.Tuple [.Name x px, .Name y py] kt pt] (.Tuple [a, b] k2 pt2) pos) (tS X.K cl (parS i j fs)) := by
  refine PS_weak (ps_par hc hN hi hj hij hx hy ha hw hs) fun E σ H q => ?_
  obtain ⟨pa, F, R, ad, env, out, S, hf, k⟩ := q
  unfold parS at hf
  obtain ⟨⟨rs, e1⟩, h1, hf⟩ := Option.bind_eq_some_iff.mp hf
  obtain ⟨⟨ds, e2⟩, h2, hf⟩ := Option.bind_eq_some_iff.mp hf
  dsimp only at hf
  split at hf
  · rename_i d e
    obtain ⟨e3, h3, hf⟩ := Option.bind_eq_some_iff.mp hf
    obtain ⟨e4, h4, hf⟩ := Option.bind_eq_some_iff.mp hf
    cases hf
    refine ⟨pa, F, R, ad, env, rs, e1, S, h1, fun F1 ad1 H1 vs l S1 a1 => ?_⟩
    obtain ⟨F2, l2, S2, a2⟩ := S1.keepL a1 h2
    cases a2 with
    | cons b1 b2 =>
      cases b2 with
      | cons b3 b4 =>
        cases b4
        unfold nmB at h3 h4
        split at h3
        · rename_i hl3; cases h3
          split at h4
          · rename_i hl4; cases h4
            exact ⟨_, _, rfl, k F2 ad1 _ H1 (l.trans l2) ((S2.setDat hl3 b1).setDat hl4 b3)⟩
          · cases h4
        · cases h3
  · cases hf
/-! ### loops -/
def forS (b : Fb) (f : Fs) : List Z.D → En → Option Out
  | [], env => some (.nx env)
  | d :: ds, env => (b d env).bind fun e1 => (f e1).bind fun o => match o with
    | .nx e => forS b f ds e
    | .ct e => forS b f ds e
    | .bk e => some (.nx e)
    | .rt r e => some (.rt r e)
def loopS (fi : Fi) (b : Fb) (f : Fs) : Fs := fun env => (fi env).bind fun p => forS b f p.1 p.2
theorem qs_for {tg iter : Expr} {body : List Stmt} {ws : List Nat} {fi : Fi} {b : Fb} {f : Fs} (hp : PassesOwn (model X.prog X.w) X.A X.env X.xe) (hc : X.calm = true) (hi : PI X tg iter (tI X.K cl fi)) (hg : PG X tg (tG X.K cl ws b)) (hb : PSs X body (tS X.K cl f))
    (hs : ∀ x, foldedSetIterable iter X.env x = pure x := by intro _; rfl) : PS X (.For tg iter body [] pos) (tS X.K cl (loopS fi b f)) := by
  refine PS_weak (ps_for hp hc hi hg hb hs) fun E σ H q => ?_
  obtain ⟨pa, F, R, ad, env, out, S, hf, k⟩ := q
  unfold loopS at hf
  obtain ⟨⟨ds, e1⟩, h1, hf⟩ := Option.bind_eq_some_iff.mp hf
  refine ⟨pa, F, R, ad, env, ds, e1, S, h1, fun F1 ad1 H1 J le1 S1 it => ?_⟩
  refine ⟨fun i m σ H => m + i = ds.length ∧ ∃ F2 ad2 e2, Le F1 F2 ∧ RS X.K cl pa F2 R H σ ad2 e2 ∧ forS b f (ds.drop i) e2 = some out, ⟨ds.length, rfl, F1, ad1, e1, Le.refl _, S1, hf⟩, fun i m σ2 H2 w => ?_⟩
  obtain ⟨hm, F2, ad2, e2, le2, S2, hgo⟩ := w
  by_cases hi' : i < ds.length
  · right
    obtain ⟨d, hd⟩ : ∃ d, ds[i]? = some d := ⟨_, List.getElem?_eq_getElem hi'⟩
    rw [drop_get hd] at hgo
    unfold forS at hgo
    obtain ⟨e3, hb3, hgo⟩ := Option.bind_eq_some_iff.mp hgo
    obtain ⟨o, ho, hgo⟩ := Option.bind_eq_some_iff.mp hgo
    refine ⟨it.go F2 H2 i le2 S2.fh hi', fun σ' H' => (m - 1) + (i + 1) = ds.length ∧ ∃ F2 ad2 e2, Le F1 F2 ∧ RS X.K cl pa F2 R H' σ' ad2 e2 ∧ forS b f (ds.drop (i + 1)) e2 = some out, fun σ' H' w' => ⟨m - 1, by omega, w'⟩, fun x H' hy => ?_⟩
    obtain ⟨F3, g, ax⟩ := it.yld F2 H2 i x H' d le2 S2.fh hd hy
    have l23 := g.le S2.fh
    refine ⟨pa, F3, R, ad2, e2, d, e3, S2.grow g, ax, hb3, fun F4 ad4 σ4 H4 l4 S4 _ => ⟨pa, F4, R, ad4, e3, o, S4, ho, ?_⟩⟩
    have l14 : Le F1 F4 := (le2.trans l23).trans l4
    cases o with
    | nx e => exact fun F5 ad5 σ5 H5 l5 S5 => ⟨by omega, F5, ad5, e, l14.trans l5, S5, hgo⟩
    | ct e => exact fun F5 ad5 σ5 H5 l5 S5 => ⟨by omega, F5, ad5, e, l14.trans l5, S5, hgo⟩
    | bk e => cases hgo; exact fun F5 ad5 σ5 H5 l5 S5 => k F5 ad5 σ5 H5 ((le1.trans l14).trans l5) S5
    | rt r e => cases hgo; exact fun F5 ad5 σ5 H5 v l5 S5 a5 => k F5 ad5 σ5 H5 v ((le1.trans l14).trans l5) S5 a5
  · left
    have hie : i = ds.length := by omega
    subst hie
    rw [List.drop_length] at hgo
    cases hgo
    exact ⟨it.stop F2 H2 le2 S2.fh, k F2 ad2 σ2 H2 (le1.trans le2) S2⟩
/-- a while, of at most n turns -/
def whlS (c : Ft) (f : Fs) : Nat → En → Option Out
  | 0, _ => none
  | n + 1, env => (c env).bind fun p => if p.1 = true then (f p.2).bind fun o => match o with
    | .nx e => whlS c f n e
    | .ct e => whlS c f n e
    | .bk e => some (.nx e)
    | .rt r e => some (.rt r e) else some (.nx p.2)
theorem qs_while (n : Nat) {c : Expr} {body : List Stmt} {t : Ft} {f : Fs} (hp : PassesOwn (model X.prog X.w) X.A X.env X.xe) (hc : PT X c (tT X.K cl t)) (hb : PSs X body (tS X.K cl f)) : PS X (.While c body [] pos) (tS X.K cl (whlS t f n)) := by
  refine PS_weak (ps_while hp hc hb) fun E σ H q => ?_
  obtain ⟨pa, F, R, ad, env, out, S, hf, k⟩ := q
  refine ⟨fun m σ H => ∃ F2 ad2 e2, Le F F2 ∧ RS X.K cl pa F2 R H σ ad2 e2 ∧ whlS t f m e2 = some out, ⟨n, F, ad, env, Le.refl _, S, hf⟩, fun m σ2 H2 w => ?_⟩
  obtain ⟨F2, ad2, e2, le2, S2, hgo⟩ := w
  cases m with
  | zero => cases hgo
  | succ m =>
    unfold whlS at hgo
    obtain ⟨⟨b, e3⟩, h3, hgo⟩ := Option.bind_eq_some_iff.mp hgo
    refine ⟨pa, F2, R, ad2, e2, b, e3, S2, h3, fun F3 ad3 H3 l3 S3 => ?_⟩
    cases b with
    | true =>
      rw [if_pos rfl] at hgo
      refine iteT ?_
      obtain ⟨o, ho, hgo⟩ := Option.bind_eq_some_iff.mp hgo
      refine ⟨fun σ H => ∃ F2 ad2 e2, Le F F2 ∧ RS X.K cl pa F2 R H σ ad2 e2 ∧ whlS t f m e2 = some out, fun σ' H' w' => ⟨m, Nat.lt_succ_self m, w'⟩, pa, F3, R, ad3, e3, o, S3, ho, ?_⟩
      have l13 : Le F F3 := le2.trans l3
      cases o with
      | nx e => exact fun F5 ad5 σ5 H5 l5 S5 => ⟨F5, ad5, e, l13.trans l5, S5, hgo⟩
      | ct e => exact fun F5 ad5 σ5 H5 l5 S5 => ⟨F5, ad5, e, l13.trans l5, S5, hgo⟩
      | bk e => cases hgo; exact fun F5 ad5 σ5 H5 l5 S5 => k F5 ad5 σ5 H5 (l13.trans l5) S5
      | rt r e => cases hgo; exact fun F5 ad5 σ5 H5 v l5 S5 a5 => k F5 ad5 σ5 H5 v (l13.trans l5) S5 a5
    | false =>
      rw [if_neg Bool.false_ne_true] at hgo
      refine iteF ?_
      cases hgo
      exact k F3 ad3 σ2 H3 (le2.trans l3) S3
end
end Z

set_option Elab.async false
set_option linter.all false
set_option maxRecDepth 100000
set_option maxHeartbeats 1000000
/-! A def's own lists changed; defs and their calls. -/
namespace Z
open PySem PySem.Spec PyProof.Rows L2
section
variable {X : Cx} {cl : Str → Addr} {e : Expr} {pos : Pos}
def lstOf (env : En) (i : Nat) : Option (List Z.D) := match ocOf env i with
  | some (.lst ds) => some ds
  | _ => none
theorem lstOf_eq {env : En} {i : Nat} {ds : List Z.D} (h : lstOf env i = some ds) : ocOf env i = some (.lst ds) := by
  unfold lstOf at h
  split at h
  · cases h; assumption
  · cases h
theorem oc_slot {env : En} {i : Nat} {o : OC} (h : ocOf env i = some o) : ∃ s, env[i]? = some (some s) := by
  unfold ocOf at h
  split at h
  · exact ⟨_, by assumption⟩
  · exact ⟨_, by assumption⟩
  · cases h
/-- x.append(e) -/
def appS (i : Nat) (f : Fe) : Fs := fun env => (lstOf env i).bind fun _ => (f env).bind fun p => (kp p.2 (fz p.1)).bind fun q => (lstOf q.2 i).bind fun ds => if ds.length < 16777216 then some (.nx (setOC q.2 i (.lst (ds ++ [q.1])))) else none
theorem qs_app {i : Nat} {st : Stmt} {f : Fe} (h : PS X st (tDrop (tBM X.K "list" rAppend (tVar i) (tCons (tR X.K cl f) tNil)))) : PS X st (tS X.K cl (appS i f)) := by
  refine PS_weak h fun E σ H q => ?_
  obtain ⟨pa, F, R, ad, env, out, S, hf, k⟩ := q
  unfold appS at hf
  obtain ⟨ds0, h0, hf⟩ := Option.bind_eq_some_iff.mp hf
  obtain ⟨⟨r1, e1⟩, h1, hf⟩ := Option.bind_eq_some_iff.mp hf
  obtain ⟨⟨d, e2⟩, h2, hf⟩ := Option.bind_eq_some_iff.mp hf
  obtain ⟨ds, h3, hf⟩ := Option.bind_eq_some_iff.mp hf
  split at hf
  · rename_i hl
    cases hf
    obtain ⟨q1, q2, q3, vs0, q4, q5⟩ := S.oc i _ (lstOf_eq h0)
    refine ⟨.ref (ad i), q1, .inl ⟨rfl, vs0, SqL.of q4⟩, pa, F, R, ad, env, r1, e1, S, h1, fun F1 ad1 H1 v l S1 a1 => ?_⟩
    obtain ⟨F2, l2, S2, a2⟩ := S1.fzz a1
    obtain ⟨F3, l3, S3, a3⟩ := S2.keep a2 h2
    obtain ⟨z1, z2, z3, vs, z4, z5⟩ := S3.oc i _ (lstOf_eq h3)
    have ea : ad i = ad1 i := by rw [q1] at z1; exact V.ref.inj (Option.some.inj (Option.some.inj z1))
    refine ⟨ad1 i, vs, v, by rw [ea], rfl, z4, by rw [z5.length, sizeLine_eq]; exact hl, ?_⟩
    exact k F3 ad1 σ _ ((l.trans l2).trans l3) (S3.write (lstOf_eq h3) ⟨vs ++ [v], upd_same, z5.append (.cons a3 .nil)⟩)
  · cases hf
/-- x.extend(e), e a list -/
def extS (i : Nat) (f : Fe) : Fs := fun env => (lstOf env i).bind fun _ => (f env).bind fun p => (kp p.2 (fz p.1)).bind fun q => (lstOf q.2 i).bind fun ds => match q.1 with
  | .lst es => if ds.length + es.length ≤ 16777216 then some (.nx (setOC q.2 i (.lst (ds ++ es)))) else none
  | _ => none
theorem qs_ext {i : Nat} {st : Stmt} {f : Fe} (h : PS X st (tDrop (tBM X.K "list" rExtend (tVar i) (tCons (tR X.K cl f) tNil)))) : PS X st (tS X.K cl (extS i f)) := by
  refine PS_weak h fun E σ H q => ?_
  obtain ⟨pa, F, R, ad, env, out, S, hf, k⟩ := q
  unfold extS at hf
  obtain ⟨ds0, h0, hf⟩ := Option.bind_eq_some_iff.mp hf
  obtain ⟨⟨r1, e1⟩, h1, hf⟩ := Option.bind_eq_some_iff.mp hf
  obtain ⟨⟨d, e2⟩, h2, hf⟩ := Option.bind_eq_some_iff.mp hf
  obtain ⟨ds, h3, hf⟩ := Option.bind_eq_some_iff.mp hf
  dsimp only at hf
  cases d with
  | lst es =>
    dsimp only at hf
    split at hf
    · rename_i hl
      cases hf
      obtain ⟨q1, q2, q3, vs0, q4, q5⟩ := S.oc i _ (lstOf_eq h0)
      refine ⟨.ref (ad i), q1, .inl ⟨rfl, vs0, SqL.of q4⟩, pa, F, R, ad, env, r1, e1, S, h1, fun F1 ad1 H1 v l S1 a1 => ?_⟩
      obtain ⟨F2, l2, S2, a2⟩ := S1.fzz a1
      obtain ⟨F3, l3, S3, a3⟩ := S2.keep a2 h2
      obtain ⟨z1, z2, z3, vs, z4, z5⟩ := S3.oc i _ (lstOf_eq h3)
      have ea : ad i = ad1 i := by rw [q1] at z1; exact V.ref.inj (Option.some.inj (Option.some.inj z1))
      obtain ⟨p, ws, rfl, e3, al⟩ := at_lstF a3
      refine ⟨ad1 i, p, vs, ws, by rw [ea], rfl, z4, S3.fh _ _ e3, by rw [z5.length, al.length, sizeLine_eq]; exact hl, ?_⟩
      exact k F3 ad1 σ _ ((l.trans l2).trans l3) (S3.write (lstOf_eq h3) ⟨vs ++ ws, upd_same, z5.append al⟩)
    · cases hf
  | _ => cases hf
theorem ixN_of_seq {n : Nat} {i : Int} {j : Nat} (h : ixN n i = some j) : seqIndex? i n = some j := (ixN_seq h).1
/-- x.pop(e), x.pop() as values -/
def popS (i : Nat) (f : Fe) : Fe := fun env => (lstOf env i).bind fun _ => (f env).bind fun p => (rd p.2 (fz p.1)).bind fun dk => (intOf dk).bind fun k => (lstOf p.2 i).bind fun ds => (ixN ds.length k).bind fun j => ds[j]?.bind fun d => if k.natAbs < 2 ^ 62 then some (.dat d, setOC p.2 i (.lst (ds.eraseIdx j))) else none
theorem pr_popAt {i : Nat} {f : Fe} (h : PE X e (tBM X.K "list" rPopAt (tVar i) (tCons (tR X.K cl f) tNil))) : PE X e (tR X.K cl (popS i f)) := by
  refine PE_weak h fun σ H Q q => ?_
  obtain ⟨pa, F, R, ad, env, rv, env', S, hf, k⟩ := q
  unfold popS at hf
  obtain ⟨ds0, h0, hf⟩ := Option.bind_eq_some_iff.mp hf
  obtain ⟨⟨r1, e1⟩, h1, hf⟩ := Option.bind_eq_some_iff.mp hf
  obtain ⟨d1, h2, hf⟩ := Option.bind_eq_some_iff.mp hf
  obtain ⟨n, h3, hf⟩ := Option.bind_eq_some_iff.mp hf
  obtain ⟨ds, h4, hf⟩ := Option.bind_eq_some_iff.mp hf
  obtain ⟨j, h5, hf⟩ := Option.bind_eq_some_iff.mp hf
  obtain ⟨d, h6, hf⟩ := Option.bind_eq_some_iff.mp hf
  split at hf
  · rename_i hk
    cases hf
    obtain ⟨q1, q2, q3, vs0, q4, q5⟩ := S.oc i _ (lstOf_eq h0)
    refine ⟨.ref (ad i), q1, .inl ⟨rfl, vs0, SqL.of q4⟩, pa, F, R, ad, env, r1, e1, S, h1, fun F1 ad1 H1 v l S1 a1 => ?_⟩
    obtain ⟨F2, l2, S2, a2⟩ := S1.fzz a1
    have t := S2.read a2 h2
    unfold intOf at h3
    split at h3
    · cases h3
      rw [at_int t]
      obtain ⟨z1, z2, z3, vs, z4, z5⟩ := S2.oc i _ (lstOf_eq h4)
      have ea : ad i = ad1 i := by rw [q1] at z1; exact V.ref.inj (Option.some.inj (Option.some.inj z1))
      obtain ⟨y, y1, y2⟩ := z5.get h6
      refine ⟨ad1 i, vs, n, j, y, by rw [ea], rfl, z4, by omega, by omega, by rw [z5.length]; exact ixN_of_seq h5, y1, ?_⟩
      exact k F2 ad1 _ y (l.trans l2) (S2.write (lstOf_eq h4) ⟨vs.eraseIdx j, upd_same, z5.eraseIdx j⟩) y2
    · cases h3
  · cases hf
def pop0S (i : Nat) : Fe := fun env => (lstOf env i).bind fun ds => ds[ds.length - 1]?.bind fun d => some (.dat d, setOC env i (.lst ds.dropLast))
theorem AtAll.dropLast {K : PySem.W.Frag} {F : Hp} {vs : List V} {ds : List Z.D} (h : AtAll K cl F vs ds) : AtAll K cl F vs.dropLast ds.dropLast := by
  rw [List.dropLast_eq_take, List.dropLast_eq_take, h.length]; exact h.take _
theorem pr_pop {i : Nat} (h : PE X e (tBM0 X.K "list" rPop (tVar i))) : PE X e (tR X.K cl (pop0S i)) := by
  refine PE_weak h fun σ H Q q => ?_
  obtain ⟨pa, F, R, ad, env, rv, env', S, hf, k⟩ := q
  unfold pop0S at hf
  obtain ⟨ds, h0, hf⟩ := Option.bind_eq_some_iff.mp hf
  obtain ⟨d, h1, hf⟩ := Option.bind_eq_some_iff.mp hf
  cases hf
  obtain ⟨q1, q2, q3, vs, q4, q5⟩ := S.oc i _ (lstOf_eq h0)
  obtain ⟨y, y1, y2⟩ := q5.get h1
  refine ⟨.ref (ad i), q1, .inl ⟨rfl, vs, SqL.of q4⟩, ad i, vs, y, rfl, rfl, q4, by rw [q5.length]; exact y1, ?_⟩
  exact k F ad _ y (Le.refl _) (S.write (lstOf_eq h0) ⟨vs.dropLast, upd_same, q5.dropLast⟩) y2
/-- x[k] = e -/
def putS (i : Nat) (fk f : Fe) : Fs := fun env => (f env).bind fun p => (kp p.2 (fz p.1)).bind fun q => (lstOf q.2 i).bind fun _ => (fk q.2).bind fun r => (rd r.2 (fz r.1)).bind fun dk => (intOf dk).bind fun k => (lstOf r.2 i).bind fun ds => (ixN ds.length k).bind fun j => some (.nx (setOC r.2 i (.lst (ds.set j q.1))))
theorem qs_put {i : Nat} {st : Stmt} {fk f : Fe} (h : PS X st (tAsg (tR X.K cl f) (gSub (tVar i) (tR X.K cl fk) rSetL))) : PS X st (tS X.K cl (putS i fk f)) := by
  refine PS_weak h fun E σ H q => ?_
  obtain ⟨pa, F, R, ad, env, out, S, hf, k⟩ := q
  unfold putS at hf
  obtain ⟨⟨r1, e1⟩, h1, hf⟩ := Option.bind_eq_some_iff.mp hf
  obtain ⟨⟨d, e2⟩, h2, hf⟩ := Option.bind_eq_some_iff.mp hf
  obtain ⟨ds0, h0, hf⟩ := Option.bind_eq_some_iff.mp hf
  obtain ⟨⟨r3, e3⟩, h3, hf⟩ := Option.bind_eq_some_iff.mp hf
  obtain ⟨d4, h4, hf⟩ := Option.bind_eq_some_iff.mp hf
  obtain ⟨n, h5, hf⟩ := Option.bind_eq_some_iff.mp hf
  obtain ⟨ds, h6, hf⟩ := Option.bind_eq_some_iff.mp hf
  obtain ⟨j, h7, hf⟩ := Option.bind_eq_some_iff.mp hf
  cases hf
  refine ⟨pa, F, R, ad, env, r1, e1, S, h1, fun F1 ad1 H1 v l S1 a1 => ?_⟩
  obtain ⟨F2, l2, S2, a2⟩ := S1.fzz a1
  obtain ⟨F3, l3, S3, a3⟩ := S2.keep a2 h2
  obtain ⟨q1, q2, q3, vs0, q4, q5⟩ := S3.oc i _ (lstOf_eq h0)
  refine ⟨.ref (ad1 i), q1, pa, F3, R, ad1, e2, r3, e3, S3, h3, fun F4 ad4 H4 u l4 S4 a4 => ?_⟩
  obtain ⟨F5, l5, S5, a5⟩ := S4.fzz a4
  have t := S5.read a5 h4
  unfold intOf at h5
  split at h5
  · cases h5
    rw [at_int t]
    obtain ⟨z1, z2, z3, vs, z4, z5⟩ := S5.oc i _ (lstOf_eq h6)
    have ea : ad1 i = ad4 i := by rw [q1] at z1; exact V.ref.inj (Option.some.inj (Option.some.inj z1))
    refine ⟨ad4 i, vs, n, j, by rw [ea], rfl, z4, by rw [z5.length]; exact h7, ?_⟩
    exact k F5 ad4 σ _ ((((l.trans l2).trans l3).trans l4).trans l5) (S5.write (lstOf_eq h6) ⟨vs.set j v, upd_same, z5.set (a3.mono (l4.trans l5)) j⟩)
  · cases h5
end
end Z

set_option Elab.async false
set_option linter.all false
set_option maxRecDepth 100000
set_option maxHeartbeats 1000000
/-! Defs, their promises, their calls. -/
namespace Z
open PySem PySem.Spec PyProof.Rows L2
/-- what a def hands back -/
inductive Rt where
  | dat (d : Z.D)
  | own (o : OC)
def Rt.rv : Rt → Rv
  | .dat d => .dat d
  | .own o => .own o
section
variable (K : PySem.W.Frag) (cl : Str → Addr)
def RtAt (F R H : Hp) (v : V) : Rt → Prop
  | .dat d => At K cl F v d
  | .own o => ∃ a, v = .ref a ∧ F a = none ∧ R a = none ∧ OwnAt K cl F H a o
/-- a def that changes nothing that stands: m of the arguments' data -/
def spP (n : Nat) (m : List Z.D → Option Rt) : Sp := fun vs H Q _ => vs.length = n ∧ ∃ F R ds r, m ds = some r ∧ Le F H ∧ Le R H ∧ (∀ a o, R a = some o → F a = none) ∧ AtAll K cl F vs ds ∧
  ∀ F' H' v, Le F F' → Le F' H' → Le R H' → (∀ a o, R a = some o → F' a = none) → RtAt K cl F' R H' v r → Q v H'
/-- a def that changes its first argument's container -/
def spM (n : Nat) (m : OC → List Z.D → Option (Rt × OC)) : Sp := fun vs H Q _ => vs.length = n ∧ ∃ F R p ws o ds r, vs = .ref p :: ws ∧ m o ds = some r ∧ Le F H ∧ Le R H ∧ (∀ a o, R a = some o → F a = none) ∧ F p = none ∧ R p = none ∧ OwnAt K cl F H p o ∧ AtAll K cl F ws ds ∧
  ∀ F' H' v, Le F F' → Le F' H' → Le R H' → (∀ a o, R a = some o → F' a = none) → F' p = none → OwnAt K cl F' H' p r.2 → RtAt K cl F' R H' v r.1 → (∀ a, v = .ref a → r.1 = .own (match r.1 with | .own o => o | .dat _ => .lst []) → a ≠ p) → Q v H'
end
/-- what a def's own containers add to what others hold -/
noncomputable def withOwn (R H : Hp) (ad : Nat → Addr) (env : En) : Hp := fun a => open Classical in if ∃ j, (ocOf env j).isSome = true ∧ ad j = a then H a else R a
section
variable {K : PySem.W.Frag} {cl : Str → Addr} {pa : Nat → Addr} {F F' R H H' : Hp} {σ : L2.St} {ad : Nat → Addr} {env env' : En}
theorem withOwn_own {j : Nat} (h : (ocOf env j).isSome = true) : withOwn R H ad env (ad j) = H (ad j) := by unfold withOwn; rw [if_pos ⟨j, h, rfl⟩]
theorem withOwn_ne {a : Addr} (h : ∀ j, (ocOf env j).isSome = true → ad j ≠ a) : withOwn R H ad env a = R a := by
  unfold withOwn
  rw [if_neg]
  rintro ⟨j, h1, h2⟩
  exact h j h1 h2
theorem RS.rown (S : RS K cl pa F R H σ ad env) : Le (withOwn R H ad env) H := fun a o e => by
  unfold withOwn at e
  split at e
  · exact e
  · exact S.rh a o e
theorem RS.own_ne (S : RS K cl pa F R H σ ad env) {a : Addr} {o : HO} (h : R a = some o) : ∀ j, (ocOf env j).isSome = true → ad j ≠ a := fun j hj z => by
  cases e : ocOf env j with
  | none => rw [e] at hj; cases hj
  | some u => obtain ⟨_, _, h3, _⟩ := S.oc j u e; rw [z, h] at h3; cases h3
theorem RS.down (S : RS K cl pa F R H σ ad env) : ∀ a o, withOwn R H ad env a = some o → F a = none := fun a o e => by
  unfold withOwn at e
  split at e
  · rename_i h
    obtain ⟨j, hj, rfl⟩ := h
    cases e2 : ocOf env j with
    | none => rw [e2] at hj; cases hj
    | some u => exact (S.oc j u e2).2.1
  · exact S.dj a o e
/-- behind a call that kept what stood aside -/
theorem RS.after (S : RS K cl pa F R H σ ad env) (l : Le F F') (h1 : Le F' H') (h2 : Le (withOwn R H ad env) H') (h3 : ∀ a o, withOwn R H ad env a = some o → F' a = none) : RS K cl pa F' R H' σ ad env := by
  have hown : ∀ j u, ocOf env j = some u → ∃ ob, H (ad j) = some ob ∧ H' (ad j) = some ob ∧ F' (ad j) = none := fun j u e => by
    obtain ⟨_, _, _, q4⟩ := S.oc j u e
    obtain ⟨ob, hb⟩ := q4.has
    have hw : withOwn R H ad env (ad j) = some ob := by rw [withOwn_own (by rw [e]; rfl)]; exact hb
    exact ⟨ob, hb, h2 _ _ hw, h3 _ _ hw⟩
  have hR : ∀ a o, R a = some o → withOwn R H ad env a = some o := fun a o e => by rw [withOwn_ne (S.own_ne e)]; exact e
  refine ⟨h1, fun a o e => h2 a o (hR a o e), S.len, fun i d e => ?_, fun i o e => ?_, S.ne, S.par, fun a o e => h3 a o (hR a o e), fun i c ns fs e => (S.slf i c ns fs e).mono l (Le.refl _)⟩
  · obtain ⟨v, q1, q2⟩ := S.dat i d e; exact ⟨v, q1, q2.mono l⟩
  · obtain ⟨q1, q2, q3, q4⟩ := S.oc i o e
    obtain ⟨ob, b1, b2, b3⟩ := hown i o e
    exact ⟨q1, b3, q3, q4.mono l (by rw [b1, b2])⟩
theorem RtAt.rv (S : RS K cl pa F R H σ ad env) {v : V} {r : Rt} (h : RtAt K cl F' (withOwn R H ad env) H' v r) : RvAt K cl F' R H' σ ad env v r.rv := by
  cases r with
  | dat d => exact h
  | own o =>
    obtain ⟨a, rfl, h1, h2, h3⟩ := h
    have hn : ∀ j, (ocOf env j).isSome = true → ad j ≠ a := fun j hj z => by
      cases e : ocOf env j with
      | none => rw [e] at hj; cases hj
      | some u =>
        obtain ⟨_, _, _, q4⟩ := S.oc j u e
        obtain ⟨ob, hb⟩ := q4.has
        rw [← z, withOwn_own hj, hb] at h2; cases h2
    exact ⟨a, rfl, h1, by rw [withOwn_ne hn] at h2; exact h2, h3, hn⟩
end
section
variable {X : Cx} {cl : Str → Addr} {e : Expr}
def callP (m : List Z.D → Option Rt) (fs : Fa) : Fe := fun env => (fs env).bind fun p => (kpL p.2 p.1).bind fun q => (m q.1).bind fun r => some (r.rv, q.2)
theorem pair_len {R : V → Rv → Prop} {vs : List V} {rs : List Rv} (h : Paired R vs rs) : vs.length = rs.length := Paired.length h
theorem pr_call {n : Nat} {m : List Z.D → Option Rt} {fs : Fa} {E : XK} (h : PE X e (tCall (spP X.K cl n m) [] E (tL X.K cl fs))) (hlen : ∀ (env : En) (rvs : List Rv) (env' : En), fs env = some (rvs, env') → rvs.length = n) : PE X e (tR X.K cl (callP m fs)) := by
  refine PE_weak h fun σ H Q q => ?_
  obtain ⟨pa, F, R, ad, env, rv, env', S, hf, k⟩ := q
  unfold callP at hf
  obtain ⟨⟨rs, e1⟩, h1, hf⟩ := Option.bind_eq_some_iff.mp hf
  obtain ⟨⟨ds, e2⟩, h2, hf⟩ := Option.bind_eq_some_iff.mp hf
  obtain ⟨r, h3, hf⟩ := Option.bind_eq_some_iff.mp hf
  cases hf
  refine ⟨pa, F, R, ad, env, rs, e1, S, h1, fun F1 ad1 H1 vs l S1 a1 => ?_⟩
  obtain ⟨F2, l2, S2, a2⟩ := S1.keepL a1 h2
  rw [List.append_nil]
  refine ⟨by rw [pair_len a1, hlen _ _ _ h1], F2, withOwn R H1 ad1 e2, ds, r, h3, S2.fh, S2.rown, S2.down, a2, fun F3 H3 v l3 b1 b2 b3 b4 => ?_⟩
  exact k F3 ad1 H3 v ((l.trans l2).trans l3) (S2.after l3 b1 b2 b3) (RtAt.rv S2 b4)
theorem setOC_ne {env : En} {i j : Nat} {o : OC} (h : i ≠ j) : (setOC env i o)[j]? = env[j]? := by
  unfold setOC
  split <;> rw [List.getElem?_set_ne h]
/-- the call of a def that changes the container in slot i, its first argument -/
def callM (m : OC → List Z.D → Option (Rt × OC)) (i : Nat) (fs : Fa) : Fe := fun env => (fs env).bind fun p => match p.1 with
  | .slot j :: rest => if j = i then (kpL p.2 rest).bind fun q => (ocOf q.2 i).bind fun o => (m o q.1).bind fun r => some (r.1.rv, setOC q.2 i r.2) else none
  | _ => none
theorem pr_callM {n : Nat} {m : OC → List Z.D → Option (Rt × OC)} {fs : Fa} {E : XK} (i : Nat) (h : PE X e (tCall (spM X.K cl n m) [] E (tL X.K cl fs))) (hlen : ∀ (env : En) (rvs : List Rv) (env' : En), fs env = some (rvs, env') → rvs.length = n) : PE X e (tR X.K cl (callM m i fs)) := by
  refine PE_weak h fun σ H Q q => ?_
  obtain ⟨pa, F, R, ad, env, rv, env', S, hf, k⟩ := q
  unfold callM at hf
  obtain ⟨⟨rs, e1⟩, h1, hf⟩ := Option.bind_eq_some_iff.mp hf
  dsimp only at hf
  split at hf
  · rename_i j rest
    split at hf
    · rename_i hj
      subst hj
      obtain ⟨⟨ds, e2⟩, h2, hf⟩ := Option.bind_eq_some_iff.mp hf
      obtain ⟨o, h3, hf⟩ := Option.bind_eq_some_iff.mp hf
      obtain ⟨r, h4, hf⟩ := Option.bind_eq_some_iff.mp hf
      cases hf
      refine ⟨pa, F, R, ad, env, _, e1, S, h1, fun F1 ad1 H1 vs l S1 a1 => ?_⟩
      have hl1 := pair_len a1
      cases a1 with
      | cons a0 a1 =>
        rename_i v0 ws
        obtain ⟨F2, l2, S2, a2⟩ := S1.keepL a1 h2
        obtain ⟨q1, q2, q3, q4⟩ := S2.oc j o h3
        have e0 : v0 = .ref (ad1 j) := by
          have : σ[j]? = some (some v0) := a0
          rw [this] at q1; cases q1; rfl
        subst e0
        show spM X.K cl n m ((V.ref (ad1 j) :: ws) ++ []) H1 Q E
        rw [List.append_nil]
        -- aside: all own containers but that one
        let env2 := e2.set j none
        have hoc2 : ∀ i, i ≠ j → ocOf env2 i = ocOf e2 i := fun i hi => oc_set_ne (Ne.symm hi)
        have hocj : ocOf env2 j = none := by
          obtain ⟨s, hs⟩ := oc_slot h3
          unfold ocOf
          show (match (e2.set j none)[j]? with | some (some (.own o)) => some o | some (some (.par o)) => some o | _ => none) = none
          rw [set_get_self hs]
        have S2' : RS X.K cl pa F2 R H1 (σ.set j none) ad1 env2 := S2.less (by show (e2.set j none).length = _; rw [List.length_set, List.length_set]; exact S2.len) fun i s hs => by
          by_cases z : j = i
          · subst z
            obtain ⟨s', hs'⟩ := oc_slot h3
            change (e2.set j none)[j]? = _ at hs
            rw [set_get_self hs'] at hs; cases hs
          · change (e2.set j none)[i]? = _ at hs
            rw [List.getElem?_set_ne z] at hs
            exact ⟨hs, List.getElem?_set_ne z⟩
        have hnp : withOwn R H1 ad1 env2 (ad1 j) = none := by
          rw [withOwn_ne]
          · exact q3
          · intro i hi z
            by_cases y : i = j
            · subst y; rw [hocj] at hi; cases hi
            · exact S2.ne i j y (by rw [← hoc2 i y]; exact hi) (by rw [h3]; rfl) z
        refine ⟨by rw [hl1, hlen _ _ _ h1], F2, withOwn R H1 ad1 env2, ad1 j, ws, o, ds, r, rfl, h4, S2.fh, S2'.rown, S2'.down, q2, hnp, q4, a2, fun F3 H3 v l3 b1 b2 b3 b4 b5 b6 b7 => ?_⟩
        have S3 : RS X.K cl pa F3 R H3 (σ.set j none) ad1 env2 := S2'.after l3 b1 b2 b3
        have S4 : RS X.K cl pa F3 R H3 σ ad1 (setOC e2 j r.2) := by
          have hs : (setOC e2 j r.2)[j]? = some (some (.own r.2)) ∨ (∃ u, e2[j]? = some (some (.par u)) ∧ (setOC e2 j r.2)[j]? = some (some (.par r.2))) := by
            obtain ⟨s', hs'⟩ := oc_slot h3
            unfold setOC
            split
            · rename_i u hu; exact .inr ⟨u, hu, set_get_self hs'⟩
            · exact .inl (set_get_self hs')
          have hocj2 : ocOf (setOC e2 j r.2) j = some r.2 := by
            rcases hs with e | ⟨_, _, e⟩
            · exact oc_own e
            · exact oc_par e
          have hne : ∀ i, j ≠ i → (setOC e2 j r.2)[i]? = env2[i]? := fun i z => by
            show _ = (e2.set j none)[i]?
            rw [List.getElem?_set_ne z]
            unfold setOC; split <;> rw [List.getElem?_set_ne z]
          have hocn : ∀ i, j ≠ i → ocOf (setOC e2 j r.2) i = ocOf env2 i := fun i z => by unfold ocOf; rw [hne i z]
          refine ⟨S3.fh, S3.rh, by unfold setOC; split <;> rw [List.length_set] <;> exact S2.len, fun i d hd => ?_, fun i u hu => ?_, fun i l hil hi hl => ?_, fun i u hu => ?_, S3.dj, fun i c ns fs hu => ?_⟩
          · by_cases z : j = i
            · subst z
              rcases hs with e | ⟨_, _, e⟩ <;> (rw [e] at hd; cases hd)
            · rw [hne i z] at hd
              obtain ⟨w, w1, w2⟩ := S3.dat i d hd
              rw [List.getElem?_set_ne z] at w1
              exact ⟨w, w1, w2⟩
          · by_cases z : j = i
            · subst z
              rw [hocj2] at hu; cases hu
              exact ⟨q1, b4, q3, b5⟩
            · rw [hocn i z] at hu
              obtain ⟨w1, w2, w3, w4⟩ := S3.oc i u hu
              rw [List.getElem?_set_ne z] at w1
              exact ⟨w1, w2, w3, w4⟩
          · have aux : ∀ i, (ocOf (setOC e2 j r.2) i).isSome = true → (ocOf e2 i).isSome = true := fun i hi => by
              by_cases z : j = i
              · subst z; rw [h3]; rfl
              · rw [hocn i z, hoc2 i (Ne.symm z)] at hi; exact hi
            exact S2.ne i l hil (aux i hi) (aux l hl)
          · by_cases z : j = i
            · subst z
              rcases hs with e | ⟨w, y, e⟩
              · rw [e] at hu; cases hu
              · exact S2.par j w y
            · rw [hne i z] at hu; exact S3.par i u hu
          · by_cases z : j = i
            · subst z
              rcases hs with e | ⟨_, _, e⟩ <;> (rw [e] at hu; cases hu)
            · rw [hne i z] at hu
              obtain ⟨g1, g2⟩ := S3.slf i c ns fs hu
              rw [List.getElem?_set_ne z] at g1
              exact ⟨g1, g2⟩
        refine k F3 ad1 H3 v ((l.trans l2).trans l3) S4 ?_
        have rr := RtAt.rv S2' b6
        cases hr : r.1 with
        | dat d => rw [hr] at rr; exact rr
        | own o2 =>
          rw [hr] at rr b7
          obtain ⟨a, rfl, c1, c2, c3, c4⟩ := rr
          refine ⟨a, rfl, c1, c2, c3, fun i hi => ?_⟩
          by_cases z : i = j
          · subst z; exact Ne.symm (b7 a rfl rfl)
          · refine c4 i ?_
            have : ocOf (setOC e2 j r.2) i = ocOf e2 i := by
              unfold ocOf
              rw [setOC_ne (Ne.symm z)]
            change (ocOf (setOC e2 j r.2) i).isSome = true at hi
            rw [this] at hi
            rw [hoc2 i z]; exact hi
    · cases hf
  · cases hf
/-! ### bodies -/
def startE (N : List Str) (ds : List Z.D) : En := ds.map (fun d => some (Sl.dat d)) ++ List.replicate (N.length - ds.length) none
def startM (N : List Str) (o : OC) (ds : List Z.D) : En := some (.par o) :: (ds.map (fun d => some (Sl.dat d)) ++ List.replicate (N.length - (ds.length + 1)) none)
def fin : Out → Option Rt
  | .nx _ => some (.dat .non)
  | .rt (.dat d) _ => some (.dat d)
  | .rt (.own o) _ => some (.own o)
  | .rt (.slot i) e => match e[i]? with
    | some (some (.dat d)) => some (.dat d)
    | some (some (.own o)) => some (.own o)
    | _ => none
  | _ => none
def outE : Out → En
  | .nx e => e
  | .bk e => e
  | .ct e => e
  | .rt _ e => e
def parOf (e : En) : Option OC := match e[0]? with
  | some (some (Sl.par c)) => some c
  | _ => none
def fin2 (o : Out) : Option (Rt × OC) := (fin o).bind fun r => (parOf (outE o)).bind fun c => some (r, c)
def runP (N : List Str) (f : Fs) : List Z.D → Option Rt := fun ds => (f (startE N ds)).bind fin
def runM (N : List Str) (f : Fs) : OC → List Z.D → Option (Rt × OC) := fun o ds => (f (startM N o ds)).bind fin2
end
section
variable {P : Program} {w : World} {K : PySem.W.Frag} {cl : Str → Addr} {mg : Str → Option Value} {base : Heap}
theorem startE_get {N : List Str} {ds : List Z.D} {vs : List V} {F : Hp} (a : AtAll K cl F vs ds) (hn : ds.length ≤ N.length) : ∀ (i : Nat) (s : Sl), (startE N ds)[i]? = some (some s) → ∃ d v, s = Sl.dat d ∧ (L2.start N vs)[i]? = some (some v) ∧ At K cl F v d := by
  intro i s h
  unfold startE at h
  by_cases hi : i < ds.length
  · rw [List.getElem?_append_left (by simpa using hi), List.getElem?_map] at h
    obtain ⟨d, hd⟩ : ∃ d, ds[i]? = some d := ⟨_, List.getElem?_eq_getElem hi⟩
    rw [hd] at h
    cases h
    obtain ⟨v, h1, h2⟩ := a.get hd
    refine ⟨d, v, rfl, ?_, h2⟩
    unfold L2.start
    rw [List.getElem?_append_left (by rw [List.length_map, a.length]; exact hi), List.getElem?_map, h1]
    rfl
  · rw [List.getElem?_append_right (by simpa using hi)] at h
    have := List.mem_of_getElem? h
    rw [List.mem_replicate] at this
    exact nomatch this.2
theorem start_len {N : List Str} {ds : List Z.D} {vs : List V} {F : Hp} (a : AtAll K cl F vs ds) : (startE N ds).length = (L2.start N vs).length := by
  unfold startE L2.start
  simp [a.length]
theorem RS.begin {N : List Str} {ds : List Z.D} {vs : List V} {F R H : Hp} (a : AtAll K cl F vs ds) (hn : ds.length ≤ N.length) (h1 : Le F H) (h2 : Le R H) (h3 : ∀ a o, R a = some o → F a = none) : RS K cl (fun _ => 0) F R H (L2.start N vs) (fun _ => 0) (startE N ds) := by
  have hoc : ∀ i, ocOf (startE N ds) i = none := fun i => by
    unfold ocOf
    split
    · rename_i q; obtain ⟨d, v, z, _⟩ := startE_get a hn i _ q; cases z
    · rename_i q; obtain ⟨d, v, z, _⟩ := startE_get a hn i _ q; cases z
    · rfl
  refine ⟨h1, h2, start_len a, fun i d e => ?_, fun i o e => ?_, fun i j _ hi _ => ?_, fun i o e => ?_, h3, fun i c ns fs e => ?_⟩
  · obtain ⟨d', v, z, q1, q2⟩ := startE_get a hn i _ e; cases z; exact ⟨v, q1, q2⟩
  · rw [hoc] at e; cases e
  · rw [hoc] at hi; cases hi
  · obtain ⟨d', v, z, _⟩ := startE_get a hn i _ e; cases z
  · obtain ⟨d', v, z, _⟩ := startE_get a hn i _ e; cases z
theorem fin_at {pa : Nat → Addr} {F R H : Hp} {σ : L2.St} {ad : Nat → Addr} {env : En} {v : V} {r : Rv} {t : Rt} (S : RS K cl pa F R H σ ad env) (a : RvAt K cl F R H σ ad env v r) (h : fin (.rt r env) = some t) : RtAt K cl F R H v t ∧ ∀ (i : Nat) (o : OC), env[i]? = some (some (Sl.par o)) → ∀ b, v = .ref b → (∃ u, t = .own u) → b ≠ ad i := by
  cases r with
  | dat d => cases h; exact ⟨a, fun _ _ _ _ _ ⟨_, z⟩ => by cases z⟩
  | own o =>
    cases h
    obtain ⟨p, rfl, h1, h2, h3, h4⟩ := a
    exact ⟨⟨p, rfl, h1, h2, h3⟩, fun i u hi b hb _ => by cases hb; exact Ne.symm (h4 i (by rw [oc_par hi]; rfl))⟩
  | slot i =>
    change (match env[i]? with | some (some (.dat d)) => some (Rt.dat d) | some (some (.own o)) => some (.own o) | _ => none) = some t at h
    split at h
    · rename_i d q
      cases h
      obtain ⟨v', q1, q2⟩ := S.dat i d q
      have : v' = v := by rw [show σ[i]? = some (some v) from a] at q1; cases q1; rfl
      subst this
      exact ⟨q2, fun _ _ _ _ _ ⟨_, z⟩ => by cases z⟩
    · rename_i o q
      cases h
      obtain ⟨q1, q2, q3, q4⟩ := S.oc i o (oc_own q)
      have : V.ref (ad i) = v := by rw [show σ[i]? = some (some v) from a] at q1; cases q1; rfl
      subst this
      refine ⟨⟨_, rfl, q2, q3, q4⟩, fun j u hj b hb _ => ?_⟩
      cases hb
      refine S.ne i j (fun z => ?_) (by rw [oc_own q]; rfl) (by rw [oc_par hj]; rfl)
      subst z; rw [q] at hj; cases hj
    · cases h
theorem runP_start {N ps : List Str} (body : Fs) (hN : ps.length ≤ N.length) {vs : List V} {H : Hp} {Q : VK} {E : XK} (h : spP K cl ps.length (runP N body) vs H Q E) : tS K cl body { nx := fun _ H' => Q .non H', rt := Q } (L2.start N vs) H := by
  obtain ⟨hl, F, R, ds, r, hm, h1, h2, h3, a, q⟩ := h
  unfold runP at hm
  obtain ⟨o, ho, hm⟩ := Option.bind_eq_some_iff.mp hm
  have hdl : ds.length ≤ N.length := by rw [← a.length, hl]; exact hN
  refine ⟨_, F, R, _, _, o, RS.begin a hdl h1 h2 h3, ho, ?_⟩
  cases o with
  | nx e => cases hm; exact fun F' ad' σ' H' l S' => q F' H' .non l S'.fh S'.rh S'.dj .non
  | bk e => cases hm
  | ct e => cases hm
  | rt rv e => exact fun F' ad' σ' H' v l S' a' => q F' H' v l S'.fh S'.rh S'.dj (fin_at S' a' hm).1
theorem okP {x qual : Str} {st : Stmt} {f : Addr} {fd : FuncData} {N ps : List Str} {k : Nat} (body : Fs) (Fn : Fun K x qual st f fd) (S : FnScope N ps (defScope st)) (hN : ps.length ≤ N.length)
    (hd : ∀ (cdv : Value) (A : Around) (outer : List Env) (s : Shared) (H : Hp) (E : XK), Room k (A.deeper (envOfC qual (defScope st) s.heap.objs.size f cdv)) → PSs (cxOf CX0 P w K mg base N qual (defScope st) f cdv A outer s H E).nox (defBody st) (tS K cl body)) :
    FnOk P w K mg base CX0 (k + 1) f fd ps (spP K cl ps.length (runP N body)) := by
  exact Fn.ok S (fun vs H Q E h => h.1) (fun cdv A outer s H vs Q E hr h => ⟨_, hd cdv A outer s H E hr, runP_start body hN h⟩)
theorem runM_start {N ps : List Str} (body : Fs) (hN : ps.length ≤ N.length) {vs : List V} {H : Hp} {Q : VK} {E : XK} (h : spM K cl ps.length (runM N body) vs H Q E) : tS K cl body { nx := fun _ H' => Q .non H', rt := Q } (L2.start N vs) H := by
  obtain ⟨hl, F, R, p, ws, c, ds, r, rfl, hm, h1, h2, h3, hF, hR, ow, a, q⟩ := h
  unfold runM at hm
  obtain ⟨o, ho, hm⟩ := Option.bind_eq_some_iff.mp hm
  have hdl : ds.length + 1 ≤ N.length := by rw [← a.length]; simp only [List.length_cons] at hl; omega
  have hal := a.length
  obtain ⟨N', n0, hNe⟩ : ∃ N' n0, N = n0 :: N' := by
    cases N with
    | nil => simp at hdl
    | cons n0 N' => exact ⟨N', n0, rfl⟩
  have e1 : startM N c ds = some (.par c) :: startE N' ds := by unfold startM startE; rw [hNe]; simp
  have e2 : L2.start N (.ref p :: ws) = some (.ref p) :: L2.start N' ws := by unfold L2.start; rw [hNe]; simp
  have S0 := RS.begin (K := K) (cl := cl) (N := N') a (by rw [hNe] at hdl; simpa using hdl) h1 h2 h3
  have hocs : ∀ i, ocOf (startE N' ds) i = none := fun i => by
    cases e : ocOf (startE N' ds) i with
    | none => rfl
    | some u =>
      unfold ocOf at e
      split at e
      · rename_i y; obtain ⟨d, v, z, _⟩ := startE_get a (by rw [hNe] at hdl; simpa using hdl) i _ y; cases z
      · rename_i y; obtain ⟨d, v, z, _⟩ := startE_get a (by rw [hNe] at hdl; simpa using hdl) i _ y; cases z
      · cases e
  have hoc1 : ∀ i, ocOf (startM N c ds) (i + 1) = none := fun i => by rw [e1]; exact hocs i
  have SM : RS K cl (fun _ => p) F R H (L2.start N (.ref p :: ws)) (fun _ => p) (startM N c ds) := by
    refine ⟨h1, h2, by rw [e1, e2, List.length_cons, List.length_cons, S0.len], fun i d e => ?_, fun i o e => ?_, fun i j hij hi hj => ?_, fun i o e => rfl, h3, fun i c' ns fs e => ?_⟩
    · rw [e1] at e
      cases i with
      | zero => cases e
      | succ i => rw [e2]; exact S0.dat i d e
    · cases i with
      | zero => rw [e1] at e; cases e; rw [e2]; exact ⟨rfl, hF, hR, ow⟩
      | succ i => rw [hoc1] at e; cases e
    · cases i with
      | zero =>
        cases j with
        | zero => exact absurd rfl hij
        | succ j => rw [hoc1] at hj; cases hj
      | succ i => rw [hoc1] at hi; cases hi
    · rw [e1] at e
      cases i with
      | zero => cases e
      | succ i => obtain ⟨d', v, z, _⟩ := startE_get a (by rw [hNe] at hdl; simpa using hdl) i _ e; cases z
  refine ⟨_, F, R, _, _, o, SM, ho, ?_⟩
  unfold fin2 at hm
  obtain ⟨t, ht, hm⟩ := Option.bind_eq_some_iff.mp hm
  have key : ∀ (F' : Hp) (ad' : Nat → Addr) (σ' : L2.St) (H' : Hp) (e : En) (c' : OC), outE o = e → e[0]? = some (some (.par c')) → RS K cl (fun _ => p) F' R H' σ' ad' e → F' p = none ∧ OwnAt K cl F' H' p c' ∧ ad' 0 = p := fun F' ad' σ' H' e c' _ h0 S' => by
    obtain ⟨z1, z2, z3, z4⟩ := S'.oc 0 c' (oc_par h0)
    have ea : ad' 0 = p := S'.par 0 c' h0
    rw [ea] at z2 z4
    exact ⟨z2, z4, ea⟩
  obtain ⟨c', h0, hm⟩ := Option.bind_eq_some_iff.mp hm
  cases hm
  have h0 : (outE o)[0]? = some (some (Sl.par c')) := by
    unfold parOf at h0
    split at h0
    · cases h0; assumption
    · cases h0
  · cases o with
    | nx e =>
      cases ht
      intro F' ad' σ' H' l S'
      obtain ⟨z1, z2, z3⟩ := key F' ad' σ' H' e c' rfl h0 S'
      exact q F' H' .non l S'.fh S'.rh S'.dj z1 z2 .non (fun b hb => by cases hb)
    | bk e => cases ht
    | ct e => cases ht
    | rt rv e =>
      intro F' ad' σ' H' v l S' a'
      obtain ⟨z1, z2, z3⟩ := key F' ad' σ' H' e c' rfl h0 S'
      have fa := fin_at S' a' ht
      refine q F' H' v l S'.fh S'.rh S'.dj z1 z2 fa.1 (fun b hb ho => ?_)
      have := fa.2 0 c' h0 b hb ⟨_, ho⟩
      rw [z3] at this
      exact this
theorem okM {x qual : Str} {st : Stmt} {f : Addr} {fd : FuncData} {N ps : List Str} {k : Nat} (body : Fs) (Fn : Fun K x qual st f fd) (S : FnScope N ps (defScope st)) (hN : ps.length ≤ N.length)
    (hd : ∀ (cdv : Value) (A : Around) (outer : List Env) (s : Shared) (H : Hp) (E : XK), Room k (A.deeper (envOfC qual (defScope st) s.heap.objs.size f cdv)) → PSs (cxOf CX0 P w K mg base N qual (defScope st) f cdv A outer s H E).nox (defBody st) (tS K cl body)) :
    FnOk P w K mg base CX0 (k + 1) f fd ps (spM K cl ps.length (runM N body)) := by
  exact Fn.ok S (fun vs H Q E h => h.1) (fun cdv A outer s H vs Q E hr h => ⟨_, hd cdv A outer s H E hr, runM_start body hN h⟩)
end
end Z

set_option Elab.async false
set_option linter.all false
set_option maxRecDepth 100000
set_option maxHeartbeats 1000000
/-! enumerate of a tuple. -/
namespace Z
open PySem PySem.Spec PyProof.Rows L2
open Sem (wp)
open AutoSeq1 (wpAny_loadPart')
theorem meets_enumerate_newT (l : Addr) (items : Array Value) (n : Nat) (dct : Option Addr) (sl : Array (Option Value)) :
    Meets (Builtin.«enumerate.__new__» ⟨[.type "enumerate", .ref l], []⟩) (fun _ R s => s.heap.get? l = some { cls := .type "tuple", dict := dct, data := .seq items n, slots := sl } ∧
      R (.ok (.ret (.ref (s.heap.push { cls := .type "tuple_iterator", data := .fields #[.ref l, .int 0 0] }).objs.size)))
        { s with heap := (s.heap.push { cls := .type "tuple_iterator", data := .fields #[.ref l, .int 0 0] }).push { cls := .type "enumerate", data := .fields #[.none, .bool false, .ref s.heap.objs.size, rawInt 0, .none, .none] } }) :=
  .of_wp fun prog w A R s h => by
    obtain ⟨hp, g, d, tk, os⟩ := s; obtain ⟨hl, h⟩ := h
    have hsub := sub_enumerate
    have hL : Heap.IsTuple (Shared.heap ⟨hp, g, d, tk, os⟩) l items := ⟨_, hl, rfl, n, rfl⟩
    wp_walk using wpAny_loadPart' hl
    refine wpAny_stack_any fun st => wpAny_pure ?_
    split
    · rename_i c _ _ _ _ _
      cases (c == Value.type "enumerate")
      · wp_walk using wpAny_loadPart' hl, wpAny_pyIter_tuple hL
        exact ⟨_, rfl, h⟩
      · wp_walk using wpAny_loadPart' hl, wpAny_pyIter_tuple hL
        exact ⟨_, rfl, h⟩
    · wp_walk using wpAny_loadPart' hl, wpAny_pyIter_tuple hL
      exact ⟨_, rfl, h⟩
section
variable {prog : Program} {w : World} {A : Around} {E : Value → Shared → Prop} {s : Shared}
theorem call_enumerate_tuple {l : Addr} {items : Array Value} {Q : Value → Shared → Prop} (hL : s.heap.IsTuple l items)
    (h : ∀ h', IsEnum h' (s.heap.objs.size + 1) s.heap.objs.size 0 .none → h'.IsTupleIter s.heap.objs.size l 0 → h'.objs.size = s.heap.objs.size + 2 →
      (∀ b o, s.heap.get? b = some o → h'.get? b = some o) → Q (.ref (s.heap.objs.size + 1)) { s with heap := h' }) :
    wpAny (model prog w) A (call (.type "enumerate") [.ref l]) Q E s := by
  obtain ⟨⟨c, dct, dt, sl⟩, hl, hc, n, hd⟩ := hL
  replace hc : c = .type "tuple" := hc
  replace hd : dt = .seq items n := hd
  subst hc hd
  refine callType_new F.called_enumerate (by decide) (F.typeCall_enumerate_1 _) (F.newCall_enumerate_1 _) (fun obj => F.args_object_init_2 obj _) F.entry_enumerate_new
    (meets_enumerate_newT l items n dct sl) ⟨hl, ?_⟩
  have hz : (s.heap.push { cls := .type "tuple_iterator", data := .fields #[.ref l, .int 0 0] }).objs.size = s.heap.objs.size + 1 := Heap.size_push ..
  show _ ∧ _
  rw [hz]
  have he : IsEnum ((s.heap.push { cls := .type "tuple_iterator", data := .fields #[.ref l, .int 0 0] }).push
      { cls := .type "enumerate", data := .fields #[.none, .bool false, .ref s.heap.objs.size, rawInt 0, .none, .none] }) (s.heap.objs.size + 1) s.heap.objs.size 0 .none := by
    have := Heap.get?_push_size (s.heap.push { cls := .type "tuple_iterator", data := .fields #[.ref l, .int 0 0] })
      (o := { cls := .type "enumerate", data := .fields #[.none, .bool false, .ref s.heap.objs.size, rawInt 0, .none, .none] }) rfl
    rw [hz] at this; exact this
  refine ⟨⟨_, he, rfl⟩, h _ he ⟨_, Heap.get?_push_of_some _ (Heap.get?_push_size _ rfl), rfl, rfl⟩ (by rw [Heap.size_push, hz]) fun b o x => Heap.get?_push_of_some _ (Heap.get?_push_of_some _ x)⟩
end
def IteT (K : PySem.W.Frag) (a : Addr) : It :=
  ⟨fun i H => ∃ (xs : List V) (x : V), SqT K H a xs ∧ xs[i]? = some x, fun i H v H' => ∃ T x, v = .ref T ∧ H T = none ∧ H' = upd H T (.tup [.int (i : Nat), x]) ∧ ∀ xs, SqT K H a xs → xs[i]? = some x, fun i H => ∃ xs : List V, SqT K H a xs ∧ xs.length = i⟩
theorem turn_enumT {P : Program} {w : World} {K : PySem.W.Frag} {elts : List Expr} {kk : Nat} {tpos : Pos} (a e it : Addr) :
    Turn P w K (.Tuple elts kk tpos) (IteT K a) [e, it] e (fun i h => (∃ old, IsEnum h e it ((i : Nat) : Int) old) ∧ h.IsTupleIter it a i ∧ e ≠ it ∧ a ≠ it ∧ a ≠ e) where
  mem := by simp
  obj := fun i h st b hb => by
    obtain ⟨⟨old, he⟩, ⟨o, ho, hc, hd⟩, _⟩ := st
    have e' : b = e ∨ b = it := by simpa using hb
    rcases e' with z | z
    · rw [z]; exact ⟨_, he, fun v q => nomatch q⟩
    · rw [z]; exact ⟨o, ho, fun v q => by rw [hd] at q; cases q⟩
  keep := fun i h h' st k => let ⟨⟨old, he⟩, hi, hne⟩ := st; ⟨⟨old, k e (by simp) _ he⟩, hi.at fun o q => k it (by simp) o q, hne⟩
  item := by
    intro X hP hw hK hc i pins s σ H E I hf st hg
    subst hP hw hK
    obtain ⟨⟨old, he⟩, hit, hne, hai, hae⟩ := st
    obtain ⟨xs, x, hq, hx⟩ := hg
    obtain ⟨its, rv, p, hz⟩ := I.tuple hq
    obtain ⟨u, hu, ru⟩ := rv.get hx
    have hel : e < s.heap.objs.size := Heap.lt_size he
    have hil : it < s.heap.objs.size := by obtain ⟨_, q, _⟩ := hit; exact Heap.lt_size q
    have hi : i < its.toArray.size := by have := (List.getElem?_eq_some_iff.mp hu).1; simpa using this
    refine wpAny_pyNext_enum_itemD (Draws.tuple (A := X.A.in1) (show X.A.in1.handled = none from I.ok.hd hc) it a hai its.toArray) he ⟨hit, show s.heap.IsTuple a its.toArray from p⟩ hi hne (by simp only [List.mem_cons, List.not_mem_nil, or_false, not_or]; exact ⟨hne, fun z => hae z.symm⟩) fun x' h' tk hP ho st' hT hsz hk => ?_
    have ex : x' = u := by
      have hP' : its.toArray[i]? = some x' := hP
      rw [List.getElem?_toArray, hu] at hP'
      cases hP'; rfl
    subst ex
    refine ⟨_, rfl, wpAny_letOwnedTupleGo_enum (s := { s with heap := h', toks := tk + 1 }) ho fun h'' he' sb => ?_⟩
    have hT2 : h''.get? s.heap.objs.size = some { cls := .type "tuple", data := .seq #[.int i tk, x'] } := (sb.2 _ (Nat.ne_of_gt hel)).trans hT
    have new : ObjOk X.prog X.w (upd H s.heap.objs.size (.tup [.int (i : Nat), x])) h'' s.heap.objs.size (.tup [.int (i : Nat), x]) :=
      ⟨by show 2 ≤ sizeLine; decide, [.int i tk, x'], .cons ⟨_, rfl⟩ (.cons ru .nil), ⟨_, hT2, rfl, _, rfl⟩⟩
    have I1 : Inv X pins σ (upd H s.heap.objs.size (.tup [.int (i : Nat), x])) { s with heap := h'', toks := tk + 1 } :=
      I.turnedNew (ch := [e, it]) (fun b ob hb q => (sb.2 b (fun z => hb (by simp [z]))).trans (hk b ob (fun z => hb (by simp [z])) (fun z => hb (by simp [z])) q)) hf (Nat.le_refl _) new
    refine ⟨.ref s.heap.objs.size, _, I1, rfl, ⟨_, x, rfl, I.hok.fresh (Nat.le_refl _), rfl, fun ys hy => by rw [I.tuple_inj hy hq]; exact hx⟩, ⟨⟨x', ?_⟩, st'.1.at fun o q => (sb.2 it (Ne.symm hne)).trans q, hne, hai, hae⟩, fun b hb => ?_⟩
    · have e1 : ((i + 1 : Nat) : Int) = (i : Int) + 1 := by omega
      rw [e1]; exact he'
    · have hb' : b < s.heap.objs.size := by
        have e' : b = e ∨ b = it := by simpa using hb
        rcases e' with z | z
        · rw [z]; exact hel
        · rw [z]; exact hil
      rw [upd_ne (Nat.ne_of_lt hb')]
      exact (hf b hb).1
  done := by
    intro X hP hw hK hc i pins s σ H E I hf st hg
    subst hP hw hK
    obtain ⟨⟨old, he⟩, hit, hne, hai, hae⟩ := st
    obtain ⟨xs, hq, hx⟩ := hg
    obtain ⟨its, rv, p, hz⟩ := I.tuple hq
    obtain ⟨f0, f1, f2, f3, f4, f5⟩ := hf it (by simp)
    have hl := rv.length
    have hi : i = its.toArray.size := by rw [List.size_toArray, ← hl, hx]
    subst hi
    exact wpAny_pyNext_enum_endD (Draws.tuple (A := X.A.in1) (show X.A.in1.handled = none from I.ok.hd hc) it a hai its.toArray) he ⟨hit, show s.heap.IsTuple a its.toArray from p⟩ fun h' eb => ⟨rfl, I.turned (t' := s.toks) (fun b o hb q => eb b o hb q) f0 f1 f3 f4 f5⟩
  self := fun A i s Q E st h => let ⟨⟨_, he⟩, _⟩ := st; wpAny_pyIter_enum he h
def iEnumT (K : PySem.W.Frag) (ta : TA) : TI := fun σ H R => ta σ H fun vs H1 => ∃ a xs, vs = [.ref a] ∧ SqT K H1 a xs ∧ R (IteT K a) H1
theorem pi_enumT {X : Cx} {e : Expr} {ta : TA} {p pos tpos : Pos} {elts : List Expr} {kk : Nat} (hg : Gl X "enumerate") (hm : X.mg "enumerate" = none) (ha : PA X [e] ta) (hs : starEach [e] X.env = [(false, eval e X.env)] := by rfl) :
    PI X (.Tuple elts kk tpos) (.Call (.Name "enumerate" p) [e] [] pos) (iEnumT X.K ta) := by
  refine ⟨fun pins s σ H R I h => ?_⟩
  refine Call_ (ld_blt I hg hm boot_enumerate (PyProof.Rows.callWith_type1 (thn (ha.run pos pins s σ H _ I h) fun us s1 ⟨vs, H1, I1, r1, q1⟩ => ?_) hs rfl))
  obtain ⟨a, xs, ex, hq, q⟩ := q1
  subst ex
  cases r1 with
  | cons r rr =>
    cases rr
    cases r
    obtain ⟨its, rv, p', hz⟩ := I1.tuple hq
    have hal : a < s1.heap.objs.size := p'.lt
    refine call_enumerate_tuple (show s1.heap.IsTuple a its.toArray from p') fun h' he hit hsz hk => wpAny_pyIter_enum he ?_
    have I2 : Inv X pins σ H1 { s1 with heap := h' } := I1.kept (t' := s1.toks) hk
    refine ⟨s1.heap.objs.size + 1, [s1.heap.objs.size + 1, s1.heap.objs.size], _, _, H1, rfl, I2, turn_enumT a (s1.heap.objs.size + 1) s1.heap.objs.size, ⟨⟨.none, he⟩, hit, Nat.succ_ne_self _, Nat.ne_of_lt hal, Nat.ne_of_lt (Nat.lt_succ_of_lt hal)⟩, fun b hb => ?_, q⟩
    have e' : b = s1.heap.objs.size + 1 ∨ b = s1.heap.objs.size := by simpa using hb
    have hle : s1.heap.objs.size ≤ b := by
      rcases e' with z | z
      · rw [z]; exact Nat.le_add_right _ _
      · rw [z]; exact Nat.le_refl _
    exact I1.fpOk hle (I1.hok.fresh hle)
/-! ### over data -/
def enumD (ds : List Z.D) : List Z.D := (List.range ds.length).zipWith (fun (i : Nat) d => Z.D.tup [.int (i : Int), d]) ds
theorem enumD_length (ds : List Z.D) : (enumD ds).length = ds.length := by unfold enumD; simp
theorem enumD_get {ds : List Z.D} {i : Nat} {e : Z.D} (h : (enumD ds)[i]? = some e) : ∃ d, ds[i]? = some d ∧ e = .tup [.int (i : Int), d] := by
  have hi := get_lt h
  rw [enumD_length] at hi
  unfold enumD at h
  rw [List.getElem?_zipWith, List.getElem?_range hi, List.getElem?_eq_getElem hi] at h
  cases h
  exact ⟨_, List.getElem?_eq_getElem hi, rfl⟩
section
variable {X : Cx} {cl : Str → Addr} {e : Expr} {pos : Pos}
theorem iter_enumL {K : PySem.W.Frag} {F : Hp} {a : Addr} {vs : List V} {ds : List Z.D} (h : ∀ H, Le F H → SqL K H a vs) (al : AtAll K cl F vs ds) : IterOf K cl F (Ite K a) (enumD ds) where
  go := fun F2 H i l1 l2 hi => by
    rw [enumD_length] at hi
    have hv : i < vs.length := by rw [al.length]; exact hi
    exact ⟨vs, vs[i], h H (l1.trans l2), List.getElem?_eq_getElem hv⟩
  stop := fun F2 H l1 l2 => ⟨vs, h H (l1.trans l2), by rw [enumD_length, al.length]; exact Nat.le_refl _⟩
  yld := fun F2 H i x H' d l1 l2 hd hy => by
    obtain ⟨T, y, rfl, hT, rfl, hy⟩ := hy
    obtain ⟨d', h0, rfl⟩ := enumD_get hd
    obtain ⟨v, h1, h2⟩ := al.get h0
    have := hy vs (h H (l1.trans l2))
    rw [h1] at this; cases this
    exact ⟨_, .fr T _ hT, .tup upd_same (.cons (.int _) (.cons (h2.mono (l1.trans (Le.put (l2.fresh hT)))) .nil))⟩
theorem iter_enumT {K : PySem.W.Frag} {F : Hp} {a : Addr} {vs : List V} {ds : List Z.D} (h : ∀ H, Le F H → SqT K H a vs) (al : AtAll K cl F vs ds) : IterOf K cl F (IteT K a) (enumD ds) where
  go := fun F2 H i l1 l2 hi => by
    rw [enumD_length] at hi
    have hv : i < vs.length := by rw [al.length]; exact hi
    exact ⟨vs, vs[i], h H (l1.trans l2), List.getElem?_eq_getElem hv⟩
  stop := fun F2 H l1 l2 => ⟨vs, h H (l1.trans l2), by rw [enumD_length, al.length]⟩
  yld := fun F2 H i x H' d l1 l2 hd hy => by
    obtain ⟨T, y, rfl, hT, rfl, hy⟩ := hy
    obtain ⟨d', h0, rfl⟩ := enumD_get hd
    obtain ⟨v, h1, h2⟩ := al.get h0
    have := hy vs (h H (l1.trans l2))
    rw [h1] at this; cases this
    exact ⟨_, .fr T _ hT, .tup upd_same (.cons (.int _) (.cons (h2.mono (l1.trans (Le.put (l2.fresh hT)))) .nil))⟩
def enmI (fs : Fa) : Fi := fun env => (fs env).bind fun p => (kpL p.2 p.1).bind fun q => match q.1 with
  | [.lst ds] => some (enumD ds, q.2)
  | [.tup ds] => some (enumD ds, q.2)
  | _ => none
theorem pi_enmZ {p tpos : Pos} {elts : List Expr} {kk : Nat} {fs : Fa} (hm : X.mg "enumerate" = none) (ha : PA X [e] (tL X.K cl fs)) (hg : Gl X "enumerate" := by rfl) (hs : starEach [e] X.env = [(false, eval e X.env)] := by rfl) : PI X (.Tuple elts kk tpos) (.Call (.Name "enumerate" p) [e] [] pos) (tI X.K cl (enmI fs)) := by
  refine PI_weak (PI_or (pi_enum hg hm ha hs) (pi_enumT hg hm ha hs)) fun σ H R q => ?_
  obtain ⟨pa, F, Rr, ad, env, ds, env', S, hf, k⟩ := q
  unfold enmI at hf
  obtain ⟨⟨rs, e1⟩, h1, hf⟩ := Option.bind_eq_some_iff.mp hf
  obtain ⟨⟨xs, e2⟩, h2, hf⟩ := Option.bind_eq_some_iff.mp hf
  dsimp only at hf
  split at hf
  · cases hf
    refine .inl ⟨pa, F, Rr, ad, env, rs, e1, S, h1, fun F1 ad1 H1 vs le1 S1 a1 => ?_⟩
    obtain ⟨F2, l2, S2, a2⟩ := S1.keepL a1 h2
    cases a2 with
    | cons b1 b2 =>
      cases b2
      obtain ⟨p, ws, rfl, e3, al⟩ := at_lstF b1
      exact ⟨p, ws, rfl, SqL.of (S2.fh _ _ e3), k F2 ad1 H1 _ (le1.trans l2) S2 (iter_enumL (fun H h => SqL.of (h _ _ e3)) al)⟩
  · cases hf
    refine .inr ⟨pa, F, Rr, ad, env, rs, e1, S, h1, fun F1 ad1 H1 vs le1 S1 a1 => ?_⟩
    obtain ⟨F2, l2, S2, a2⟩ := S1.keepL a1 h2
    cases a2 with
    | cons b1 b2 =>
      cases b2
      obtain ⟨p, ws, rfl, e3, al⟩ := at_tupF b1
      exact ⟨p, ws, rfl, SqT.of (S2.fh _ _ e3), k F2 ad1 H1 _ (le1.trans l2) S2 (iter_enumT (fun H h => SqT.of (h _ _ e3)) al)⟩
  · cases hf
/-! ### range downwards -/
def rngC (lo c : Int) (n : Nat) : List Z.D := (List.range n).map fun (i : Nat) => Z.D.int (lo + (i : Int) * c)
theorem iter_rngC {K : PySem.W.Frag} {F : Hp} (lo c : Int) (n : Nat) : IterOf K cl F (Itc lo c n) (rngC lo c n) where
  go := fun F2 H i l1 l2 hi => by show i < n; unfold rngC at hi; simpa using hi
  stop := fun F2 H l1 l2 => by show n ≤ (rngC lo c n).length; unfold rngC; simp
  yld := fun F2 H i x H' d l1 l2 hd hy => by
    obtain ⟨rfl, rfl⟩ := hy
    have hi := get_lt hd
    unfold rngC at hi hd
    simp at hi
    rw [List.getElem?_map, List.getElem?_range hi] at hd
    cases hd
    exact ⟨F2, .no, .int _⟩
def rngI3 (fs : Fa) : Fi := fun env => (fs env).bind fun p => (rdL p.2 p.1).bind fun ds => match ds with
  | [.int i, .int j, .int (-1)] => if i.natAbs < 2 ^ 61 ∧ j.natAbs < 2 ^ 61 then some (rngC i (-1) (i - j).toNat, p.2) else none
  | _ => none
theorem pair3 {R : V → Z.D → Prop} {xs : List V} {d e f : Z.D} (h : Paired R xs [d, e, f]) : ∃ u v w, xs = [u, v, w] ∧ R u d ∧ R v e ∧ R w f := by
  cases h with | cons a b => cases b with | cons c g => cases g with | cons h i => cases i; exact ⟨_, _, _, rfl, a, c, h⟩
theorem pi_rng3 {tg a b c : Expr} {p : Pos} {fs : Fa} (hm : X.mg "range" = none) (ha : PA X [a, b, c] (tL X.K cl fs)) (hg : Gl X "range" := by rfl) (hs : starEach [a, b, c] X.env = (false, eval a X.env) :: starEach [b, c] X.env := by rfl) (hpl : (backTo pos (starEach [b, c] X.env)).any (·.1) = false := by rfl) :
    PI X tg (.Call (.Name "range" p) [a, b, c] [] pos) (tI X.K cl (rngI3 fs)) := by
  refine PI_weak (pi_range3 hg hm ha hs hpl) fun σ H R q => ?_
  obtain ⟨pa, F, Rr, ad, env, ds, env', S, hf, k⟩ := q
  unfold rngI3 at hf
  obtain ⟨⟨r1, e1⟩, h1, hf⟩ := Option.bind_eq_some_iff.mp hf
  obtain ⟨xs, h2, hf⟩ := Option.bind_eq_some_iff.mp hf
  split at hf
  · split at hf
    · rename_i i j hj
      cases hf
      refine ⟨pa, F, Rr, ad, env, _, _, S, h1, fun F1 ad1 H1 vs le1 S1 a1 => ?_⟩
      obtain ⟨u, v, w, rfl, t1, t2, t3⟩ := pair3 (S1.readL a1 h2)
      rw [at_int t1, at_int t2, at_int t3]
      exact ⟨i, j, -1, _, rfl, RgC.neg (by omega) (by omega) (by omega) (by omega), k F1 ad1 H1 _ le1 S1 (iter_rngC i (-1) _)⟩
    · cases hf
  · cases hf
/-! ### list(range(..)) -/
theorem rgV_at {K : PySem.W.Frag} {F : Hp} (a b : Int) : AtAll K cl F (rgV a b) (rngD a (b - a).toNat) := by
  unfold rgV rngD
  generalize (List.range (b - a).toNat) = l
  induction l with
  | nil => exact .nil
  | cons x r ih => exact .cons (.int _) ih
def lrgS (fs : Fa) : Fe := fun env => (fs env).bind fun p => (rdL p.2 p.1).bind fun ds => match ds with
  | [.int n] => if n.natAbs ≤ 16777216 then some (.own (.lst (rngD 0 n.toNat)), p.2) else none
  | _ => none
theorem pr_lrg {f : Fe} {st : Expr} (h : PE X st (tLstRg (tRg1 (tR X.K cl f)))) : PE X st (tR X.K cl (lrgS (consL f nilL))) := by
  refine PE_weak h fun σ H Q q => ?_
  obtain ⟨pa, F, R, ad, env, rv, env', S, hf, k⟩ := q
  unfold lrgS consL nilL at hf
  obtain ⟨⟨rs, e1⟩, h1, hf⟩ := Option.bind_eq_some_iff.mp hf
  obtain ⟨⟨r1, e2⟩, h2, h1⟩ := Option.bind_eq_some_iff.mp h1
  cases h1
  obtain ⟨ds, h3, hf⟩ := Option.bind_eq_some_iff.mp hf
  dsimp only at hf h3
  split at hf
  · rename_i n
    split at hf
    · rename_i hn
      cases hf
      refine ⟨pa, F, R, ad, env, r1, _, S, h2, fun F1 ad1 H1 v l S1 a1 => ?_⟩
      obtain ⟨F2, l2, S2, a2⟩ := S1.fzz a1
      obtain ⟨w, hw, t⟩ := pair1 (S2.readL (.cons a2 .nil) h3)
      cases hw
      rw [at_int t]
      refine ⟨n, rfl, ⟨by omega, by omega, by omega, by omega, by omega⟩, fun q hq => ?_⟩
      have res : Res X.K cl F2 H1 (.own (.lst (rngD 0 n.toNat))) Q := S2.res fun F3 ad3 H3 v le3 S3 a3 => k F3 ad3 H3 v ((l.trans l2).trans le3) S3 a3
      have ea := rgV_at (cl := cl) (K := X.K) (F := F2) 0 n
      rw [show n - 0 = n by omega] at ea
      exact res.lst hq ea
    · cases hf
  · cases hf
/-! ### min of two ints, of a list -/
def minG : List Z.D → Option Rv
  | [.int i, .int j] => some (.dat (.int (if j < i then j else i)))
  | [.lst ds] => (intsOf ds).bind fun ns => match ns with
    | [] => none
    | n :: r => some (.dat (.int (r.foldl min n)))
  | _ => none
theorem foldl_min_le : ∀ (r : List Int) (n : Int), r.foldl min n ≤ n ∧ ∀ y ∈ r, r.foldl min n ≤ y
  | [], n => ⟨Int.le_refl _, fun y hy => nomatch hy⟩
  | x :: r, n => by
    obtain ⟨h1, h2⟩ := foldl_min_le r (min n x)
    refine ⟨by rw [List.foldl_cons]; omega, fun y hy => ?_⟩
    rw [List.foldl_cons]
    rcases List.mem_cons.mp hy with e | e
    · rw [e]; omega
    · exact h2 y e
theorem foldl_min_mem : ∀ (r : List Int) (n : Int), r.foldl min n ∈ n :: r
  | [], n => by simp
  | x :: r, n => by
    have := foldl_min_mem r (min n x)
    rw [List.foldl_cons]
    rcases List.mem_cons.mp this with e | e
    · rw [e]
      rcases Int.le_total n x with z | z
      · rw [Int.min_eq_left z]; simp
      · rw [Int.min_eq_right z]; simp
    · simp [e]
def rMinZ (K : PySem.W.Frag) : List V → Hp → VK → Prop := fun xs H Q => (∃ i j, xs = [.int i, .int j] ∧ Q (.int (if j < i then j else i)) H) ∨ rMin K xs H Q
theorem call_minZ (hc : X.calm = true) : CallR X (.builtin "min") (rMinZ X.K) := (call_min2 hc).or (cr_min hc)
theorem min_ok {K : PySem.W.Frag} : OpL K cl minG (rMinZ K) := by
  intro F H xs ds rv Q le hx hg res
  unfold minG at hg
  split at hg
  · cases hg
    obtain ⟨v, w, rfl, h1, h2⟩ := pair2 hx
    rw [at_int h1, at_int h2]
    exact .inl ⟨_, _, rfl, res.dat0 (.int _)⟩
  · obtain ⟨ns, h1, hg⟩ := Option.bind_eq_some_iff.mp hg
    split at hg
    · cases hg
    · rename_i n r
      cases hg
      obtain ⟨v, rfl, h⟩ := pair1 hx
      rw [intsOf_eq h1] at h
      obtain ⟨a, vs, rfl, e, al⟩ := h
      rw [al.intsV] at e
      refine .inr ⟨a, n :: r, rfl, SqL.of e, by simp, fun m hm hle => ?_⟩
      obtain ⟨f1, f2⟩ := foldl_min_le r n
      have f3 := foldl_min_mem r n
      have e1 : m = r.foldl min n := by
        have g1 := hle _ f3
        rcases List.mem_cons.mp hm with z | z
        · omega
        · have := f2 m z; omega
      rw [e1]
      exact res.dat0 (.int _)
  · cases hg
end
end Z

set_option Elab.async false
set_option linter.all false
set_option maxRecDepth 100000
set_option maxHeartbeats 1000000
/-! Instances. -/
namespace Z
open PySem PySem.Spec PyProof.Rows L2
theorem lk_zip {α β : Type} {R : α → β → Prop} : ∀ {ns : List Str} {vs : List α} {ds : List β} {f : Str} {d : β}, Paired R vs ds → ns.length = vs.length → (ns.zip ds).lookup f = some d → ∃ v, (ns.zip vs).lookup f = some v ∧ R v d
  | [], _, _, _, _, _, _, h => by simp at h
  | n :: ns, _, _, f, d, .nil, hl, h => by simp at hl
  | n :: ns, v :: vs, e :: ds, f, d, .cons a t, hl, h => by
    rw [List.zip_cons_cons, List.lookup_cons] at h ⊢
    cases hb : f == n with
    | true => rw [hb] at h; cases h; exact ⟨v, rfl, a⟩
    | false => rw [hb] at h; exact lk_zip t (by simpa using hl) h
theorem atAll_paired {K : PySem.W.Frag} {cl : Str → Addr} : ∀ {F : Hp} {vs : List V} {ds : List Z.D}, AtAll K cl F vs ds → Paired (At K cl F) vs ds
  | _, _, _, .nil => .nil
  | _, _, _, .cons h t => .cons h (atAll_paired t)
theorem lk_none {α : Type} : ∀ {ns : List Str} {vs : List α} {f : Str}, f ∉ ns → (ns.zip vs).lookup f = none
  | [], _, _, _ => by simp
  | n :: ns, [], f, _ => by simp
  | n :: ns, v :: vs, f, h => by
    rw [List.zip_cons_cons, List.lookup_cons]
    have hb : (f == n) = false := by
      cases e : f == n with
      | false => rfl
      | true => exact absurd (by rw [LawfulBEq.eq_of_beq e]; exact List.mem_cons_self ..) h
    rw [hb]
    exact lk_none (fun z => h (List.mem_cons_of_mem _ z))
theorem putF_new : ∀ {ns : List Str} {vs : List V} {f : Str} {y : V}, f ∉ ns → ns.length = vs.length → putF f y (ns.zip vs) = (ns ++ [f]).zip (vs ++ [y])
  | [], [], f, y, _, _ => rfl
  | [], _ :: _, _, _, _, h => by simp at h
  | _ :: _, [], _, _, _, h => by simp at h
  | n :: ns, v :: vs, f, y, h, hl => by
    have hn : ¬ n = f := fun z => h (by rw [z]; exact List.mem_cons_self ..)
    rw [List.cons_append, List.cons_append, List.zip_cons_cons, List.zip_cons_cons]
    show putF f y ((n, v) :: ns.zip vs) = _
    unfold putF
    rw [if_neg hn, putF_new (fun z => h (List.mem_cons_of_mem _ z)) (by simpa using hl)]
section
variable {X : Cx} {cl : Str → Addr} {e : Expr} {pos : Pos}
/-! ### attributes of an instance that is data -/
def fldD (c f : Str) : Z.D → Option Z.D
  | .obj c' ns ds => if c' = c then (ns.zip ds).lookup f else none
  | _ => none
def fldS (c f : Str) (fa : Fe) : Fe := fun env => (fa env).bind fun p => (rd p.2 (fz p.1)).bind fun d => (fldD c f d).bind fun d' => some (.dat d', p.2)
theorem pr_fld (c : Str) {f : Str} {fa : Fe} (hC : Cls X.K (cl c)) (hA : NoAttr X.K (cl c) f) (he : PE X e (tR X.K cl fa)) (hb : attributeBase e f X.env (eval e X.env) = eval e X.env := by rfl) : PE X (.Attribute e f pos) (tR X.K cl (fldS c f fa)) := by
  refine PE_weak (pe_fld he hb) fun σ H Q q => ?_
  obtain ⟨pa, F, R, ad, env, rv, env', S, hf, k⟩ := q
  unfold fldS at hf
  obtain ⟨⟨r1, e1⟩, h1, hf⟩ := Option.bind_eq_some_iff.mp hf
  obtain ⟨d, h2, hf⟩ := Option.bind_eq_some_iff.mp hf
  obtain ⟨d', h3, hf⟩ := Option.bind_eq_some_iff.mp hf
  cases hf
  refine ⟨pa, F, R, ad, env, r1, e1, S, h1, fun F1 ad1 H1 v l S1 a1 => ?_⟩
  obtain ⟨F2, l2, S2, a2⟩ := S1.fzz a1
  have t := S2.read a2 h2
  unfold fldD at h3
  split at h3
  · split at h3
    · rename_i hc
      subst hc
      cases t with
      | obj e1 hl al =>
        obtain ⟨w, w1, w2⟩ := lk_zip (atAll_paired al) hl h3
        exact ⟨_, _, _, _, w, rfl, S2.fh _ _ e1, hC, hA, w1, k F2 ad1 H1 w (l.trans l2) S2 w2⟩
    · cases h3
  · cases h3
/-! ### of the instance that is being made (slot 0) -/
def lnkD (env : En) : Fv → Option Rv
  | .dat d => some (.dat d)
  | .lnk g => match env[g]? with
    | some (some (Sl.par _)) => some (.slot g)
    | _ => none
def selfD (c f : Str) (env : En) : Option Rv := match env[(0 : Nat)]? with
  | some (some (Sl.slf c' ns fs)) => if c' = c then ((ns.zip fs).lookup f).bind (lnkD env) else none
  | _ => none
def selfS (c f : Str) : Fe := fun env => (selfD c f env).bind fun r => some (r, env)
theorem selfD_ok {K : PySem.W.Frag} {pa : Nat → Addr} {F R H : Hp} {σ : L2.St} {ad : Nat → Addr} {env : En} {c f : Str} {r : Rv} (S : RS K cl pa F R H σ ad env) (h : selfD c f env = some r) :
    ∃ (dx : Addr) (ns : List Str) (vs : List V) (v : V), σ[0]? = some (some (.ref (pa 0))) ∧ H (pa 0) = some (.ins (cl c) dx (ns.zip vs)) ∧ (ns.zip vs).lookup f = some v ∧ RvF K cl F σ v r := by
  unfold selfD at h
  split at h
  · rename_i c' ns fs he
    split at h
    · rename_i hc
      subst hc
      obtain ⟨fv, h1, h2⟩ := Option.bind_eq_some_iff.mp h
      obtain ⟨q1, dx, vs, q2, q3, q4⟩ := S.slf 0 _ ns fs he
      obtain ⟨v, v1, v2⟩ := lk_zip q4 q3 h1
      refine ⟨dx, ns, vs, v, q1, S.rh _ _ q2, v1, ?_⟩
      cases fv with
      | dat d => cases h2; exact v2
      | lnk g =>
        unfold lnkD at h2
        dsimp only at h2
        split at h2
        · rename_i o hg
          cases h2
          have e1 := S.par g o hg
          obtain ⟨z1, _⟩ := S.oc g o (oc_par hg)
          show σ[g]? = some (some v)
          rw [show v = .ref (pa g) from v2, ← e1]
          exact z1
        · cases h2
    · cases h
  · cases h
theorem pr_self (c : Str) {f x : Str} {px : Pos} (hC : Cls X.K (cl c)) (hA : NoAttr X.K (cl c) f) (hx : PE X (.Name x px) (tVar 0)) (hb : attributeBase (.Name x px) f X.env (eval (.Name x px) X.env) = eval (.Name x px) X.env := by rfl) : PE X (.Attribute (.Name x px) f pos) (tR X.K cl (selfS c f)) := by
  refine PE_weak (pe_fld hx hb) fun σ H Q q => ?_
  obtain ⟨pa, F, R, ad, env, rv, env', S, hf, k⟩ := q
  unfold selfS at hf
  obtain ⟨r, h1, hf⟩ := Option.bind_eq_some_iff.mp hf
  cases hf
  obtain ⟨dx, ns, vs, v, q1, q2, q3, q4⟩ := selfD_ok S h1
  exact ⟨.ref (pa 0), q1, pa 0, _, dx, _, v, rfl, q2, hC, hA, q3, k F ad H v (Le.refl _) S (rvAt_of q4)⟩
/-! ### methods -/
def methD (c m : Str) : Z.D → Bool
  | .obj c' ns _ => decide (c' = c) && decide (m ∉ ns)
  | _ => false
def methS (c mn : Str) (m : List Z.D → Option Rt) (fo : Fe) (fs : Fa) : Fe := fun env => (fo env).bind fun p => (kp p.2 (fz p.1)).bind fun k => if methD c mn k.1 = true then (fs k.2).bind fun q => (kpL q.2 q.1).bind fun s => (m (k.1 :: s.1)).bind fun r => some (r.rv, s.2) else none
theorem pr_meth {c mn : Str} {n : Nat} {m : List Z.D → Option Rt} {fo : Fe} {fs : Fa} {t : TA} {E : XK} (h : PE X e (tMeth (cl c) mn (spP X.K cl n m) [] E (tR X.K cl fo) t)) (ht : ∀ σ H Q, tL X.K cl fs σ H Q → t σ H Q)
    (hlen : ∀ (env : En) (rvs : List Rv) (env' : En), fs env = some (rvs, env') → rvs.length + 1 = n) : PE X e (tR X.K cl (methS c mn m fo fs)) := by
  refine PE_weak h fun σ H Q q => ?_
  obtain ⟨pa, F, R, ad, env, rv, env', S, hf, k⟩ := q
  unfold methS at hf
  obtain ⟨⟨r1, e1⟩, h1, hf⟩ := Option.bind_eq_some_iff.mp hf
  obtain ⟨⟨d, e2⟩, h2, hf⟩ := Option.bind_eq_some_iff.mp hf
  dsimp only at hf
  split at hf
  · rename_i hm
    obtain ⟨⟨rs, e3⟩, h3, hf⟩ := Option.bind_eq_some_iff.mp hf
    obtain ⟨⟨ds, e4⟩, h4, hf⟩ := Option.bind_eq_some_iff.mp hf
    obtain ⟨r, h5, hf⟩ := Option.bind_eq_some_iff.mp hf
    cases hf
    refine ⟨pa, F, R, ad, env, r1, e1, S, h1, fun F1 ad1 H1 v l S1 a1 => ?_⟩
    obtain ⟨F2, l2, S2, a2⟩ := S1.fzz a1
    obtain ⟨F3, l3, S3, a3⟩ := S2.keep a2 h2
    cases d with
    | obj c' ns es =>
      change (decide (c' = c) && decide (mn ∉ ns)) = true at hm
      rw [Bool.and_eq_true_iff] at hm
      have hc := of_decide_eq_true hm.1
      have hn := of_decide_eq_true hm.2
      subst hc
      have a3' := a3
      cases a3 with
      | obj o1 o2 o3 =>
        refine ⟨_, _, _, rfl, S3.fh _ _ o1, lk_none hn, ht _ _ _ ⟨pa, F3, R, ad1, e2, rs, e3, S3, h3, fun F4 ad4 H4 vs l4 S4 a4 => ?_⟩⟩
        obtain ⟨F5, l5, S5, a5⟩ := S4.keepL a4 h4
        show spP X.K cl n m (_ :: (vs ++ [])) H4 Q E
        rw [List.append_nil]
        refine ⟨by rw [List.length_cons, pair_len a4]; exact hlen _ _ _ h3, F5, withOwn R H4 ad4 e4, _ :: ds, r, h5, S5.fh, S5.rown, S5.down, .cons (a3'.mono (l4.trans l5)) a5, fun F6 H6 v l6 b1 b2 b3 b4 => ?_⟩
        exact k F6 ad4 H6 v (((((l.trans l2).trans l3).trans l4).trans l5).trans l6) (S5.after l6 b1 b2 b3) (RtAt.rv S5 b4)
    | _ => cases hm
  · cases hf
theorem tNil_of : ∀ σ H Q, tL X.K cl nilL σ H Q → tNil σ H Q := by
  intro σ H Q q
  obtain ⟨pa, F, R, ad, env, rv, env', S, hf, k⟩ := q
  cases hf
  exact k F ad H [] (Le.refl _) S .nil
end
/-! ### an instance made -/
section
variable (K : PySem.W.Frag) (cl : Str → Addr)
def spI (c : Str) (n : Nat) (m : List Z.D → Option (List Str × List Z.D)) : Sp := fun vs H Q _ => vs.length = n ∧ ∃ F R x dx ws ds r, vs = .ref x :: ws ∧ m ds = some r ∧ Le F H ∧ Le R H ∧ (∀ a o, R a = some o → F a = none) ∧
  H x = some (.ins (cl c) dx []) ∧ H dx = some (.own x) ∧ F x = none ∧ R x = none ∧ F dx = none ∧ R dx = none ∧ dx ≠ x ∧ AtAll K cl F ws ds ∧
  ∀ F' H', Le F F' → Le F' H' → Le R H' → (∀ a o, R a = some o → F' a = none) → At K cl F' (.ref x) (.obj c r.1 r.2) → Q .non H'
end
section
variable {X : Cx} {cl : Str → Addr} {e : Expr} {pos : Pos}
def makS (c : Str) (m : List Z.D → Option (List Str × List Z.D)) (fs : Fa) : Fe := fun env => (fs env).bind fun p => (kpL p.2 p.1).bind fun q => (m q.1).bind fun r => some (.dat (.obj c r.1 r.2), q.2)
theorem pr_make {c : Str} {n : Nat} {m : List Z.D → Option (List Str × List Z.D)} {fs : Fa} {E : XK} (h : PE X e (tMake (cl c) (spI X.K cl c n m) [] E (tL X.K cl fs))) (hlen : ∀ (env : En) (rvs : List Rv) (env' : En), fs env = some (rvs, env') → rvs.length + 1 = n) : PE X e (tR X.K cl (makS c m fs)) := by
  refine PE_weak h fun σ H Q q => ?_
  obtain ⟨pa, F, R, ad, env, rv, env', S, hf, k⟩ := q
  unfold makS at hf
  obtain ⟨⟨rs, e1⟩, h1, hf⟩ := Option.bind_eq_some_iff.mp hf
  obtain ⟨⟨ds, e2⟩, h2, hf⟩ := Option.bind_eq_some_iff.mp hf
  obtain ⟨r, h3, hf⟩ := Option.bind_eq_some_iff.mp hf
  cases hf
  refine ⟨pa, F, R, ad, env, rs, e1, S, h1, fun F1 ad1 H1 vs l S1 a1 x dx hx hdx hne => ?_⟩
  obtain ⟨F2, l2, S2, a2⟩ := S1.keepL a1 h2
  have S3 : RS X.K cl pa F2 R (upd H1 dx (.own x)) σ ad1 e2 := S2.newAt hdx
  have hx3 : upd H1 dx (.own x) x = none := by rw [upd_ne (Ne.symm hne)]; exact hx
  have S4 : RS X.K cl pa F2 R (upd (upd H1 dx (.own x)) x (.ins (cl c) dx [])) σ ad1 e2 := S3.newAt hx3
  have wn : ∀ p, H1 p = none → withOwn R (upd (upd H1 dx (.own x)) x (.ins (cl c) dx [])) ad1 e2 p = none := fun p hp => by
    rw [withOwn_ne]
    · exact S2.rh.fresh hp
    · intro j hj z
      cases e : ocOf e2 j with
      | none => rw [e] at hj; cases hj
      | some u =>
        obtain ⟨_, _, _, q4⟩ := S2.oc j u e
        obtain ⟨ob, hb⟩ := q4.has
        rw [z, hp] at hb; cases hb
  rw [List.append_nil]
  refine ⟨by rw [List.length_cons, pair_len a1]; exact hlen _ _ _ h1, F2, withOwn R (upd (upd H1 dx (.own x)) x (.ins (cl c) dx [])) ad1 e2, x, dx, vs, ds, r, rfl, h3, S4.fh, S4.rown, S4.down, upd_same, by rw [upd_ne hne]; exact upd_same,
    S2.fh.fresh hx, wn x hx, S2.fh.fresh hdx, wn dx hdx, hne, a2, fun F5 H5 l5 b1 b2 b3 b4 => ⟨rfl, ?_⟩⟩
  exact k F5 ad1 H5 (.ref x) ((l.trans l2).trans l5) (S4.after l5 b1 b2 b3) b4
end
end Z

set_option Elab.async false
set_option linter.all false
set_option maxRecDepth 100000
set_option maxHeartbeats 1000000
/-! The making of an instance. -/
namespace Z
open PySem PySem.Spec PyProof.Rows L2
section
variable {X : Cx} {pins : List (Addr × Obj)} {σ : List (Option V)} {H : Hp} {s : Shared} {st : Stmt}
theorem inv_ghost {g : Nat} {v : Option V} (I : Inv X pins σ H s) (hg : ∀ x, X.N[g]? = some x → ¬ Vis X.env.scope x) : Inv X pins (σ.set g v) H s :=
  ⟨I.ok, I.os, I.bare, I.base, let ⟨m, hn, hl⟩ := I.loc; ⟨m, hn, fun i x w e1 e2 e3 => by
    by_cases z : g = i
    · subst z; exact absurd e3 (hg x e1)
    · rw [List.getElem?_set_ne z] at e2; exact hl i x w e1 e2 e3⟩, I.cell, I.free, I.freeC, I.pin, I.hok, by rw [List.length_set]; exact I.len⟩
theorem ps_ghost {t : TS} (g : Nat) (hg : ∀ x, X.N[g]? = some x → ¬ Vis X.env.scope x) (h : PS X st t) : PS X st (fun E σ H => t { E with nx := fun σ' H' => ∃ v, E.nx (σ'.set g v) H' } σ H) := ⟨fun pins s σ H D I q => thn (h.run pins s σ H _ I q) fun f s' r => by
  cases f with
  | next => obtain ⟨σ', H', I', v, q⟩ := r; exact ⟨_, H', inv_ghost I' hg, q⟩
  | brk => exact r
  | cont => exact r
  | ret u => exact r⟩
end
section
variable {K : PySem.W.Frag} {cl : Str → Addr} {pa : Nat → Addr} {F F' R H H' : Hp} {σ : L2.St} {ad : Nat → Addr} {env env' : En}
def isSlf : Option Sl → Bool
  | some (.slf _ _ _) => true
  | _ => false
def oneSlf : En → Bool
  | [] => false
  | _ :: r => r.all fun s => !isSlf s
theorem oneSlf_eq : ∀ {env : En}, oneSlf env = true → ∀ (i : Nat) (c : Str) (ns : List Str) (fs : List Fv), env[i]? = some (some (.slf c ns fs)) → i = 0
  | [], h, _, _, _, _, _ => by cases h
  | a :: r, h, 0, _, _, _, _ => rfl
  | a :: r, h, i + 1, c, ns, fs, e => by
    have e' : r[i]? = some (some (.slf c ns fs)) := by simpa using e
    have := List.all_eq_true.mp h _ (List.mem_of_getElem? e')
    cases this
def noLnk (g : Nat) : Fv → Bool
  | .dat _ => true
  | .lnk h => h != g
theorem paired_lnk {g : Nat} {a : Addr} : ∀ {vs : List V} {fs : List Fv}, fs.all (noLnk g) = true → Paired (FvAt K cl pa F) vs fs → Paired (FvAt K cl (fun j => if j = g then a else pa j) F) vs fs
  | _, _, _, .nil => .nil
  | _, f :: _, h, .cons x t => by
    rw [List.all_cons, Bool.and_eq_true_iff] at h
    refine .cons ?_ (paired_lnk h.2 t)
    cases f with
    | dat d => exact x
    | lnk k =>
      have hk : k ≠ g := by have := h.1; unfold noLnk at this; simpa using this
      show _ = V.ref (if k = g then a else pa k)
      rw [if_neg hk]; exact x
theorem paired_snoc {α β : Type} {P : α → β → Prop} {x : α} {y : β} (h : P x y) : ∀ {vs : List α} {fs : List β}, Paired P vs fs → Paired P (vs ++ [x]) (fs ++ [y])
  | _, _, .nil => .cons h .nil
  | _, _, .cons a t => .cons a (paired_snoc h t)
theorem RS.link {g : Nat} {a : Addr} {o : OC} (S : RS K cl pa F R H σ ad env) (hg : env[g]? = some none) (hone : oneSlf env = true) (hfs : ∀ c ns fs, env[(0 : Nat)]? = some (some (Sl.slf c ns fs)) → fs.all (noLnk g) = true)
    (h1 : F a = none) (h2 : R a = none) (h3 : OwnAt K cl F H a o) (h4 : ∀ j, (ocOf env j).isSome = true → ad j ≠ a) :
    RS K cl (fun j => if j = g then a else pa j) F R H (σ.set g (some (.ref a))) (fun j => if j = g then a else ad j) (env.set g (some (.par o))) := by
  have hi : g < env.length := get_lt hg
  have hs : (env.set g (some (Sl.par o)))[g]? = some (some (.par o)) := by simp [hi]
  have hσ : (σ.set g (some (.ref a)))[g]? = some (some (V.ref a)) := by have := S.len ▸ hi; simp [this]
  refine ⟨S.fh, S.rh, by rw [List.length_set, List.length_set]; exact S.len, fun j e hj => ?_, fun j u hj => ?_, fun j k hjk hj hk => ?_, fun j u hj => ?_, S.dj, fun j c ns fs hj => ?_⟩
  · by_cases z : g = j
    · subst z; rw [hs] at hj; cases hj
    · rw [List.getElem?_set_ne z] at hj ⊢; exact S.dat j e hj
  · by_cases z : g = j
    · subst z; rw [oc_par hs] at hj; cases hj
      simp only [if_pos]
      exact ⟨hσ, h1, h2, h3⟩
    · rw [oc_set_ne z] at hj; rw [List.getElem?_set_ne z]
      simp only [if_neg (Ne.symm z)]
      exact S.oc j u hj
  · by_cases z : g = j
    · subst z
      simp only [if_pos, if_neg (Ne.symm hjk)]
      rw [oc_set_ne hjk] at hk
      exact Ne.symm (h4 k hk)
    · rw [oc_set_ne z] at hj
      simp only [if_neg (Ne.symm z)]
      by_cases y : g = k
      · subst y; simp only [if_pos]; exact h4 j hj
      · rw [oc_set_ne y] at hk
        simp only [if_neg (Ne.symm y)]
        exact S.ne j k hjk hj hk
  · by_cases z : g = j
    · subst z; simp only [if_pos]
    · rw [List.getElem?_set_ne z] at hj
      simp only [if_neg (Ne.symm z)]
      exact S.par j u hj
  · by_cases z : g = j
    · subst z; rw [hs] at hj; cases hj
    · rw [List.getElem?_set_ne z] at hj
      have h0 := oneSlf_eq hone j c ns fs hj
      subst h0
      obtain ⟨g1, dx, vs, g2, g3, g4⟩ := S.slf 0 c ns fs hj
      refine ⟨?_, dx, vs, ?_, g3, paired_lnk (hfs c ns fs hj) g4⟩
      · simp only [if_neg (Ne.symm z)]; rw [List.getElem?_set_ne z]; exact g1
      · simp only [if_neg (Ne.symm z)]; exact g2
theorem RS.selfPut {c f : Str} {ns : List Str} {fs : List Fv} {dx : Addr} {vs : List V} {y : V} {fv : Fv} (S : RS K cl pa F R H σ ad env) (h0 : env[(0 : Nat)]? = some (some (Sl.slf c ns fs))) (hone : oneSlf env = true) (hσ : σ[(0 : Nat)]? = some (some (V.ref (pa 0))))
    (hR : R (pa 0) = some (.ins (cl c) dx (ns.zip vs))) (hl : ns.length = vs.length) (hp : Paired (FvAt K cl pa F) vs fs) (hf : f ∉ ns) (hy : FvAt K cl pa F y fv) :
    RS K cl pa F (upd R (pa 0) (.ins (cl c) dx (putF f y (ns.zip vs)))) (upd H (pa 0) (.ins (cl c) dx (putF f y (ns.zip vs)))) σ ad (env.set 0 (some (.slf c (ns ++ [f]) (fs ++ [fv])))) := by
  have hi : 0 < env.length := get_lt h0
  have hs : (env.set 0 (some (Sl.slf c (ns ++ [f]) (fs ++ [fv]))))[0]? = some (some (.slf c (ns ++ [f]) (fs ++ [fv]))) := set_get_self h0
  have hoc : ∀ j, ocOf (env.set 0 (some (Sl.slf c (ns ++ [f]) (fs ++ [fv])))) j = ocOf env j := fun j => by
    by_cases z : 0 = j
    · subst z; unfold ocOf; rw [hs, h0]
    · exact oc_set_ne z
  have hFx := S.dj _ _ hR
  refine ⟨fun b u e => by rw [upd_ne (fun z => by rw [z, hFx] at e; cases e)]; exact S.fh b u e, S.rh.both, by rw [List.length_set]; exact S.len, fun j d e => ?_, fun j u e => ?_, fun j k hjk hj hk => ?_, fun j u e => ?_, fun b u e => ?_, fun j c' ns' fs' e => ?_⟩
  · by_cases z : 0 = j
    · subst z; rw [hs] at e; cases e
    · rw [List.getElem?_set_ne z] at e; exact S.dat j d e
  · rw [hoc] at e
    obtain ⟨q1, q2, q3, q4⟩ := S.oc j u e
    have hn : ad j ≠ pa 0 := fun z => by rw [z, hR] at q3; cases q3
    exact ⟨q1, q2, by rw [upd_ne hn]; exact q3, q4.mono (Le.refl _) (by rw [upd_ne hn])⟩
  · rw [hoc] at hj hk; exact S.ne j k hjk hj hk
  · by_cases z : 0 = j
    · subst z; rw [hs] at e; cases e
    · rw [List.getElem?_set_ne z] at e; exact S.par j u e
  · by_cases z : b = pa 0
    · subst z; exact hFx
    · rw [upd_ne z] at e; exact S.dj b u e
  · by_cases z : 0 = j
    · subst z
      rw [hs] at e; cases e
      exact ⟨hσ, dx, vs ++ [y], by rw [putF_new hf hl]; exact upd_same, by simp [hl], paired_snoc hy hp⟩
    · rw [List.getElem?_set_ne z] at e
      exact absurd (oneSlf_eq hone j c' ns' fs' e).symm z
end
section
variable (K : PySem.W.Frag) (cl : Str → Addr)
def tZ (f : Fs) : TS := fun E σ H => ∃ pa F R0 R ad env env', Le R0 R ∧ R0 (pa 0) = none ∧ RS K cl pa F R H σ ad env ∧ f env = some (.nx env') ∧
  ∀ (pa' : Nat → Addr) F' R' ad' σ' H', pa' 0 = pa 0 → Le F F' → Le R0 R' → RS K cl pa' F' R' H' σ' ad' env' → E.nx σ' H'
end
section
variable {X : Cx} {cl : Str → Addr} {e : Expr} {pos : Pos} {st : Stmt} {rest : List Stmt}
theorem z_plain {f : Fs} (h : PS X st (tS X.K cl f)) : PS X st (tZ X.K cl f) := PS_weak h fun E σ H q => by
  obtain ⟨pa, F, R0, R, ad, env, env', h1, h2, S, hf, k⟩ := q
  exact ⟨pa, F, R, ad, env, .nx env', S, hf, fun F' ad' σ' H' l S' => k pa F' R ad' σ' H' rfl l h1 S'⟩
theorem zs_nil : PSs X [] (tZ X.K cl doneS) := PSs_weak pss_nil fun E σ H q => by
  obtain ⟨pa, F, R0, R, ad, env, env', h1, h2, S, hf, k⟩ := q
  cases hf
  exact k pa F R ad σ H rfl (Le.refl _) h1 S
theorem zs_cons {f g : Fs} (h : PS X st (tZ X.K cl f)) (h2 : PSs X rest (tZ X.K cl g)) : PSs X (st :: rest) (tZ X.K cl (seqS f g)) := by
  refine PSs_weak (pss_cons h h2) fun E σ H q => ?_
  obtain ⟨pa, F, R0, R, ad, env, env', h1, h2, S, hf, k⟩ := q
  unfold seqS at hf
  obtain ⟨o, h3, hf⟩ := Option.bind_eq_some_iff.mp hf
  cases o with
  | nx e1 => exact ⟨pa, F, R0, R, ad, env, e1, h1, h2, S, h3, fun pa1 F1 R1 ad1 σ1 H1 e0 l r S1 => ⟨pa1, F1, R0, R1, ad1, e1, env', r, by rw [e0]; exact h2, S1, hf, fun pa2 F2 R2 ad2 σ2 H2 e2 l2 r2 S2 => k pa2 F2 R2 ad2 σ2 H2 (e2.trans e0) (l.trans l2) r2 S2⟩⟩
  | bk e1 => cases hf
  | ct e1 => cases hf
  | rt r e1 => cases hf
def slfOf (env : En) : Option (Str × List Str × List Fv) := match env[(0 : Nat)]? with
  | some (some (Sl.slf c ns fs)) => some (c, ns, fs)
  | _ => none
theorem slfOf_eq {env : En} {t : Str × List Str × List Fv} (h : slfOf env = some t) : env[(0 : Nat)]? = some (some (Sl.slf t.1 t.2.1 t.2.2)) := by
  unfold slfOf at h
  split at h
  · cases h; assumption
  · cases h
/-- self.f = e, data -/
def zsetS (c f : Str) (fe : Fe) : Fs := fun env => (fe env).bind fun p => (kp p.2 (fz p.1)).bind fun q => (slfOf q.2).bind fun t =>
  if t.1 = c ∧ f ∉ t.2.1 ∧ oneSlf q.2 = true ∧ t.2.1.length < 1000 then some (.nx (q.2.set 0 (some (.slf c (t.2.1 ++ [f]) (t.2.2 ++ [.dat q.1]))))) else none
theorem z_set (c : Str) {f x : Str} {px pos' : Pos} {fe : Fe} (hC : Cls X.K (cl c)) (hA : NoAttr X.K (cl c) f) (hx : PE X (.Name x px) (tVar 0)) (he : PE X e (tR X.K cl fe))
    (hs : swapsWith e (some (.Attribute (.Name x px) f pos')) pos.line X.env = pure false := by rfl) : PS X (.Assign [.Attribute (.Name x px) f pos'] e pos) (tZ X.K cl (zsetS c f fe)) := by
  refine PS_weak (ps_fld hx he hs) fun E σ H q => ?_
  obtain ⟨pa, F, R0, R, ad, env, env', h1, h2, S, hf, k⟩ := q
  unfold zsetS at hf
  obtain ⟨⟨r1, e1⟩, h3, hf⟩ := Option.bind_eq_some_iff.mp hf
  obtain ⟨⟨d, e2⟩, h4, hf⟩ := Option.bind_eq_some_iff.mp hf
  obtain ⟨⟨c', ns, fs⟩, h5, hf⟩ := Option.bind_eq_some_iff.mp hf
  split at hf
  · rename_i hc
    obtain ⟨hc1, hc2, hc3, hc4⟩ := hc
    cases hf
    dsimp only at hc1 hc2 hc3 hc4
    subst hc1
    refine ⟨pa, F, R, ad, env, r1, e1, S, h3, fun F1 ad1 H1 v l S1 a1 => ?_⟩
    obtain ⟨F2, l2, S2, a2⟩ := S1.fzz a1
    obtain ⟨F3, l3, S3, a3⟩ := S2.keep a2 h4
    have h0 := slfOf_eq h5
    obtain ⟨g1, dx, vs, g2, g3, g4⟩ := S3.slf 0 _ ns fs h0
    refine ⟨.ref (pa 0), g1, pa 0, _, dx, _, rfl, S3.rh _ _ g2, hC, hA, by rw [List.length_zip, ← g3, Nat.min_self]; exact hc4, ?_⟩
    refine k pa F3 _ ad1 _ _ rfl ((l.trans l2).trans l3) ?_ (S3.selfPut h0 hc3 g1 g2 g3 g4 hc2 a3)
    exact fun b u e => by rw [upd_ne (fun z => by rw [z, h2] at e; cases e)]; exact h1 b u e
  · cases hf
/-- self.f = e, e a new list; it is told of by slot g -/
def zlnkS (c f : Str) (g : Nat) (fe : Fe) : Fs := fun env => (fe env).bind fun p => match p.1 with
  | .own o => (slfOf p.2).bind fun t => if t.1 = c ∧ f ∉ t.2.1 ∧ oneSlf p.2 = true ∧ t.2.1.length < 1000 ∧ g ≠ 0 ∧ p.2[g]?.any Option.isNone = true ∧ t.2.2.all (noLnk g) = true then
      some (.nx ((p.2.set g (some (.par o))).set 0 (some (.slf c (t.2.1 ++ [f]) (t.2.2 ++ [.lnk g]))))) else none
  | _ => none
theorem z_lnk (c : Str) (g : Nat) {f x : Str} {px pos' : Pos} {fe : Fe} (hg : ∀ x, X.N[g]? = some x → ¬ Vis X.env.scope x) (hC : Cls X.K (cl c)) (hA : NoAttr X.K (cl c) f) (hx : PE X (.Name x px) (tVar 0)) (he : PE X e (tR X.K cl fe))
    (hs : swapsWith e (some (.Attribute (.Name x px) f pos')) pos.line X.env = pure false := by rfl) : PS X (.Assign [.Attribute (.Name x px) f pos'] e pos) (tZ X.K cl (zlnkS c f g fe)) := by
  refine PS_weak (ps_ghost g hg (ps_fld hx he hs)) fun E σ H q => ?_
  obtain ⟨pa, F, R0, R, ad, env, env', h1, h2, S, hf, k⟩ := q
  unfold zlnkS at hf
  obtain ⟨⟨r1, e2⟩, h3, hf⟩ := Option.bind_eq_some_iff.mp hf
  dsimp only at hf
  split at hf
  · rename_i o
    obtain ⟨⟨c', ns, fs⟩, h5, hf⟩ := Option.bind_eq_some_iff.mp hf
    split at hf
    · rename_i hc
      obtain ⟨hc1, hc2, hc3, hc4, hc5, hc6, hc7⟩ := hc
      cases hf
      dsimp only at hc1 hc2 hc3 hc4 hc7
      subst hc1
      refine ⟨pa, F, R, ad, env, .own o, e2, S, h3, fun F1 ad1 H1 v l S1 a1 => ?_⟩
      obtain ⟨a, rfl, b1, b2, b3, b4⟩ := a1
      have h0 := slfOf_eq h5
      obtain ⟨g1, dx, vs, g2, g3, g4⟩ := S1.slf 0 _ ns fs h0
      refine ⟨.ref (pa 0), g1, pa 0, _, dx, _, rfl, S1.rh _ _ g2, hC, hA, by rw [List.length_zip, ← g3, Nat.min_self]; exact hc4, some (.ref a), ?_⟩
      have hgn : e2[g]? = some none := by
        cases e : e2[g]? with
        | none => rw [e] at hc6; cases hc6
        | some s => cases s with
          | none => rfl
          | some t => rw [e] at hc6; cases hc6
      have SL := S1.link hgn hc3 (fun c'' ns'' fs'' hh => by rw [h0] at hh; cases hh; exact hc7) b1 b2 b3 b4
      have hne : (0 : Nat) ≠ g := Ne.symm hc5
      have h0' : (e2.set g (some (Sl.par o)))[(0 : Nat)]? = some (some (Sl.slf c' ns fs)) := by rw [List.getElem?_set_ne hc5]; exact h0
      have hone' : oneSlf (e2.set g (some (Sl.par o))) = true := by
        cases e2 with
        | nil => cases hc3
        | cons s r =>
          cases g with
          | zero => exact absurd rfl hne
          | succ g =>
            show (r.set g (some (Sl.par o))).all (fun s => !isSlf s) = true
            rw [List.all_eq_true]
            intro z hz
            rcases List.mem_or_eq_of_mem_set hz with hz | rfl
            · exact List.all_eq_true.mp hc3 z hz
            · rfl
      obtain ⟨g1', dx', vs', g2', g3', g4'⟩ := SL.slf 0 _ ns fs h0'
      have ep : (if (0 : Nat) = g then a else pa 0) = pa 0 := if_neg hne
      have SP := SL.selfPut h0' hone' (by exact g1') (dx := dx) (vs := vs) (y := .ref a) (fv := .lnk g) (by show R (if (0 : Nat) = g then a else pa 0) = _; rw [ep]; exact g2) g3 (paired_lnk hc7 g4) hc2 (by show V.ref a = V.ref (if g = g then a else pa g); rw [if_pos rfl])
      simp only [if_neg hne] at SP
      refine k _ F1 _ _ _ _ ?_ l ?_ SP
      · exact if_neg hne
      · exact fun b u e => by rw [upd_ne (fun z => by rw [z, h2] at e; cases e)]; exact h1 b u e
    · cases hf
  · cases hf
/-- self.f.append(e) -/
def selfAppS (c f : Str) (fe : Fe) : Fs := fun env => (selfD c f env).bind fun r => match r with
  | .slot g => (lstOf env g).bind fun _ => (fe env).bind fun p => (kp p.2 (fz p.1)).bind fun q => (lstOf q.2 g).bind fun ds => if ds.length < 16777216 then some (.nx (setOC q.2 g (.lst (ds ++ [q.1])))) else none
  | _ => none
theorem qs_selfApp {c f : Str} {st : Stmt} {fe : Fe} (hC : Cls X.K (cl c)) (hA : NoAttr X.K (cl c) f) (h : PS X st (tDrop (tBM X.K "list" rAppend (tFld X.K (tVar 0) f) (tCons (tR X.K cl fe) tNil)))) : PS X st (tS X.K cl (selfAppS c f fe)) := by
  refine PS_weak h fun E σ H q => ?_
  obtain ⟨pa, F, R, ad, env, out, S, hf, k⟩ := q
  unfold selfAppS at hf
  obtain ⟨r, hr, hf⟩ := Option.bind_eq_some_iff.mp hf
  cases r with
  | slot g =>
    dsimp only at hf
    obtain ⟨dx, ns, vs, v, q1, q2, q3, q4⟩ := selfD_ok S hr
    obtain ⟨ds0, h0, hf⟩ := Option.bind_eq_some_iff.mp hf
    obtain ⟨⟨r1, e1⟩, h1, hf⟩ := Option.bind_eq_some_iff.mp hf
    obtain ⟨⟨d, e2⟩, h2, hf⟩ := Option.bind_eq_some_iff.mp hf
    obtain ⟨ds, h3, hf⟩ := Option.bind_eq_some_iff.mp hf
    split at hf
    · rename_i hl
      cases hf
      obtain ⟨w1, w2, w3, ws0, w4, w5⟩ := S.oc g _ (lstOf_eq h0)
      have ev : v = .ref (ad g) := by
        have : σ[g]? = some (some v) := q4
        rw [this] at w1; cases w1; rfl
      subst ev
      refine ⟨.ref (pa 0), q1, pa 0, _, dx, _, _, rfl, q2, hC, hA, q3, .inl ⟨rfl, ws0, SqL.of w4⟩, pa, F, R, ad, env, r1, e1, S, h1, fun F1 ad1 H1 v l S1 a1 => ?_⟩
      obtain ⟨F2, l2, S2, a2⟩ := S1.fzz a1
      obtain ⟨F3, l3, S3, a3⟩ := S2.keep a2 h2
      obtain ⟨z1, z2, z3, us, z4, z5⟩ := S3.oc g _ (lstOf_eq h3)
      have ea : ad g = ad1 g := by rw [w1] at z1; exact V.ref.inj (Option.some.inj (Option.some.inj z1))
      refine ⟨ad1 g, us, v, by rw [ea], rfl, z4, by rw [z5.length, sizeLine_eq]; exact hl, ?_⟩
      exact k F3 ad1 σ _ ((l.trans l2).trans l3) (S3.write (lstOf_eq h3) ⟨us ++ [v], upd_same, z5.append (.cons a3 .nil)⟩)
    · cases hf
  | dat d => cases hf
  | own o => cases hf
end
/-! ### what __init__ promises -/
def startI (N : List Str) (c : Str) (ds : List Z.D) : En := some (.slf c [] []) :: (ds.map (fun d => some (Sl.dat d)) ++ List.replicate (N.length - (ds.length + 1)) none)
def resF (e : En) : Fv → Option Z.D
  | .dat d => some d
  | .lnk g => match e[g]? with
    | some (some (Sl.par o)) => some o.d
    | _ => none
def resAll (e : En) : List Fv → Option (List Z.D)
  | [] => some []
  | f :: r => (resF e f).bind fun d => (resAll e r).bind fun ds => some (d :: ds)
def finI (c : Str) : Out → Option (List Str × List Z.D)
  | .nx e => (slfOf e).bind fun t => if t.1 = c then (resAll e t.2.2).bind fun ds => some (t.2.1, ds) else none
  | _ => none
def runI (N : List Str) (f : Fs) (c : Str) : List Z.D → Option (List Str × List Z.D) := fun ds => (f (startI N c ds)).bind (finI c)
section
variable {K : PySem.W.Frag} {cl : Str → Addr} {pa : Nat → Addr} {F R H : Hp} {σ : L2.St} {ad : Nat → Addr} {env : En}
/-- all that is told of is frozen -/
noncomputable def frozen (F H : Hp) (x : Addr) (ad : Nat → Addr) (env : En) : Hp := fun a => open Classical in if a = x ∨ ∃ g, (ocOf env g).isSome = true ∧ ad g = a then H a else F a
theorem frozen_le (S : RS K cl pa F R H σ ad env) (hx : F (pa 0) = none) : Le F (frozen F H (pa 0) ad env) := fun a o e => by
  unfold frozen
  split
  · exact S.fh a o e
  · exact e
theorem frozen_H (S : RS K cl pa F R H σ ad env) : Le (frozen F H (pa 0) ad env) H := fun a o e => by
  unfold frozen at e
  split at e
  · exact e
  · exact S.fh a o e
theorem frozen_fv (S : RS K cl pa F R H σ ad env) (hx : F (pa 0) = none) {v : V} {f : Fv} {d : Z.D} (h : FvAt K cl pa F v f) (hr : resF env f = some d) : At K cl (frozen F H (pa 0) ad env) v d := by
  cases f with
  | dat d' => cases hr; exact At.mono (frozen_le S hx) h
  | lnk g =>
    unfold resF at hr
    dsimp only at hr
    split at hr
    · rename_i o hg
      cases hr
      have ea := S.par g o hg
      obtain ⟨q1, q2, q3, q4⟩ := S.oc g o (oc_par hg)
      obtain rfl : v = .ref (pa g) := h
      rw [← ea]
      have hH : frozen F H (pa 0) ad env (ad g) = H (ad g) := by unfold frozen; rw [if_pos (.inr ⟨g, by rw [oc_par hg]; rfl, rfl⟩)]
      cases o with
      | lst ds => obtain ⟨vs, h1, h2⟩ := q4; exact .lst (hH.trans h1) (h2.mono (frozen_le S hx))
      | dct ks ds => obtain ⟨vs, h1, h2, h3⟩ := q4; exact .dt (hH.trans h1) h2 (h3.mono (frozen_le S hx))
    · cases hr
theorem frozen_all (S : RS K cl pa F R H σ ad env) (hx : F (pa 0) = none) : ∀ {vs : List V} {fs : List Fv} {ds : List Z.D}, Paired (FvAt K cl pa F) vs fs → resAll env fs = some ds → AtAll K cl (frozen F H (pa 0) ad env) vs ds
  | _, _, _, .nil, h => by cases h; exact .nil
  | _, f :: r, _, .cons a t, h => by
    unfold resAll at h
    obtain ⟨d, h1, h⟩ := Option.bind_eq_some_iff.mp h
    obtain ⟨ds, h2, h⟩ := Option.bind_eq_some_iff.mp h
    cases h
    exact .cons (frozen_fv S hx a h1) (frozen_all S hx t h2)
end
section
variable {P : Program} {w : World} {K : PySem.W.Frag} {cl : Str → Addr} {mg : Str → Option Value} {base : Heap}
theorem finI_eq {c : Str} {o : Out} {r : List Str × List Z.D} (h : finI c o = some r) : ∃ e ns fs es, o = .nx e ∧ slfOf e = some (c, ns, fs) ∧ resAll e fs = some es ∧ r = (ns, es) := by
  cases o with
  | nx e =>
    change ((slfOf e).bind fun t => if t.1 = c then (resAll e t.2.2).bind fun ds => some (t.2.1, ds) else none) = some r at h
    obtain ⟨⟨c', ns, fs⟩, h5, h⟩ := Option.bind_eq_some_iff.mp h
    dsimp only at h
    by_cases hc : c' = c
    · rw [if_pos hc] at h
      obtain ⟨es, h6, h7⟩ := Option.bind_eq_some_iff.mp h
      subst hc
      exact ⟨e, ns, fs, es, rfl, h5, h6, (Option.some.inj h7).symm⟩
    · rw [if_neg hc] at h; cases h
  | bk e => cases h
  | ct e => cases h
  | rt r e => cases h
theorem okI {x qual : Str} {st : Stmt} {f : Addr} {fd : FuncData} {N ps : List Str} {k : Nat} (c : Str) (body : Fs) (Fn : Fun K x qual st f fd) (S : FnScope N ps (defScope st)) (hN : ps.length ≤ N.length)
    (hd : ∀ (cdv : Value) (A : Around) (outer : List Env) (s : Shared) (H : Hp) (E : XK), Room k (A.deeper (envOfC qual (defScope st) s.heap.objs.size f cdv)) → PSs (cxOf CX0 P w K mg base N qual (defScope st) f cdv A outer s H E).nox (defBody st) (tZ K cl body)) :
    FnOk P w K mg base CX0 (k + 1) f fd ps (spI K cl c ps.length (runI N body c)) := by
  refine Fn.ok S (fun vs H Q E h => h.1) (fun cdv A outer s H vs Q E hr h => ⟨_, hd cdv A outer s H E hr, ?_⟩)
  obtain ⟨hl, F, R, p, dx, ws, ds, r, rfl, hm, h1, h2, h3, hx, hdx, hF, hR, hF2, hR2, hne, a, q⟩ := h
  unfold runI at hm
  obtain ⟨o, ho, hm⟩ := Option.bind_eq_some_iff.mp hm
  have hdl : ds.length + 1 ≤ N.length := by rw [← a.length]; simp only [List.length_cons] at hl; omega
  obtain ⟨N', n0, hNe⟩ : ∃ N' n0, N = n0 :: N' := by
    cases N with
    | nil => simp at hdl
    | cons n0 N' => exact ⟨N', n0, rfl⟩
  have e1 : startI N c ds = some (.slf c [] []) :: startE N' ds := by unfold startI startE; rw [hNe]; simp
  have e2 : L2.start N (.ref p :: ws) = some (.ref p) :: L2.start N' ws := by unfold L2.start; rw [hNe]; simp
  have hd' : ds.length ≤ N'.length := by rw [hNe] at hdl; simpa using hdl
  let R1 : Hp := upd R p (.ins (cl c) dx [])
  have hR1 : Le R R1 := Le.put hR
  have hR1H : Le R1 H := h2.into hx
  have hdj1 : ∀ a o, R1 a = some o → F a = none := fun b u e => by
    by_cases z : b = p
    · subst z; exact hF
    · change upd R p _ b = _ at e; rw [upd_ne z] at e; exact h3 b u e
  have S0 := RS.begin (K := K) (cl := cl) (N := N') a hd' h1 hR1H hdj1
  have hocs : ∀ i, ocOf (startE N' ds) i = none := fun i => by
    cases e : ocOf (startE N' ds) i with
    | none => rfl
    | some u =>
      unfold ocOf at e
      split at e
      · rename_i y; obtain ⟨d, v, z, _⟩ := startE_get a hd' i _ y; cases z
      · rename_i y; obtain ⟨d, v, z, _⟩ := startE_get a hd' i _ y; cases z
      · cases e
  have hoc1 : ∀ i, ocOf (startI N c ds) i = none := fun i => by
    rw [e1]
    cases i with
    | zero => rfl
    | succ i => exact hocs i
  have SM : RS K cl (fun _ => p) F R1 H (L2.start N (.ref p :: ws)) (fun _ => p) (startI N c ds) := by
    refine ⟨h1, hR1H, by rw [e1, e2, List.length_cons, List.length_cons, S0.len], fun i d e => ?_, fun i o e => ?_, fun i j hij hi hj => ?_, fun i o e => rfl, hdj1, fun i c' ns fs e => ?_⟩
    · rw [e1] at e
      cases i with
      | zero => cases e
      | succ i => rw [e2]; exact S0.dat i d e
    · rw [hoc1] at e; cases e
    · rw [hoc1] at hi; cases hi
    · rw [e1] at e
      cases i with
      | zero => cases e; rw [e2]; exact ⟨rfl, dx, [], upd_same, rfl, .nil⟩
      | succ i => obtain ⟨d', v, z, _⟩ := startE_get a hd' i _ e; cases z
  obtain ⟨e', ns, fs, es, rfl, h5, h6, rfl⟩ := finI_eq hm
  refine ⟨fun _ => p, F, R, R1, fun _ => p, _, e', hR1, hR, SM, ho, fun pa' F' R' ad' σ' H' e0 l r S' => ?_⟩
  obtain ⟨g1, dx', vs, g2, g3, g4⟩ := S'.slf 0 _ ns fs (slfOf_eq h5)
  have hFx := S'.dj _ _ g2
  have hH := S'.rh _ _ g2
  refine q (frozen F' H' (pa' 0) ad' e') H' (l.trans (frozen_le S' hFx)) (frozen_H S') (r.trans S'.rh) (fun b u e => ?_) ?_
  · unfold frozen
    rw [if_neg]
    · exact S'.dj b u (r b u e)
    · rintro (z | ⟨g, z1, z2⟩)
      · rw [z, e0, hR] at e; cases e
      · cases e3 : ocOf e' g with
        | none => rw [e3] at z1; cases z1
        | some t =>
          obtain ⟨_, _, y3, _⟩ := S'.oc g t e3
          rw [z2, r b u e] at y3; cases y3
  · have := frozen_all S' hFx g4 h6
    refine At.obj (dx := dx') (vs := vs) ?_ g3 this
    have e3 : pa' 0 = p := e0
    have e4 : frozen F' H' (pa' 0) ad' e' (pa' 0) = H' (pa' 0) := by unfold frozen; rw [if_pos (.inl rfl)]
    rw [hH, e3] at e4
    rw [e3]
    exact e4
end
end Z

set_option Elab.async false
set_option linter.all false
set_option maxRecDepth 100000
set_option maxHeartbeats 1000000
/-! Defs of the text and what they promise, bundled. -/
namespace Z
open PySem PySem.Spec PyProof.Rows L2
/-- a def of the top -/
structure FunG (K : PySem.W.Frag) (mg : Str → Option Value) (x : Str) (st : Stmt) : Prop where
  ex : ∃ a fd, Fun K x x st a fd ∧ mg x = some (.ref a)
/-- a method -/
structure MthG (K : PySem.W.Frag) (C : Addr) (x qual : Str) (st : Stmt) : Prop where
  ex : ∃ a fd, Fun K x qual st a fd ∧ Meth K C x a
/-- a class with its __init__ -/
structure MakG (K : PySem.W.Frag) (mg : Str → Option Value) (C : Addr) (c : Str) (qual : Str) (st : Stmt) : Prop where
  ex : ∃ a fd, Fun K "__init__" qual st a fd ∧ Mk K C a ∧ mg c = some (.ref C)
structure Cal (P : Program) (w : World) (K : PySem.W.Frag) (mg : Str → Option Value) (base : Heap) (x : Str) (k : Nat) (ps : List Str) (sp : Sp) : Prop where
  ex : ∃ a fd, FnOk P w K mg base CX0 k a fd ps sp ∧ Binds K fd ps [] ∧ mg x = some (.ref a) ∧ PySem.W.keepIn K (.ref a) = true
structure CalM (P : Program) (w : World) (K : PySem.W.Frag) (mg : Str → Option Value) (base : Heap) (C : Addr) (x : Str) (k : Nat) (ps : List Str) (sp : Sp) : Prop where
  ex : ∃ a fd, FnOk P w K mg base CX0 k a fd ps sp ∧ Binds K fd ps [] ∧ Meth K C x a
structure CalI (P : Program) (w : World) (K : PySem.W.Frag) (mg : Str → Option Value) (base : Heap) (C : Addr) (c : Str) (k : Nat) (ps : List Str) (sp : Sp) : Prop where
  ex : ∃ a fd, FnOk P w K mg base CX0 k a fd ps sp ∧ Binds K fd ps [] ∧ Mk K C a ∧ mg c = some (.ref C)
section
variable {X : Cx} {cl : Str → Addr} {e o : Expr} {es : List Expr} {p pos apos : Pos} {x : Str} {k n : Nat} {ps : List Str}
theorem pr_callC {m : List Z.D → Option Rt} {fs : Fa} (C : Cal X.prog X.w X.K X.mg X.base x k ps (spP X.K cl n m)) (hr : Room k X.A) (ha : PA X (e :: es) (tL X.K cl fs)) (hlen : ∀ (env : En) (rvs : List Rv) (env' : En), fs env = some (rvs, env') → rvs.length = n) (hg : Gl X x := by rfl)
    (hdb : (x == ("__debug__" : Str)) = false := by decide) (he : starEach (e :: es) X.env = (false, eval e X.env) :: starEach es X.env := by rfl) (hpl : (backTo pos (starEach es X.env)).any (·.1) = false := by rfl) :
    PE X (.Call (.Name x p) (e :: es) [] pos) (tR X.K cl (callP m fs)) := by
  obtain ⟨a, fd, G, b, gm, kp⟩ := C.ex
  exact pr_call (pe_call G hr hg gm kp b .nil pass0 ha hdb he hpl) hlen
theorem pr_callMC {m : OC → List Z.D → Option (Rt × OC)} {fs : Fa} (i : Nat) (C : Cal X.prog X.w X.K X.mg X.base x k ps (spM X.K cl n m)) (hr : Room k X.A) (ha : PA X (e :: es) (tL X.K cl fs)) (hlen : ∀ (env : En) (rvs : List Rv) (env' : En), fs env = some (rvs, env') → rvs.length = n) (hg : Gl X x := by rfl)
    (hdb : (x == ("__debug__" : Str)) = false := by decide) (he : starEach (e :: es) X.env = (false, eval e X.env) :: starEach es X.env := by rfl) (hpl : (backTo pos (starEach es X.env)).any (·.1) = false := by rfl) :
    PE X (.Call (.Name x p) (e :: es) [] pos) (tR X.K cl (callM m i fs)) := by
  obtain ⟨a, fd, G, b, gm, kp⟩ := C.ex
  exact pr_callM i (pe_call G hr hg gm kp b .nil pass0 ha hdb he hpl) hlen
theorem pr_methC {c mn : Str} {m : List Z.D → Option Rt} {fo : Fe} {fs : Fa} {pl : Sem Bool} (C : CalM X.prog X.w X.K X.mg X.base (cl c) mn k ps (spP X.K cl n m)) (hc : Cls X.K (cl c)) (hr : Room k X.A) (ho : PE X o (tR X.K cl fo)) (ha : PA X (e :: es) (tL X.K cl fs))
    (hlen : ∀ (env : En) (rvs : List Rv) (env' : En), fs env = some (rvs, env') → rvs.length + 1 = n)
    (hst : starEach (e :: es) X.env = (false, eval e X.env) :: starEach es X.env := by rfl) (hpl : (backTo pos (starEach es X.env)).any (·.1) = false := by rfl)
    (ht : eval (.Call (.Attribute o mn apos) (e :: es) [] pos) X.env = (do
      let ov ← eval o X.env
      standAt apos.atName
      let (f, first) ← holding [ov] (getMethod ov mn pl)
      callWith pos f first (backTo pos (starEach (e :: es) X.env)) (backToKw pos (keywordEach [] X.env))) := by rfl) :
    PE X (.Call (.Attribute o mn apos) (e :: es) [] pos) (tR X.K cl (methS c mn m fo fs)) := by
  obtain ⟨a, fd, G, b, hm⟩ := C.ex
  exact pr_meth (pe_meth ho hc hm G hr b .nil pass0 ha hst hpl ht) (fun _ _ _ q => q) hlen
theorem pr_makeC {c : Str} {m : List Z.D → Option (List Str × List Z.D)} {fs : Fa} (C : CalI X.prog X.w X.K X.mg X.base (cl c) c k ps (spI X.K cl c n m)) (hr : Room (k + 1) X.A) (ha : PA X (e :: es) (tL X.K cl fs))
    (hlen : ∀ (env : En) (rvs : List Rv) (env' : En), fs env = some (rvs, env') → rvs.length + 1 = n) (hg : Gl X c := by rfl) (hdb : (c == ("__debug__" : Str)) = false := by decide) (he : starEach (e :: es) X.env = (false, eval e X.env) :: starEach es X.env := by rfl)
    (hpl : (backTo pos (starEach es X.env)).any (·.1) = false := by rfl) : PE X (.Call (.Name c p) (e :: es) [] pos) (tR X.K cl (makS c m fs)) := by
  obtain ⟨a, fd, G, b, M, gm⟩ := C.ex
  exact pr_make (pe_make M G hr hg gm b .nil pass0 ha hdb he hpl) hlen
end
section
variable {P : Program} {w : World} {K : PySem.W.Frag} {cl : Str → Addr} {mg : Str → Option Value} {base : Heap} {x qual : Str} {st : Stmt} {N ps : List Str} {C : Addr}
abbrev BindsOf (x qual : Str) (st : Stmt) (ps : List Str) : Prop := ∀ (kV doc pm : Value) (an : Option Addr) (cdv ct : Value) (us : List Value), us.length = ps.length → bindArgs (PySem.W.fnOf x qual (defArgs st) (defBody st) (defScope st) .none kV doc pm an cdv ct) ⟨us, []⟩ = pure (ps.zip us)
theorem cal_P (k : Nat) {body : Fs} (F : FunG K mg x st) (S : FnScope N ps (defScope st)) (hN : ps.length ≤ N.length) (hb : BindsOf x x st ps)
    (hd : ∀ (f : Addr) (cdv : Value) (A : Around) (outer : List Env) (s : Shared) (H : Hp) (E : XK), Room k (A.deeper (envOfC x (defScope st) s.heap.objs.size f cdv)) → PSs (cxOf CX0 P w K mg base N x (defScope st) f cdv A outer s H E).nox (defBody st) (tS K cl body)) :
    Cal P w K mg base x (k + 1) ps (spP K cl ps.length (runP N body)) := by
  obtain ⟨a, fd, Fn, gm⟩ := F.ex
  exact ⟨a, fd, okP body Fn S hN (hd a), Fn.binds hb, gm, Fn.kp⟩
theorem cal_M (k : Nat) {body : Fs} (F : FunG K mg x st) (S : FnScope N ps (defScope st)) (hN : ps.length ≤ N.length) (hb : BindsOf x x st ps)
    (hd : ∀ (f : Addr) (cdv : Value) (A : Around) (outer : List Env) (s : Shared) (H : Hp) (E : XK), Room k (A.deeper (envOfC x (defScope st) s.heap.objs.size f cdv)) → PSs (cxOf CX0 P w K mg base N x (defScope st) f cdv A outer s H E).nox (defBody st) (tS K cl body)) :
    Cal P w K mg base x (k + 1) ps (spM K cl ps.length (runM N body)) := by
  obtain ⟨a, fd, Fn, gm⟩ := F.ex
  exact ⟨a, fd, okM body Fn S hN (hd a), Fn.binds hb, gm, Fn.kp⟩
theorem calm_P (k : Nat) {body : Fs} (F : MthG K C x qual st) (S : FnScope N ps (defScope st)) (hN : ps.length ≤ N.length) (hb : BindsOf x qual st ps)
    (hd : ∀ (f : Addr) (cdv : Value) (A : Around) (outer : List Env) (s : Shared) (H : Hp) (E : XK), Room k (A.deeper (envOfC qual (defScope st) s.heap.objs.size f cdv)) → PSs (cxOf CX0 P w K mg base N qual (defScope st) f cdv A outer s H E).nox (defBody st) (tS K cl body)) :
    CalM P w K mg base C x (k + 1) ps (spP K cl ps.length (runP N body)) := by
  obtain ⟨a, fd, Fn, hm⟩ := F.ex
  exact ⟨a, fd, okP body Fn S hN (hd a), Fn.binds hb, hm⟩
theorem cal_I (k : Nat) {c : Str} {body : Fs} (F : MakG K mg C c qual st) (S : FnScope N ps (defScope st)) (hN : ps.length ≤ N.length) (hb : BindsOf "__init__" qual st ps)
    (hd : ∀ (f : Addr) (cdv : Value) (A : Around) (outer : List Env) (s : Shared) (H : Hp) (E : XK), Room k (A.deeper (envOfC qual (defScope st) s.heap.objs.size f cdv)) → PSs (cxOf CX0 P w K mg base N qual (defScope st) f cdv A outer s H E).nox (defBody st) (tZ K cl body)) :
    CalI P w K mg base C c (k + 1) ps (spI K cl c ps.length (runI N body c)) := by
  obtain ⟨a, fd, Fn, M, gm⟩ := F.ex
  exact ⟨a, fd, okI c body Fn S hN (hd a), Fn.binds hb, M, gm⟩
theorem cal_0P {n : Nat} (F : FunG K mg x st) (hb : BindsOf x x st ps) : Cal P w K mg base x 0 ps (spP K cl n fun _ => none) := by
  obtain ⟨a, fd, Fn, gm⟩ := F.ex
  exact ⟨a, fd, ⟨fun vs H Q E ⟨_, _, _, _, _, z, _⟩ => (by cases z), fun A outer s H args us vs Q E _ _ _ _ ⟨_, _, _, _, _, z, _⟩ => (by cases z)⟩, Fn.binds hb, gm, Fn.kp⟩
theorem cal_0M {n : Nat} (F : FunG K mg x st) (hb : BindsOf x x st ps) : Cal P w K mg base x 0 ps (spM K cl n fun _ _ => none) := by
  obtain ⟨a, fd, Fn, gm⟩ := F.ex
  exact ⟨a, fd, ⟨fun vs H Q E ⟨_, _, _, _, _, _, _, _, _, z, _⟩ => (by cases z), fun A outer s H args us vs Q E _ _ _ _ ⟨_, _, _, _, _, _, _, _, _, z, _⟩ => (by cases z)⟩, Fn.binds hb, gm, Fn.kp⟩
theorem Cal.mono {j k : Nat} {sp : Sp} (C : Cal P w K mg base x j ps sp) (h : j ≤ k) : Cal P w K mg base x k ps sp := by
  obtain ⟨a, fd, G, r⟩ := C.ex
  exact ⟨a, fd, G.mono h, r⟩
end
end Z
namespace Z
open PySem PySem.Spec PyProof.Rows L2
theorem hu_room {k : Nat} {A : Around} (hr : Room k A) : A.units + 64 < cLine := by have := hr.un; omega
end Z

set_option Elab.async false
set_option linter.all false
set_option maxRecDepth 100000
set_option maxHeartbeats 1000000
/-! < of tuples of ints; reckoning with meanings. -/
namespace Z
open PySem PySem.Spec PyProof.Rows L2
section
variable {X : Cx} {K : PySem.W.Frag} {cl : Str → Addr}
def lt2G : Z.D → Z.D → Option Bool
  | .int i, .int j => some (decide (i < j))
  | .tup a, .tup b => (intsOf a).bind fun ns => (intsOf b).bind fun ms => some (HT.lexLt ns ms)
  | _, _ => none
def rLt2 (K : PySem.W.Frag) : R2 := fun x y H Q => rI0 (fun i j => .bl (decide (i < j))) x y H Q ∨ rLtT K x y H Q
theorem op_lt2 (hu : X.A.units + 64 < cLine) : OpR X (compareOp .Lt) (rLt2 X.K) := OpR_or op_lt (op_ltT (by omega))
theorem lt2_ok : Op2 K cl (bRes lt2G) (rLt2 K) := by
  intro F H x y d e rv Q le hx hy hg res
  obtain ⟨b, h1, hg⟩ := Option.bind_eq_some_iff.mp hg
  cases hg
  unfold lt2G at h1
  split at h1
  · cases h1; rw [at_int hx, at_int hy]; exact .inl ⟨_, _, rfl, rfl, res.dat0 (.bl _)⟩
  · obtain ⟨ns, h2, h1⟩ := Option.bind_eq_some_iff.mp h1
    obtain ⟨ms, h3, h1⟩ := Option.bind_eq_some_iff.mp h1
    cases h1
    rw [intsOf_eq h2] at hx
    rw [intsOf_eq h3] at hy
    obtain ⟨p, vs, rfl, e1, a1⟩ := at_tup hx
    obtain ⟨q, ws, rfl, e2, a2⟩ := at_tup hy
    rw [a1.intsV] at e1
    rw [a2.intsV] at e2
    exact .inr ⟨p, q, ns, ms, rfl, rfl, SqT.of (le _ _ e1), SqT.of (le _ _ e2), res.dat0 (.bl _)⟩
  · cases h1
end
/-! ### the meanings as rewriting rules -/
section
variable {env : En} {fa fb fc f : Fe} {g g' : Z.D → Z.D → Option Rv} {c c' : Z.D → Z.D → Option Bool} {t t' : Ft} {fs : Fa} {d e : Z.D} {ds es : List Z.D} {i j : Int} {k n : Nat} {rs : List Rv} {r : Rv} {b b' : Bool} {s s' : Fs} {o : OC} {gl : List Z.D → Option Rv} {gb : Fb} {gbs : Fbs} {vs : List Nat}
@[simp] theorem s_dlst : (OC.lst ds).d = .lst ds := rfl
@[simp] theorem s_fzo : fz (.own o) = .dat o.d := rfl
@[simp] theorem s_fzd : fz (.dat d) = .dat d := rfl
@[simp] theorem s_fzs : fz (.slot k) = .slot k := rfl
@[simp] theorem s_rvd : Rt.rv (.dat d) = .dat d := rfl
@[simp] theorem s_rvo : Rt.rv (.own o) = .own o := rfl
@[simp] theorem s_rdd : rd env (.dat d) = some d := rfl
@[simp] theorem s_rdo : rd env (.own o) = some o.d := rfl
@[simp] theorem s_rds : rd env (.slot k) = (match env[k]? with | some (some (.dat d)) => some d | some (some (.own o)) => some o.d | some (some (.par o)) => some o.d | _ => none) := rfl
@[simp] theorem s_kpd : kp env (.dat d) = some (d, env) := rfl
@[simp] theorem s_kpo : kp env (.own o) = some (o.d, env) := rfl
@[simp] theorem s_kps : kp env (.slot k) = (match env[k]? with | some (some (.dat d)) => some (d, env) | some (some (.own o)) => some (o.d, env.set k (some (.dat o.d))) | _ => none) := rfl
@[simp] theorem s_vS : vS k env = (match env[k]? with | some (some _) => some (.slot k, env) | _ => none) := rfl
@[simp] theorem s_cS : cS d env = some (.dat d, env) := rfl
@[simp] theorem s_bin2 : bin2 g fa fb env = ((fa env).bind fun p => (fb p.2).bind fun q => (rd q.2 (fz p.1)).bind fun d => (rd q.2 (fz q.1)).bind fun e => (g d e).bind fun r => some (r, q.2)) := rfl
@[simp] theorem s_cmpT : cmpT c fa fb env = ((fa env).bind fun p => (fb p.2).bind fun q => (rd q.2 (fz p.1)).bind fun d => (rd q.2 (fz q.1)).bind fun e => (c d e).bind fun r => some (r, q.2)) := rfl
@[simp] theorem s_bRes : bRes c d e = ((c d e).bind fun b => some (.dat (.bl b))) := rfl
@[simp] theorem s_chn : chn c c' fa fb fc env = ((fa env).bind fun p => (fb p.2).bind fun q => (rd q.2 (fz p.1)).bind fun d => (rd q.2 (fz q.1)).bind fun e => (c d e).bind fun r =>
    if r = true then (fc q.2).bind fun s => (rd s.2 (fz q.1)).bind fun e' => (rd s.2 (fz s.1)).bind fun h => (c' e' h).bind fun r' => some (r', s.2) else some (false, q.2)) := rfl
@[simp] theorem s_tV : tV t env = ((t env).bind fun p => some (.dat (.bl p.1), p.2)) := rfl
@[simp] theorem s_truS : truS f env = ((f env).bind fun p => (rd p.2 (fz p.1)).bind fun d => (truD d).bind fun b => some (b, p.2)) := rfl
@[simp] theorem s_notT : notT t env = ((t env).bind fun p => some (!p.1, p.2)) := rfl
@[simp] theorem s_andT : andT t t' env = ((t env).bind fun p => if p.1 = true then t' p.2 else some (false, p.2)) := rfl
@[simp] theorem s_orT : orT t t' env = ((t env).bind fun p => if p.1 = true then some (true, p.2) else t' p.2) := rfl
@[simp] theorem s_andS : andS fa fb env = ((fa env).bind fun p => (rd p.2 (fz p.1)).bind fun d => (truD d).bind fun b => if b = true then fb p.2 else some (fz p.1, p.2)) := rfl
@[simp] theorem s_orS : orS fa fb env = ((fa env).bind fun p => (rd p.2 (fz p.1)).bind fun d => (truD d).bind fun b => if b = true then some (fz p.1, p.2) else fb p.2) := rfl
@[simp] theorem s_notS : notS f env = ((f env).bind fun p => (rd p.2 (fz p.1)).bind fun d => (truD d).bind fun b => some (.dat (.bl (!b)), p.2)) := by
  unfold notS tV notT truS
  cases f env with
  | none => rfl
  | some p =>
    show Option.bind (Option.bind (Option.bind (rd p.2 (fz p.1)) _) _) _ = Option.bind (rd p.2 (fz p.1)) _
    cases rd p.2 (fz p.1) with
    | none => rfl
    | some d =>
      show Option.bind (Option.bind (Option.bind (truD d) _) _) _ = Option.bind (truD d) _
      cases truD d <;> rfl
@[simp] theorem s_ifS : ifS t fa fb env = ((t env).bind fun p => if p.1 = true then fa p.2 else fb p.2) := rfl
@[simp] theorem s_nilL : nilL env = some ([], env) := rfl
@[simp] theorem s_consL : consL f fs env = ((f env).bind fun p => (fs p.2).bind fun q => some (fz p.1 :: q.1, q.2)) := rfl
@[simp] theorem s_kpLn : kpL env [] = some ([], env) := rfl
@[simp] theorem s_kpLc : kpL env (r :: rs) = ((kp env r).bind fun p => (kpL p.2 rs).bind fun q => some (p.1 :: q.1, q.2)) := rfl
@[simp] theorem s_rdLn : rdL env [] = some [] := rfl
@[simp] theorem s_rdLc : rdL env (r :: rs) = ((rd env r).bind fun d => (rdL env rs).bind fun ds => some (d :: ds)) := rfl
@[simp] theorem s_tupS : tupS fs env = ((fs env).bind fun p => (kpL p.2 p.1).bind fun q => some (.dat (.tup q.1), q.2)) := rfl
@[simp] theorem s_lstS : lstS fs env = ((fs env).bind fun p => (kpL p.2 p.1).bind fun q => some (.own (.lst q.1), q.2)) := rfl
@[simp] theorem s_cbS : cbS gl fs env = ((fs env).bind fun p => (rdL p.2 p.1).bind fun ds => (gl ds).bind fun r => some (r, p.2)) := rfl
@[simp] theorem s_isS : isS b f env = ((f env).bind fun p => (rd p.2 (fz p.1)).bind fun d => some (isN d != b, p.2)) := rfl
@[simp] theorem s_un1 {g : Z.D → Option Rv} : un1 g f env = ((f env).bind fun p => (rd p.2 (fz p.1)).bind fun d => (g d).bind fun r => some (r, p.2)) := rfl
@[simp] theorem s_noO : noO env = some (none, env) := rfl
@[simp] theorem s_soO : soO f env = ((f env).bind fun p => (rd p.2 (fz p.1)).bind fun d => (intOf d).bind fun i => some (some i, p.2)) := rfl
@[simp] theorem s_intOf : intOf (.int i) = some i := rfl
@[simp] theorem s_slS {fl fh : Fo} : slS fa fl fh env = ((fa env).bind fun p => (fl p.2).bind fun q => (fh q.2).bind fun r => (rd r.2 (fz p.1)).bind fun d => (cutG d q.1 r.1).bind fun z => some (z, r.2)) := rfl
@[simp] theorem s_cutL {lo hi : Option Int} : cutG (.lst ds) lo hi = some (.own (.lst (cutD ds lo hi))) := rfl
@[simp] theorem s_cutT {lo hi : Option Int} : cutG (.tup ds) lo hi = some (.dat (.tup (cutD ds lo hi))) := rfl
@[simp] theorem s_callP {m : List Z.D → Option Rt} : callP m fs env = ((fs env).bind fun p => (kpL p.2 p.1).bind fun q => (m q.1).bind fun r => some (r.rv, q.2)) := rfl
@[simp] theorem s_callM {m : OC → List Z.D → Option (Rt × OC)} : callM m k fs env = ((fs env).bind fun p => match p.1 with
  | .slot j :: rest => if j = k then (kpL p.2 rest).bind fun q => (ocOf q.2 k).bind fun o => (m o q.1).bind fun r => some (r.1.rv, setOC q.2 k r.2) else none
  | _ => none) := rfl
@[simp] theorem s_ocOf : ocOf env k = (match env[k]? with | some (some (.own o)) => some o | some (some (.par o)) => some o | _ => none) := rfl
@[simp] theorem s_setOC : setOC env k o = (match env[k]? with | some (some (.par _)) => env.set k (some (.par o)) | _ => env.set k (some (.own o))) := rfl
@[simp] theorem s_lstOf : lstOf env k = (match ocOf env k with | some (.lst ds) => some ds | _ => none) := rfl
@[simp] theorem s_fldS {c x : Str} : fldS c x f env = ((f env).bind fun p => (rd p.2 (fz p.1)).bind fun d => (fldD c x d).bind fun d' => some (.dat d', p.2)) := rfl
@[simp] theorem s_fldD {c x c' : Str} {ns : List Str} : fldD c x (.obj c' ns ds) = if c' = c then (ns.zip ds).lookup x else none := rfl
@[simp] theorem s_methS {c x : Str} {m : List Z.D → Option Rt} : methS c x m f fs env = ((f env).bind fun p => (kp p.2 (fz p.1)).bind fun k => if methD c x k.1 = true then (fs k.2).bind fun q => (kpL q.2 q.1).bind fun s => (m (k.1 :: s.1)).bind fun r => some (r.rv, s.2) else none) := rfl
@[simp] theorem s_methD {c x c' : Str} {ns : List Str} : methD c x (.obj c' ns ds) = (decide (c' = c) && decide (x ∉ ns)) := rfl
@[simp] theorem s_makS {c : Str} {m : List Z.D → Option (List Str × List Z.D)} : makS c m fs env = ((fs env).bind fun p => (kpL p.2 p.1).bind fun q => (m q.1).bind fun r => some (.dat (.obj c r.1 r.2), q.2)) := rfl
-- operations
@[simp] theorem s_add : addG (.int i) (.int j) = some (.dat (.int (i + j))) := rfl
@[simp] theorem s_addT : addG (.tup ds) (.tup es) = if ds.length + es.length ≤ 16777216 then some (.dat (.tup (ds ++ es))) else none := rfl
@[simp] theorem s_addL : addG (.lst ds) (.lst es) = if ds.length + es.length ≤ 16777216 then some (.own (.lst (ds ++ es))) else none := rfl
@[simp] theorem s_sub : subG (.int i) (.int j) = some (.dat (.int (i - j))) := rfl
@[simp] theorem s_mul : mulG (.int i) (.int j) = if okMul i j = true then some (.dat (.int (i * j))) else none := rfl
@[simp] theorem s_mulL : mulG (.lst ds) (.int i) = if i.natAbs < 2 ^ 62 ∧ ds.length * i.toNat ≤ 16777216 then some (.own (.lst (List.replicate i.toNat ds).flatten)) else none := rfl
@[simp] theorem s_div : divG (.int i) (.int j) = if okDiv j = true then some (.dat (.int (i / j))) else none := rfl
@[simp] theorem s_mod : modG (.int i) (.int j) = if 0 < j then some (.dat (.int (i % j))) else none := rfl
@[simp] theorem s_neg : negG (.int i) = some (.dat (.int (-i))) := rfl
@[simp] theorem s_lt : ltG (.int i) (.int j) = some (decide (i < j)) := rfl
@[simp] theorem s_lt2 : lt2G (.int i) (.int j) = some (decide (i < j)) := rfl
@[simp] theorem s_lt2t : lt2G (.tup ds) (.tup es) = ((intsOf ds).bind fun ns => (intsOf es).bind fun ms => some (HT.lexLt ns ms)) := rfl
@[simp] theorem s_le : leG (.int i) (.int j) = some (decide (i ≤ j)) := rfl
@[simp] theorem s_gt : gtG (.int i) (.int j) = some (decide (j < i)) := rfl
@[simp] theorem s_ge : geG (.int i) (.int j) = some (decide (j ≤ i)) := rfl
@[simp] theorem s_eqi : eqG (.int i) (.int j) = some (decide (i = j)) := rfl
@[simp] theorem s_eqb : eqG (.bl b) (.bl b') = some (decide (b = b')) := rfl
@[simp] theorem s_eqni : eqG .non (.int j) = some false := rfl
@[simp] theorem s_eqin : eqG (.int j) .non = some false := rfl
@[simp] theorem s_ne : neG d e = (eqG d e).bind fun b => some (!b) := rfl
@[simp] theorem s_isn : isN .non = true := rfl
@[simp] theorem s_isi : isN (.int i) = false := rfl
@[simp] theorem s_ist : isN (.tup ds) = false := rfl
@[simp] theorem s_isl : isN (.lst ds) = false := rfl
@[simp] theorem s_isb : isN (.bl b) = false := rfl
@[simp] theorem s_ixL : ixG (.lst ds) (.int i) = (atI ds i).bind fun d => some (.dat d) := rfl
@[simp] theorem s_ixT : ixG (.tup ds) (.int i) = (atI ds i).bind fun d => some (.dat d) := rfl
@[simp] theorem s_lenL : lenG [.lst ds] = some (.dat (.int ds.length)) := rfl
@[simp] theorem s_lenT : lenG [.tup ds] = some (.dat (.int ds.length)) := rfl
@[simp] theorem s_int1 : intG [.int i] = some (.dat (.int i)) := rfl
@[simp] theorem s_abs1 : absG [.int i] = some (.dat (.int (if i < 0 then -i else i))) := rfl
@[simp] theorem s_tupL : tupleG [.lst ds] = some (.dat (.tup ds)) := rfl
@[simp] theorem s_tupT : tupleG [.tup ds] = some (.dat (.tup ds)) := rfl
@[simp] theorem s_lstL : listG [.lst ds] = some (.own (.lst ds)) := rfl
@[simp] theorem s_lstT : listG [.tup ds] = some (.own (.lst ds)) := rfl
@[simp] theorem s_all : allG [.lst ds] = (blsOf ds).bind fun bs => some (.dat (.bl (bs.all id))) := rfl
@[simp] theorem s_any : anyG [.lst ds] = (blsOf ds).bind fun bs => some (.dat (.bl (bs.any id))) := rfl
@[simp] theorem s_gcd : gcdG [.int i, .int j] = some (.dat (.int ((Nat.gcd i.natAbs j.natAbs : Nat) : Int))) := rfl
@[simp] theorem s_lcm : lcmG [.int i, .int j] = if i.natAbs < Big ∧ j.natAbs < Big then some (.dat (.int ((Nat.lcm i.natAbs j.natAbs : Nat) : Int))) else none := rfl
@[simp] theorem s_min : minG [.int i, .int j] = some (.dat (.int (if j < i then j else i))) := rfl
@[simp] theorem s_isi1 {x : Z.D} {m : String} : isiG [x, .ty m] = (kindD x).bind fun k => if okTy m = true then some (.dat (.bl (isTy k m))) else none := rfl
@[simp] theorem s_isi2 {x : Z.D} : isiG [x, .tup ds] = (kindD x).bind fun k => (tysOf ds).bind fun ns => if ns.all okTy = true then some (.dat (.bl (ns.any fun n => isTy k n))) else none := rfl
@[simp] theorem s_truN : truD .non = some false := rfl
@[simp] theorem s_truB : truD (.bl b) = some b := rfl
-- targets, loops
@[simp] theorem s_nmB : nmB k d env = if k < env.length then some (env.set k (some (.dat d))) else none := rfl
@[simp] theorem s_nilB : nilB [] env = some env := rfl
@[simp] theorem s_consB : consB gb gbs (d :: ds) env = (gb d env).bind fun e => gbs ds e := rfl
@[simp] theorem s_tupBt : tupB k gbs (.tup ds) env = if ds.length = k then gbs ds env else none := rfl
@[simp] theorem s_tupBl : tupB k gbs (.lst ds) env = if ds.length = k then gbs ds env else none := rfl
@[simp] theorem s_seqI : seqI f env = ((f env).bind fun p => (kp p.2 (fz p.1)).bind fun q => (itemsOf q.1).bind fun ds => some (ds, q.2)) := rfl
@[simp] theorem s_itL : itemsOf (.lst ds) = some ds := rfl
@[simp] theorem s_itT : itemsOf (.tup ds) = some ds := rfl
@[simp] theorem s_itS {ns : List Int} : itemsOf (.scr ns) = some (ns.map Z.D.int) := rfl
@[simp] theorem s_rng1 : rngI1 fs env = ((fs env).bind fun p => (rdL p.2 p.1).bind fun ds => match ds with
  | [.int j] => if j.natAbs < 2 ^ 61 then some (rngD 0 j.toNat, p.2) else none
  | _ => none) := rfl
@[simp] theorem s_rng2 : rngI2 fs env = ((fs env).bind fun p => (rdL p.2 p.1).bind fun ds => match ds with
  | [.int i, .int j] => if i.natAbs < 2 ^ 61 ∧ j.natAbs < 2 ^ 61 then some (rngD i (j - i).toNat, p.2) else none
  | _ => none) := rfl
@[simp] theorem s_rng3 : rngI3 fs env = ((fs env).bind fun p => (rdL p.2 p.1).bind fun ds => match ds with
  | [.int i, .int j, .int (-1)] => if i.natAbs < 2 ^ 61 ∧ j.natAbs < 2 ^ 61 then some (rngC i (-1) (i - j).toNat, p.2) else none
  | _ => none) := rfl
@[simp] theorem s_enm : enmI fs env = ((fs env).bind fun p => (kpL p.2 p.1).bind fun q => match q.1 with
  | [.lst ds] => some (enumD ds, q.2)
  | [.tup ds] => some (enumD ds, q.2)
  | _ => none) := rfl
@[simp] theorem s_wipe0 : wipeE env [] = env := rfl
@[simp] theorem s_wipe1 : wipeE env (k :: vs) = (wipeE env vs).set k none := rfl
@[simp] theorem s_back0 {env0 : En} : backE env0 env [] = env := rfl
@[simp] theorem s_back1 {env0 : En} : backE env0 env (k :: vs) = (backE env0 env vs).set k (match env0[k]? with | some (some (.dat d)) => some (.dat d) | _ => none) := rfl
@[simp] theorem s_lcS {fi : Fi} : lcS fi gb t f vs env = ((fi env).bind fun p => if p.1.length ≤ 16777215 then (lcGo gb t f vs p.1 [] p.2).bind fun q => some (.own (.lst q.1), backE p.2 q.2 vs) else none) := rfl
@[simp] theorem s_yesT : yesT env = some (true, env) := rfl
-- statements
@[simp] theorem s_done : doneS env = some (.nx env) := rfl
@[simp] theorem s_brk : brkS env = some (.bk env) := rfl
@[simp] theorem s_noS : noS env = none := rfl
@[simp] theorem s_seq : seqS s s' env = (s env).bind fun o => match o with
  | .nx e => s' e
  | .bk e => some (.bk e)
  | .ct e => some (.ct e)
  | .rt r e => some (.rt r e) := rfl
@[simp] theorem s_ret : retS f env = (f env).bind fun p => some (.rt p.1 p.2) := rfl
@[simp] theorem s_iff : iffS t s s' env = (t env).bind fun p => if p.1 = true then s p.2 else s' p.2 := rfl
@[simp] theorem s_drop : dropS f env = (f env).bind fun p => some (.nx p.2) := rfl
@[simp] theorem s_asg : asgS k f env = (f env).bind fun p => (setE k p).bind fun e => some (.nx e) := rfl
@[simp] theorem s_setE {p : Rv × En} : setE k p = (match p.1 with
  | .own o => if k < p.2.length then some (p.2.set k (some (.own o))) else none
  | .dat d => nmB k d p.2
  | .slot j => (kp p.2 (.slot j)).bind fun q => nmB k q.1 q.2) := rfl
@[simp] theorem s_asgT : asgT gb f env = (f env).bind fun p => (kp p.2 (fz p.1)).bind fun q => (gb q.1 q.2).bind fun e => some (.nx e) := rfl
@[simp] theorem s_par {l : Nat} : parS k l fs env = (fs env).bind fun p => (kpL p.2 p.1).bind fun q => match q.1 with
  | [d, e] => (nmB k d q.2).bind fun e1 => (nmB l e e1).bind fun e2 => some (.nx e2)
  | _ => none := rfl
@[simp] theorem s_loop {fi : Fi} : loopS fi gb s env = (fi env).bind fun p => forS gb s p.1 p.2 := rfl
@[simp] theorem s_app : appS k f env = (lstOf env k).bind fun _ => (f env).bind fun p => (kp p.2 (fz p.1)).bind fun q => (lstOf q.2 k).bind fun ds => if ds.length < 16777216 then some (.nx (setOC q.2 k (.lst (ds ++ [q.1])))) else none := rfl
@[simp] theorem s_put : putS k fa f env = (f env).bind fun p => (kp p.2 (fz p.1)).bind fun q => (lstOf q.2 k).bind fun _ => (fa q.2).bind fun r => (rd r.2 (fz r.1)).bind fun dk => (intOf dk).bind fun m => (lstOf r.2 k).bind fun ds => (ixN ds.length m).bind fun j => some (.nx (setOC r.2 k (.lst (ds.set j q.1)))) := rfl
@[simp] theorem s_finn : fin (.nx env) = some (.dat .non) := rfl
@[simp] theorem s_find : fin (.rt (.dat d) env) = some (.dat d) := rfl
@[simp] theorem s_fino : fin (.rt (.own o) env) = some (.own o) := rfl
@[simp] theorem s_fins : fin (.rt (.slot k) env) = (match env[k]? with | some (some (.dat d)) => some (.dat d) | some (some (.own o)) => some (.own o) | _ => none) := rfl
@[simp] theorem s_fin2 {x : Out} : fin2 x = (fin x).bind fun r => (parOf (outE x)).bind fun c => some (r, c) := rfl
@[simp] theorem s_parOf : parOf (some (.par o) :: env) = some o := rfl
@[simp] theorem s_outn : outE (.nx env) = env := rfl
@[simp] theorem s_outr : outE (.rt r env) = env := rfl
@[simp] theorem s_runP {N : List Str} : runP N s ds = (s (startE N ds)).bind fin := rfl
@[simp] theorem s_runM {N : List Str} : runM N s o ds = (s (startM N o ds)).bind fin2 := rfl
@[simp] theorem s_startE {N : List Str} : startE N ds = ds.map (fun d => some (Sl.dat d)) ++ List.replicate (N.length - ds.length) none := rfl
@[simp] theorem s_startM {N : List Str} : startM N o ds = some (.par o) :: (ds.map (fun d => some (Sl.dat d)) ++ List.replicate (N.length - (ds.length + 1)) none) := rfl
end
/-- the items of a short row by their places -/
@[simp] theorem at0 {α : Type} {x : α} {xs : List α} : atI (x :: xs) 0 = some x := by unfold atI ixN; simp
@[simp] theorem at1 {α : Type} {x y : α} {xs : List α} : atI (x :: y :: xs) 1 = some y := by
  unfold atI ixN
  rw [if_pos (by decide), if_pos (by simp only [List.length_cons]; omega)]
  rfl
@[simp] theorem at2 {α : Type} {x y z : α} {xs : List α} : atI (x :: y :: z :: xs) 2 = some z := by
  unfold atI ixN
  rw [if_pos (by decide), if_pos (by simp only [List.length_cons]; omega)]
  rfl
@[simp] theorem at3 {α : Type} {x y z u : α} {xs : List α} : atI (x :: y :: z :: u :: xs) 3 = some u := by
  unfold atI ixN
  rw [if_pos (by decide), if_pos (by simp only [List.length_cons]; omega)]
  rfl
@[simp] theorem ixN_0 {n : Nat} : ixN n 0 = if 0 < n then some 0 else none := by
  unfold ixN
  by_cases h : 0 < n
  · rw [if_pos h, if_pos (by decide), if_pos (by omega)]; rfl
  · rw [if_neg h, if_pos (by decide), if_neg (by omega)]
@[simp] theorem ixN_1 {n : Nat} : ixN n 1 = if 1 < n then some 1 else none := by
  unfold ixN
  by_cases h : 1 < n
  · rw [if_pos h, if_pos (by decide), if_pos (by omega)]; rfl
  · rw [if_neg h, if_pos (by decide), if_neg (by omega)]
@[simp] theorem ixN_2 {n : Nat} : ixN n 2 = if 2 < n then some 2 else none := by
  unfold ixN
  by_cases h : 2 < n
  · rw [if_pos h, if_pos (by decide), if_pos (by omega)]; rfl
  · rw [if_neg h, if_pos (by decide), if_neg (by omega)]
@[simp] theorem ixN_3 {n : Nat} : ixN n 3 = if 3 < n then some 3 else none := by
  unfold ixN
  by_cases h : 3 < n
  · rw [if_pos h, if_pos (by decide), if_pos (by omega)]; rfl
  · rw [if_neg h, if_pos (by decide), if_neg (by omega)]
end Z

set_option Elab.async false
set_option linter.all false
set_option maxRecDepth 100000
set_option maxHeartbeats 1000000
/-! Rules for reckoning with meanings: loops, comprehensions. -/
namespace Z
open PySem PySem.Spec PyProof.Rows L2
def Ok {α : Type} (x : Option α) (P : α → Prop) : Prop := ∃ a, x = some a ∧ P a
theorem Ok.mono {α : Type} {x : Option α} {P Q : α → Prop} (h : Ok x P) (k : ∀ a, P a → Q a) : Ok x Q := by
  obtain ⟨a, h1, h2⟩ := h; exact ⟨a, h1, k a h2⟩
theorem forS_ok {b : Fb} {f : Fs} (I : List Z.D → En → Prop) (P : Out → Prop)
    (step : ∀ d ds env, I (d :: ds) env → ∃ e1 o, b d env = some e1 ∧ f e1 = some o ∧ match o with
      | .nx e => I ds e
      | .ct e => I ds e
      | .bk e => P (.nx e)
      | .rt r e => P (.rt r e)) (stop : ∀ env, I [] env → P (.nx env)) : ∀ ds env, I ds env → Ok (forS b f ds env) P
  | [], env, h => ⟨_, rfl, stop env h⟩
  | d :: ds, env, h => by
    obtain ⟨e1, o, h1, h2, h3⟩ := step d ds env h
    unfold forS
    rw [h1, Option.bind_some, h2, Option.bind_some]
    cases o with
    | nx e => exact forS_ok I P step stop ds e h3
    | ct e => exact forS_ok I P step stop ds e h3
    | bk e => exact ⟨_, rfl, h3⟩
    | rt r e => exact ⟨_, rfl, h3⟩
/-- a loop whose body never leaves it -/
theorem forS_nx {b : Fb} {f : Fs} (I : List Z.D → En → Prop) (step : ∀ d ds env, I (d :: ds) env → ∃ e1 e2, b d env = some e1 ∧ f e1 = some (.nx e2) ∧ I ds e2) : ∀ ds env, I ds env → ∃ env', forS b f ds env = some (.nx env') ∧ I [] env'
  | [], env, h => ⟨_, rfl, h⟩
  | d :: ds, env, h => by
    obtain ⟨e1, o, h1, h2, h3⟩ := step d ds env h
    unfold forS
    rw [h1, Option.bind_some, h2, Option.bind_some]
    exact forS_nx I step ds o h3
theorem set_back {env : En} {i : Nat} {x : Option Sl} (h : env[i]? = some x) : env.set i x = env := by
  refine List.ext_getElem? fun j => ?_
  by_cases z : i = j
  · subst z; rw [List.getElem?_set_self (get_lt h), h]
  · rw [List.getElem?_set_ne z]
theorem lcGo_map {i : Nat} {f : Fe} {env1 : En} (r : Z.D → Z.D) (hi : i < env1.length) : ∀ (ds acc : List Z.D) (env : En), env.set i none = env1.set i none →
    (∀ d ∈ ds, ∃ rv, f (env1.set i (some (.dat d))) = some (rv, env1.set i (some (.dat d))) ∧ kp (env1.set i (some (.dat d))) (fz rv) = some (r d, env1.set i (some (.dat d)))) →
    lcGo (nmB i) yesT f [i] ds acc env = some (acc ++ ds.map r, env1.set i none)
  | [], acc, env, he, _ => by
    unfold lcGo
    rw [s_wipe1, s_wipe0, he, List.map_nil, List.append_nil]
  | d :: ds, acc, env, he, h => by
    obtain ⟨rv, h1, h2⟩ := h d (List.mem_cons_self ..)
    unfold lcGo
    rw [s_wipe1, s_wipe0, he]
    show (Option.bind (if i < (env1.set i none).length then some ((env1.set i none).set i (some (.dat d))) else none) _) = _
    rw [List.length_set, if_pos hi, Option.bind_some, List.set_set, s_yesT, Option.bind_some, if_pos rfl, h1, Option.bind_some, h2, Option.bind_some]
    rw [lcGo_map r hi ds (acc ++ [r d]) (env1.set i (some (.dat d))) (by rw [List.set_set]) (fun e he => h e (List.mem_cons_of_mem _ he)), List.map_cons, List.append_assoc]
    rfl
theorem lcS_map {fi : Fi} {i : Nat} {f : Fe} {env env1 : En} {ds : List Z.D} (r : Z.D → Z.D) (h1 : fi env = some (ds, env1)) (hl : ds.length ≤ 16777215) (hs : env1[i]? = some none ∨ ∃ d, env1[i]? = some (some (.dat d)))
    (h : ∀ d ∈ ds, ∃ rv, f (env1.set i (some (.dat d))) = some (rv, env1.set i (some (.dat d))) ∧ kp (env1.set i (some (.dat d))) (fz rv) = some (r d, env1.set i (some (.dat d)))) :
    lcS fi (nmB i) yesT f [i] env = some (.own (.lst (ds.map r)), env1) := by
  have hi : i < env1.length := by rcases hs with h | ⟨_, h⟩ <;> exact get_lt h
  rw [s_lcS, h1, Option.bind_some, if_pos hl, lcGo_map r hi ds [] env1 rfl h, Option.bind_some, List.nil_append]
  congr 2
  rw [s_back1, s_back0, List.set_set]
  rcases hs with h | ⟨d, h⟩
  · rw [h]; exact set_back h
  · rw [h]; exact set_back h
end Z

set_option Elab.async false
set_option linter.all false
set_option maxRecDepth 100000
set_option maxHeartbeats 1000000
/-! Nested data compared; dicts whose keys are tuples of ints. -/
namespace Z
open PySem PySem.Spec PyProof.Rows L2
mutual
def pyD : Z.D → Option PyData
  | .non => some .none
  | .bl b => some (.bool b)
  | .int i => some (.int i)
  | .str x => some (.str x)
  | .tup ds => (pyL ds).bind fun p => some (.tuple p)
  | .itup ns => some (.tuple (ns.map PyData.int))
  | .lst ds => (pyL ds).bind fun p => some (.list p)
  | _ => none
def pyL : List Z.D → Option (List PyData)
  | [] => some []
  | d :: r => (pyD d).bind fun p => (pyL r).bind fun q => some (p :: q)
end
section
variable {X : Cx} {K : PySem.W.Frag} {cl : Str → Addr} {F H : Hp}
theorem dps_ints : ∀ ns : List Int, DpAll K H (ns.map V.int) (ns.map PyData.int)
  | [] => .nil
  | _ :: r => .cons (.int _) (dps_ints r)
mutual
theorem dp_of (le : Le F H) : ∀ {v : V} {d : Z.D} {p : PyData}, At K cl F v d → pyD d = some p → Dp K H v p
  | _, _, _, .non, h => by unfold pyD at h; cases h; exact .non
  | _, _, _, .bl b, h => by unfold pyD at h; cases h; exact .bl b
  | _, _, _, .int i, h => by unfold pyD at h; cases h; exact .int i
  | _, _, _, .str x, h => by unfold pyD at h; cases h; exact .str x
  | _, _, _, .tup e a, h => by
    unfold pyD at h
    obtain ⟨q, h1, h2⟩ := Option.bind_eq_some_iff.mp h
    cases h2
    exact .tup (SqT.of (le _ _ e)) (dps_of le a h1)
  | _, _, _, .lst e a, h => by
    unfold pyD at h
    obtain ⟨q, h1, h2⟩ := Option.bind_eq_some_iff.mp h
    cases h2
    exact .lst (SqL.of (le _ _ e)) (dps_of le a h1)
  | _, _, _, .ty _, h => by unfold pyD at h; cases h
  | _, _, _, .scr _, h => by unfold pyD at h; cases h
  | _, _, _, .itup (ns := ns) e _, h => by
    unfold pyD at h
    cases h
    exact .tup (.inl (.inr ⟨_, le _ _ e⟩)) (dps_ints ns)
  | _, _, _, .dk _ _ _, h => by unfold pyD at h; cases h
  | _, _, _, .dt _ _ _, h => by unfold pyD at h; cases h
  | _, _, _, .obj _ _ _, h => by unfold pyD at h; cases h
theorem dps_of (le : Le F H) : ∀ {vs : List V} {ds : List Z.D} {ps : List PyData}, AtAll K cl F vs ds → pyL ds = some ps → DpAll K H vs ps
  | _, _, _, .nil, h => by unfold pyL at h; cases h; exact .nil
  | _, _, _, .cons a t, h => by
    unfold pyL at h
    obtain ⟨p, h1, h2⟩ := Option.bind_eq_some_iff.mp h
    obtain ⟨q, h3, h4⟩ := Option.bind_eq_some_iff.mp h2
    cases h4
    exact .cons (dp_of le a h1) (dps_of le t h3)
end
/-! ### < of tuples of alike data -/
def rLtDat (K : PySem.W.Frag) : R2 := fun x y H Q => ∃ p q, Dp K H x p ∧ Dp K H y q ∧ PySem.W.alike p q = true ∧ p ≠ .none ∧ p.depth ≤ 60 ∧ Q (.bl (PySem.W.dataLt p q)) H
theorem op_ltDat (hu : X.A.units + 64 < cLine) : OpR X (compareOp .Lt) (rLtDat X.K) := by
  intro pins s σ H x y v u Q I rx ry h
  obtain ⟨p, q, hp, hq, ha, hn, hd, k⟩ := h
  obtain ⟨as, r1⟩ := Dp.reads I p x v hp rx
  obtain ⟨bs, r2⟩ := Dp.reads I q y u hq ry
  exact PySem.W.lt_data r1 r2 ha hn (by omega) ⟨.bl _, H, I, rfl, k⟩
def lt3G : Z.D → Z.D → Option Bool
  | .int i, .int j => some (decide (i < j))
  | .tup a, .tup b => match intsOf a, intsOf b with
    | some ns, some ms => some (HT.lexLt ns ms)
    | _, _ => (pyL a).bind fun p => (pyL b).bind fun q => if PySem.W.alike (.tuple p) (.tuple q) = true ∧ (PyData.tuple p).depth ≤ 60 then some (PySem.W.dataLt (.tuple p) (.tuple q)) else none
  | _, _ => none
def rLt3 (K : PySem.W.Frag) : R2 := fun x y H Q => rLt2 K x y H Q ∨ rLtDat K x y H Q
theorem op_lt3 (hu : X.A.units + 64 < cLine) : OpR X (compareOp .Lt) (rLt3 X.K) := OpR_or (op_lt2 hu) (op_ltDat hu)
theorem lt3_ok : Op2 K cl (bRes lt3G) (rLt3 K) := by
  intro F H x y d e rv Q le hx hy hg res
  obtain ⟨b, h1, hg2⟩ := Option.bind_eq_some_iff.mp hg
  unfold lt3G at h1
  split at h1
  · exact .inl (lt2_ok F H x y _ _ rv Q le hx hy (by cases h1; exact hg2) res)
  · rename_i a b'
    split at h1
    · rename_i ns ms h2 h3
      refine .inl (lt2_ok F H x y _ _ rv Q le hx hy ?_ res)
      show Option.bind ((intsOf a).bind fun ns => (intsOf b').bind fun ms => some (HT.lexLt ns ms)) _ = _
      rw [h2, Option.bind_some, h3, Option.bind_some, h1]
      exact hg2
    · obtain ⟨p, h2, h1⟩ := Option.bind_eq_some_iff.mp h1
      obtain ⟨q, h3, h1⟩ := Option.bind_eq_some_iff.mp h1
      split at h1
      · rename_i hc
        cases h1
        cases hg2
        refine .inr ⟨.tuple p, .tuple q, ?_, ?_, hc.1, nofun, hc.2, res.dat0 (.bl _)⟩
        · exact dp_of le (show At K cl F x (.tup a) from hx) (by unfold pyD; rw [h2]; rfl)
        · exact dp_of le (show At K cl F y (.tup b') from hy) (by unfold pyD; rw [h3]; rfl)
      · cases h1
  · cases h1
/-! ### dicts -/
def keyD : Z.D → Option (List Key)
  | .tup ds => (intsOf ds).bind fun ns => some (ns.map Sum.inl)
  | _ => none
theorem key_at {y : V} {d : Z.D} {k : List Key} (le : Le F H) (h : AtT K cl F H y d) (hk : keyD d = some k) : ∃ b, y = .ref b ∧ H b = some (.tup (k.map kV)) := by
  unfold keyD at hk
  split at hk
  · obtain ⟨ns, h1, hk⟩ := Option.bind_eq_some_iff.mp hk
    cases hk
    rw [intsOf_eq h1] at h
    obtain ⟨a, vs, rfl, e, al⟩ := at_tup h
    rw [al.intsV] at e
    refine ⟨a, rfl, ?_⟩
    rw [le _ _ e, List.map_map]
    rfl
  · cases hk
section
variable {α : Type}
def valZ (ks : List (List Key)) (xs : List α) (k : List Key) : Option α := ((ks.zip xs).find? fun kv => decide (kv.1 = k)).map (·.2)
def putZ (ks : List (List Key)) (xs : List α) (k : List Key) (x : α) : List (List Key) × List α :=
  if (ks.any fun j => decide (j = k)) = true then (ks, List.zipWith (fun j y => if j = k then x else y) ks xs) else (ks ++ [k], xs ++ [x])
end
theorem valZ_at {k : List Key} : ∀ {ks : List (List Key)} {vs : List V} {ds : List Z.D}, AtAll K cl F vs ds → ks.length = vs.length →
    (valZ ks vs k).isSome = (valZ ks ds k).isSome ∧ ∀ d, valZ ks ds k = some d → ∃ v, valZ ks vs k = some v ∧ At K cl F v d
  | [], _, _, _, _ => ⟨by simp [valZ], fun d h => by simp [valZ] at h⟩
  | j :: ks, v :: vs, d :: ds, .cons a t, hl => by
    obtain ⟨h1, h2⟩ := valZ_at (k := k) (ks := ks) t (by simpa using hl)
    by_cases c : j = k
    · have e1 : ∀ {β : Type} (x : β) (xs : List β), valZ (j :: ks) (x :: xs) k = some x := fun x xs => by unfold valZ; simp [List.find?_cons, c]
      rw [e1, e1]
      exact ⟨rfl, fun d' h => by cases h; exact ⟨v, rfl, a⟩⟩
    · have e1 : ∀ {β : Type} (x : β) (xs : List β), valZ (j :: ks) (x :: xs) k = valZ ks xs k := fun x xs => by unfold valZ; simp [List.find?_cons, c]
      rw [e1, e1]
      exact ⟨h1, h2⟩
  | j :: ks, [], _, .nil, hl => by simp at hl
theorem valV_z {ks : List (List Key)} {vs : List V} {k : List Key} : valV (ks.zip vs) k = valZ ks vs k := rfl
theorem putK_z {k : List Key} {v : V} {ks : List (List Key)} {vs : List V} (hl : ks.length = vs.length) : putK (ks.zip vs) k v = (putZ ks vs k v).1.zip (putZ ks vs k v).2 := by
  have e1 : ∀ (ks : List (List Key)) (vs : List V), ks.length = vs.length → ((ks.zip vs).any fun kv => decide (kv.1 = k)) = ks.any fun j => decide (j = k) := by
    intro ks
    induction ks with
    | nil => intro vs h; simp
    | cons j ks ih =>
      intro vs h
      cases vs with
      | nil => simp at h
      | cons v vs => rw [List.zip_cons_cons, List.any_cons, List.any_cons, ih vs (by simpa using h)]
  have e2 : ∀ (ks : List (List Key)) (vs : List V), (ks.zip vs).map (fun kv => if kv.1 = k then (kv.1, v) else kv) = ks.zip (List.zipWith (fun j y => if j = k then v else y) ks vs) := by
    intro ks
    induction ks with
    | nil => intro vs; simp
    | cons j ks ih =>
      intro vs
      cases vs with
      | nil => simp
      | cons w vs =>
        rw [List.zip_cons_cons, List.map_cons, List.zipWith_cons_cons, List.zip_cons_cons, ih]
        congr 1
        dsimp only
        split <;> rfl
  unfold putK putZ
  rw [e1 ks vs hl]
  split
  · exact e2 ks vs
  · rw [List.zip_append hl]
    rfl
theorem putZ_len {β : Type} {k : List Key} {x : β} {ks : List (List Key)} {xs : List β} (hl : ks.length = xs.length) : (putZ ks xs k x).1.length = (putZ ks xs k x).2.length := by
  unfold putZ
  split
  · simp [hl]
  · simp [hl]
theorem putZ_fst {β γ : Type} {k : List Key} {x : β} {y : γ} {ks : List (List Key)} {xs : List β} {ys : List γ} : (putZ ks xs k x).1 = (putZ ks ys k y).1 := by
  unfold putZ
  split <;> rfl
theorem putZ_at {k : List Key} {v : V} {d : Z.D} {ks : List (List Key)} {vs : List V} {ds : List Z.D} (a : At K cl F v d) (al : AtAll K cl F vs ds) : AtAll K cl F (putZ ks vs k v).2 (putZ ks ds k d).2 := by
  have e : ∀ (ks : List (List Key)) {vs : List V} {ds : List Z.D}, AtAll K cl F vs ds → AtAll K cl F (List.zipWith (fun j y => if j = k then v else y) ks vs) (List.zipWith (fun j y => if j = k then d else y) ks ds) := by
    intro ks
    induction ks with
    | nil => intro vs ds h; simp; exact .nil
    | cons j ks ih =>
      intro vs ds h
      cases h with
      | nil => simp; exact .nil
      | cons b t =>
        rw [List.zipWith_cons_cons, List.zipWith_cons_cons]
        refine .cons ?_ (ih t)
        split
        · exact a
        · exact b
  unfold putZ
  split
  · exact e ks al
  · exact al.append (.cons a .nil)
theorem at_dt {x : V} {ks : List (List Key)} {ds : List Z.D} (h : AtT K cl F H x (.dt ks ds)) : ∃ a vs, x = .ref a ∧ H a = some (.dT (ks.zip vs)) ∧ ks.length = vs.length ∧ AtAll K cl F vs ds := h
def rDG : R2 := fun x y H Q => ∃ a v, x = .ref a ∧ DGet H a y (some v) ∧ Q v H
def dgG : Z.D → Z.D → Option Rv
  | .dt ks ds, e => (keyD e).bind fun k => (valZ ks ds k).bind fun d => some (.dat d)
  | _, _ => none
theorem dg_ok : Op2 K cl dgG rDG := by
  intro F H x y d e rv Q le hx hy hg res
  unfold dgG at hg
  split at hg
  · obtain ⟨k, h1, hg⟩ := Option.bind_eq_some_iff.mp hg
    obtain ⟨d', h2, hg⟩ := Option.bind_eq_some_iff.mp hg
    cases hg
    obtain ⟨a, vs, rfl, e1, hl, al⟩ := at_dt hx
    obtain ⟨b, rfl, e2⟩ := key_at le hy h1
    obtain ⟨v, h3, h4⟩ := (valZ_at (k := k) al hl).2 d' h2
    exact ⟨a, v, rfl, .inr ⟨_, k, b, .inl e1, rfl, e2, h3.symm⟩, res.dat0 h4⟩
  · cases hg
theorem pr_dg {a b : Expr} {pos : Pos} {fa fb : Fe} (hu : X.A.units + 64 < cLine) (ha : PE X a (tR X.K cl fa)) (hb : PE X b (tR X.K cl fb)) (hs : NoSl b) : PE X (.Subscript a b pos) (tR X.K cl (bin2 dgG fa fb)) :=
  PE_weak (pe_dget (by omega) ha hb hs) (bin2_op dg_ok)
def rDI (neg : Bool) : R2 := fun y x H Q => ∃ a o, x = .ref a ∧ DGet H a y o ∧ Q (.bl (o.isSome != neg)) H
def diG (neg : Bool) : Z.D → Z.D → Option Bool
  | e, .dt ks ds => (keyD e).bind fun k => some ((valZ ks ds k).isSome != neg)
  | _, _ => none
theorem di_ok {neg : Bool} : Op2 K cl (bRes (diG neg)) (rDI neg) := by
  intro F H x y d e rv Q le hx hy hg res
  obtain ⟨b, h1, hg⟩ := Option.bind_eq_some_iff.mp hg
  cases hg
  unfold diG at h1
  split at h1
  · obtain ⟨k, h2, h1⟩ := Option.bind_eq_some_iff.mp h1
    cases h1
    obtain ⟨a, vs, rfl, e1, hl, al⟩ := at_dt hy
    obtain ⟨b, rfl, e2⟩ := key_at le hx h2
    refine ⟨a, valZ _ vs k, rfl, .inr ⟨_, k, b, .inl e1, rfl, e2, rfl⟩, ?_⟩
    rw [(valZ_at (k := k) al hl).1]
    exact res.dat0 (.bl _)
  · cases h1
theorem cmpT_op {g : Z.D → Z.D → Option Bool} {r : R2} {fa fb : Fe} (hs : Op2 X.K cl (bRes g) r) : ∀ σ H Q, tT X.K cl (cmpT g fa fb) σ H Q → tOp r (tR X.K cl fa) (tR X.K cl fb) σ H (fun v H' => ∃ c, v = .bl c ∧ Q c H') := by
  rintro σ H Q ⟨pa, F, R, ad, env, b, env', S, hf, k⟩
  unfold cmpT at hf
  obtain ⟨⟨r1, e1⟩, h1, hf⟩ := Option.bind_eq_some_iff.mp hf
  obtain ⟨⟨r2, e2⟩, h2, hf⟩ := Option.bind_eq_some_iff.mp hf
  obtain ⟨d1, h3, hf⟩ := Option.bind_eq_some_iff.mp hf
  obtain ⟨d2, h4, hf⟩ := Option.bind_eq_some_iff.mp hf
  obtain ⟨rr, h5, hf⟩ := Option.bind_eq_some_iff.mp hf
  cases hf
  refine bin2_op hs σ H _ ⟨pa, F, R, ad, env, .dat (.bl b), e2, S, ?_, fun F' ad' H' v l S' a' => ⟨b, ?_, k F' ad' H' l S'⟩⟩
  · unfold bin2
    rw [h1, Option.bind_some, h2, Option.bind_some, h3, Option.bind_some, h4, Option.bind_some]
    unfold bRes
    rw [h5]
    rfl
  · cases a'; rfl
theorem di_in {σ : L2.St} {H : Hp} {Q : VK} {ty td : TE} (q : tOp (rDI false) ty td σ H Q) (m : ∀ σ H (P P' : VK), ty σ H P → (∀ v H, P v H → P' v H) → ty σ H P') (m2 : ∀ σ H (P P' : VK), td σ H P → (∀ v H, P v H → P' v H) → td σ H P') : tDIn ty td σ H Q :=
  m σ H _ _ q fun y H1 q1 => m2 σ H1 _ _ q1 fun x H2 ⟨a, o, ex, g, k⟩ => ⟨a, o, ex, g, by simpa using k⟩
theorem tR_mono {f : Fe} : ∀ σ H (P P' : VK), tR K cl f σ H P → (∀ v H, P v H → P' v H) → tR K cl f σ H P' := by
  rintro σ H P P' ⟨pa, F, R, ad, env, rv, env', S, hf, k⟩ w
  exact ⟨pa, F, R, ad, env, rv, env', S, hf, fun F' ad' H' v l S' a' => w _ _ (k F' ad' H' v l S' a')⟩
theorem di_notin {σ : L2.St} {H : Hp} {Q : VK} {ty td : TE} (q : tOp (rDI true) ty td σ H Q) (m : ∀ σ H (P P' : VK), ty σ H P → (∀ v H, P v H → P' v H) → ty σ H P') (m2 : ∀ σ H (P P' : VK), td σ H P → (∀ v H, P v H → P' v H) → td σ H P') : tDNotIn ty td σ H Q :=
  m σ H _ _ q fun y H1 q1 => m2 σ H1 _ _ q1 fun x H2 ⟨a, o, ex, g, k⟩ => ⟨a, o, ex, g, by simpa using k⟩
theorem pr_din {a b : Expr} {pos : Pos} {fa fb : Fe} (hu : X.A.units + 64 < cLine) (ha : PE X a (tR X.K cl fa)) (hb : PE X b (tR X.K cl fb)) (h1 : behindInMarks .In b = false := by first | exact nobehind _ (by decide) (by decide) | rfl) : PE X (.Compare a [.In] [b] pos) (tR X.K cl (bin2 (bRes (diG false)) fa fb)) :=
  PE_weak (pe_cmp (pc_din (by omega) ha hb) h1) fun σ H Q q => di_in (bin2_op (di_ok (neg := false)) σ H Q q) tR_mono tR_mono
theorem pr_dni {a b : Expr} {pos : Pos} {fa fb : Fe} (hu : X.A.units + 64 < cLine) (ha : PE X a (tR X.K cl fa)) (hb : PE X b (tR X.K cl fb)) (h1 : behindInMarks .NotIn b = false := by first | exact nobehind _ (by decide) (by decide) | rfl) : PE X (.Compare a [.NotIn] [b] pos) (tR X.K cl (bin2 (bRes (diG true)) fa fb)) :=
  PE_weak (pe_cmp (pc_dnotin (by omega) ha hb) h1) fun σ H Q q => di_notin (bin2_op (di_ok (neg := true)) σ H Q q) tR_mono tR_mono
theorem pq_din {a b : Expr} {pos : Pos} {fa fb : Fe} (hu : X.A.units + 64 < cLine) (ha : PE X a (tR X.K cl fa)) (hb : PE X b (tR X.K cl fb)) (h1 : behindInMarks .In b = false := by first | exact nobehind _ (by decide) (by decide) | rfl) : PT X (.Compare a [.In] [b] pos) (tT X.K cl (cmpT (diG false) fa fb)) :=
  PT_weak (pt_cmp (pc_din (by omega) ha hb) h1) fun σ H Q q => di_in (cmpT_op (di_ok (neg := false)) σ H Q q) tR_mono tR_mono
theorem pq_dni {a b : Expr} {pos : Pos} {fa fb : Fe} (hu : X.A.units + 64 < cLine) (ha : PE X a (tR X.K cl fa)) (hb : PE X b (tR X.K cl fb)) (h1 : behindInMarks .NotIn b = false := by first | exact nobehind _ (by decide) (by decide) | rfl) : PT X (.Compare a [.NotIn] [b] pos) (tT X.K cl (cmpT (diG true) fa fb)) :=
  PT_weak (pt_cmp (pc_dnotin (by omega) ha hb) h1) fun σ H Q q => di_notin (cmpT_op (di_ok (neg := true)) σ H Q q) tR_mono tR_mono
/-- {} -/
def newDS : Fe := fun env => some (.own (.dct [] []), env)
theorem pr_dnew {pos : Pos} : PE X (.Dict [] [] pos) (tR X.K cl newDS) := by
  refine PE_weak pe_dnewT fun σ H Q q => ?_
  obtain ⟨pa, F, R, ad, env, rv, env', S, hf, k⟩ := q
  cases hf
  intro p hp
  have res : Res X.K cl F H (.own (.dct [] [])) Q := S.res fun F3 ad3 H3 v le3 S3 a3 => k F3 ad3 H3 v le3 S3 a3
  exact res.dtN hp
/-- x[k] = e, x a dict -/
def dctOf (env : En) (i : Nat) : Option (List (List Key) × List Z.D) := match ocOf env i with
  | some (.dct ks ds) => some (ks, ds)
  | _ => none
theorem dctOf_eq {env : En} {i : Nat} {t : List (List Key) × List Z.D} (h : dctOf env i = some t) : ocOf env i = some (.dct t.1 t.2) := by
  unfold dctOf at h
  split at h
  · cases h; assumption
  · cases h
def putDS (i : Nat) (fk f : Fe) : Fs := fun env => (f env).bind fun p => (kp p.2 (fz p.1)).bind fun q => (dctOf q.2 i).bind fun _ => (fk q.2).bind fun r => (rd r.2 (fz r.1)).bind fun dk => (keyD dk).bind fun k => (dctOf r.2 i).bind fun t =>
  if t.1.length < 16777216 then some (.nx (setOC r.2 i (.dct (putZ t.1 t.2 k q.1).1 (putZ t.1 t.2 k q.1).2))) else none
theorem qs_dput {i : Nat} {st : Stmt} {fk f : Fe} (h : PS X st (sDPut (tVar i) (tR X.K cl fk) (tR X.K cl f))) : PS X st (tS X.K cl (putDS i fk f)) := by
  refine PS_weak h fun E σ H q => ?_
  obtain ⟨pa, F, R, ad, env, out, S, hf, k⟩ := q
  unfold putDS at hf
  obtain ⟨⟨r1, e1⟩, h1, hf⟩ := Option.bind_eq_some_iff.mp hf
  obtain ⟨⟨d, e2⟩, h2, hf⟩ := Option.bind_eq_some_iff.mp hf
  obtain ⟨t0, h0, hf⟩ := Option.bind_eq_some_iff.mp hf
  obtain ⟨⟨r3, e3⟩, h3, hf⟩ := Option.bind_eq_some_iff.mp hf
  obtain ⟨d4, h4, hf⟩ := Option.bind_eq_some_iff.mp hf
  obtain ⟨kk, h5, hf⟩ := Option.bind_eq_some_iff.mp hf
  obtain ⟨⟨ks, ds⟩, h6, hf⟩ := Option.bind_eq_some_iff.mp hf
  split at hf
  · rename_i hlt
    cases hf
    refine ⟨pa, F, R, ad, env, r1, e1, S, h1, fun F1 ad1 H1 v l S1 a1 => ?_⟩
    obtain ⟨F2, l2, S2, a2⟩ := S1.fzz a1
    obtain ⟨F3, l3, S3, a3⟩ := S2.keep a2 h2
    obtain ⟨q1, q2, q3, vs0, q4, q5⟩ := S3.oc i _ (dctOf_eq h0)
    refine ⟨.ref (ad1 i), q1, pa, F3, R, ad1, e2, r3, e3, S3, h3, fun F4 ad4 H4 u l4 S4 a4 => ?_⟩
    obtain ⟨F5, l5, S5, a5⟩ := S4.fzz a4
    have t := S5.read a5 h4
    obtain ⟨b, rfl, eb⟩ := key_at S5.fh t h5
    obtain ⟨z1, z2, z3, vs, z4, z5, z6⟩ := S5.oc i _ (dctOf_eq h6)
    have ea : ad1 i = ad4 i := by rw [q1] at z1; exact V.ref.inj (Option.some.inj (Option.some.inj z1))
    have hkl : (ks.zip vs).length < sizeLine := by
      rw [List.length_zip, ← z5, Nat.min_self, sizeLine_eq]; exact hlt
    refine ⟨ad4 i, _, by rw [ea], .inr ⟨_, kk, b, z4, rfl, eb, hkl, rfl⟩, ?_⟩
    refine k F5 ad4 σ _ ((((l.trans l2).trans l3).trans l4).trans l5) (S5.write (dctOf_eq h6) ⟨(putZ ks vs kk v).2, ?_, ?_, putZ_at (a3.mono (l4.trans l5)) z6⟩)
    · rw [upd_same, putK_z z5, putZ_fst (x := v) (y := d) (ys := ds)]
    · rw [putZ_fst (x := d) (y := v) (ys := vs)]; exact putZ_len z5
  · cases hf
/-- x[::-1], a list -/
def revS (f : Fe) : Fe := fun env => (f env).bind fun p => (rd p.2 (fz p.1)).bind fun d => match d with
  | .lst ds => some (.own (.lst ds.reverse), p.2)
  | _ => none
theorem pr_rev {st : Expr} {f : Fe} (h : PE X st (tRevL X.K (tR X.K cl f))) : PE X st (tR X.K cl (revS f)) := by
  refine PE_weak h fun σ H Q q => ?_
  obtain ⟨pa, F, R, ad, env, rv, env', S, hf, k⟩ := q
  unfold revS at hf
  obtain ⟨⟨r1, e1⟩, h1, hf⟩ := Option.bind_eq_some_iff.mp hf
  obtain ⟨d, h2, hf⟩ := Option.bind_eq_some_iff.mp hf
  dsimp only at hf
  split at hf
  · rename_i ds
    cases hf
    refine ⟨pa, F, R, ad, env, r1, _, S, h1, fun F1 ad1 H1 v l S1 a1 => ?_⟩
    obtain ⟨F2, l2, S2, a2⟩ := S1.fzz a1
    obtain ⟨a, vs, rfl, e, al⟩ := (show ∃ a vs, v = .ref a ∧ H1 a = some (.lst vs) ∧ AtAll X.K cl F2 vs ds from S2.read a2 h2)
    refine ⟨a, vs, rfl, SqL.of e, fun p hp => ?_⟩
    have res : Res X.K cl F2 H1 (.own (.lst ds.reverse)) Q := S2.res fun F3 ad3 H3 v le3 S3 a3 => k F3 ad3 H3 v ((l.trans l2).trans le3) S3 a3
    exact res.lst hp al.reverse
  · cases hf
end
theorem hu1 {n : Nat} (h : n + 64 < cLine) : n + 1 < cLine := by omega
/-! ### a op b op c op d, as a test -/
section
variable {X : Cx} {cl : Str → Addr} {a b c d o : Expr} {pos : Pos} {ta tb tc td : TE} {fa fb fc fd : Fe}
def tChain3 (r r' r'' : R2) (ta tb tc td : TE) (σ : L2.St) (H : Hp) (Q : Bool → Hp → Prop) : Prop := ta σ H fun x H1 => tb σ H1 fun y H2 => r x y H2 fun z H3 => ∃ k, z = .bl k ∧
  (if k = true then tc σ H3 fun w H4 => r' y w H4 fun z' H5 => ∃ k', z' = .bl k' ∧ (if k' = true then td σ H5 fun v H6 => r'' w v H6 fun z2 H7 => ∃ k2, z2 = .bl k2 ∧ Q k2 H7 else Q false H5) else Q false H3)
theorem pt_chain3 {o1 o2 o3 : CmpOp} {r r' r'' : R2} (h1 : OpR X (compareOp o1) r) (h2 : OpR X (compareOp o2) r') (h3 : OpR X (compareOp o3) r'') (ha : PE X a ta) (hb : PE X b tb) (hc : PE X c tc) (hd : PE X d td)
    (hm : lastMarks [o1, o2, o3] [b, c, d] = false := by with_unfolding_all rfl) : PT X (.Compare a [o1, o2, o3] [b, c, d] pos) (tChain3 r r' r'' ta tb tc td) := by
  refine ⟨fun pins s σ H Q I h => ?_⟩
  refine isTrue_chain (thn (ha.run pins s σ H _ I h) fun v s1 ⟨x, H1, I1, r1, q1⟩ => ?_) hm
  refine test_link (thn (hb.run pins s1 σ H1 _ I1 q1) fun u s2 ⟨y, H2, I2, r2, q2⟩ => ?_)
  refine thn (h1 pins s2 σ H2 x y v u _ I2 r1 r2 q2) fun d1 s3 ⟨z, H3, I3, r3, k, ez, q3⟩ => ?_
  subst ez
  cases r3
  refine wpAny_truthy_bool ?_
  cases k with
  | false => exact ite_ff ⟨H3, I3, q3⟩
  | true =>
    refine ite_tt (test_link (thn (hc.run pins s3 σ H3 _ I3 q3) fun w s4 ⟨y', H4, I4, r4, q4⟩ => ?_))
    refine thn (h2 pins s4 σ H4 y y' u w _ I4 r2 r4 q4) fun d2 s5 ⟨z', H5, I5, r5, k', ez', q5⟩ => ?_
    subst ez'
    cases r5
    refine wpAny_truthy_bool ?_
    cases k' with
    | false => exact ite_ff ⟨H5, I5, q5⟩
    | true =>
      refine ite_tt (test_last (thn (hd.run pins s5 σ H5 _ I5 q5) fun w2 s6 ⟨y2, H6, I6, r6, q6⟩ => ?_))
      refine thn (h3 pins s6 σ H6 y' y2 w w2 _ I6 r4 r6 q6) fun d3 s7 ⟨z2, H7, I7, r7, k2, ez2, q7⟩ => ?_
      subst ez2
      cases r7
      exact wpAny_truthy_bool ⟨H7, I7, q7⟩
def chn3 (g g' g'' : Z.D → Z.D → Option Bool) (fa fb fc fd : Fe) : Ft := fun env =>
  (fa env).bind fun p => (fb p.2).bind fun q => (rd q.2 (fz p.1)).bind fun d => (rd q.2 (fz q.1)).bind fun e => (g d e).bind fun r =>
    if r = true then (fc q.2).bind fun s => (rd s.2 (fz q.1)).bind fun e' => (rd s.2 (fz s.1)).bind fun h => (g' e' h).bind fun r' =>
      if r' = true then (fd s.2).bind fun t => (rd t.2 (fz s.1)).bind fun h' => (rd t.2 (fz t.1)).bind fun m => (g'' h' m).bind fun r2 => some (r2, t.2) else some (false, s.2) else some (false, q.2)
theorem pq_chain3 {o1 o2 o3 : CmpOp} {g g' g'' : Z.D → Z.D → Option Bool} {r r' r'' : R2} (h1 : OpR X (compareOp o1) r) (k1 : Op2 X.K cl (bRes g) r) (h2 : OpR X (compareOp o2) r') (k2 : Op2 X.K cl (bRes g') r') (h3 : OpR X (compareOp o3) r'') (k3 : Op2 X.K cl (bRes g'') r'')
    (ha : PE X a (tR X.K cl fa)) (hb : PE X b (tR X.K cl fb)) (hc : PE X c (tR X.K cl fc)) (hd : PE X d (tR X.K cl fd)) (hm : lastMarks [o1, o2, o3] [b, c, d] = false := by with_unfolding_all rfl) : PT X (.Compare a [o1, o2, o3] [b, c, d] pos) (tT X.K cl (chn3 g g' g'' fa fb fc fd)) := by
  refine PT_weak (pt_chain3 h1 h2 h3 ha hb hc hd hm) fun σ H Q q => ?_
  obtain ⟨pa, F, R, ad, env, rv, env', S, hf, k⟩ := q
  unfold chn3 at hf
  obtain ⟨⟨r1, e1⟩, j1, hf⟩ := Option.bind_eq_some_iff.mp hf
  obtain ⟨⟨r2, e2⟩, j2, hf⟩ := Option.bind_eq_some_iff.mp hf
  obtain ⟨d1, j3, hf⟩ := Option.bind_eq_some_iff.mp hf
  obtain ⟨d2, j4, hf⟩ := Option.bind_eq_some_iff.mp hf
  obtain ⟨rr, j5, hf⟩ := Option.bind_eq_some_iff.mp hf
  refine ⟨pa, F, R, ad, env, _, _, S, j1, fun F1 ad1 H1 x le1 S1 a1 => ?_⟩
  obtain ⟨G1, l1, T1, b1⟩ := S1.fzz a1
  refine ⟨pa, G1, R, ad1, _, _, _, T1, j2, fun F2 ad2 H2 y le2 S2 a2 => ?_⟩
  obtain ⟨G2, l2, T2, b2⟩ := S2.fzz a2
  refine k1 G2 H2 x y d1 d2 (.dat (.bl rr)) _ T2.fh (T2.read (b1.mono (le2.trans l2)) j3) (T2.read b2 j4) (by unfold bRes; rw [j5]; rfl) (T2.res fun F3 ad3 H3 v le3 S3 a3 => ?_)
  cases a3
  refine ⟨rr, rfl, ?_⟩
  cases rr with
  | false =>
    rw [if_neg Bool.false_ne_true] at hf ⊢
    cases hf
    exact k F3 ad3 H3 (((le1.trans l1).trans (le2.trans l2)).trans le3) S3
  | true =>
    rw [if_pos rfl] at hf ⊢
    obtain ⟨⟨r4, e4⟩, j6, hf⟩ := Option.bind_eq_some_iff.mp hf
    obtain ⟨d4, j7, hf⟩ := Option.bind_eq_some_iff.mp hf
    obtain ⟨d5, j8, hf⟩ := Option.bind_eq_some_iff.mp hf
    obtain ⟨r5, j9, hf⟩ := Option.bind_eq_some_iff.mp hf
    refine ⟨pa, F3, R, ad3, _, _, _, S3, j6, fun F4 ad4 H4 z le4 S4 a4 => ?_⟩
    obtain ⟨G4, l4, T4, b4⟩ := S4.fzz a4
    refine k2 G4 H4 y z d4 d5 (.dat (.bl r5)) _ T4.fh (T4.read (b2.mono ((le3.trans le4).trans l4)) j7) (T4.read b4 j8) (by unfold bRes; rw [j9]; rfl) (T4.res fun F5 ad5 H5 v le5 S5 a5 => ?_)
    cases a5
    refine ⟨r5, rfl, ?_⟩
    have lall := ((((le1.trans l1).trans (le2.trans l2)).trans le3).trans (le4.trans l4)).trans le5
    cases r5 with
    | false =>
      rw [if_neg Bool.false_ne_true] at hf ⊢
      cases hf
      exact k F5 ad5 H5 lall S5
    | true =>
      rw [if_pos rfl] at hf ⊢
      obtain ⟨⟨r6, e6⟩, j10, hf⟩ := Option.bind_eq_some_iff.mp hf
      obtain ⟨d6, j11, hf⟩ := Option.bind_eq_some_iff.mp hf
      obtain ⟨d7, j12, hf⟩ := Option.bind_eq_some_iff.mp hf
      obtain ⟨r7, j13, hf⟩ := Option.bind_eq_some_iff.mp hf
      cases hf
      refine ⟨pa, F5, R, ad5, _, _, _, S5, j10, fun F6 ad6 H6 z2 le6 S6 a6 => ?_⟩
      obtain ⟨G6, l6, T6, b6⟩ := S6.fzz a6
      refine k3 G6 H6 z z2 d6 d7 (.dat (.bl rv)) _ T6.fh (T6.read (b4.mono ((le5.trans le6).trans l6)) j11) (T6.read b6 j12) (by unfold bRes; rw [j13]; rfl) (T6.res fun F7 ad7 H7 v le7 S7 a7 => ?_)
      cases a7
      exact ⟨rv, rfl, k F7 ad7 H7 ((lall.trans (le6.trans l6)).trans le7) S7⟩
theorem pr_methC0 {c mn : Str} {k : Nat} {ps : List Str} {apos : Pos} {m : List Z.D → Option Rt} {fo : Fe} {pl : Sem Bool} (C : CalM X.prog X.w X.K X.mg X.base (cl c) mn k ps (spP X.K cl 1 m)) (hc : Cls X.K (cl c)) (hr : Room k X.A) (ho : PE X o (tR X.K cl fo))
    (ht : eval (.Call (.Attribute o mn apos) [] [] pos) X.env = (do
      let ov ← eval o X.env
      standAt apos.atName
      let (f, first) ← holding [ov] (getMethod ov mn pl)
      callWith pos f first (backTo pos (starEach [] X.env)) (backToKw pos (keywordEach [] X.env))) := by rfl) :
    PE X (.Call (.Attribute o mn apos) [] [] pos) (tR X.K cl (methS c mn m fo nilL)) := by
  obtain ⟨a, fd, G, b, hm⟩ := C.ex
  exact pr_meth (pe_meth0 ho hc hm G hr b .nil pass0 ht) tNil_of (fun a b c h => congrArg (· + 1) (nilL_len a b c h))
end
end Z

set_option Elab.async false
set_option linter.all false
set_option maxRecDepth 100000
set_option maxHeartbeats 1000000
/-! More rules for reckoning with meanings. -/
namespace Z
open PySem PySem.Spec PyProof.Rows L2
section
variable {env : En} {f fk : Fe} {d e : Z.D} {ds es : List Z.D} {i j : Int} {n : Nat} {ks : List (List Key)}
@[simp] theorem s_lt3 : lt3G (.int i) (.int j) = some (decide (i < j)) := rfl
@[simp] theorem s_ocd : (OC.dct ks ds).d = .dt ks ds := rfl
@[simp] theorem s_new : newDS env = some (.own (.dct [] []), env) := rfl
@[simp] theorem s_dg : dgG (.dt ks ds) e = (keyD e).bind fun k => (valZ ks ds k).bind fun d => some (.dat d) := rfl
@[simp] theorem s_di {b : Bool} : diG b e (.dt ks ds) = (keyD e).bind fun k => some ((valZ ks ds k).isSome != b) := rfl
@[simp] theorem s_key2 : keyD (.tup [.int i, .int j]) = some [.inl i, .inl j] := rfl
@[simp] theorem s_dctOf : dctOf env n = (match ocOf env n with | some (.dct ks ds) => some (ks, ds) | _ => none) := rfl
@[simp] theorem s_putDS : putDS n fk f env = (f env).bind fun p => (kp p.2 (fz p.1)).bind fun q => (dctOf q.2 n).bind fun _ => (fk q.2).bind fun r => (rd r.2 (fz r.1)).bind fun dk => (keyD dk).bind fun k => (dctOf r.2 n).bind fun t =>
  if t.1.length < 16777216 then some (.nx (setOC r.2 n (.dct (putZ t.1 t.2 k q.1).1 (putZ t.1 t.2 k q.1).2))) else none := rfl
@[simp] theorem s_rev : revS f env = (f env).bind fun p => (rd p.2 (fz p.1)).bind fun d => match d with
  | .lst ds => some (.own (.lst ds.reverse), p.2)
  | _ => none := rfl
@[simp] theorem s_ext : extS n f env = (lstOf env n).bind fun _ => (f env).bind fun p => (kp p.2 (fz p.1)).bind fun q => (lstOf q.2 n).bind fun ds => match q.1 with
  | .lst es => if ds.length + es.length ≤ 16777216 then some (.nx (setOC q.2 n (.lst (ds ++ es)))) else none
  | _ => none := rfl
end
end Z
namespace Z
open PySem PySem.Spec PyProof.Rows L2
/-- a comprehension whose element changes slots: I holds of what is left, what is made, the slots (its own slot empty) -/
theorem lcGo_rule {i : Nat} {f : Fe} (I : List Z.D → List Z.D → En → Prop)
    (step : ∀ d ds acc env, I (d :: ds) acc env → i < env.length ∧ ∃ rv e2 r e3, f (env.set i (some (.dat d))) = some (rv, e2) ∧ kp e2 (fz rv) = some (r, e3) ∧ I ds (acc ++ [r]) (e3.set i none)) :
    ∀ (ds acc : List Z.D) (env : En), I ds acc (env.set i none) → ∃ acc' env', lcGo (nmB i) yesT f [i] ds acc env = some (acc', env') ∧ I [] acc' env'
  | [], acc, env, h => ⟨acc, _, rfl, h⟩
  | d :: ds, acc, env, h => by
    obtain ⟨hi, rv, e2, r, e3, h1, h2, h3⟩ := step d ds acc _ h
    rw [List.set_set] at h1
    obtain ⟨acc', env', h4, h5⟩ := lcGo_rule I step ds (acc ++ [r]) e3 h3
    refine ⟨acc', env', ?_, h5⟩
    unfold lcGo
    rw [s_wipe1, s_wipe0]
    show (Option.bind (if i < (env.set i none).length then some ((env.set i none).set i (some (.dat d))) else none) _) = _
    rw [if_pos hi, Option.bind_some, List.set_set, s_yesT, Option.bind_some, if_pos rfl, h1, Option.bind_some, h2, Option.bind_some]
    exact h4
end Z
namespace Z
open PySem PySem.Spec PyProof.Rows L2
/-- a comprehension with any target, whose element changes nothing -/
theorem lcGo_mapG {gb : Fb} {f : Fe} {vs : List Nat} {env1 : En} (r : Z.D → Z.D) : ∀ (ds acc : List Z.D) (env : En), wipeE env vs = wipeE env1 vs →
    (∀ d ∈ ds, ∃ e1 rv, gb d (wipeE env1 vs) = some e1 ∧ f e1 = some (rv, e1) ∧ kp e1 (fz rv) = some (r d, e1) ∧ wipeE e1 vs = wipeE env1 vs) →
    lcGo gb yesT f vs ds acc env = some (acc ++ ds.map r, wipeE env1 vs)
  | [], acc, env, he, _ => by
    unfold lcGo
    rw [he, List.map_nil, List.append_nil]
  | d :: ds, acc, env, he, h => by
    obtain ⟨e1, rv, h1, h2, h3, h4⟩ := h d (List.mem_cons_self ..)
    unfold lcGo
    rw [he, h1, Option.bind_some, s_yesT, Option.bind_some, if_pos rfl, h2, Option.bind_some, h3, Option.bind_some]
    rw [lcGo_mapG r ds (acc ++ [r d]) e1 h4 (fun e he => h e (List.mem_cons_of_mem _ he)), List.map_cons, List.append_assoc]
    rfl
theorem lcS_mapG {fi : Fi} {gb : Fb} {f : Fe} {vs : List Nat} {env env1 : En} {ds : List Z.D} (r : Z.D → Z.D) (h1 : fi env = some (ds, env1)) (hl : ds.length ≤ 16777215) (hb : backE env1 (wipeE env1 vs) vs = env1)
    (h : ∀ d ∈ ds, ∃ e1 rv, gb d (wipeE env1 vs) = some e1 ∧ f e1 = some (rv, e1) ∧ kp e1 (fz rv) = some (r d, e1) ∧ wipeE e1 vs = wipeE env1 vs) : lcS fi gb yesT f vs env = some (.own (.lst (ds.map r)), env1) := by
  rw [s_lcS, h1, Option.bind_some, if_pos hl, lcGo_mapG r ds [] env1 rfl h, Option.bind_some, List.nil_append, hb]
end Z

set_option Elab.async false
set_option linter.all false
set_option maxRecDepth 100000
set_option maxHeartbeats 1000000
/-! Tuples of ints whose objects are known to have no dict; .index; sorted of tuples; dict of one pair. -/
namespace Z
open PySem PySem.Spec PyProof.Rows L2
section
variable {X : Cx} {cl : Str → Addr} {es : List Expr} {e o : Expr} {pos apos cpos : Pos} {t : TA} {to : TE}
def tTupN (t : TA) : TE := fun σ H Q => t σ H fun xs H1 => xs.length ≤ sizeLine ∧ ∀ p ob, H1 p = none → ob.dict = none → Q (.ref p) (upd H1 p (.frz ob (.tup xs)))
theorem pe_tupN {x1} (h : PA X es t) : PE X (.Tuple es x1 pos) (tTupN t) := ⟨fun pins s σ H Q I hq => by
  refine wpAny_Tuple_spliced (thn (h.run pos pins s σ H _ I hq) fun us s2 ⟨xs, H2, I2, r, z, q⟩ => ⟨by rw [← r.length]; exact z, ?_⟩)
  have new := I2.hok.fresh (Nat.le_refl s2.heap.objs.size)
  have at2 : (s2.heap.push { cls := .type "tuple", data := .seq us.toArray }).get? s2.heap.objs.size = some { cls := .type "tuple", data := .seq us.toArray } := Heap.get?_push_size _ rfl
  exact ⟨.ref s2.heap.objs.size, _, I2.laid (t' := s2.toks) (o := .frz { cls := .type "tuple", data := .seq us.toArray } (.tup xs)) (fun b u w => Heap.get?_push_of_some _ w) (Nat.le_refl _) ⟨at2, z, us, r, ⟨_, at2, rfl, _, rfl⟩⟩, rfl, q _ _ new rfl⟩⟩
def tupNS (g : Fa) : Fe := fun env => (g env).bind fun p => (rdL p.2 p.1).bind fun ds => (intsOf ds).bind fun ns => some (.dat (.itup ns), p.2)
theorem pair_ints {K : PySem.W.Frag} {F H : Hp} : ∀ {vs : List V} {ns : List Int}, Paired (fun v d => AtT K cl F H v d) vs (ns.map Z.D.int) → vs = ns.map V.int
  | _, [], .nil => rfl
  | _, _ :: _, .cons h t => by rw [at_int h, pair_ints t]; rfl
theorem pr_tupN {x1} {g : Fa} (h : PA X es (tL X.K cl g)) (hlen : ∀ (env : En) (rvs : List Rv) (env' : En), g env = some (rvs, env') → rvs.length = es.length) (hl : es.length ≤ sizeLine := by decide) : PE X (.Tuple es x1 pos) (tR X.K cl (tupNS g)) := by
  refine PE_weak (pe_tupN h) fun σ H Q q => ?_
  obtain ⟨pa, F, R, ad, env, rv, env', S, hf, k⟩ := q
  unfold tupNS at hf
  obtain ⟨⟨r1, e1⟩, h1, hf⟩ := Option.bind_eq_some_iff.mp hf
  obtain ⟨ds, h2, hf⟩ := Option.bind_eq_some_iff.mp hf
  obtain ⟨ns, h3, hf⟩ := Option.bind_eq_some_iff.mp hf
  cases hf
  refine ⟨pa, F, R, ad, env, _, _, S, h1, fun F1 ad1 H1 vs le1 S1 a1 => ?_⟩
  have a2 := S1.readL a1 h2
  rw [intsOf_eq h3] at a2
  have ev := pair_ints a2
  subst ev
  refine ⟨by rw [Paired.length a1, hlen _ _ _ h1]; exact hl, fun p ob hp hd => ?_⟩
  have g := Grow.fr (F := F1) p (.frz ob (.tup (ns.map V.int))) hp
  exact k _ ad1 _ (.ref p) (le1.trans (g.le S1.fh)) (S1.grow g) (At.itup upd_same hd)
/-- t + u of such -/
def rCatN : R2 := fun x y H Q => ∃ a b oa ob xs ys, x = .ref a ∧ y = .ref b ∧ H a = some (.frz oa (.tup xs)) ∧ H b = some (.frz ob (.tup ys)) ∧ xs.length + ys.length ≤ sizeLine ∧
  (xs = [] → Q (.ref b) H) ∧ (xs ≠ [] → ys = [] → Q (.ref a) H) ∧ (xs ≠ [] → ys ≠ [] → ∀ p oc, H p = none → oc.dict = none → Q (.ref p) (upd H p (.frz oc (.tup (xs ++ ys)))))
theorem op_catN : OpR X (binaryOp .Add) rCatN := by
  intro pins s σ H x y v u Q I rx ry h
  obtain ⟨a, b, oa, ob, xs, ys, rfl, rfl, ha, hb, hz, q0, q1, q2⟩ := h
  cases rx
  cases ry
  obtain ⟨its, r1, p1, _⟩ := I.tuple (sq_frz ha)
  obtain ⟨its2, r2, p2, _⟩ := I.tuple (sq_frz hb)
  by_cases hx : xs = []
  · subst hx
    cases r1
    exact cat_tup0 p1 p2 ⟨.ref b, H, I, rfl, q0 rfl⟩
  · refine HT.cat_tup p1 p2 (fun z => hx (r1.nil_iff.mp z)) (fun z => ⟨.ref a, H, I, rfl, q1 hx (r2.nil_iff.mp z)⟩) (fun z => ?_) (by rw [← r1.length, ← r2.length]; exact hz)
    have at2 : (s.heap.push { cls := .type "tuple", data := .seq (its ++ its2).toArray }).get? s.heap.objs.size = some { cls := .type "tuple", data := .seq (its ++ its2).toArray } := Heap.get?_push_size _ rfl
    exact ⟨.ref s.heap.objs.size, _, I.laid (t' := s.toks) (o := .frz { cls := .type "tuple", data := .seq (its ++ its2).toArray } (.tup (xs ++ ys))) (fun b u w => Heap.get?_push_of_some _ w) (Nat.le_refl _)
      ⟨at2, by rw [List.length_append]; exact hz, _, r1.append r2, ⟨_, at2, rfl, _, rfl⟩⟩, rfl, q2 hx (fun w => z (r2.nil_iff.mpr w)) _ _ (I.hok.fresh (Nat.le_refl _)) rfl⟩
def addNG : Z.D → Z.D → Option Rv
  | .itup a, .itup b => if a.length + b.length ≤ 16777216 then some (.dat (.itup (a ++ b))) else none
  | _, _ => none
theorem addN_ok {K : PySem.W.Frag} : Op2 K cl addNG rCatN := by
  intro F H x y d e rv Q le hx hy hg res
  unfold addNG at hg
  split at hg
  · split at hg
    · rename_i a b hz
      cases hg
      obtain ⟨p, oa, rfl, h1, h2⟩ := at_itup hx
      obtain ⟨q, ob, rfl, h3, h4⟩ := at_itup hy
      refine ⟨p, q, oa, ob, _, _, rfl, rfl, le _ _ h1, le _ _ h3, by rw [sizeLine_eq, List.length_map, List.length_map]; exact hz, fun w => ?_, fun _ w => ?_, fun _ _ r oc hr hd => ?_⟩
      · have : a = [] := List.map_eq_nil_iff.mp w
        subst this
        exact res.dat0 (.itup h3 h4)
      · have : b = [] := List.map_eq_nil_iff.mp w
        subst this
        rw [List.append_nil] at res
        exact res.dat0 (.itup h1 h2)
      · rw [← List.map_append]
        exact res _ _ _ (.fr r _ hr) (.itup upd_same hd)
    · cases hg
  · cases hg
/-! ### .index -/
def fstI (z : Int) : List Int → Option Nat
  | [] => none
  | n :: r => if n = z then some 0 else (fstI z r).map (· + 1)
theorem fstI_at {z : Int} : ∀ {ns : List Int} {j : Nat}, fstI z ns = some j → ns[j]? = some z ∧ ∀ m, m < j → ns[m]? ≠ some z
  | n :: r, j, h => by
    unfold fstI at h
    split at h
    · rename_i e; cases h; exact ⟨by rw [e]; rfl, fun m hm => absurd hm (Nat.not_lt_zero _)⟩
    · rename_i e
      obtain ⟨i, h1, rfl⟩ := Option.map_eq_some_iff.mp h
      obtain ⟨h2, h3⟩ := fstI_at h1
      refine ⟨h2, fun m hm => ?_⟩
      cases m with
      | zero => exact fun w => e (Option.some.inj w)
      | succ m => exact h3 m (by omega)
def idxG : Z.D → Z.D → Option Rv
  | .itup ns, .int z => (fstI z ns).bind fun j => some (.dat (.int (j : Nat)))
  | .lst ds, .int z => (intsOf ds).bind fun ns => (fstI z ns).bind fun j => some (.dat (.int (j : Nat)))
  | _, _ => none
theorem mt_ixI : MtR X "tuple.index" (fun x xs H Q => ∃ p ob, ∃ ns : List Int, ∃ z j, x = .ref p ∧ xs = [.int z] ∧ H p = some (.frz ob (.tup (ns.map V.int))) ∧ ns[j]? = some z ∧ (∀ m, m < j → ns[m]? ≠ some z) ∧ Q (.int (j : Nat)) H) := by
  intro pins s σ H x xs v us Q I rx rs h
  obtain ⟨p, ob, ns, z, j, rfl, rfl, hq, hy, hno, q⟩ := h
  cases rx
  obtain ⟨u, rfl, tk, rfl⟩ := vals1 rs
  obtain ⟨its, r, pl, hz⟩ := I.tuple (sq_frz (K := X.K) hq)
  obtain ⟨⟨cls, dd, dt, sl⟩, ho, hc, n, hd⟩ := pl
  simp only at hc hd
  subst hc
  subst hd
  have size : its.toArray.size = ns.length := by rw [List.size_toArray, ← r.length, List.length_map]
  have there : ∀ (m : Nat) (hm : m < its.toArray.size), ∃ y tm, ns[m]? = some y ∧ its.toArray[m] = Value.int y tm := fun m hm => by
    have hm2 : m < ns.length := by rw [← size]; exact hm
    obtain ⟨w, hw, tm, hw2⟩ := r.get (i := m) (x := .int ns[m]) (by simp [hm2])
    exact ⟨ns[m], tm, List.getElem?_eq_getElem hm2, by rw [← hw2, ← (List.getElem?_eq_some_iff.mp hw).2]; simp⟩
  have hj : j < its.toArray.size := by rw [size]; exact (List.getElem?_eq_some_iff.mp hy).1
  have flat : (ns.map V.int).all flatV = true := by rw [List.all_map]; exact List.all_eq_true.mpr fun _ _ => rfl
  have hit : eqU (.int z) its.toArray[j] = true := by
    obtain ⟨y, tm, h1, h2⟩ := there j hj
    rw [hy] at h1
    cases h1
    rw [h2]
    show eqV (.int z) (.int z) = true
    simp [eqV]
  have miss : ∀ m (hm : m < its.toArray.size), m < j → eqU (.int z) its.toArray[m] = false := fun m hm hmj => by
    obtain ⟨y, tm, h1, h2⟩ := there m hm
    rw [h2]
    have ne : y ≠ z := fun w => hno m hmj (w ▸ h1)
    show eqV (.int y) (.int z) = false
    simp [eqV, ne]
  exact call_meets PySem.F.slot_tuple_index ⟨_, ho, rfl⟩ PySem.F.entry_tuple_index (PySem.F.args_tuple_index_2 _ _) (TI.tuple_indexAt p its.toArray n dd sl (.int z tk) (eqU (.int z)) j hj hit miss)
    ⟨ho, fun w hw => mem_eqAt (x := .int z) ⟨tk, rfl⟩ rfl r flat w (by simpa using hw), ⟨.int (j : Nat), H, I.tok _, ⟨_, rfl⟩, q⟩⟩
def tMN (r : V → List V → Hp → VK → Prop) (to : TE) (t : TA) : TE := fun σ H Q => to σ H fun x H1 => (∃ a ob xs, x = .ref a ∧ H1 a = some (.frz ob (.tup xs)) ∧ ob.dict = none) ∧ t σ H1 fun xs H2 => r x xs H2 Q
/-- t.index(e) -/
theorem pe_ixN {r : V → List V → Hp → VK → Prop} (hm : MtR X "tuple.index" r) (ho : PE X o to) (ha : PA X (e :: es) t) (hbase : attributeBase o "index" X.env (eval o X.env) = eval o X.env := by rfl)
    (hfew : ((backTo cpos (starEach (e :: es) X.env)).all (fun x => !x.1) && (backToKw cpos (keywordEach [] X.env)).all (fun x => x.1.isSome) && decide ((e :: es).length + ([] : List Keyword).length + (if ([] : List Keyword).isEmpty then 0 else 1) < 30)) = true := by rfl)
    (hline : (apos.endLine == cpos.line) = true := by rfl) (hst : starEach (e :: es) X.env = (false, eval e X.env) :: starEach es X.env := by rfl) (hpl : (backTo cpos (starEach es X.env)).any (·.1) = false := by rfl) :
    PE X (.Call (.Attribute o "index" apos) (e :: es) [] cpos) (tMN r to t) := ⟨fun pins s σ H Q I h => by
  refine wpAny_Call_method_late hbase hfew hline rfl (thn (ho.run pins s σ H _ I h) fun v s2 ⟨x, H2, I2, r2, ⟨a, ob, xs, ex, hx, hd⟩, q2⟩ => ?_)
  subst ex
  cases r2
  obtain ⟨g1, g2, its, _, ⟨o2, g4, g5, _⟩⟩ := I2.hok a _ hx
  rw [g1] at g4
  cases g4
  refine ⟨"tuple", "tuple.index", PySem.F.plainAttrs_tuple, PySem.F.slot_tuple_index, PySem.F.type_tuple_index, ⟨ob, g1, g5⟩, fun b w => by cases w; exact ⟨ob, g1, hd⟩, ?_⟩
  have run := ha.run cpos pins s2 σ H2 _ I2 q2
  rw [hst] at run ⊢
  refine Calls.callWith_builtin (by show (false || (backTo cpos (starEach es X.env)).any (·.1)) = false; rw [hpl] <;> rfl) (Calls.evalArgs_plain ?_)
  exact thn run fun us s3 ⟨vs, H3, I3, r3, q3⟩ => hm pins s3 σ H3 (.ref a) vs _ us Q I3 rfl r3 q3⟩
theorem flat_is (ns : List Int) : (ns.map V.int).all flatV = true := by rw [List.all_map]; exact List.all_eq_true.mpr fun _ _ => rfl
def sameK : Z.D → Z.D → Bool
  | .lst _, .lst _ => true
  | .itup _, .itup _ => true
  | _, _ => false
def ixnS (fo fe : Fe) : Fe := fun env => (fo env).bind fun p => (rd p.2 (fz p.1)).bind fun d0 => (fe p.2).bind fun q => (rd q.2 (fz p.1)).bind fun d1 => (rd q.2 (fz q.1)).bind fun d2 => if sameK d0 d1 = true then (idxG d1 d2).bind fun r => some (r, q.2) else none
theorem pr_index {fo fe : Fe} (h1 : PE X e (tBM X.K "list" (rIndex X.K) (tR X.K cl fo) (tCons (tR X.K cl fe) tNil)))
    (h2 : PE X e (tMN (fun x xs H Q => ∃ p ob, ∃ ns : List Int, ∃ z j, x = .ref p ∧ xs = [.int z] ∧ H p = some (.frz ob (.tup (ns.map V.int))) ∧ ns[j]? = some z ∧ (∀ m, m < j → ns[m]? ≠ some z) ∧ Q (.int (j : Nat)) H) (tR X.K cl fo) (tCons (tR X.K cl fe) tNil))) :
    PE X e (tR X.K cl (ixnS fo fe)) := by
  refine PE_weak (PE_or h1 h2) fun σ H Q q => ?_
  obtain ⟨pa, F, R, ad, env, rv, env', S, hf, k⟩ := q
  unfold ixnS at hf
  obtain ⟨⟨r1, e1⟩, k1, hf⟩ := Option.bind_eq_some_iff.mp hf
  obtain ⟨d0, k0, hf⟩ := Option.bind_eq_some_iff.mp hf
  obtain ⟨⟨r2, e2⟩, k2, hf⟩ := Option.bind_eq_some_iff.mp hf
  obtain ⟨d1, k3, hf⟩ := Option.bind_eq_some_iff.mp hf
  obtain ⟨d2, k4, hf⟩ := Option.bind_eq_some_iff.mp hf
  dsimp only at hf
  split at hf
  · rename_i hs
    obtain ⟨rr, k5, hf⟩ := Option.bind_eq_some_iff.mp hf
    cases hf
    cases d1 with
    | lst ds =>
      cases d2 with
      | int z =>
        obtain ⟨ns, k6, k5⟩ := Option.bind_eq_some_iff.mp (show ((intsOf ds).bind fun ns => (fstI z ns).bind fun j => some (Rv.dat (.int (j : Nat)))) = some _ from k5)
        obtain ⟨j, k7, k5⟩ := Option.bind_eq_some_iff.mp k5
        cases k5
        obtain ⟨k8, k9⟩ := fstI_at k7
        cases d0 with
        | lst ds0 =>
          refine .inl ⟨pa, F, R, ad, env, _, _, S, k1, fun F1 ad1 H1 x le1 S1 a1 => ?_⟩
          obtain ⟨G1, l1, T1, b1⟩ := S1.fzz a1
          obtain ⟨a, vs0, rfl, w0, _⟩ := (show ∃ a vs, x = .ref a ∧ H1 a = some (.lst vs) ∧ AtAll X.K cl G1 vs ds0 from T1.read b1 k0)
          refine ⟨.inl ⟨rfl, vs0, SqL.of w0⟩, pa, G1, R, ad1, _, _, _, T1, k2, fun F2 ad2 H2 y le2 S2 a2 => ?_⟩
          obtain ⟨G2, l2, T2, b2⟩ := S2.fzz a2
          have t2 := T2.read b2 k4
          rw [at_int t2]
          have t1 := T2.read (b1.mono (le2.trans l2)) k3
          rw [intsOf_eq k6] at t1
          obtain ⟨a', vs, ea, w1, w2⟩ := (show ∃ a' vs, V.ref a = .ref a' ∧ H2 a' = some (.lst vs) ∧ AtAll X.K cl G2 vs (ns.map Z.D.int) from t1)
          cases ea
          rw [w2.intsV] at w1
          refine ⟨a, ns.map V.int, .int z, j, .int z, rfl, rfl, SqL.of w1, rfl, flat_is ns, by rw [List.getElem?_map, k8]; rfl, by simp [eqV], fun m z' hm hz => ?_, ?_⟩
          · rw [List.getElem?_map] at hz
            obtain ⟨y, hy, rfl⟩ := Option.map_eq_some_iff.mp hz
            have ne : y ≠ z := fun w => k9 m hm (w ▸ hy)
            simp [eqV, ne]
          · exact k G2 ad2 H2 _ ((le1.trans l1).trans (le2.trans l2)) T2 (.int _)
        | _ => exact absurd hs Bool.false_ne_true
      | _ => exact nomatch k5
    | itup ns =>
      cases d2 with
      | int z =>
        obtain ⟨j, k7, k5⟩ := Option.bind_eq_some_iff.mp (show ((fstI z ns).bind fun j => some (Rv.dat (.int (j : Nat)))) = some _ from k5)
        cases k5
        obtain ⟨k8, k9⟩ := fstI_at k7
        cases d0 with
        | itup ns0 =>
          refine .inr ⟨pa, F, R, ad, env, _, _, S, k1, fun F1 ad1 H1 x le1 S1 a1 => ?_⟩
          obtain ⟨G1, l1, T1, b1⟩ := S1.fzz a1
          obtain ⟨a, ob, rfl, w0, w1⟩ := at_itup (T1.read b1 k0)
          refine ⟨⟨a, ob, _, rfl, T1.fh _ _ w0, w1⟩, pa, G1, R, ad1, _, _, _, T1, k2, fun F2 ad2 H2 y le2 S2 a2 => ?_⟩
          obtain ⟨G2, l2, T2, b2⟩ := S2.fzz a2
          have t2 := T2.read b2 k4
          rw [at_int t2]
          obtain ⟨a', ob', ea, w2, w3⟩ := at_itup (T2.read (b1.mono (le2.trans l2)) k3)
          cases ea
          exact ⟨a, ob', ns, z, j, rfl, rfl, T2.fh _ _ w2, k8, k9, k G2 ad2 H2 _ ((le1.trans l1).trans (le2.trans l2)) T2 (.int _)⟩
        | _ => exact absurd hs Bool.false_ne_true
      | _ => exact nomatch k5
    | _ => exact nomatch k5
  · cases hf
/-! ### sorted of ints, a tuple's or a list's -/
def insI (x : Int) : List Int → List Int
  | [] => [x]
  | y :: r => if x ≤ y then x :: y :: r else y :: insI x r
def sortI : List Int → List Int
  | [] => []
  | x :: r => insI x (sortI r)
theorem insI_perm (x : Int) : ∀ l : List Int, (insI x l).Perm (x :: l)
  | [] => .refl _
  | y :: r => by
    unfold insI
    split
    · exact .refl _
    · exact ((insI_perm x r).cons y).trans (.swap x y r)
theorem sortI_perm : ∀ l : List Int, (sortI l).Perm l
  | [] => .refl _
  | x :: r => (insI_perm x (sortI r)).trans ((sortI_perm r).cons x)
theorem insI_asc (x : Int) : ∀ {l : List Int}, l.Pairwise (· ≤ ·) → (insI x l).Pairwise (· ≤ ·)
  | [], _ => List.pairwise_singleton _ _
  | y :: r, h => by
    obtain ⟨h1, h2⟩ := List.pairwise_cons.mp h
    unfold insI
    split
    · rename_i c
      refine List.pairwise_cons.mpr ⟨fun z hz => ?_, h⟩
      rcases List.mem_cons.mp hz with w | w
      · rw [w]; exact c
      · exact Int.le_trans c (h1 z w)
    · rename_i c
      refine List.pairwise_cons.mpr ⟨fun z hz => ?_, insI_asc x h2⟩
      rcases List.mem_cons.mp ((insI_perm x r).mem_iff.mp hz) with w | w
      · rw [w]; omega
      · exact h1 z w
theorem sortI_asc : ∀ l : List Int, (sortI l).Pairwise (· ≤ ·)
  | [] => .nil
  | x :: r => insI_asc x (sortI_asc r)
theorem sortI_only {l ns : List Int} (p : l.Perm ns) (a : l.Pairwise (· ≤ ·)) : l = sortI ns :=
  List.Perm.eq_of_pairwise (le := (· ≤ ·)) (fun _ _ _ _ h1 h2 => Int.le_antisymm h1 h2) a (sortI_asc ns) (p.trans (sortI_perm ns).symm)
theorem cr_sortTup : CallR X (.builtin "sorted") (fun vs H Q => ∃ (a : Addr) (ns : List Int), vs = [.ref a] ∧ SqT X.K H a (ns.map V.int) ∧ ∀ p, H p = none → Q (.ref p) (upd H p (.lst ((sortI ns).map V.int)))) := by
  intro pins s σ H vs us Q I r h
  obtain ⟨a, ns, rfl, hs, q⟩ := h
  obtain ⟨its, rv, ⟨ob, ho, hc, n, hd⟩, hz⟩ := I.tuple hs
  rw [Vals.ref1 r]
  have hi := rv.ints
  have hz2 : its.length ≤ sizeLine := by rw [← rv.length]; exact hz
  refine Calls.call_function_entry kind_sorted plain_sorted entry_sorted (args_sorted1 _) ?_
  unfold Builtin.«sorted»
  refine wpAny_bind (m := checkCount _ 1 1 1) (wpAny_pure (wpAny_bind (wpAny_collect_seq a (.inr rfl) ho hc hd (fun h2 keep => ?_) (by rw [List.size_toArray]; exact hz2))))
  refine wpAny_bind (wpAny_newList ?_ hz2)
  have new : (h2.push (seqObj "list" its.toArray 0)).get? h2.objs.size = some (seqObj "list" its.toArray 0) := Heap.get?_push_size _ rfl
  refine wpAny_bind (wpAny_holding (wpAny_call_entry slot_list_sort ⟨_, new, rfl⟩ entry_list_sort (SrtO.list_sort_ord SrtO.swo_int new hz2 (fun two => SrtO.ints_sortable hi two) fun out o1 o2 => ⟨.none, rfl, ?_⟩) (args_list_sort _)))
  obtain ⟨k1, k2, k3⟩ := SrtO.ints_out hi o1 o2
  obtain ⟨ep, at2⟩ := PyProof.Rows.sortedHeap_at (vs := its) (out := out.toArray) new
  have he := sortI_only k2 k3
  have hlen : ((sortI ns).map V.int).length ≤ sizeLine := by
    rw [List.length_map, (sortI_perm ns).length_eq]
    rw [List.length_map] at hz
    exact hz
  have gone : s.heap.get? h2.objs.size = none := by
    cases w : s.heap.get? h2.objs.size with
    | none => rfl
    | some u => exact absurd (Heap.lt_size (keep _ _ w)) (Nat.lt_irrefl _)
  have free : H h2.objs.size = none := I.hok.gone gone
  refine wpAny_pure ⟨_, rfl, .ref h2.objs.size, upd H h2.objs.size (.lst ((sortI ns).map V.int)), I.laidN (t' := s.toks) (fun b u hu => ?_) gone free ⟨hlen, out, ep, ?_, at2⟩, rfl, q _ free⟩
  · have hb := keep _ _ hu
    have hlt := Heap.lt_size hb
    rw [PyProof.Rows.sortedHeap_old (Nat.ne_of_lt hlt) (Heap.lt_size (Heap.get?_push_of_some _ hb))]
    exact Heap.get?_push_of_some _ hb
  · rw [← he]; exact vals_of_ints k1
end
end Z

set_option Elab.async false
set_option linter.all false
set_option maxRecDepth 100000
set_option maxHeartbeats 1000000
/-! sorted, dict of pairs, repr as meanings. -/
namespace Z
open PySem PySem.Spec PyProof.Rows L2
section
variable {X : Cx} {K : PySem.W.Frag} {cl : Str → Addr} {es : List Expr} {e : Expr} {pos : Pos}
def sortG : List Z.D → Option Rv
  | [.lst ds] => (intsOf ds).bind fun ns => some (.own (.lst ((sortI ns).map Z.D.int)))
  | [.tup ds] => (intsOf ds).bind fun ns => some (.own (.lst ((sortI ns).map Z.D.int)))
  | [.itup ns] => some (.own (.lst ((sortI ns).map Z.D.int)))
  | _ => none
def rSortT (K : PySem.W.Frag) : List V → Hp → VK → Prop := fun vs H Q => ∃ (a : Addr) (ns : List Int), vs = [.ref a] ∧ SqT K H a (ns.map V.int) ∧ ∀ p, H p = none → Q (.ref p) (upd H p (.lst ((sortI ns).map V.int)))
def rSortZ (K : PySem.W.Frag) : List V → Hp → VK → Prop := fun vs H Q => rSortedI K vs H Q ∨ rSortT K vs H Q
theorem call_sortZ : CallR X (.builtin "sorted") (rSortZ X.K) := cr_sortedI.or cr_sortTup
theorem sort_ok : OpL K cl sortG (rSortZ K) := by
  intro F H xs ds rv Q le hx hg res
  unfold sortG at hg
  split at hg
  · obtain ⟨ns, h1, hg⟩ := Option.bind_eq_some_iff.mp hg
    cases hg
    obtain ⟨v, rfl, h⟩ := pair1 hx
    rw [intsOf_eq h1] at h
    obtain ⟨a, vs, rfl, w, al⟩ := h
    rw [al.intsV] at w
    exact .inl ⟨a, ns, rfl, SqL.of w, fun ns' p k1 k2 hp => by rw [sortI_only k1 k2]; exact res.lst hp (AtAll.ints _)⟩
  · obtain ⟨ns, h1, hg⟩ := Option.bind_eq_some_iff.mp hg
    cases hg
    obtain ⟨v, rfl, h⟩ := pair1 hx
    rw [intsOf_eq h1] at h
    obtain ⟨a, vs, rfl, w, al⟩ := at_tup h
    rw [al.intsV] at w
    exact .inr ⟨a, ns, rfl, SqT.of (le _ _ w), fun p hp => res.lst hp (AtAll.ints _)⟩
  · cases hg
    obtain ⟨v, rfl, h⟩ := pair1 hx
    obtain ⟨a, o, rfl, w, _⟩ := at_itup h
    exact .inr ⟨a, _, rfl, sq_frz (le _ _ w), fun p hp => res.lst hp (AtAll.ints _)⟩
  · cases hg
/-- dict([(i, d)]) -/
def dictG : List Z.D → Option Rv
  | [.lst [.tup [.int i, d]]] => some (.dat (.dk [.inl i] [d]))
  | _ => none
theorem dict_ok : OpL K cl dictG (fun xs H Q => ∃ (a : Addr) (ps : List Addr) (kvs : List (Key × V)), xs = [.ref a] ∧ SqL K H a (ps.map V.ref) ∧ Paired (fun p kv => SqT K H p [kV kv.1, kv.2]) ps kvs ∧
    ∀ p, H p = none → Q (.ref p) (upd H p (.dK (mergeK [] kvs)))) := by
  intro F H xs ds rv Q le hx hg res
  unfold dictG at hg
  split at hg
  · rename_i i d
    cases hg
    obtain ⟨v, rfl, h⟩ := pair1 hx
    obtain ⟨a, vs, rfl, w, al⟩ := (show ∃ a vs, v = .ref a ∧ H a = some (.lst vs) ∧ AtAll K cl F vs [.tup [.int i, d]] from h)
    cases al with
    | cons a1 a2 =>
      cases a2
      cases a1 with
      | tup b1 b2 =>
        rename_i p us
        cases b2 with
        | cons c1 c2 =>
          cases c2 with
          | cons c3 c4 =>
            cases c4
            cases c1
            rename_i u
            refine ⟨a, [p], [(.inl i, u)], rfl, SqL.of w, .cons (SqT.of (le _ _ b1)) .nil, fun q hq => ?_⟩
            have g := Grow.fr (F := F) q (.dK [((.inl i : Key), u)]) hq
            exact res _ _ _ g (.dk (ks := [.inl i]) (vs := [u]) upd_same rfl (.cons (c3.mono (g.le le)) .nil))
  · cases hg
/-- repr of a list -/
def reprOk (p : List PyData) : Bool := (PyData.list p).showable && !(PyData.list p).hasDict && decide ((PyData.list p).depth ≤ 40) && decide ((PyData.list p).shown.length ≤ 16777216)
def reprG : List Z.D → Option Rv
  | [.lst ds] => (pyL ds).bind fun p => if reprOk p = true then some (.dat (.str (PyData.list p).shown)) else none
  | _ => none
def rRepr (K : PySem.W.Frag) : List V → Hp → VK → Prop := fun xs H Q => ∃ (a : Addr) (p : List PyData), xs = [.ref a] ∧ Dp K H (.ref a) (.list p) ∧ reprOk p = true ∧ Q (.str (PyData.list p).shown) H
theorem call_reprZ (hg : X.A.guards = some []) (hu : X.A.units + 64 < cLine) : CallR X (.builtin "repr") (rRepr X.K) := by
  intro pins s σ H xs us Q I r h
  obtain ⟨a, p, rfl, hd, hok, q⟩ := h
  obtain ⟨u, rfl, ru⟩ := vals1 r
  obtain ⟨as, rr⟩ := Dp.reads I _ _ _ hd ru
  cases ru
  unfold reprOk at hok
  simp only [Bool.and_eq_true, Bool.not_eq_true', decide_eq_true_eq] at hok
  obtain ⟨⟨⟨h1, h2⟩, h3⟩, h4⟩ := hok
  refine repr_of_reads' rr h1 (fun z => by rw [h2] at z; cases z) hg (by omega) (fun _ _ w => w) (fun h' u tk keep => ?_) (by rw [sizeLine_eq]; exact h4)
  exact ⟨.str _, H, I.turnedL (t' := tk) (ch := []) (fun b o _ w => keep b o w) (fun b w => nomatch w), ⟨_, rfl⟩, q⟩
theorem repr_ok : OpL K cl reprG (rRepr K) := by
  intro F H xs ds rv Q le hx hg res
  unfold reprG at hg
  split at hg
  · obtain ⟨p, h1, hg⟩ := Option.bind_eq_some_iff.mp hg
    split at hg
    · rename_i hk
      cases hg
      obtain ⟨v, rfl, h⟩ := pair1 hx
      obtain ⟨a, vs, rfl, w, al⟩ := h
      exact ⟨a, p, rfl, .lst (SqL.of w) (dps_of le al h1), hk, res.dat0 (.str _)⟩
    · cases hg
  · cases hg
end
end Z

set_option Elab.async false
set_option linter.all false
set_option maxRecDepth 100000
set_option maxHeartbeats 1000000
/-! Defs that are run while no repr is under way (guards). -/
namespace Z
open PySem PySem.Spec PyProof.Rows L2
structure FnG (P : Program) (w : World) (K : PySem.W.Frag) (mg : Str → Option Value) (base : Heap) (k : Nat) (f : Addr) (fd : FuncData) (ps : List Str) (sp : Sp) : Prop where
  len : ∀ vs H Q E, sp vs H Q E → vs.length = ps.length
  run : ∀ (A : Around) (outer : List Env) (s : Shared) (H : Hp) (args : Args) (us : List Value) (vs : List V) (Q : VK) (E : XK), Room k A → A.guards = some [] → Env0 P w K mg base A outer s H → BindsTo s fd args (ps.zip us) → Vals vs us → sp vs H Q E →
    codeAny (model P w) A (.call (.ref f) args) (CR CX0 outer P w H s Q E) s
theorem FnG.imp {P : Program} {w : World} {K : PySem.W.Frag} {mg : Str → Option Value} {base : Heap} {k : Nat} {f : Addr} {fd : FuncData} {ps : List Str} {sp sp' : Sp} (F : FnG P w K mg base k f fd ps sp)
    (h : ∀ vs H Q E, sp' vs H Q E → sp vs H Q E) : FnG P w K mg base k f fd ps sp' :=
  ⟨fun vs H Q E q => F.len vs H Q E (h _ _ _ _ q), fun A outer s H args us vs Q E hr hg he hb hv hs => F.run A outer s H args us vs Q E hr hg he hb hv (h _ _ _ _ hs)⟩
/-- a def by its body, the guards known -/
theorem fnG_of {P : Program} {w : World} {K : PySem.W.Frag} {mg : Str → Option Value} {base : Heap} {x qual : Str} {st : Stmt} {f : Addr} {fd : FuncData} {N ps : List Str} {k : Nat} {sp : Sp} (Fn : Fun K x qual st f fd) (S : FnScope N ps (defScope st))
    (len : ∀ vs H Q E, sp vs H Q E → vs.length = ps.length)
    (hbody : ∀ (cdv : Value) (A : Around) (outer : List Env) (s : Shared) (H : Hp) (vs : List V) (Q : VK) (E : XK), Room k (A.deeper (envOfC qual (defScope st) s.heap.objs.size f cdv)) → (A.deeper (envOfC qual (defScope st) s.heap.objs.size f cdv)).guards = some [] → sp vs H Q E →
      ∃ t, PSs (cxOf CX0 P w K mg base N qual (defScope st) f cdv A outer s H E).nox (defBody st) t ∧ t { nx := fun _ H' => Q .non H', rt := Q } (start N vs) H) : FnG P w K mg base (k + 1) f fd ps sp := by
  obtain ⟨oc, od, kV, doc, pm, an, cdv, ct, osl, rfl, lk, hcd⟩ := Fn.ex
  refine ⟨len, fun A outer s H args us vs Q E hr hg e0 hb r hsp => ?_⟩
  have KX : K.In s.heap := e0.mod.kin.keeps fun b o w => (e0.bs b o w).1
  have lim : s.heap.NoLimit := e0.mod.nolimit.keeps fun b o w => (e0.bs b o w).1
  have kinds : ∀ y ∈ ps.zip us, (defScope st).names.lookup y.1 = some .local ∨ ((defScope st).names.lookup y.1 = some .cell ∧ ((cellsFrom (s.heap.objs.size + 1) (defScope st).names []).lookup y.1).isSome = true) := by
    rintro ⟨n, v⟩ hy
    rcases S.par n (List.of_mem_zip hy).1 with z | z
    · exact .inl z
    · exact .inr ⟨z, PySem.W.cellsFrom_some _ _ _ (.inl z)⟩
  refine codeAny_call_function hr.depth (KX _ _ lk) rfl S.co S.gen rfl (PySem.W.codeRec_of KX hcd) (hb _ _ _ _ (wpAny_newFunctionEnv_cells S.kind kinds fun en he s1 x => ?_))
  subst he
  obtain ⟨t, ht, hq⟩ := hbody cdv A outer s H vs Q E (hr.deeper _) hg hsp
  refine ⟨lim.keeps x.toInCall.keep, codeAny_func (wpAny_mono (ht.nox.run [] s1 (start N vs) H _ (inv_start S hr.hd e0 (len _ _ _ _ hsp) r x) hq) (fun fl s2 hs => ?_) fun _ _ z => z)⟩
  have done : ∀ {σ' : L2.St} {G : Hp} {v : V} {u : Value}, Inv (cxOf CX0 P w K mg base N qual (defScope st) f cdv A outer s H E) [] σ' G s2 → RelV v u → Q v G → CE outer P w H s Q u s2 := fun {σ' G v u} J rv z => ⟨v, G, J.os, J.bare, J.base, J.hok, rv, z⟩
  cases fl with
  | ret u => obtain ⟨v, σ', G, J, rv, z⟩ := hs; exact done J rv z
  | next => obtain ⟨σ', G, J, z⟩ := hs; exact done (v := V.non) (u := Value.none) J rfl z
  | brk => obtain ⟨_, _, _, z⟩ := hs; exact z.elim
  | cont => obtain ⟨_, _, _, z⟩ := hs; exact z.elim
structure CalG (P : Program) (w : World) (K : PySem.W.Frag) (mg : Str → Option Value) (base : Heap) (x : Str) (k : Nat) (ps : List Str) (sp : Sp) : Prop where
  ex : ∃ a fd, FnG P w K mg base k a fd ps sp ∧ Binds K fd ps [] ∧ mg x = some (.ref a) ∧ PySem.W.keepIn K (.ref a) = true
section
variable {X : Cx} {cl : Str → Addr} {e o : Expr} {es : List Expr} {p pos : Pos} {x : Str} {k n : Nat} {ps : List Str} {sp : Sp} {t : TA}
theorem pe_callG {f : Addr} {fd : FuncData} (F : FnG X.prog X.w X.K X.mg X.base k f fd ps sp) (hr : Room k X.A) (gu : X.A.guards = some []) (hg : Gl X x) (hm : X.mg x = some (.ref f)) (hk : PySem.W.keepIn X.K (.ref f) = true) (hb : Binds X.K fd ps [])
    (ha : PA X (e :: es) t) (hdb : (x == ("__debug__" : Str)) = false := by decide) (he : starEach (e :: es) X.env = (false, eval e X.env) :: starEach es X.env := by rfl) (hpl : (backTo pos (starEach es X.env)).any (·.1) = false := by rfl) :
    PE X (.Call (.Name x p) (e :: es) [] pos) (tCall sp [] E0 t) := ⟨fun pins s σ H Q I h => by
  refine wpAny_Call_Name_kw (ld_glob I hg hm (PySem.W.callWith_K (h₀ := X.base) I.ok.mod.kin hk (thn (ha.run pos pins s σ H _ I h) fun us s2 ⟨vs, H2, I2, r, q⟩ => ⟨I2.kIn, ?_⟩) he hpl) hdb)
  have q : sp (vs ++ []) H2 Q E0 := q
  rw [List.append_nil] at q
  have bnd := hb s2 us I2.kIn (by rw [List.append_nil, ← r.length]; exact F.len _ _ _ _ q)
  rw [List.append_nil] at bnd
  refine wpAny_call (codeAny_mono (F.run X.A X.stack s2 H2 ⟨us, []⟩ us vs Q E0 hr gu I2.env0 bnd r q) fun res s3 hq => ?_)
  cases res with
  | error w => exact hq.elim
  | ok fl =>
    cases fl with
    | ret u => exact I2.after hq
    | _ => exact hq.elim⟩
theorem pr_callMG {m : OC → List Z.D → Option (Rt × OC)} {fs : Fa} (i : Nat) (C : CalG X.prog X.w X.K X.mg X.base x k ps (spM X.K cl n m)) (hr : Room k X.A) (gu : X.A.guards = some []) (ha : PA X (e :: es) (tL X.K cl fs)) (hlen : ∀ (env : En) (rvs : List Rv) (env' : En), fs env = some (rvs, env') → rvs.length = n) (hg : Gl X x := by rfl)
    (hdb : (x == ("__debug__" : Str)) = false := by decide) (he : starEach (e :: es) X.env = (false, eval e X.env) :: starEach es X.env := by rfl) (hpl : (backTo pos (starEach es X.env)).any (·.1) = false := by rfl) :
    PE X (.Call (.Name x p) (e :: es) [] pos) (tR X.K cl (callM m i fs)) := by
  obtain ⟨a, fd, G, b, gm, kp⟩ := C.ex
  exact pr_callM i (pe_callG G hr gu hg gm kp b ha hdb he hpl) hlen
end
/-- the law's call, its def told for known guards -/
theorem lawG_call {P : Program} {w : World} {K : PySem.W.Frag} {mg mb : Str → Option Value} {k : Nat} {fa a : Addr} {fd : FuncData} {x : Str} {sp : Sp} {s₁ : Shared} {vs : List Value} {ns : List Int}
    (KX : K.In s₁.heap) (hns : s₁.heap.Ns mainGlobals mg) (hb : s₁.heap.Ns builtinsNs mb) (hbb : ∀ x : Str, x ≠ "__name__" → mb x = bootBuiltins x) (hlim : s₁.heap.NoLimit) (hg : s₁.gens = #[])
    (hobj : s₁.heap.get? a = some { cls := .type "list", data := .seq vs.toArray }) (hi : IntsAre vs ns) (hl : ns.length ≤ sizeLine) (hr : Room k callerA)
    (F : ∀ base : Heap, K.In base → base.Ns mainGlobals mg → FnG P w K mg base k fa fd [x] sp) (hbind : ∀ (s : Shared) (u : Value), BindsTo s fd ⟨[u], []⟩ [(x, u)])
    (hsp : ∀ H : Hp, Only H → SqL K H a (ns.map V.int) → sp [.ref a] H (fun v _ => v = .bl true) fun _ _ _ => False) :
    codeAny (model P w) callerA (.call (.ref fa) ⟨[.ref a], []⟩) (fun r s' => r = .ok (.ret (.bool true)) ∧ OldK s₁.heap s'.heap ∧ s'.os = s₁.os ∧ AllBare s'.gens) s₁ := by
  have key : ∀ G : Hp, Only G → SqL K G a (ns.map V.int) → HOk P w G s₁.heap → (∀ b, G b ≠ none → b = a) → (G a ≠ none → K.lookup a = none) →
      codeAny (model P w) callerA (.call (.ref fa) ⟨[.ref a], []⟩) (fun r s' => r = .ok (.ret (.bool true)) ∧ OldK s₁.heap s'.heap ∧ s'.os = s₁.os ∧ AllBare s'.gens) s₁ := by
    intro G hO hS hok only hidden
    have out : ∀ {b : Addr} {ob : Obj} {es : Array DictEntry} {ep : Nat}, s₁.heap.get? b = some ob → ob.data = .dict es ep → G b = none := fun {b ob es ep} w d => by
      by_cases z : G b = none
      · exact z
      · have eb := only b z
        subst eb
        rw [hobj] at w
        cases w
        exact nomatch (show Data.seq vs.toArray 0 = Data.dict es ep from d)
    have ns2 : ∀ {b : Addr} {m : Str → Option Value}, s₁.heap.Ns b m → (hidT s₁.heap G).Ns b m := fun {b m} ⟨ob, es, ep, w, d, r⟩ => ⟨ob, es, ep, hidT_get w (out w d), d, r⟩
    have kin2 : K.In (hidT s₁.heap G) := fun b ob w => hidT_get (KX b ob w) (by
      by_cases z : G b = none
      · exact z
      · have eb := only b z
        subst eb
        rw [hidden z] at w
        cases w)
    have lim2 : (hidT s₁.heap G).NoLimit := by
      obtain ⟨mc, l1, l2⟩ := hlim
      exact ⟨mc, ns2 l1, l2⟩
    have env : Env0 P w K mg (hidT s₁.heap G) callerA [] s₁ G := ⟨rfl, ⟨kin2, ns2 hns, ⟨mb, ns2 hb, hbb⟩, lim2⟩, fun b ob w => of_hidT w, Nat.le_of_eq (hidT_size _ _), trivial, (fun b z => nomatch z), hok, .of_eq hg⟩
    refine codeAny_mono ((F _ kin2 (ns2 hns)).run callerA [] s₁ G ⟨[.ref a], []⟩ [.ref a] [.ref a] _ _ hr rfl env (hbind s₁ (.ref a)) (.cons rfl .nil) (hsp G hO hS)) fun r s2 hq => ?_
    cases r with
    | error w => exact hq.elim
    | ok fl =>
      cases fl with
      | ret u =>
        obtain ⟨v, G2, os2, bare2, un2, hok2, rel, hv⟩ := hq
        cases (show v = .bl true from hv)
        cases (show u = Value.bool true from rel)
        refine ⟨rfl, OldK.of_keep fun b ob w => ?_, os2, bare2⟩
        rcases hO b with z | ⟨oz, xs, z⟩
        · exact un2.keep b ob w z (by intro y; exact nomatch (show b ∈ ([] : List Addr) from y)) (by simp)
        · obtain ⟨w1, _⟩ := hok b _ z
          obtain ⟨w2, _⟩ := hok2 b _ (un2.frzs b oz _ z)
          rw [w] at w1
          cases w1
          exact w2
      | _ => exact hq.elim
  have rv := vals_ints hi
  cases hk : K.lookup a with
  | some ob =>
    have w := KX a ob hk
    rw [hobj] at w
    cases w
    refine key (fun _ => none) (fun _ => .inl rfl) (.inr ⟨_, vs.toArray, _, hk, rfl, rfl, rfl, by rw [List.size_toArray, hi.length]; exact hl, by simpa using rv⟩) (fun b u z => nomatch z) (fun b z => absurd rfl z) (fun z => absurd rfl z)
  | none =>
    refine key (fun b => if b = a then some (.frz { cls := .type "list", data := .seq vs.toArray } (.lst (ns.map V.int))) else none) (fun b => ?_) (.inl (.inr ⟨_, if_pos rfl⟩)) (fun b u z => ?_) (fun b z => ?_) fun _ => hk
    · by_cases c : b = a
      · exact .inr ⟨_, _, if_pos c⟩
      · exact .inl (if_neg c)
    · by_cases c : b = a
      · cases (if_pos c).symm.trans z
        subst c
        exact ⟨hobj, by rw [List.length_map]; exact hl, vs, _, rv, hobj⟩
      · exact nomatch (if_neg c).symm.trans z
    · by_cases c : b = a
      · exact c
      · exact absurd (if_neg c) z
theorem walkG_of {l : PySem.W.OpenLaw} {n k : Nat} {q : Program} {loose : List Str} {XP : (Str → Option Value) → Heap → Prop} {YP : World → Heap → Prop} {d : DefRec} {K : Params → PySem.W.Frag} {sp : World → Sp} {x : Str}
    (hn : l.most = some n) (hn2 : n ≤ sizeLine) (hdf : d.params.defaults = []) (hr : Room k callerA) (hY : ∀ (w : World) (h : Heap), YP w h → (K w.params).In h)
    (F : ∀ (w : World) (mg : Str → Option Value) (fa : Addr) (h : Heap), (K w.params).In h → h.Ns mainGlobals mg → mg d.name = some (.ref fa) →
      ∃ fd : FuncData, (∀ (s : Shared) (u : Value), BindsTo s fd ⟨[u], []⟩ [(x, u)]) ∧ ∀ base : Heap, (K w.params).In base → base.Ns mainGlobals mg → FnG l.prog w (K w.params) mg base k fa fd [x] (sp w))
    (hsp : ∀ (w : World) (H : Hp) (a : Addr) (ns : List Int), ns.length ≤ n → Only H → SqL (K w.params) H a (ns.map V.int) → sp w [.ref a] H (fun v _ => v = .bl true) fun _ _ _ => False) :
    PySem.W.WalkO q loose XP YP l.row.toRowW d [] (fun f vs => PySem.call f vs) :=
  Att.attach_call hn hdf fun w s₀ s₁ mg mb fa o pm cd doc a vs ns G Y ho hd hcd hmg hobj hints hlen hg => by
    obtain ⟨fd, hb, hF⟩ := F w mg fa _ (hY w _ Y) G.T.g hmg
    exact lawG_call (hY w _ Y) G.T.g G.T.b G.T.builtins G.T.nolimit hg hobj hints (Nat.le_trans hlen hn2) hr hF hb (fun H hO hS => hsp w H a ns hlen hO hS)
end Z

set_option Elab.async false
set_option linter.all false
set_option maxRecDepth 100000
set_option maxHeartbeats 1000000
/-! Defs under known guards by their meanings; a def that raises an own exception; a def that catches it. -/
namespace Z
open PySem PySem.Spec PyProof.Rows L2
section
variable {P : Program} {w : World} {K : PySem.W.Frag} {cl : Str → Addr} {mg : Str → Option Value} {base : Heap} {x qual : Str} {st : Stmt} {N ps : List Str}
theorem cal_MG (k : Nat) {body : Fs} (F : FunG K mg x st) (S : FnScope N ps (defScope st)) (hN : ps.length ≤ N.length) (hb : BindsOf x x st ps)
    (hd : ∀ (f : Addr) (cdv : Value) (A : Around) (outer : List Env) (s : Shared) (H : Hp) (E : XK), Room k (A.deeper (envOfC x (defScope st) s.heap.objs.size f cdv)) → (A.deeper (envOfC x (defScope st) s.heap.objs.size f cdv)).guards = some [] →
      PSs (cxOf CX0 P w K mg base N x (defScope st) f cdv A outer s H E).nox (defBody st) (tS K cl body)) : CalG P w K mg base x (k + 1) ps (spM K cl ps.length (runM N body)) := by
  obtain ⟨a, fd, Fn, gm⟩ := F.ex
  exact ⟨a, fd, fnG_of Fn S (fun vs H Q E h => h.1) (fun cdv A outer s H vs Q E hr hg h => ⟨_, hd a cdv A outer s H E hr hg, runM_start body hN h⟩), Fn.binds hb, gm, Fn.kp⟩
theorem okPG {k : Nat} {f : Addr} {fd : FuncData} (body : Fs) (Fn : Fun K x qual st f fd) (S : FnScope N ps (defScope st)) (hN : ps.length ≤ N.length)
    (hd : ∀ (cdv : Value) (A : Around) (outer : List Env) (s : Shared) (H : Hp) (E : XK), Room k (A.deeper (envOfC qual (defScope st) s.heap.objs.size f cdv)) → (A.deeper (envOfC qual (defScope st) s.heap.objs.size f cdv)).guards = some [] →
      PSs (cxOf CX0 P w K mg base N qual (defScope st) f cdv A outer s H E).nox (defBody st) (tS K cl body)) : FnG P w K mg base (k + 1) f fd ps (spP K cl ps.length (runP N body)) :=
  fnG_of Fn S (fun vs H Q E h => h.1) (fun cdv A outer s H vs Q E hr hg h => ⟨_, hd cdv A outer s H E hr hg, runP_start body hN h⟩)
/-- an own class of exceptions without fields -/
structure ExcG (K : PySem.W.Frag) (mg : Str → Option Value) (x : Str) (C : Addr) : Prop where
  gm : mg x = some (.ref C)
  ex : PySem.W.excIn K C He.veBase "ValueError.__new__" = true
  kp : PySem.W.keepIn K (.ref C) = true
  sb : PySem.W.subIn K (.ref C) (.type "BaseException") = some true
  ty : PySem.W.typeIn K (.ref C) = some (.type "type")
  ic : ExcC K C
  em : PySem.W.exmOne K (.ref C) (.ref C) = some true
/-- a def that raises C where its test says so -/
def spR (K : PySem.W.Frag) (cl : Str → Addr) (N : List Str) (n : Nat) (f : Ft) (C : Addr) : Sp := fun vs H _ E => vs.length = n ∧ ∃ F R ds env', f (startE N ds) = some (true, env') ∧ Le F H ∧ Le R H ∧ (∀ a o, R a = some o → F a = none) ∧ AtAll K cl F vs ds ∧
  ∀ F' H', Le F F' → Le F' H' → Le R H' → (∀ a o, R a = some o → F' a = none) → E (.ref C) none H'
structure CalR (P : Program) (w : World) (K : PySem.W.Frag) (mg : Str → Option Value) (base : Heap) (x : Str) (k : Nat) (ps : List Str) (sp : Sp) : Prop where
  ex : ∃ a fd, FnOk P w K mg base (L2.CX P w) k a fd ps sp ∧ Binds K fd ps [] ∧ mg x = some (.ref a) ∧ PySem.W.keepIn K (.ref a) = true
theorem cal_R (k : Nat) {f : Ft} {C : Addr} (F : FunG K mg x st) (S : FnScope N ps (defScope st)) (hN : ps.length ≤ N.length) (hb : BindsOf x x st ps)
    (hd : ∀ (a : Addr) (cdv : Value) (A : Around) (outer : List Env) (s : Shared) (H : Hp) (E : XK), Room k (A.deeper (envOfC x (defScope st) s.heap.objs.size a cdv)) →
      ∃ t2 u, PSs (cxOf (L2.CX P w) P w K mg base N x (defScope st) a cdv A outer s H E) (defBody st) (tSeq (tIfS (tT K cl f) (fun _ _ H' => E (.ref C) none H') t2) u)) : CalR P w K mg base x (k + 1) ps (spR K cl N ps.length f C) := by
  obtain ⟨a, fd, Fn, gm⟩ := F.ex
  refine ⟨a, fd, ?_, Fn.binds hb, gm, Fn.kp⟩
  obtain ⟨oc, od, kV, doc, pm, an, cdv, ct, osl, rfl, lk, hcd⟩ := Fn.ex
  refine fn_of lk hcd S (fun vs H Q E h => h.1) fun A outer s H vs Q E hr hsp => ?_
  obtain ⟨t2, u, d⟩ := hd a cdv A outer s H E hr
  obtain ⟨hl, G, R, ds, env', h1, l1, l2, l3, al, q⟩ := hsp
  refine ⟨_, d, _, G, R, _, startE N ds, true, env', RS.begin al (by rw [← al.length, hl]; exact hN) l1 l2 l3, h1, fun F' ad' H' le S' => ?_⟩
  show (if (true : Bool) = true then E (.ref C) none H' else _)
  rw [if_pos rfl]
  exact q F' H' le S'.fh S'.rh S'.dj
theorem takes_none {X : Cx} : Takes X (fun _ _ _ _ => False) := fun _ _ h => by
  obtain ⟨_, _, _, _, _, _, _, _, _, _, _, _, _, _, _, _, z⟩ := h
  exact z.elim
/-- what is true of a def of two arguments that calls another one, and tells whether it raised -/
def m_ref (N : List Str) (f : Ft) : List Z.D → Option Rt := fun ds => match f (startE N ds) with
  | some (true, _) => some (.dat (.bl true))
  | _ => none
def tsR (C : Addr) : Addr → Value → Option Addr → TS := fun a cls d D σ H => cls = .ref C ∧ d = none ∧ σ[2]? = some (some (.ref a)) ∧ D.rt (.bl true) H
theorem cal_ref (k : Nat) {N2 : List Str} {f : Ft} {C : Addr} {y z : Str} (F : FunG K mg x st) (S : FnScope N [y, z] (defScope st)) (hN : 2 < N.length) (hb : BindsOf x x st [y, z]) (em : PySem.W.exmOne K (.ref C) (.ref C) = some true)
    (hd : ∀ (a : Addr) (cdv : Value) (A : Around) (outer : List Env) (s : Shared) (H : Hp) (E : XK), Room k (A.deeper (envOfC x (defScope st) s.heap.objs.size a cdv)) →
      ∃ u, PSs (cxOf CX0 P w K mg base N x (defScope st) a cdv A outer s H E).nox (defBody st) (tSeq (fun D σ H => tDrop (tCallS (spR K cl N2 2 f C) (WE (wAs K (.ref C) 2 (tsR C) (fun _ _ _ _ => False) D)) (tL K cl (consL (vS 0) (consL (vS 1) nilL)))) D σ H) u)) :
    Cal P w K mg base x (k + 1) [y, z] (spP K cl 2 (m_ref N2 f)) := by
  obtain ⟨a, fd, Fn, gm⟩ := F.ex
  refine ⟨a, fd, Fn.ok S (fun vs H Q E h => h.1) (fun cdv A outer s H vs Q E hr h => ?_), Fn.binds hb, gm, Fn.kp⟩
  obtain ⟨u, d⟩ := hd a cdv A outer s H E hr
  obtain ⟨hl, G, R, ds, r, hm, l1, l2, l3, al, q⟩ := h
  have hl2 := al.length
  rw [hl] at hl2
  match ds, hl2, al with
  | [d0, d1], _, al =>
    unfold m_ref at hm
    split at hm
    · rename_i env' hf
      cases hm
      have start2 : startE N [d0, d1] = some (.dat d0) :: some (.dat d1) :: List.replicate (N.length - 2) none := rfl
      have hlen : (L2.start N vs).length = N.length := by
        have S0 := RS.begin (N := N) al (by simp only [List.length_cons, List.length_nil]; omega) l1 l2 l3
        rw [← S0.len]
        unfold startE
        simp
        omega
      refine ⟨_, d, _, G, R, _, startE N [d0, d1], [.slot 0, .slot 1], startE N [d0, d1], RS.begin al (by simp only [List.length_cons, List.length_nil]; omega) l1 l2 l3, rfl, fun F' ad' H' vs1 le S' pr => ?_⟩
      obtain ⟨F2, le2, S2, a2⟩ := S'.keepL pr (ds := [d0, d1]) (env' := startE N [d0, d1]) rfl
      refine ⟨a2.length, F2, R, [d0, d1], env', hf, S2.fh, S2.rh, S2.dj, a2, fun F3 H3 m1 m2 m3 m4 => ⟨true, em, fun _ b hb => ⟨rfl, rfl, ?_, ?_⟩, fun w => nomatch w⟩⟩
      · rw [List.getElem?_set_self (by rw [hlen]; exact hN)]
      · exact q F3 H3 (.bl true) ((le.trans le2).trans m1) m2 m3 m4 (.bl true)
    · cases hm
/-- what the suite does: isinstance(e, S) and isinstance(e, T) -/
theorem suite_ref {X : Cx} {C CS a : Addr} {oe : PySem.Obj} {cls : Value} {d : Option Addr} {pn : List (Addr × PySem.Obj)} {st1 : Stmt} {T : String} (ic : ExcC X.K C) (k1 : PySem.W.kitOne X.K (.ref C) (.ref CS) = some true) (k2 : PySem.W.kitOne X.K (.ref C) (.type T) = some true)
    (hf : ∃ vs, oe.data = .fields vs) (hz : Zc cls d oe)
    (hd : CallR (X.suite a ((a, oe) :: pn)) (.builtin "isinstance") (rIsE X.K C a) → PS (X.suite a ((a, oe) :: pn)) st1 (tRet (tAndV (tCB (rIsE X.K C a) (tCons (tVar 2) (tCons (tC (.ref CS)) tNil))) (tCB (rIsE X.K C a) (tCons (tVar 2) (tCons (tC (.ty T)) tNil)))))) :
    PSs (X.suite a ((a, oe) :: pn)) [st1] (tsR C a cls d) := ⟨fun pins s σ H D I h => by
  obtain ⟨rfl, rfl, hs, q⟩ := h
  refine (pss_one (hd (call_isE ic hz hf))).run pins s σ H D I ?_
  exact ⟨.ref a, hs, .ref CS, .ref CS, true, rfl, fun u r => r, k1, true, rfl, ⟨.ref a, hs, .ty T, .type T, true, rfl, fun u r => r, k2, q⟩⟩⟩
end
end Z

set_option Elab.async false
set_option linter.all false
set_option maxRecDepth 100000
set_option maxHeartbeats 4000000
namespace K86
open PySem PySem.Spec PyProof.Rows L2 Z
def topS (i : Nat) : Stmt := PySem.Challenge.pw_counterheld_k86_whole_bridges.main.body.getD i (.Pass ⟨0, 0, 0, 0⟩)
abbrev st__law_pool : Stmt := topS 27
abbrev N__law_pool : List Str := ["script", "cell"]
theorem sc__law_pool : FnScope N__law_pool ["script"] (defScope st__law_pool) := ⟨rfl, rfl, rfl, by decide +kernel, rfl, by decide +kernel, by decide +kernel⟩
def e__law_pool_1 : Fe := (ifS (cmpT geG (vS 1) (cS (.int 0))) (bin2 mulG (cS (.int 2)) (vS 1)) (bin2 subG (bin2 mulG (un1 negG (cS (.int 2))) (vS 1)) (cS (.int 1))))
def b__law_pool : Fs := (retS (lstS (consL (lcS (seqI (vS 0)) (nmB 1) yesT e__law_pool_1 [1]) (consL (cS (.int 0)) (consL (cS (.int 0)) (consL (cS (.int 17)) nilL))))))
def m__law_pool : List Z.D → Option Rt := runP N__law_pool b__law_pool
abbrev st__law_take : Stmt := topS 28
abbrev N__law_take : List Str := ["pool", "many", "digit", "cell", "mixed"]
theorem sc__law_take : FnScope N__law_take ["pool", "many"] (defScope st__law_take) := ⟨rfl, rfl, rfl, by decide +kernel, rfl, by decide +kernel, by decide +kernel⟩
def b__law_take (mr : OC → List Z.D → Option (Rt × OC)) : Fs := (seqS (iffS (cmpT gtG (bin2 ixG (vS 0) (cS (.int 2))) (cS (.int 0))) (seqS (asgS 2 (bin2 modG (cbS intG (consL (bin2 ixG (vS 0) (cS (.int 2))) nilL)) (vS 1)))
    (seqS (putS 0 (cS (.int 2)) (bin2 divG (bin2 ixG (vS 0) (cS (.int 2))) (vS 1)))
    (retS (vS 2)))) doneS)
    (seqS (asgS 3 (cS (.int 0)))
    (seqS (iffS (cmpT lt3G (bin2 ixG (vS 0) (cS (.int 1))) (cbS lenG (consL (bin2 ixG (vS 0) (cS (.int 0))) nilL))) (asgS 3 (bin2 ixG (bin2 ixG (vS 0) (cS (.int 0))) (bin2 ixG (vS 0) (cS (.int 1))))) doneS)
    (seqS (putS 0 (cS (.int 1)) (bin2 addG (bin2 ixG (vS 0) (cS (.int 1))) (cS (.int 1))))
    (seqS (iffS (cmpT geG (vS 3) (bin2 powG (cS (.int 10)) (cS (.int 18)))) (seqS (putS 0 (cS (.int 2)) (bin2 divG (vS 3) (cS (.int 2))))
    (retS (callM mr 0 (consL (vS 0) (consL (vS 1) nilL))))) doneS)
    (seqS (putS 0 (cS (.int 3)) (bin2 modG (cbS intG (consL (bin2 addG (bin2 addG (bin2 mulG (bin2 ixG (vS 0) (cS (.int 3))) (cS (.int 48271))) (bin2 mulG (vS 3) (cS (.int 69621)))) (bin2 mulG (bin2 ixG (vS 0) (cS (.int 1))) (cS (.int 613)))) nilL)) (cS (.int 2147483647))))
    (seqS (asgS 4 (bin2 modG (cbS intG (consL (bin2 addG (bin2 addG (bin2 mulG (bin2 ixG (vS 0) (cS (.int 3))) (bin2 ixG (vS 0) (cS (.int 3)))) (bin2 mulG (bin2 ixG (vS 0) (cS (.int 3))) (cS (.int 7919)))) (cS (.int 104729))) nilL)) (cS (.int 1000000007))))
    (retS (bin2 modG (cbS intG (consL (bin2 divG (vS 4) (cS (.int 3))) nilL)) (vS 1))))))))))
def m__law_take : Nat → OC → List Z.D → Option (Rt × OC)
  | 0 => fun _ _ => none
  | n + 1 => runM N__law_take (b__law_take (m__law_take n))
abbrev st__law_pick : Stmt := topS 29
abbrev N__law_pick : List Str := ["pool", "rows"]
theorem sc__law_pick : FnScope N__law_pick ["pool", "rows"] (defScope st__law_pick) := ⟨rfl, rfl, rfl, by decide +kernel, rfl, by decide +kernel, by decide +kernel⟩
def b__law_pick : Fs := (retS (bin2 ixG (vS 1) (callM (m__law_take 2) 0 (consL (vS 0) (consL (cbS lenG (consL (vS 1) nilL)) nilL)))))
def m__law_pick : OC → List Z.D → Option (Rt × OC) := runM N__law_pick b__law_pick
abbrev st__law_order : Stmt := topS 40
abbrev N__law_order : List Str := ["pool", "many", "left", "found", "k"]
theorem sc__law_order : FnScope N__law_order ["pool", "many"] (defScope st__law_order) := ⟨rfl, rfl, rfl, by decide +kernel, rfl, by decide +kernel, by decide +kernel⟩
def l__law_order_1 : Fs := (asgS 3 (bin2 addNG (vS 3) (tupNS (consL (popS 2 (callM (m__law_take 2) 0 (consL (vS 0) (consL (cbS lenG (consL (vS 2) nilL)) nilL)))) nilL))))
def b__law_order : Fs := (seqS (asgS 2 (lrgS (consL (vS 1) nilL)))
    (seqS (asgS 3 (tupNS nilL))
    (seqS (loopS (rngI1 (consL (vS 1) nilL)) (nmB 4) l__law_order_1)
    (retS (vS 3)))))
def m__law_order : OC → List Z.D → Option (Rt × OC) := runM N__law_order b__law_order
abbrev st__law_interval : Stmt := topS 37
abbrev N__law_interval : List Str := ["pool"]
theorem sc__law_interval : FnScope N__law_interval ["pool"] (defScope st__law_interval) := ⟨rfl, rfl, rfl, by decide +kernel, rfl, by decide +kernel, by decide +kernel⟩
def b__law_interval : Fs := (seqS (iffS (cmpT eqG (callM (m__law_take 2) 0 (consL (vS 0) (consL (cS (.int 8)) nilL))) (cS (.int 0))) (retS (tupS (consL (bin2 subG (callM (m__law_take 2) 0 (consL (vS 0) (consL (cS (.int 201)) nilL))) (cS (.int 100))) (consL (bin2 subG (callM (m__law_take 2) 0 (consL (vS 0) (consL (cS (.int 201)) nilL))) (cS (.int 100))) nilL)))) doneS)
    (retS (tupS (consL (bin2 subG (callM (m__law_take 2) 0 (consL (vS 0) (consL (cS (.int 9)) nilL))) (cS (.int 4))) (consL (bin2 subG (callM (m__law_take 2) 0 (consL (vS 0) (consL (cS (.int 9)) nilL))) (cS (.int 4))) nilL)))))
def m__law_interval : OC → List Z.D → Option (Rt × OC) := runM N__law_interval b__law_interval
abbrev st__law_lowest : Stmt := topS 33
abbrev N__law_lowest : List Str := ["n", "d", "one", "other", "turn"]
theorem sc__law_lowest : FnScope N__law_lowest ["n", "d"] (defScope st__law_lowest) := ⟨rfl, rfl, rfl, by decide +kernel, rfl, by decide +kernel, by decide +kernel⟩
def l__law_lowest_1 : Fs := (seqS (iffS (cmpT eqG (vS 3) (cS (.int 0))) brkS doneS)
    (parS 2 3 (consL (vS 3) (consL (bin2 subG (vS 2) (bin2 mulG (vS 3) (cbS intG (consL (bin2 divG (vS 2) (vS 3)) nilL)))) nilL))))
def b__law_lowest : Fs := (seqS (parS 2 3 (consL (cbS absG (consL (vS 0) nilL)) (consL (vS 1) nilL)))
    (seqS (loopS (rngI1 (consL (cS (.int 2000)) nilL)) (nmB 4) l__law_lowest_1)
    (retS (tupS (consL (bin2 divG (vS 0) (vS 2)) (consL (bin2 divG (vS 1) (vS 2)) nilL))))))
def m__law_lowest : List Z.D → Option Rt := runP N__law_lowest b__law_lowest
abbrev st__law_by : Stmt := topS 46
abbrev N__law_by : List Str := ["pool"]
theorem sc__law_by : FnScope N__law_by ["pool"] (defScope st__law_by) := ⟨rfl, rfl, rfl, by decide +kernel, rfl, by decide +kernel, by decide +kernel⟩
def b__law_by : Fs := (retS (callP m__law_lowest (consL (bin2 addG (cS (.int 1)) (callM (m__law_take 2) 0 (consL (vS 0) (consL (cS (.int 9)) nilL)))) (consL (bin2 addG (cS (.int 1)) (callM (m__law_take 2) 0 (consL (vS 0) (consL (cS (.int 9)) nilL)))) nilL))))
def m__law_by : OC → List Z.D → Option (Rt × OC) := runM N__law_by b__law_by
abbrev st__law_below : Stmt := topS 30
abbrev N__law_below : List Str := ["pool", "many", "found", "turn"]
theorem sc__law_below : FnScope N__law_below ["pool", "many"] (defScope st__law_below) := ⟨rfl, rfl, rfl, by decide +kernel, rfl, by decide +kernel, by decide +kernel⟩
def l__law_below_1 : Fs := (asgS 2 (bin2 addG (bin2 mulG (vS 2) (bin2 powG (cS (.int 10)) (cS (.int 6)))) (callM (m__law_take 2) 0 (consL (vS 0) (consL (bin2 powG (cS (.int 10)) (cS (.int 6))) nilL)))))
def b__law_below : Fs := (seqS (asgS 2 (cS (.int 0)))
    (seqS (loopS (rngI1 (consL (cS (.int 5)) nilL)) (nmB 3) l__law_below_1)
    (retS (bin2 modG (cbS intG (consL (vS 2) nilL)) (vS 1)))))
def m__law_below : OC → List Z.D → Option (Rt × OC) := runM N__law_below b__law_below
abbrev st__law_great : Stmt := topS 49
abbrev N__law_great : List Str := ["pool"]
theorem sc__law_great : FnScope N__law_great ["pool"] (defScope st__law_great) := ⟨rfl, rfl, rfl, by decide +kernel, rfl, by decide +kernel, by decide +kernel⟩
def b__law_great : Fs := (retS (bin2 subG (callM m__law_below 0 (consL (vS 0) (consL (bin2 powG (cS (.int 10)) (cS (.int 25))) nilL))) (callM m__law_pick 0 (consL (vS 0) (consL (lstS (consL (cS (.int 0)) (consL (bin2 powG (cS (.int 10)) (cS (.int 24))) nilL))) nilL)))))
def m__law_great : OC → List Z.D → Option (Rt × OC) := runM N__law_great b__law_great
abbrev st__law_wide_bridge : Stmt := topS 50
abbrev N__law_wide_bridge : List Str := ["pool", "voices", "interval", "by"]
theorem sc__law_wide_bridge : FnScope N__law_wide_bridge ["pool", "voices"] (defScope st__law_wide_bridge) := ⟨rfl, rfl, rfl, by decide +kernel, rfl, by decide +kernel, by decide +kernel⟩
def b__law_wide_bridge : Fs := (seqS (asgS 2 (callM m__law_pick 0 (consL (vS 0) (consL (lstS (consL (tupS (consL (cS (.int 0)) (consL (cS (.int 0)) nilL))) (consL (callM m__law_interval 0 (consL (vS 0) nilL)) (consL (tupS (consL (callM m__law_great 0 (consL (vS 0) nilL)) (consL (un1 negG (callM m__law_great 0 (consL (vS 0) nilL))) nilL))) nilL)))) nilL))))
    (seqS (asgS 3 (callM m__law_pick 0 (consL (vS 0) (consL (lstS (consL (tupS (consL (cS (.int 1)) (consL (cS (.int 1)) nilL))) (consL (callM m__law_by 0 (consL (vS 0) nilL)) (consL (callP m__law_lowest (consL (bin2 addG (cS (.int 1)) (callM m__law_below 0 (consL (vS 0) (consL (bin2 powG (cS (.int 10)) (cS (.int 25))) nilL)))) (consL (bin2 addG (cS (.int 1)) (callM m__law_below 0 (consL (vS 0) (consL (bin2 powG (cS (.int 10)) (cS (.int 25))) nilL)))) nilL))) nilL)))) nilL))))
    (retS (tupS (consL (callM m__law_pick 0 (consL (vS 0) (consL (lstS (consL (cS (.int 1)) (consL (un1 negG (cS (.int 1))) nilL))) nilL))) (consL (callM m__law_order 0 (consL (vS 0) (consL (vS 1) nilL))) (consL (vS 2) (consL (vS 3) nilL))))))))
def m__law_wide_bridge : OC → List Z.D → Option (Rt × OC) := runM N__law_wide_bridge b__law_wide_bridge
abbrev st__law_times : Stmt := topS 34
abbrev N__law_times : List Str := ["one", "other"]
theorem sc__law_times : FnScope N__law_times ["one", "other"] (defScope st__law_times) := ⟨rfl, rfl, rfl, by decide +kernel, rfl, by decide +kernel, by decide +kernel⟩
def b__law_times : Fs := (retS (callP m__law_lowest (consL (bin2 mulG (bin2 ixG (vS 0) (cS (.int 0))) (bin2 ixG (vS 1) (cS (.int 0)))) (consL (bin2 mulG (bin2 ixG (vS 0) (cS (.int 1))) (bin2 ixG (vS 1) (cS (.int 1)))) nilL))))
def m__law_times : List Z.D → Option Rt := runP N__law_times b__law_times
abbrev st__law_behind : Stmt := topS 43
abbrev N__law_behind : List Str := ["one", "other", "order", "voice", "interval"]
theorem sc__law_behind : FnScope N__law_behind ["one", "other"] (defScope st__law_behind) := ⟨rfl, rfl, rfl, by decide +kernel, rfl, by decide +kernel, by decide +kernel⟩
def e__law_behind_1 : Fe := (bin2 ixG (bin2 ixG (vS 0) (cS (.int 1))) (vS 3))
def b__law_behind : Fs := (seqS (asgS 2 (cbS tupleG (consL (lcS (seqI (bin2 ixG (vS 1) (cS (.int 1)))) (nmB 3) yesT e__law_behind_1 [3]) nilL)))
    (seqS (asgS 4 (tupS (consL (bin2 addG (bin2 mulG (bin2 ixG (vS 1) (cS (.int 0))) (bin2 ixG (bin2 ixG (vS 0) (cS (.int 2))) (cS (.int 0)))) (bin2 ixG (bin2 ixG (vS 1) (cS (.int 2))) (cS (.int 0)))) (consL (bin2 addG (bin2 mulG (bin2 ixG (vS 1) (cS (.int 0))) (bin2 ixG (bin2 ixG (vS 0) (cS (.int 2))) (cS (.int 1)))) (bin2 ixG (bin2 ixG (vS 1) (cS (.int 2))) (cS (.int 1)))) nilL))))
    (retS (tupS (consL (bin2 mulG (bin2 ixG (vS 0) (cS (.int 0))) (bin2 ixG (vS 1) (cS (.int 0)))) (consL (vS 2) (consL (vS 4) (consL (callP m__law_times (consL (bin2 ixG (vS 0) (cS (.int 3))) (consL (bin2 ixG (vS 1) (cS (.int 3))) nilL))) nilL))))))))
def m__law_behind : List Z.D → Option Rt := runP N__law_behind b__law_behind
abbrev st__law_tone : Stmt := topS 36
abbrev N__law_tone : List Str := ["pool", "fifths"]
theorem sc__law_tone : FnScope N__law_tone ["pool"] (defScope st__law_tone) := ⟨rfl, rfl, rfl, by decide +kernel, rfl, by decide +kernel, by decide +kernel⟩
def b__law_tone : Fs := (seqS (asgS 1 (bin2 subG (callM (m__law_take 2) 0 (consL (vS 0) (consL (cS (.int 15)) nilL))) (cS (.int 7))))
    (seqS (iffS (cmpT eqG (callM (m__law_take 2) 0 (consL (vS 0) (consL (cS (.int 12)) nilL))) (cS (.int 0))) (asgS 1 (bin2 subG (callM (m__law_take 2) 0 (consL (vS 0) (consL (cS (.int 101)) nilL))) (cS (.int 50)))) doneS)
    (retS (tupS (consL (vS 1) (consL (bin2 subG (callM (m__law_take 2) 0 (consL (vS 0) (consL (cS (.int 7)) nilL))) (cbS intG (consL (bin2 divG (bin2 mulG (cS (.int 4)) (vS 1)) (cS (.int 7))) nilL))) nilL))))))
def m__law_tone : OC → List Z.D → Option (Rt × OC) := runM N__law_tone b__law_tone
abbrev st__law_duration : Stmt := topS 35
abbrev N__law_duration : List Str := ["pool"]
theorem sc__law_duration : FnScope N__law_duration ["pool"] (defScope st__law_duration) := ⟨rfl, rfl, rfl, by decide +kernel, rfl, by decide +kernel, by decide +kernel⟩
def b__law_duration : Fs := (seqS (iffS (cmpT eqG (callM (m__law_take 2) 0 (consL (vS 0) (consL (cS (.int 12)) nilL))) (cS (.int 0))) (retS (callP m__law_lowest (consL (bin2 addG (cS (.int 1)) (callM (m__law_take 2) 0 (consL (vS 0) (consL (cS (.int 1000)) nilL)))) (consL (bin2 addG (cS (.int 1)) (callM (m__law_take 2) 0 (consL (vS 0) (consL (cS (.int 1000)) nilL)))) nilL)))) doneS)
    (retS (callP m__law_lowest (consL (bin2 addG (cS (.int 1)) (callM (m__law_take 2) 0 (consL (vS 0) (consL (cS (.int 6)) nilL)))) (consL (callM m__law_pick 0 (consL (vS 0) (consL (lstS (consL (cS (.int 1)) (consL (cS (.int 2)) (consL (cS (.int 3)) (consL (cS (.int 4)) (consL (cS (.int 5)) (consL (cS (.int 8)) (consL (cS (.int 12)) (consL (cS (.int 16)) nilL))))))))) nilL))) nilL)))))
def m__law_duration : OC → List Z.D → Option (Rt × OC) := runM N__law_duration b__law_duration
abbrev st__law_column : Stmt := topS 38
abbrev N__law_column : List Str := ["pool", "voices", "before", "some", "entries", "voice", "kind", "entry", "held", "tone"]
theorem sc__law_column : FnScope N__law_column ["pool", "voices", "before", "some"] (defScope st__law_column) := ⟨rfl, rfl, rfl, by decide +kernel, rfl, by decide +kernel, by decide +kernel⟩
def l__law_column_1 : Fs := (seqS (asgS 6 (callM (m__law_take 2) 0 (consL (vS 0) (consL (cS (.int 6)) nilL))))
    (seqS (asgS 7 (tupS (consL (callM m__law_pick 0 (consL (vS 0) (consL (vS 3) nilL))) (consL (cS (.bl true)) nilL))))
    (seqS (iffS (cmpT eqG (vS 6) (cS (.int 0))) (asgS 7 (cS .non)) (iffS (cmpT lt3G (vS 6) (cS (.int 3))) (seqS (asgS 8 (ifS (isS false (vS 2)) (cS .non) (bin2 ixG (bin2 ixG (vS 2) (cS (.int 2))) (vS 5))))
    (seqS (asgS 9 (ifS (andT (isS true (vS 8)) (cmpT gtG (callM (m__law_take 2) 0 (consL (vS 0) (consL (cS (.int 4)) nilL))) (cS (.int 0)))) (bin2 ixG (vS 8) (cS (.int 0))) (bin2 ixG (vS 7) (cS (.int 0)))))
    (asgS 7 (tupS (consL (vS 9) (consL (cS (.bl false)) nilL)))))) doneS))
    (asgS 4 (bin2 addG (vS 4) (tupS (consL (vS 7) nilL)))))))
def b__law_column : Fs := (seqS (asgS 4 (tupS nilL))
    (seqS (loopS (rngI1 (consL (vS 1) nilL)) (nmB 5) l__law_column_1)
    (retS (tupS (consL (callM m__law_duration 0 (consL (vS 0) nilL)) (consL (ifS (cmpT eqG (callM (m__law_take 2) 0 (consL (vS 0) (consL (cS (.int 2)) nilL))) (cS (.int 0))) (callM (m__law_take 2) 0 (consL (vS 0) (consL (cS (.int 10)) nilL))) (cS (.int 0))) (consL (vS 4) nilL)))))))
def m__law_column : OC → List Z.D → Option (Rt × OC) := runM N__law_column b__law_column
abbrev st__law_bar : Stmt := topS 39
abbrev N__law_bar : List Str := ["pool", "voices", "most", "some", "k", "found"]
theorem sc__law_bar : FnScope N__law_bar ["pool", "voices", "most"] (defScope st__law_bar) := ⟨rfl, rfl, rfl, by decide +kernel, rfl, by decide +kernel, by decide +kernel⟩
def e__law_bar_1 : Fe := (callM m__law_tone 0 (consL (vS 0) nilL))
def l__law_bar_1 : Fs := (asgS 5 (bin2 addG (vS 5) (tupS (consL (callM m__law_column 0 (consL (vS 0) (consL (vS 1) (consL (ifS (truS (vS 5)) (bin2 ixG (vS 5) (un1 negG (cS (.int 1)))) (cS .non)) (consL (vS 3) nilL))))) nilL))))
def b__law_bar : Fs := (seqS (asgS 3 (lcS (rngI1 (consL (bin2 addG (cS (.int 1)) (callM (m__law_take 2) 0 (consL (vS 0) (consL (cS (.int 6)) nilL)))) nilL)) (nmB 4) yesT e__law_bar_1 [4]))
    (seqS (asgS 5 (tupS nilL))
    (seqS (loopS (rngI1 (consL (bin2 addG (cS (.int 1)) (callM (m__law_take 2) 0 (consL (vS 0) (consL (vS 2) nilL)))) nilL)) (nmB 4) l__law_bar_1)
    (retS (vS 5)))))
def m__law_bar : OC → List Z.D → Option (Rt × OC) := runM N__law_bar b__law_bar
abbrev st_with_tones : Stmt := topS 12
abbrev N_with_tones : List Str := ["column", "sign", "shift", "entries", "entry", "tone", "begins"]
theorem sc_with_tones : FnScope N_with_tones ["column", "sign", "shift"] (defScope st_with_tones) := ⟨rfl, rfl, rfl, by decide +kernel, rfl, by decide +kernel, by decide +kernel⟩
def l_with_tones_1 : Fs := (iffS (isS false (vS 4)) (appS 3 (cS .non)) (seqS (asgT (tupB 2 (consB (nmB 5) (consB (nmB 6) nilB))) (vS 4))
    (appS 3 (tupS (consL (tupS (consL (bin2 addG (bin2 mulG (vS 1) (bin2 ixG (vS 5) (cS (.int 0)))) (bin2 ixG (vS 2) (cS (.int 0)))) (consL (bin2 addG (bin2 mulG (vS 1) (bin2 ixG (vS 5) (cS (.int 1)))) (bin2 ixG (vS 2) (cS (.int 1)))) nilL))) (consL (vS 6) nilL))))))
def b_with_tones : Fs := (seqS (asgS 3 (lstS nilL))
    (seqS (loopS (seqI (bin2 ixG (vS 0) (cS (.int 2)))) (nmB 4) l_with_tones_1)
    (retS (tupS (consL (bin2 ixG (vS 0) (cS (.int 0))) (consL (bin2 ixG (vS 0) (cS (.int 1))) (consL (cbS tupleG (consL (vS 3) nilL)) nilL)))))))
def m_with_tones : List Z.D → Option Rt := runP N_with_tones b_with_tones
abbrev st_seen : Stmt := topS 14
abbrev N_seen : List Str := ["column", "view", "duration", "accent", "entries", "voice"]
theorem sc_seen : FnScope N_seen ["column", "view"] (defScope st_seen) := ⟨rfl, rfl, rfl, by decide +kernel, rfl, by decide +kernel, by decide +kernel⟩
def e_seen_1 : Fe := (bin2 ixG (vS 4) (vS 5))
def b_seen : Fs := (seqS (asgT (tupB 3 (consB (nmB 2) (consB (nmB 3) (consB (nmB 4) nilB)))) (callP m_with_tones (consL (vS 0) (consL (bin2 ixG (vS 1) (cS (.int 0))) (consL (tupS (consL (cS (.int 0)) (consL (cS (.int 0)) nilL))) nilL)))))
    (retS (tupS (consL (vS 2) (consL (vS 3) (consL (cbS tupleG (consL (lcS (seqI (bin2 ixG (vS 1) (cS (.int 1)))) (nmB 5) yesT e_seen_1 [5]) nilL)) nilL))))))
def m_seen : List Z.D → Option Rt := runP N_seen b_seen
abbrev st_fraction : Stmt := topS 4
abbrev N_fraction : List Str := ["n", "d", "common"]
theorem sc_fraction : FnScope N_fraction ["n", "d"] (defScope st_fraction) := ⟨rfl, rfl, rfl, by decide +kernel, rfl, by decide +kernel, by decide +kernel⟩
def b_fraction : Fs := (seqS (asgS 2 (cbS gcdG (consL (vS 0) (consL (vS 1) nilL))))
    (seqS (iffS (cmpT lt3G (vS 1) (cS (.int 0))) (asgS 2 (un1 negG (vS 2))) doneS)
    (retS (tupS (consL (bin2 divG (vS 0) (vS 2)) (consL (bin2 divG (vS 1) (vS 2)) nilL))))))
def m_fraction : List Z.D → Option Rt := runP N_fraction b_fraction
abbrev st_product : Stmt := topS 5
abbrev N_product : List Str := ["one", "other"]
theorem sc_product : FnScope N_product ["one", "other"] (defScope st_product) := ⟨rfl, rfl, rfl, by decide +kernel, rfl, by decide +kernel, by decide +kernel⟩
def b_product : Fs := (retS (callP m_fraction (consL (bin2 mulG (bin2 ixG (vS 0) (cS (.int 0))) (bin2 ixG (vS 1) (cS (.int 0)))) (consL (bin2 mulG (bin2 ixG (vS 0) (cS (.int 1))) (bin2 ixG (vS 1) (cS (.int 1)))) nilL))))
def m_product : List Z.D → Option Rt := runP N_product b_product
abbrev st_brought_column : Stmt := topS 24
abbrev N_brought_column : List Str := ["column", "bridge", "duration", "accent", "entries"]
theorem sc_brought_column : FnScope N_brought_column ["column", "bridge"] (defScope st_brought_column) := ⟨rfl, rfl, rfl, by decide +kernel, rfl, by decide +kernel, by decide +kernel⟩
def b_brought_column : Fs := (seqS (asgT (tupB 3 (consB (nmB 2) (consB (nmB 3) (consB (nmB 4) nilB)))) (callP m_with_tones (consL (callP m_seen (consL (vS 0) (consL (slS (vS 1) noO (soO (cS (.int 2)))) nilL))) (consL (cS (.int 1)) (consL (bin2 ixG (vS 1) (cS (.int 2))) nilL)))))
    (retS (tupS (consL (callP m_product (consL (vS 2) (consL (bin2 ixG (vS 1) (cS (.int 3))) nilL))) (consL (vS 3) (consL (vS 4) nilL))))))
def m_brought_column : List Z.D → Option Rt := runP N_brought_column b_brought_column
abbrev st_brought : Stmt := topS 25
abbrev N_brought : List Str := ["columns", "bridge", "column"]
theorem sc_brought : FnScope N_brought ["columns", "bridge"] (defScope st_brought) := ⟨rfl, rfl, rfl, by decide +kernel, rfl, by decide +kernel, by decide +kernel⟩
def e_brought_1 : Fe := (callP m_brought_column (consL (vS 2) (consL (vS 1) nilL)))
def b_brought : Fs := (retS (cbS tupleG (consL (lcS (seqI (vS 0)) (nmB 2) yesT e_brought_1 [2]) nilL)))
def m_brought : List Z.D → Option Rt := runP N_brought b_brought
abbrev st__law_deep : Stmt := topS 52
abbrev N__law_deep : List Str := ["thing", "turn"]
theorem sc__law_deep : FnScope N__law_deep ["thing"] (defScope st__law_deep) := ⟨rfl, rfl, rfl, by decide +kernel, rfl, by decide +kernel, by decide +kernel⟩
def l__law_deep_1 : Fs := (asgS 0 (tupS (consL (vS 0) nilL)))
def b__law_deep : Fs := (seqS (loopS (rngI1 (consL (cS (.int 40)) nilL)) (nmB 1) l__law_deep_1)
    (retS (vS 0)))
def m__law_deep : List Z.D → Option Rt := runP N__law_deep b__law_deep
abbrev st__law_wrong : Stmt := topS 53
abbrev N__law_wrong : List Str := ["pool", "bridge", "voices", "sign", "order", "interval", "by", "some", "rows", "one", "other"]
theorem sc__law_wrong : FnScope N__law_wrong ["pool", "bridge", "voices"] (defScope st__law_wrong) := ⟨rfl, rfl, rfl, by decide +kernel, rfl, by decide +kernel, by decide +kernel⟩
def e__law_wrong_1 : Fe := (tupS (consL (vS 9) (consL (vS 4) (consL (vS 5) (consL (vS 6) nilL)))))
def e__law_wrong_2 : Fe := (tupS (consL (vS 3) (consL (vS 9) (consL (vS 5) (consL (vS 6) nilL)))))
def e__law_wrong_3 : Fe := (tupS (consL (vS 3) (consL (vS 4) (consL (vS 9) (consL (vS 6) nilL)))))
def e__law_wrong_4 : Fe := (tupS (consL (vS 3) (consL (vS 4) (consL (vS 5) (consL (vS 9) nilL)))))
def b__law_wrong : Fs := (seqS (asgT (tupB 4 (consB (nmB 3) (consB (nmB 4) (consB (nmB 5) (consB (nmB 6) nilB))))) (vS 1))
    (seqS (asgS 7 (lstS (consL (cS .non) (consL (cS (.bl true)) (consL (cS (.bl false)) (consL (cS (.int 0)) (consL (cS (.int 2)) (consL (un1 negG (cS (.int 2))) (consL (cS (.str "1")) (consL (tupS (consL (cS (.int 1)) nilL)) (consL (callP m__law_deep (consL (cS (.int 1)) nilL)) (consL (bin2 powG (cS (.int 10)) (cS (.int 30))) nilL))))))))))))
    (seqS (asgS 8 (lcS (seqI (vS 7)) (nmB 9) yesT e__law_wrong_1 [9]))
    (seqS (asgS 10 (lstS (consL (cS .non) (consL (cS (.int 0)) (consL (cS (.str "0")) (consL (slS (vS 4) (soO (cS (.int 1))) noO) (consL (bin2 addG (vS 4) (tupS (consL (vS 2) nilL))) (consL (bin2 addG (tupS (consL (vS 2) nilL)) (slS (vS 4) (soO (cS (.int 1))) noO)) (consL (bin2 addG (tupS (consL (un1 negG (cS (.int 1))) nilL)) (slS (vS 4) (soO (cS (.int 1))) noO)) (consL (bin2 addG (slS (vS 4) noO (soO (un1 negG (cS (.int 1))))) (tupS (consL (cS .non) nilL))) (consL (bin2 mulG (tupS (consL (cS (.bl true)) nilL)) (vS 2)) (consL (callP m__law_deep (consL (vS 4) nilL)) (consL (lstS (consL (cbS listG (consL (vS 4) nilL)) nilL)) nilL)))))))))))))
    (seqS (extS 8 (lcS (seqI (vS 10)) (nmB 9) yesT e__law_wrong_2 [9]))
    (seqS (iffS (cmpT gtG (vS 2) (cS (.int 1))) (appS 8 (tupS (consL (vS 3) (consL (bin2 addG (slS (vS 4) noO (soO (un1 negG (cS (.int 1))))) (tupS (consL (bin2 ixG (vS 4) (cS (.int 0))) nilL))) (consL (vS 5) (consL (vS 6) nilL)))))) doneS)
    (seqS (asgS 10 (lstS (consL (cS .non) (consL (cS (.int 0)) (consL (cS (.str "00")) (consL (tupS nilL) (consL (slS (vS 5) noO (soO (cS (.int 1)))) (consL (bin2 addG (vS 5) (tupS (consL (cS (.int 0)) nilL))) (consL (tupS (consL (bin2 ixG (vS 5) (cS (.int 0))) (consL (cS .non) nilL))) (consL (tupS (consL (cS (.bl true)) (consL (bin2 ixG (vS 5) (cS (.int 1))) nilL))) (consL (tupS (consL (tupS (consL (cS (.int 0)) nilL)) (consL (cS (.int 0)) nilL))) (consL (callP m__law_deep (consL (vS 5) nilL)) nilL))))))))))))
    (seqS (extS 8 (lcS (seqI (vS 10)) (nmB 9) yesT e__law_wrong_3 [9]))
    (seqS (asgS 10 (lstS (consL (cS .non) (consL (cS (.int 1)) (consL (cS (.str "1")) (consL (tupS nilL) (consL (tupS (consL (cS (.int 0)) (consL (cS (.int 1)) nilL))) (consL (tupS (consL (un1 negG (bin2 ixG (vS 6) (cS (.int 0)))) (consL (bin2 ixG (vS 6) (cS (.int 1))) nilL))) (consL (tupS (consL (bin2 ixG (vS 6) (cS (.int 0))) (consL (un1 negG (bin2 ixG (vS 6) (cS (.int 1)))) nilL))) (consL (tupS (consL (bin2 mulG (cS (.int 2)) (bin2 ixG (vS 6) (cS (.int 0)))) (consL (bin2 mulG (cS (.int 2)) (bin2 ixG (vS 6) (cS (.int 1)))) nilL))) (consL (tupS (consL (cS (.int 1)) (consL (cS (.int 0)) nilL))) (consL (tupS (consL (cS (.int 0)) (consL (cS (.int 0)) nilL))) (consL (slS (vS 6) noO (soO (cS (.int 1)))) (consL (bin2 addG (vS 6) (tupS (consL (cS (.int 1)) nilL))) (consL (tupS (consL (cS (.bl true)) (consL (cS (.int 1)) nilL))) (consL (tupS (consL (cS (.int 1)) (consL (cS (.bl true)) nilL))) (consL (callP m__law_deep (consL (vS 6) nilL)) nilL)))))))))))))))))
    (seqS (extS 8 (lcS (seqI (vS 10)) (nmB 9) yesT e__law_wrong_4 [9]))
    (retS (bin2 addG (vS 8) (lstS (consL (slS (vS 1) noO (soO (cS (.int 3)))) (consL (bin2 addG (vS 1) (tupS (consL (cS (.int 0)) nilL))) (consL (tupS nilL) (consL (cS .non) (consL (cS (.int 0)) (consL (cS (.str "bridge")) (consL (callP m__law_deep (consL (vS 1) nilL)) (consL (cbS dictG (consL (lstS (consL (tupS (consL (cS (.int 0)) (consL (vS 1) nilL))) nilL)) nilL)) nilL)))))))))))))))))))))
def m__law_wrong : OC → List Z.D → Option (Rt × OC) := runM N__law_wrong b__law_wrong
abbrev st__law_is_integer : Stmt := topS 31
abbrev N__law_is_integer : List Str := ["actual"]
theorem sc__law_is_integer : FnScope N__law_is_integer ["actual"] (defScope st__law_is_integer) := ⟨rfl, rfl, rfl, by decide +kernel, rfl, by decide +kernel, by decide +kernel⟩
def b__law_is_integer : Fs := (retS (andS (cbS isiG (consL (vS 0) (consL (cS (.ty "int")) nilL))) (notS (cbS isiG (consL (vS 0) (consL (cS (.ty "bool")) nilL))))))
def m__law_is_integer : List Z.D → Option Rt := runP N__law_is_integer b__law_is_integer
abbrev st__law_same : Stmt := topS 32
abbrev N__law_same : List Str := ["actual", "due", "k"]
theorem sc__law_same : FnScope N__law_same ["actual", "due"] (defScope st__law_same) := ⟨rfl, rfl, rfl, by decide +kernel, rfl, by decide +kernel, by decide +kernel⟩
def e__law_same_1 (mr : List Z.D → Option Rt) : Fe := (callP mr (consL (bin2 ixG (vS 0) (vS 2)) (consL (bin2 ixG (vS 1) (vS 2)) nilL)))
def b__law_same (mr : List Z.D → Option Rt) : Fs := (seqS (iffS (truS (cbS isiG (consL (vS 1) (consL (cS (.ty "tuple")) nilL)))) (seqS (iffS (orT (notT (truS (cbS isiG (consL (vS 0) (consL (cS (.ty "tuple")) nilL))))) (cmpT neG (cbS lenG (consL (vS 0) nilL)) (cbS lenG (consL (vS 1) nilL)))) (retS (cS (.bl false))) doneS)
    (retS (cbS allG (consL (lcS (rngI1 (consL (cbS lenG (consL (vS 1) nilL)) nilL)) (nmB 2) yesT (e__law_same_1 mr) [2]) nilL)))) doneS)
    (seqS (iffS (truS (cbS isiG (consL (vS 1) (consL (cS (.ty "list")) nilL)))) (seqS (iffS (orT (notT (truS (cbS isiG (consL (vS 0) (consL (cS (.ty "list")) nilL))))) (cmpT neG (cbS lenG (consL (vS 0) nilL)) (cbS lenG (consL (vS 1) nilL)))) (retS (cS (.bl false))) doneS)
    (retS (cbS allG (consL (lcS (rngI1 (consL (cbS lenG (consL (vS 1) nilL)) nilL)) (nmB 2) yesT (e__law_same_1 mr) [2]) nilL)))) doneS)
    (seqS (iffS (isS false (vS 1)) (retS (tV (isS false (vS 0)))) doneS)
    (seqS (iffS (truS (cbS isiG (consL (vS 1) (consL (cS (.ty "bool")) nilL)))) (retS (andS (cbS isiG (consL (vS 0) (consL (cS (.ty "bool")) nilL))) (bin2 (bRes eqG) (vS 0) (vS 1)))) doneS)
    (seqS (iffS (truS (cbS isiG (consL (vS 1) (consL (cS (.ty "str")) nilL)))) (retS (andS (cbS isiG (consL (vS 0) (consL (cS (.ty "str")) nilL))) (bin2 (bRes eqG) (vS 0) (vS 1)))) doneS)
    (retS (andS (callP m__law_is_integer (consL (vS 0) nilL)) (bin2 (bRes eqG) (vS 0) (vS 1)))))))))
def m__law_same : Nat → List Z.D → Option Rt
  | 0 => fun _ => none
  | n + 1 => runP N__law_same (b__law_same (m__law_same n))
abbrev st_is_fraction : Stmt := topS 7
abbrev N_is_fraction : List Str := ["value", "part"]
theorem sc_is_fraction : FnScope N_is_fraction ["value"] (defScope st_is_fraction) := ⟨rfl, rfl, rfl, by decide +kernel, rfl, by decide +kernel, by decide +kernel⟩
def e_is_fraction_1 : Fe := (orS (cbS isiG (consL (vS 1) (consL (cS (.ty "bool")) nilL))) (notS (cbS isiG (consL (vS 1) (consL (cS (.ty "int")) nilL)))))
def b_is_fraction : Fs := (seqS (iffS (orT (notT (truS (cbS isiG (consL (vS 0) (consL (tupS (consL (cS (.ty "tuple")) (consL (cS (.ty "list")) nilL))) nilL))))) (cmpT neG (cbS lenG (consL (vS 0) nilL)) (cS (.int 2)))) (retS (cS (.bl false))) doneS)
    (seqS (iffS (truS (cbS anyG (consL (lcS (seqI (vS 0)) (nmB 1) yesT e_is_fraction_1 [1]) nilL))) (retS (cS (.bl false))) doneS)
    (retS (andS (bin2 (bRes gtG) (bin2 ixG (vS 0) (cS (.int 1))) (cS (.int 0))) (bin2 (bRes eqG) (cbS gcdG (consL (bin2 ixG (vS 0) (cS (.int 0))) (consL (bin2 ixG (vS 0) (cS (.int 1))) nilL))) (cS (.int 1)))))))
def m_is_fraction : List Z.D → Option Rt := runP N_is_fraction b_is_fraction
abbrev st_is_whole : Stmt := topS 11
abbrev N_is_whole : List Str := ["value"]
theorem sc_is_whole : FnScope N_is_whole ["value"] (defScope st_is_whole) := ⟨rfl, rfl, rfl, by decide +kernel, rfl, by decide +kernel, by decide +kernel⟩
def b_is_whole : Fs := (retS (andS (cbS isiG (consL (vS 0) (consL (cS (.ty "int")) nilL))) (notS (cbS isiG (consL (vS 0) (consL (cS (.ty "bool")) nilL))))))
def m_is_whole : List Z.D → Option Rt := runP N_is_whole b_is_whole
abbrev st_is_order : Stmt := topS 17
abbrev N_is_order : List Str := ["value", "voices", "voice"]
theorem sc_is_order : FnScope N_is_order ["value", "voices"] (defScope st_is_order) := ⟨rfl, rfl, rfl, by decide +kernel, rfl, by decide +kernel, by decide +kernel⟩
def e_is_order_1 : Fe := (callP m_is_whole (consL (vS 2) nilL))
def b_is_order : Fs := (seqS (iffS (orT (notT (truS (cbS isiG (consL (vS 0) (consL (tupS (consL (cS (.ty "tuple")) (consL (cS (.ty "list")) nilL))) nilL))))) (notT (truS (cbS allG (consL (lcS (seqI (vS 0)) (nmB 2) yesT e_is_order_1 [2]) nilL))))) (retS (cS (.bl false))) doneS)
    (retS (bin2 (bRes eqG) (cbS sortG (consL (vS 0) nilL)) (lrgS (consL (vS 1) nilL)))))
def m_is_order : List Z.D → Option Rt := runP N_is_order b_is_order
abbrev st_is_bridge : Stmt := topS 20
abbrev N_is_bridge : List Str := ["value", "voices", "sign", "order", "interval", "by", "part"]
theorem sc_is_bridge : FnScope N_is_bridge ["value", "voices"] (defScope st_is_bridge) := ⟨rfl, rfl, rfl, by decide +kernel, rfl, by decide +kernel, by decide +kernel⟩
def e_is_bridge_1 : Fe := (callP m_is_whole (consL (vS 6) nilL))
def b_is_bridge : Fs := (seqS (iffS (orT (notT (truS (cbS isiG (consL (vS 0) (consL (tupS (consL (cS (.ty "tuple")) (consL (cS (.ty "list")) nilL))) nilL))))) (cmpT neG (cbS lenG (consL (vS 0) nilL)) (cS (.int 4)))) (retS (cS (.bl false))) doneS)
    (seqS (asgT (tupB 4 (consB (nmB 2) (consB (nmB 3) (consB (nmB 4) (consB (nmB 5) nilB))))) (vS 0))
    (seqS (iffS (orT (notT (truS (callP m_is_whole (consL (vS 2) nilL)))) (orT (cmpT (inG true) (vS 2) (tupS (consL (cS (.int 1)) (consL (un1 negG (cS (.int 1))) nilL)))) (notT (truS (callP m_is_order (consL (vS 3) (consL (vS 1) nilL))))))) (retS (cS (.bl false))) doneS)
    (seqS (iffS (orT (notT (truS (cbS isiG (consL (vS 4) (consL (tupS (consL (cS (.ty "tuple")) (consL (cS (.ty "list")) nilL))) nilL))))) (cmpT neG (cbS lenG (consL (vS 4) nilL)) (cS (.int 2)))) (retS (cS (.bl false))) doneS)
    (retS (andS (cbS allG (consL (lcS (seqI (vS 4)) (nmB 6) yesT e_is_bridge_1 [6]) nilL)) (andS (callP m_is_fraction (consL (vS 5) nilL)) (bin2 (bRes gtG) (bin2 ixG (vS 5) (cS (.int 0))) (cS (.int 0))))))))))
def m_is_bridge : List Z.D → Option Rt := runP N_is_bridge b_is_bridge
abbrev st_check_bridge : Stmt := topS 21
abbrev N_check_bridge : List Str := ["bridge", "voices"]
theorem sc_check_bridge : FnScope N_check_bridge ["bridge", "voices"] (defScope st_check_bridge) := ⟨rfl, rfl, rfl, by decide +kernel, rfl, by decide +kernel, by decide +kernel⟩
def b_check_bridge : Fs := (seqS (iffS (notT (truS (callP m_is_bridge (consL (vS 0) (consL (vS 1) nilL))))) noS doneS)
    (retS (tupS (consL (bin2 ixG (vS 0) (cS (.int 0))) (consL (cbS tupleG (consL (bin2 ixG (vS 0) (cS (.int 1))) nilL)) (consL (cbS tupleG (consL (bin2 ixG (vS 0) (cS (.int 2))) nilL)) (consL (cbS tupleG (consL (bin2 ixG (vS 0) (cS (.int 3))) nilL)) nilL)))))))
def m_check_bridge : List Z.D → Option Rt := runP N_check_bridge b_check_bridge
abbrev st__law_refused : Stmt := topS 51
abbrev N__law_refused : List Str := ["thing", "voices", "wrong"]
theorem sc__law_refused : FnScope N__law_refused ["thing", "voices"] (defScope st__law_refused) := ⟨rfl, rfl, rfl, by decide +kernel, rfl, by decide +kernel, by decide +kernel⟩
def t_check_bridge : Ft := (notT (truS (callP m_is_bridge (consL (vS 0) (consL (vS 1) nilL)))))
def m__law_refused : List Z.D → Option Rt := m_ref N_check_bridge t_check_bridge
abbrev st__law_listed : Stmt := topS 42
abbrev N__law_listed : List Str := ["thing", "part"]
theorem sc__law_listed : FnScope N__law_listed ["thing"] (defScope st__law_listed) := ⟨rfl, rfl, rfl, by decide +kernel, rfl, by decide +kernel, by decide +kernel⟩
def e__law_listed_1 (mr : List Z.D → Option Rt) : Fe := (callP mr (consL (vS 1) nilL))
def b__law_listed (mr : List Z.D → Option Rt) : Fs := (seqS (iffS (truS (cbS isiG (consL (vS 0) (consL (cS (.ty "tuple")) nilL)))) (retS (lcS (seqI (vS 0)) (nmB 1) yesT (e__law_listed_1 mr) [1])) doneS)
    (retS (vS 0)))
def m__law_listed : Nat → List Z.D → Option Rt
  | 0 => fun _ => none
  | n + 1 => runP N__law_listed (b__law_listed (m__law_listed n))
abbrev st__law_raised : Stmt := topS 41
abbrev N__law_raised : List Str := ["cell", "sign", "tone", "entries", "entry"]
theorem sc__law_raised : FnScope N__law_raised ["cell", "sign", "tone"] (defScope st__law_raised) := ⟨rfl, rfl, rfl, by decide +kernel, rfl, by decide +kernel, by decide +kernel⟩
def l__law_raised_1 : Fs := (seqS (iffS (isS true (vS 4)) (asgS 4 (tupS (consL (tupS (consL (bin2 addG (bin2 ixG (vS 2) (cS (.int 0))) (bin2 mulG (vS 1) (bin2 ixG (bin2 ixG (vS 4) (cS (.int 0))) (cS (.int 0))))) (consL (bin2 addG (bin2 ixG (vS 2) (cS (.int 1))) (bin2 mulG (vS 1) (bin2 ixG (bin2 ixG (vS 4) (cS (.int 0))) (cS (.int 1))))) nilL))) (consL (bin2 ixG (vS 4) (cS (.int 1))) nilL)))) doneS)
    (asgS 3 (bin2 addG (vS 3) (tupS (consL (vS 4) nilL)))))
def b__law_raised : Fs := (seqS (asgS 3 (tupS nilL))
    (seqS (loopS (seqI (bin2 ixG (vS 0) (cS (.int 2)))) (nmB 4) l__law_raised_1)
    (retS (tupS (consL (bin2 ixG (vS 0) (cS (.int 0))) (consL (bin2 ixG (vS 0) (cS (.int 1))) (consL (vS 3) nilL)))))))
def m__law_raised : List Z.D → Option Rt := runP N__law_raised b__law_raised
abbrev st__law_seen : Stmt := topS 44
abbrev N__law_seen : List Str := ["cell", "view", "entries", "voice"]
theorem sc__law_seen : FnScope N__law_seen ["cell", "view"] (defScope st__law_seen) := ⟨rfl, rfl, rfl, by decide +kernel, rfl, by decide +kernel, by decide +kernel⟩
def e__law_seen_1 : Fe := (bin2 ixG (vS 2) (vS 3))
def b__law_seen : Fs := (seqS (asgS 2 (bin2 ixG (callP m__law_raised (consL (vS 0) (consL (bin2 ixG (vS 1) (cS (.int 0))) (consL (tupS (consL (cS (.int 0)) (consL (cS (.int 0)) nilL))) nilL)))) (cS (.int 2))))
    (retS (tupS (consL (bin2 ixG (vS 0) (cS (.int 0))) (consL (bin2 ixG (vS 0) (cS (.int 1))) (consL (cbS tupleG (consL (lcS (seqI (bin2 ixG (vS 1) (cS (.int 1)))) (nmB 3) yesT e__law_seen_1 [3]) nilL)) nilL))))))
def m__law_seen : List Z.D → Option Rt := runP N__law_seen b__law_seen
abbrev st__law_crossed : Stmt := topS 47
abbrev N__law_crossed : List Str := ["cell", "bridge", "moved"]
theorem sc__law_crossed : FnScope N__law_crossed ["cell", "bridge"] (defScope st__law_crossed) := ⟨rfl, rfl, rfl, by decide +kernel, rfl, by decide +kernel, by decide +kernel⟩
def b__law_crossed : Fs := (seqS (asgS 2 (callP m__law_raised (consL (callP m__law_seen (consL (vS 0) (consL (slS (vS 1) noO (soO (cS (.int 2)))) nilL))) (consL (cS (.int 1)) (consL (bin2 ixG (vS 1) (cS (.int 2))) nilL)))))
    (retS (tupS (consL (callP m__law_times (consL (bin2 ixG (vS 0) (cS (.int 0))) (consL (bin2 ixG (vS 1) (cS (.int 3))) nilL))) (consL (bin2 ixG (vS 2) (cS (.int 1))) (consL (bin2 ixG (vS 2) (cS (.int 2))) nilL))))))
def m__law_crossed : List Z.D → Option Rt := runP N__law_crossed b__law_crossed
abbrev st_added : Stmt := topS 9
abbrev N_added : List Str := ["one", "other"]
theorem sc_added : FnScope N_added ["one", "other"] (defScope st_added) := ⟨rfl, rfl, rfl, by decide +kernel, rfl, by decide +kernel, by decide +kernel⟩
def b_added : Fs := (retS (tupS (consL (bin2 addG (bin2 ixG (vS 0) (cS (.int 0))) (bin2 ixG (vS 1) (cS (.int 0)))) (consL (bin2 addG (bin2 ixG (vS 0) (cS (.int 1))) (bin2 ixG (vS 1) (cS (.int 1)))) nilL))))
def m_added : List Z.D → Option Rt := runP N_added b_added
abbrev st_scaled : Stmt := topS 15
abbrev N_scaled : List Str := ["interval", "sign"]
theorem sc_scaled : FnScope N_scaled ["interval", "sign"] (defScope st_scaled) := ⟨rfl, rfl, rfl, by decide +kernel, rfl, by decide +kernel, by decide +kernel⟩
def b_scaled : Fs := (retS (tupS (consL (bin2 mulG (vS 1) (bin2 ixG (vS 0) (cS (.int 0)))) (consL (bin2 mulG (vS 1) (bin2 ixG (vS 0) (cS (.int 1)))) nilL))))
def m_scaled : List Z.D → Option Rt := runP N_scaled b_scaled
abbrev st_put_behind : Stmt := topS 22
abbrev N_put_behind : List Str := ["one", "other", "order", "voice", "interval"]
theorem sc_put_behind : FnScope N_put_behind ["one", "other"] (defScope st_put_behind) := ⟨rfl, rfl, rfl, by decide +kernel, rfl, by decide +kernel, by decide +kernel⟩
def e_put_behind_1 : Fe := (bin2 ixG (bin2 ixG (vS 0) (cS (.int 1))) (vS 3))
def b_put_behind : Fs := (seqS (asgS 2 (cbS tupleG (consL (lcS (seqI (bin2 ixG (vS 1) (cS (.int 1)))) (nmB 3) yesT e_put_behind_1 [3]) nilL)))
    (seqS (asgS 4 (callP m_added (consL (callP m_scaled (consL (bin2 ixG (vS 0) (cS (.int 2))) (consL (bin2 ixG (vS 1) (cS (.int 0))) nilL))) (consL (bin2 ixG (vS 1) (cS (.int 2))) nilL))))
    (retS (tupS (consL (bin2 mulG (bin2 ixG (vS 0) (cS (.int 0))) (bin2 ixG (vS 1) (cS (.int 0)))) (consL (vS 2) (consL (vS 4) (consL (callP m_product (consL (bin2 ixG (vS 0) (cS (.int 3))) (consL (bin2 ixG (vS 1) (cS (.int 3))) nilL))) nilL))))))))
def m_put_behind : List Z.D → Option Rt := runP N_put_behind b_put_behind
abbrev st_quotient : Stmt := topS 6
abbrev N_quotient : List Str := ["one", "other"]
theorem sc_quotient : FnScope N_quotient ["one", "other"] (defScope st_quotient) := ⟨rfl, rfl, rfl, by decide +kernel, rfl, by decide +kernel, by decide +kernel⟩
def b_quotient : Fs := (retS (callP m_fraction (consL (bin2 mulG (bin2 ixG (vS 0) (cS (.int 0))) (bin2 ixG (vS 1) (cS (.int 1)))) (consL (bin2 mulG (bin2 ixG (vS 0) (cS (.int 1))) (bin2 ixG (vS 1) (cS (.int 0)))) nilL))))
def m_quotient : List Z.D → Option Rt := runP N_quotient b_quotient
abbrev st_opposite_bridge : Stmt := topS 23
abbrev N_opposite_bridge : List Str := ["bridge", "sign", "order", "interval", "by", "back", "voice"]
theorem sc_opposite_bridge : FnScope N_opposite_bridge ["bridge"] (defScope st_opposite_bridge) := ⟨rfl, rfl, rfl, by decide +kernel, rfl, by decide +kernel, by decide +kernel⟩
def e_opposite_bridge_1 : Fe := (ixnS (vS 2) (vS 6))
def b_opposite_bridge : Fs := (seqS (asgT (tupB 4 (consB (nmB 1) (consB (nmB 2) (consB (nmB 3) (consB (nmB 4) nilB))))) (vS 0))
    (seqS (asgS 5 (cbS tupleG (consL (lcS (rngI1 (consL (cbS lenG (consL (vS 2) nilL)) nilL)) (nmB 6) yesT e_opposite_bridge_1 [6]) nilL)))
    (retS (tupS (consL (vS 1) (consL (vS 5) (consL (callP m_scaled (consL (vS 3) (consL (un1 negG (vS 1)) nilL))) (consL (callP m_quotient (consL (tupS (consL (cS (.int 1)) (consL (cS (.int 1)) nilL))) (consL (vS 4) nilL))) nilL))))))))
def m_opposite_bridge : List Z.D → Option Rt := runP N_opposite_bridge b_opposite_bridge
abbrev st__law_back : Stmt := topS 45
abbrev N__law_back : List Str := ["order", "voice"]
theorem sc__law_back : FnScope N__law_back ["order"] (defScope st__law_back) := ⟨rfl, rfl, rfl, by decide +kernel, rfl, by decide +kernel, by decide +kernel⟩
def e__law_back_1 : Fe := (ixnS (vS 0) (vS 1))
def b__law_back : Fs := (retS (cbS tupleG (consL (lcS (rngI1 (consL (cbS lenG (consL (vS 0) nilL)) nilL)) (nmB 1) yesT e__law_back_1 [1]) nilL)))
def m__law_back : List Z.D → Option Rt := runP N__law_back b__law_back
abbrev st__law_opposite : Stmt := topS 48
abbrev N__law_opposite : List Str := ["bridge"]
theorem sc__law_opposite : FnScope N__law_opposite ["bridge"] (defScope st__law_opposite) := ⟨rfl, rfl, rfl, by decide +kernel, rfl, by decide +kernel, by decide +kernel⟩
def b__law_opposite : Fs := (retS (tupS (consL (bin2 ixG (vS 0) (cS (.int 0))) (consL (callP m__law_back (consL (bin2 ixG (vS 0) (cS (.int 1))) nilL)) (consL (tupS (consL (bin2 mulG (un1 negG (bin2 ixG (vS 0) (cS (.int 0)))) (bin2 ixG (bin2 ixG (vS 0) (cS (.int 2))) (cS (.int 0)))) (consL (bin2 mulG (un1 negG (bin2 ixG (vS 0) (cS (.int 0)))) (bin2 ixG (bin2 ixG (vS 0) (cS (.int 2))) (cS (.int 1)))) nilL))) (consL (tupS (consL (bin2 ixG (bin2 ixG (vS 0) (cS (.int 3))) (cS (.int 1))) (consL (bin2 ixG (bin2 ixG (vS 0) (cS (.int 3))) (cS (.int 0))) nilL))) nilL))))))
def m__law_opposite : List Z.D → Option Rt := runP N__law_opposite b__law_opposite
abbrev st__law_so : Stmt := topS 54
abbrev N__law_so : List Str := ["pool", "voices", "one", "other", "handed", "bridge", "kept", "both", "bar", "cells", "due", "cell", "made", "wrong", "turn", "thing", "fewer"]
theorem sc__law_so : FnScope N__law_so ["pool", "voices"] (defScope st__law_so) := ⟨rfl, rfl, rfl, by decide +kernel, rfl, by decide +kernel, by decide +kernel⟩
def e__law_so_1 : Fe := (callM m__law_pick 0 (consL (vS 0) (consL (lstS (consL (vS 5) (consL (callP (m__law_listed 8) (consL (vS 5) nilL)) nilL))) nilL)))
def e__law_so_2 : Fe := (callP m_check_bridge (consL (vS 5) (consL (vS 1) nilL)))
def e__law_so_3 : Fe := (callP m__law_crossed (consL (vS 11) (consL (vS 2) nilL)))
def e__law_so_4 : Fe := (callP m__law_crossed (consL (vS 11) (consL (vS 7) nilL)))
def e__law_so_5 : Fe := (callP m__law_crossed (consL (vS 11) (consL (callP m__law_opposite (consL (vS 2) nilL)) nilL)))
def l__law_so_1 : Fs := (seqS (asgS 15 (callM m__law_pick 0 (consL (vS 0) (consL (vS 13) nilL))))
    (iffS (notT (truS (callP m__law_refused (consL (vS 15) (consL (vS 1) nilL))))) (retS (cS (.bl false))) doneS))
def b__law_so : Fs := (seqS (asgS 2 (callM m__law_wide_bridge 0 (consL (vS 0) (consL (vS 1) nilL))))
    (seqS (asgS 3 (callM m__law_wide_bridge 0 (consL (vS 0) (consL (vS 1) nilL))))
    (seqS (asgS 4 (lcS (seqI (tupS (consL (vS 2) (consL (vS 3) nilL)))) (nmB 5) yesT e__law_so_1 [5]))
    (seqS (asgS 6 (cbS reprG (consL (vS 4) nilL)))
    (seqS (iffS (notT (truS (callP (m__law_same 8) (consL (lcS (seqI (vS 4)) (nmB 5) yesT e__law_so_2 [5]) (consL (lstS (consL (vS 2) (consL (vS 3) nilL))) nilL))))) (retS (cS (.bl false))) doneS)
    (seqS (asgS 7 (callP m__law_behind (consL (vS 2) (consL (vS 3) nilL))))
    (seqS (iffS (orT (notT (truS (callP (m__law_same 8) (consL (callP m_put_behind (consL (bin2 ixG (vS 4) (cS (.int 0))) (consL (bin2 ixG (vS 4) (cS (.int 1))) nilL))) (consL (vS 7) nilL))))) (notT (truS (callP (m__law_same 8) (consL (callP m_opposite_bridge (consL (bin2 ixG (vS 4) (cS (.int 0))) nilL)) (consL (callP m__law_opposite (consL (vS 2) nilL)) nilL)))))) (retS (cS (.bl false))) doneS)
    (seqS (asgS 8 (callM m__law_bar 0 (consL (vS 0) (consL (vS 1) (consL (cS (.int 12)) nilL)))))
    (seqS (asgS 9 (callM m__law_pick 0 (consL (vS 0) (consL (lstS (consL (vS 8) (consL (callP (m__law_listed 8) (consL (vS 8) nilL)) nilL))) nilL))))
    (seqS (asgS 10 (cbS tupleG (consL (lcS (seqI (vS 8)) (nmB 11) yesT e__law_so_3 [11]) nilL)))
    (seqS (asgS 12 (callP m_brought (consL (vS 9) (consL (bin2 ixG (vS 4) (cS (.int 0))) nilL))))
    (seqS (iffS (orT (notT (truS (callP (m__law_same 8) (consL (vS 12) (consL (vS 10) nilL))))) (notT (truS (callP (m__law_same 8) (consL (callP m_brought (consL (vS 12) (consL (bin2 ixG (vS 4) (cS (.int 1))) nilL))) (consL (cbS tupleG (consL (lcS (seqI (vS 8)) (nmB 11) yesT e__law_so_4 [11]) nilL)) nilL)))))) (retS (cS (.bl false))) doneS)
    (seqS (iffS (orT (notT (truS (callP (m__law_same 8) (consL (callP m_brought (consL (vS 10) (consL (callP m_opposite_bridge (consL (vS 2) nilL)) nilL))) (consL (vS 8) nilL))))) (notT (truS (callP (m__law_same 8) (consL (cbS tupleG (consL (lcS (seqI (vS 10)) (nmB 11) yesT e__law_so_5 [11]) nilL)) (consL (vS 8) nilL)))))) (retS (cS (.bl false))) doneS)
    (seqS (asgS 13 (callM m__law_wrong 0 (consL (vS 0) (consL (vS 2) (consL (vS 1) nilL)))))
    (seqS (loopS (rngI1 (consL (cS (.int 12)) nilL)) (nmB 14) l__law_so_1)
    (seqS (asgS 16 (bin2 addG (cS (.int 1)) (bin2 modG (cbS intG (consL (vS 1) nilL)) (cS (.int 4)))))
    (retS (andS (bin2 (bRes eqG) (cbS reprG (consL (vS 4) nilL)) (vS 6)) (callP m__law_refused (consL (bin2 ixG (vS 4) (cS (.int 0))) (consL (vS 16) nilL)))))))))))))))))))))
def m__law_so : OC → List Z.D → Option (Rt × OC) := runM N__law_so b__law_so
abbrev st_law : Stmt := topS 55
abbrev N_law : List Str := ["script", "pool", "turn"]
theorem sc_law : FnScope N_law ["script"] (defScope st_law) := ⟨rfl, rfl, rfl, by decide +kernel, rfl, by decide +kernel, by decide +kernel⟩
def e_law_1 : Fe := (callM m__law_so 1 (consL (vS 1) (consL (bin2 addG (cS (.int 1)) (callM (m__law_take 2) 1 (consL (vS 1) (consL (cS (.int 4)) nilL)))) nilL)))
def b_law : Fs := (seqS (asgS 1 (callP m__law_pool (consL (vS 0) nilL)))
    (retS (cbS allG (consL (lcS (rngI1 (consL (cS (.int 3)) nilL)) (nmB 2) yesT e_law_1 [2]) nilL))))
def m_law : List Z.D → Option Rt := runP N_law b_law
theorem bo_ValueError : bootBuiltins "ValueError" = some (.type "ValueError") := by decide +kernel
theorem bo_abs : bootBuiltins "abs" = some (.builtin "abs") := by decide +kernel
theorem bo_all : bootBuiltins "all" = some (.builtin "all") := by decide +kernel
theorem bo_any : bootBuiltins "any" = some (.builtin "any") := by decide +kernel
theorem bo_bool : bootBuiltins "bool" = some (.type "bool") := by decide +kernel
theorem bo_dict : bootBuiltins "dict" = some (.type "dict") := by decide +kernel
theorem bo_int : bootBuiltins "int" = some (.type "int") := by decide +kernel
theorem bo_isinstance : bootBuiltins "isinstance" = some (.builtin "isinstance") := by decide +kernel
theorem bo_len : bootBuiltins "len" = some (.builtin "len") := by decide +kernel
theorem bo_list : bootBuiltins "list" = some (.type "list") := by decide +kernel
theorem bo_range : bootBuiltins "range" = some (.type "range") := by decide +kernel
theorem bo_repr : bootBuiltins "repr" = some (.builtin "repr") := by decide +kernel
theorem bo_sorted : bootBuiltins "sorted" = some (.builtin "sorted") := by decide +kernel
theorem bo_str : bootBuiltins "str" = some (.type "str") := by decide +kernel
theorem bo_tuple : bootBuiltins "tuple" = some (.type "tuple") := by decide +kernel
structure Txt (K : PySem.W.Frag) (mg : Str → Option Value) (cl : Str → Addr) : Prop where
  b_gcd : mg "gcd" = some (.builtin "math.gcd")
  n_ValueError : mg "ValueError" = none
  n_abs : mg "abs" = none
  n_all : mg "all" = none
  n_any : mg "any" = none
  n_bool : mg "bool" = none
  n_dict : mg "dict" = none
  n_int : mg "int" = none
  n_isinstance : mg "isinstance" = none
  n_len : mg "len" = none
  n_list : mg "list" = none
  n_range : mg "range" = none
  n_repr : mg "repr" = none
  n_sorted : mg "sorted" = none
  n_str : mg "str" = none
  n_tuple : mg "tuple" = none
  f__law_pool : FunG K mg "_law_pool" st__law_pool
  f__law_take : FunG K mg "_law_take" st__law_take
  f__law_pick : FunG K mg "_law_pick" st__law_pick
  f__law_order : FunG K mg "_law_order" st__law_order
  f__law_interval : FunG K mg "_law_interval" st__law_interval
  f__law_lowest : FunG K mg "_law_lowest" st__law_lowest
  f__law_by : FunG K mg "_law_by" st__law_by
  f__law_below : FunG K mg "_law_below" st__law_below
  f__law_great : FunG K mg "_law_great" st__law_great
  f__law_wide_bridge : FunG K mg "_law_wide_bridge" st__law_wide_bridge
  f__law_times : FunG K mg "_law_times" st__law_times
  f__law_behind : FunG K mg "_law_behind" st__law_behind
  f__law_tone : FunG K mg "_law_tone" st__law_tone
  f__law_duration : FunG K mg "_law_duration" st__law_duration
  f__law_column : FunG K mg "_law_column" st__law_column
  f__law_bar : FunG K mg "_law_bar" st__law_bar
  f_with_tones : FunG K mg "with_tones" st_with_tones
  f_seen : FunG K mg "seen" st_seen
  f_fraction : FunG K mg "fraction" st_fraction
  f_product : FunG K mg "product" st_product
  f_brought_column : FunG K mg "brought_column" st_brought_column
  f_brought : FunG K mg "brought" st_brought
  f__law_deep : FunG K mg "_law_deep" st__law_deep
  f__law_wrong : FunG K mg "_law_wrong" st__law_wrong
  f__law_is_integer : FunG K mg "_law_is_integer" st__law_is_integer
  f__law_same : FunG K mg "_law_same" st__law_same
  f_is_fraction : FunG K mg "is_fraction" st_is_fraction
  f_is_whole : FunG K mg "is_whole" st_is_whole
  f_is_order : FunG K mg "is_order" st_is_order
  f_is_bridge : FunG K mg "is_bridge" st_is_bridge
  f_check_bridge : FunG K mg "check_bridge" st_check_bridge
  f__law_refused : FunG K mg "_law_refused" st__law_refused
  f__law_listed : FunG K mg "_law_listed" st__law_listed
  f__law_raised : FunG K mg "_law_raised" st__law_raised
  f__law_seen : FunG K mg "_law_seen" st__law_seen
  f__law_crossed : FunG K mg "_law_crossed" st__law_crossed
  f_added : FunG K mg "added" st_added
  f_scaled : FunG K mg "scaled" st_scaled
  f_put_behind : FunG K mg "put_behind" st_put_behind
  f_quotient : FunG K mg "quotient" st_quotient
  f_opposite_bridge : FunG K mg "opposite_bridge" st_opposite_bridge
  f__law_back : FunG K mg "_law_back" st__law_back
  f__law_opposite : FunG K mg "_law_opposite" st__law_opposite
  f__law_so : FunG K mg "_law_so" st__law_so
  f_law : FunG K mg "law" st_law
  e_BadBridge : ExcG K mg "BadBridge" (cl "BadBridge")
  g_ScoreError : mg "ScoreError" = some (.ref (cl "ScoreError"))
  k1 : PySem.W.kitOne K (.ref (cl "BadBridge")) (.ref (cl "ScoreError")) = some true
  k2 : PySem.W.kitOne K (.ref (cl "BadBridge")) (.type "ValueError") = some true
section
variable {P : Program} {w : World} {K : PySem.W.Frag} {cl : Str → Addr} {mg : Str → Option Value} {base : Heap}
theorem c__law_pool (T : Txt K mg cl) : Cal P w K mg base "_law_pool" 1 ["script"] (spP K cl 1 m__law_pool) := by
  refine cal_P 0 (N := N__law_pool) T.f__law_pool sc__law_pool (by decide) (fun _ _ _ _ _ _ us hl => match us, hl with | [_], _ => rfl) (fun f cdv A outer s H E hr => ?_)
  have hu := hu_room hr
  exact (qss_one (qs_ret (pr_lst (pl_cons (pr_lc (own := [("cell", 1)]) rfl sc__law_pool.nd (pi_seqZ (pr_var 0)) (blkOk_by (by first | (show blkC N__law_pool (defScope st__law_pool) _ _ = true; decide +kernel) | with_unfolding_all rfl)) (fun _ _ _ _ _ => (pg_nm 1 sc__law_pool.nd)) (fun _ _ _ _ _ => pts_nilZ) (fun _ _ _ _ _ => (pr_if (pq_cmp op_ge ge_ok (pr_var 1) pr_int (nomark _)) (pr_op op_mulZ mul_ok pr_int (pr_var 1)) (pr_op op_sub sub_ok (pr_op op_mulZ mul_ok (pr_neg pr_int) (pr_var 1)) pr_int)))) (pl_cons pr_int (pl_cons pr_int (pl_cons pr_int pl_nil)))) (consL_len (consL_len (consL_len (consL_len nilL_len)))))))
theorem cr__law_take (T : Txt K mg cl) {mr : OC → List Z.D → Option (Rt × OC)} (k : Nat) (hk : 0 ≤ k) (Cr : Cal P w K mg base "_law_take" k ["pool", "many"] (spM K cl 2 mr)) : Cal P w K mg base "_law_take" (k + 1) ["pool", "many"] (spM K cl 2 (runM N__law_take (b__law_take mr))) := by
  refine cal_M k (N := N__law_take) T.f__law_take sc__law_take (by decide) (fun _ _ _ _ _ _ us hl => match us, hl with | [_, _], _ => rfl) (fun f cdv A outer s H E hr => ?_)
  have hu := hu_room hr
  exact (qss_cons (qs_if (pq_cmp op_gt gt_ok (pr_ix ix_seqZ ix_ok (pr_var 0) pr_int (fun _ _ => rfl)) pr_int (nomark _)) (qss_cons (qs_set 2 sc__law_take.nd (pr_op op_mod mod_ok (pr_tyc call_int1 int_ok T.n_int bo_int (pl_cons (pr_ix ix_seqZ ix_ok (pr_var 0) pr_int (fun _ _ => rfl)) pl_nil)) (pr_var 1)))
    (qss_cons (qs_put (ps_asg (pr_op op_divB div_ok (pr_ix ix_seqZ ix_ok (pr_var 0) pr_int (fun _ _ => rfl)) (pr_var 1)) (pg_sub (pv 0) pr_int set_list)))
    (qss_one (qs_ret (pr_var 2))))) qss_nil)
    (qss_cons (qs_set 3 sc__law_take.nd pr_int)
    (qss_cons (qs_if (pq_cmp (op_lt3 hu) lt3_ok (pr_ix ix_seqZ ix_ok (pr_var 0) pr_int (fun _ _ => rfl)) (pr_blt call_len_seq len_ok T.n_len bo_len (pl_cons (pr_ix ix_seqZ ix_ok (pr_var 0) pr_int (fun _ _ => rfl)) pl_nil)) (nomark _)) (qss_one (qs_set 3 sc__law_take.nd (pr_ix ix_seqZ ix_ok (pr_ix ix_seqZ ix_ok (pr_var 0) pr_int (fun _ _ => rfl)) (pr_ix ix_seqZ ix_ok (pr_var 0) pr_int (fun _ _ => rfl)) (fun _ _ => rfl)))) qss_nil)
    (qss_cons (qs_put (ps_asg (pr_op op_addZ add_ok (pr_ix ix_seqZ ix_ok (pr_var 0) pr_int (fun _ _ => rfl)) pr_int) (pg_sub (pv 0) pr_int set_list)))
    (qss_cons (qs_if (pq_cmp op_ge ge_ok (pr_var 3) (pr_op op_pow pow_ok pr_int pr_int) (nomark _)) (qss_cons (qs_put (ps_asg (pr_op op_divB div_ok (pr_var 3) pr_int) (pg_sub (pv 0) pr_int set_list)))
    (qss_one (qs_ret (pr_callMC 0 Cr (hr.mono (by first | exact Nat.le_refl _ | omega)) (pl_cons (pr_var 0) (pl_cons (pr_var 1) pl_nil)) (consL_len (consL_len nilL_len)))))) qss_nil)
    (qss_cons (qs_put (ps_asg (pr_op op_mod mod_ok (pr_tyc call_int1 int_ok T.n_int bo_int (pl_cons (pr_op op_addZ add_ok (pr_op op_addZ add_ok (pr_op op_mulZ mul_ok (pr_ix ix_seqZ ix_ok (pr_var 0) pr_int (fun _ _ => rfl)) pr_int) (pr_op op_mulZ mul_ok (pr_var 3) pr_int)) (pr_op op_mulZ mul_ok (pr_ix ix_seqZ ix_ok (pr_var 0) pr_int (fun _ _ => rfl)) pr_int)) pl_nil)) pr_int) (pg_sub (pv 0) pr_int set_list)))
    (qss_cons (qs_set 4 sc__law_take.nd (pr_op op_mod mod_ok (pr_tyc call_int1 int_ok T.n_int bo_int (pl_cons (pr_op op_addZ add_ok (pr_op op_addZ add_ok (pr_op op_mulZ mul_ok (pr_ix ix_seqZ ix_ok (pr_var 0) pr_int (fun _ _ => rfl)) (pr_ix ix_seqZ ix_ok (pr_var 0) pr_int (fun _ _ => rfl))) (pr_op op_mulZ mul_ok (pr_ix ix_seqZ ix_ok (pr_var 0) pr_int (fun _ _ => rfl)) pr_int)) pr_int) pl_nil)) pr_int))
    (qss_one (qs_ret (pr_op op_mod mod_ok (pr_tyc call_int1 int_ok T.n_int bo_int (pl_cons (pr_op op_divB div_ok (pr_var 4) pr_int) pl_nil)) (pr_var 1)))))))))))
theorem c__law_take (T : Txt K mg cl) : ∀ n : Nat, Cal P w K mg base "_law_take" (0 + n) ["pool", "many"] (spM K cl 2 (m__law_take n))
  | 0 => (cal_0M T.f__law_take (fun _ _ _ _ _ _ us hl => match us, hl with | [_, _], _ => rfl)).mono (by decide)
  | n + 1 => cr__law_take T (0 + n) (by omega) (c__law_take T n)
theorem c__law_pick (T : Txt K mg cl) : Cal P w K mg base "_law_pick" 3 ["pool", "rows"] (spM K cl 2 m__law_pick) := by
  refine cal_M 2 (N := N__law_pick) T.f__law_pick sc__law_pick (by decide) (fun _ _ _ _ _ _ us hl => match us, hl with | [_, _], _ => rfl) (fun f cdv A outer s H E hr => ?_)
  have hu := hu_room hr
  exact (qss_one (qs_ret (pr_ix ix_seqZ ix_ok (pr_var 1) (pr_callMC 0 (c__law_take T 2) (hr.mono (by decide)) (pl_cons (pr_var 0) (pl_cons (pr_blt call_len_seq len_ok T.n_len bo_len (pl_cons (pr_var 1) pl_nil)) pl_nil)) (consL_len (consL_len nilL_len))) (fun _ _ => rfl))))
theorem c__law_order (T : Txt K mg cl) : Cal P w K mg base "_law_order" 3 ["pool", "many"] (spM K cl 2 m__law_order) := by
  refine cal_M 2 (N := N__law_order) T.f__law_order sc__law_order (by decide) (fun _ _ _ _ _ _ us hl => match us, hl with | [_, _], _ => rfl) (fun f cdv A outer s H E hr => ?_)
  have hu := hu_room hr
  exact (qss_cons (qs_set 2 sc__law_order.nd (pr_lrg (pe_listRg rfl (by rfl) T.n_list (prg_1 (by rfl) T.n_range (pr_var 1)))))
    (qss_cons (qs_set 3 sc__law_order.nd (pr_tupN pl_nil nilL_len))
    (qss_cons (qs_for (ws := [4]) PassesOwn.never rfl (pi_rng1 T.n_range (pl_cons (pr_var 1) pl_nil)) (pg_nm 4 sc__law_order.nd) (qss_one (qs_set 3 sc__law_order.nd (pr_op op_catN addN_ok (pr_var 3) (pr_tupN (pl_cons (pr_popAt (pe_bm PySem.F.plainAttrs_list PySem.F.slot_list_pop PySem.F.type_list_pop mt_popAt (pv 2) (pa_cons (pr_callMC 0 (c__law_take T 2) (hr.mono (by decide)) (pl_cons (pr_var 0) (pl_cons (pr_blt call_len_seq len_ok T.n_len bo_len (pl_cons (pr_var 2) pl_nil)) pl_nil)) (consL_len (consL_len nilL_len))) pa_nil))) pl_nil) (consL_len nilL_len))))))
    (qss_one (qs_ret (pr_var 3))))))
theorem c__law_interval (T : Txt K mg cl) : Cal P w K mg base "_law_interval" 3 ["pool"] (spM K cl 1 m__law_interval) := by
  refine cal_M 2 (N := N__law_interval) T.f__law_interval sc__law_interval (by decide) (fun _ _ _ _ _ _ us hl => match us, hl with | [_], _ => rfl) (fun f cdv A outer s H E hr => ?_)
  have hu := hu_room hr
  exact (qss_cons (qs_if (pq_cmp (op_eqZ hu) eq_ok (pr_callMC 0 (c__law_take T 2) (hr.mono (by decide)) (pl_cons (pr_var 0) (pl_cons pr_int pl_nil)) (consL_len (consL_len nilL_len))) pr_int (nomark _)) (qss_one (qs_ret (pr_tup (pl_cons (pr_op op_sub sub_ok (pr_callMC 0 (c__law_take T 2) (hr.mono (by decide)) (pl_cons (pr_var 0) (pl_cons pr_int pl_nil)) (consL_len (consL_len nilL_len))) pr_int) (pl_cons (pr_op op_sub sub_ok (pr_callMC 0 (c__law_take T 2) (hr.mono (by decide)) (pl_cons (pr_var 0) (pl_cons pr_int pl_nil)) (consL_len (consL_len nilL_len))) pr_int) pl_nil)) (consL_len (consL_len nilL_len))))) qss_nil)
    (qss_one (qs_ret (pr_tup (pl_cons (pr_op op_sub sub_ok (pr_callMC 0 (c__law_take T 2) (hr.mono (by decide)) (pl_cons (pr_var 0) (pl_cons pr_int pl_nil)) (consL_len (consL_len nilL_len))) pr_int) (pl_cons (pr_op op_sub sub_ok (pr_callMC 0 (c__law_take T 2) (hr.mono (by decide)) (pl_cons (pr_var 0) (pl_cons pr_int pl_nil)) (consL_len (consL_len nilL_len))) pr_int) pl_nil)) (consL_len (consL_len nilL_len))))))
theorem c__law_lowest (T : Txt K mg cl) : Cal P w K mg base "_law_lowest" 1 ["n", "d"] (spP K cl 2 m__law_lowest) := by
  refine cal_P 0 (N := N__law_lowest) T.f__law_lowest sc__law_lowest (by decide) (fun _ _ _ _ _ _ us hl => match us, hl with | [_, _], _ => rfl) (fun f cdv A outer s H E hr => ?_)
  have hu := hu_room hr
  exact (qss_cons (qs_par 2 3 rfl sc__law_lowest.nd (pl_cons (pr_blt call_abs abs_ok T.n_abs bo_abs (pl_cons (pr_var 0) pl_nil)) (pl_cons (pr_var 1) pl_nil)))
    (qss_cons (qs_for (ws := [4]) PassesOwn.never rfl (pi_rng1 T.n_range (pl_cons pr_int pl_nil)) (pg_nm 4 sc__law_lowest.nd) (qss_cons (qs_if (pq_cmp (op_eqZ hu) eq_ok (pr_var 3) pr_int (nomark _)) (qss_one qs_break) qss_nil)
    (qss_one (qs_par 2 3 rfl sc__law_lowest.nd (pl_cons (pr_var 3) (pl_cons (pr_op op_sub sub_ok (pr_var 2) (pr_op op_mulZ mul_ok (pr_var 3) (pr_tyc call_int1 int_ok T.n_int bo_int (pl_cons (pr_op op_divB div_ok (pr_var 2) (pr_var 3)) pl_nil)))) pl_nil))))))
    (qss_one (qs_ret (pr_tup (pl_cons (pr_op op_divB div_ok (pr_var 0) (pr_var 2)) (pl_cons (pr_op op_divB div_ok (pr_var 1) (pr_var 2)) pl_nil)) (consL_len (consL_len nilL_len)))))))
theorem c__law_by (T : Txt K mg cl) : Cal P w K mg base "_law_by" 3 ["pool"] (spM K cl 1 m__law_by) := by
  refine cal_M 2 (N := N__law_by) T.f__law_by sc__law_by (by decide) (fun _ _ _ _ _ _ us hl => match us, hl with | [_], _ => rfl) (fun f cdv A outer s H E hr => ?_)
  have hu := hu_room hr
  exact (qss_one (qs_ret (pr_callC (c__law_lowest T) (hr.mono (by decide)) (pl_cons (pr_op op_addZ add_ok pr_int (pr_callMC 0 (c__law_take T 2) (hr.mono (by decide)) (pl_cons (pr_var 0) (pl_cons pr_int pl_nil)) (consL_len (consL_len nilL_len)))) (pl_cons (pr_op op_addZ add_ok pr_int (pr_callMC 0 (c__law_take T 2) (hr.mono (by decide)) (pl_cons (pr_var 0) (pl_cons pr_int pl_nil)) (consL_len (consL_len nilL_len)))) pl_nil)) (consL_len (consL_len nilL_len)))))
theorem c__law_below (T : Txt K mg cl) : Cal P w K mg base "_law_below" 3 ["pool", "many"] (spM K cl 2 m__law_below) := by
  refine cal_M 2 (N := N__law_below) T.f__law_below sc__law_below (by decide) (fun _ _ _ _ _ _ us hl => match us, hl with | [_, _], _ => rfl) (fun f cdv A outer s H E hr => ?_)
  have hu := hu_room hr
  exact (qss_cons (qs_set 2 sc__law_below.nd pr_int)
    (qss_cons (qs_for (ws := [3]) PassesOwn.never rfl (pi_rng1 T.n_range (pl_cons pr_int pl_nil)) (pg_nm 3 sc__law_below.nd) (qss_one (qs_set 2 sc__law_below.nd (pr_op op_addZ add_ok (pr_op op_mulZ mul_ok (pr_var 2) (pr_op op_pow pow_ok pr_int pr_int)) (pr_callMC 0 (c__law_take T 2) (hr.mono (by decide)) (pl_cons (pr_var 0) (pl_cons (pr_op op_pow pow_ok pr_int pr_int) pl_nil)) (consL_len (consL_len nilL_len)))))))
    (qss_one (qs_ret (pr_op op_mod mod_ok (pr_tyc call_int1 int_ok T.n_int bo_int (pl_cons (pr_var 2) pl_nil)) (pr_var 1))))))
theorem c__law_great (T : Txt K mg cl) : Cal P w K mg base "_law_great" 4 ["pool"] (spM K cl 1 m__law_great) := by
  refine cal_M 3 (N := N__law_great) T.f__law_great sc__law_great (by decide) (fun _ _ _ _ _ _ us hl => match us, hl with | [_], _ => rfl) (fun f cdv A outer s H E hr => ?_)
  have hu := hu_room hr
  exact (qss_one (qs_ret (pr_op op_sub sub_ok (pr_callMC 0 (c__law_below T) (hr.mono (by decide)) (pl_cons (pr_var 0) (pl_cons (pr_op op_pow pow_ok pr_int pr_int) pl_nil)) (consL_len (consL_len nilL_len))) (pr_callMC 0 (c__law_pick T) (hr.mono (by decide)) (pl_cons (pr_var 0) (pl_cons (pr_lst (pl_cons pr_int (pl_cons (pr_op op_pow pow_ok pr_int pr_int) pl_nil)) (consL_len (consL_len nilL_len))) pl_nil)) (consL_len (consL_len nilL_len))))))
theorem c__law_wide_bridge (T : Txt K mg cl) : Cal P w K mg base "_law_wide_bridge" 5 ["pool", "voices"] (spM K cl 2 m__law_wide_bridge) := by
  refine cal_M 4 (N := N__law_wide_bridge) T.f__law_wide_bridge sc__law_wide_bridge (by decide) (fun _ _ _ _ _ _ us hl => match us, hl with | [_, _], _ => rfl) (fun f cdv A outer s H E hr => ?_)
  have hu := hu_room hr
  exact (qss_cons (qs_set 2 sc__law_wide_bridge.nd (pr_callMC 0 (c__law_pick T) (hr.mono (by decide)) (pl_cons (pr_var 0) (pl_cons (pr_lst (pl_cons (pr_tup (pl_cons pr_int (pl_cons pr_int pl_nil)) (consL_len (consL_len nilL_len))) (pl_cons (pr_callMC 0 (c__law_interval T) (hr.mono (by decide)) (pl_cons (pr_var 0) pl_nil) (consL_len nilL_len)) (pl_cons (pr_tup (pl_cons (pr_callMC 0 (c__law_great T) (hr.mono (by decide)) (pl_cons (pr_var 0) pl_nil) (consL_len nilL_len)) (pl_cons (pr_neg (pr_callMC 0 (c__law_great T) (hr.mono (by decide)) (pl_cons (pr_var 0) pl_nil) (consL_len nilL_len))) pl_nil)) (consL_len (consL_len nilL_len))) pl_nil))) (consL_len (consL_len (consL_len nilL_len)))) pl_nil)) (consL_len (consL_len nilL_len))))
    (qss_cons (qs_set 3 sc__law_wide_bridge.nd (pr_callMC 0 (c__law_pick T) (hr.mono (by decide)) (pl_cons (pr_var 0) (pl_cons (pr_lst (pl_cons (pr_tup (pl_cons pr_int (pl_cons pr_int pl_nil)) (consL_len (consL_len nilL_len))) (pl_cons (pr_callMC 0 (c__law_by T) (hr.mono (by decide)) (pl_cons (pr_var 0) pl_nil) (consL_len nilL_len)) (pl_cons (pr_callC (c__law_lowest T) (hr.mono (by decide)) (pl_cons (pr_op op_addZ add_ok pr_int (pr_callMC 0 (c__law_below T) (hr.mono (by decide)) (pl_cons (pr_var 0) (pl_cons (pr_op op_pow pow_ok pr_int pr_int) pl_nil)) (consL_len (consL_len nilL_len)))) (pl_cons (pr_op op_addZ add_ok pr_int (pr_callMC 0 (c__law_below T) (hr.mono (by decide)) (pl_cons (pr_var 0) (pl_cons (pr_op op_pow pow_ok pr_int pr_int) pl_nil)) (consL_len (consL_len nilL_len)))) pl_nil)) (consL_len (consL_len nilL_len))) pl_nil))) (consL_len (consL_len (consL_len nilL_len)))) pl_nil)) (consL_len (consL_len nilL_len))))
    (qss_one (qs_ret (pr_tup (pl_cons (pr_callMC 0 (c__law_pick T) (hr.mono (by decide)) (pl_cons (pr_var 0) (pl_cons (pr_lst (pl_cons pr_int (pl_cons (pr_neg pr_int) pl_nil)) (consL_len (consL_len nilL_len))) pl_nil)) (consL_len (consL_len nilL_len))) (pl_cons (pr_callMC 0 (c__law_order T) (hr.mono (by decide)) (pl_cons (pr_var 0) (pl_cons (pr_var 1) pl_nil)) (consL_len (consL_len nilL_len))) (pl_cons (pr_var 2) (pl_cons (pr_var 3) pl_nil)))) (consL_len (consL_len (consL_len (consL_len nilL_len)))))))))
theorem c__law_times (T : Txt K mg cl) : Cal P w K mg base "_law_times" 2 ["one", "other"] (spP K cl 2 m__law_times) := by
  refine cal_P 1 (N := N__law_times) T.f__law_times sc__law_times (by decide) (fun _ _ _ _ _ _ us hl => match us, hl with | [_, _], _ => rfl) (fun f cdv A outer s H E hr => ?_)
  have hu := hu_room hr
  exact (qss_one (qs_ret (pr_callC (c__law_lowest T) (hr.mono (by decide)) (pl_cons (pr_op op_mulZ mul_ok (pr_ix ix_seqZ ix_ok (pr_var 0) pr_int (fun _ _ => rfl)) (pr_ix ix_seqZ ix_ok (pr_var 1) pr_int (fun _ _ => rfl))) (pl_cons (pr_op op_mulZ mul_ok (pr_ix ix_seqZ ix_ok (pr_var 0) pr_int (fun _ _ => rfl)) (pr_ix ix_seqZ ix_ok (pr_var 1) pr_int (fun _ _ => rfl))) pl_nil)) (consL_len (consL_len nilL_len)))))
theorem c__law_behind (T : Txt K mg cl) : Cal P w K mg base "_law_behind" 3 ["one", "other"] (spP K cl 2 m__law_behind) := by
  refine cal_P 2 (N := N__law_behind) T.f__law_behind sc__law_behind (by decide) (fun _ _ _ _ _ _ us hl => match us, hl with | [_, _], _ => rfl) (fun f cdv A outer s H E hr => ?_)
  have hu := hu_room hr
  exact (qss_cons (qs_set 2 sc__law_behind.nd (pr_tyc call_tuple_of tuple_ok T.n_tuple bo_tuple (pl_cons (pr_lc (own := [("voice", 3)]) rfl sc__law_behind.nd (pi_seqZ (pr_ix ix_seqZ ix_ok (pr_var 1) pr_int (fun _ _ => rfl))) (blkOk_by (by first | (show blkC N__law_behind (defScope st__law_behind) _ _ = true; decide +kernel) | with_unfolding_all rfl)) (fun _ _ _ _ _ => (pg_nm 3 sc__law_behind.nd)) (fun _ _ _ _ _ => pts_nilZ) (fun _ _ _ _ _ => (pr_ix ix_seqZ ix_ok (pr_ix ix_seqZ ix_ok (pr_var 0) pr_int (fun _ _ => rfl)) (pr_var 3) (fun _ _ => rfl)))) pl_nil)))
    (qss_cons (qs_set 4 sc__law_behind.nd (pr_tup (pl_cons (pr_op op_addZ add_ok (pr_op op_mulZ mul_ok (pr_ix ix_seqZ ix_ok (pr_var 1) pr_int (fun _ _ => rfl)) (pr_ix ix_seqZ ix_ok (pr_ix ix_seqZ ix_ok (pr_var 0) pr_int (fun _ _ => rfl)) pr_int (fun _ _ => rfl))) (pr_ix ix_seqZ ix_ok (pr_ix ix_seqZ ix_ok (pr_var 1) pr_int (fun _ _ => rfl)) pr_int (fun _ _ => rfl))) (pl_cons (pr_op op_addZ add_ok (pr_op op_mulZ mul_ok (pr_ix ix_seqZ ix_ok (pr_var 1) pr_int (fun _ _ => rfl)) (pr_ix ix_seqZ ix_ok (pr_ix ix_seqZ ix_ok (pr_var 0) pr_int (fun _ _ => rfl)) pr_int (fun _ _ => rfl))) (pr_ix ix_seqZ ix_ok (pr_ix ix_seqZ ix_ok (pr_var 1) pr_int (fun _ _ => rfl)) pr_int (fun _ _ => rfl))) pl_nil)) (consL_len (consL_len nilL_len))))
    (qss_one (qs_ret (pr_tup (pl_cons (pr_op op_mulZ mul_ok (pr_ix ix_seqZ ix_ok (pr_var 0) pr_int (fun _ _ => rfl)) (pr_ix ix_seqZ ix_ok (pr_var 1) pr_int (fun _ _ => rfl))) (pl_cons (pr_var 2) (pl_cons (pr_var 4) (pl_cons (pr_callC (c__law_times T) (hr.mono (by decide)) (pl_cons (pr_ix ix_seqZ ix_ok (pr_var 0) pr_int (fun _ _ => rfl)) (pl_cons (pr_ix ix_seqZ ix_ok (pr_var 1) pr_int (fun _ _ => rfl)) pl_nil)) (consL_len (consL_len nilL_len))) pl_nil)))) (consL_len (consL_len (consL_len (consL_len nilL_len)))))))))
theorem c__law_tone (T : Txt K mg cl) : Cal P w K mg base "_law_tone" 3 ["pool"] (spM K cl 1 m__law_tone) := by
  refine cal_M 2 (N := N__law_tone) T.f__law_tone sc__law_tone (by decide) (fun _ _ _ _ _ _ us hl => match us, hl with | [_], _ => rfl) (fun f cdv A outer s H E hr => ?_)
  have hu := hu_room hr
  exact (qss_cons (qs_set 1 sc__law_tone.nd (pr_op op_sub sub_ok (pr_callMC 0 (c__law_take T 2) (hr.mono (by decide)) (pl_cons (pr_var 0) (pl_cons pr_int pl_nil)) (consL_len (consL_len nilL_len))) pr_int))
    (qss_cons (qs_if (pq_cmp (op_eqZ hu) eq_ok (pr_callMC 0 (c__law_take T 2) (hr.mono (by decide)) (pl_cons (pr_var 0) (pl_cons pr_int pl_nil)) (consL_len (consL_len nilL_len))) pr_int (nomark _)) (qss_one (qs_set 1 sc__law_tone.nd (pr_op op_sub sub_ok (pr_callMC 0 (c__law_take T 2) (hr.mono (by decide)) (pl_cons (pr_var 0) (pl_cons pr_int pl_nil)) (consL_len (consL_len nilL_len))) pr_int))) qss_nil)
    (qss_one (qs_ret (pr_tup (pl_cons (pr_var 1) (pl_cons (pr_op op_sub sub_ok (pr_callMC 0 (c__law_take T 2) (hr.mono (by decide)) (pl_cons (pr_var 0) (pl_cons pr_int pl_nil)) (consL_len (consL_len nilL_len))) (pr_tyc call_int1 int_ok T.n_int bo_int (pl_cons (pr_op op_divB div_ok (pr_op op_mulZ mul_ok pr_int (pr_var 1)) pr_int) pl_nil))) pl_nil)) (consL_len (consL_len nilL_len)))))))
theorem c__law_duration (T : Txt K mg cl) : Cal P w K mg base "_law_duration" 4 ["pool"] (spM K cl 1 m__law_duration) := by
  refine cal_M 3 (N := N__law_duration) T.f__law_duration sc__law_duration (by decide) (fun _ _ _ _ _ _ us hl => match us, hl with | [_], _ => rfl) (fun f cdv A outer s H E hr => ?_)
  have hu := hu_room hr
  exact (qss_cons (qs_if (pq_cmp (op_eqZ hu) eq_ok (pr_callMC 0 (c__law_take T 2) (hr.mono (by decide)) (pl_cons (pr_var 0) (pl_cons pr_int pl_nil)) (consL_len (consL_len nilL_len))) pr_int (nomark _)) (qss_one (qs_ret (pr_callC (c__law_lowest T) (hr.mono (by decide)) (pl_cons (pr_op op_addZ add_ok pr_int (pr_callMC 0 (c__law_take T 2) (hr.mono (by decide)) (pl_cons (pr_var 0) (pl_cons pr_int pl_nil)) (consL_len (consL_len nilL_len)))) (pl_cons (pr_op op_addZ add_ok pr_int (pr_callMC 0 (c__law_take T 2) (hr.mono (by decide)) (pl_cons (pr_var 0) (pl_cons pr_int pl_nil)) (consL_len (consL_len nilL_len)))) pl_nil)) (consL_len (consL_len nilL_len))))) qss_nil)
    (qss_one (qs_ret (pr_callC (c__law_lowest T) (hr.mono (by decide)) (pl_cons (pr_op op_addZ add_ok pr_int (pr_callMC 0 (c__law_take T 2) (hr.mono (by decide)) (pl_cons (pr_var 0) (pl_cons pr_int pl_nil)) (consL_len (consL_len nilL_len)))) (pl_cons (pr_callMC 0 (c__law_pick T) (hr.mono (by decide)) (pl_cons (pr_var 0) (pl_cons (pr_lst (pl_cons pr_int (pl_cons pr_int (pl_cons pr_int (pl_cons pr_int (pl_cons pr_int (pl_cons pr_int (pl_cons pr_int (pl_cons pr_int pl_nil)))))))) (consL_len (consL_len (consL_len (consL_len (consL_len (consL_len (consL_len (consL_len nilL_len))))))))) pl_nil)) (consL_len (consL_len nilL_len))) pl_nil)) (consL_len (consL_len nilL_len))))))
theorem c__law_column (T : Txt K mg cl) : Cal P w K mg base "_law_column" 5 ["pool", "voices", "before", "some"] (spM K cl 4 m__law_column) := by
  refine cal_M 4 (N := N__law_column) T.f__law_column sc__law_column (by decide) (fun _ _ _ _ _ _ us hl => match us, hl with | [_, _, _, _], _ => rfl) (fun f cdv A outer s H E hr => ?_)
  have hu := hu_room hr
  exact (qss_cons (qs_set 4 sc__law_column.nd (pr_tup pl_nil nilL_len))
    (qss_cons (qs_for (ws := [5]) PassesOwn.never rfl (pi_rng1 T.n_range (pl_cons (pr_var 1) pl_nil)) (pg_nm 5 sc__law_column.nd) (qss_cons (qs_set 6 sc__law_column.nd (pr_callMC 0 (c__law_take T 2) (hr.mono (by decide)) (pl_cons (pr_var 0) (pl_cons pr_int pl_nil)) (consL_len (consL_len nilL_len))))
    (qss_cons (qs_set 7 sc__law_column.nd (pr_tup (pl_cons (pr_callMC 0 (c__law_pick T) (hr.mono (by decide)) (pl_cons (pr_var 0) (pl_cons (pr_var 3) pl_nil)) (consL_len (consL_len nilL_len))) (pl_cons pr_bl pl_nil)) (consL_len (consL_len nilL_len))))
    (qss_cons (qs_if (pq_cmp (op_eqZ hu) eq_ok (pr_var 6) pr_int (nomark _)) (qss_one (qs_set 7 sc__law_column.nd pr_non)) (qss_one (qs_if (pq_cmp (op_lt3 hu) lt3_ok (pr_var 6) pr_int (nomark _)) (qss_cons (qs_set 8 sc__law_column.nd (pr_if (pq_isN (pr_var 2)) pr_non (pr_ix ix_seqZ ix_ok (pr_ix ix_seqZ ix_ok (pr_var 2) pr_int (fun _ _ => rfl)) (pr_var 5) (fun _ _ => rfl))))
    (qss_cons (qs_set 9 sc__law_column.nd (pr_if (pq_and (pq_notN (pr_var 8)) (pq_and1 (pq_cmp op_gt gt_ok (pr_callMC 0 (c__law_take T 2) (hr.mono (by decide)) (pl_cons (pr_var 0) (pl_cons pr_int pl_nil)) (consL_len (consL_len nilL_len))) pr_int (nomark _)))).pt (pr_ix ix_seqZ ix_ok (pr_var 8) pr_int (fun _ _ => rfl)) (pr_ix ix_seqZ ix_ok (pr_var 7) pr_int (fun _ _ => rfl))))
    (qss_one (qs_set 7 sc__law_column.nd (pr_tup (pl_cons (pr_var 9) (pl_cons pr_bl pl_nil)) (consL_len (consL_len nilL_len))))))) qss_nil)))
    (qss_one (qs_set 4 sc__law_column.nd (pr_op op_addZ add_ok (pr_var 4) (pr_tup (pl_cons (pr_var 7) pl_nil) (consL_len nilL_len)))))))))
    (qss_one (qs_ret (pr_tup (pl_cons (pr_callMC 0 (c__law_duration T) (hr.mono (by decide)) (pl_cons (pr_var 0) pl_nil) (consL_len nilL_len)) (pl_cons (pr_if (pq_cmp (op_eqZ hu) eq_ok (pr_callMC 0 (c__law_take T 2) (hr.mono (by decide)) (pl_cons (pr_var 0) (pl_cons pr_int pl_nil)) (consL_len (consL_len nilL_len))) pr_int (nomark _)) (pr_callMC 0 (c__law_take T 2) (hr.mono (by decide)) (pl_cons (pr_var 0) (pl_cons pr_int pl_nil)) (consL_len (consL_len nilL_len))) pr_int) (pl_cons (pr_var 4) pl_nil))) (consL_len (consL_len (consL_len nilL_len))))))))
theorem c__law_bar (T : Txt K mg cl) : Cal P w K mg base "_law_bar" 6 ["pool", "voices", "most"] (spM K cl 3 m__law_bar) := by
  refine cal_M 5 (N := N__law_bar) T.f__law_bar sc__law_bar (by decide) (fun _ _ _ _ _ _ us hl => match us, hl with | [_, _, _], _ => rfl) (fun f cdv A outer s H E hr => ?_)
  have hu := hu_room hr
  exact (qss_cons (qs_setLc 3 (own := [("k", 4)]) rfl sc__law_bar.nd (pi_rng1 T.n_range (pl_cons (pr_op op_addZ add_ok pr_int (pr_callMC 0 (c__law_take T 2) (hr.mono (by decide)) (pl_cons (pr_var 0) (pl_cons pr_int pl_nil)) (consL_len (consL_len nilL_len)))) pl_nil)) (blkOk_by (by first | (show blkC N__law_bar (defScope st__law_bar) _ _ = true; decide +kernel) | with_unfolding_all rfl)) (fun _ _ _ _ _ => (pg_nm 4 sc__law_bar.nd)) (fun _ _ _ _ _ => pts_nilZ) (fun _ _ _ _ _ => (pr_callMC 0 (c__law_tone T) (hr.mono (by decide)) (pl_cons (pr_var 0) pl_nil) (consL_len nilL_len))) (by rfl))
    (qss_cons (qs_set 5 sc__law_bar.nd (pr_tup pl_nil nilL_len))
    (qss_cons (qs_for (ws := [4]) PassesOwn.never rfl (pi_rng1 T.n_range (pl_cons (pr_op op_addZ add_ok pr_int (pr_callMC 0 (c__law_take T 2) (hr.mono (by decide)) (pl_cons (pr_var 0) (pl_cons (pr_var 2) pl_nil)) (consL_len (consL_len nilL_len)))) pl_nil)) (pg_nm 4 sc__law_bar.nd) (qss_one (qs_set 5 sc__law_bar.nd (pr_op op_addZ add_ok (pr_var 5) (pr_tup (pl_cons (pr_callMC 0 (c__law_column T) (hr.mono (by decide)) (pl_cons (pr_var 0) (pl_cons (pr_var 1) (pl_cons (pr_if (pq_val (pr_var 5)) (pr_ix ix_seqZ ix_ok (pr_var 5) (pr_neg pr_int) (fun _ _ => rfl)) pr_non) (pl_cons (pr_var 3) pl_nil)))) (consL_len (consL_len (consL_len (consL_len nilL_len))))) pl_nil) (consL_len nilL_len))))))
    (qss_one (qs_ret (pr_var 5))))))
theorem c_with_tones (T : Txt K mg cl) : Cal P w K mg base "with_tones" 1 ["column", "sign", "shift"] (spP K cl 3 m_with_tones) := by
  refine cal_P 0 (N := N_with_tones) T.f_with_tones sc_with_tones (by decide) (fun _ _ _ _ _ _ us hl => match us, hl with | [_, _, _], _ => rfl) (fun f cdv A outer s H E hr => ?_)
  have hu := hu_room hr
  exact (qss_cons (qs_set 3 sc_with_tones.nd (pr_lst pl_nil nilL_len))
    (qss_cons (qs_for (ws := [4]) PassesOwn.never rfl (pi_seqZ (pr_ix ix_seqZ ix_ok (pr_var 0) pr_int (fun _ _ => rfl))) (pg_nm 4 sc_with_tones.nd) (qss_one (qs_if (pq_isN (pr_var 4)) (qss_one (qs_app (ps_expr (pe_bm PySem.F.plainAttrs_list PySem.F.slot_list_append PySem.F.type_list_append mt_append (pv 3) (pa_cons pr_non pa_nil))))) (qss_cons (qs_asg (ws := [5, 6]) (pr_var 4) (pg_tupZ rfl (pgs_consZ (pg_nm 5 sc_with_tones.nd) (pgs_consZ (pg_nm 6 sc_with_tones.nd) pgs_nilZ))))
    (qss_one (qs_app (ps_expr (pe_bm PySem.F.plainAttrs_list PySem.F.slot_list_append PySem.F.type_list_append mt_append (pv 3) (pa_cons (pr_tup (pl_cons (pr_tup (pl_cons (pr_op op_addZ add_ok (pr_op op_mulZ mul_ok (pr_var 1) (pr_ix ix_seqZ ix_ok (pr_var 5) pr_int (fun _ _ => rfl))) (pr_ix ix_seqZ ix_ok (pr_var 2) pr_int (fun _ _ => rfl))) (pl_cons (pr_op op_addZ add_ok (pr_op op_mulZ mul_ok (pr_var 1) (pr_ix ix_seqZ ix_ok (pr_var 5) pr_int (fun _ _ => rfl))) (pr_ix ix_seqZ ix_ok (pr_var 2) pr_int (fun _ _ => rfl))) pl_nil)) (consL_len (consL_len nilL_len))) (pl_cons (pr_var 6) pl_nil)) (consL_len (consL_len nilL_len))) pa_nil)))))))))
    (qss_one (qs_ret (pr_tup (pl_cons (pr_ix ix_seqZ ix_ok (pr_var 0) pr_int (fun _ _ => rfl)) (pl_cons (pr_ix ix_seqZ ix_ok (pr_var 0) pr_int (fun _ _ => rfl)) (pl_cons (pr_tyc call_tuple_of tuple_ok T.n_tuple bo_tuple (pl_cons (pr_var 3) pl_nil)) pl_nil))) (consL_len (consL_len (consL_len nilL_len))))))))
theorem c_seen (T : Txt K mg cl) : Cal P w K mg base "seen" 2 ["column", "view"] (spP K cl 2 m_seen) := by
  refine cal_P 1 (N := N_seen) T.f_seen sc_seen (by decide) (fun _ _ _ _ _ _ us hl => match us, hl with | [_, _], _ => rfl) (fun f cdv A outer s H E hr => ?_)
  have hu := hu_room hr
  exact (qss_cons (qs_asg (ws := [2, 3, 4]) (pr_callC (c_with_tones T) (hr.mono (by decide)) (pl_cons (pr_var 0) (pl_cons (pr_ix ix_seqZ ix_ok (pr_var 1) pr_int (fun _ _ => rfl)) (pl_cons (pr_tup (pl_cons pr_int (pl_cons pr_int pl_nil)) (consL_len (consL_len nilL_len))) pl_nil))) (consL_len (consL_len (consL_len nilL_len)))) (pg_tupZ rfl (pgs_consZ (pg_nm 2 sc_seen.nd) (pgs_consZ (pg_nm 3 sc_seen.nd) (pgs_consZ (pg_nm 4 sc_seen.nd) pgs_nilZ)))))
    (qss_one (qs_ret (pr_tup (pl_cons (pr_var 2) (pl_cons (pr_var 3) (pl_cons (pr_tyc call_tuple_of tuple_ok T.n_tuple bo_tuple (pl_cons (pr_lc (own := [("voice", 5)]) rfl sc_seen.nd (pi_seqZ (pr_ix ix_seqZ ix_ok (pr_var 1) pr_int (fun _ _ => rfl))) (blkOk_by (by first | (show blkC N_seen (defScope st_seen) _ _ = true; decide +kernel) | with_unfolding_all rfl)) (fun _ _ _ _ _ => (pg_nm 5 sc_seen.nd)) (fun _ _ _ _ _ => pts_nilZ) (fun _ _ _ _ _ => (pr_ix ix_seqZ ix_ok (pr_var 4) (pr_var 5) (fun _ _ => rfl)))) pl_nil)) pl_nil))) (consL_len (consL_len (consL_len nilL_len)))))))
theorem c_fraction (T : Txt K mg cl) : Cal P w K mg base "fraction" 1 ["n", "d"] (spP K cl 2 m_fraction) := by
  refine cal_P 0 (N := N_fraction) T.f_fraction sc_fraction (by decide) (fun _ _ _ _ _ _ us hl => match us, hl with | [_, _], _ => rfl) (fun f cdv A outer s H E hr => ?_)
  have hu := hu_room hr
  exact (qss_cons (qs_set 2 sc_fraction.nd (pr_bfun cr_gcd gcd_ok T.b_gcd (pl_cons (pr_var 0) (pl_cons (pr_var 1) pl_nil))))
    (qss_cons (qs_if (pq_cmp (op_lt3 hu) lt3_ok (pr_var 1) pr_int (nomark _)) (qss_one (qs_set 2 sc_fraction.nd (pr_neg (pr_var 2)))) qss_nil)
    (qss_one (qs_ret (pr_tup (pl_cons (pr_op op_divB div_ok (pr_var 0) (pr_var 2)) (pl_cons (pr_op op_divB div_ok (pr_var 1) (pr_var 2)) pl_nil)) (consL_len (consL_len nilL_len)))))))
theorem c_product (T : Txt K mg cl) : Cal P w K mg base "product" 2 ["one", "other"] (spP K cl 2 m_product) := by
  refine cal_P 1 (N := N_product) T.f_product sc_product (by decide) (fun _ _ _ _ _ _ us hl => match us, hl with | [_, _], _ => rfl) (fun f cdv A outer s H E hr => ?_)
  have hu := hu_room hr
  exact (qss_one (qs_ret (pr_callC (c_fraction T) (hr.mono (by decide)) (pl_cons (pr_op op_mulZ mul_ok (pr_ix ix_seqZ ix_ok (pr_var 0) pr_int (fun _ _ => rfl)) (pr_ix ix_seqZ ix_ok (pr_var 1) pr_int (fun _ _ => rfl))) (pl_cons (pr_op op_mulZ mul_ok (pr_ix ix_seqZ ix_ok (pr_var 0) pr_int (fun _ _ => rfl)) (pr_ix ix_seqZ ix_ok (pr_var 1) pr_int (fun _ _ => rfl))) pl_nil)) (consL_len (consL_len nilL_len)))))
theorem c_brought_column (T : Txt K mg cl) : Cal P w K mg base "brought_column" 3 ["column", "bridge"] (spP K cl 2 m_brought_column) := by
  refine cal_P 2 (N := N_brought_column) T.f_brought_column sc_brought_column (by decide) (fun _ _ _ _ _ _ us hl => match us, hl with | [_, _], _ => rfl) (fun f cdv A outer s H E hr => ?_)
  have hu := hu_room hr
  exact (qss_cons (qs_asg (ws := [2, 3, 4]) (pr_callC (c_with_tones T) (hr.mono (by decide)) (pl_cons (pr_callC (c_seen T) (hr.mono (by decide)) (pl_cons (pr_var 0) (pl_cons (pr_sl (pr_var 1) po_noZ (po_soZ pr_int)) pl_nil)) (consL_len (consL_len nilL_len))) (pl_cons pr_int (pl_cons (pr_ix ix_seqZ ix_ok (pr_var 1) pr_int (fun _ _ => rfl)) pl_nil))) (consL_len (consL_len (consL_len nilL_len)))) (pg_tupZ rfl (pgs_consZ (pg_nm 2 sc_brought_column.nd) (pgs_consZ (pg_nm 3 sc_brought_column.nd) (pgs_consZ (pg_nm 4 sc_brought_column.nd) pgs_nilZ)))))
    (qss_one (qs_ret (pr_tup (pl_cons (pr_callC (c_product T) (hr.mono (by decide)) (pl_cons (pr_var 2) (pl_cons (pr_ix ix_seqZ ix_ok (pr_var 1) pr_int (fun _ _ => rfl)) pl_nil)) (consL_len (consL_len nilL_len))) (pl_cons (pr_var 3) (pl_cons (pr_var 4) pl_nil))) (consL_len (consL_len (consL_len nilL_len)))))))
theorem c_brought (T : Txt K mg cl) : Cal P w K mg base "brought" 4 ["columns", "bridge"] (spP K cl 2 m_brought) := by
  refine cal_P 3 (N := N_brought) T.f_brought sc_brought (by decide) (fun _ _ _ _ _ _ us hl => match us, hl with | [_, _], _ => rfl) (fun f cdv A outer s H E hr => ?_)
  have hu := hu_room hr
  exact (qss_one (qs_ret (pr_tyc call_tuple_of tuple_ok T.n_tuple bo_tuple (pl_cons (pr_lc (own := [("column", 2)]) rfl sc_brought.nd (pi_seqZ (pr_var 0)) (blkOk_by (by first | (show blkC N_brought (defScope st_brought) _ _ = true; decide +kernel) | with_unfolding_all rfl)) (fun _ _ _ _ _ => (pg_nm 2 sc_brought.nd)) (fun _ _ _ _ _ => pts_nilZ) (fun _ _ _ _ _ => (pr_callC (c_brought_column T) (hr.mono (by decide)) (pl_cons (pr_var 2) (pl_cons (pr_var 1) pl_nil)) (consL_len (consL_len nilL_len))))) pl_nil))))
theorem c__law_deep (T : Txt K mg cl) : Cal P w K mg base "_law_deep" 1 ["thing"] (spP K cl 1 m__law_deep) := by
  refine cal_P 0 (N := N__law_deep) T.f__law_deep sc__law_deep (by decide) (fun _ _ _ _ _ _ us hl => match us, hl with | [_], _ => rfl) (fun f cdv A outer s H E hr => ?_)
  have hu := hu_room hr
  exact (qss_cons (qs_for (ws := [1]) PassesOwn.never rfl (pi_rng1 T.n_range (pl_cons pr_int pl_nil)) (pg_nm 1 sc__law_deep.nd) (qss_one (qs_set 0 sc__law_deep.nd (pr_tup (pl_cons (pr_var 0) pl_nil) (consL_len nilL_len)))))
    (qss_one (qs_ret (pr_var 0))))
theorem c__law_wrong (T : Txt K mg cl) : Cal P w K mg base "_law_wrong" 2 ["pool", "bridge", "voices"] (spM K cl 3 m__law_wrong) := by
  refine cal_M 1 (N := N__law_wrong) T.f__law_wrong sc__law_wrong (by decide) (fun _ _ _ _ _ _ us hl => match us, hl with | [_, _, _], _ => rfl) (fun f cdv A outer s H E hr => ?_)
  have hu := hu_room hr
  exact (qss_cons (qs_asg (ws := [3, 4, 5, 6]) (pr_var 1) (pg_tupZ rfl (pgs_consZ (pg_nm 3 sc__law_wrong.nd) (pgs_consZ (pg_nm 4 sc__law_wrong.nd) (pgs_consZ (pg_nm 5 sc__law_wrong.nd) (pgs_consZ (pg_nm 6 sc__law_wrong.nd) pgs_nilZ))))))
    (qss_cons (qs_set 7 sc__law_wrong.nd (pr_lst (pl_cons pr_non (pl_cons pr_bl (pl_cons pr_bl (pl_cons pr_int (pl_cons pr_int (pl_cons (pr_neg pr_int) (pl_cons pr_str (pl_cons (pr_tup (pl_cons pr_int pl_nil) (consL_len nilL_len)) (pl_cons (pr_callC (c__law_deep T) (hr.mono (by decide)) (pl_cons pr_int pl_nil) (consL_len nilL_len)) (pl_cons (pr_op op_pow pow_ok pr_int pr_int) pl_nil)))))))))) (consL_len (consL_len (consL_len (consL_len (consL_len (consL_len (consL_len (consL_len (consL_len (consL_len nilL_len))))))))))))
    (qss_cons (qs_setLc 8 (own := [("one", 9)]) rfl sc__law_wrong.nd (pi_seqZ (pr_var 7)) (blkOk_by (by first | (show blkC N__law_wrong (defScope st__law_wrong) _ _ = true; decide +kernel) | with_unfolding_all rfl)) (fun _ _ _ _ _ => (pg_nm 9 sc__law_wrong.nd)) (fun _ _ _ _ _ => pts_nilZ) (fun _ _ _ _ _ => (pr_tup (pl_cons (pr_var 9) (pl_cons (pr_var 4) (pl_cons (pr_var 5) (pl_cons (pr_var 6) pl_nil)))) (consL_len (consL_len (consL_len (consL_len nilL_len)))))) (by rfl))
    (qss_cons (qs_set 10 sc__law_wrong.nd (pr_lst (pl_cons pr_non (pl_cons pr_int (pl_cons pr_str (pl_cons (pr_sl (pr_var 4) (po_soZ pr_int) po_noZ) (pl_cons (pr_op op_addZ add_ok (pr_var 4) (pr_tup (pl_cons (pr_var 2) pl_nil) (consL_len nilL_len))) (pl_cons (pr_op op_addZ add_ok (pr_tup (pl_cons (pr_var 2) pl_nil) (consL_len nilL_len)) (pr_sl (pr_var 4) (po_soZ pr_int) po_noZ)) (pl_cons (pr_op op_addZ add_ok (pr_tup (pl_cons (pr_neg pr_int) pl_nil) (consL_len nilL_len)) (pr_sl (pr_var 4) (po_soZ pr_int) po_noZ)) (pl_cons (pr_op op_addZ add_ok (pr_sl (pr_var 4) po_noZ (po_soZ (pr_neg pr_int))) (pr_tup (pl_cons pr_non pl_nil) (consL_len nilL_len))) (pl_cons (pr_op op_mulZ mul_ok (pr_tup (pl_cons pr_bl pl_nil) (consL_len nilL_len)) (pr_var 2)) (pl_cons (pr_callC (c__law_deep T) (hr.mono (by decide)) (pl_cons (pr_var 4) pl_nil) (consL_len nilL_len)) (pl_cons (pr_lst (pl_cons (pr_tyc call_list_of list_ok T.n_list bo_list (pl_cons (pr_var 4) pl_nil)) pl_nil) (consL_len nilL_len)) pl_nil))))))))))) (consL_len (consL_len (consL_len (consL_len (consL_len (consL_len (consL_len (consL_len (consL_len (consL_len (consL_len nilL_len)))))))))))))
    (qss_cons (qs_ext (ps_expr (pe_bm PySem.F.plainAttrs_list PySem.F.slot_list_extend PySem.F.type_list_extend mt_extend (pv 8) (pa_cons (pr_lc (own := [("one", 9)]) rfl sc__law_wrong.nd (pi_seqZ (pr_var 10)) (blkOk_by (by first | (show blkC N__law_wrong (defScope st__law_wrong) _ _ = true; decide +kernel) | with_unfolding_all rfl)) (fun _ _ _ _ _ => (pg_nm 9 sc__law_wrong.nd)) (fun _ _ _ _ _ => pts_nilZ) (fun _ _ _ _ _ => (pr_tup (pl_cons (pr_var 3) (pl_cons (pr_var 9) (pl_cons (pr_var 5) (pl_cons (pr_var 6) pl_nil)))) (consL_len (consL_len (consL_len (consL_len nilL_len))))))) pa_nil))))
    (qss_cons (qs_if (pq_cmp op_gt gt_ok (pr_var 2) pr_int (nomark _)) (qss_one (qs_app (ps_expr (pe_bm PySem.F.plainAttrs_list PySem.F.slot_list_append PySem.F.type_list_append mt_append (pv 8) (pa_cons (pr_tup (pl_cons (pr_var 3) (pl_cons (pr_op op_addZ add_ok (pr_sl (pr_var 4) po_noZ (po_soZ (pr_neg pr_int))) (pr_tup (pl_cons (pr_ix ix_seqZ ix_ok (pr_var 4) pr_int (fun _ _ => rfl)) pl_nil) (consL_len nilL_len))) (pl_cons (pr_var 5) (pl_cons (pr_var 6) pl_nil)))) (consL_len (consL_len (consL_len (consL_len nilL_len))))) pa_nil))))) qss_nil)
    (qss_cons (qs_set 10 sc__law_wrong.nd (pr_lst (pl_cons pr_non (pl_cons pr_int (pl_cons pr_str (pl_cons (pr_tup pl_nil nilL_len) (pl_cons (pr_sl (pr_var 5) po_noZ (po_soZ pr_int)) (pl_cons (pr_op op_addZ add_ok (pr_var 5) (pr_tup (pl_cons pr_int pl_nil) (consL_len nilL_len))) (pl_cons (pr_tup (pl_cons (pr_ix ix_seqZ ix_ok (pr_var 5) pr_int (fun _ _ => rfl)) (pl_cons pr_non pl_nil)) (consL_len (consL_len nilL_len))) (pl_cons (pr_tup (pl_cons pr_bl (pl_cons (pr_ix ix_seqZ ix_ok (pr_var 5) pr_int (fun _ _ => rfl)) pl_nil)) (consL_len (consL_len nilL_len))) (pl_cons (pr_tup (pl_cons (pr_tup (pl_cons pr_int pl_nil) (consL_len nilL_len)) (pl_cons pr_int pl_nil)) (consL_len (consL_len nilL_len))) (pl_cons (pr_callC (c__law_deep T) (hr.mono (by decide)) (pl_cons (pr_var 5) pl_nil) (consL_len nilL_len)) pl_nil)))))))))) (consL_len (consL_len (consL_len (consL_len (consL_len (consL_len (consL_len (consL_len (consL_len (consL_len nilL_len))))))))))))
    (qss_cons (qs_ext (ps_expr (pe_bm PySem.F.plainAttrs_list PySem.F.slot_list_extend PySem.F.type_list_extend mt_extend (pv 8) (pa_cons (pr_lc (own := [("one", 9)]) rfl sc__law_wrong.nd (pi_seqZ (pr_var 10)) (blkOk_by (by first | (show blkC N__law_wrong (defScope st__law_wrong) _ _ = true; decide +kernel) | with_unfolding_all rfl)) (fun _ _ _ _ _ => (pg_nm 9 sc__law_wrong.nd)) (fun _ _ _ _ _ => pts_nilZ) (fun _ _ _ _ _ => (pr_tup (pl_cons (pr_var 3) (pl_cons (pr_var 4) (pl_cons (pr_var 9) (pl_cons (pr_var 6) pl_nil)))) (consL_len (consL_len (consL_len (consL_len nilL_len))))))) pa_nil))))
    (qss_cons (qs_set 10 sc__law_wrong.nd (pr_lst (pl_cons pr_non (pl_cons pr_int (pl_cons pr_str (pl_cons (pr_tup pl_nil nilL_len) (pl_cons (pr_tup (pl_cons pr_int (pl_cons pr_int pl_nil)) (consL_len (consL_len nilL_len))) (pl_cons (pr_tup (pl_cons (pr_neg (pr_ix ix_seqZ ix_ok (pr_var 6) pr_int (fun _ _ => rfl))) (pl_cons (pr_ix ix_seqZ ix_ok (pr_var 6) pr_int (fun _ _ => rfl)) pl_nil)) (consL_len (consL_len nilL_len))) (pl_cons (pr_tup (pl_cons (pr_ix ix_seqZ ix_ok (pr_var 6) pr_int (fun _ _ => rfl)) (pl_cons (pr_neg (pr_ix ix_seqZ ix_ok (pr_var 6) pr_int (fun _ _ => rfl))) pl_nil)) (consL_len (consL_len nilL_len))) (pl_cons (pr_tup (pl_cons (pr_op op_mulZ mul_ok pr_int (pr_ix ix_seqZ ix_ok (pr_var 6) pr_int (fun _ _ => rfl))) (pl_cons (pr_op op_mulZ mul_ok pr_int (pr_ix ix_seqZ ix_ok (pr_var 6) pr_int (fun _ _ => rfl))) pl_nil)) (consL_len (consL_len nilL_len))) (pl_cons (pr_tup (pl_cons pr_int (pl_cons pr_int pl_nil)) (consL_len (consL_len nilL_len))) (pl_cons (pr_tup (pl_cons pr_int (pl_cons pr_int pl_nil)) (consL_len (consL_len nilL_len))) (pl_cons (pr_sl (pr_var 6) po_noZ (po_soZ pr_int)) (pl_cons (pr_op op_addZ add_ok (pr_var 6) (pr_tup (pl_cons pr_int pl_nil) (consL_len nilL_len))) (pl_cons (pr_tup (pl_cons pr_bl (pl_cons pr_int pl_nil)) (consL_len (consL_len nilL_len))) (pl_cons (pr_tup (pl_cons pr_int (pl_cons pr_bl pl_nil)) (consL_len (consL_len nilL_len))) (pl_cons (pr_callC (c__law_deep T) (hr.mono (by decide)) (pl_cons (pr_var 6) pl_nil) (consL_len nilL_len)) pl_nil))))))))))))))) (consL_len (consL_len (consL_len (consL_len (consL_len (consL_len (consL_len (consL_len (consL_len (consL_len (consL_len (consL_len (consL_len (consL_len (consL_len nilL_len)))))))))))))))))
    (qss_cons (qs_ext (ps_expr (pe_bm PySem.F.plainAttrs_list PySem.F.slot_list_extend PySem.F.type_list_extend mt_extend (pv 8) (pa_cons (pr_lc (own := [("one", 9)]) rfl sc__law_wrong.nd (pi_seqZ (pr_var 10)) (blkOk_by (by first | (show blkC N__law_wrong (defScope st__law_wrong) _ _ = true; decide +kernel) | with_unfolding_all rfl)) (fun _ _ _ _ _ => (pg_nm 9 sc__law_wrong.nd)) (fun _ _ _ _ _ => pts_nilZ) (fun _ _ _ _ _ => (pr_tup (pl_cons (pr_var 3) (pl_cons (pr_var 4) (pl_cons (pr_var 5) (pl_cons (pr_var 9) pl_nil)))) (consL_len (consL_len (consL_len (consL_len nilL_len))))))) pa_nil))))
    (qss_one (qs_ret (pr_op op_addZ add_ok (pr_var 8) (pr_lst (pl_cons (pr_sl (pr_var 1) po_noZ (po_soZ pr_int)) (pl_cons (pr_op op_addZ add_ok (pr_var 1) (pr_tup (pl_cons pr_int pl_nil) (consL_len nilL_len))) (pl_cons (pr_tup pl_nil nilL_len) (pl_cons pr_non (pl_cons pr_int (pl_cons pr_str (pl_cons (pr_callC (c__law_deep T) (hr.mono (by decide)) (pl_cons (pr_var 1) pl_nil) (consL_len nilL_len)) (pl_cons (pr_tyc (call_dictP rfl) dict_ok T.n_dict bo_dict (pl_cons (pr_lst (pl_cons (pr_tup (pl_cons pr_int (pl_cons (pr_var 1) pl_nil)) (consL_len (consL_len nilL_len))) pl_nil) (consL_len nilL_len)) pl_nil)) pl_nil)))))))) (consL_len (consL_len (consL_len (consL_len (consL_len (consL_len (consL_len (consL_len nilL_len))))))))))))))))))))))
theorem c__law_is_integer (T : Txt K mg cl) : Cal P w K mg base "_law_is_integer" 1 ["actual"] (spP K cl 1 m__law_is_integer) := by
  refine cal_P 0 (N := N__law_is_integer) T.f__law_is_integer sc__law_is_integer (by decide) (fun _ _ _ _ _ _ us hl => match us, hl with | [_], _ => rfl) (fun f cdv A outer s H E hr => ?_)
  have hu := hu_room hr
  exact (qss_one (qs_ret (pr_and (pr_blt call_isiZ isi_ok T.n_isinstance bo_isinstance (pl_cons (pr_var 0) (pl_cons (pr_ty T.n_int bo_int) pl_nil))) (pr_one (pr_not (pr_blt call_isiZ isi_ok T.n_isinstance bo_isinstance (pl_cons (pr_var 0) (pl_cons (pr_ty T.n_bool bo_bool) pl_nil))))))))
theorem cr__law_same (T : Txt K mg cl) {mr : List Z.D → Option Rt} (k : Nat) (hk : 1 ≤ k) (Cr : Cal P w K mg base "_law_same" k ["actual", "due"] (spP K cl 2 mr)) : Cal P w K mg base "_law_same" (k + 1) ["actual", "due"] (spP K cl 2 (runP N__law_same (b__law_same mr))) := by
  refine cal_P k (N := N__law_same) T.f__law_same sc__law_same (by decide) (fun _ _ _ _ _ _ us hl => match us, hl with | [_, _], _ => rfl) (fun f cdv A outer s H E hr => ?_)
  have hu := hu_room hr
  exact (qss_cons (qs_if (pq_val (pr_blt call_isiZ isi_ok T.n_isinstance bo_isinstance (pl_cons (pr_var 1) (pl_cons (pr_ty T.n_tuple bo_tuple) pl_nil)))) (qss_cons (qs_if (pq_or (pq_not (pq_val (pr_blt call_isiZ isi_ok T.n_isinstance bo_isinstance (pl_cons (pr_var 0) (pl_cons (pr_ty T.n_tuple bo_tuple) pl_nil))))) (pq_or1 (pq_cmp (op_neZ hu) ne_ok (pr_blt call_len_seq len_ok T.n_len bo_len (pl_cons (pr_var 0) pl_nil)) (pr_blt call_len_seq len_ok T.n_len bo_len (pl_cons (pr_var 1) pl_nil)) (nomark _)))).pt (qss_one (qs_ret pr_bl)) qss_nil)
    (qss_one (qs_ret (pr_blt (cr_all rfl) all_ok T.n_all bo_all (pl_cons (pr_lc (own := [("k", 2)]) rfl sc__law_same.nd (pi_rng1 T.n_range (pl_cons (pr_blt call_len_seq len_ok T.n_len bo_len (pl_cons (pr_var 1) pl_nil)) pl_nil)) (blkOk_by (by first | (show blkC N__law_same (defScope st__law_same) _ _ = true; decide +kernel) | with_unfolding_all rfl)) (fun _ _ _ _ _ => (pg_nm 2 sc__law_same.nd)) (fun _ _ _ _ _ => pts_nilZ) (fun _ _ _ _ _ => (pr_callC Cr (hr.mono (by first | exact Nat.le_refl _ | omega)) (pl_cons (pr_ix ix_seqZ ix_ok (pr_var 0) (pr_var 2) (fun _ _ => rfl)) (pl_cons (pr_ix ix_seqZ ix_ok (pr_var 1) (pr_var 2) (fun _ _ => rfl)) pl_nil)) (consL_len (consL_len nilL_len))))) pl_nil))))) qss_nil)
    (qss_cons (qs_if (pq_val (pr_blt call_isiZ isi_ok T.n_isinstance bo_isinstance (pl_cons (pr_var 1) (pl_cons (pr_ty T.n_list bo_list) pl_nil)))) (qss_cons (qs_if (pq_or (pq_not (pq_val (pr_blt call_isiZ isi_ok T.n_isinstance bo_isinstance (pl_cons (pr_var 0) (pl_cons (pr_ty T.n_list bo_list) pl_nil))))) (pq_or1 (pq_cmp (op_neZ hu) ne_ok (pr_blt call_len_seq len_ok T.n_len bo_len (pl_cons (pr_var 0) pl_nil)) (pr_blt call_len_seq len_ok T.n_len bo_len (pl_cons (pr_var 1) pl_nil)) (nomark _)))).pt (qss_one (qs_ret pr_bl)) qss_nil)
    (qss_one (qs_ret (pr_blt (cr_all rfl) all_ok T.n_all bo_all (pl_cons (pr_lc (own := [("k", 2)]) rfl sc__law_same.nd (pi_rng1 T.n_range (pl_cons (pr_blt call_len_seq len_ok T.n_len bo_len (pl_cons (pr_var 1) pl_nil)) pl_nil)) (blkOk_by (by first | (show blkC N__law_same (defScope st__law_same) _ _ = true; decide +kernel) | with_unfolding_all rfl)) (fun _ _ _ _ _ => (pg_nm 2 sc__law_same.nd)) (fun _ _ _ _ _ => pts_nilZ) (fun _ _ _ _ _ => (pr_callC Cr (hr.mono (by first | exact Nat.le_refl _ | omega)) (pl_cons (pr_ix ix_seqZ ix_ok (pr_var 0) (pr_var 2) (fun _ _ => rfl)) (pl_cons (pr_ix ix_seqZ ix_ok (pr_var 1) (pr_var 2) (fun _ _ => rfl)) pl_nil)) (consL_len (consL_len nilL_len))))) pl_nil))))) qss_nil)
    (qss_cons (qs_if (pq_isN (pr_var 1)) (qss_one (qs_ret (pr_isN (pr_var 0)))) qss_nil)
    (qss_cons (qs_if (pq_val (pr_blt call_isiZ isi_ok T.n_isinstance bo_isinstance (pl_cons (pr_var 1) (pl_cons (pr_ty T.n_bool bo_bool) pl_nil)))) (qss_one (qs_ret (pr_and (pr_blt call_isiZ isi_ok T.n_isinstance bo_isinstance (pl_cons (pr_var 0) (pl_cons (pr_ty T.n_bool bo_bool) pl_nil))) (pr_one (pr_cmp (op_eqZ hu) eq_ok (pr_var 0) (pr_var 1) (nomark _)))))) qss_nil)
    (qss_cons (qs_if (pq_val (pr_blt call_isiZ isi_ok T.n_isinstance bo_isinstance (pl_cons (pr_var 1) (pl_cons (pr_ty T.n_str bo_str) pl_nil)))) (qss_one (qs_ret (pr_and (pr_blt call_isiZ isi_ok T.n_isinstance bo_isinstance (pl_cons (pr_var 0) (pl_cons (pr_ty T.n_str bo_str) pl_nil))) (pr_one (pr_cmp (op_eqZ hu) eq_ok (pr_var 0) (pr_var 1) (nomark _)))))) qss_nil)
    (qss_one (qs_ret (pr_and (pr_callC (c__law_is_integer T) (hr.mono (by first | exact Nat.le_refl _ | omega)) (pl_cons (pr_var 0) pl_nil) (consL_len nilL_len)) (pr_one (pr_cmp (op_eqZ hu) eq_ok (pr_var 0) (pr_var 1) (nomark _)))))))))))
theorem c__law_same (T : Txt K mg cl) : ∀ n : Nat, Cal P w K mg base "_law_same" (1 + n) ["actual", "due"] (spP K cl 2 (m__law_same n))
  | 0 => (cal_0P T.f__law_same (fun _ _ _ _ _ _ us hl => match us, hl with | [_, _], _ => rfl)).mono (by decide)
  | n + 1 => cr__law_same T (1 + n) (by omega) (c__law_same T n)
theorem c_is_fraction (T : Txt K mg cl) : Cal P w K mg base "is_fraction" 1 ["value"] (spP K cl 1 m_is_fraction) := by
  refine cal_P 0 (N := N_is_fraction) T.f_is_fraction sc_is_fraction (by decide) (fun _ _ _ _ _ _ us hl => match us, hl with | [_], _ => rfl) (fun f cdv A outer s H E hr => ?_)
  have hu := hu_room hr
  exact (qss_cons (qs_if (pq_or (pq_not (pq_val (pr_blt call_isiZ isi_ok T.n_isinstance bo_isinstance (pl_cons (pr_var 0) (pl_cons (pr_tup (pl_cons (pr_ty T.n_tuple bo_tuple) (pl_cons (pr_ty T.n_list bo_list) pl_nil)) (consL_len (consL_len nilL_len))) pl_nil))))) (pq_or1 (pq_cmp (op_neZ hu) ne_ok (pr_blt call_len_seq len_ok T.n_len bo_len (pl_cons (pr_var 0) pl_nil)) pr_int (nomark _)))).pt (qss_one (qs_ret pr_bl)) qss_nil)
    (qss_cons (qs_if (pq_val (pr_blt (cr_any rfl) any_ok T.n_any bo_any (pl_cons (pr_lc (own := [("part", 1)]) rfl sc_is_fraction.nd (pi_seqZ (pr_var 0)) (blkOk_by (by first | (show blkC N_is_fraction (defScope st_is_fraction) _ _ = true; decide +kernel) | with_unfolding_all rfl)) (fun _ _ _ _ _ => (pg_nm 1 sc_is_fraction.nd)) (fun _ _ _ _ _ => pts_nilZ) (fun _ _ _ _ _ => (pr_or (pr_blt call_isiZ isi_ok T.n_isinstance bo_isinstance (pl_cons (pr_var 1) (pl_cons (pr_ty T.n_bool bo_bool) pl_nil))) (pr_one (pr_not (pr_blt call_isiZ isi_ok T.n_isinstance bo_isinstance (pl_cons (pr_var 1) (pl_cons (pr_ty T.n_int bo_int) pl_nil)))))))) pl_nil))) (qss_one (qs_ret pr_bl)) qss_nil)
    (qss_one (qs_ret (pr_and (pr_cmp op_gt gt_ok (pr_ix ix_seqZ ix_ok (pr_var 0) pr_int (fun _ _ => rfl)) pr_int (nomark _)) (pr_one (pr_cmp (op_eqZ hu) eq_ok (pr_bfun cr_gcd gcd_ok T.b_gcd (pl_cons (pr_ix ix_seqZ ix_ok (pr_var 0) pr_int (fun _ _ => rfl)) (pl_cons (pr_ix ix_seqZ ix_ok (pr_var 0) pr_int (fun _ _ => rfl)) pl_nil))) pr_int (nomark _))))))))
theorem c_is_whole (T : Txt K mg cl) : Cal P w K mg base "is_whole" 1 ["value"] (spP K cl 1 m_is_whole) := by
  refine cal_P 0 (N := N_is_whole) T.f_is_whole sc_is_whole (by decide) (fun _ _ _ _ _ _ us hl => match us, hl with | [_], _ => rfl) (fun f cdv A outer s H E hr => ?_)
  have hu := hu_room hr
  exact (qss_one (qs_ret (pr_and (pr_blt call_isiZ isi_ok T.n_isinstance bo_isinstance (pl_cons (pr_var 0) (pl_cons (pr_ty T.n_int bo_int) pl_nil))) (pr_one (pr_not (pr_blt call_isiZ isi_ok T.n_isinstance bo_isinstance (pl_cons (pr_var 0) (pl_cons (pr_ty T.n_bool bo_bool) pl_nil))))))))
theorem c_is_order (T : Txt K mg cl) : Cal P w K mg base "is_order" 2 ["value", "voices"] (spP K cl 2 m_is_order) := by
  refine cal_P 1 (N := N_is_order) T.f_is_order sc_is_order (by decide) (fun _ _ _ _ _ _ us hl => match us, hl with | [_, _], _ => rfl) (fun f cdv A outer s H E hr => ?_)
  have hu := hu_room hr
  exact (qss_cons (qs_if (pq_or (pq_not (pq_val (pr_blt call_isiZ isi_ok T.n_isinstance bo_isinstance (pl_cons (pr_var 0) (pl_cons (pr_tup (pl_cons (pr_ty T.n_tuple bo_tuple) (pl_cons (pr_ty T.n_list bo_list) pl_nil)) (consL_len (consL_len nilL_len))) pl_nil))))) (pq_or1 (pq_not (pq_val (pr_blt (cr_all rfl) all_ok T.n_all bo_all (pl_cons (pr_lc (own := [("voice", 2)]) rfl sc_is_order.nd (pi_seqZ (pr_var 0)) (blkOk_by (by first | (show blkC N_is_order (defScope st_is_order) _ _ = true; decide +kernel) | with_unfolding_all rfl)) (fun _ _ _ _ _ => (pg_nm 2 sc_is_order.nd)) (fun _ _ _ _ _ => pts_nilZ) (fun _ _ _ _ _ => (pr_callC (c_is_whole T) (hr.mono (by decide)) (pl_cons (pr_var 2) pl_nil) (consL_len nilL_len)))) pl_nil)))))).pt (qss_one (qs_ret pr_bl)) qss_nil)
    (qss_one (qs_ret (pr_cmp (op_eqZ hu) eq_ok (pr_blt call_sortZ sort_ok T.n_sorted bo_sorted (pl_cons (pr_var 0) pl_nil)) (pr_lrg (pe_listRg rfl (by rfl) T.n_list (prg_1 (by rfl) T.n_range (pr_var 1)))) (nomark _)))))
theorem c_is_bridge (T : Txt K mg cl) : Cal P w K mg base "is_bridge" 3 ["value", "voices"] (spP K cl 2 m_is_bridge) := by
  refine cal_P 2 (N := N_is_bridge) T.f_is_bridge sc_is_bridge (by decide) (fun _ _ _ _ _ _ us hl => match us, hl with | [_, _], _ => rfl) (fun f cdv A outer s H E hr => ?_)
  have hu := hu_room hr
  exact (qss_cons (qs_if (pq_or (pq_not (pq_val (pr_blt call_isiZ isi_ok T.n_isinstance bo_isinstance (pl_cons (pr_var 0) (pl_cons (pr_tup (pl_cons (pr_ty T.n_tuple bo_tuple) (pl_cons (pr_ty T.n_list bo_list) pl_nil)) (consL_len (consL_len nilL_len))) pl_nil))))) (pq_or1 (pq_cmp (op_neZ hu) ne_ok (pr_blt call_len_seq len_ok T.n_len bo_len (pl_cons (pr_var 0) pl_nil)) pr_int (nomark _)))).pt (qss_one (qs_ret pr_bl)) qss_nil)
    (qss_cons (qs_asg (ws := [2, 3, 4, 5]) (pr_var 0) (pg_tupZ rfl (pgs_consZ (pg_nm 2 sc_is_bridge.nd) (pgs_consZ (pg_nm 3 sc_is_bridge.nd) (pgs_consZ (pg_nm 4 sc_is_bridge.nd) (pgs_consZ (pg_nm 5 sc_is_bridge.nd) pgs_nilZ))))))
    (qss_cons (qs_if (pq_or (pq_not (pq_val (pr_callC (c_is_whole T) (hr.mono (by decide)) (pl_cons (pr_var 2) pl_nil) (consL_len nilL_len)))) (pq_or (pq_cmp op_notIn_seq in_ok (pr_var 2) (pr_tup (pl_cons pr_int (pl_cons (pr_neg pr_int) pl_nil)) (consL_len (consL_len nilL_len))) (by with_unfolding_all rfl)) (pq_or1 (pq_not (pq_val (pr_callC (c_is_order T) (hr.mono (by decide)) (pl_cons (pr_var 3) (pl_cons (pr_var 1) pl_nil)) (consL_len (consL_len nilL_len)))))))).pt (qss_one (qs_ret pr_bl)) qss_nil)
    (qss_cons (qs_if (pq_or (pq_not (pq_val (pr_blt call_isiZ isi_ok T.n_isinstance bo_isinstance (pl_cons (pr_var 4) (pl_cons (pr_tup (pl_cons (pr_ty T.n_tuple bo_tuple) (pl_cons (pr_ty T.n_list bo_list) pl_nil)) (consL_len (consL_len nilL_len))) pl_nil))))) (pq_or1 (pq_cmp (op_neZ hu) ne_ok (pr_blt call_len_seq len_ok T.n_len bo_len (pl_cons (pr_var 4) pl_nil)) pr_int (nomark _)))).pt (qss_one (qs_ret pr_bl)) qss_nil)
    (qss_one (qs_ret (pr_and (pr_blt (cr_all rfl) all_ok T.n_all bo_all (pl_cons (pr_lc (own := [("part", 6)]) rfl sc_is_bridge.nd (pi_seqZ (pr_var 4)) (blkOk_by (by first | (show blkC N_is_bridge (defScope st_is_bridge) _ _ = true; decide +kernel) | with_unfolding_all rfl)) (fun _ _ _ _ _ => (pg_nm 6 sc_is_bridge.nd)) (fun _ _ _ _ _ => pts_nilZ) (fun _ _ _ _ _ => (pr_callC (c_is_whole T) (hr.mono (by decide)) (pl_cons (pr_var 6) pl_nil) (consL_len nilL_len)))) pl_nil)) (pr_and (pr_callC (c_is_fraction T) (hr.mono (by decide)) (pl_cons (pr_var 5) pl_nil) (consL_len nilL_len)) (pr_one (pr_cmp op_gt gt_ok (pr_ix ix_seqZ ix_ok (pr_var 5) pr_int (fun _ _ => rfl)) pr_int (nomark _)))))))))))
theorem c_check_bridge (T : Txt K mg cl) : Cal P w K mg base "check_bridge" 4 ["bridge", "voices"] (spP K cl 2 m_check_bridge) := by
  refine cal_P 3 (N := N_check_bridge) T.f_check_bridge sc_check_bridge (by decide) (fun _ _ _ _ _ _ us hl => match us, hl with | [_, _], _ => rfl) (fun f cdv A outer s H E hr => ?_)
  have hu := hu_room hr
  exact (qss_cons (qs_if (pq_not (pq_val (pr_callC (c_is_bridge T) (hr.mono (by decide)) (pl_cons (pr_var 0) (pl_cons (pr_var 1) pl_nil)) (consL_len (consL_len nilL_len))))) (qss_one qs_no) qss_nil)
    (qss_one (qs_ret (pr_tup (pl_cons (pr_ix ix_seqZ ix_ok (pr_var 0) pr_int (fun _ _ => rfl)) (pl_cons (pr_tyc call_tuple_of tuple_ok T.n_tuple bo_tuple (pl_cons (pr_ix ix_seqZ ix_ok (pr_var 0) pr_int (fun _ _ => rfl)) pl_nil)) (pl_cons (pr_tyc call_tuple_of tuple_ok T.n_tuple bo_tuple (pl_cons (pr_ix ix_seqZ ix_ok (pr_var 0) pr_int (fun _ _ => rfl)) pl_nil)) (pl_cons (pr_tyc call_tuple_of tuple_ok T.n_tuple bo_tuple (pl_cons (pr_ix ix_seqZ ix_ok (pr_var 0) pr_int (fun _ _ => rfl)) pl_nil)) pl_nil)))) (consL_len (consL_len (consL_len (consL_len nilL_len))))))))
theorem cR_check_bridge (T : Txt K mg cl) : CalR P w K mg base "check_bridge" 4 ["bridge", "voices"] (spR K cl N_check_bridge 2 t_check_bridge (cl "BadBridge")) := by
  refine cal_R 3 T.f_check_bridge sc_check_bridge (by decide) (fun _ _ _ _ _ _ us hl => match us, hl with | [_, _], _ => rfl) (fun a cdv A outer s H E hr => ?_)
  have hu := hu_room hr
  have tk := takes_of (X := cxOf (L2.CX P w) P w K mg base N_check_bridge "check_bridge" (defScope st_check_bridge) a cdv A outer s H E) rfl rfl rfl rfl
  exact ⟨_, tS K cl (retS (tupS (consL (bin2 ixG (vS 0) (cS (.int 0))) (consL (cbS tupleG (consL (bin2 ixG (vS 0) (cS (.int 1))) nilL)) (consL (cbS tupleG (consL (bin2 ixG (vS 0) (cS (.int 2))) nilL)) (consL (cbS tupleG (consL (bin2 ixG (vS 0) (cS (.int 3))) nilL)) nilL)))))), pss_cons (ps_if (pq_not (pq_val (pr_callC (c_is_bridge T) (hr.mono (by decide)) (pl_cons (pr_var 0) (pl_cons (pr_var 1) pl_nil)) (consL_len (consL_len nilL_len))))) (pss_one (ps_raise rfl tk (pmk_own PySem.F.excBase_ValueError T.e_BadBridge.ex T.e_BadBridge.gm T.e_BadBridge.kp (raises_own T.e_BadBridge.sb T.e_BadBridge.ty) rfl))) pss_nil) (qss_one (qs_ret (pr_tup (pl_cons (pr_ix ix_seqZ ix_ok (pr_var 0) pr_int (fun _ _ => rfl)) (pl_cons (pr_tyc call_tuple_of tuple_ok T.n_tuple bo_tuple (pl_cons (pr_ix ix_seqZ ix_ok (pr_var 0) pr_int (fun _ _ => rfl)) pl_nil)) (pl_cons (pr_tyc call_tuple_of tuple_ok T.n_tuple bo_tuple (pl_cons (pr_ix ix_seqZ ix_ok (pr_var 0) pr_int (fun _ _ => rfl)) pl_nil)) (pl_cons (pr_tyc call_tuple_of tuple_ok T.n_tuple bo_tuple (pl_cons (pr_ix ix_seqZ ix_ok (pr_var 0) pr_int (fun _ _ => rfl)) pl_nil)) pl_nil)))) (consL_len (consL_len (consL_len (consL_len nilL_len)))))))⟩
theorem c__law_refused (T : Txt K mg cl) : Cal P w K mg base "_law_refused" 5 ["thing", "voices"] (spP K cl 2 m__law_refused) := by
  refine cal_ref 4 T.f__law_refused sc__law_refused (by decide) (fun _ _ _ _ _ _ us hl => match us, hl with | [_, _], _ => rfl) T.e_BadBridge.em (fun a cdv A outer s H E hr => ?_)
  have hu := hu_room hr
  obtain ⟨f2, fd2, F2, b2, gm2, kp2⟩ := (cR_check_bridge (P := P) (w := w) (base := base) T).ex
  refine ⟨_, pss_cons ?_ (pss_one (ps_ret pe_bl))⟩
  exact ps_try_as (i := 2) (tb := fun W => tDrop (tCallS (spR K cl N_check_bridge 2 t_check_bridge (cl "BadBridge")) (WE W) (tL K cl (consL (vS 0) (consL (vS 1) nilL))))) (ts := tsR (cl "BadBridge")) (Wout := fun _ _ _ _ => False) rfl rfl sc__law_refused.nd rfl rfl ⟨rfl, by decide, .inl T.e_BadBridge.gm⟩ takes_none
    (fun W pn xe tk _ => pss_one (ps_expr (pe_callS F2 (hr.mono (by decide)) rfl gm2 kp2 b2 (fun σ => passAt tk σ) (pl_cons (pr_var 0) (pl_cons (pr_var 1) pl_nil)))))
    (fun a2 oe cls d pn hz hf => suite_ref T.e_BadBridge.ic T.k1 T.k2 hf hz (fun hc => ps_ret (pe_and (pe_callB hc rfl T.n_isinstance bo_isinstance (pa_cons (pe_var rfl (.inl rfl)) (pa_cons (pe_glob rfl T.g_ScoreError rfl) pa_nil)))
      (pe_one (pe_callB hc rfl T.n_isinstance bo_isinstance (pa_cons (pe_var rfl (.inl rfl)) (pa_cons (pe_bltn rfl T.n_ValueError bo_ValueError rfl) pa_nil)))))))
theorem cr__law_listed (T : Txt K mg cl) {mr : List Z.D → Option Rt} (k : Nat) (hk : 0 ≤ k) (Cr : Cal P w K mg base "_law_listed" k ["thing"] (spP K cl 1 mr)) : Cal P w K mg base "_law_listed" (k + 1) ["thing"] (spP K cl 1 (runP N__law_listed (b__law_listed mr))) := by
  refine cal_P k (N := N__law_listed) T.f__law_listed sc__law_listed (by decide) (fun _ _ _ _ _ _ us hl => match us, hl with | [_], _ => rfl) (fun f cdv A outer s H E hr => ?_)
  have hu := hu_room hr
  exact (qss_cons (qs_if (pq_val (pr_blt call_isiZ isi_ok T.n_isinstance bo_isinstance (pl_cons (pr_var 0) (pl_cons (pr_ty T.n_tuple bo_tuple) pl_nil)))) (qss_one (qs_ret (pr_lc (own := [("part", 1)]) rfl sc__law_listed.nd (pi_seqZ (pr_var 0)) (blkOk_by (by first | (show blkC N__law_listed (defScope st__law_listed) _ _ = true; decide +kernel) | with_unfolding_all rfl)) (fun _ _ _ _ _ => (pg_nm 1 sc__law_listed.nd)) (fun _ _ _ _ _ => pts_nilZ) (fun _ _ _ _ _ => (pr_callC Cr (hr.mono (by first | exact Nat.le_refl _ | omega)) (pl_cons (pr_var 1) pl_nil) (consL_len nilL_len)))))) qss_nil)
    (qss_one (qs_ret (pr_var 0))))
theorem c__law_listed (T : Txt K mg cl) : ∀ n : Nat, Cal P w K mg base "_law_listed" (0 + n) ["thing"] (spP K cl 1 (m__law_listed n))
  | 0 => (cal_0P T.f__law_listed (fun _ _ _ _ _ _ us hl => match us, hl with | [_], _ => rfl)).mono (by decide)
  | n + 1 => cr__law_listed T (0 + n) (by omega) (c__law_listed T n)
theorem c__law_raised (T : Txt K mg cl) : Cal P w K mg base "_law_raised" 1 ["cell", "sign", "tone"] (spP K cl 3 m__law_raised) := by
  refine cal_P 0 (N := N__law_raised) T.f__law_raised sc__law_raised (by decide) (fun _ _ _ _ _ _ us hl => match us, hl with | [_, _, _], _ => rfl) (fun f cdv A outer s H E hr => ?_)
  have hu := hu_room hr
  exact (qss_cons (qs_set 3 sc__law_raised.nd (pr_tup pl_nil nilL_len))
    (qss_cons (qs_for (ws := [4]) PassesOwn.never rfl (pi_seqZ (pr_ix ix_seqZ ix_ok (pr_var 0) pr_int (fun _ _ => rfl))) (pg_nm 4 sc__law_raised.nd) (qss_cons (qs_if (pq_notN (pr_var 4)) (qss_one (qs_set 4 sc__law_raised.nd (pr_tup (pl_cons (pr_tup (pl_cons (pr_op op_addZ add_ok (pr_ix ix_seqZ ix_ok (pr_var 2) pr_int (fun _ _ => rfl)) (pr_op op_mulZ mul_ok (pr_var 1) (pr_ix ix_seqZ ix_ok (pr_ix ix_seqZ ix_ok (pr_var 4) pr_int (fun _ _ => rfl)) pr_int (fun _ _ => rfl)))) (pl_cons (pr_op op_addZ add_ok (pr_ix ix_seqZ ix_ok (pr_var 2) pr_int (fun _ _ => rfl)) (pr_op op_mulZ mul_ok (pr_var 1) (pr_ix ix_seqZ ix_ok (pr_ix ix_seqZ ix_ok (pr_var 4) pr_int (fun _ _ => rfl)) pr_int (fun _ _ => rfl)))) pl_nil)) (consL_len (consL_len nilL_len))) (pl_cons (pr_ix ix_seqZ ix_ok (pr_var 4) pr_int (fun _ _ => rfl)) pl_nil)) (consL_len (consL_len nilL_len))))) qss_nil)
    (qss_one (qs_set 3 sc__law_raised.nd (pr_op op_addZ add_ok (pr_var 3) (pr_tup (pl_cons (pr_var 4) pl_nil) (consL_len nilL_len)))))))
    (qss_one (qs_ret (pr_tup (pl_cons (pr_ix ix_seqZ ix_ok (pr_var 0) pr_int (fun _ _ => rfl)) (pl_cons (pr_ix ix_seqZ ix_ok (pr_var 0) pr_int (fun _ _ => rfl)) (pl_cons (pr_var 3) pl_nil))) (consL_len (consL_len (consL_len nilL_len))))))))
theorem c__law_seen (T : Txt K mg cl) : Cal P w K mg base "_law_seen" 2 ["cell", "view"] (spP K cl 2 m__law_seen) := by
  refine cal_P 1 (N := N__law_seen) T.f__law_seen sc__law_seen (by decide) (fun _ _ _ _ _ _ us hl => match us, hl with | [_, _], _ => rfl) (fun f cdv A outer s H E hr => ?_)
  have hu := hu_room hr
  exact (qss_cons (qs_set 2 sc__law_seen.nd (pr_ix ix_seqZ ix_ok (pr_callC (c__law_raised T) (hr.mono (by decide)) (pl_cons (pr_var 0) (pl_cons (pr_ix ix_seqZ ix_ok (pr_var 1) pr_int (fun _ _ => rfl)) (pl_cons (pr_tup (pl_cons pr_int (pl_cons pr_int pl_nil)) (consL_len (consL_len nilL_len))) pl_nil))) (consL_len (consL_len (consL_len nilL_len)))) pr_int (fun _ _ => rfl)))
    (qss_one (qs_ret (pr_tup (pl_cons (pr_ix ix_seqZ ix_ok (pr_var 0) pr_int (fun _ _ => rfl)) (pl_cons (pr_ix ix_seqZ ix_ok (pr_var 0) pr_int (fun _ _ => rfl)) (pl_cons (pr_tyc call_tuple_of tuple_ok T.n_tuple bo_tuple (pl_cons (pr_lc (own := [("voice", 3)]) rfl sc__law_seen.nd (pi_seqZ (pr_ix ix_seqZ ix_ok (pr_var 1) pr_int (fun _ _ => rfl))) (blkOk_by (by first | (show blkC N__law_seen (defScope st__law_seen) _ _ = true; decide +kernel) | with_unfolding_all rfl)) (fun _ _ _ _ _ => (pg_nm 3 sc__law_seen.nd)) (fun _ _ _ _ _ => pts_nilZ) (fun _ _ _ _ _ => (pr_ix ix_seqZ ix_ok (pr_var 2) (pr_var 3) (fun _ _ => rfl)))) pl_nil)) pl_nil))) (consL_len (consL_len (consL_len nilL_len)))))))
theorem c__law_crossed (T : Txt K mg cl) : Cal P w K mg base "_law_crossed" 3 ["cell", "bridge"] (spP K cl 2 m__law_crossed) := by
  refine cal_P 2 (N := N__law_crossed) T.f__law_crossed sc__law_crossed (by decide) (fun _ _ _ _ _ _ us hl => match us, hl with | [_, _], _ => rfl) (fun f cdv A outer s H E hr => ?_)
  have hu := hu_room hr
  exact (qss_cons (qs_set 2 sc__law_crossed.nd (pr_callC (c__law_raised T) (hr.mono (by decide)) (pl_cons (pr_callC (c__law_seen T) (hr.mono (by decide)) (pl_cons (pr_var 0) (pl_cons (pr_sl (pr_var 1) po_noZ (po_soZ pr_int)) pl_nil)) (consL_len (consL_len nilL_len))) (pl_cons pr_int (pl_cons (pr_ix ix_seqZ ix_ok (pr_var 1) pr_int (fun _ _ => rfl)) pl_nil))) (consL_len (consL_len (consL_len nilL_len)))))
    (qss_one (qs_ret (pr_tup (pl_cons (pr_callC (c__law_times T) (hr.mono (by decide)) (pl_cons (pr_ix ix_seqZ ix_ok (pr_var 0) pr_int (fun _ _ => rfl)) (pl_cons (pr_ix ix_seqZ ix_ok (pr_var 1) pr_int (fun _ _ => rfl)) pl_nil)) (consL_len (consL_len nilL_len))) (pl_cons (pr_ix ix_seqZ ix_ok (pr_var 2) pr_int (fun _ _ => rfl)) (pl_cons (pr_ix ix_seqZ ix_ok (pr_var 2) pr_int (fun _ _ => rfl)) pl_nil))) (consL_len (consL_len (consL_len nilL_len)))))))
theorem c_added (T : Txt K mg cl) : Cal P w K mg base "added" 1 ["one", "other"] (spP K cl 2 m_added) := by
  refine cal_P 0 (N := N_added) T.f_added sc_added (by decide) (fun _ _ _ _ _ _ us hl => match us, hl with | [_, _], _ => rfl) (fun f cdv A outer s H E hr => ?_)
  have hu := hu_room hr
  exact (qss_one (qs_ret (pr_tup (pl_cons (pr_op op_addZ add_ok (pr_ix ix_seqZ ix_ok (pr_var 0) pr_int (fun _ _ => rfl)) (pr_ix ix_seqZ ix_ok (pr_var 1) pr_int (fun _ _ => rfl))) (pl_cons (pr_op op_addZ add_ok (pr_ix ix_seqZ ix_ok (pr_var 0) pr_int (fun _ _ => rfl)) (pr_ix ix_seqZ ix_ok (pr_var 1) pr_int (fun _ _ => rfl))) pl_nil)) (consL_len (consL_len nilL_len)))))
theorem c_scaled (T : Txt K mg cl) : Cal P w K mg base "scaled" 1 ["interval", "sign"] (spP K cl 2 m_scaled) := by
  refine cal_P 0 (N := N_scaled) T.f_scaled sc_scaled (by decide) (fun _ _ _ _ _ _ us hl => match us, hl with | [_, _], _ => rfl) (fun f cdv A outer s H E hr => ?_)
  have hu := hu_room hr
  exact (qss_one (qs_ret (pr_tup (pl_cons (pr_op op_mulZ mul_ok (pr_var 1) (pr_ix ix_seqZ ix_ok (pr_var 0) pr_int (fun _ _ => rfl))) (pl_cons (pr_op op_mulZ mul_ok (pr_var 1) (pr_ix ix_seqZ ix_ok (pr_var 0) pr_int (fun _ _ => rfl))) pl_nil)) (consL_len (consL_len nilL_len)))))
theorem c_put_behind (T : Txt K mg cl) : Cal P w K mg base "put_behind" 3 ["one", "other"] (spP K cl 2 m_put_behind) := by
  refine cal_P 2 (N := N_put_behind) T.f_put_behind sc_put_behind (by decide) (fun _ _ _ _ _ _ us hl => match us, hl with | [_, _], _ => rfl) (fun f cdv A outer s H E hr => ?_)
  have hu := hu_room hr
  exact (qss_cons (qs_set 2 sc_put_behind.nd (pr_tyc call_tuple_of tuple_ok T.n_tuple bo_tuple (pl_cons (pr_lc (own := [("voice", 3)]) rfl sc_put_behind.nd (pi_seqZ (pr_ix ix_seqZ ix_ok (pr_var 1) pr_int (fun _ _ => rfl))) (blkOk_by (by first | (show blkC N_put_behind (defScope st_put_behind) _ _ = true; decide +kernel) | with_unfolding_all rfl)) (fun _ _ _ _ _ => (pg_nm 3 sc_put_behind.nd)) (fun _ _ _ _ _ => pts_nilZ) (fun _ _ _ _ _ => (pr_ix ix_seqZ ix_ok (pr_ix ix_seqZ ix_ok (pr_var 0) pr_int (fun _ _ => rfl)) (pr_var 3) (fun _ _ => rfl)))) pl_nil)))
    (qss_cons (qs_set 4 sc_put_behind.nd (pr_callC (c_added T) (hr.mono (by decide)) (pl_cons (pr_callC (c_scaled T) (hr.mono (by decide)) (pl_cons (pr_ix ix_seqZ ix_ok (pr_var 0) pr_int (fun _ _ => rfl)) (pl_cons (pr_ix ix_seqZ ix_ok (pr_var 1) pr_int (fun _ _ => rfl)) pl_nil)) (consL_len (consL_len nilL_len))) (pl_cons (pr_ix ix_seqZ ix_ok (pr_var 1) pr_int (fun _ _ => rfl)) pl_nil)) (consL_len (consL_len nilL_len))))
    (qss_one (qs_ret (pr_tup (pl_cons (pr_op op_mulZ mul_ok (pr_ix ix_seqZ ix_ok (pr_var 0) pr_int (fun _ _ => rfl)) (pr_ix ix_seqZ ix_ok (pr_var 1) pr_int (fun _ _ => rfl))) (pl_cons (pr_var 2) (pl_cons (pr_var 4) (pl_cons (pr_callC (c_product T) (hr.mono (by decide)) (pl_cons (pr_ix ix_seqZ ix_ok (pr_var 0) pr_int (fun _ _ => rfl)) (pl_cons (pr_ix ix_seqZ ix_ok (pr_var 1) pr_int (fun _ _ => rfl)) pl_nil)) (consL_len (consL_len nilL_len))) pl_nil)))) (consL_len (consL_len (consL_len (consL_len nilL_len)))))))))
theorem c_quotient (T : Txt K mg cl) : Cal P w K mg base "quotient" 2 ["one", "other"] (spP K cl 2 m_quotient) := by
  refine cal_P 1 (N := N_quotient) T.f_quotient sc_quotient (by decide) (fun _ _ _ _ _ _ us hl => match us, hl with | [_, _], _ => rfl) (fun f cdv A outer s H E hr => ?_)
  have hu := hu_room hr
  exact (qss_one (qs_ret (pr_callC (c_fraction T) (hr.mono (by decide)) (pl_cons (pr_op op_mulZ mul_ok (pr_ix ix_seqZ ix_ok (pr_var 0) pr_int (fun _ _ => rfl)) (pr_ix ix_seqZ ix_ok (pr_var 1) pr_int (fun _ _ => rfl))) (pl_cons (pr_op op_mulZ mul_ok (pr_ix ix_seqZ ix_ok (pr_var 0) pr_int (fun _ _ => rfl)) (pr_ix ix_seqZ ix_ok (pr_var 1) pr_int (fun _ _ => rfl))) pl_nil)) (consL_len (consL_len nilL_len)))))
theorem c_opposite_bridge (T : Txt K mg cl) : Cal P w K mg base "opposite_bridge" 3 ["bridge"] (spP K cl 1 m_opposite_bridge) := by
  refine cal_P 2 (N := N_opposite_bridge) T.f_opposite_bridge sc_opposite_bridge (by decide) (fun _ _ _ _ _ _ us hl => match us, hl with | [_], _ => rfl) (fun f cdv A outer s H E hr => ?_)
  have hu := hu_room hr
  exact (qss_cons (qs_asg (ws := [1, 2, 3, 4]) (pr_var 0) (pg_tupZ rfl (pgs_consZ (pg_nm 1 sc_opposite_bridge.nd) (pgs_consZ (pg_nm 2 sc_opposite_bridge.nd) (pgs_consZ (pg_nm 3 sc_opposite_bridge.nd) (pgs_consZ (pg_nm 4 sc_opposite_bridge.nd) pgs_nilZ))))))
    (qss_cons (qs_set 5 sc_opposite_bridge.nd (pr_tyc call_tuple_of tuple_ok T.n_tuple bo_tuple (pl_cons (pr_lc (own := [("voice", 6)]) rfl sc_opposite_bridge.nd (pi_rng1 T.n_range (pl_cons (pr_blt call_len_seq len_ok T.n_len bo_len (pl_cons (pr_var 2) pl_nil)) pl_nil)) (blkOk_by (by first | (show blkC N_opposite_bridge (defScope st_opposite_bridge) _ _ = true; decide +kernel) | with_unfolding_all rfl)) (fun _ _ _ _ _ => (pg_nm 6 sc_opposite_bridge.nd)) (fun _ _ _ _ _ => pts_nilZ) (fun _ _ _ _ _ => (pr_index (pe_bm PySem.F.plainAttrs_list PySem.F.slot_list_index PySem.F.type_list_index mt_index (pr_var 2) (pa_cons (pr_var 6) pa_nil)) (pe_ixN mt_ixI (pr_var 2) (pa_cons (pr_var 6) pa_nil))))) pl_nil)))
    (qss_one (qs_ret (pr_tup (pl_cons (pr_var 1) (pl_cons (pr_var 5) (pl_cons (pr_callC (c_scaled T) (hr.mono (by decide)) (pl_cons (pr_var 3) (pl_cons (pr_neg (pr_var 1)) pl_nil)) (consL_len (consL_len nilL_len))) (pl_cons (pr_callC (c_quotient T) (hr.mono (by decide)) (pl_cons (pr_tup (pl_cons pr_int (pl_cons pr_int pl_nil)) (consL_len (consL_len nilL_len))) (pl_cons (pr_var 4) pl_nil)) (consL_len (consL_len nilL_len))) pl_nil)))) (consL_len (consL_len (consL_len (consL_len nilL_len)))))))))
theorem c__law_back (T : Txt K mg cl) : Cal P w K mg base "_law_back" 1 ["order"] (spP K cl 1 m__law_back) := by
  refine cal_P 0 (N := N__law_back) T.f__law_back sc__law_back (by decide) (fun _ _ _ _ _ _ us hl => match us, hl with | [_], _ => rfl) (fun f cdv A outer s H E hr => ?_)
  have hu := hu_room hr
  exact (qss_one (qs_ret (pr_tyc call_tuple_of tuple_ok T.n_tuple bo_tuple (pl_cons (pr_lc (own := [("voice", 1)]) rfl sc__law_back.nd (pi_rng1 T.n_range (pl_cons (pr_blt call_len_seq len_ok T.n_len bo_len (pl_cons (pr_var 0) pl_nil)) pl_nil)) (blkOk_by (by first | (show blkC N__law_back (defScope st__law_back) _ _ = true; decide +kernel) | with_unfolding_all rfl)) (fun _ _ _ _ _ => (pg_nm 1 sc__law_back.nd)) (fun _ _ _ _ _ => pts_nilZ) (fun _ _ _ _ _ => (pr_index (pe_bm PySem.F.plainAttrs_list PySem.F.slot_list_index PySem.F.type_list_index mt_index (pr_var 0) (pa_cons (pr_var 1) pa_nil)) (pe_ixN mt_ixI (pr_var 0) (pa_cons (pr_var 1) pa_nil))))) pl_nil))))
theorem c__law_opposite (T : Txt K mg cl) : Cal P w K mg base "_law_opposite" 2 ["bridge"] (spP K cl 1 m__law_opposite) := by
  refine cal_P 1 (N := N__law_opposite) T.f__law_opposite sc__law_opposite (by decide) (fun _ _ _ _ _ _ us hl => match us, hl with | [_], _ => rfl) (fun f cdv A outer s H E hr => ?_)
  have hu := hu_room hr
  exact (qss_one (qs_ret (pr_tup (pl_cons (pr_ix ix_seqZ ix_ok (pr_var 0) pr_int (fun _ _ => rfl)) (pl_cons (pr_callC (c__law_back T) (hr.mono (by decide)) (pl_cons (pr_ix ix_seqZ ix_ok (pr_var 0) pr_int (fun _ _ => rfl)) pl_nil) (consL_len nilL_len)) (pl_cons (pr_tup (pl_cons (pr_op op_mulZ mul_ok (pr_neg (pr_ix ix_seqZ ix_ok (pr_var 0) pr_int (fun _ _ => rfl))) (pr_ix ix_seqZ ix_ok (pr_ix ix_seqZ ix_ok (pr_var 0) pr_int (fun _ _ => rfl)) pr_int (fun _ _ => rfl))) (pl_cons (pr_op op_mulZ mul_ok (pr_neg (pr_ix ix_seqZ ix_ok (pr_var 0) pr_int (fun _ _ => rfl))) (pr_ix ix_seqZ ix_ok (pr_ix ix_seqZ ix_ok (pr_var 0) pr_int (fun _ _ => rfl)) pr_int (fun _ _ => rfl))) pl_nil)) (consL_len (consL_len nilL_len))) (pl_cons (pr_tup (pl_cons (pr_ix ix_seqZ ix_ok (pr_ix ix_seqZ ix_ok (pr_var 0) pr_int (fun _ _ => rfl)) pr_int (fun _ _ => rfl)) (pl_cons (pr_ix ix_seqZ ix_ok (pr_ix ix_seqZ ix_ok (pr_var 0) pr_int (fun _ _ => rfl)) pr_int (fun _ _ => rfl)) pl_nil)) (consL_len (consL_len nilL_len))) pl_nil)))) (consL_len (consL_len (consL_len (consL_len nilL_len)))))))
theorem c__law_so (T : Txt K mg cl) : CalG P w K mg base "_law_so" 10 ["pool", "voices"] (spM K cl 2 m__law_so) := by
  refine cal_MG 9 (N := N__law_so) T.f__law_so sc__law_so (by decide) (fun _ _ _ _ _ _ us hl => match us, hl with | [_, _], _ => rfl) (fun f cdv A outer s H E hr gu => ?_)
  have hu := hu_room hr
  exact (qss_cons (qs_set 2 sc__law_so.nd (pr_callMC 0 (c__law_wide_bridge T) (hr.mono (by decide)) (pl_cons (pr_var 0) (pl_cons (pr_var 1) pl_nil)) (consL_len (consL_len nilL_len))))
    (qss_cons (qs_set 3 sc__law_so.nd (pr_callMC 0 (c__law_wide_bridge T) (hr.mono (by decide)) (pl_cons (pr_var 0) (pl_cons (pr_var 1) pl_nil)) (consL_len (consL_len nilL_len))))
    (qss_cons (qs_setLc 4 (own := [("bridge", 5)]) rfl sc__law_so.nd (pi_seqZ (pr_tup (pl_cons (pr_var 2) (pl_cons (pr_var 3) pl_nil)) (consL_len (consL_len nilL_len)))) (blkOk_by (by first | (show blkC N__law_so (defScope st__law_so) _ _ = true; decide +kernel) | with_unfolding_all rfl)) (fun _ _ _ _ _ => (pg_nm 5 sc__law_so.nd)) (fun _ _ _ _ _ => pts_nilZ) (fun _ _ _ _ _ => (pr_callMC 0 (c__law_pick T) (hr.mono (by decide)) (pl_cons (pr_var 0) (pl_cons (pr_lst (pl_cons (pr_var 5) (pl_cons (pr_callC (c__law_listed T 8) (hr.mono (by decide)) (pl_cons (pr_var 5) pl_nil) (consL_len nilL_len)) pl_nil)) (consL_len (consL_len nilL_len))) pl_nil)) (consL_len (consL_len nilL_len)))) (by rfl))
    (qss_cons (qs_set 6 sc__law_so.nd (pr_blt (call_reprZ gu hu) repr_ok T.n_repr bo_repr (pl_cons (pr_var 4) pl_nil)))
    (qss_cons (qs_if (pq_not (pq_val (pr_callC (c__law_same T 8) (hr.mono (by decide)) (pl_cons (pr_lc (own := [("bridge", 5)]) rfl sc__law_so.nd (pi_seqZ (pr_var 4)) (blkOk_by (by first | (show blkC N__law_so (defScope st__law_so) _ _ = true; decide +kernel) | with_unfolding_all rfl)) (fun _ _ _ _ _ => (pg_nm 5 sc__law_so.nd)) (fun _ _ _ _ _ => pts_nilZ) (fun _ _ _ _ _ => (pr_callC (c_check_bridge T) (hr.mono (by decide)) (pl_cons (pr_var 5) (pl_cons (pr_var 1) pl_nil)) (consL_len (consL_len nilL_len))))) (pl_cons (pr_lst (pl_cons (pr_var 2) (pl_cons (pr_var 3) pl_nil)) (consL_len (consL_len nilL_len))) pl_nil)) (consL_len (consL_len nilL_len))))) (qss_one (qs_ret pr_bl)) qss_nil)
    (qss_cons (qs_set 7 sc__law_so.nd (pr_callC (c__law_behind T) (hr.mono (by decide)) (pl_cons (pr_var 2) (pl_cons (pr_var 3) pl_nil)) (consL_len (consL_len nilL_len))))
    (qss_cons (qs_if (pq_or (pq_not (pq_val (pr_callC (c__law_same T 8) (hr.mono (by decide)) (pl_cons (pr_callC (c_put_behind T) (hr.mono (by decide)) (pl_cons (pr_ix ix_seqZ ix_ok (pr_var 4) pr_int (fun _ _ => rfl)) (pl_cons (pr_ix ix_seqZ ix_ok (pr_var 4) pr_int (fun _ _ => rfl)) pl_nil)) (consL_len (consL_len nilL_len))) (pl_cons (pr_var 7) pl_nil)) (consL_len (consL_len nilL_len))))) (pq_or1 (pq_not (pq_val (pr_callC (c__law_same T 8) (hr.mono (by decide)) (pl_cons (pr_callC (c_opposite_bridge T) (hr.mono (by decide)) (pl_cons (pr_ix ix_seqZ ix_ok (pr_var 4) pr_int (fun _ _ => rfl)) pl_nil) (consL_len nilL_len)) (pl_cons (pr_callC (c__law_opposite T) (hr.mono (by decide)) (pl_cons (pr_var 2) pl_nil) (consL_len nilL_len)) pl_nil)) (consL_len (consL_len nilL_len))))))).pt (qss_one (qs_ret pr_bl)) qss_nil)
    (qss_cons (qs_set 8 sc__law_so.nd (pr_callMC 0 (c__law_bar T) (hr.mono (by decide)) (pl_cons (pr_var 0) (pl_cons (pr_var 1) (pl_cons pr_int pl_nil))) (consL_len (consL_len (consL_len nilL_len)))))
    (qss_cons (qs_set 9 sc__law_so.nd (pr_callMC 0 (c__law_pick T) (hr.mono (by decide)) (pl_cons (pr_var 0) (pl_cons (pr_lst (pl_cons (pr_var 8) (pl_cons (pr_callC (c__law_listed T 8) (hr.mono (by decide)) (pl_cons (pr_var 8) pl_nil) (consL_len nilL_len)) pl_nil)) (consL_len (consL_len nilL_len))) pl_nil)) (consL_len (consL_len nilL_len))))
    (qss_cons (qs_set 10 sc__law_so.nd (pr_tyc call_tuple_of tuple_ok T.n_tuple bo_tuple (pl_cons (pr_lc (own := [("cell", 11)]) rfl sc__law_so.nd (pi_seqZ (pr_var 8)) (blkOk_by (by first | (show blkC N__law_so (defScope st__law_so) _ _ = true; decide +kernel) | with_unfolding_all rfl)) (fun _ _ _ _ _ => (pg_nm 11 sc__law_so.nd)) (fun _ _ _ _ _ => pts_nilZ) (fun _ _ _ _ _ => (pr_callC (c__law_crossed T) (hr.mono (by decide)) (pl_cons (pr_var 11) (pl_cons (pr_var 2) pl_nil)) (consL_len (consL_len nilL_len))))) pl_nil)))
    (qss_cons (qs_set 12 sc__law_so.nd (pr_callC (c_brought T) (hr.mono (by decide)) (pl_cons (pr_var 9) (pl_cons (pr_ix ix_seqZ ix_ok (pr_var 4) pr_int (fun _ _ => rfl)) pl_nil)) (consL_len (consL_len nilL_len))))
    (qss_cons (qs_if (pq_or (pq_not (pq_val (pr_callC (c__law_same T 8) (hr.mono (by decide)) (pl_cons (pr_var 12) (pl_cons (pr_var 10) pl_nil)) (consL_len (consL_len nilL_len))))) (pq_or1 (pq_not (pq_val (pr_callC (c__law_same T 8) (hr.mono (by decide)) (pl_cons (pr_callC (c_brought T) (hr.mono (by decide)) (pl_cons (pr_var 12) (pl_cons (pr_ix ix_seqZ ix_ok (pr_var 4) pr_int (fun _ _ => rfl)) pl_nil)) (consL_len (consL_len nilL_len))) (pl_cons (pr_tyc call_tuple_of tuple_ok T.n_tuple bo_tuple (pl_cons (pr_lc (own := [("cell", 11)]) rfl sc__law_so.nd (pi_seqZ (pr_var 8)) (blkOk_by (by first | (show blkC N__law_so (defScope st__law_so) _ _ = true; decide +kernel) | with_unfolding_all rfl)) (fun _ _ _ _ _ => (pg_nm 11 sc__law_so.nd)) (fun _ _ _ _ _ => pts_nilZ) (fun _ _ _ _ _ => (pr_callC (c__law_crossed T) (hr.mono (by decide)) (pl_cons (pr_var 11) (pl_cons (pr_var 7) pl_nil)) (consL_len (consL_len nilL_len))))) pl_nil)) pl_nil)) (consL_len (consL_len nilL_len))))))).pt (qss_one (qs_ret pr_bl)) qss_nil)
    (qss_cons (qs_if (pq_or (pq_not (pq_val (pr_callC (c__law_same T 8) (hr.mono (by decide)) (pl_cons (pr_callC (c_brought T) (hr.mono (by decide)) (pl_cons (pr_var 10) (pl_cons (pr_callC (c_opposite_bridge T) (hr.mono (by decide)) (pl_cons (pr_var 2) pl_nil) (consL_len nilL_len)) pl_nil)) (consL_len (consL_len nilL_len))) (pl_cons (pr_var 8) pl_nil)) (consL_len (consL_len nilL_len))))) (pq_or1 (pq_not (pq_val (pr_callC (c__law_same T 8) (hr.mono (by decide)) (pl_cons (pr_tyc call_tuple_of tuple_ok T.n_tuple bo_tuple (pl_cons (pr_lc (own := [("cell", 11)]) rfl sc__law_so.nd (pi_seqZ (pr_var 10)) (blkOk_by (by first | (show blkC N__law_so (defScope st__law_so) _ _ = true; decide +kernel) | with_unfolding_all rfl)) (fun _ _ _ _ _ => (pg_nm 11 sc__law_so.nd)) (fun _ _ _ _ _ => pts_nilZ) (fun _ _ _ _ _ => (pr_callC (c__law_crossed T) (hr.mono (by decide)) (pl_cons (pr_var 11) (pl_cons (pr_callC (c__law_opposite T) (hr.mono (by decide)) (pl_cons (pr_var 2) pl_nil) (consL_len nilL_len)) pl_nil)) (consL_len (consL_len nilL_len))))) pl_nil)) (pl_cons (pr_var 8) pl_nil)) (consL_len (consL_len nilL_len))))))).pt (qss_one (qs_ret pr_bl)) qss_nil)
    (qss_cons (qs_set 13 sc__law_so.nd (pr_callMC 0 (c__law_wrong T) (hr.mono (by decide)) (pl_cons (pr_var 0) (pl_cons (pr_var 2) (pl_cons (pr_var 1) pl_nil))) (consL_len (consL_len (consL_len nilL_len)))))
    (qss_cons (qs_for (ws := [14]) PassesOwn.never rfl (pi_rng1 T.n_range (pl_cons pr_int pl_nil)) (pg_nm 14 sc__law_so.nd) (qss_cons (qs_set 15 sc__law_so.nd (pr_callMC 0 (c__law_pick T) (hr.mono (by decide)) (pl_cons (pr_var 0) (pl_cons (pr_var 13) pl_nil)) (consL_len (consL_len nilL_len))))
    (qss_one (qs_if (pq_not (pq_val (pr_callC (c__law_refused T) (hr.mono (by decide)) (pl_cons (pr_var 15) (pl_cons (pr_var 1) pl_nil)) (consL_len (consL_len nilL_len))))) (qss_one (qs_ret pr_bl)) qss_nil))))
    (qss_cons (qs_set 16 sc__law_so.nd (pr_op op_addZ add_ok pr_int (pr_op op_mod mod_ok (pr_tyc call_int1 int_ok T.n_int bo_int (pl_cons (pr_var 1) pl_nil)) pr_int)))
    (qss_one (qs_ret (pr_and (pr_cmp (op_eqZ hu) eq_ok (pr_blt (call_reprZ gu hu) repr_ok T.n_repr bo_repr (pl_cons (pr_var 4) pl_nil)) (pr_var 6) (nomark _)) (pr_one (pr_callC (c__law_refused T) (hr.mono (by decide)) (pl_cons (pr_ix ix_seqZ ix_ok (pr_var 4) pr_int (fun _ _ => rfl)) (pl_cons (pr_var 16) pl_nil)) (consL_len (consL_len nilL_len)))))))))))))))))))))))
theorem k_law (T : Txt K mg cl) {f : Addr} {fd : FuncData} (Fn : Fun K "law" "law" st_law f fd) : FnG P w K mg base 11 f fd ["script"] (spP K cl 1 m_law) := by
  refine okPG b_law Fn sc_law (by decide) (fun cdv A outer s H E hr gu => ?_)
  have hu := hu_room hr
  exact (qss_cons (qs_set 1 sc_law.nd (pr_callC (c__law_pool T) (hr.mono (by decide)) (pl_cons (pr_var 0) pl_nil) (consL_len nilL_len)))
    (qss_one (qs_ret (pr_blt (cr_all rfl) all_ok T.n_all bo_all (pl_cons (pr_lc (own := [("turn", 2)]) rfl sc_law.nd (pi_rng1 T.n_range (pl_cons pr_int pl_nil)) (blkOk_by (by first | (show blkC N_law (defScope st_law) _ _ = true; decide +kernel) | with_unfolding_all rfl)) (fun _ _ _ _ _ => (pg_nm 2 sc_law.nd)) (fun _ _ _ _ _ => pts_nilZ) (fun _ _ _ _ _ => (pr_callMG 1 (c__law_so T) (hr.mono (by decide)) gu (pl_cons (pr_var 1) (pl_cons (pr_op op_addZ add_ok pr_int (pr_callMC 1 (c__law_take T 2) (hr.mono (by decide)) (pl_cons (pr_var 1) (pl_cons pr_int pl_nil)) (consL_len (consL_len nilL_len)))) pl_nil)) (consL_len (consL_len nilL_len))))) pl_nil)))))
end
end K86



set_option Elab.async false
set_option linter.all false
set_option maxRecDepth 100000
set_option maxHeartbeats 1000000
namespace K86
open PySem PySem.Spec PyProof.Rows L2 Z
/-- the pool's state -/
def poolD (cs : List Int) (i v r : Int) : OC := .lst [.lst (cs.map Z.D.int), .int i, .int v, .int r]
def PoolOk (o : OC) : Prop := ∃ cs i v r, o = poolD cs i v r ∧ 0 ≤ i ∧ 0 ≤ v ∧ 0 ≤ r ∧ r < 2147483647 ∧ (∀ c ∈ cs, 0 ≤ c) ∧ cs.length ≤ 63
theorem okMul_l {i j : Int} (h : i.natAbs < 2 ^ 63) : okMul i j = true := by unfold okMul; simp [h]
theorem okMul_r {i j : Int} (h : j.natAbs < 2 ^ 63) : okMul i j = true := by unfold okMul; simp [h]
theorem Big_le : 2 ^ 63 ≤ Big := by unfold Big; exact Nat.pow_le_pow_right (by decide) (by decide)
theorem okDiv_of {j : Int} (h : 0 < j) (h2 : j.natAbs < 2 ^ 63) : okDiv j = true := by
  unfold okDiv
  have := Big_le
  simp [h]; omega
theorem take0 {cs : List Int} {i v r m : Int} (mr : OC → List Z.D → Option (Rt × OC)) (hv : 0 < v) (hm : 0 < m) (hm2 : m.natAbs < 2 ^ 63) :
    runM N__law_take (b__law_take mr) (poolD cs i v r) [.int m] = some (.dat (.int (v % m)), poolD cs i (v / m) r) := by
  have := okDiv_of hm hm2
  simp [poolD, b__law_take, hv, hm, this]
theorem hp18 : powG (.int 10) (.int 18) = some (.dat (.int 1000000000000000000)) := by unfold powG; simp
def mixA (r c i : Int) : Int := (r * 48271 + c * 69621 + (i + 1) * 613) % 2147483647
theorem take1a {cs : List Int} {i r m k : Int} {o' : OC} (mr : OC → List Z.D → Option (Rt × OC)) (c : Int) (hi : 0 ≤ i) (hm : 0 < m) (hlt : i < (cs.length : Int)) (hc : cs[i.toNat]? = some c) (hb : 1000000000000000000 ≤ c)
    (hmr : mr (poolD cs (i + 1) (c / 2) r) [.int m] = some (.dat (.int k), o')) :
    runM N__law_take (b__law_take mr) (poolD cs i 0 r) [.int m] = some (.dat (.int k), o') := by
  have hd2 : okDiv 2 = true := okDiv_of (by decide) (by decide)
  have ha : atI (cs.map Z.D.int) i = some (.int c) := by
    unfold atI ixN
    rw [if_pos hi, if_pos (by rw [List.length_map]; exact hlt)]
    show (cs.map Z.D.int)[i.toNat]? = _
    rw [List.getElem?_map, hc]; rfl
  unfold poolD at hmr ⊢
  simp [b__law_take, hm, hlt, ha, hp18, hb, hd2, hmr]
theorem take1b {cs : List Int} {i r m : Int} (mr : OC → List Z.D → Option (Rt × OC)) (c : Int) (hi : 0 ≤ i) (hm : 0 < m) (hc : (i < (cs.length : Int) ∧ cs[i.toNat]? = some c) ∨ (¬ i < (cs.length : Int) ∧ c = 0)) (hb : ¬ 1000000000000000000 ≤ c) (hr : 0 ≤ r) (hr2 : r < 2147483647) :
    runM N__law_take (b__law_take mr) (poolD cs i 0 r) [.int m] =
        some (.dat (.int ((mixA r c i * mixA r c i + mixA r c i * 7919 + 104729) % 1000000007 / 3 % m)), poolD cs (i + 1) 0 (mixA r c i)) := by
  have h1 : okMul r 48271 = true := okMul_r (by decide)
  have h2 : okMul c 69621 = true := okMul_r (by decide)
  have h3 : okMul (i + 1) 613 = true := okMul_r (by decide)
  have hd3 : okDiv 3 = true := okDiv_of (by decide) (by decide)
  generalize hq : mixA r c i = q
  unfold mixA at hq
  have hq0 : 0 ≤ q ∧ q < 2147483647 := by rw [← hq]; omega
  have h4 : okMul q q = true := okMul_r (by omega)
  have h5 : okMul q 7919 = true := okMul_r (by decide)
  rcases hc with ⟨hlt, hc⟩ | ⟨hlt, rfl⟩
  · have ha : atI (cs.map Z.D.int) i = some (.int c) := by
      unfold atI ixN
      rw [if_pos hi, if_pos (by rw [List.length_map]; exact hlt)]
      show (cs.map Z.D.int)[i.toNat]? = _
      rw [List.getElem?_map, hc]; rfl
    simp [poolD, b__law_take, hm, hlt, ha, hp18, hb, hd3, h1, h2, h3, hq, h4, h5]
  · simp only [Int.zero_mul, Int.add_zero] at hq h2
    simp [poolD, b__law_take, hm, hlt, hp18, hb, hd3, h1, h2, h3, hq, h4, h5]
theorem take_ok {o : OC} {m : Int} (P : PoolOk o) (hm : 0 < m) (hm2 : m.natAbs < 2 ^ 63) : ∃ k o', m__law_take 2 o [.int m] = some (.dat (.int k), o') ∧ 0 ≤ k ∧ k < m ∧ PoolOk o' := by
  obtain ⟨cs, i, v, r, rfl, hi, hv, hr, hr2, hcs, hl⟩ := P
  by_cases hv0 : 0 < v
  · exact ⟨_, _, take0 _ hv0 hm hm2, Int.emod_nonneg _ (by omega), Int.emod_lt_of_pos _ hm, cs, i, v / m, r, rfl, hi, Int.ediv_nonneg hv (by omega), hr, hr2, hcs, hl⟩
  · have hv1 : v = 0 := by omega
    subst hv1
    have mix : ∀ c : Int, 0 ≤ mixA r c i ∧ mixA r c i < 2147483647 := fun c => by unfold mixA; omega
    by_cases hlt : i < (cs.length : Int)
    · obtain ⟨c, hc⟩ : ∃ c, cs[i.toNat]? = some c := ⟨_, List.getElem?_eq_getElem (by omega)⟩
      have hc0 := hcs c (List.mem_of_getElem? hc)
      by_cases hb : 1000000000000000000 ≤ c
      · refine ⟨_, _, take1a _ c hi hm hlt hc hb (take0 (i := i + 1) _ (by omega) hm hm2), Int.emod_nonneg _ (by omega), Int.emod_lt_of_pos _ hm, cs, i + 1, c / 2 / m, r, rfl, by omega, Int.ediv_nonneg (by omega) (by omega), hr, hr2, hcs, hl⟩
      · exact ⟨_, _, take1b _ c hi hm (.inl ⟨hlt, hc⟩) hb hr hr2, Int.emod_nonneg _ (by omega), Int.emod_lt_of_pos _ hm, cs, i + 1, 0, _, rfl, by omega, by omega, (mix c).1, (mix c).2, hcs, hl⟩
    · exact ⟨_, _, take1b _ 0 hi hm (.inr ⟨hlt, rfl⟩) (by decide) hr hr2, Int.emod_nonneg _ (by omega), Int.emod_lt_of_pos _ hm, cs, i + 1, 0, _, rfl, by omega, by omega, (mix 0).1, (mix 0).2, hcs, hl⟩
theorem pick_ok {o : OC} {ds : List Z.D} (P : PoolOk o) (h : ds ≠ []) (hl : ds.length < 2 ^ 62) : ∃ d o', m__law_pick o [.lst ds] = some (.dat d, o') ∧ d ∈ ds ∧ PoolOk o' := by
  have hpos : 0 < ds.length := List.length_pos_iff.mpr h
  obtain ⟨k, o', h1, h2, h3, h4⟩ := take_ok (m := (ds.length : Int)) P (by omega) (by omega)
  have hk : k.toNat < ds.length := by omega
  have ha : atI ds k = some ds[k.toNat] := by
    unfold atI ixN
    rw [if_pos h2, if_pos h3]
    show ds[k.toNat]? = _
    exact List.getElem?_eq_getElem hk
  refine ⟨ds[k.toNat], o', ?_, List.getElem_mem _, h4⟩
  simp [m__law_pick, b__law_pick, h1, ha]
theorem pool_ok {ns : List Int} (hl : ns.length ≤ 63) : ∃ o, m__law_pool [.scr ns] = some (.own o) ∧ PoolOk o := by
  let r : Z.D → Z.D := fun d => match d with | .int i => .int (if 0 ≤ i then 2 * i else -2 * i - 1) | d => d
  have key := lcS_map (fi := seqI (vS 0)) (i := 1) (f := e__law_pool_1) (env := [some (.dat (.scr ns)), none]) (env1 := [some (.dat (.scr ns)), none]) (ds := ns.map Z.D.int) r (by simp) (by simp; omega) (.inl rfl) (by
    intro d hd
    obtain ⟨i, hi, rfl⟩ := List.mem_map.mp hd
    have h2 : ∀ j : Int, okMul 2 j = true := fun j => okMul_l (by decide)
    have h3 : ∀ j : Int, okMul (-2) j = true := fun j => okMul_l (by decide)
    by_cases h : 0 ≤ i
    · exact ⟨.dat (.int (2 * i)), by simp [e__law_pool_1, h, h2], by simp [r, h]⟩
    · exact ⟨.dat (.int (-2 * i - 1)), by simp [e__law_pool_1, h, h3], by simp [r, h]⟩)
  have e : (ns.map Z.D.int).map r = (ns.map fun i => if 0 ≤ i then 2 * i else -2 * i - 1).map Z.D.int := by
    rw [List.map_map, List.map_map]; rfl
  refine ⟨poolD (ns.map fun i => if 0 ≤ i then 2 * i else -2 * i - 1) 0 0 17, ?_, _, 0, 0, 17, rfl, by decide, by decide, by decide, by decide, ?_, by simp; exact hl⟩
  · unfold m__law_pool
    rw [s_runP]
    show Option.bind (b__law_pool [some (.dat (.scr ns)), none]) fin = _
    unfold b__law_pool
    rw [s_ret, s_lstS, s_consL, key, e]
    simp [poolD]
  · intro c hc
    obtain ⟨i, _, rfl⟩ := List.mem_map.mp hc
    split <;> omega
/-! ### fractions -/
theorem okMul_B {i j : Int} (h : i.natAbs < Big) (h2 : j.natAbs < Big) : okMul i j = true := by unfold okMul; simp [h, h2]
theorem okDiv_B {j : Int} (h : 0 < j) (h2 : j.natAbs < Big) : okDiv j = true := by unfold okDiv; simp [h, h2]
def eucN : Nat → Nat → Nat → Nat × Nat
  | 0, a, b => (a, b)
  | n + 1, a, b => if b = 0 then (a, b) else eucN n b (a % b)
theorem eucN_gcd : ∀ (k n a b : Nat), b < 2 ^ k → 2 * k + 1 ≤ n → eucN n a b = (Nat.gcd a b, 0)
  | 0, n, a, b, hb, hn => by
    have : b = 0 := by simp at hb; exact hb
    subst this
    cases n with
    | zero => omega
    | succ n => simp [eucN]
  | k + 1, n, a, b, hb, hn => by
    obtain ⟨m, rfl⟩ : ∃ m, n = m + 2 := ⟨n - 2, by omega⟩
    by_cases h0 : b = 0
    · subst h0; simp [eucN]
    · unfold eucN
      rw [if_neg h0]
      by_cases h1 : a % b = 0
      · unfold eucN
        rw [if_pos h1, h1]
        have : Nat.gcd a b = b := Nat.gcd_eq_right (Nat.dvd_of_mod_eq_zero h1)
        rw [this]
      · unfold eucN
        rw [if_neg h1]
        have hr : a % b < b := Nat.mod_lt _ (by omega)
        have h2 : b % (a % b) < 2 ^ k := by
          have q1 : b % (a % b) < a % b := Nat.mod_lt _ (by omega)
          have q2 : b % (a % b) ≤ b - a % b := by
            have := Nat.mod_eq_sub_mod (Nat.le_of_lt hr)
            rw [this]; exact Nat.mod_le _ _
          have : 2 ^ (k + 1) = 2 ^ k * 2 := Nat.pow_succ 2 k
          omega
        rw [eucN_gcd k m (a % b) (b % (a % b)) h2 (by omega)]
        congr 1
        rw [Nat.gcd_comm (a % b), ← Nat.gcd_rec, Nat.gcd_comm (a % b), Nat.gcd_comm a b, Nat.gcd_rec b a, Nat.gcd_comm]
theorem eucN_gcd2 (k n a b : Nat) (ha : a < 2 ^ k) (hn : 2 * k + 2 ≤ n) : eucN n a b = (Nat.gcd a b, 0) := by
  obtain ⟨m, rfl⟩ : ∃ m, n = m + 1 := ⟨n - 1, by omega⟩
  unfold eucN
  by_cases h0 : b = 0
  · subst h0; simp
  · rw [if_neg h0, eucN_gcd k m b (a % b) (Nat.lt_of_le_of_lt (Nat.mod_le _ _) ha) (by omega)]
    congr 1
    rw [Nat.gcd_comm b, ← Nat.gcd_rec, Nat.gcd_comm]
theorem low_loop (n d : Int) : ∀ (ds : List Z.D) (a b : Nat) (t : Option Sl), a < Big → b < Big → ∃ t', forS (nmB 4) l__law_lowest_1 ds [some (.dat (.int n)), some (.dat (.int d)), some (.dat (.int (a : Int))), some (.dat (.int (b : Int))), t] =
    some (.nx [some (.dat (.int n)), some (.dat (.int d)), some (.dat (.int ((eucN ds.length a b).1 : Int))), some (.dat (.int ((eucN ds.length a b).2 : Int))), t'])
  | [], a, b, t, _, _ => ⟨t, rfl⟩
  | x :: ds, a, b, t, ha, hb => by
    unfold forS
    by_cases h0 : b = 0
    · subst h0
      refine ⟨some (.dat x), ?_⟩
      simp [l__law_lowest_1, eucN]
    · have hdiv : okDiv (b : Int) = true := okDiv_B (by omega) (by simpa using hb)
      have hmul : okMul (b : Int) ((a : Int) / (b : Int)) = true := okMul_B (by simpa using hb) (by
        rw [← Int.natCast_ediv]; simp; exact Nat.lt_of_le_of_lt (Nat.div_le_self _ _) ha)
      have hr : (a : Int) - (b : Int) * ((a : Int) / (b : Int)) = (a : Int) % (b : Int) := by rw [Int.emod_def]
      have hc : ((a % b : Nat) : Int) = (a : Int) % (b : Int) := Int.natCast_emod a b
      obtain ⟨t', ih⟩ := low_loop n d ds b (a % b) (some (.dat x)) hb (Nat.lt_trans (Nat.mod_lt _ (by omega)) hb)
      refine ⟨t', ?_⟩
      have e : eucN (x :: ds).length a b = eucN ds.length b (a % b) := by rw [List.length_cons]; show (if b = 0 then _ else _) = _; rw [if_neg h0]
      rw [e]
      have step : l__law_lowest_1 [some (.dat (.int n)), some (.dat (.int d)), some (.dat (.int (a : Int))), some (.dat (.int (b : Int))), some (.dat x)] = some (.nx [some (.dat (.int n)), some (.dat (.int d)), some (.dat (.int (b : Int))), some (.dat (.int ((a % b : Nat) : Int))), some (.dat x)]) := by
        simp [l__law_lowest_1, h0, hdiv, hmul, hr, hc]
      show Option.bind (l__law_lowest_1 [some (.dat (.int n)), some (.dat (.int d)), some (.dat (.int (a : Int))), some (.dat (.int (b : Int))), some (.dat x)]) _ = _
      rw [step, Option.bind_some]
      exact ih
theorem low_ok {n d : Int} (hd : 0 < d) (hn : n.natAbs < Big) (hd2 : d.natAbs < Big) (hs : d.natAbs < 2 ^ 900 ∨ n.natAbs < 2 ^ 900) :
    m__law_lowest [.int n, .int d] = some (.dat (.tup [.int (n / ((Nat.gcd n.natAbs d.natAbs : Nat) : Int)), .int (d / ((Nat.gcd n.natAbs d.natAbs : Nat) : Int))])) := by
  obtain ⟨t', ih⟩ := low_loop n d (rngD 0 2000) n.natAbs d.natAbs none hn hd2
  have e : eucN (rngD 0 2000).length n.natAbs d.natAbs = (Nat.gcd n.natAbs d.natAbs, 0) := by
    rw [rngD_length]
    rcases hs with h | h
    · exact eucN_gcd 900 2000 _ _ h (by decide)
    · exact eucN_gcd2 900 2000 _ _ h (by decide)
  rw [e] at ih
  have hg : 0 < Nat.gcd n.natAbs d.natAbs := Nat.gcd_pos_of_pos_right _ (by omega)
  have hg2 : Nat.gcd n.natAbs d.natAbs ≤ d.natAbs := Nat.le_of_dvd (by omega) (Nat.gcd_dvd_right _ _)
  have hdiv : okDiv ((Nat.gcd n.natAbs d.natAbs : Nat) : Int) = true := okDiv_B (by omega) (by simp; omega)
  have ea : (if n < 0 then -n else n) = (n.natAbs : Int) := by split <;> omega
  have eb : d = (d.natAbs : Int) := by omega
  generalize Nat.gcd n.natAbs d.natAbs = g at *
  have ih' : forS (nmB 4) l__law_lowest_1 (rngD 0 2000) [some (.dat (.int n)), some (.dat (.int d)), some (.dat (.int (n.natAbs : Int))), some (.dat (.int d)), none] = some (.nx [some (.dat (.int n)), some (.dat (.int d)), some (.dat (.int (g : Int))), some (.dat (.int 0)), t']) := by
    rw [show some (Sl.dat (.int d)) = some (Sl.dat (.int (d.natAbs : Int))) by rw [← eb]]
    rw [show some (Sl.dat (.int d)) = some (Sl.dat (.int (d.natAbs : Int))) by rw [← eb]] at ih
    exact ih
  simp [m__law_lowest, b__law_lowest, ea, ih', hdiv]
end K86

set_option Elab.async false
set_option linter.all false
set_option maxRecDepth 100000
set_option maxHeartbeats 1000000
namespace Z
open PySem PySem.Spec PyProof.Rows L2
section
variable {env : En} {fo fe f : Fe} {g : Fa} {ns ms : List Int} {ds : List Z.D} {i : Int} {d e : Z.D} {k : Nat} {N : List Str} {t : Ft}
@[simp] theorem s_lenI : lenG [.itup ns] = some (.dat (.int ns.length)) := rfl
@[simp] theorem s_ixI : ixG (.itup ns) (.int i) = (atI (ns.map D.int) i).bind fun d => some (.dat d) := rfl
@[simp] theorem s_itI : itemsOf (.itup ns) = some (ns.map Z.D.int) := rfl
@[simp] theorem s_tupI : tupleG [.itup ns] = some (.dat (.itup ns)) := rfl
@[simp] theorem s_lstI : listG [.itup ns] = some (.own (.lst (ns.map D.int))) := rfl
@[simp] theorem s_isI : isN (.itup ns) = false := rfl
@[simp] theorem s_cutI {lo hi : Option Int} : cutG (.itup ns) lo hi = if HT.sIx ns.length 0 lo = 0 ∧ HT.sIx ns.length ns.length hi = ns.length then some (.dat (.itup ns)) else some (.dat (.tup (cutD (ns.map D.int) lo hi))) := rfl
@[simp] theorem s_addI : addG (.itup ns) (.tup ds) = if ns.length + ds.length ≤ 16777216 ∧ ns ≠ [] ∧ ds ≠ [] then some (.dat (.tup (ns.map D.int ++ ds))) else none := rfl
@[simp] theorem s_addN : addNG (.itup ns) (.itup ms) = if ns.length + ms.length ≤ 16777216 then some (.dat (.itup (ns ++ ms))) else none := rfl
@[simp] theorem s_tupNS : tupNS g env = (g env).bind fun p => (rdL p.2 p.1).bind fun ds => (intsOf ds).bind fun ns => some (.dat (.itup ns), p.2) := rfl
@[simp] theorem s_ixnS : ixnS fo fe env = (fo env).bind fun p => (rd p.2 (fz p.1)).bind fun d0 => (fe p.2).bind fun q => (rd q.2 (fz p.1)).bind fun d1 => (rd q.2 (fz q.1)).bind fun d2 => if sameK d0 d1 = true then (idxG d1 d2).bind fun r => some (r, q.2) else none := rfl
@[simp] theorem s_idxI : idxG (.itup ns) (.int i) = (fstI i ns).bind fun j => some (.dat (.int (j : Nat))) := rfl
@[simp] theorem s_idxL : idxG (.lst ds) (.int i) = (intsOf ds).bind fun ns => (fstI i ns).bind fun j => some (.dat (.int (j : Nat))) := rfl
@[simp] theorem s_skL {es : List Z.D} : sameK (.lst ds) (.lst es) = true := rfl
@[simp] theorem s_skI : sameK (.itup ns) (.itup ms) = true := rfl
@[simp] theorem s_sortL : sortG [.lst ds] = (intsOf ds).bind fun ns => some (.own (.lst ((sortI ns).map Z.D.int))) := rfl
@[simp] theorem s_sortT : sortG [.tup ds] = (intsOf ds).bind fun ns => some (.own (.lst ((sortI ns).map Z.D.int))) := rfl
@[simp] theorem s_sortI : sortG [.itup ns] = some (.own (.lst ((sortI ns).map Z.D.int))) := rfl
@[simp] theorem s_intsM : intsOf (ns.map Z.D.int) = some ns := intsOf_map ns
@[simp] theorem s_popS : popS k f env = (lstOf env k).bind fun _ => (f env).bind fun p => (rd p.2 (fz p.1)).bind fun dk => (intOf dk).bind fun n => (lstOf p.2 k).bind fun ds => (ixN ds.length n).bind fun j => ds[j]?.bind fun d => if n.natAbs < 2 ^ 62 then some (.dat d, setOC p.2 k (.lst (ds.eraseIdx j))) else none := rfl
@[simp] theorem s_eqs {x y : Str} : eqG (.str x) (.str y) = some (x == y) := rfl
end
end Z
namespace K86
open PySem PySem.Spec PyProof.Rows L2 Z
/-! ### fractions -/
abbrev Fr := Int × Int
def wrap (b : Bool) (ds : List Z.D) : Z.D := if b = true then .lst ds else .tup ds
@[simp] theorem wrap_f {ds : List Z.D} : wrap false ds = .tup ds := rfl
@[simp] theorem wrap_t {ds : List Z.D} : wrap true ds = .lst ds := rfl
def prD (b : Bool) (f : Int × Int) : Z.D := wrap b [.int f.1, .int f.2]
def gi (n d : Int) : Int := ((Nat.gcd n.natAbs d.natAbs : Nat) : Int)
def low (n d : Int) : Fr := (n / gi n d, d / gi n d)
theorem gi_pos {n d : Int} (hd : 0 < d) : 0 < gi n d := by
  unfold gi
  have := Nat.gcd_pos_of_pos_right n.natAbs (show 0 < d.natAbs by omega)
  omega
theorem gi_dl {n d : Int} : gi n d ∣ n := by unfold gi; exact Int.ofNat_dvd_left.mpr (Nat.gcd_dvd_left _ _)
theorem gi_dr {n d : Int} : gi n d ∣ d := by unfold gi; exact Int.ofNat_dvd_left.mpr (Nat.gcd_dvd_right _ _)
theorem low_mul {n d : Int} (hd : 0 < d) : n = gi n d * (low n d).1 ∧ d = gi n d * (low n d).2 := by
  unfold low
  exact ⟨(Int.mul_ediv_cancel' gi_dl).symm, (Int.mul_ediv_cancel' gi_dr).symm⟩
theorem low_gcd {n d : Int} (hd : 0 < d) : Nat.gcd (low n d).1.natAbs (low n d).2.natAbs = 1 := by
  have hg := gi_pos (n := n) hd
  have e1 : (low n d).1.natAbs = n.natAbs / Nat.gcd n.natAbs d.natAbs := by
    unfold low
    rw [Int.natAbs_ediv_of_dvd gi_dl]
    rfl
  have e2 : (low n d).2.natAbs = d.natAbs / Nat.gcd n.natAbs d.natAbs := by
    unfold low
    rw [Int.natAbs_ediv_of_dvd gi_dr]
    rfl
  rw [e1, e2, Nat.gcd_div (Nat.gcd_dvd_left _ _) (Nat.gcd_dvd_right _ _)]
  exact Nat.div_self (Nat.gcd_pos_of_pos_right _ (by omega))
theorem Big60 : 2 ^ 900 ≤ Big := by unfold Big; exact Nat.pow_le_pow_right (by decide) (by decide)
/-- a fraction of at most k bits, in lowest terms, above 0 -/
structure FrB (k : Nat) (f : Fr) : Prop where
  n0 : 0 < f.1
  nk : f.1.natAbs < 2 ^ k
  d0 : 0 < f.2
  dk : f.2.natAbs < 2 ^ k
  co : Nat.gcd f.1.natAbs f.2.natAbs = 1
theorem FrB.mono {j k : Nat} {f : Fr} (h : FrB j f) (le : j ≤ k) : FrB k f :=
  ⟨h.n0, Nat.lt_of_lt_of_le h.nk (Nat.pow_le_pow_right (by decide) le), h.d0, Nat.lt_of_lt_of_le h.dk (Nat.pow_le_pow_right (by decide) le), h.co⟩
theorem low_frb {k : Nat} {n d : Int} (hn : 0 < n) (hd : 0 < d) (h1 : n.natAbs < 2 ^ k) (h2 : d.natAbs < 2 ^ k) : FrB k (low n d) := by
  have g := gi_pos (n := n) hd
  have a1 : (low n d).1 ≤ n := Int.ediv_le_self _ (Int.le_of_lt hn)
  have a2 : (low n d).2 ≤ d := Int.ediv_le_self _ (Int.le_of_lt hd)
  have b1 : 0 < (low n d).1 := Int.ediv_pos_of_pos_of_dvd hn (Int.le_of_lt g) gi_dl
  have b2 : 0 < (low n d).2 := Int.ediv_pos_of_pos_of_dvd hd (Int.le_of_lt g) gi_dr
  exact ⟨b1, by omega, b2, by omega, low_gcd hd⟩
theorem natAbs_mul_lt {a b : Int} {j k : Nat} (h1 : a.natAbs < 2 ^ j) (h2 : b.natAbs < 2 ^ k) : (a * b).natAbs < 2 ^ (j + k) := by
  rw [Int.natAbs_mul, Nat.pow_add]
  exact Nat.mul_lt_mul'' h1 h2
def mulF (a b : Fr) : Fr := low (a.1 * b.1) (a.2 * b.2)
theorem mulF_b {j k : Nat} {a b : Fr} (ha : FrB j a) (hb : FrB k b) : FrB (j + k) (mulF a b) :=
  low_frb (Int.mul_pos ha.n0 hb.n0) (Int.mul_pos ha.d0 hb.d0) (natAbs_mul_lt ha.nk hb.nk) (natAbs_mul_lt ha.dk hb.dk)
/-- a pair without common divisors is told by its ratio -/
theorem co_eq {p q x y : Int} (hp : 0 < p) (hq : 0 < q) (hx : 0 < x) (hy : 0 < y) (c1 : Nat.gcd p.natAbs q.natAbs = 1) (c2 : Nat.gcd x.natAbs y.natAbs = 1) (h : p * y = x * q) : p = x ∧ q = y := by
  have h' : p.natAbs * y.natAbs = x.natAbs * q.natAbs := by rw [← Int.natAbs_mul, ← Int.natAbs_mul, h]
  have d1 : p.natAbs ∣ x.natAbs := Nat.Coprime.dvd_of_dvd_mul_right (show Nat.Coprime p.natAbs q.natAbs from c1) ⟨y.natAbs, h'.symm⟩
  have d2 : x.natAbs ∣ p.natAbs := Nat.Coprime.dvd_of_dvd_mul_right (show Nat.Coprime x.natAbs y.natAbs from c2) ⟨q.natAbs, h'⟩
  have e := Nat.dvd_antisymm d1 d2
  have e1 : p = x := by omega
  subst e1
  have : y = q := Int.eq_of_mul_eq_mul_left (by omega) h
  exact ⟨rfl, this.symm⟩
theorem low_eq {n d x y : Int} (hn : 0 < n) (hd : 0 < d) (hx : 0 < x) (hy : 0 < y) (h : n * y = x * d) : low n d = low x y := by
  obtain ⟨e1, e2⟩ := low_mul (n := n) hd
  obtain ⟨e3, e4⟩ := low_mul (n := x) hy
  have f1 := low_frb hn hd (k := n.natAbs + d.natAbs) (Nat.lt_of_lt_of_le (Nat.lt_two_pow_self) (Nat.pow_le_pow_right (by decide) (by omega))) (Nat.lt_of_lt_of_le (Nat.lt_two_pow_self) (Nat.pow_le_pow_right (by decide) (by omega)))
  have f2 := low_frb hx hy (k := x.natAbs + y.natAbs) (Nat.lt_of_lt_of_le (Nat.lt_two_pow_self) (Nat.pow_le_pow_right (by decide) (by omega))) (Nat.lt_of_lt_of_le (Nat.lt_two_pow_self) (Nat.pow_le_pow_right (by decide) (by omega)))
  have g1 := gi_pos (n := n) hd
  have g2 := gi_pos (n := x) hy
  have key : (low n d).1 * (low x y).2 = (low x y).1 * (low n d).2 := by
    refine Int.eq_of_mul_eq_mul_left (a := gi n d * gi x y) (Int.ne_of_gt (Int.mul_pos g1 g2)) ?_
    calc gi n d * gi x y * ((low n d).1 * (low x y).2) = (gi n d * (low n d).1) * (gi x y * (low x y).2) := by ac_rfl
      _ = (gi x y * (low x y).1) * (gi n d * (low n d).2) := by rw [← e1, ← e2, ← e3, ← e4]; exact h
      _ = gi n d * gi x y * ((low x y).1 * (low n d).2) := by ac_rfl
  obtain ⟨a, b⟩ := co_eq f1.n0 f1.d0 f2.n0 f2.d0 f1.co f2.co key
  exact Prod.ext a b
theorem low_self {k : Nat} {f : Fr} (h : FrB k f) : low f.1 f.2 = f := by
  unfold low gi
  rw [h.co]
  simp
theorem mulF_assoc {i j k : Nat} {a b c : Fr} (ha : FrB i a) (hb : FrB j b) (hc : FrB k c) : mulF (mulF a b) c = mulF a (mulF b c) := by
  have h1 := mulF_b ha hb
  have h2 := mulF_b hb hc
  have e1 := low_mul (n := a.1 * b.1) (Int.mul_pos ha.d0 hb.d0)
  have e2 := low_mul (n := b.1 * c.1) (Int.mul_pos hb.d0 hc.d0)
  refine low_eq (Int.mul_pos h1.n0 hc.n0) (Int.mul_pos h1.d0 hc.d0) (Int.mul_pos ha.n0 h2.n0) (Int.mul_pos ha.d0 h2.d0) ?_
  have g1 := gi_pos (n := a.1 * b.1) (Int.mul_pos ha.d0 hb.d0)
  have g2 := gi_pos (n := b.1 * c.1) (Int.mul_pos hb.d0 hc.d0)
  unfold mulF
  generalize low (a.1 * b.1) (a.2 * b.2) = u at *
  generalize low (b.1 * c.1) (b.2 * c.2) = v at *
  generalize gi (a.1 * b.1) (a.2 * b.2) = g at *
  generalize gi (b.1 * c.1) (b.2 * c.2) = w at *
  refine Int.eq_of_mul_eq_mul_left (a := g * w) (Int.ne_of_gt (Int.mul_pos g1 g2)) ?_
  calc g * w * (u.1 * c.1 * (a.2 * v.2)) = (g * u.1) * (w * v.2) * (c.1 * a.2) := by ac_rfl
    _ = (a.1 * b.1) * (b.2 * c.2) * (c.1 * a.2) := by rw [← e1.1, ← e2.2]
    _ = (b.1 * c.1) * (a.2 * b.2) * (a.1 * c.2) := by ac_rfl
    _ = (w * v.1) * (g * u.2) * (a.1 * c.2) := by rw [← e2.1, ← e1.2]
    _ = g * w * (a.1 * v.1 * (u.2 * c.2)) := by ac_rfl
theorem mulF_back {i j : Nat} {a b : Fr} (ha : FrB i a) (hb : FrB j b) : mulF (mulF a b) (b.2, b.1) = a := by
  have h1 := mulF_b ha hb
  have e1 := low_mul (n := a.1 * b.1) (Int.mul_pos ha.d0 hb.d0)
  have g1 := gi_pos (n := a.1 * b.1) (Int.mul_pos ha.d0 hb.d0)
  refine (low_eq (x := a.1) (y := a.2) (Int.mul_pos h1.n0 hb.d0) (Int.mul_pos h1.d0 hb.n0) ha.n0 ha.d0 ?_).trans (low_self ha)
  unfold mulF
  generalize low (a.1 * b.1) (a.2 * b.2) = u at *
  generalize gi (a.1 * b.1) (a.2 * b.2) = g at *
  refine Int.eq_of_mul_eq_mul_left (a := g) (Int.ne_of_gt g1) ?_
  calc g * (u.1 * b.2 * a.2) = (g * u.1) * (b.2 * a.2) := by ac_rfl
    _ = (a.1 * b.1) * (b.2 * a.2) := by rw [← e1.1]
    _ = a.1 * b.1 * (a.2 * b.2) := by ac_rfl
    _ = a.1 * b.1 * (g * u.2) := by rw [← e1.2]
    _ = g * (a.1 * (u.2 * b.1)) := by ac_rfl
/-! ### entries, columns, bridges -/
abbrev Tn := Int × Int
abbrev En := Option (Tn × Bool)
def mv (s : Int) (h : Tn) : En → En
  | none => none
  | some (t, b) => some ((s * t.1 + h.1, s * t.2 + h.2), b)
def pick (es : List En) (o : List Int) : List En := o.map fun v => es.getD v.toNat none
structure Br where
  s : Int
  o : List Int
  i : Tn
  b : Fr
structure Col where
  d : Fr
  a : Int
  e : List En
def crossE (es : List En) (x : Br) : List En := (pick (es.map (mv x.s (0, 0))) x.o).map (mv 1 x.i)
def cross (c : Col) (x : Br) : Col := ⟨mulF c.d x.b, c.a, crossE c.e x⟩
def iota (V : Nat) : List Int := (List.range V).map fun (k : Nat) => (k : Int)
def ixO (o : List Int) (v : Int) : Int := o.getD v.toNat 0
def behind (x y : Br) : Br := ⟨x.s * y.s, y.o.map (ixO x.o), (y.s * x.i.1 + y.i.1, y.s * x.i.2 + y.i.2), mulF x.b y.b⟩
def backO (o : List Int) : List Int := (List.range o.length).map fun (k : Nat) => (((fstI (k : Int) o).getD 0 : Nat) : Int)
def opp (x : Br) : Br := ⟨x.s, backO x.o, (-x.s * x.i.1, -x.s * x.i.2), (x.b.2, x.b.1)⟩
structure BrOk (V : Nat) (j k : Nat) (x : Br) : Prop where
  s : x.s = 1 ∨ x.s = -1
  o : x.o.Perm (iota V)
  i1 : x.i.1.natAbs < 2 ^ j
  i2 : x.i.2.natAbs < 2 ^ j
  b : FrB k x.b
theorem iota_len {V : Nat} : (iota V).length = V := by unfold iota; simp
theorem mem_iota {V : Nat} {v : Int} : v ∈ iota V ↔ ∃ k : Nat, v = (k : Int) ∧ k < V := by
  unfold iota
  constructor
  · intro h
    obtain ⟨k, h1, rfl⟩ := List.mem_map.mp h
    exact ⟨k, rfl, List.mem_range.mp h1⟩
  · rintro ⟨k, rfl, h⟩
    exact List.mem_map.mpr ⟨k, List.mem_range.mpr h, rfl⟩
section
variable {V : Nat} {o : List Int} (h : o.Perm (iota V))
include h
theorem ord_len : o.length = V := by rw [h.length_eq, iota_len]
theorem ord_mem {v : Int} (hv : v ∈ o) : ∃ k : Nat, v = (k : Int) ∧ k < V := mem_iota.mp (h.mem_iff.mp hv)
theorem ord_has {k : Nat} (hk : k < V) : (k : Int) ∈ o := h.mem_iff.mpr (mem_iota.mpr ⟨k, rfl, hk⟩)
theorem ord_sort : sortI o = iota V := by
  refine (sortI_only h.symm ?_).symm
  unfold iota
  refine List.pairwise_map.mpr (List.Pairwise.imp ?_ List.pairwise_lt_range)
  intro a b hab
  omega
theorem ord_ix {k : Nat} (hk : k < V) : ∃ j : Nat, o.getD k 0 = (j : Int) ∧ j < V ∧ o[k]? = some (j : Int) := by
  have hl := ord_len h
  have e : o[k]? = some o[k] := List.getElem?_eq_getElem (by omega)
  obtain ⟨j, h1, h2⟩ := ord_mem h (List.getElem_mem (l := o) (n := k) (by omega))
  exact ⟨j, by rw [List.getD_eq_getElem?_getD, e, h1]; rfl, h2, by rw [e, h1]⟩
end
theorem fstI_has {z : Int} : ∀ {ns : List Int}, z ∈ ns → ∃ j, fstI z ns = some j ∧ ns[j]? = some z ∧ j < ns.length
  | n :: r, h => by
    unfold fstI
    by_cases c : n = z
    · rw [if_pos c]
      exact ⟨0, rfl, by rw [c]; rfl, by simp⟩
    · rw [if_neg c]
      rcases List.mem_cons.mp h with w | w
      · exact absurd w.symm c
      · obtain ⟨j, h1, h2, h3⟩ := fstI_has w
        exact ⟨j + 1, by rw [h1]; rfl, h2, by rw [List.length_cons]; omega⟩
theorem back_ix {V : Nat} {o : List Int} (h : o.Perm (iota V)) {k : Nat} (hk : k < V) : ∃ j : Nat, j < V ∧ fstI (k : Int) o = some j ∧ o[j]? = some (k : Int) := by
  obtain ⟨j, h1, h2, h3⟩ := fstI_has (ord_has h hk)
  exact ⟨j, by rw [← ord_len h]; exact h3, h1, h2⟩
theorem pick_get {es : List En} {o : List Int} {j : Nat} {v : Int} (h : o[j]? = some v) : (pick es o)[j]? = some (es.getD v.toNat none) := by
  unfold pick
  rw [List.getElem?_map, h]
  rfl
theorem pick_getD {es : List En} {o : List Int} {j : Nat} {v : Int} (h : o[j]? = some v) : (pick es o).getD j none = es.getD v.toNat none := by
  rw [List.getD_eq_getElem?_getD, pick_get h]
  rfl
theorem map_getD {es : List En} {s : Int} {t : Tn} {j : Nat} : (es.map (mv s t)).getD j none = mv s t (es.getD j none) := by
  rw [List.getD_eq_getElem?_getD, List.getD_eq_getElem?_getD, List.getElem?_map]
  cases es[j]? <;> rfl
theorem mv_mv {s1 s2 : Int} {i1 i2 : Tn} (h2 : s2 = 1 ∨ s2 = -1) (e : En) : mv 1 i2 (mv s2 (0, 0) (mv 1 i1 (mv s1 (0, 0) e))) = mv 1 (s2 * i1.1 + i2.1, s2 * i1.2 + i2.2) (mv (s1 * s2) (0, 0) e) := by
  cases e with
  | none => rfl
  | some x =>
    obtain ⟨⟨a, b⟩, c⟩ := x
    simp only [mv, Option.some.injEq, Prod.mk.injEq, and_true]
    rcases h2 with rfl | rfl
    · rw [Int.mul_one s1]; omega
    · rw [show s1 * (-1) = -s1 by omega]
      have e1 : ∀ z, -s1 * z = -(s1 * z) := fun z => Int.neg_mul ..
      rw [e1, e1]
      omega
theorem mv_back {s : Int} {i : Tn} (h : s = 1 ∨ s = -1) (e : En) : mv 1 (-s * i.1, -s * i.2) (mv s (0, 0) (mv 1 i (mv s (0, 0) e))) = e := by
  cases e with
  | none => rfl
  | some x =>
    obtain ⟨⟨a, b⟩, c⟩ := x
    simp only [mv, Option.some.injEq, Prod.mk.injEq, and_true]
    rcases h with rfl | rfl <;> omega
theorem crossE_len {es : List En} {x : Br} : (crossE es x).length = x.o.length := by unfold crossE pick; simp
theorem crossE_getD {es : List En} {x : Br} {k : Nat} {v : Int} (h : x.o[k]? = some v) : (crossE es x).getD k none = mv 1 x.i (mv x.s (0, 0) (es.getD v.toNat none)) := by
  unfold crossE
  rw [map_getD, pick_getD h, map_getD]
theorem crossE_behind {V j k j2 k2 : Nat} {x y : Br} (hx : BrOk V j k x) (hy : BrOk V j2 k2 y) (es : List En) : crossE (crossE es x) y = crossE es (behind x y) := by
  refine List.ext_getElem? fun n => ?_
  by_cases hn : n < V
  · have l1 : n < (crossE (crossE es x) y).length := by rw [crossE_len, ord_len hy.o]; exact hn
    have l2 : n < (crossE es (behind x y)).length := by
      rw [crossE_len]
      show n < (y.o.map (ixO x.o)).length
      rw [List.length_map, ord_len hy.o]; exact hn
    obtain ⟨v, e1, e2, e3⟩ := ord_ix hy.o hn
    obtain ⟨w, f1, f2, f3⟩ := ord_ix hx.o e2
    have e4 : (behind x y).o[n]? = some (w : Int) := by
      show (y.o.map (ixO x.o))[n]? = _
      rw [List.getElem?_map, e3]
      show some (x.o.getD (v : Int).toNat 0) = _
      rw [Int.toNat_natCast, f1]
    have a := crossE_getD (es := crossE es x) e3
    rw [Int.toNat_natCast, crossE_getD f3, mv_mv hy.s] at a
    have b := crossE_getD (es := es) e4
    rw [List.getD_eq_getElem?_getD, List.getElem?_eq_getElem l1] at a
    rw [List.getD_eq_getElem?_getD, List.getElem?_eq_getElem l2] at b
    rw [List.getElem?_eq_getElem l1, List.getElem?_eq_getElem l2]
    simp only [Option.getD_some] at a b
    rw [a, b]
    rfl
  · rw [List.getElem?_eq_none (by rw [crossE_len, ord_len hy.o]; omega), List.getElem?_eq_none]
    rw [crossE_len]
    show (y.o.map (ixO x.o)).length ≤ n
    rw [List.length_map, ord_len hy.o]; omega
theorem backO_get {V : Nat} {o : List Int} (h : o.Perm (iota V)) {k : Nat} (hk : k < V) : ∃ j : Nat, j < V ∧ (backO o)[k]? = some (j : Int) ∧ o[j]? = some (k : Int) := by
  obtain ⟨j, h1, h2, h3⟩ := back_ix h hk
  refine ⟨j, h1, ?_, h3⟩
  unfold backO
  rw [List.getElem?_map, List.getElem?_range (by rw [ord_len h]; exact hk)]
  show some (((fstI (k : Int) o).getD 0 : Nat) : Int) = _
  rw [h2]
  rfl
theorem backO_len {o : List Int} : (backO o).length = o.length := by unfold backO; simp
theorem crossE_back {V j k : Nat} {x : Br} (hx : BrOk V j k x) {es : List En} (hl : es.length = V) : crossE (crossE es x) (opp x) = es := by
  refine List.ext_getElem? fun n => ?_
  by_cases hn : n < V
  · obtain ⟨v, e1, e2, e3⟩ := backO_get hx.o hn
    have l1 : n < (crossE (crossE es x) (opp x)).length := by
      rw [crossE_len]
      show n < (backO x.o).length
      rw [backO_len, ord_len hx.o]; exact hn
    have a := crossE_getD (es := crossE es x) (x := opp x) e2
    rw [Int.toNat_natCast, crossE_getD e3, Int.toNat_natCast] at a
    rw [show mv 1 (opp x).i (mv (opp x).s (0, 0) (mv 1 x.i (mv x.s (0, 0) (es.getD n none)))) = es.getD n none from mv_back hx.s _] at a
    rw [List.getD_eq_getElem?_getD, List.getElem?_eq_getElem l1, List.getD_eq_getElem?_getD, List.getElem?_eq_getElem (by omega)] at a
    rw [List.getElem?_eq_getElem l1, List.getElem?_eq_getElem (by omega)]
    exact congrArg some a
  · rw [List.getElem?_eq_none, List.getElem?_eq_none (by omega)]
    rw [crossE_len]
    show (backO x.o).length ≤ n
    rw [backO_len, ord_len hx.o]; omega
theorem cross_behind {V j k j2 k2 kd : Nat} {x y : Br} {c : Col} (hx : BrOk V j k x) (hy : BrOk V j2 k2 y) (hc : FrB kd c.d) : cross (cross c x) y = cross c (behind x y) := by
  unfold cross
  simp only [Col.mk.injEq, true_and]
  exact ⟨mulF_assoc hc hx.b hy.b, crossE_behind hx hy _⟩
theorem cross_back {V j k kd : Nat} {x : Br} {c : Col} (hx : BrOk V j k x) (hc : FrB kd c.d) (hl : c.e.length = V) : cross (cross c x) (opp x) = c := by
  obtain ⟨d, a, e⟩ := c
  unfold cross
  simp only [Col.mk.injEq, true_and]
  exact ⟨mulF_back hc hx.b, crossE_back hx hl⟩
end K86

set_option Elab.async false
set_option linter.all false
set_option maxRecDepth 100000
set_option maxHeartbeats 1000000
namespace K86
open PySem PySem.Spec PyProof.Rows L2 Z
/-! ### data -/
inductive OF | n | t | l
def ordD : OF → List Int → Z.D
  | .n, ns => .itup ns
  | .t, ns => .tup (ns.map Z.D.int)
  | .l, ns => .lst (ns.map Z.D.int)
@[simp] theorem it_ord {f : OF} {o : List Int} : itemsOf (ordD f o) = some (o.map Z.D.int) := by cases f <;> rfl
@[simp] theorem len_ord {f : OF} {o : List Int} : lenG [ordD f o] = some (.dat (.int o.length)) := by cases f <;> simp [ordD]
@[simp] theorem ix_ord {f : OF} {o : List Int} {i : Int} : ixG (ordD f o) (.int i) = (atI (o.map Z.D.int) i).bind fun d => some (.dat d) := by cases f <;> rfl
def enD (l : Bool) : En → Z.D
  | none => .non
  | some (t, b) => wrap l [prD l t, .bl b]
def colD (l m : Bool) (c : Col) : Z.D := wrap m [prD l c.d, .int c.a, wrap m (c.e.map (enD m))]
def brD (l : Bool) (f : OF) (x : Br) : Z.D := wrap l [.int x.s, ordD f x.o, prD l x.i, prD l x.b]
theorem big900 {k : Nat} (h : k ≤ 900) : 2 ^ k ≤ Big := Nat.le_trans (Nat.pow_le_pow_right (by decide) h) Big60
theorem frac_ok {n d : Int} (hd : 0 < d) (hd2 : d.natAbs < Big) : m_fraction [.int n, .int d] = some (.dat (prD false (low n d))) := by
  have hg := gi_pos (n := n) hd
  have hg2 : (gi n d).natAbs ≤ d.natAbs := Nat.le_of_dvd (by omega) (Int.natAbs_dvd_natAbs.mpr gi_dr)
  have hk : okDiv (gi n d) = true := okDiv_B hg (by omega)
  have c : ¬ d < 0 := by omega
  have e : ((Nat.gcd n.natAbs d.natAbs : Nat) : Int) = gi n d := rfl
  unfold prD low
  generalize gi n d = g at *
  simp [m_fraction, b_fraction, e, c, hk]
section
variable {a b : Fr} {j k : Nat} {l m : Bool}
theorem prod_ok (ha : FrB j a) (hb : FrB k b) (h : j + k ≤ 900) : m_product [prD l a, prD m b] = some (.dat (prD false (mulF a b))) := by
  have h1 : okMul a.1 b.1 = true := okMul_B (Nat.lt_of_lt_of_le ha.nk (big900 (by omega))) (Nat.lt_of_lt_of_le hb.nk (big900 (by omega)))
  have h2 : okMul a.2 b.2 = true := okMul_B (Nat.lt_of_lt_of_le ha.dk (big900 (by omega))) (Nat.lt_of_lt_of_le hb.dk (big900 (by omega)))
  have f := frac_ok (n := a.1 * b.1) (Int.mul_pos ha.d0 hb.d0) (Nat.lt_of_lt_of_le (natAbs_mul_lt ha.dk hb.dk) (big900 h))
  unfold mulF
  generalize prD false (low (a.1 * b.1) (a.2 * b.2)) = z at *
  cases l <;> cases m <;> simp [m_product, b_product, prD, h1, h2, f]
theorem times_ok (ha : FrB j a) (hb : FrB k b) (h : j + k ≤ 900) : m__law_times [prD l a, prD m b] = some (.dat (prD false (mulF a b))) := by
  have h1 : okMul a.1 b.1 = true := okMul_B (Nat.lt_of_lt_of_le ha.nk (big900 (by omega))) (Nat.lt_of_lt_of_le hb.nk (big900 (by omega)))
  have h2 : okMul a.2 b.2 = true := okMul_B (Nat.lt_of_lt_of_le ha.dk (big900 (by omega))) (Nat.lt_of_lt_of_le hb.dk (big900 (by omega)))
  have g1 := natAbs_mul_lt ha.nk hb.nk
  have g2 := natAbs_mul_lt ha.dk hb.dk
  have f : m__law_lowest [.int (a.1 * b.1), .int (a.2 * b.2)] = some (.dat (prD false (low (a.1 * b.1) (a.2 * b.2)))) := low_ok (Int.mul_pos ha.d0 hb.d0) (Nat.lt_of_lt_of_le g1 (big900 h)) (Nat.lt_of_lt_of_le g2 (big900 h)) (.inl (Nat.lt_of_lt_of_le g2 (Nat.pow_le_pow_right (by decide) h)))
  unfold mulF
  generalize prD false (low (a.1 * b.1) (a.2 * b.2)) = z at *
  cases l <;> cases m <;> simp [m__law_times, b__law_times, prD, h1, h2, f]
theorem low_co {p q : Int} (c : Nat.gcd p.natAbs q.natAbs = 1) : low p q = (p, q) := by
  unfold low gi
  rw [c]
  simp
theorem quot_ok (hb : FrB k b) (h : k ≤ 900) : m_quotient [.tup [.int 1, .int 1], prD m b] = some (.dat (prD false (b.2, b.1))) := by
  have h1 : ∀ z : Int, okMul 1 z = true := fun z => okMul_l (by decide)
  have f := frac_ok (n := b.2) hb.n0 (Nat.lt_of_lt_of_le hb.nk (big900 h))
  rw [low_co (by rw [Nat.gcd_comm]; exact hb.co)] at f
  generalize prD false (b.2, b.1) = z at *
  cases m <;> simp [m_quotient, b_quotient, prD, h1, f]
end
theorem added_ok {t u : Tn} {l m : Bool} : m_added [prD l t, prD m u] = some (.dat (prD false (t.1 + u.1, t.2 + u.2))) := by
  cases l <;> cases m <;> simp [m_added, b_added, prD]
theorem scaled_ok {t : Tn} {s : Int} {l : Bool} (hs : s.natAbs < 2 ^ 63) : m_scaled [prD l t, .int s] = some (.dat (prD false (s * t.1, s * t.2))) := by
  have h1 : ∀ z : Int, okMul s z = true := fun z => okMul_l hs
  cases l <;> simp [m_scaled, b_scaled, prD, h1]
/-! ### with_tones, seen, brought -/
theorem tones_loop {x0 : Option Sl} {s : Int} {h : Tn} {m : Bool} (k : Bool) (hs : s.natAbs < 2 ^ 63) (es : List En) : ∀ (acc : List Z.D) (y1 y2 y3 : Option Sl), acc.length + es.length ≤ 16777216 → ∃ z1 z2 z3,
    forS (nmB 4) l_with_tones_1 (es.map (enD m)) [x0, some (.dat (.int s)), some (.dat (prD k h)), some (.own (.lst acc)), y1, y2, y3] =
      some (.nx [x0, some (.dat (.int s)), some (.dat (prD k h)), some (.own (.lst (acc ++ (es.map (mv s h)).map (enD false)))), z1, z2, z3]) := by
  have h1 : ∀ z : Int, okMul s z = true := fun z => okMul_l hs
  induction es with
  | nil => intro acc y1 y2 y3 _; exact ⟨y1, y2, y3, by simp [forS]⟩
  | cons e es ih =>
    intro acc y1 y2 y3 hl
    rw [List.length_cons] at hl
    have hl2 : acc.length < 16777216 := by omega
    obtain ⟨w1, w2, hw⟩ : ∃ w1 w2, l_with_tones_1 [x0, some (.dat (.int s)), some (.dat (prD k h)), some (.own (.lst acc)), some (.dat (enD m e)), y2, y3] =
        some (.nx [x0, some (.dat (.int s)), some (.dat (prD k h)), some (.own (.lst (acc ++ [enD false (mv s h e)]))), some (.dat (enD m e)), w1, w2]) := by
      cases e with
      | none => exact ⟨y2, y3, by simp [l_with_tones_1, enD, mv, hl2]⟩
      | some t =>
        obtain ⟨t, b⟩ := t
        refine ⟨some (.dat (prD m t)), some (.dat (.bl b)), ?_⟩
        cases m <;> cases k <;> simp [l_with_tones_1, enD, mv, prD, hl2, h1]
    obtain ⟨z1, z2, z3, hz⟩ := ih (acc ++ [enD false (mv s h e)]) (some (.dat (enD m e))) w1 w2 (by rw [List.length_append, List.length_singleton]; omega)
    refine ⟨z1, z2, z3, ?_⟩
    rw [List.map_cons]
    show Option.bind (l_with_tones_1 [x0, some (.dat (.int s)), some (.dat (prD k h)), some (.own (.lst acc)), some (.dat (enD m e)), y2, y3]) _ = _
    rw [hw, Option.bind_some]
    refine hz.trans ?_
    simp
theorem tones_ok {l m k : Bool} {c : Col} {s : Int} {h : Tn} (hs : s.natAbs < 2 ^ 63) (hl : c.e.length ≤ 400) : m_with_tones [colD l m c, .int s, prD k h] = some (.dat (colD l false ⟨c.d, c.a, c.e.map (mv s h)⟩)) := by
  obtain ⟨z1, z2, z3, hz⟩ := tones_loop (x0 := some (.dat (colD l m c))) (m := m) (h := h) k hs c.e [] none none none (by simp; omega)
  rw [List.nil_append] at hz
  unfold colD at hz ⊢
  generalize c.e.map (enD m) = L at *
  generalize prD l c.d = A at *
  generalize prD k h = B at *
  show _ = some (Rt.dat (.tup [A, .int c.a, .tup ((c.e.map (mv s h)).map (enD false))]))
  generalize (c.e.map (mv s h)).map (enD false) = R at *
  cases m
  · rw [wrap_f, wrap_f] at hz ⊢
    simp [m_with_tones, b_with_tones, hz]
  · rw [wrap_t, wrap_t] at hz ⊢
    simp [m_with_tones, b_with_tones, hz]
theorem at_nat {α : Type} {xs : List α} {i : Nat} {x : α} (h : xs[i]? = some x) : atI xs (i : Int) = some x := by
  have hi := get_lt h
  unfold atI ixN
  rw [if_pos (Int.natCast_nonneg i), if_pos (by omega)]
  exact h
theorem getD_atI {l : Bool} {es : List En} {v : Nat} (h : v < es.length) : atI (es.map (enD l)) (v : Int) = some (enD l (es.getD v none)) := by
  refine at_nat ?_
  rw [List.getElem?_map, List.getElem?_eq_getElem h, List.getD_eq_getElem?_getD, List.getElem?_eq_getElem h]
  rfl
theorem pick_map {l : Bool} {es : List En} {o : List Int} : (pick es o).map (enD l) = o.map fun v => enD l (es.getD v.toNat none) := by
  unfold pick
  rw [List.map_map]
  rfl
/-- [xs[voice] for voice in order] -/
def gv (es : List En) : Z.D → Z.D
  | .int v => enD false (es.getD v.toNat none)
  | d => d
theorem seen_lc {x0 x1 x2 x3 : Option Sl} {o : List Int} {es : List En} (ho : ∀ v ∈ o, ∃ k : Nat, v = (k : Int) ∧ k < es.length) (hl : o.length ≤ 400) {fi : Fi} (hf : fi [x0, x1, x2, x3, some (.dat (.tup (es.map (enD false)))), none] = some (o.map Z.D.int, [x0, x1, x2, x3, some (.dat (.tup (es.map (enD false)))), none])) :
    lcS fi (nmB 5) yesT e_seen_1 [5] [x0, x1, x2, x3, some (.dat (.tup (es.map (enD false)))), none] = some (.own (.lst ((pick es o).map (enD false))), [x0, x1, x2, x3, some (.dat (.tup (es.map (enD false)))), none]) := by
  have key := lcS_map (i := 5) (f := e_seen_1) (gv es) hf (by simp; omega) (.inl rfl) (by
    intro d hd
    obtain ⟨v, hv, rfl⟩ := List.mem_map.mp hd
    obtain ⟨k, rfl, hk⟩ := ho v hv
    have ha := getD_atI (l := false) hk
    refine ⟨.dat (enD false (es.getD k none)), ?_, rfl⟩
    generalize es.map (enD false) = L at *
    simp [e_seen_1, ha])
  rw [key, List.map_map, pick_map]
  rfl
theorem ord_nat {V : Nat} {o : List Int} (h : o.Perm (iota V)) {v : Int} (hv : v ∈ o) : ∃ k : Nat, v = (k : Int) ∧ k < V := ord_mem h hv
theorem pick_len {es : List En} {o : List Int} : (pick es o).length = o.length := by unfold pick; simp
theorem seen_ok {l m b : Bool} {f : OF} {c : Col} {s : Int} {o : List Int} {V : Nat} (hs : s.natAbs < 2 ^ 63) (ho : o.Perm (iota V)) (hc : c.e.length = V) (hV : V ≤ 4) :
    m_seen [colD l m c, wrap b [.int s, ordD f o]] = some (.dat (colD l false ⟨c.d, c.a, pick (c.e.map (mv s (0, 0))) o⟩)) := by
  have ht : m_with_tones [colD l m c, .int s, .tup [.int 0, .int 0]] = some (.dat (colD l false ⟨c.d, c.a, c.e.map (mv s (0, 0))⟩)) := tones_ok (k := false) (h := (0, 0)) hs (by omega)
  have hlo := ord_len ho
  have hl := seen_lc (x0 := some (.dat (colD l m c))) (x1 := some (.dat (wrap b [.int s, ordD f o]))) (x2 := some (.dat (prD l c.d))) (x3 := some (.dat (.int c.a))) (o := o) (es := c.e.map (mv s (0, 0))) (fi := seqI (bin2 ixG (vS 1) (cS (.int 1))))
    (fun v hv => by obtain ⟨k, h1, h2⟩ := ord_nat ho hv; exact ⟨k, h1, by rw [List.length_map]; omega⟩) (by omega) (by cases b <;> simp)
  unfold colD at ht hl ⊢
  rw [wrap_f, wrap_f] at ht ⊢
  generalize c.e.map (enD m) = L at *
  generalize prD l c.d = A at *
  generalize wrap m [A, .int c.a, wrap m L] = C at *
  generalize c.e.map (mv s (0, 0)) = ES at *
  generalize (pick ES o).map (enD false) = R at *
  generalize ES.map (enD false) = E1 at *
  generalize ordD f o = O at *
  cases b
  · rw [wrap_f] at hl ⊢
    simp [-s_lcS, m_seen, b_seen, ht, hl]
  · rw [wrap_t] at hl ⊢
    simp [-s_lcS, m_seen, b_seen, ht, hl]
theorem cut2 {a b c d : Z.D} : Z.cutD [a, b, c, d] none (some 2) = [a, b] := rfl
theorem colD_mv {l : Bool} {c : Col} {x : Br} : (⟨c.d, c.a, crossE c.e x⟩ : Col).e = (pick (c.e.map (mv x.s (0, 0))) x.o).map (mv 1 x.i) := rfl
theorem br_s {V j k : Nat} {x : Br} (h : BrOk V j k x) : x.s.natAbs < 2 ^ 63 := by rcases h.s with e | e <;> rw [e] <;> decide
theorem brought_column_ok {l m b : Bool} {f : OF} {c : Col} {x : Br} {V j k kd : Nat} (hx : BrOk V j k x) (hd : FrB kd c.d) (hc : c.e.length = V) (hV : V ≤ 4) (hk : kd + k ≤ 900) :
    m_brought_column [colD l m c, brD b f x] = some (.dat (colD false false (cross c x))) := by
  have h1 := seen_ok (l := l) (m := m) (b := b) (f := f) (c := c) (br_s hx) hx.o hc hV
  have h2 := tones_ok (l := l) (m := false) (k := b) (c := ⟨c.d, c.a, pick (c.e.map (mv x.s (0, 0))) x.o⟩) (s := 1) (h := x.i) (by decide) (by rw [pick_len, ord_len hx.o]; omega)
  have h3 := prod_ok (l := l) (m := b) hd hx.b hk
  have e2 : colD l false ⟨c.d, c.a, (pick (c.e.map (mv x.s (0, 0))) x.o).map (mv 1 x.i)⟩ = .tup [prD l c.d, .int c.a, .tup ((crossE c.e x).map (enD false))] := rfl
  have e3 : colD false false (cross c x) = .tup [prD false (mulF c.d x.b), .int c.a, .tup ((crossE c.e x).map (enD false))] := rfl
  rw [e2] at h2
  rw [e3]
  unfold brD
  generalize colD l false ⟨c.d, c.a, pick (c.e.map (mv x.s (0, 0))) x.o⟩ = C1 at *
  generalize colD l m c = C at *
  generalize prD l c.d = A at *
  generalize prD b x.b = B at *
  generalize prD b x.i = I at *
  generalize prD false (mulF c.d x.b) = A2 at *
  generalize (crossE c.e x).map (enD false) = R at *
  generalize ordD f x.o = O at *
  cases b
  · rw [wrap_f] at h1 ⊢
    simp [m_brought_column, b_brought_column, cut2, h1, h2, h3]
  · rw [wrap_t] at h1 ⊢
    simp [m_brought_column, b_brought_column, cut2, h1, h2, h3]
/-- [f(column) for column in columns] where f is told by what the data stand for -/
theorem lcGo_mapC {α : Type} {i : Nat} {f : Fe} {env1 : Z.En} (g r : α → Z.D) (hi : i < env1.length) : ∀ (xs : List α) (acc : List Z.D) (env : Z.En), env.set i none = env1.set i none →
    (∀ x ∈ xs, ∃ rv, f (env1.set i (some (.dat (g x)))) = some (rv, env1.set i (some (.dat (g x)))) ∧ kp (env1.set i (some (.dat (g x)))) (fz rv) = some (r x, env1.set i (some (.dat (g x))))) →
    lcGo (nmB i) yesT f [i] (xs.map g) acc env = some (acc ++ xs.map r, env1.set i none)
  | [], acc, env, he, _ => by
    rw [List.map_nil]
    unfold lcGo
    rw [s_wipe1, s_wipe0, he, List.map_nil, List.append_nil]
  | d :: ds, acc, env, he, h => by
    obtain ⟨rv, h1, h2⟩ := h d (List.mem_cons_self ..)
    rw [List.map_cons]
    unfold lcGo
    rw [s_wipe1, s_wipe0, he]
    show (Option.bind (if i < (env1.set i none).length then some ((env1.set i none).set i (some (.dat (g d)))) else none) _) = _
    rw [List.length_set, if_pos hi, Option.bind_some, List.set_set, s_yesT, Option.bind_some, if_pos rfl, h1, Option.bind_some, h2, Option.bind_some]
    rw [lcGo_mapC g r hi ds (acc ++ [r d]) (env1.set i (some (.dat (g d)))) (by rw [List.set_set]) (fun e he => h e (List.mem_cons_of_mem _ he)), List.map_cons, List.append_assoc]
    rfl
theorem lcS_mapC {α : Type} {fi : Fi} {i : Nat} {f : Fe} {env env1 : Z.En} {xs : List α} (g r : α → Z.D) (h1 : fi env = some (xs.map g, env1)) (hl : xs.length ≤ 16777215) (hs : env1[i]? = some none ∨ ∃ d, env1[i]? = some (some (.dat d)))
    (h : ∀ x ∈ xs, ∃ rv, f (env1.set i (some (.dat (g x)))) = some (rv, env1.set i (some (.dat (g x)))) ∧ kp (env1.set i (some (.dat (g x)))) (fz rv) = some (r x, env1.set i (some (.dat (g x))))) :
    lcS fi (nmB i) yesT f [i] env = some (.own (.lst (xs.map r)), env1) := by
  have hi : i < env1.length := by rcases hs with h | ⟨_, h⟩ <;> exact get_lt h
  rw [s_lcS, h1, Option.bind_some, if_pos (by rw [List.length_map]; exact hl), lcGo_mapC g r hi xs [] env1 rfl h, Option.bind_some, List.nil_append]
  congr 2
  rw [s_back1, s_back0, List.set_set]
  rcases hs with h | ⟨d, h⟩
  · rw [h]; exact set_back h
  · rw [h]; exact set_back h
theorem it_wrap {b : Bool} {ds : List Z.D} : itemsOf (wrap b ds) = some ds := by cases b <;> rfl
def clsD (b l m : Bool) (cs : List Col) : Z.D := wrap b (cs.map (colD l m))
theorem brought_ok {l m b b2 : Bool} {f : OF} {cs : List Col} {x : Br} {V j k kd : Nat} (hx : BrOk V j k x) (hd : ∀ c ∈ cs, FrB kd c.d ∧ c.e.length = V) (hV : V ≤ 4) (hk : kd + k ≤ 900) (hn : cs.length ≤ 400) :
    m_brought [clsD b2 l m cs, brD b f x] = some (.dat (clsD false false false (cs.map fun c => cross c x))) := by
  have key := lcS_mapC (fi := seqI (vS 0)) (i := 2) (f := e_brought_1) (env := [some (.dat (clsD b2 l m cs)), some (.dat (brD b f x)), none]) (env1 := [some (.dat (clsD b2 l m cs)), some (.dat (brD b f x)), none]) (xs := cs) (colD l m) (fun c => colD false false (cross c x))
    (by unfold clsD; simp [it_wrap]) (by omega) (.inl rfl) (by
      intro c hc
      have h := brought_column_ok (l := l) (m := m) (b := b) (f := f) hx (hd c hc).1 (hd c hc).2 hV hk
      refine ⟨.dat (colD false false (cross c x)), ?_, rfl⟩
      generalize colD false false (cross c x) = R at *
      generalize colD l m c = C at *
      generalize brD b f x = B at *
      simp [e_brought_1, h])
  have e : clsD false false false (cs.map fun c => cross c x) = .tup (cs.map fun c => colD false false (cross c x)) := by unfold clsD; rw [List.map_map]; rfl
  rw [e]
  generalize clsD b2 l m cs = C at *
  generalize brD b f x = B at *
  generalize (cs.map fun c => colD false false (cross c x)) = R at *
  simp [-s_lcS, m_brought, b_brought, key]
end K86

set_option Elab.async false
set_option linter.all false
set_option maxRecDepth 100000
set_option maxHeartbeats 1000000
namespace K86
open PySem PySem.Spec PyProof.Rows L2 Z
/-! ### the law's own -/
theorem raised_loop {x0 : Option Sl} {s : Int} {h : Tn} (hs : s.natAbs < 2 ^ 63) (es : List En) : ∀ (acc : List Z.D) (y : Option Sl), acc.length + es.length ≤ 16777216 → ∃ z,
    forS (nmB 4) l__law_raised_1 (es.map (enD false)) [x0, some (.dat (.int s)), some (.dat (prD false h)), some (.dat (.tup acc)), y] =
      some (.nx [x0, some (.dat (.int s)), some (.dat (prD false h)), some (.dat (.tup (acc ++ (es.map (mv s h)).map (enD false)))), z]) := by
  have h1 : ∀ z : Int, okMul s z = true := fun z => okMul_l hs
  induction es with
  | nil => intro acc y _; exact ⟨y, by simp [forS]⟩
  | cons e es ih =>
    intro acc y hl
    rw [List.length_cons] at hl
    have hl2 : acc.length + 1 ≤ 16777216 := by omega
    obtain ⟨w, hw⟩ : ∃ w, l__law_raised_1 [x0, some (.dat (.int s)), some (.dat (prD false h)), some (.dat (.tup acc)), some (.dat (enD false e))] =
        some (.nx [x0, some (.dat (.int s)), some (.dat (prD false h)), some (.dat (.tup (acc ++ [enD false (mv s h e)]))), w]) := by
      cases e with
      | none => exact ⟨some (.dat .non), by simp [l__law_raised_1, enD, mv, hl2]⟩
      | some t =>
        obtain ⟨t, b⟩ := t
        refine ⟨some (.dat (enD false (mv s h (some (t, b))))), ?_⟩
        simp [l__law_raised_1, enD, mv, prD, hl2, h1, Int.add_comm]
    obtain ⟨z, hz⟩ := ih (acc ++ [enD false (mv s h e)]) w (by rw [List.length_append, List.length_singleton]; omega)
    refine ⟨z, ?_⟩
    rw [List.map_cons]
    show Option.bind (l__law_raised_1 [x0, some (.dat (.int s)), some (.dat (prD false h)), some (.dat (.tup acc)), some (.dat (enD false e))]) _ = _
    rw [hw, Option.bind_some]
    refine hz.trans ?_
    simp
theorem raised_ok {c : Col} {s : Int} {h : Tn} (hs : s.natAbs < 2 ^ 63) (hl : c.e.length ≤ 400) : m__law_raised [colD false false c, .int s, prD false h] = some (.dat (colD false false ⟨c.d, c.a, c.e.map (mv s h)⟩)) := by
  obtain ⟨z, hz⟩ := raised_loop (x0 := some (.dat (colD false false c))) (h := h) hs c.e [] none (by simp; omega)
  rw [List.nil_append] at hz
  unfold colD at hz ⊢
  rw [wrap_f, wrap_f] at hz ⊢
  generalize c.e.map (enD false) = L at *
  generalize prD false c.d = A at *
  generalize prD false h = B at *
  show _ = some (Rt.dat (.tup [A, .int c.a, .tup ((c.e.map (mv s h)).map (enD false))]))
  generalize (c.e.map (mv s h)).map (enD false) = R at *
  simp [m__law_raised, b__law_raised, hz]
theorem lseen_lc {x0 x1 : Option Sl} {o : List Int} {es : List En} (ho : ∀ v ∈ o, ∃ k : Nat, v = (k : Int) ∧ k < es.length) (hl : o.length ≤ 400) {fi : Fi} (hf : fi [x0, x1, some (.dat (.tup (es.map (enD false)))), none] = some (o.map Z.D.int, [x0, x1, some (.dat (.tup (es.map (enD false)))), none])) :
    lcS fi (nmB 3) yesT e__law_seen_1 [3] [x0, x1, some (.dat (.tup (es.map (enD false)))), none] = some (.own (.lst ((pick es o).map (enD false))), [x0, x1, some (.dat (.tup (es.map (enD false)))), none]) := by
  have key := lcS_mapC (i := 3) (f := e__law_seen_1) Z.D.int (fun v => enD false (es.getD v.toNat none)) hf (by omega) (.inl rfl) (by
    intro v hv
    obtain ⟨k, rfl, hk⟩ := ho v hv
    have ha := getD_atI (l := false) hk
    refine ⟨.dat (enD false (es.getD k none)), ?_, rfl⟩
    generalize es.map (enD false) = L at *
    simp [e__law_seen_1, ha])
  rw [key, pick_map]
theorem lseen_ok {f : OF} {c : Col} {s : Int} {o : List Int} {V : Nat} (hs : s.natAbs < 2 ^ 63) (ho : o.Perm (iota V)) (hc : c.e.length = V) (hV : V ≤ 4) :
    m__law_seen [colD false false c, .tup [.int s, ordD f o]] = some (.dat (colD false false ⟨c.d, c.a, pick (c.e.map (mv s (0, 0))) o⟩)) := by
  have ht : m__law_raised [colD false false c, .int s, .tup [.int 0, .int 0]] = some (.dat (colD false false ⟨c.d, c.a, c.e.map (mv s (0, 0))⟩)) := raised_ok (h := (0, 0)) hs (by omega)
  have hlo := ord_len ho
  have hl := lseen_lc (x0 := some (.dat (colD false false c))) (x1 := some (.dat (.tup [.int s, ordD f o]))) (o := o) (es := c.e.map (mv s (0, 0))) (fi := seqI (bin2 ixG (vS 1) (cS (.int 1))))
    (fun v hv => by obtain ⟨k, h1, h2⟩ := ord_nat ho hv; exact ⟨k, h1, by rw [List.length_map]; omega⟩) (by omega) (by simp)
  unfold colD at ht hl ⊢
  rw [wrap_f, wrap_f] at ht ⊢
  rw [wrap_f, wrap_f] at hl
  generalize c.e.map (enD false) = L at *
  generalize prD false c.d = A at *
  generalize c.e.map (mv s (0, 0)) = ES at *
  rw [wrap_f, wrap_f] at ht ⊢
  generalize (pick ES o).map (enD false) = R at *
  generalize ES.map (enD false) = E1 at *
  generalize ordD f o = O at *
  simp [-s_lcS, m__law_seen, b__law_seen, ht, hl]
theorem crossed_ok {f : OF} {c : Col} {x : Br} {V j k kd : Nat} (hx : BrOk V j k x) (hd : FrB kd c.d) (hc : c.e.length = V) (hV : V ≤ 4) (hk : kd + k ≤ 900) :
    m__law_crossed [colD false false c, brD false f x] = some (.dat (colD false false (cross c x))) := by
  have h1 := lseen_ok (f := f) (c := c) (br_s hx) hx.o hc hV
  have h2 := raised_ok (c := ⟨c.d, c.a, pick (c.e.map (mv x.s (0, 0))) x.o⟩) (s := 1) (h := x.i) (by decide) (by rw [pick_len, ord_len hx.o]; omega)
  have h3 := times_ok (l := false) (m := false) hd hx.b hk
  have e2 : colD false false ⟨c.d, c.a, (pick (c.e.map (mv x.s (0, 0))) x.o).map (mv 1 x.i)⟩ = .tup [prD false c.d, .int c.a, .tup ((crossE c.e x).map (enD false))] := rfl
  have e3 : colD false false (cross c x) = .tup [prD false (mulF c.d x.b), .int c.a, .tup ((crossE c.e x).map (enD false))] := rfl
  have e4 : colD false false c = .tup [prD false c.d, .int c.a, .tup (c.e.map (enD false))] := rfl
  rw [e2] at h2
  rw [e4] at h1
  rw [e3, e4]
  unfold brD
  generalize colD false false ⟨c.d, c.a, pick (c.e.map (mv x.s (0, 0))) x.o⟩ = C1 at *
  generalize c.e.map (enD false) = L at *
  generalize prD false c.d = A at *
  generalize prD false x.b = B at *
  generalize prD false x.i = I at *
  generalize prD false (mulF c.d x.b) = A2 at *
  generalize (crossE c.e x).map (enD false) = R at *
  generalize ordD f x.o = O at *
  rw [wrap_f]
  simp [m__law_crossed, b__law_crossed, cut2, h1, h2, h3]
/-! ### behind -/
theorem at_ord {V : Nat} {o : List Int} (h : o.Perm (iota V)) {k : Nat} (hk : k < V) : atI (o.map Z.D.int) (k : Int) = some (.int (ixO o k)) := by
  obtain ⟨j, h1, h2, h3⟩ := ord_ix h hk
  refine at_nat ?_
  rw [List.getElem?_map, h3]
  unfold ixO
  rw [Int.toNat_natCast, h1]
  rfl
theorem putb_ok {b c : Bool} {f g : OF} {x y : Br} {V j k j2 k2 : Nat} (hx : BrOk V j k x) (hy : BrOk V j2 k2 y) (hV : V ≤ 4) (hk : k + k2 ≤ 900) :
    m_put_behind [brD b f x, brD c g y] = some (.dat (brD false .t (behind x y))) := by
  have hs : okMul x.s y.s = true := okMul_l (br_s hx)
  have h1 := scaled_ok (t := x.i) (l := b) (br_s hy)
  have h2 := added_ok (t := (y.s * x.i.1, y.s * x.i.2)) (u := y.i) (l := false) (m := c)
  have h3 := prod_ok (l := b) (m := c) hx.b hy.b hk
  have e : brD false .t (behind x y) = .tup [.int (x.s * y.s), .tup (y.o.map fun v => .int (ixO x.o v)), prD false (y.s * x.i.1 + y.i.1, y.s * x.i.2 + y.i.2), prD false (mulF x.b y.b)] := by
    have e0 : (y.o.map (ixO x.o)).map Z.D.int = y.o.map fun v => Z.D.int (ixO x.o v) := by rw [List.map_map]; rfl
    rw [← e0]; rfl
  have key := lcS_mapC (fi := seqI (bin2 ixG (vS 1) (cS (.int 1)))) (i := 3) (f := e_put_behind_1) (env := [some (.dat (brD b f x)), some (.dat (brD c g y)), none, none, none]) (env1 := [some (.dat (brD b f x)), some (.dat (brD c g y)), none, none, none]) (xs := y.o) Z.D.int (fun v => .int (ixO x.o v))
    (by unfold brD; cases c <;> simp) (by rw [ord_len hy.o]; omega) (.inl rfl) (by
      intro v hv
      obtain ⟨i, rfl, hi⟩ := ord_nat hy.o hv
      have ha := at_ord hx.o hi
      refine ⟨.dat (.int (ixO x.o i)), ?_, rfl⟩
      unfold brD
      generalize wrap c _ = Y
      generalize (ixO x.o (i : Int)) = z at *
      cases b <;> simp [e_put_behind_1, ha])
  rw [e]
  unfold brD at key ⊢
  generalize (y.o.map fun v => Z.D.int (ixO x.o v)) = R at *
  generalize prD false (y.s * x.i.1 + y.i.1, y.s * x.i.2 + y.i.2) = I3 at *
  generalize prD false (y.s * x.i.1, y.s * x.i.2) = I2 at *
  generalize prD b x.i = I1 at *
  generalize prD c y.i = I4 at *
  generalize prD false (mulF x.b y.b) = B3 at *
  generalize prD b x.b = B1 at *
  generalize prD c y.b = B2 at *
  generalize ordD f x.o = O at *
  generalize ordD g y.o = P at *
  cases b <;> cases c
  · rw [wrap_f, wrap_f] at key ⊢
    simp [-s_lcS, m_put_behind, b_put_behind, key, h1, h2, h3, hs]
  · rw [wrap_f, wrap_t] at key ⊢
    simp [-s_lcS, m_put_behind, b_put_behind, key, h1, h2, h3, hs]
  · rw [wrap_t, wrap_f] at key ⊢
    simp [-s_lcS, m_put_behind, b_put_behind, key, h1, h2, h3, hs]
  · rw [wrap_t, wrap_t] at key ⊢
    simp [-s_lcS, m_put_behind, b_put_behind, key, h1, h2, h3, hs]
theorem lbehind_ok {f g : OF} {x y : Br} {V j k j2 k2 : Nat} (hx : BrOk V j k x) (hy : BrOk V j2 k2 y) (hV : V ≤ 4) (hk : k + k2 ≤ 900) :
    m__law_behind [brD false f x, brD false g y] = some (.dat (brD false .t (behind x y))) := by
  have hs : okMul x.s y.s = true := okMul_l (br_s hx)
  have h1 : ∀ z, okMul y.s z = true := fun z => okMul_l (br_s hy)
  have h3 := times_ok (l := false) (m := false) hx.b hy.b hk
  have e : brD false .t (behind x y) = .tup [.int (x.s * y.s), .tup (y.o.map fun v => .int (ixO x.o v)), .tup [.int (y.s * x.i.1 + y.i.1), .int (y.s * x.i.2 + y.i.2)], prD false (mulF x.b y.b)] := by
    have e0 : (y.o.map (ixO x.o)).map Z.D.int = y.o.map fun v => Z.D.int (ixO x.o v) := by rw [List.map_map]; rfl
    rw [← e0]; rfl
  have key := lcS_mapC (fi := seqI (bin2 ixG (vS 1) (cS (.int 1)))) (i := 3) (f := e__law_behind_1) (env := [some (.dat (brD false f x)), some (.dat (brD false g y)), none, none, none]) (env1 := [some (.dat (brD false f x)), some (.dat (brD false g y)), none, none, none]) (xs := y.o) Z.D.int (fun v => .int (ixO x.o v))
    (by unfold brD; simp) (by rw [ord_len hy.o]; omega) (.inl rfl) (by
      intro v hv
      obtain ⟨i, rfl, hi⟩ := ord_nat hy.o hv
      have ha := at_ord hx.o hi
      refine ⟨.dat (.int (ixO x.o i)), ?_, rfl⟩
      unfold brD
      generalize (ixO x.o (i : Int)) = z at *
      simp [e__law_behind_1, ha])
  rw [e]
  unfold brD at key ⊢
  generalize (y.o.map fun v => Z.D.int (ixO x.o v)) = R at *
  generalize prD false (mulF x.b y.b) = B3 at *
  generalize prD false x.b = B1 at *
  generalize prD false y.b = B2 at *
  unfold prD at key ⊢
  generalize ordD f x.o = O at *
  generalize ordD g y.o = P at *
  rw [wrap_f, wrap_f, wrap_f, wrap_f] at key ⊢
  simp [-s_lcS, m__law_behind, b__law_behind, key, h1, h3, hs]
/-! ### opposites -/
theorem idx_ord {f : OF} {o : List Int} {v : Int} (hf : f ≠ .t) : idxG (ordD f o) (.int v) = (fstI v o).bind fun j => some (.dat (.int (j : Nat))) := by
  cases f with
  | n => rfl
  | t => exact absurd rfl hf
  | l => show (intsOf (o.map Z.D.int)).bind _ = _; rw [intsOf_map]; rfl
theorem same_ord {f : OF} {o : List Int} (hf : f ≠ .t) : sameK (ordD f o) (ordD f o) = true := by
  cases f with
  | n => rfl
  | t => exact absurd rfl hf
  | l => rfl
def bk (o : List Int) (k : Nat) : Z.D := .int (((fstI (k : Int) o).getD 0 : Nat) : Int)
theorem backO_D {o : List Int} : (backO o).map Z.D.int = (List.range o.length).map (bk o) := by unfold backO; rw [List.map_map]; rfl
def nD (j : Nat) : Z.D := .int (j : Int)
theorem rng0 (n : Nat) : rngD 0 n = (List.range n).map nD := by
  unfold rngD
  refine List.map_congr_left fun k _ => ?_
  show Z.D.int ((0 : Int) + (k : Int)) = Z.D.int (k : Int)
  congr 1; omega
theorem lback_ok {o : List Int} {V : Nat} (ho : o.Perm (iota V)) (hV : V ≤ 4) : m__law_back [.itup o] = some (.dat (.tup ((backO o).map Z.D.int))) := by
  have hlo := ord_len ho
  have hlo2 : o.length < 2305843009213693952 := by omega
  have key := lcS_mapC (fi := rngI1 (consL (cbS lenG (consL (vS 0) nilL)) nilL)) (i := 1) (f := e__law_back_1) (env := [some (.dat (.itup o)), none]) (env1 := [some (.dat (.itup o)), none]) (xs := List.range o.length) nD (bk o)
    (by simp [rng0, hlo2]) (by simp; omega) (.inl rfl) (by
      intro k hk
      obtain ⟨i, h1, h2, h3⟩ := back_ix ho (show k < V by have := List.mem_range.mp hk; omega)
      refine ⟨.dat (bk o k), ?_, rfl⟩
      have e : bk o k = .int (i : Int) := by unfold bk; rw [h2]; rfl
      rw [e]
      simp [e__law_back_1, nD, h2])
  rw [backO_D]
  generalize (List.range o.length).map (bk o) = R at *
  simp [-s_lcS, m__law_back, b__law_back, key]
theorem lopp_ok {x : Br} {V j k : Nat} (hx : BrOk V j k x) (hV : V ≤ 4) : m__law_opposite [brD false .n x] = some (.dat (brD false .t (opp x))) := by
  have h1 : ∀ z, okMul (-x.s) z = true := fun z => okMul_l (by have := br_s hx; omega)
  have h2 := lback_ok hx.o hV
  show _ = some (Rt.dat (.tup [.int x.s, .tup ((backO x.o).map Z.D.int), .tup [.int (-x.s * x.i.1), .int (-x.s * x.i.2)], .tup [.int x.b.2, .int x.b.1]]))
  generalize (backO x.o).map Z.D.int = R at *
  unfold brD prD ordD
  rw [wrap_f, wrap_f, wrap_f]
  simp [m__law_opposite, b__law_opposite, h1, h2]
theorem opp_ok {b : Bool} {f : OF} {x : Br} {V j k : Nat} (hx : BrOk V j k x) (hV : V ≤ 4) (hk : k ≤ 900) (hf : f ≠ .t) : m_opposite_bridge [brD b f x] = some (.dat (brD false .t (opp x))) := by
  have hlo := ord_len hx.o
  have hlo2 : x.o.length < 2305843009213693952 := by omega
  have h1 := scaled_ok (t := x.i) (s := -x.s) (l := b) (by have := br_s hx; omega)
  have h2 := quot_ok (m := b) hx.b hk
  have key := lcS_mapC (fi := rngI1 (consL (cbS lenG (consL (vS 2) nilL)) nilL)) (i := 6) (f := e_opposite_bridge_1) (env := [some (.dat (brD b f x)), some (.dat (.int x.s)), some (.dat (ordD f x.o)), some (.dat (prD b x.i)), some (.dat (prD b x.b)), none, none]) (env1 := [some (.dat (brD b f x)), some (.dat (.int x.s)), some (.dat (ordD f x.o)), some (.dat (prD b x.i)), some (.dat (prD b x.b)), none, none]) (xs := List.range x.o.length) nD (bk x.o)
    (by simp [rng0, hlo2]) (by simp; omega) (.inl rfl) (by
      intro k hk
      obtain ⟨i, h1, h2, h3⟩ := back_ix hx.o (show k < V by have := List.mem_range.mp hk; omega)
      refine ⟨.dat (bk x.o k), ?_, rfl⟩
      have e : bk x.o k = .int (i : Int) := by unfold bk; rw [h2]; rfl
      have e2 := idx_ord (o := x.o) (v := (k : Int)) hf
      have e3 := same_ord (o := x.o) hf
      rw [h2] at e2
      rw [e]
      generalize brD b f x = B
      generalize prD b x.i = I
      generalize prD b x.b = J
      generalize ordD f x.o = O at *
      simp [e_opposite_bridge_1, nD, e2, e3])
  have e : brD false .t (opp x) = .tup [.int x.s, .tup ((List.range x.o.length).map (bk x.o)), prD false (-x.s * x.i.1, -x.s * x.i.2), prD false (x.b.2, x.b.1)] := by
    rw [← backO_D]; rfl
  rw [e]
  unfold brD at key ⊢
  generalize (List.range x.o.length).map (bk x.o) = R at *
  generalize prD false (-x.s * x.i.1, -x.s * x.i.2) = I2 at *
  generalize prD false (x.b.2, x.b.1) = B2 at *
  generalize prD b x.i = I1 at *
  generalize prD b x.b = B1 at *
  generalize ordD f x.o = O at *
  cases b
  · rw [wrap_f] at key ⊢
    simp [-s_lcS, m_opposite_bridge, b_opposite_bridge, key, h1, h2]
  · rw [wrap_t] at key ⊢
    simp [-s_lcS, m_opposite_bridge, b_opposite_bridge, key, h1, h2]
end K86

set_option Elab.async false
set_option linter.all false
set_option maxRecDepth 100000
set_option maxHeartbeats 1000000
namespace K86
open PySem PySem.Spec PyProof.Rows L2 Z
/-! ### same -/
theorem same_int {n : Nat} {a : Int} : m__law_same (n + 1) [.int a, .int a] = some (.dat (.bl true)) := by
  have h : m__law_is_integer [.int a] = some (.dat (.bl true)) := by simp [m__law_is_integer, b__law_is_integer, kindD, okTy, isTy]
  unfold m__law_same
  simp [b__law_same, kindD, okTy, isTy, h]
theorem same_non {n : Nat} : m__law_same (n + 1) [.non, .non] = some (.dat (.bl true)) := by
  unfold m__law_same
  simp [b__law_same, kindD, okTy, isTy]
theorem same_bl {n : Nat} {b : Bool} : m__law_same (n + 1) [.bl b, .bl b] = some (.dat (.bl true)) := by
  unfold m__law_same
  simp [b__law_same, kindD, okTy, isTy]
theorem bls_const {α : Type} (xs : List α) : blsOf (xs.map fun _ => Z.D.bl true) = some (xs.map fun _ => true) := by
  have := blsOf_map (xs.map fun _ => true)
  rw [List.map_map] at this
  exact this
/-- what two sequences of a kind are to the law -/
theorem same_seq {n m : Nat} {A D : Z.D} {as ds : List Z.D} {kd : String} (hkd : kd = "tuple" ∨ kd = "list") (ka : kindD A = some kd) (kd' : kindD D = some kd) (la : lenG [A] = some (.dat (.int (m : Int)))) (ld : lenG [D] = some (.dat (.int (m : Int))))
    (xa : ∀ i, ixG A (.int i) = (atI as i).bind fun d => some (.dat d)) (xd : ∀ i, ixG D (.int i) = (atI ds i).bind fun d => some (.dat d)) (hm : m ≤ 2000)
    (h : ∀ k < m, ∃ a d, as[k]? = some a ∧ ds[k]? = some d ∧ m__law_same n [a, d] = some (.dat (.bl true))) : m__law_same (n + 1) [A, D] = some (.dat (.bl true)) := by
  have g : m < 2305843009213693952 := by omega
  have key := lcS_mapC (fi := rngI1 (consL (cbS lenG (consL (vS 1) nilL)) nilL)) (i := 2) (f := e__law_same_1 (m__law_same n)) (env := [some (.dat A), some (.dat D), none]) (env1 := [some (.dat A), some (.dat D), none]) (xs := List.range m) nD (fun _ => .bl true) (by simp [g, rng0, ld]) (by simp; omega) (.inl rfl) (by
    intro k hk
    obtain ⟨a, d, h1, h2, h3⟩ := h k (List.mem_range.mp hk)
    have ha := at_nat h1
    have hd := at_nat h2
    exact ⟨.dat (.bl true), by simp [e__law_same_1, nD, xa, xd, ha, hd, h3], rfl⟩)
  have hb := bls_const (List.range m)
  generalize ((List.range m).map fun _ => Z.D.bl true) = R at *
  unfold m__law_same
  rw [s_runP]
  show Option.bind (b__law_same (m__law_same n) [some (.dat A), some (.dat D), none]) fin = _
  unfold b__law_same
  rcases hkd with rfl | rfl
  · simp [-s_lcS, ka, kd', okTy, isTy, la, ld, key, hb]
  · simp [-s_lcS, ka, kd', okTy, isTy, la, ld, key, hb]
theorem same_wrap {α : Type} {n : Nat} {b : Bool} (g r : α → Z.D) {xs : List α} (hl : xs.length ≤ 2000) (h : ∀ x ∈ xs, m__law_same n [g x, r x] = some (.dat (.bl true))) : m__law_same (n + 1) [wrap b (xs.map g), wrap b (xs.map r)] = some (.dat (.bl true)) := by
  have k : ∀ k < xs.length, ∃ a d, (xs.map g)[k]? = some a ∧ (xs.map r)[k]? = some d ∧ m__law_same n [a, d] = some (.dat (.bl true)) := fun k hk =>
    ⟨g xs[k], r xs[k], by rw [List.getElem?_map, List.getElem?_eq_getElem hk]; rfl, by rw [List.getElem?_map, List.getElem?_eq_getElem hk]; rfl, h _ (List.getElem_mem _)⟩
  cases b
  · exact same_seq (m := xs.length) (.inl rfl) rfl rfl (by simp) (by simp) (fun i => rfl) (fun i => rfl) hl k
  · exact same_seq (m := xs.length) (.inr rfl) rfl rfl (by simp) (by simp) (fun i => rfl) (fun i => rfl) hl k
theorem same_wrapD {n : Nat} {b : Bool} {xs : List (Z.D × Z.D)} (hl : xs.length ≤ 2000) (h : ∀ x ∈ xs, m__law_same n [x.1, x.2] = some (.dat (.bl true))) : m__law_same (n + 1) [wrap b (xs.map Prod.fst), wrap b (xs.map Prod.snd)] = some (.dat (.bl true)) := same_wrap Prod.fst Prod.snd hl h
theorem kd_ord {f : OF} {o : List Int} (h : f ≠ .l) : kindD (ordD f o) = some "tuple" := by
  cases f with
  | n => rfl
  | t => rfl
  | l => exact absurd rfl h
theorem same_ordD {n : Nat} {f g : OF} {o : List Int} (hf : f ≠ .l) (hg : g ≠ .l) (hl : o.length ≤ 2000) : m__law_same (n + 2) [ordD f o, ordD g o] = some (.dat (.bl true)) :=
  same_seq (n := n + 1) (m := o.length) (.inl rfl) (kd_ord hf) (kd_ord hg) len_ord len_ord (fun i => ix_ord) (fun i => ix_ord) hl fun k hk =>
    ⟨.int o[k], .int o[k], by rw [List.getElem?_map, List.getElem?_eq_getElem hk]; rfl, by rw [List.getElem?_map, List.getElem?_eq_getElem hk]; rfl, same_int⟩
theorem same_pr {n : Nat} {p : Int × Int} : m__law_same (n + 2) [prD false p, prD false p] = some (.dat (.bl true)) :=
  same_wrapD (n := n + 1) (b := false) (xs := [(.int p.1, .int p.1), (.int p.2, .int p.2)]) (by simp) (fun x hx => by
    simp only [List.mem_cons, List.mem_nil_iff, or_false] at hx
    rcases hx with rfl | rfl <;> exact same_int)
theorem same_br {n : Nat} {f g : OF} {x : Br} (hf : f ≠ .l) (hg : g ≠ .l) (hl : x.o.length ≤ 2000) : m__law_same (n + 3) [brD false f x, brD false g x] = some (.dat (.bl true)) :=
  same_wrapD (n := n + 2) (b := false) (xs := [(.int x.s, .int x.s), (ordD f x.o, ordD g x.o), (prD false x.i, prD false x.i), (prD false x.b, prD false x.b)]) (by simp) (fun z hz => by
    simp only [List.mem_cons, List.mem_nil_iff, or_false] at hz
    rcases hz with rfl | rfl | rfl | rfl
    · exact same_int
    · exact same_ordD hf hg hl
    · exact same_pr
    · exact same_pr)
theorem same_en {n : Nat} {e : En} : m__law_same (n + 3) [enD false e, enD false e] = some (.dat (.bl true)) := by
  cases e with
  | none => exact same_non
  | some t =>
    obtain ⟨t, b⟩ := t
    exact same_wrapD (n := n + 2) (b := false) (xs := [(prD false t, prD false t), (.bl b, .bl b)]) (by simp) (fun z hz => by
      simp only [List.mem_cons, List.mem_nil_iff, or_false] at hz
      rcases hz with rfl | rfl
      · exact same_pr
      · exact same_bl)
theorem same_col {n : Nat} {c : Col} (hl : c.e.length ≤ 2000) : m__law_same (n + 5) [colD false false c, colD false false c] = some (.dat (.bl true)) :=
  same_wrapD (n := n + 4) (b := false) (xs := [(prD false c.d, prD false c.d), (.int c.a, .int c.a), (wrap false (c.e.map (enD false)), wrap false (c.e.map (enD false)))]) (by simp) (fun z hz => by
    simp only [List.mem_cons, List.mem_nil_iff, or_false] at hz
    rcases hz with rfl | rfl | rfl
    · exact same_pr
    · exact same_int
    · exact same_wrap (n := n + 3) (b := false) _ _ hl (fun e _ => same_en))
theorem same_cls {n : Nat} {cs : List Col} (hl : cs.length ≤ 2000) (h : ∀ c ∈ cs, c.e.length ≤ 2000) : m__law_same (n + 6) [clsD false false false cs, clsD false false false cs] = some (.dat (.bl true)) :=
  same_wrap (n := n + 5) (b := false) _ _ hl (fun c hc => same_col (h c hc))
/-! ### as lists -/
theorem listed_int {n : Nat} {a : Int} : m__law_listed (n + 1) [.int a] = some (.dat (.int a)) := by
  unfold m__law_listed
  simp [b__law_listed, kindD, okTy, isTy]
theorem listed_non {n : Nat} : m__law_listed (n + 1) [.non] = some (.dat .non) := by
  unfold m__law_listed
  simp [b__law_listed, kindD, okTy, isTy]
theorem listed_bl {n : Nat} {b : Bool} : m__law_listed (n + 1) [.bl b] = some (.dat (.bl b)) := by
  unfold m__law_listed
  simp [b__law_listed, kindD, okTy, isTy]
theorem listed_seq {α : Type} {n : Nat} {A : Z.D} (g r : α → Z.D) {xs : List α} (ka : kindD A = some "tuple") (ia : itemsOf A = some (xs.map g)) (hl : xs.length ≤ 2000) (h : ∀ x ∈ xs, ∃ rv, m__law_listed n [g x] = some rv ∧ (rv = .dat (r x) ∨ ∃ ds, rv = .own (.lst ds) ∧ r x = .lst ds)) :
    m__law_listed (n + 1) [A] = some (.own (.lst (xs.map r))) := by
  have key := lcS_mapC (fi := seqI (vS 0)) (i := 1) (f := e__law_listed_1 (m__law_listed n)) (env := [some (.dat A), none]) (env1 := [some (.dat A), none]) (xs := xs) g r (by simp [ia]) (by omega) (.inl rfl) (by
    intro x hx
    obtain ⟨rv, h1, h2⟩ := h x hx
    rcases h2 with rfl | ⟨ds, rfl, e⟩
    · exact ⟨.dat (r x), by simp [e__law_listed_1, h1], rfl⟩
    · rw [e]
      exact ⟨.own (.lst ds), by simp [e__law_listed_1, h1], rfl⟩)
  generalize xs.map r = R at *
  unfold m__law_listed
  rw [s_runP]
  show Option.bind (b__law_listed (m__law_listed n) [some (.dat A), none]) fin = _
  unfold b__law_listed
  simp [-s_lcS, ka, okTy, isTy, key]
def Lst (n : Nat) (a r : Z.D) : Prop := ∃ rv, m__law_listed n [a] = some rv ∧ (rv = .dat r ∨ ∃ ds, rv = .own (.lst ds) ∧ r = .lst ds)
theorem Lst.own {n : Nat} {a : Z.D} {ds : List Z.D} (h : m__law_listed n [a] = some (.own (.lst ds))) : Lst n a (.lst ds) := ⟨_, h, .inr ⟨ds, rfl, rfl⟩⟩
theorem Lst.dat {n : Nat} {a r : Z.D} (h : m__law_listed n [a] = some (.dat r)) : Lst n a r := ⟨_, h, .inl rfl⟩
theorem listed_wrapD {n : Nat} {xs : List (Z.D × Z.D)} (hl : xs.length ≤ 2000) (h : ∀ x ∈ xs, Lst n x.1 x.2) : m__law_listed (n + 1) [.tup (xs.map Prod.fst)] = some (.own (.lst (xs.map Prod.snd))) := listed_seq _ _ rfl rfl hl h
theorem listed_ord {n : Nat} {o : List Int} (hl : o.length ≤ 2000) : m__law_listed (n + 2) [.itup o] = some (.own (.lst (o.map Z.D.int))) :=
  listed_seq (n := n + 1) Z.D.int Z.D.int rfl rfl hl (fun x _ => Lst.dat listed_int)
theorem listed_pr {n : Nat} {p : Int × Int} : m__law_listed (n + 2) [prD false p] = some (.own (.lst [.int p.1, .int p.2])) :=
  listed_wrapD (n := n + 1) (xs := [(.int p.1, .int p.1), (.int p.2, .int p.2)]) (by simp) (fun x hx => by
    simp only [List.mem_cons, List.mem_nil_iff, or_false] at hx
    rcases hx with rfl | rfl <;> exact Lst.dat listed_int)
theorem listed_br {n : Nat} {x : Br} (hl : x.o.length ≤ 2000) : m__law_listed (n + 3) [brD false .n x] = some (.own (.lst [.int x.s, ordD .l x.o, prD true x.i, prD true x.b])) :=
  listed_wrapD (n := n + 2) (xs := [(.int x.s, .int x.s), (ordD .n x.o, ordD .l x.o), (prD false x.i, prD true x.i), (prD false x.b, prD true x.b)]) (by simp) (fun z hz => by
    simp only [List.mem_cons, List.mem_nil_iff, or_false] at hz
    rcases hz with rfl | rfl | rfl | rfl
    · exact Lst.dat listed_int
    · exact Lst.own (listed_ord hl)
    · exact Lst.own listed_pr
    · exact Lst.own listed_pr)
theorem listed_en {n : Nat} {e : En} : Lst (n + 3) (enD false e) (enD true e) := by
  cases e with
  | none => exact Lst.dat listed_non
  | some t =>
    obtain ⟨t, b⟩ := t
    exact Lst.own (listed_wrapD (n := n + 2) (xs := [(prD false t, prD true t), (.bl b, .bl b)]) (by simp) (fun z hz => by
      simp only [List.mem_cons, List.mem_nil_iff, or_false] at hz
      rcases hz with rfl | rfl
      · exact Lst.own listed_pr
      · exact Lst.dat listed_bl))
theorem listed_col {n : Nat} {c : Col} (hl : c.e.length ≤ 2000) : Lst (n + 5) (colD false false c) (colD true true c) :=
  Lst.own (listed_wrapD (n := n + 4) (xs := [(prD false c.d, prD true c.d), (.int c.a, .int c.a), (wrap false (c.e.map (enD false)), wrap true (c.e.map (enD true)))]) (by simp) (fun z hz => by
    simp only [List.mem_cons, List.mem_nil_iff, or_false] at hz
    rcases hz with rfl | rfl | rfl
    · exact Lst.own listed_pr
    · exact Lst.dat listed_int
    · exact Lst.own (listed_seq (n := n + 3) _ _ rfl rfl hl (fun e _ => listed_en))))
theorem listed_cls {n : Nat} {cs : List Col} (hl : cs.length ≤ 2000) (h : ∀ c ∈ cs, c.e.length ≤ 2000) : m__law_listed (n + 6) [clsD false false false cs] = some (.own (.lst (cs.map (colD true true)))) :=
  listed_seq (n := n + 5) _ _ rfl rfl hl (fun c hc => listed_col (h c hc))
end K86

set_option Elab.async false
set_option linter.all false
set_option maxRecDepth 100000
set_option maxHeartbeats 1000000
namespace Z
open PySem PySem.Spec PyProof.Rows L2
@[simp] theorem s_eqL {ds es : List Z.D} : eqG (.lst ds) (.lst es) = (intsOf ds).bind fun ns => (intsOf es).bind fun ms => some (decide (ns = ms)) := rfl
@[simp] theorem s_lrg {fs : Fa} {env : En} : lrgS fs env = (fs env).bind fun p => (rdL p.2 p.1).bind fun ds => match ds with
  | [.int n] => if n.natAbs ≤ 16777216 then some (.own (.lst (rngD 0 n.toNat)), p.2) else none
  | _ => none := rfl
@[simp] theorem s_tys0 : tysOf [] = some [] := rfl
@[simp] theorem s_tys {n : String} {r : List Z.D} : tysOf (.ty n :: r) = (tysOf r).bind fun ns => some (n :: ns) := rfl
@[simp] theorem s_inG {b : Bool} {i : Int} {ds : List Z.D} : inG b (.int i) (.tup ds) = (intsOf ds).bind fun ns => some (decide (i ∈ ns) != b) := rfl
end Z
namespace K86
open PySem PySem.Spec PyProof.Rows L2 Z
def isW (k : String) : Bool := k == "int"
def okK (k : String) : Prop := k = "NoneType" ∨ k = "bool" ∨ k = "int" ∨ k = "str" ∨ k = "tuple" ∨ k = "list" ∨ k = "dict"
theorem whole_ok {d : Z.D} {k : String} (h : kindD d = some k) (hk : okK k) : m_is_whole [d] = some (.dat (.bl (isW k))) := by
  rcases hk with rfl | rfl | rfl | rfl | rfl | rfl | rfl <;> simp [m_is_whole, b_is_whole, h, okTy, isTy, isW]
theorem whole_int {i : Int} : m_is_whole [.int i] = some (.dat (.bl true)) := whole_ok (d := .int i) rfl (.inr (.inr (.inl rfl)))
/-- the kind of a datum of an order -/
def KD (d : Z.D) : Prop := ∃ k, kindD d = some k ∧ okK k
def wOf (d : Z.D) : Bool := match kindD d with
  | some k => isW k
  | none => false
theorem whole_kd {d : Z.D} (h : KD d) : m_is_whole [d] = some (.dat (.bl (wOf d))) := by
  obtain ⟨k, h1, h2⟩ := h
  unfold wOf
  rw [h1]
  exact whole_ok h1 h2
theorem bls_mapC {α : Type} (xs : List α) (g : α → Bool) : blsOf (xs.map fun x => Z.D.bl (g x)) = some (xs.map g) := by
  have := blsOf_map (xs.map g)
  rw [List.map_map] at this
  exact this
theorem iota_rng {V : Nat} : rngD 0 V = (iota V).map Z.D.int := by
  rw [rng0]
  unfold iota
  rw [List.map_map]
  rfl
/-- an order of anything -/
theorem isord_any {A : Z.D} {ds : List Z.D} {kd : String} {V : Nat} (hkd : kd = "tuple" ∨ kd = "list") (ka : kindD A = some kd) (ia : itemsOf A = some ds) (hl : ds.length ≤ 2000) (hV : V ≤ 4) (h : ∀ d ∈ ds, KD d) :
    ((ds.all wOf = false) → m_is_order [A, .int (V : Int)] = some (.dat (.bl false))) ∧
    ((ds.all wOf = true) → ∀ ns, sortG [A] = some (.own (.lst ((sortI ns).map Z.D.int))) → m_is_order [A, .int (V : Int)] = some (.dat (.bl (decide (sortI ns = iota V))))) := by
  have key := lcS_mapC (fi := seqI (vS 0)) (i := 2) (f := e_is_order_1) (env := [some (.dat A), some (.dat (.int (V : Int))), none]) (env1 := [some (.dat A), some (.dat (.int (V : Int))), none]) (xs := ds) (fun d => d) (fun d => .bl (wOf d)) (by simp [ia]) (by omega) (.inl rfl) (by
    intro d hd
    have := whole_kd (h d hd)
    exact ⟨.dat (.bl (wOf d)), by simp [e_is_order_1, this], rfl⟩)
  have hb := bls_mapC ds wOf
  generalize (ds.map fun d => Z.D.bl (wOf d)) = R at *
  have hV2 : V ≤ 16777216 := by omega
  have ha : (ds.map wOf).all id = ds.all wOf := by rw [List.all_map]; rfl
  generalize ds.map wOf = W at *
  constructor
  · intro c
    rw [c] at ha
    rcases hkd with rfl | rfl <;> simp [-s_lcS, m_is_order, b_is_order, ka, okTy, isTy, key, hb, ha]
  · intro c ns hs
    rw [c] at ha
    rcases hkd with rfl | rfl <;> simp [-s_lcS, m_is_order, b_is_order, ka, okTy, isTy, key, hb, ha, hs, hV2, iota_rng]
end K86

set_option Elab.async false
set_option linter.all false
set_option maxRecDepth 100000
set_option maxHeartbeats 1000000
namespace K86
open PySem PySem.Spec PyProof.Rows L2 Z
theorem isord_ok {f : OF} {ns : List Int} {V : Nat} (hl : ns.length ≤ 2000) (hV : V ≤ 4) : m_is_order [ordD f ns, .int (V : Int)] = some (.dat (.bl (decide (sortI ns = iota V)))) := by
  obtain ⟨kd, h1, h2⟩ : ∃ kd, (kd = "tuple" ∨ kd = "list") ∧ kindD (ordD f ns) = some kd := by cases f <;> exact ⟨_, by first | exact .inl rfl | exact .inr rfl, rfl⟩
  refine (isord_any h1 h2 it_ord (by simpa using hl) hV (fun d hd => ?_)).2 ?_ ns ?_
  · obtain ⟨i, _, rfl⟩ := List.mem_map.mp hd
    exact ⟨"int", rfl, .inr (.inr (.inl rfl))⟩
  · rw [List.all_eq_true]
    intro d hd
    obtain ⟨i, _, rfl⟩ := List.mem_map.mp hd
    rfl
  · cases f
    · rfl
    · show (intsOf (ns.map Z.D.int)).bind _ = _; rw [intsOf_map]; rfl
    · show (intsOf (ns.map Z.D.int)).bind _ = _; rw [intsOf_map]; rfl
/-! ### fractions -/
def nonSeq (d : Z.D) : Prop := ∃ k, kindD d = some k ∧ (k = "NoneType" ∨ k = "int" ∨ k = "str" ∨ k = "bool" ∨ k = "dict")
def seqN (d : Z.D) (n : Nat) : Prop := ∃ ds, ds.length = n ∧ (d = .tup ds ∨ d = .lst ds)
theorem isord_non {d : Z.D} {V : Int} (h : nonSeq d) : m_is_order [d, .int V] = some (.dat (.bl false)) := by
  obtain ⟨k, h1, h2⟩ := h
  rcases h2 with rfl | rfl | rfl | rfl | rfl <;> simp [m_is_order, b_is_order, h1, okTy, isTy]
theorem isfr_non {d : Z.D} (h : nonSeq d) : m_is_fraction [d] = some (.dat (.bl false)) := by
  obtain ⟨k, h1, h2⟩ := h
  rcases h2 with rfl | rfl | rfl | rfl | rfl <;> simp [m_is_fraction, b_is_fraction, h1, okTy, isTy]
theorem isfr_len {d : Z.D} {n : Nat} (h : seqN d n) (hn : n ≠ 2) : m_is_fraction [d] = some (.dat (.bl false)) := by
  obtain ⟨ds, rfl, rfl | rfl⟩ := h
  · have : ¬ (ds.length : Int) = 2 := by omega
    simp [m_is_fraction, b_is_fraction, neG, kindD, okTy, isTy, this]
  · have : ¬ (ds.length : Int) = 2 := by omega
    simp [m_is_fraction, b_is_fraction, neG, kindD, okTy, isTy, this]
theorem part_ok {env : Z.En} {d : Z.D} {v0 : Option Sl} (h : KD d) : e_is_fraction_1 [v0, some (.dat d)] = some (.dat (.bl (!wOf d)), [v0, some (.dat d)]) := by
  obtain ⟨k, h1, h2⟩ := h
  unfold wOf
  rw [h1]
  rcases h2 with rfl | rfl | rfl | rfl | rfl | rfl | rfl <;> simp [e_is_fraction_1, h1, okTy, isTy, isW]
theorem isfr_lc {b : Bool} {x y : Z.D} (hx : KD x) (hy : KD y) : lcS (seqI (vS 0)) (nmB 1) yesT e_is_fraction_1 [1] [some (.dat (wrap b [x, y])), none] = some (.own (.lst [.bl (!wOf x), .bl (!wOf y)]), [some (.dat (wrap b [x, y])), none]) := by
  exact lcS_mapC (fi := seqI (vS 0)) (i := 1) (f := e_is_fraction_1) (xs := [x, y]) (fun d => d) (fun d => .bl (!wOf d)) (by simp [it_wrap]) (by simp) (.inl rfl) (by
    intro d hd
    refine ⟨.dat (.bl (!wOf d)), part_ok (env := []) ?_, rfl⟩
    simp only [List.mem_cons, List.mem_nil_iff, or_false] at hd
    rcases hd with rfl | rfl
    · exact hx
    · exact hy)
theorem isfr_kd {b : Bool} {x y : Z.D} (hx : KD x) (hy : KD y) (h : (wOf x && wOf y) = false) : m_is_fraction [wrap b [x, y]] = some (.dat (.bl false)) := by
  have key := isfr_lc (b := b) hx hy
  generalize wOf x = p at *
  generalize wOf y = q at *
  have hpq : ∀ α : Type, ∀ s t : α, (if (!p || !q) = true then s else t) = s := by intro α s t; cases p <;> cases q <;> simp at h ⊢
  cases b
  · rw [wrap_f] at key ⊢
    cases p <;> cases q <;> simp at h <;> simp [-s_lcS, m_is_fraction, b_is_fraction, neG, kindD, okTy, isTy, key, anyG, blsOf]
  · rw [wrap_t] at key ⊢
    cases p <;> cases q <;> simp at h <;> simp [-s_lcS, m_is_fraction, b_is_fraction, neG, kindD, okTy, isTy, key, anyG, blsOf]
theorem kd_int {i : Int} : KD (.int i) := ⟨"int", rfl, .inr (.inr (.inl rfl))⟩
theorem isfr_ok {b : Bool} {p q : Int} : m_is_fraction [wrap b [.int p, .int q]] = some (.dat (.bl (decide (0 < q) && decide (Nat.gcd p.natAbs q.natAbs = 1)))) := by
  have key := isfr_lc (b := b) (kd_int (i := p)) (kd_int (i := q))
  rw [show wOf (.int p) = true from rfl, show wOf (.int q) = true from rfl] at key
  have hg : (((Nat.gcd p.natAbs q.natAbs : Nat) : Int) = 1) ↔ Nat.gcd p.natAbs q.natAbs = 1 := by omega
  by_cases c : 0 < q
  · cases b
    · rw [wrap_f] at key ⊢
      simp [-s_lcS, m_is_fraction, b_is_fraction, neG, kindD, okTy, isTy, key, anyG, blsOf, c, hg]
    · rw [wrap_t] at key ⊢
      simp [-s_lcS, m_is_fraction, b_is_fraction, neG, kindD, okTy, isTy, key, anyG, blsOf, c, hg]
  · cases b
    · rw [wrap_f] at key ⊢
      simp [-s_lcS, m_is_fraction, b_is_fraction, neG, kindD, okTy, isTy, key, anyG, blsOf, c]
    · rw [wrap_t] at key ⊢
      simp [-s_lcS, m_is_fraction, b_is_fraction, neG, kindD, okTy, isTy, key, anyG, blsOf, c]
end K86

set_option Elab.async false
set_option linter.all false
set_option maxRecDepth 100000
set_option maxHeartbeats 1000000
namespace K86
open PySem PySem.Spec PyProof.Rows L2 Z
/-! ### bridges, and what is none -/
theorem kT {ds : List Z.D} : kindD (.tup ds) = some "tuple" := rfl
theorem kL {ds : List Z.D} : kindD (.lst ds) = some "list" := rfl
abbrev nob (d : Z.D) (V : Int) : Prop := m_is_bridge [d, .int V] = some (.dat (.bl false))
theorem nob_non {d : Z.D} {V : Int} (h : nonSeq d) : nob d V := by
  obtain ⟨k, h1, h2⟩ := h
  rcases h2 with rfl | rfl | rfl | rfl | rfl <;> simp [nob, m_is_bridge, b_is_bridge, h1, okTy, isTy]
theorem nob_len {d : Z.D} {V : Int} {n : Nat} (h : seqN d n) (hn : n ≠ 4) : nob d V := by
  obtain ⟨ds, rfl, rfl | rfl⟩ := h
  · have : ¬ (ds.length : Int) = 4 := by omega
    simp [nob, m_is_bridge, b_is_bridge, neG, kT, kL, okTy, isTy, this]
  · have : ¬ (ds.length : Int) = 4 := by omega
    simp [nob, m_is_bridge, b_is_bridge, neG, kT, kL, okTy, isTy, this]
section
variable {b : Bool} {d O I B : Z.D} {s V : Int}
theorem nob_sign (h : KD d) (hw : wOf d = false) : nob (wrap b [d, O, I, B]) V := by
  have := whole_kd h
  rw [hw] at this
  cases b <;> simp [nob, m_is_bridge, b_is_bridge, neG, kT, kL, okTy, isTy, this]
theorem nob_sgn (h1 : s ≠ 1) (h2 : s ≠ -1) : nob (wrap b [.int s, O, I, B]) V := by
  have := whole_int (i := s)
  cases b <;> simp [nob, m_is_bridge, b_is_bridge, neG, kT, kL, okTy, isTy, this, intsOf, h1, h2]
variable (hs : s = 1 ∨ s = -1)
include hs
theorem nob_ord (ho : m_is_order [O, .int V] = some (.dat (.bl false))) : nob (wrap b [.int s, O, I, B]) V := by
  rcases hs with rfl | rfl
  · have := whole_int (i := 1)
    cases b <;> simp [nob, m_is_bridge, b_is_bridge, neG, kT, kL, okTy, isTy, this, intsOf, ho]
  · have := whole_int (i := -1)
    cases b <;> simp [nob, m_is_bridge, b_is_bridge, neG, kT, kL, okTy, isTy, this, intsOf, ho]
variable (ho : m_is_order [O, .int V] = some (.dat (.bl true)))
include ho
theorem nob_inon (h : nonSeq I) : nob (wrap b [.int s, O, I, B]) V := by
  obtain ⟨k, h1, h2⟩ := h
  have w1 := whole_int (i := 1)
  have w2 := whole_int (i := -1)
  rcases hs with rfl | rfl <;> rcases h2 with rfl | rfl | rfl | rfl | rfl <;> cases b <;> simp [nob, m_is_bridge, b_is_bridge, neG, kT, kL, okTy, isTy, w1, w2, intsOf, ho, h1]
theorem nob_ilen {n : Nat} (h : seqN I n) (hn : n ≠ 2) : nob (wrap b [.int s, O, I, B]) V := by
  have w1 := whole_int (i := 1)
  have w2 := whole_int (i := -1)
  obtain ⟨ds, rfl, h⟩ := h
  have c : ¬ (ds.length : Int) = 2 := by omega
  rcases hs with rfl | rfl <;> rcases h with rfl | rfl <;> cases b <;> simp [nob, m_is_bridge, b_is_bridge, neG, kT, kL, okTy, isTy, w1, w2, intsOf, ho, c]
omit hs ho in
theorem isb_lc {c : Bool} {x y : Z.D} {v0 v1 v2 v3 v5 : Option Sl} (hx : KD x) (hy : KD y) : lcS (seqI (vS 4)) (nmB 6) yesT e_is_bridge_1 [6] [v0, v1, v2, v3, some (.dat (wrap c [x, y])), v5, none] = some (.own (.lst [.bl (wOf x), .bl (wOf y)]), [v0, v1, v2, v3, some (.dat (wrap c [x, y])), v5, none]) := by
  exact lcS_mapC (fi := seqI (vS 4)) (i := 6) (f := e_is_bridge_1) (xs := [x, y]) (fun d => d) (fun d => .bl (wOf d)) (by simp [it_wrap]) (by simp) (.inl rfl) (by
    intro d hd
    have : m_is_whole [d] = some (.dat (.bl (wOf d))) := by
      refine whole_kd ?_
      simp only [List.mem_cons, List.mem_nil_iff, or_false] at hd
      rcases hd with rfl | rfl
      · exact hx
      · exact hy
    exact ⟨.dat (.bl (wOf d)), by simp [e_is_bridge_1, this], rfl⟩)
theorem nob_ikd {c : Bool} {x y : Z.D} (hx : KD x) (hy : KD y) (h : (wOf x && wOf y) = false) : nob (wrap b [.int s, O, wrap c [x, y], B]) V := by
  have w1 := whole_int (i := 1)
  have w2 := whole_int (i := -1)
  have key := fun v0 v1 v2 v3 v5 => isb_lc (c := c) (v0 := v0) (v1 := v1) (v2 := v2) (v3 := v3) (v5 := v5) hx hy
  generalize wOf x = p at *
  generalize wOf y = q at *
  cases c
  · simp only [wrap_f] at key ⊢
    cases p <;> cases q <;> simp at h <;> rcases hs with rfl | rfl <;> cases b <;> simp [-s_lcS, nob, m_is_bridge, b_is_bridge, neG, kT, kL, okTy, isTy, w1, w2, intsOf, ho, key, allG, blsOf]
  · simp only [wrap_t] at key ⊢
    cases p <;> cases q <;> simp at h <;> rcases hs with rfl | rfl <;> cases b <;> simp [-s_lcS, nob, m_is_bridge, b_is_bridge, neG, kT, kL, okTy, isTy, w1, w2, intsOf, ho, key, allG, blsOf]
theorem nob_fr {c : Bool} {p q : Int} (h : m_is_fraction [B] = some (.dat (.bl false))) : nob (wrap b [.int s, O, wrap c [.int p, .int q], B]) V := by
  have w1 := whole_int (i := 1)
  have w2 := whole_int (i := -1)
  have key := fun v0 v1 v2 v3 v5 => isb_lc (c := c) (v0 := v0) (v1 := v1) (v2 := v2) (v3 := v3) (v5 := v5) (kd_int (i := p)) (kd_int (i := q))
  simp only [show wOf (.int p) = true from rfl, show wOf (.int q) = true from rfl] at key
  cases c
  · simp only [wrap_f] at key ⊢
    rcases hs with rfl | rfl <;> cases b <;> simp [-s_lcS, nob, m_is_bridge, b_is_bridge, neG, kT, kL, okTy, isTy, w1, w2, intsOf, ho, key, allG, blsOf, h]
  · simp only [wrap_t] at key ⊢
    rcases hs with rfl | rfl <;> cases b <;> simp [-s_lcS, nob, m_is_bridge, b_is_bridge, neG, kT, kL, okTy, isTy, w1, w2, intsOf, ho, key, allG, blsOf, h]
theorem isb_by {c e : Bool} {p q n m : Int} (h : m_is_fraction [wrap e [.int n, .int m]] = some (.dat (.bl true))) : m_is_bridge [wrap b [.int s, O, wrap c [.int p, .int q], wrap e [.int n, .int m]], .int V] = some (.dat (.bl (decide (0 < n)))) := by
  have w1 := whole_int (i := 1)
  have w2 := whole_int (i := -1)
  have key := fun v0 v1 v2 v3 v5 => isb_lc (c := c) (v0 := v0) (v1 := v1) (v2 := v2) (v3 := v3) (v5 := v5) (kd_int (i := p)) (kd_int (i := q))
  simp only [show wOf (.int p) = true from rfl, show wOf (.int q) = true from rfl] at key
  cases c
  · simp only [wrap_f] at key ⊢
    cases e
    · simp only [wrap_f] at h ⊢
      rcases hs with rfl | rfl <;> cases b <;> simp [-s_lcS, m_is_bridge, b_is_bridge, neG, kT, kL, okTy, isTy, w1, w2, intsOf, ho, key, allG, blsOf, h]
    · simp only [wrap_t] at h ⊢
      rcases hs with rfl | rfl <;> cases b <;> simp [-s_lcS, m_is_bridge, b_is_bridge, neG, kT, kL, okTy, isTy, w1, w2, intsOf, ho, key, allG, blsOf, h]
  · simp only [wrap_t] at key ⊢
    cases e
    · simp only [wrap_f] at h ⊢
      rcases hs with rfl | rfl <;> cases b <;> simp [-s_lcS, m_is_bridge, b_is_bridge, neG, kT, kL, okTy, isTy, w1, w2, intsOf, ho, key, allG, blsOf, h]
    · simp only [wrap_t] at h ⊢
      rcases hs with rfl | rfl <;> cases b <;> simp [-s_lcS, m_is_bridge, b_is_bridge, neG, kT, kL, okTy, isTy, w1, w2, intsOf, ho, key, allG, blsOf, h]
end
theorem isord_br {V : Nat} {f : OF} {o : List Int} (h : o.Perm (iota V)) (hV : V ≤ 4) : m_is_order [ordD f o, .int (V : Int)] = some (.dat (.bl true)) := by
  rw [isord_ok (by rw [ord_len h]; omega) hV, ord_sort h]
  simp
theorem isb_ok {b : Bool} {f : OF} {x : Br} {V j k : Nat} (hx : BrOk V j k x) (hV : V ≤ 4) : m_is_bridge [brD b f x, .int (V : Int)] = some (.dat (.bl true)) := by
  have h := isb_by (b := b) (c := b) (e := b) (p := x.i.1) (q := x.i.2) (n := x.b.1) (m := x.b.2) hx.s (isord_br (f := f) hx.o hV) (by
    rw [isfr_ok]
    have := hx.b.d0
    have c := hx.b.co
    simp [this, c])
  rw [show brD b f x = wrap b [.int x.s, ordD f x.o, wrap b [.int x.i.1, .int x.i.2], wrap b [.int x.b.1, .int x.b.2]] from rfl, h]
  have := hx.b.n0
  simp [this]
def OF.kept : OF → OF
  | .n => .n
  | _ => .t
theorem tup_ord {f : OF} {o : List Int} : tupleG [ordD f o] = some (.dat (ordD f.kept o)) := by cases f <;> rfl
theorem tup_pr {b : Bool} {p : Int × Int} : tupleG [prD b p] = some (.dat (prD false p)) := by cases b <;> rfl
theorem check_ok {b : Bool} {f : OF} {x : Br} {V j k : Nat} (hx : BrOk V j k x) (hV : V ≤ 4) : m_check_bridge [brD b f x, .int (V : Int)] = some (.dat (brD false f.kept x)) := by
  have h := isb_ok (b := b) (f := f) hx hV
  have t1 := tup_ord (f := f) (o := x.o)
  have t2 := tup_pr (b := b) (p := x.i)
  have t3 := tup_pr (b := b) (p := x.b)
  unfold brD at h ⊢
  rw [wrap_f]
  generalize ordD f x.o = O at *
  generalize ordD f.kept x.o = O2 at *
  generalize prD b x.i = I at *
  generalize prD b x.b = B at *
  generalize prD false x.i = I2 at *
  generalize prD false x.b = B2 at *
  cases b
  · rw [wrap_f] at h ⊢
    simp [m_check_bridge, b_check_bridge, h, t1, t2, t3]
  · rw [wrap_t] at h ⊢
    simp [m_check_bridge, b_check_bridge, h, t1, t2, t3]
theorem refused_ok {d : Z.D} {V : Int} (h : nob d V) : m__law_refused [d, .int V] = some (.dat (.bl true)) := by
  unfold nob at h
  simp [m__law_refused, m_ref, t_check_bridge, h]
end K86

set_option Elab.async false
set_option linter.all false
set_option maxRecDepth 100000
set_option maxHeartbeats 1000000
namespace K86
open PySem PySem.Spec PyProof.Rows L2 Z
/-! ### what the law draws -/
theorem hp6 : powG (.int 10) (.int 6) = some (.dat (.int 1000000)) := by unfold powG; simp
theorem hp24 : powG (.int 10) (.int 24) = some (.dat (.int 1000000000000000000000000)) := by unfold powG; simp
theorem hp25 : powG (.int 10) (.int 25) = some (.dat (.int 10000000000000000000000000)) := by unfold powG; simp
theorem hp30 : powG (.int 10) (.int 30) = some (.dat (.int 1000000000000000000000000000000)) := by unfold powG; simp
theorem eIdx_map {α β : Type} (f : α → β) : ∀ (l : List α) (k : Nat), (l.map f).eraseIdx k = (l.eraseIdx k).map f
  | [], k => by simp
  | a :: l, 0 => by simp
  | a :: l, k + 1 => by simp [eIdx_map f l k]
theorem eIdx_perm {α : Type} : ∀ (l : List α) (k : Nat) (h : k < l.length), (l[k] :: l.eraseIdx k).Perm l
  | a :: l, 0, _ => by simp
  | a :: l, k + 1, h => by
    have hk : k < l.length := by simpa using h
    have ih := eIdx_perm l k hk
    show (l[k] :: a :: l.eraseIdx k).Perm (a :: l)
    exact (List.Perm.swap a l[k] _).trans (List.Perm.cons a ih)
theorem order_ok {o : OC} {V : Nat} (P : PoolOk o) (hV : V ≤ 4) : ∃ od o', m__law_order o [.int (V : Int)] = some (.dat (.itup od), o') ∧ od.Perm (iota V) ∧ PoolOk o' := by
  obtain ⟨env', h3, fo, lf, o3, y, he, hl, hp, P3⟩ := forS_nx (b := nmB 4) (f := l__law_order_1)
    (fun ds env => ∃ (fo lf : List Int) (o3 : OC) (y : Option Sl), env = [some (.par o3), some (.dat (.int (V : Int))), some (.own (.lst (lf.map Z.D.int))), some (.dat (.itup fo)), y] ∧ lf.length = ds.length ∧ (fo ++ lf).Perm (iota V) ∧ PoolOk o3)
    (by
      rintro d ds env ⟨fo, lf, o3, y, rfl, hl, hp, P⟩
      rw [List.length_cons] at hl
      obtain ⟨k, o4, h4, a4, b4, P4⟩ := take_ok (m := (lf.length : Int)) P (by omega) (by
        have := hp.length_eq
        rw [iota_len, List.length_append] at this
        omega)
      have hk : k.toNat < lf.length := by omega
      have hkn : k.natAbs < 4611686018427387904 := by
        have := hp.length_eq
        rw [iota_len, List.length_append] at this
        omega
      have hix : ixN lf.length k = some k.toNat := by unfold ixN; rw [if_pos a4, if_pos b4]
      have hg : lf[k.toNat]? = some lf[k.toNat] := List.getElem?_eq_getElem hk
      have hlen : fo.length + 1 ≤ 16777216 := by
        have := hp.length_eq
        rw [iota_len, List.length_append] at this
        omega
      refine ⟨_, _, rfl, ?_, fo ++ [lf[k.toNat]], lf.eraseIdx k.toNat, o4, some (.dat d), rfl, by rw [List.length_eraseIdx_of_lt hk]; omega, ?_, P4⟩
      · simp [l__law_order_1, h4, hix, hg, hkn, hlen, eIdx_map, intsOf]
      · rw [List.append_assoc]
        exact (List.Perm.append_left fo (eIdx_perm lf k.toNat hk)).trans hp)
    (rngD 0 V) [some (.par o), some (.dat (.int (V : Int))), some (.own (.lst ((iota V).map Z.D.int))), some (.dat (.itup [])), none] ⟨[], iota V, o, none, rfl, by rw [iota_len, rngD_length], List.Perm.refl _, P⟩
  have hlf : lf = [] := List.length_eq_zero_iff.mp hl
  subst hlf
  subst he
  rw [List.append_nil] at hp
  have hV2 : V < 2305843009213693952 := by omega
  have hV3 : V ≤ 16777216 := by omega
  rw [← iota_rng] at h3
  exact ⟨fo, o3, by simp [m__law_order, b__law_order, h3, hV2, hV3, intsOf], hp, P3⟩
theorem below_ok {o : OC} {m : Int} (P : PoolOk o) (hm : 0 < m) : ∃ k o', m__law_below o [.int m] = some (.dat (.int k), o') ∧ 0 ≤ k ∧ k < m ∧ PoolOk o' := by
  obtain ⟨env', h3, f, o3, y, he, P3⟩ := forS_nx (b := nmB 3) (f := l__law_below_1)
    (fun ds env => ∃ (f : Int) (o3 : OC) (y : Option Sl), env = [some (.par o3), some (.dat (.int m)), some (.dat (.int f)), y] ∧ PoolOk o3)
    (by
      rintro d ds env ⟨f, o3, y, rfl, P⟩
      obtain ⟨k, o4, h4, a4, b4, P4⟩ := take_ok (m := 1000000) P (by decide) (by decide)
      have hk : okMul f 1000000 = true := okMul_r (by decide)
      exact ⟨_, _, rfl, by simp [l__law_below_1, hp6, hk, h4], f * 1000000 + k, o4, some (.dat d), rfl, P4⟩)
    (rngD 0 5) [some (.par o), some (.dat (.int m)), some (.dat (.int 0)), none] ⟨0, o, none, rfl, P⟩
  subst he
  refine ⟨f % m, o3, ?_, Int.emod_nonneg _ (by omega), Int.emod_lt_of_pos _ hm, P3⟩
  simp [m__law_below, b__law_below, h3, hm]
def B25 : Int := 10000000000000000000000000
theorem great_ok {o : OC} (P : PoolOk o) : ∃ k o', m__law_great o [] = some (.dat (.int k), o') ∧ k.natAbs < 2 ^ 84 ∧ PoolOk o' := by
  obtain ⟨k1, o1, h1, a1, b1, P1⟩ := below_ok (m := 10000000000000000000000000) P (by decide)
  obtain ⟨d, o2, h2, hd, P2⟩ := pick_ok (ds := [.int 0, .int 1000000000000000000000000]) P1 (by simp) (by simp)
  simp only [List.mem_cons, List.mem_nil_iff, or_false] at hd
  rcases hd with rfl | rfl
  · exact ⟨k1 - 0, o2, by simp [m__law_great, b__law_great, hp25, hp24, h1, h2], by omega, P2⟩
  · exact ⟨k1 - 1000000000000000000000000, o2, by simp [m__law_great, b__law_great, hp25, hp24, h1, h2], by omega, P2⟩
theorem interval_ok {o : OC} (P : PoolOk o) : ∃ (t : Tn) (o' : OC), m__law_interval o [] = some (.dat (prD false t), o') ∧ t.1.natAbs < 2 ^ 84 ∧ t.2.natAbs < 2 ^ 84 ∧ PoolOk o' := by
  obtain ⟨k, o1, h1, a1, b1, P1⟩ := take_ok (m := 8) P (by decide) (by decide)
  by_cases c : k = 0
  · subst c
    obtain ⟨k2, o2, h2, a2, b2, P2⟩ := take_ok (m := 201) P1 (by decide) (by decide)
    obtain ⟨k3, o3, h3, a3, b3, P3⟩ := take_ok (m := 201) P2 (by decide) (by decide)
    exact ⟨(k2 - 100, k3 - 100), o3, by simp [m__law_interval, b__law_interval, h1, h2, h3, prD], by show (k2 - 100).natAbs < 2 ^ 84; omega, by show (k3 - 100).natAbs < 2 ^ 84; omega, P3⟩
  · obtain ⟨k2, o2, h2, a2, b2, P2⟩ := take_ok (m := 9) P1 (by decide) (by decide)
    obtain ⟨k3, o3, h3, a3, b3, P3⟩ := take_ok (m := 9) P2 (by decide) (by decide)
    exact ⟨(k2 - 4, k3 - 4), o3, by simp [m__law_interval, b__law_interval, h1, c, h2, h3, prD], by show (k2 - 4).natAbs < 2 ^ 84; omega, by show (k3 - 4).natAbs < 2 ^ 84; omega, P3⟩
theorem p900 {k : Nat} (h : k ≤ 900) : 2 ^ k ≤ 2 ^ 900 := Nat.pow_le_pow_right (by decide) h
theorem low_bits {k : Nat} {n d : Int} (hk : k ≤ 900) (hn : 0 < n) (hd : 0 < d) (h1 : n.natAbs < 2 ^ k) (h2 : d.natAbs < 2 ^ k) : m__law_lowest [.int n, .int d] = some (.dat (prD false (low n d))) ∧ FrB k (low n d) :=
  ⟨low_ok hd (Nat.lt_of_lt_of_le h1 (big900 hk)) (Nat.lt_of_lt_of_le h2 (big900 hk)) (.inl (Nat.lt_of_lt_of_le h2 (p900 hk))), low_frb hn hd h1 h2⟩
theorem by_ok {o : OC} (P : PoolOk o) : ∃ (f : Fr) (o' : OC), m__law_by o [] = some (.dat (prD false f), o') ∧ FrB 84 f ∧ PoolOk o' := by
  obtain ⟨k2, o2, h2, a2, b2, P2⟩ := take_ok (m := 9) P (by decide) (by decide)
  obtain ⟨k3, o3, h3, a3, b3, P3⟩ := take_ok (m := 9) P2 (by decide) (by decide)
  obtain ⟨l1, l2⟩ := low_bits (k := 10) (n := 1 + k2) (d := 1 + k3) (by decide) (by omega) (by omega) (by omega) (by omega)
  exact ⟨_, o3, by simp [m__law_by, b__law_by, h2, h3, l1], l2.mono (by decide), P3⟩
theorem dur_ok {o : OC} (P : PoolOk o) : ∃ (f : Fr) (o' : OC), m__law_duration o [] = some (.dat (prD false f), o') ∧ FrB 10 f ∧ PoolOk o' := by
  obtain ⟨k, o1, h1, a1, b1, P1⟩ := take_ok (m := 12) P (by decide) (by decide)
  by_cases c : k = 0
  · subst c
    obtain ⟨k2, o2, h2, a2, b2, P2⟩ := take_ok (m := 1000) P1 (by decide) (by decide)
    obtain ⟨k3, o3, h3, a3, b3, P3⟩ := take_ok (m := 1000) P2 (by decide) (by decide)
    obtain ⟨l1, l2⟩ := low_bits (k := 10) (n := 1 + k2) (d := 1 + k3) (by decide) (by omega) (by omega) (by omega) (by omega)
    exact ⟨_, o3, by simp [m__law_duration, b__law_duration, h1, h2, h3, l1], l2, P3⟩
  · obtain ⟨k2, o2, h2, a2, b2, P2⟩ := take_ok (m := 6) P1 (by decide) (by decide)
    obtain ⟨d, o3, h3, hd, P3⟩ := pick_ok (ds := [.int 1, .int 2, .int 3, .int 4, .int 5, .int 8, .int 12, .int 16]) P2 (by simp) (by simp)
    obtain ⟨k3, rfl, a3, b3⟩ : ∃ k3 : Int, d = .int k3 ∧ 1 ≤ k3 ∧ k3 ≤ 16 := by
      simp only [List.mem_cons, List.mem_nil_iff, or_false] at hd
      rcases hd with rfl | rfl | rfl | rfl | rfl | rfl | rfl | rfl <;> exact ⟨_, rfl, by decide, by decide⟩
    obtain ⟨l1, l2⟩ := low_bits (k := 10) (n := 1 + k2) (d := k3) (by decide) (by omega) (by omega) (by omega) (by omega)
    exact ⟨_, o3, by simp [m__law_duration, b__law_duration, h1, c, h2, h3, l1], l2, P3⟩
theorem tone_ok {o : OC} (P : PoolOk o) : ∃ (t : Tn) (o' : OC), m__law_tone o [] = some (.dat (prD false t), o') ∧ PoolOk o' := by
  have h4 : ∀ z, okMul 4 z = true := fun z => okMul_l (by decide)
  have h7 : okDiv 7 = true := okDiv_of (by decide) (by decide)
  obtain ⟨k1, o1, h1, _, _, P1⟩ := take_ok (m := 15) P (by decide) (by decide)
  obtain ⟨k2, o2, h2, _, _, P2⟩ := take_ok (m := 12) P1 (by decide) (by decide)
  by_cases c : k2 = 0
  · subst c
    obtain ⟨k3, o3, h3, _, _, P3⟩ := take_ok (m := 101) P2 (by decide) (by decide)
    obtain ⟨k5, o5, h5, _, _, P5⟩ := take_ok (m := 7) P3 (by decide) (by decide)
    exact ⟨(k3 - 50, k5 - 4 * (k3 - 50) / 7), o5, by simp [m__law_tone, b__law_tone, h1, h2, h3, h5, h4, h7, prD], P5⟩
  · obtain ⟨k5, o5, h5, _, _, P5⟩ := take_ok (m := 7) P2 (by decide) (by decide)
    exact ⟨(k1 - 7, k5 - 4 * (k1 - 7) / 7), o5, by simp [m__law_tone, b__law_tone, h1, h2, c, h5, h4, h7, prD], P5⟩
theorem wide_ok {o : OC} {V : Nat} (P : PoolOk o) (hV : V ≤ 4) : ∃ x o', m__law_wide_bridge o [.int (V : Int)] = some (.dat (brD false .n x), o') ∧ BrOk V 84 84 x ∧ PoolOk o' := by
  obtain ⟨t1, o1, h1, a1, b1, P1⟩ := interval_ok P
  obtain ⟨g1, o2, h2, a2, P2⟩ := great_ok P1
  obtain ⟨g2, o3, h3, a3, P3⟩ := great_ok P2
  obtain ⟨d4, o4, h4, hd4, P4⟩ := pick_ok (ds := [.tup [.int 0, .int 0], prD false t1, .tup [.int g1, .int (-g2)]]) P3 (by simp) (by simp)
  obtain ⟨t, rfl, i1, i2⟩ : ∃ t : Tn, d4 = prD false t ∧ t.1.natAbs < 2 ^ 84 ∧ t.2.natAbs < 2 ^ 84 := by
    simp only [List.mem_cons, List.mem_nil_iff, or_false] at hd4
    rcases hd4 with rfl | rfl | rfl
    · exact ⟨(0, 0), rfl, by decide, by decide⟩
    · exact ⟨t1, rfl, a1, b1⟩
    · exact ⟨(g1, -g2), rfl, a2, by rw [show ((g1, -g2) : Tn).2 = -g2 from rfl, Int.natAbs_neg]; exact a3⟩
  obtain ⟨f5, o5, h5, a5, P5⟩ := by_ok P4
  obtain ⟨k6, o6, h6, a6, b6, P6⟩ := below_ok (m := 10000000000000000000000000) P5 (by decide)
  obtain ⟨k7, o7, h7, a7, b7, P7⟩ := below_ok (m := 10000000000000000000000000) P6 (by decide)
  obtain ⟨l1, l2⟩ := low_bits (k := 84) (n := 1 + k6) (d := 1 + k7) (by decide) (by omega) (by omega) (by omega) (by omega)
  obtain ⟨d8, o8, h8, hd8, P8⟩ := pick_ok (ds := [.tup [.int 1, .int 1], prD false f5, prD false (low (1 + k6) (1 + k7))]) P7 (by simp) (by simp)
  obtain ⟨f, rfl, hf⟩ : ∃ f : Fr, d8 = prD false f ∧ FrB 84 f := by
    simp only [List.mem_cons, List.mem_nil_iff, or_false] at hd8
    rcases hd8 with rfl | rfl | rfl
    · exact ⟨(1, 1), rfl, ⟨by decide, by decide, by decide, by decide, by decide⟩⟩
    · exact ⟨_, rfl, a5⟩
    · exact ⟨_, rfl, l2⟩
  obtain ⟨d9, o9, h9, hd9, P9⟩ := pick_ok (ds := [.int 1, .int (-1)]) P8 (by simp) (by simp)
  obtain ⟨s, rfl, hs⟩ : ∃ s : Int, d9 = .int s ∧ (s = 1 ∨ s = -1) := by
    simp only [List.mem_cons, List.mem_nil_iff, or_false] at hd9
    rcases hd9 with rfl | rfl
    · exact ⟨1, rfl, .inl rfl⟩
    · exact ⟨-1, rfl, .inr rfl⟩
  obtain ⟨od, o10, h10, hod, P10⟩ := order_ok P9 hV
  refine ⟨⟨s, od, t, f⟩, o10, ?_, ⟨hs, hod, i1, i2, hf⟩, P10⟩
  unfold brD
  rw [wrap_f]
  show _ = some (Rt.dat (.tup [.int s, .itup od, prD false t, prD false f]), o10)
  generalize prD false (low (1 + k6) (1 + k7)) = L at *
  generalize prD false t1 = T1 at *
  generalize prD false t = T at *
  generalize prD false f5 = F5 at *
  generalize prD false f = F at *
  simp [m__law_wide_bridge, b__law_wide_bridge, h1, h2, h3, h4, h5, h6, h7, h8, h9, h10, hp25, l1]
end K86

set_option Elab.async false
set_option linter.all false
set_option maxRecDepth 100000
set_option maxHeartbeats 1000000
namespace K86
open PySem PySem.Spec PyProof.Rows L2 Z
def bfD : Option Col → Z.D
  | none => .non
  | some c => colD false false c
theorem pickt_ok {o : OC} {ts : List Tn} (P : PoolOk o) (h : ts ≠ []) (hl : ts.length ≤ 100) : ∃ t o', m__law_pick o [.lst (ts.map (prD false))] = some (.dat (prD false t), o') ∧ PoolOk o' := by
  obtain ⟨d, o', h1, hd, P1⟩ := pick_ok (ds := ts.map (prD false)) P (by simpa using h) (by rw [List.length_map]; omega)
  obtain ⟨t, _, rfl⟩ := List.mem_map.mp hd
  exact ⟨t, o', h1, P1⟩
theorem col_step {o : OC} {V k : Nat} {bf : Option Col} {ts : List Tn} {es : List En} {y6 y7 y8 y9 : Option Sl} (P : PoolOk o) (hb : ∀ c, bf = some c → c.e.length = V) (h : ts ≠ []) (hl : ts.length ≤ 100) (hk : k < V) (hes : es.length ≤ 400) : ∃ e o' z6 z7 z8 z9, PoolOk o' ∧
    l__law_column_1 [some (.par o), some (.dat (.int (V : Int))), some (.dat (bfD bf)), some (.dat (.lst (ts.map (prD false)))), some (.dat (.tup (es.map (enD false)))), some (.dat (.int (k : Int))), y6, y7, y8, y9] =
      some (.nx [some (.par o'), some (.dat (.int (V : Int))), some (.dat (bfD bf)), some (.dat (.lst (ts.map (prD false)))), some (.dat (.tup ((es ++ [e]).map (enD false)))), some (.dat (.int (k : Int))), z6, z7, z8, z9]) := by
  obtain ⟨kd, o1, h1, a1, b1, P1⟩ := take_ok (m := 6) P (by decide) (by decide)
  obtain ⟨t, o2, h2, P2⟩ := pickt_ok P1 h hl
  have hlen : es.length + 1 ≤ 16777216 := by omega
  by_cases c0 : kd = 0
  · subst c0
    refine ⟨none, o2, some (.dat (.int 0)), some (.dat .non), y8, y9, P2, ?_⟩
    rw [List.map_append]
    generalize ts.map (prD false) = TS at *
    generalize bfD bf = B at *
    show _ = some (Out.nx [_, _, _, _, some (.dat (.tup (es.map (enD false) ++ [.non]))), _, _, _, _, _])
    simp [l__law_column_1, h1, h2, hlen]
  · by_cases c1 : kd < 3
    · cases bf with
      | none =>
        refine ⟨some (t, false), o2, some (.dat (.int kd)), some (.dat (.tup [prD false t, .bl false])), some (.dat .non), some (.dat (prD false t)), P2, ?_⟩
        rw [List.map_append]
        generalize ts.map (prD false) = TS at *
        show _ = some (Out.nx [_, _, _, _, some (.dat (.tup (es.map (enD false) ++ [.tup [prD false t, .bl false]]))), _, _, _, _, _])
        generalize prD false t = T at *
        simp [l__law_column_1, h1, h2, hlen, c0, c1, bfD]
      | some c =>
        have ha := getD_atI (l := false) (es := c.e) (v := k) (by rw [hb c rfl]; exact hk)
        cases he : c.e.getD k none with
        | none =>
          rw [he] at ha
          refine ⟨some (t, false), o2, some (.dat (.int kd)), some (.dat (.tup [prD false t, .bl false])), some (.dat .non), some (.dat (prD false t)), P2, ?_⟩
          rw [List.map_append]
          generalize ts.map (prD false) = TS at *
          show _ = some (Out.nx [_, _, _, _, some (.dat (.tup (es.map (enD false) ++ [.tup [prD false t, .bl false]]))), _, _, _, _, _])
          generalize prD false t = T at *
          rw [show bfD (some c) = .tup [prD false c.d, .int c.a, .tup (c.e.map (enD false))] from rfl]
          generalize c.e.map (enD false) = L at *
          generalize prD false c.d = A at *
          simp only [enD] at ha
          simp [l__law_column_1, h1, h2, hlen, c0, c1, ha]
        | some u =>
          obtain ⟨u, ub⟩ := u
          rw [he] at ha
          obtain ⟨k3, o3, h3, a3, b3, P3⟩ := take_ok (m := 4) P2 (by decide) (by decide)
          refine ⟨some (if 0 < k3 then u else t, false), o3, some (.dat (.int kd)), some (.dat (.tup [if 0 < k3 then prD false u else prD false t, .bl false])), some (.dat (enD false (some (u, ub)))), some (.dat (if 0 < k3 then prD false u else prD false t)), P3, ?_⟩
          rw [List.map_append]
          generalize ts.map (prD false) = TS at *
          have ee : [(some (if 0 < k3 then u else t, false) : En)].map (enD false) = [.tup [if 0 < k3 then prD false u else prD false t, .bl false]] := by split <;> rfl
          rw [ee]
          have e2 : enD false (some (u, ub)) = .tup [prD false u, .bl ub] := rfl
          rw [e2] at ha ⊢
          generalize prD false t = T at *
          generalize prD false u = U at *
          rw [show bfD (some c) = .tup [prD false c.d, .int c.a, .tup (c.e.map (enD false))] from rfl]
          generalize c.e.map (enD false) = L at *
          generalize prD false c.d = A at *
          by_cases c3 : 0 < k3
          · simp [l__law_column_1, h1, h2, h3, hlen, c0, c1, c3, ha]
          · simp [l__law_column_1, h1, h2, h3, hlen, c0, c1, c3, ha]
    · refine ⟨some (t, true), o2, some (.dat (.int kd)), some (.dat (.tup [prD false t, .bl true])), y8, y9, P2, ?_⟩
      rw [List.map_append]
      generalize ts.map (prD false) = TS at *
      generalize bfD bf = B at *
      show _ = some (Out.nx [_, _, _, _, some (.dat (.tup (es.map (enD false) ++ [.tup [prD false t, .bl true]]))), _, _, _, _, _])
      generalize prD false t = T at *
      simp [l__law_column_1, h1, h2, hlen, c0, c1]
theorem col_ok {o : OC} {V : Nat} {bf : Option Col} {ts : List Tn} (P : PoolOk o) (hV : V ≤ 4) (hb : ∀ c, bf = some c → c.e.length = V) (h : ts ≠ []) (hl : ts.length ≤ 100) : ∃ c o', m__law_column o [.int (V : Int), bfD bf, .lst (ts.map (prD false))] = some (.dat (colD false false c), o') ∧ FrB 10 c.d ∧ c.e.length = V ∧ PoolOk o' := by
  obtain ⟨env', h3, es, o3, y5, y6, y7, y8, y9, he, hes, _, P3⟩ := forS_nx (b := nmB 5) (f := l__law_column_1)
    (fun ds env => ∃ (es : List En) (o3 : OC) (y5 y6 y7 y8 y9 : Option Sl), env = [some (.par o3), some (.dat (.int (V : Int))), some (.dat (bfD bf)), some (.dat (.lst (ts.map (prD false)))), some (.dat (.tup (es.map (enD false)))), y5, y6, y7, y8, y9] ∧ es.length + ds.length = V ∧ (∀ d ∈ ds, ∃ k : Nat, d = .int (k : Int) ∧ k < V) ∧ PoolOk o3)
    (by
      rintro d ds env ⟨es, o3, y5, y6, y7, y8, y9, rfl, hes, hds, P⟩
      rw [List.length_cons] at hes
      obtain ⟨k, rfl, hk⟩ := hds d (List.mem_cons_self ..)
      obtain ⟨e, o4, z6, z7, z8, z9, P4, h4⟩ := col_step (es := es) (y6 := y6) (y7 := y7) (y8 := y8) (y9 := y9) P hb h hl hk (by omega)
      exact ⟨_, _, rfl, h4, es ++ [e], o4, _, z6, z7, z8, z9, rfl, by rw [List.length_append, List.length_singleton]; omega, fun d hd => hds d (List.mem_cons_of_mem _ hd), P4⟩)
    (rngD 0 V) [some (.par o), some (.dat (.int (V : Int))), some (.dat (bfD bf)), some (.dat (.lst (ts.map (prD false)))), some (.dat (.tup [])), none, none, none, none, none] ⟨[], o, none, none, none, none, none, rfl, by rw [rngD_length]; simp, fun d hd => by
      rw [rng0] at hd
      obtain ⟨k, hk, rfl⟩ := List.mem_map.mp hd
      exact ⟨k, rfl, List.mem_range.mp hk⟩, P⟩
  subst he
  have hV2 : V < 2305843009213693952 := by omega
  obtain ⟨f, o4, h4, hf, P4⟩ := dur_ok P3
  obtain ⟨k5, o5, h5, a5, b5, P5⟩ := take_ok (m := 2) P4 (by decide) (by decide)
  by_cases c : k5 = 0
  · subst c
    obtain ⟨k6, o6, h6, a6, b6, P6⟩ := take_ok (m := 10) P5 (by decide) (by decide)
    refine ⟨⟨f, k6, es⟩, o6, ?_, hf, by simpa using hes, P6⟩
    unfold colD
    rw [wrap_f, wrap_f]
    show _ = some (Rt.dat (.tup [prD false f, .int k6, .tup (es.map (enD false))]), o6)
    generalize prD false f = F at *
    generalize es.map (enD false) = E at *
    generalize ts.map (prD false) = TS at *
    generalize bfD bf = B at *
    simp [m__law_column, b__law_column, h3, hV2, h4, h5, h6]
  · refine ⟨⟨f, 0, es⟩, o5, ?_, hf, by simpa using hes, P5⟩
    unfold colD
    rw [wrap_f, wrap_f]
    show _ = some (Rt.dat (.tup [prD false f, .int 0, .tup (es.map (enD false))]), o5)
    generalize prD false f = F at *
    generalize es.map (enD false) = E at *
    generalize ts.map (prD false) = TS at *
    generalize bfD bf = B at *
    simp [m__law_column, b__law_column, h3, hV2, h4, h5, c]
end K86

set_option Elab.async false
set_option linter.all false
set_option maxRecDepth 100000
set_option maxHeartbeats 1000000
namespace K86
open PySem PySem.Spec PyProof.Rows L2 Z
theorem at_last {α : Type} (l : List α) (x : α) : atI (l ++ [x]) (-1) = some x := by
  unfold atI ixN
  rw [if_neg (by decide), if_pos (by rw [List.length_append, List.length_singleton]; omega), List.length_append, List.length_singleton]
  show (l ++ [x])[((-1 : Int) + ((l.length + 1 : Nat) : Int)).toNat]? = _
  rw [show ((-1 : Int) + ((l.length + 1 : Nat) : Int)).toNat = l.length by omega]
  simp
def lastC (cs : List Col) : Option Col := cs.getLast?
theorem tru0 : truD (.tup []) = some false := rfl
theorem tru1 {ds : List Z.D} {d : Z.D} : truD (.tup (ds ++ [d])) = some true := by cases ds <;> rfl
theorem bar_step {o : OC} {V : Nat} {ts : List Tn} {cs : List Col} {x2 x3 y4 : Option Sl} (hx3 : x3 = some (.own (.lst (ts.map (prD false)))) ∨ x3 = some (.dat (.lst (ts.map (prD false))))) (P : PoolOk o) (hV : V ≤ 4) (hcs : ∀ c ∈ cs, FrB 10 c.d ∧ c.e.length = V) (h : ts ≠ []) (hl : ts.length ≤ 100) (hn : cs.length ≤ 400) : ∃ c o', FrB 10 c.d ∧ c.e.length = V ∧ PoolOk o' ∧
    l__law_bar_1 [some (.par o), some (.dat (.int (V : Int))), x2, x3, y4, some (.dat (.tup (cs.map (colD false false))))] =
      some (.nx [some (.par o'), some (.dat (.int (V : Int))), x2, some (.dat (.lst (ts.map (prD false)))), y4, some (.dat (.tup ((cs ++ [c]).map (colD false false))))]) := by
  have hlen : cs.length + 1 ≤ 16777216 := by omega
  rcases List.eq_nil_or_concat cs with rfl | ⟨l, c, rfl⟩
  · obtain ⟨c, o', h1, h2, h3, P1⟩ := col_ok (bf := none) P hV (fun c hc => nomatch hc) h hl
    refine ⟨c, o', h2, h3, P1, ?_⟩
    have h1' : m__law_column o [.int (V : Int), .non, .lst (ts.map (prD false))] = some (.dat (colD false false c), o') := h1
    generalize ts.map (prD false) = TS at *
    rw [List.nil_append, List.map_cons, List.map_nil]
    generalize colD false false c = C at *
    rcases hx3 with rfl | rfl <;> simp [l__law_bar_1, h1', tru0]
  · rw [List.concat_eq_append] at hlen hcs ⊢
    obtain ⟨c', o', h1, h2, h3, P1⟩ := col_ok (bf := some c) P hV (fun d hd => by cases hd; exact (hcs c (List.mem_append_right _ (List.mem_singleton.mpr rfl))).2) h hl
    refine ⟨c', o', h2, h3, P1, ?_⟩
    have h1' : m__law_column o [.int (V : Int), colD false false c, .lst (ts.map (prD false))] = some (.dat (colD false false c'), o') := h1
    have ha := at_last (l.map (colD false false)) (colD false false c)
    have hlen2 : (l.map (colD false false)).length + 1 + 1 ≤ 16777216 := by rw [List.length_map]; rw [List.length_append, List.length_singleton] at hlen; exact hlen
    simp only [List.map_append, List.map_cons, List.map_nil]
    generalize ts.map (prD false) = TS at *
    generalize colD false false c = C at *
    generalize colD false false c' = C' at *
    generalize l.map (colD false false) = L at *
    rcases hx3 with rfl | rfl <;> simp [l__law_bar_1, h1', ha, hlen2, tru1]
theorem bar_ok {o : OC} {V : Nat} (P : PoolOk o) (hV : V ≤ 4) : ∃ cs o', m__law_bar o [.int (V : Int), .int 12] = some (.dat (clsD false false false cs), o') ∧ (∀ c ∈ cs, FrB 10 c.d ∧ c.e.length = V) ∧ cs.length ≤ 12 ∧ PoolOk o' := by
  obtain ⟨k1, o1, h1, a1, b1, P1⟩ := take_ok (m := 6) P (by decide) (by decide)
  obtain ⟨acc', env', h3, o3, ts, he, ha, hl3, P3⟩ := lcGo_rule (i := 4) (f := e__law_bar_1)
    (fun ds acc env => ∃ (o' : OC) (ts : List Tn), env = [some (.par o'), some (.dat (.int (V : Int))), some (.dat (.int 12)), none, none, none] ∧ acc = ts.map (prD false) ∧ ts.length + ds.length = (1 + k1).toNat ∧ PoolOk o')
    (by
      rintro d ds acc env ⟨o', ts, rfl, rfl, hl', P'⟩
      refine ⟨by simp, ?_⟩
      obtain ⟨t, o4, h4, P4⟩ := tone_ok P'
      refine ⟨.dat (prD false t), [some (.par o4), some (.dat (.int (V : Int))), some (.dat (.int 12)), none, some (.dat d), none], prD false t, _, by simp [e__law_bar_1, h4], rfl, o4, ts ++ [t], rfl, by simp, by simp only [List.length_cons, List.length_append, List.length_nil] at hl' ⊢; omega, P4⟩)
    (rngD 0 (1 + k1).toNat) [] [some (.par o1), some (.dat (.int (V : Int))), some (.dat (.int 12)), none, none, none] ⟨o1, [], rfl, rfl, by rw [rngD_length]; simp, P1⟩
  subst he
  subst ha
  rw [List.length_nil, Nat.add_zero] at hl3
  obtain ⟨k5, o5, h5, a5, b5, P5⟩ := take_ok (m := 12) P3 (by decide) (by decide)
  have hts : ts ≠ [] := by intro z; subst z; rw [List.length_nil] at hl3; omega
  obtain ⟨env6, h6, cs, o6, x3, y4, _, he6, hc6, hl6, P6⟩ := forS_nx (b := nmB 4) (f := l__law_bar_1)
    (fun ds env => ∃ (cs : List Col) (o6 : OC) (x3 y4 : Option Sl), (x3 = some (.own (.lst (ts.map (prD false)))) ∨ x3 = some (.dat (.lst (ts.map (prD false))))) ∧ env = [some (.par o6), some (.dat (.int (V : Int))), some (.dat (.int 12)), x3, y4, some (.dat (.tup (cs.map (colD false false))))] ∧ (∀ c ∈ cs, FrB 10 c.d ∧ c.e.length = V) ∧ cs.length + ds.length = (1 + k5).toNat ∧ PoolOk o6)
    (by
      rintro d ds env ⟨cs, o6, x3, y4, hx3, rfl, hc, hl', P'⟩
      rw [List.length_cons] at hl'
      obtain ⟨c, o7, q1, q2, P7, h7⟩ := bar_step (ts := ts) (x2 := some (.dat (.int 12))) (y4 := some (.dat d)) hx3 P' hV hc hts (by omega) (by omega)
      refine ⟨_, _, rfl, h7, cs ++ [c], o7, _, some (.dat d), .inr rfl, rfl, fun z hz => ?_, by rw [List.length_append, List.length_singleton]; omega, P7⟩
      rcases List.mem_append.mp hz with w | w
      · exact hc z w
      · rw [List.mem_singleton.mp w]; exact ⟨q1, q2⟩)
    (rngD 0 (1 + k5).toNat) [some (.par o5), some (.dat (.int (V : Int))), some (.dat (.int 12)), some (.own (.lst (ts.map (prD false)))), none, some (.dat (.tup []))] ⟨[], o5, _, none, .inl rfl, rfl, (fun z hz => nomatch hz), by rw [rngD_length]; simp, P5⟩
  subst he6
  rw [List.length_nil, Nat.add_zero] at hl6
  refine ⟨cs, o6, ?_, hc6, by omega, P6⟩
  have g1 : (1 + k1).natAbs < 2305843009213693952 := by omega
  have g2 : (1 + k1).toNat ≤ 16777215 := by omega
  have g3 : (1 + k5).natAbs < 2305843009213693952 := by omega
  show _ = some (Rt.dat (.tup (cs.map (colD false false))), o6)
  generalize cs.map (colD false false) = CS at *
  generalize ts.map (prD false) = TS at *
  simp [m__law_bar, b__law_bar, h1, g1, g2, rngD_length, h3, h5, g3, h6]
end K86

set_option Elab.async false
set_option linter.all false
set_option maxRecDepth 100000
set_option maxHeartbeats 1000000
namespace K86
open PySem PySem.Spec PyProof.Rows L2 Z
/-! ### things that are no bridges -/
def W1 : Fe := (lstS (consL (cS .non) (consL (cS (.bl true)) (consL (cS (.bl false)) (consL (cS (.int 0)) (consL (cS (.int 2)) (consL (un1 negG (cS (.int 2))) (consL (cS (.str "1")) (consL (tupS (consL (cS (.int 1)) nilL)) (consL (callP m__law_deep (consL (cS (.int 1)) nilL)) (consL (bin2 powG (cS (.int 10)) (cS (.int 30))) nilL)))))))))))
def W2 : Fe := (lstS (consL (cS .non) (consL (cS (.int 0)) (consL (cS (.str "0")) (consL (slS (vS 4) (soO (cS (.int 1))) noO) (consL (bin2 addG (vS 4) (tupS (consL (vS 2) nilL))) (consL (bin2 addG (tupS (consL (vS 2) nilL)) (slS (vS 4) (soO (cS (.int 1))) noO)) (consL (bin2 addG (tupS (consL (un1 negG (cS (.int 1))) nilL)) (slS (vS 4) (soO (cS (.int 1))) noO)) (consL (bin2 addG (slS (vS 4) noO (soO (un1 negG (cS (.int 1))))) (tupS (consL (cS .non) nilL))) (consL (bin2 mulG (tupS (consL (cS (.bl true)) nilL)) (vS 2)) (consL (callP m__law_deep (consL (vS 4) nilL)) (consL (lstS (consL (cbS listG (consL (vS 4) nilL)) nilL)) nilL))))))))))))
def W3 : Fe := (lstS (consL (cS .non) (consL (cS (.int 0)) (consL (cS (.str "00")) (consL (tupS nilL) (consL (slS (vS 5) noO (soO (cS (.int 1)))) (consL (bin2 addG (vS 5) (tupS (consL (cS (.int 0)) nilL))) (consL (tupS (consL (bin2 ixG (vS 5) (cS (.int 0))) (consL (cS .non) nilL))) (consL (tupS (consL (cS (.bl true)) (consL (bin2 ixG (vS 5) (cS (.int 1))) nilL))) (consL (tupS (consL (tupS (consL (cS (.int 0)) nilL)) (consL (cS (.int 0)) nilL))) (consL (callP m__law_deep (consL (vS 5) nilL)) nilL)))))))))))
def W4 : Fe := (lstS (consL (cS .non) (consL (cS (.int 1)) (consL (cS (.str "1")) (consL (tupS nilL) (consL (tupS (consL (cS (.int 0)) (consL (cS (.int 1)) nilL))) (consL (tupS (consL (un1 negG (bin2 ixG (vS 6) (cS (.int 0)))) (consL (bin2 ixG (vS 6) (cS (.int 1))) nilL))) (consL (tupS (consL (bin2 ixG (vS 6) (cS (.int 0))) (consL (un1 negG (bin2 ixG (vS 6) (cS (.int 1)))) nilL))) (consL (tupS (consL (bin2 mulG (cS (.int 2)) (bin2 ixG (vS 6) (cS (.int 0)))) (consL (bin2 mulG (cS (.int 2)) (bin2 ixG (vS 6) (cS (.int 1)))) nilL))) (consL (tupS (consL (cS (.int 1)) (consL (cS (.int 0)) nilL))) (consL (tupS (consL (cS (.int 0)) (consL (cS (.int 0)) nilL))) (consL (slS (vS 6) noO (soO (cS (.int 1)))) (consL (bin2 addG (vS 6) (tupS (consL (cS (.int 1)) nilL))) (consL (tupS (consL (cS (.bl true)) (consL (cS (.int 1)) nilL))) (consL (tupS (consL (cS (.int 1)) (consL (cS (.bl true)) nilL))) (consL (callP m__law_deep (consL (vS 6) nilL)) nilL))))))))))))))))
def W5 : Fe := (lstS (consL (slS (vS 1) noO (soO (cS (.int 3)))) (consL (bin2 addG (vS 1) (tupS (consL (cS (.int 0)) nilL))) (consL (tupS nilL) (consL (cS .non) (consL (cS (.int 0)) (consL (cS (.str "bridge")) (consL (callP m__law_deep (consL (vS 1) nilL)) (consL (cbS dictG (consL (lstS (consL (tupS (consL (cS (.int 0)) (consL (vS 1) nilL))) nilL)) nilL)) nilL)))))))))
def WA : Fs := (iffS (cmpT gtG (vS 2) (cS (.int 1))) (appS 8 (tupS (consL (vS 3) (consL (bin2 addG (slS (vS 4) noO (soO (un1 negG (cS (.int 1))))) (tupS (consL (bin2 ixG (vS 4) (cS (.int 0))) nilL))) (consL (vS 5) (consL (vS 6) nilL)))))) doneS)
theorem wrong_eq : b__law_wrong = (seqS (asgT (tupB 4 (consB (nmB 3) (consB (nmB 4) (consB (nmB 5) (consB (nmB 6) nilB))))) (vS 1))
    (seqS (asgS 7 W1)
    (seqS (asgS 8 (lcS (seqI (vS 7)) (nmB 9) yesT e__law_wrong_1 [9]))
    (seqS (asgS 10 W2)
    (seqS (extS 8 (lcS (seqI (vS 10)) (nmB 9) yesT e__law_wrong_2 [9]))
    (seqS WA
    (seqS (asgS 10 W3)
    (seqS (extS 8 (lcS (seqI (vS 10)) (nmB 9) yesT e__law_wrong_3 [9]))
    (seqS (asgS 10 W4)
    (seqS (extS 8 (lcS (seqI (vS 10)) (nmB 9) yesT e__law_wrong_4 [9]))
    (retS (bin2 addG (vS 8) W5)))))))))))) := rfl
def dp : Nat → Z.D → Z.D
  | 0, d => d
  | n + 1, d => .tup [dp n d]
theorem deep_ok {d : Z.D} : m__law_deep [d] = some (.dat (dp 40 d)) := by
  obtain ⟨env', h3, k, y, he, hk⟩ := forS_nx (b := nmB 1) (f := l__law_deep_1)
    (fun ds env => ∃ (k : Nat) (y : Option Sl), env = [some (.dat (dp k d)), y] ∧ k + ds.length = 40)
    (by
      rintro z ds env ⟨k, y, rfl, hk⟩
      rw [List.length_cons] at hk
      exact ⟨_, _, rfl, by simp [l__law_deep_1]; rfl, k + 1, some (.dat z), rfl, by omega⟩)
    (rngD 0 40) [some (.dat d), none] ⟨0, none, rfl, by rw [rngD_length]⟩
  subst he
  have : k = 40 := by simpa using hk
  subst this
  generalize dp 40 d = R at *
  simp [m__law_deep, b__law_deep, h3]
section
variable {x0 x1 x7 x8 x9 x10 : Option Sl} {V : Nat} {s : Int} {od : List Int} {i1 i2 n d : Int}
abbrev wenv (x0 x1 : Option Sl) (V : Nat) (s : Int) (od : List Int) (i1 i2 n d : Int) (x7 x8 x9 x10 : Option Sl) : Z.En :=
  [x0, x1, some (.dat (.int (V : Int))), some (.dat (.int s)), some (.dat (.itup od)), some (.dat (.tup [.int i1, .int i2])), some (.dat (.tup [.int n, .int d])), x7, x8, x9, x10]
def ws1 : List Z.D := [.non, .bl true, .bl false, .int 0, .int 2, .int (-2), .str "1", .tup [.int 1], dp 40 (.int 1), .int 1000000000000000000000000000000]
theorem w1_ok : W1 (wenv x0 x1 V s od i1 i2 n d x7 x8 x9 x10) = some (.own (.lst ws1), wenv x0 x1 V s od i1 i2 n d x7 x8 x9 x10) := by
  have h := deep_ok (d := .int 1)
  unfold ws1
  generalize dp 40 (.int 1) = R at *
  simp [W1, h, hp30]
def ws2 (V : Nat) (od : List Int) : List Z.D := [.non, .int 0, .str "0", .tup ((od.drop 1).map Z.D.int), .tup (od.map Z.D.int ++ [.int V]), .tup (.int V :: (od.drop 1).map Z.D.int), .tup (.int (-1) :: (od.drop 1).map Z.D.int), .tup ((od.take (V - 1)).map Z.D.int ++ [.non]), .tup (List.replicate V (.bl true)), dp 40 (.itup od), .lst [.lst (od.map Z.D.int)]]
theorem sIx1 {V : Nat} (h1 : 1 ≤ V) : HT.sIx V 0 (some 1) = 1 := (HT.sIx_nat V 0 1).trans (by omega)
theorem sIxm {V : Nat} : HT.sIx V V (some (-1)) = V - 1 := by
  unfold HT.sIx
  simp
  omega
theorem cut_1 (hl : od.length = V) (h1 : 1 ≤ V) : cutG (.itup od) (some 1) none = some (.dat (.tup ((od.drop 1).map Z.D.int))) := by
  rw [s_cutI, if_neg]
  · unfold Z.cutD
    rw [List.length_map, hl]
    have e : HT.sIx V 0 (some 1) = 1 := sIx1 h1
    rw [e]
    show some (Rv.dat (.tup (((od.map Z.D.int).drop 1).take (V - 1)))) = _
    rw [← List.map_drop, List.take_of_length_le (by rw [List.length_map, List.length_drop]; omega)]
  · rw [hl]
    have e : HT.sIx V 0 (some 1) = 1 := sIx1 h1
    rw [e]
    intro z
    exact absurd z.1 (by decide)
theorem cut_m (hl : od.length = V) (h1 : 1 ≤ V) : cutG (.itup od) none (some (-1)) = some (.dat (.tup ((od.take (V - 1)).map Z.D.int))) := by
  have e : HT.sIx V V (some (-1)) = V - 1 := sIxm
  rw [s_cutI, if_neg]
  · unfold Z.cutD
    rw [List.length_map, hl, e]
    show some (Rv.dat (.tup (((od.map Z.D.int).drop 0).take (V - 1 - 0)))) = _
    rw [List.drop_zero, Nat.sub_zero, ← List.map_take]
  · rw [hl, e]
    intro z
    have := z.2
    omega
theorem mulT_ok (h1 : 1 ≤ V) (h2 : V ≤ 4) : mulG (.tup [.bl true]) (.int (V : Int)) = some (.dat (.tup (List.replicate V (.bl true)))) := by
  unfold mulG
  simp only
  rw [if_pos ⟨List.cons_ne_nil _ _, by omega, by omega, by rw [List.length_singleton]; omega⟩, Int.toNat_natCast, List.flatten_replicate_singleton]
theorem w2_ok (hl : od.length = V) (h1 : 1 ≤ V) (h2 : V ≤ 4) : W2 (wenv x0 x1 V s od i1 i2 n d x7 x8 x9 x10) = some (.own (.lst (ws2 V od)), wenv x0 x1 V s od i1 i2 n d x7 x8 x9 x10) := by
  have h := deep_ok (d := .itup od)
  have c1 := cut_1 hl h1
  have c2 := cut_m hl h1
  have c3 := mulT_ok h1 h2
  have l1 : (od.drop 1).length + 1 ≤ 16777216 := by rw [List.length_drop]; omega
  have l2 : (od.take (V - 1)).length + 1 ≤ 16777216 := by rw [List.length_take]; omega
  have l3 : od ≠ [] := by intro z; subst z; rw [List.length_nil] at hl; omega
  have l4 : od.length + 1 ≤ 16777216 := by omega
  have l5 : 1 + (od.drop 1).length ≤ 16777216 := by omega
  unfold ws2
  generalize dp 40 (.itup od) = R at *
  generalize List.replicate V (Z.D.bl true) = R2 at *
  generalize od.drop 1 = T at *
  generalize od.take (V - 1) = T2 at *
  simp [-s_cutI, W2, h, c1, c2, c3, l1, l2, l3, l4, l5, s_addI]
end
end K86

set_option Elab.async false
set_option linter.all false
set_option maxRecDepth 100000
set_option maxHeartbeats 1000000
namespace K86
open PySem PySem.Spec PyProof.Rows L2 Z
section
variable {x0 x1 x7 x8 x9 x10 : Option Sl} {V : Nat} {s : Int} {od : List Int} {i1 i2 n d : Int}
def ws3 (i1 i2 : Int) : List Z.D := [.non, .int 0, .str "00", .tup [], .tup [.int i1], .tup [.int i1, .int i2, .int 0], .tup [.int i1, .non], .tup [.bl true, .int i2], .tup [.tup [.int 0], .int 0], dp 40 (.tup [.int i1, .int i2])]
theorem cut1 {a b : Z.D} : Z.cutD [a, b] none (some 1) = [a] := rfl
theorem w3_ok : W3 (wenv x0 x1 V s od i1 i2 n d x7 x8 x9 x10) = some (.own (.lst (ws3 i1 i2)), wenv x0 x1 V s od i1 i2 n d x7 x8 x9 x10) := by
  have h := deep_ok (d := .tup [.int i1, .int i2])
  unfold ws3
  generalize dp 40 (.tup [.int i1, .int i2]) = R at *
  simp [W3, h, cut1]
def ws4 (n d : Int) : List Z.D := [.non, .int 1, .str "1", .tup [], .tup [.int 0, .int 1], .tup [.int (-n), .int d], .tup [.int n, .int (-d)], .tup [.int (2 * n), .int (2 * d)], .tup [.int 1, .int 0], .tup [.int 0, .int 0], .tup [.int n], .tup [.int n, .int d, .int 1], .tup [.bl true, .int 1], .tup [.int 1, .bl true], dp 40 (.tup [.int n, .int d])]
theorem w4_ok : W4 (wenv x0 x1 V s od i1 i2 n d x7 x8 x9 x10) = some (.own (.lst (ws4 n d)), wenv x0 x1 V s od i1 i2 n d x7 x8 x9 x10) := by
  have h := deep_ok (d := .tup [.int n, .int d])
  have h2 : ∀ z : Int, okMul 2 z = true := fun z => okMul_l (by decide)
  unfold ws4
  generalize dp 40 (.tup [.int n, .int d]) = R at *
  simp [W4, h, h2, cut1]
theorem cut3 {a b c d : Z.D} : Z.cutD [a, b, c, d] none (some 3) = [a, b, c] := rfl
abbrev brT (s : Int) (od : List Int) (i1 i2 n d : Int) : Z.D := .tup [.int s, .itup od, .tup [.int i1, .int i2], .tup [.int n, .int d]]
def ws5 (s : Int) (od : List Int) (i1 i2 n d : Int) : List Z.D := [.tup [.int s, .itup od, .tup [.int i1, .int i2]], .tup [.int s, .itup od, .tup [.int i1, .int i2], .tup [.int n, .int d], .int 0], .tup [], .non, .int 0, .str "bridge", dp 40 (brT s od i1 i2 n d), .dk [.inl 0] [brT s od i1 i2 n d]]
theorem dict_ok {x : Z.D} : dictG [.lst [.tup [.int 0, x]]] = some (.dat (.dk [.inl 0] [x])) := rfl
theorem w5_ok : W5 (wenv x0 (some (.dat (brT s od i1 i2 n d))) V s od i1 i2 n d x7 x8 x9 x10) = some (.own (.lst (ws5 s od i1 i2 n d)), wenv x0 (some (.dat (brT s od i1 i2 n d))) V s od i1 i2 n d x7 x8 x9 x10) := by
  have h := deep_ok (d := brT s od i1 i2 n d)
  unfold ws5
  generalize dp 40 (brT s od i1 i2 n d) = R at *
  simp [W5, h, cut3, dict_ok]
def wsA (V : Nat) (s : Int) (od : List Int) (i1 i2 n d : Int) : List Z.D := if 1 < V then [.tup [.int s, .tup ((od.take (V - 1)).map Z.D.int ++ [.int (od.getD 0 0)]), .tup [.int i1, .int i2], .tup [.int n, .int d]]] else []
theorem wA_ok {R : List Z.D} (hl : od.length = V) (h1 : 1 ≤ V) (h2 : V ≤ 4) (hR : R.length ≤ 1000) : WA (wenv x0 x1 V s od i1 i2 n d x7 (some (.own (.lst R))) x9 x10) = some (.nx (wenv x0 x1 V s od i1 i2 n d x7 (some (.own (.lst (R ++ wsA V s od i1 i2 n d)))) x9 x10)) := by
  have c2 := cut_m hl h1
  have l2 : (od.take (V - 1)).length + 1 ≤ 16777216 := by rw [List.length_take]; omega
  have ha : atI (od.map Z.D.int) 0 = some (.int (od.getD 0 0)) := by
    refine at_nat (i := 0) ?_
    rw [List.getElem?_map, List.getElem?_eq_getElem (by omega), List.getD_eq_getElem?_getD, List.getElem?_eq_getElem (by omega)]
    rfl
  have hR2 : R.length < 16777216 := by omega
  unfold wsA
  by_cases c : 1 < V
  · rw [if_pos c]
    have c' : (1 : Int) < (V : Int) := by omega
    generalize od.getD 0 0 = z at *
    generalize od.take (V - 1) = T2 at *
    simp [-s_cutI, WA, c', c2, l2, ha, hR2]
  · rw [if_neg c, List.append_nil]
    have c' : ¬ (1 : Int) < (V : Int) := by omega
    simp [WA, c']
/-- the rows of each part -/
def rw1 (od : List Int) (i1 i2 n d : Int) (x : Z.D) : Z.D := .tup [x, .itup od, .tup [.int i1, .int i2], .tup [.int n, .int d]]
def rw2 (s : Int) (i1 i2 n d : Int) (x : Z.D) : Z.D := .tup [.int s, x, .tup [.int i1, .int i2], .tup [.int n, .int d]]
def rw3 (s : Int) (od : List Int) (n d : Int) (x : Z.D) : Z.D := .tup [.int s, .itup od, x, .tup [.int n, .int d]]
def rw4 (s : Int) (od : List Int) (i1 i2 : Int) (x : Z.D) : Z.D := .tup [.int s, .itup od, .tup [.int i1, .int i2], x]
theorem lc1 {L : List Z.D} (hL : L.length ≤ 1000) : lcS (seqI (vS 7)) (nmB 9) yesT e__law_wrong_1 [9] (wenv x0 x1 V s od i1 i2 n d (some (.own (.lst L))) x8 none x10) = some (.own (.lst (L.map (rw1 od i1 i2 n d))), wenv x0 x1 V s od i1 i2 n d (some (.dat (.lst L))) x8 none x10) :=
  lcS_map (rw1 od i1 i2 n d) (by simp) (by omega) (.inl rfl) (fun x _ => ⟨.dat (rw1 od i1 i2 n d x), by simp [e__law_wrong_1, rw1], rfl⟩)
theorem lc2 {L : List Z.D} (hL : L.length ≤ 1000) : lcS (seqI (vS 10)) (nmB 9) yesT e__law_wrong_2 [9] (wenv x0 x1 V s od i1 i2 n d x7 x8 none (some (.own (.lst L)))) = some (.own (.lst (L.map (rw2 s i1 i2 n d))), wenv x0 x1 V s od i1 i2 n d x7 x8 none (some (.dat (.lst L)))) :=
  lcS_map (rw2 s i1 i2 n d) (by simp) (by omega) (.inl rfl) (fun x _ => ⟨.dat (rw2 s i1 i2 n d x), by simp [e__law_wrong_2, rw2], rfl⟩)
theorem lc3 {L : List Z.D} (hL : L.length ≤ 1000) : lcS (seqI (vS 10)) (nmB 9) yesT e__law_wrong_3 [9] (wenv x0 x1 V s od i1 i2 n d x7 x8 none (some (.own (.lst L)))) = some (.own (.lst (L.map (rw3 s od n d))), wenv x0 x1 V s od i1 i2 n d x7 x8 none (some (.dat (.lst L)))) :=
  lcS_map (rw3 s od n d) (by simp) (by omega) (.inl rfl) (fun x _ => ⟨.dat (rw3 s od n d x), by simp [e__law_wrong_3, rw3], rfl⟩)
theorem lc4 {L : List Z.D} (hL : L.length ≤ 1000) : lcS (seqI (vS 10)) (nmB 9) yesT e__law_wrong_4 [9] (wenv x0 x1 V s od i1 i2 n d x7 x8 none (some (.own (.lst L)))) = some (.own (.lst (L.map (rw4 s od i1 i2))), wenv x0 x1 V s od i1 i2 n d x7 x8 none (some (.dat (.lst L)))) :=
  lcS_map (rw4 s od i1 i2) (by simp) (by omega) (.inl rfl) (fun x _ => ⟨.dat (rw4 s od i1 i2 x), by simp [e__law_wrong_4, rw4], rfl⟩)
def wsAll (V : Nat) (s : Int) (od : List Int) (i1 i2 n d : Int) : List Z.D := ws1.map (rw1 od i1 i2 n d) ++ (ws2 V od).map (rw2 s i1 i2 n d) ++ wsA V s od i1 i2 n d ++ (ws3 i1 i2).map (rw3 s od n d) ++ (ws4 n d).map (rw4 s od i1 i2) ++ ws5 s od i1 i2 n d
theorem wrong_ok {o : OC} (hl : od.length = V) (h1 : 1 ≤ V) (h2 : V ≤ 4) : m__law_wrong o [brT s od i1 i2 n d, .int (V : Int)] = some (.own (.lst (wsAll V s od i1 i2 n d)), o) := by
  have lA : (wsA V s od i1 i2 n d).length ≤ 1 := by unfold wsA; split <;> simp
  have e1 : ws1.length = 10 := rfl
  have e2 : (ws2 V od).length = 11 := rfl
  have e3 : (ws3 i1 i2).length = 10 := rfl
  have e4 : (ws4 n d).length = 15 := rfl
  have e5 : (ws5 s od i1 i2 n d).length = 8 := rfl
  have a1 := fun x0 x1 x7 x8 x9 x10 => w1_ok (x0 := x0) (x1 := x1) (V := V) (s := s) (od := od) (i1 := i1) (i2 := i2) (n := n) (d := d) (x7 := x7) (x8 := x8) (x9 := x9) (x10 := x10)
  have a2 := fun x0 x1 x7 x8 x9 x10 => w2_ok (x0 := x0) (x1 := x1) (V := V) (s := s) (od := od) (i1 := i1) (i2 := i2) (n := n) (d := d) (x7 := x7) (x8 := x8) (x9 := x9) (x10 := x10) hl h1 h2
  have a3 := fun x0 x1 x7 x8 x9 x10 => w3_ok (x0 := x0) (x1 := x1) (V := V) (s := s) (od := od) (i1 := i1) (i2 := i2) (n := n) (d := d) (x7 := x7) (x8 := x8) (x9 := x9) (x10 := x10)
  have a4 := fun x0 x1 x7 x8 x9 x10 => w4_ok (x0 := x0) (x1 := x1) (V := V) (s := s) (od := od) (i1 := i1) (i2 := i2) (n := n) (d := d) (x7 := x7) (x8 := x8) (x9 := x9) (x10 := x10)
  have a5 := fun x0 x7 x8 x9 x10 => w5_ok (x0 := x0) (V := V) (s := s) (od := od) (i1 := i1) (i2 := i2) (n := n) (d := d) (x7 := x7) (x8 := x8) (x9 := x9) (x10 := x10)
  have aA := fun x0 x1 x7 x9 x10 R hR => wA_ok (x0 := x0) (x1 := x1) (V := V) (s := s) (od := od) (i1 := i1) (i2 := i2) (n := n) (d := d) (x7 := x7) (x9 := x9) (x10 := x10) (R := R) hl h1 h2 hR
  have b1 := fun x0 x1 x8 x10 => lc1 (x0 := x0) (x1 := x1) (V := V) (s := s) (od := od) (i1 := i1) (i2 := i2) (n := n) (d := d) (x8 := x8) (x10 := x10) (L := ws1) (by omega)
  have b2 := fun x0 x1 x7 x8 => lc2 (x0 := x0) (x1 := x1) (V := V) (s := s) (od := od) (i1 := i1) (i2 := i2) (n := n) (d := d) (x7 := x7) (x8 := x8) (L := ws2 V od) (by omega)
  have b3 := fun x0 x1 x7 x8 => lc3 (x0 := x0) (x1 := x1) (V := V) (s := s) (od := od) (i1 := i1) (i2 := i2) (n := n) (d := d) (x7 := x7) (x8 := x8) (L := ws3 i1 i2) (by omega)
  have b4 := fun x0 x1 x7 x8 => lc4 (x0 := x0) (x1 := x1) (V := V) (s := s) (od := od) (i1 := i1) (i2 := i2) (n := n) (d := d) (x7 := x7) (x8 := x8) (L := ws4 n d) (by omega)
  unfold wsAll
  have f1 : (ws1.map (rw1 od i1 i2 n d)).length = 10 := by rw [List.length_map]; exact e1
  have f2 : ((ws2 V od).map (rw2 s i1 i2 n d)).length = 11 := by rw [List.length_map]; exact e2
  have f3 : ((ws3 i1 i2).map (rw3 s od n d)).length = 10 := by rw [List.length_map]; exact e3
  have f4 : ((ws4 n d).map (rw4 s od i1 i2)).length = 15 := by rw [List.length_map]; exact e4
  generalize (ws1.map (rw1 od i1 i2 n d)) = S1 at *
  generalize ((ws2 V od).map (rw2 s i1 i2 n d)) = S2 at *
  generalize ((ws3 i1 i2).map (rw3 s od n d)) = S3 at *
  generalize ((ws4 n d).map (rw4 s od i1 i2)) = S4 at *
  generalize ws1 = T1 at *
  generalize ws2 V od = T2 at *
  generalize ws3 i1 i2 = T3 at *
  generalize ws4 n d = T4 at *
  generalize ws5 s od i1 i2 n d = T5 at *
  generalize wsA V s od i1 i2 n d = TA at *
  have g1 : S1.length + S2.length ≤ 16777216 := by omega
  have g2 : (S1 ++ S2).length ≤ 1000 := by rw [List.length_append]; omega
  have g3 : S1.length + (S2.length + TA.length) + S3.length ≤ 16777216 := by omega
  have g4 : S1.length + (S2.length + (TA.length + S3.length)) + S4.length ≤ 16777216 := by omega
  have g5 : S1.length + (S2.length + (TA.length + (S3.length + S4.length))) + T5.length ≤ 16777216 := by omega
  unfold wenv at *
  unfold m__law_wrong
  rw [wrong_eq]
  have aA' := fun x0 x1 x7 x9 x10 => aA x0 x1 x7 x9 x10 (S1 ++ S2) g2
  simp [-s_lcS, a1, a2, a3, a4, a5, aA', b1, b2, b3, b4, g1, g3, g4, g5]
end
end K86

set_option Elab.async false
set_option linter.all false
set_option maxRecDepth 100000
set_option maxHeartbeats 1000000
namespace K86
open PySem PySem.Spec PyProof.Rows L2 Z
theorem ns_non : nonSeq .non := ⟨_, rfl, .inl rfl⟩
theorem ns_int {i : Int} : nonSeq (.int i) := ⟨_, rfl, .inr (.inl rfl)⟩
theorem ns_str {x : Str} : nonSeq (.str x) := ⟨_, rfl, .inr (.inr (.inl rfl))⟩
theorem kd_non : KD .non := ⟨_, rfl, .inl rfl⟩
theorem kd_bl {b : Bool} : KD (.bl b) := ⟨_, rfl, .inr (.inl rfl)⟩
theorem kd_str {x : Str} : KD (.str x) := ⟨_, rfl, .inr (.inr (.inr (.inl rfl)))⟩
theorem kd_tup {ds : List Z.D} : KD (.tup ds) := ⟨_, rfl, .inr (.inr (.inr (.inr (.inl rfl))))⟩
theorem kd_itup {ds : List Int} : KD (.itup ds) := ⟨_, rfl, .inr (.inr (.inr (.inr (.inl rfl))))⟩
theorem kd_lst {ds : List Z.D} : KD (.lst ds) := ⟨_, rfl, .inr (.inr (.inr (.inr (.inr (.inl rfl)))))⟩
theorem dp_tup {d : Z.D} : ∃ x, dp 40 d = .tup [x] := ⟨dp 39 d, rfl⟩
theorem dp_mid {d : Z.D} : ∃ x, dp 40 d = .tup [.tup [x]] := ⟨dp 38 d, rfl⟩
theorem sq_tup {ds : List Z.D} : seqN (.tup ds) ds.length := ⟨ds, rfl, .inl rfl⟩
section
variable {V j k : Nat} {x : Br}
theorem sort_len {ns : List Int} : (sortI ns).length = ns.length := (sortI_perm ns).length_eq
theorem sort_ne_len {ns : List Int} (h : ns.length ≠ V) : decide (sortI ns = iota V) = false := by
  rw [decide_eq_false_iff_not]
  intro z
  have := congrArg List.length z
  rw [sort_len, iota_len] at this
  exact h this
theorem sort_ne_mem {ns : List Int} {v : Int} (hv : v ∈ ns) (h : ∀ i : Nat, i < V → v ≠ (i : Int)) : decide (sortI ns = iota V) = false := by
  rw [decide_eq_false_iff_not]
  intro z
  have : v ∈ iota V := by rw [← z]; exact (sortI_perm ns).mem_iff.mpr hv
  obtain ⟨i, h1, h2⟩ := mem_iota.mp this
  exact h i h2 h1
theorem iota_nodup : (iota V).Nodup := by
  unfold iota
  refine List.Pairwise.map _ (fun a b hab => ?_) List.nodup_range
  intro z
  exact hab (by omega)
theorem sort_ne_dup {ns : List Int} {v : Int} (h : ns = v :: (ns.drop 1)) (h2 : v ∈ ns.drop 1) : decide (sortI ns = iota V) = false := by
  rw [decide_eq_false_iff_not]
  intro z
  have p : ns.Perm (iota V) := z ▸ (sortI_perm ns).symm
  have nd := (p.nodup_iff).mpr iota_nodup
  rw [h] at nd
  exact (List.nodup_cons.mp nd).1 h2
theorem ord_tup {ns : List Int} (hl : ns.length ≤ 2000) (hV : V ≤ 4) (h : decide (sortI ns = iota V) = false) : m_is_order [.tup (ns.map Z.D.int), .int (V : Int)] = some (.dat (.bl false)) := by
  have := isord_ok (f := .t) (ns := ns) hl hV
  rw [h] at this
  exact this
theorem ord_bad {A : Z.D} {ds : List Z.D} {kd : String} (hkd : kd = "tuple" ∨ kd = "list") (ka : kindD A = some kd) (ia : itemsOf A = some ds) (hl : ds.length ≤ 2000) (hV : V ≤ 4) (h : ∀ d ∈ ds, KD d) (hw : ∃ d ∈ ds, wOf d = false) : m_is_order [A, .int (V : Int)] = some (.dat (.bl false)) := by
  refine (isord_any hkd ka ia hl hV h).1 ?_
  obtain ⟨d, h1, h2⟩ := hw
  rw [List.all_eq_false]
  exact ⟨d, h1, by rw [h2]; decide⟩
variable (hx : BrOk V j k x) (h1 : 1 ≤ V) (h2 : V ≤ 4)
include hx h1 h2
theorem nob_1 : ∀ d ∈ ws1.map (rw1 x.o x.i.1 x.i.2 x.b.1 x.b.2), nob d (V : Int) := by
  intro d hd
  obtain ⟨y, hy, rfl⟩ := List.mem_map.mp hd
  unfold ws1 at hy
  simp only [List.mem_cons, List.mem_nil_iff, or_false] at hy
  rcases hy with rfl | rfl | rfl | rfl | rfl | rfl | rfl | rfl | rfl | rfl
  · exact nob_sign (b := false) kd_non rfl
  · exact nob_sign (b := false) kd_bl rfl
  · exact nob_sign (b := false) kd_bl rfl
  · exact nob_sgn (b := false) (by decide) (by decide)
  · exact nob_sgn (b := false) (by decide) (by decide)
  · exact nob_sgn (b := false) (by decide) (by decide)
  · exact nob_sign (b := false) kd_str rfl
  · exact nob_sign (b := false) kd_tup rfl
  · obtain ⟨z, e⟩ := dp_tup (d := .int 1)
    rw [e]
    exact nob_sign (b := false) kd_tup rfl
  · exact nob_sgn (b := false) (by decide) (by decide)
theorem ob_2 : ∀ y ∈ ws2 V x.o, m_is_order [y, .int (V : Int)] = some (.dat (.bl false)) := by
  intro y hy
  have hlo := ord_len hx.o
  unfold ws2 at hy
  simp only [List.mem_cons, List.mem_nil_iff, or_false] at hy
  rcases hy with rfl | rfl | rfl | rfl | rfl | rfl | rfl | rfl | rfl | rfl | rfl
  · exact isord_non ns_non
  · exact isord_non ns_int
  · exact isord_non ns_str
  · exact ord_tup (by rw [List.length_drop]; omega) h2 (sort_ne_len (by rw [List.length_drop]; omega))
  · have := ord_tup (V := V) (ns := x.o ++ [(V : Int)]) (by rw [List.length_append, List.length_singleton]; omega) h2 (sort_ne_len (by rw [List.length_append, List.length_singleton]; omega))
    rw [List.map_append] at this
    exact this
  · exact ord_tup (V := V) (ns := (V : Int) :: x.o.drop 1) (by rw [List.length_cons, List.length_drop]; omega) h2 (sort_ne_mem (List.mem_cons_self ..) (fun i hi => by omega))
  · exact ord_tup (V := V) (ns := (-1 : Int) :: x.o.drop 1) (by rw [List.length_cons, List.length_drop]; omega) h2 (sort_ne_mem (List.mem_cons_self ..) (fun i hi => by omega))
  · refine ord_bad (.inl rfl) rfl rfl (by rw [List.length_append, List.length_map, List.length_take, List.length_singleton]; omega) h2 (fun d hd => ?_) ⟨.non, List.mem_append_right _ (List.mem_singleton.mpr rfl), rfl⟩
    rcases List.mem_append.mp hd with z | z
    · obtain ⟨i, _, rfl⟩ := List.mem_map.mp z
      exact kd_int
    · rw [List.mem_singleton.mp z]; exact kd_non
  · refine ord_bad (.inl rfl) rfl rfl (by rw [List.length_replicate]; omega) h2 (fun d hd => ?_) ⟨.bl true, List.mem_replicate.mpr ⟨by omega, rfl⟩, rfl⟩
    rw [(List.mem_replicate.mp hd).2]
    exact kd_bl
  · obtain ⟨z, e⟩ := dp_mid (d := .itup x.o)
    rw [e]
    refine ord_bad (.inl rfl) rfl rfl (by simp) h2 (fun d hd => ?_) ⟨.tup [z], List.mem_singleton.mpr rfl, rfl⟩
    rw [List.mem_singleton.mp hd]
    exact kd_tup
  · refine ord_bad (.inr rfl) rfl rfl (by simp) h2 (fun d hd => ?_) ⟨.lst (x.o.map Z.D.int), List.mem_singleton.mpr rfl, rfl⟩
    rw [List.mem_singleton.mp hd]
    exact kd_lst
theorem nob_2 : ∀ d ∈ (ws2 V x.o).map (rw2 x.s x.i.1 x.i.2 x.b.1 x.b.2), nob d (V : Int) := by
  intro d hd
  obtain ⟨y, hy, rfl⟩ := List.mem_map.mp hd
  exact nob_ord (b := false) hx.s (ob_2 hx h1 h2 y hy)
theorem nob_A : ∀ d ∈ wsA V x.s x.o x.i.1 x.i.2 x.b.1 x.b.2, nob d (V : Int) := by
  intro d hd
  have hlo := ord_len hx.o
  unfold wsA at hd
  split at hd
  · rename_i c
    rw [List.mem_singleton.mp hd]
    refine nob_ord (b := false) hx.s ?_
    obtain ⟨a, r, e⟩ : ∃ a r, x.o = a :: r := by
      cases h : x.o with
      | nil => rw [h, List.length_nil] at hlo; omega
      | cons a r => exact ⟨a, r, rfl⟩
    obtain ⟨W, rfl⟩ : ∃ W, V = W + 2 := ⟨V - 2, by omega⟩
    have et : x.o.take (W + 2 - 1) = a :: r.take W := by rw [e]; rfl
    have eg : x.o.getD 0 0 = a := by rw [e]; rfl
    rw [et, eg]
    have := ord_tup (V := W + 2) (ns := (a :: r.take W) ++ [a]) (by rw [List.length_append, List.length_cons, List.length_take, List.length_singleton]; omega) h2 (sort_ne_dup (v := a) rfl (List.mem_append_right _ (List.mem_singleton.mpr rfl)))
    rw [List.map_append] at this
    exact this
  · cases hd
theorem nob_3 : ∀ d ∈ (ws3 x.i.1 x.i.2).map (rw3 x.s x.o x.b.1 x.b.2), nob d (V : Int) := by
  intro d hd
  obtain ⟨y, hy, rfl⟩ := List.mem_map.mp hd
  have ho := isord_br (f := .n) hx.o h2
  unfold ws3 at hy
  simp only [List.mem_cons, List.mem_nil_iff, or_false] at hy
  rcases hy with rfl | rfl | rfl | rfl | rfl | rfl | rfl | rfl | rfl | rfl
  · exact nob_inon (b := false) hx.s ho ns_non
  · exact nob_inon (b := false) hx.s ho ns_int
  · exact nob_inon (b := false) hx.s ho ns_str
  · exact nob_ilen (b := false) (n := 0) hx.s ho sq_tup (by decide)
  · exact nob_ilen (b := false) (n := 1) hx.s ho sq_tup (by decide)
  · exact nob_ilen (b := false) (n := 3) hx.s ho sq_tup (by decide)
  · exact nob_ikd (b := false) (c := false) hx.s ho kd_int kd_non rfl
  · exact nob_ikd (b := false) (c := false) hx.s ho kd_bl kd_int rfl
  · exact nob_ikd (b := false) (c := false) hx.s ho kd_tup kd_int rfl
  · obtain ⟨z, e⟩ := dp_tup (d := .tup [.int x.i.1, .int x.i.2])
    rw [e]
    exact nob_ilen (b := false) (n := 1) hx.s ho sq_tup (by decide)
theorem fb_of {p q : Int} (h : ¬ (0 < q ∧ Nat.gcd p.natAbs q.natAbs = 1)) : m_is_fraction [.tup [.int p, .int q]] = some (.dat (.bl false)) := by
  have := isfr_ok (b := false) (p := p) (q := q)
  rw [show (decide (0 < q) && decide (Nat.gcd p.natAbs q.natAbs = 1)) = false by
    rw [Bool.and_eq_false_iff, decide_eq_false_iff_not, decide_eq_false_iff_not]
    by_cases c : 0 < q
    · exact .inr fun z => h ⟨c, z⟩
    · exact .inl c] at this
  exact this
theorem ft_of {p q : Int} (h : 0 < q ∧ Nat.gcd p.natAbs q.natAbs = 1) : m_is_fraction [.tup [.int p, .int q]] = some (.dat (.bl true)) := by
  have := isfr_ok (b := false) (p := p) (q := q)
  rw [show (decide (0 < q) && decide (Nat.gcd p.natAbs q.natAbs = 1)) = true by
    rw [Bool.and_eq_true, decide_eq_true_iff, decide_eq_true_iff]; exact h] at this
  exact this
theorem nob_4 : ∀ d ∈ (ws4 x.b.1 x.b.2).map (rw4 x.s x.o x.i.1 x.i.2), nob d (V : Int) := by
  intro d hd
  obtain ⟨y, hy, rfl⟩ := List.mem_map.mp hd
  have ho := isord_br (f := .n) hx.o h2
  have fr : ∀ B, m_is_fraction [B] = some (.dat (.bl false)) → nob (rw4 x.s x.o x.i.1 x.i.2 B) (V : Int) := fun B h => nob_fr (b := false) (c := false) hx.s ho h
  have neg : ∀ p q : Int, (0 < q ∧ Nat.gcd p.natAbs q.natAbs = 1) → ¬ 0 < p → nob (rw4 x.s x.o x.i.1 x.i.2 (.tup [.int p, .int q])) (V : Int) := fun p q h c => by
    have := isb_by (b := false) (c := false) (e := false) (p := x.i.1) (q := x.i.2) (n := p) (m := q) hx.s ho (ft_of hx h1 h2 h)
    rw [decide_eq_false c] at this
    exact this
  have d0 := hx.b.d0
  have n0 := hx.b.n0
  have co := hx.b.co
  unfold ws4 at hy
  simp only [List.mem_cons, List.mem_nil_iff, or_false] at hy
  rcases hy with rfl | rfl | rfl | rfl | rfl | rfl | rfl | rfl | rfl | rfl | rfl | rfl | rfl | rfl | rfl
  · exact fr _ (isfr_non ns_non)
  · exact fr _ (isfr_non ns_int)
  · exact fr _ (isfr_non ns_str)
  · exact fr _ (isfr_len (n := 0) sq_tup (by decide))
  · exact neg 0 1 (by decide) (by decide)
  · exact neg (-x.b.1) x.b.2 ⟨d0, by rw [Int.natAbs_neg]; exact co⟩ (by omega)
  · exact fr _ (fb_of hx h1 h2 (fun z => by omega))
  · refine fr _ (fb_of hx h1 h2 (fun z => ?_))
    have := z.2
    rw [Int.natAbs_mul, Int.natAbs_mul, Nat.gcd_mul_left, co] at this
    exact absurd this (by decide)
  · exact fr _ (fb_of hx h1 h2 (fun z => absurd z.1 (by decide)))
  · exact fr _ (fb_of hx h1 h2 (fun z => absurd z.1 (by decide)))
  · exact fr _ (isfr_len (n := 1) sq_tup (by decide))
  · exact fr _ (isfr_len (n := 3) sq_tup (by decide))
  · exact fr _ (isfr_kd (b := false) kd_bl kd_int rfl)
  · exact fr _ (isfr_kd (b := false) kd_int kd_bl rfl)
  · obtain ⟨z, e⟩ := dp_tup (d := .tup [.int x.b.1, .int x.b.2])
    rw [e]
    exact fr _ (isfr_len (n := 1) sq_tup (by decide))
theorem nob_5 : ∀ d ∈ ws5 x.s x.o x.i.1 x.i.2 x.b.1 x.b.2, nob d (V : Int) := by
  intro d hy
  unfold ws5 at hy
  simp only [List.mem_cons, List.mem_nil_iff, or_false] at hy
  rcases hy with rfl | rfl | rfl | rfl | rfl | rfl | rfl | rfl
  · exact nob_len (n := 3) sq_tup (by decide)
  · exact nob_len (n := 5) sq_tup (by decide)
  · exact nob_len (n := 0) sq_tup (by decide)
  · exact nob_non ns_non
  · exact nob_non ns_int
  · exact nob_non ns_str
  · obtain ⟨z, e⟩ := dp_tup (d := brT x.s x.o x.i.1 x.i.2 x.b.1 x.b.2)
    rw [e]
    exact nob_len (n := 1) sq_tup (by decide)
  · exact nob_non ⟨_, rfl, .inr (.inr (.inr (.inr rfl)))⟩
def wrongs (V : Nat) (x : Br) : List Z.D := wsAll V x.s x.o x.i.1 x.i.2 x.b.1 x.b.2
theorem nob_all : ∀ d ∈ wrongs V x, nob d (V : Int) := by
  intro d hd
  unfold wrongs wsAll at hd
  rcases List.mem_append.mp hd with hd | hd
  · rcases List.mem_append.mp hd with hd | hd
    · rcases List.mem_append.mp hd with hd | hd
      · rcases List.mem_append.mp hd with hd | hd
        · rcases List.mem_append.mp hd with hd | hd
          · exact nob_1 hx h1 h2 d hd
          · exact nob_2 hx h1 h2 d hd
        · exact nob_A hx h1 h2 d hd
      · exact nob_3 hx h1 h2 d hd
    · exact nob_4 hx h1 h2 d hd
  · exact nob_5 hx h1 h2 d hd
theorem wrongs_len : (wrongs V x).length ≤ 55 ∧ wrongs V x ≠ [] := by
  have lA : (wsA V x.s x.o x.i.1 x.i.2 x.b.1 x.b.2).length ≤ 1 := by unfold wsA; split <;> simp
  have e : (wrongs V x).length = 54 + (wsA V x.s x.o x.i.1 x.i.2 x.b.1 x.b.2).length := by
    unfold wrongs wsAll
    simp only [List.length_append, List.length_map]
    show 10 + 11 + _ + 10 + 15 + 8 = _
    omega
  exact ⟨by omega, fun z => by rw [z, List.length_nil] at e; omega⟩
end
end K86

set_option Elab.async false
set_option linter.all false
set_option maxRecDepth 100000
set_option maxHeartbeats 1000000
namespace K86
open PySem PySem.Spec PyProof.Rows L2 Z
/-! ### what repr shows -/
structure Rp (n B : Nat) (p : PyData) : Prop where
  sh : p.showable = true
  nd : p.hasDict = false
  dp : p.depth ≤ n
  ln : p.shown.length ≤ B
theorem Rp.mono {n m B C : Nat} {p : PyData} (h : Rp n B p) (h1 : n ≤ m) (h2 : B ≤ C) : Rp m C p := ⟨h.sh, h.nd, Nat.le_trans h.dp h1, Nat.le_trans h.ln h2⟩
theorem rp_int {i : Int} (h : i.natAbs < 2 ^ 100) : Rp 0 101 (.int i) := by
  have h2 : i.natAbs.log2 < 100 := by
    by_cases z : i.natAbs = 0
    · rw [z]; decide
    · exact (Nat.log2_lt z).mpr h
  refine ⟨?_, ?_, ?_, ?_⟩
  · simp only [PyData.showable, decide_eq_true_eq]; omega
  · simp only [PyData.hasDict]
  · simp only [PyData.depth]; omega
  · simp only [PyData.shown]
    show (Str.ofString (toString i)).length ≤ 101
    rw [PySem.ofString_length]
    exact int_text_length_le (by decide) h2
theorem piled_le {ts : List Str} {B : Nat} (h : ∀ t ∈ ts, t.length ≤ B) : piled ts ≤ ts.length * (B + 2) := by
  induction ts with
  | nil => rw [piled_nil]; exact Nat.zero_le _
  | cons t r ih =>
    rw [piled_cons, List.length_cons, Nat.add_mul]
    have h1 := h t (List.mem_cons_self ..)
    have h2 := ih (fun u hu => h u (List.mem_cons_of_mem _ hu))
    omega
theorem list_le (ts : List Str) : (listText ts).length ≤ piled ts + 2 := by
  cases ts with
  | nil => decide
  | cons t r =>
    have h := textFrom_length_pos r 1 (("[" : Str) ++ (if (0 : Nat) > 0 then ", " else "" : String) ++ t) (Nat.succ_pos 0)
    have e : ((("[" : Str) ++ (if (0 : Nat) > 0 then ", " else "" : String) ++ t)).length = 1 + t.length := by
      rw [strLen_append, strLen_append]; rfl
    have hX : (listText (t :: r)).length = (textFrom 0 "[" (t :: r)).length + 1 := by
      show (textFrom 0 "[" (t :: r) ++ "]").length = _
      rw [strLen_append]; rfl
    have hY : (textFrom 0 "[" (t :: r)).length = (textFrom 1 (("[" : Str) ++ (if (0 : Nat) > 0 then ", " else "" : String) ++ t) r).length := rfl
    rw [hX, hY, h, e, piled_cons]; omega
theorem tuple_le (ts : List Str) : (tupleText ts).length ≤ piled ts + 4 := by
  cases ts with
  | nil => decide
  | cons t r =>
    have h := join_length_add (t :: r) (by simp)
    unfold tupleText
    rw [strLen_append, strLen_append]
    have h1 : (("(" : Str)).length = 1 := rfl
    have h2 : (((if (t :: r).length == 1 then ",)" else ")" : String) : Str)).length ≤ 2 := by split <;> decide
    omega
theorem shAll {xs : List PyData} {n B : Nat} (h : ∀ x ∈ xs, Rp n B x) : PyData.showableAll xs = true ∧ PyData.hasDictAll xs = false ∧ PyData.depthAll xs ≤ n ∧ (∀ t ∈ PyData.shownAll xs, t.length ≤ B) ∧ (PyData.shownAll xs).length = xs.length := by
  induction xs with
  | nil => exact ⟨by simp only [PyData.showableAll], by simp only [PyData.hasDictAll], by simp only [PyData.depthAll]; omega, (fun t ht => by simp only [PyData.shownAll] at ht; cases ht), by simp only [PyData.shownAll, List.length_nil]⟩
  | cons x r ih =>
    obtain ⟨a1, a2, a3, a4, a5⟩ := ih (fun u hu => h u (List.mem_cons_of_mem _ hu))
    have hx := h x (List.mem_cons_self ..)
    refine ⟨?_, ?_, ?_, ?_, ?_⟩
    · simp only [PyData.showableAll, hx.sh, a1, Bool.and_self]
    · simp only [PyData.hasDictAll, hx.nd, a2, Bool.or_self]
    · have := hx.dp
      simp only [PyData.depthAll]; omega
    · intro t ht
      simp only [PyData.shownAll, List.mem_cons] at ht
      rcases ht with rfl | ht
      · exact hx.ln
      · exact a4 t ht
    · simp only [PyData.shownAll, List.length_cons, a5]
theorem rp_list {xs : List PyData} {n B m : Nat} (h : ∀ x ∈ xs, Rp n B x) (hm : xs.length ≤ m) : Rp (n + 1) (m * (B + 2) + 4) (.list xs) := by
  obtain ⟨a1, a2, a3, a4, a5⟩ := shAll h
  refine ⟨by simp only [PyData.showable, a1], by simp only [PyData.hasDict, a2], by simp only [PyData.depth]; omega, ?_⟩
  simp only [PyData.shown]
  have b1 := list_le (PyData.shownAll xs)
  have b2 := piled_le a4
  rw [a5] at b2
  have b3 := Nat.mul_le_mul_right (B + 2) hm
  omega
theorem rp_tuple {xs : List PyData} {n B m : Nat} (h : ∀ x ∈ xs, Rp n B x) (hm : xs.length ≤ m) : Rp (n + 1) (m * (B + 2) + 4) (.tuple xs) := by
  obtain ⟨a1, a2, a3, a4, a5⟩ := shAll h
  refine ⟨by simp only [PyData.showable, a1], by simp only [PyData.hasDict, a2], by simp only [PyData.depth]; omega, ?_⟩
  simp only [PyData.shown]
  have b1 := tuple_le (PyData.shownAll xs)
  have b2 := piled_le a4
  rw [a5] at b2
  have b3 := Nat.mul_le_mul_right (B + 2) hm
  omega
def hf : Bool → OF
  | true => .l
  | false => .n
/-- a bridge as it is handed -/
def hdD (b : Bool) (x : Br) : Z.D := brD b (hf b) x
def wrapP (b : Bool) (ps : List PyData) : PyData := if b = true then .list ps else .tuple ps
def brP (b : Bool) (x : Br) : PyData := wrapP b [.int x.s, wrapP b (x.o.map PyData.int), wrapP b [.int x.i.1, .int x.i.2], wrapP b [.int x.b.1, .int x.b.2]]
theorem pyL_ints (ns : List Int) : pyL (ns.map Z.D.int) = some (ns.map PyData.int) := by
  induction ns with
  | nil => rfl
  | cons n r ih => show (pyD (.int n)).bind _ = _; unfold pyD; rw [Option.bind_some, ih]; rfl
theorem pyD_hd {b : Bool} {x : Br} : pyD (hdD b x) = some (brP b x) := by
  have h := pyL_ints x.o
  cases b
  · show pyD (.tup [.int x.s, .itup x.o, .tup [.int x.i.1, .int x.i.2], .tup [.int x.b.1, .int x.b.2]]) = _
    simp only [pyD, pyL, Option.bind_some]
    rfl
  · show pyD (.lst [.int x.s, .lst (x.o.map Z.D.int), .lst [.int x.i.1, .int x.i.2], .lst [.int x.b.1, .int x.b.2]]) = _
    simp only [pyD, pyL, h, Option.bind_some]
    rfl
theorem rp_wrap {b : Bool} {xs : List PyData} {n B m : Nat} (h : ∀ x ∈ xs, Rp n B x) (hm : xs.length ≤ m) : Rp (n + 1) (m * (B + 2) + 4) (wrapP b xs) := by
  cases b
  · exact rp_tuple h hm
  · exact rp_list h hm
theorem rp_br {b : Bool} {x : Br} {V : Nat} (hx : BrOk V 84 84 x) (hV : V ≤ 4) : Rp 2 2000 (brP b x) := by
  have p84 : ∀ {i : Int}, i.natAbs < 2 ^ 84 → Rp 1 500 (.int i) := fun h => (rp_int (Nat.lt_of_lt_of_le h (Nat.pow_le_pow_right (by decide) (by decide)))).mono (by decide) (by decide)
  have i84 : ∀ {i : Int}, i.natAbs < 2 ^ 84 → Rp 0 101 (.int i) := fun h => rp_int (Nat.lt_of_lt_of_le h (Nat.pow_le_pow_right (by decide) (by decide)))
  have hs : x.s.natAbs < 2 ^ 84 := by rcases hx.s with e | e <;> rw [e] <;> decide
  refine (rp_wrap (n := 1) (B := 490) (m := 4) (fun y hy => ?_) (by simp)).mono (by decide) (by decide)
  simp only [List.mem_cons, List.mem_nil_iff, or_false] at hy
  rcases hy with rfl | rfl | rfl | rfl
  · exact (i84 hs).mono (by decide) (by decide)
  · refine (rp_wrap (n := 0) (B := 101) (m := 4) (fun y hy => ?_) (by rw [List.length_map, ord_len hx.o]; exact hV)).mono (by decide) (by decide)
    obtain ⟨v, hv, rfl⟩ := List.mem_map.mp hy
    obtain ⟨k, rfl, hk⟩ := ord_mem hx.o hv
    refine i84 ?_
    have : k < 2 ^ 84 := Nat.lt_of_lt_of_le (show k < 2 ^ 3 by omega) (Nat.pow_le_pow_right (by decide) (by decide))
    simpa using this
  · refine (rp_wrap (n := 0) (B := 101) (m := 4) (fun y hy => ?_) (by simp)).mono (by decide) (by decide)
    simp only [List.mem_cons, List.mem_nil_iff, or_false] at hy
    rcases hy with rfl | rfl
    · exact i84 hx.i1
    · exact i84 hx.i2
  · refine (rp_wrap (n := 0) (B := 101) (m := 4) (fun y hy => ?_) (by simp)).mono (by decide) (by decide)
    simp only [List.mem_cons, List.mem_nil_iff, or_false] at hy
    rcases hy with rfl | rfl
    · exact i84 hx.b.nk
    · exact i84 hx.b.dk
def shownH (b c : Bool) (x y : Br) : Str := (PyData.list [brP b x, brP c y]).shown
theorem repr_ok2 {b c : Bool} {x y : Br} {V : Nat} (hx : BrOk V 84 84 x) (hy : BrOk V 84 84 y) (hV : V ≤ 4) : reprG [.lst [hdD b x, hdD c y]] = some (.dat (.str (shownH b c x y))) := by
  have e : pyL [hdD b x, hdD c y] = some [brP b x, brP c y] := by
    simp only [pyL, pyD_hd, Option.bind_some]
  have h := rp_list (xs := [brP b x, brP c y]) (n := 2) (B := 2000) (m := 2) (fun z hz => by
    simp only [List.mem_cons, List.mem_nil_iff, or_false] at hz
    rcases hz with rfl | rfl
    · exact rp_br hx hV
    · exact rp_br hy hV) (by simp)
  have hok : reprOk [brP b x, brP c y] = true := by
    unfold reprOk
    rw [h.sh, h.nd]
    have h1 := h.dp
    have h2 := h.ln
    rw [decide_eq_true (by omega : (PyData.list [brP b x, brP c y]).depth ≤ 40), decide_eq_true (by omega : (PyData.list [brP b x, brP c y]).shown.length ≤ 16777216)]
    rfl
  show (pyL [hdD b x, hdD c y]).bind _ = _
  rw [e, Option.bind_some, if_pos hok]
  rfl
end K86

set_option Elab.async false
set_option linter.all false
set_option maxRecDepth 100000
set_option maxHeartbeats 1000000
namespace K86
open PySem PySem.Spec PyProof.Rows L2 Z
/-! ### bridges behind one another, opposites -/
theorem fst_nodup : ∀ {ns : List Int}, ns.Nodup → ∀ (k : Nat) (h : k < ns.length), fstI ns[k] ns = some k
  | n :: r, nd, 0, _ => by
    show fstI n (n :: r) = _
    unfold fstI
    rw [if_pos rfl]
  | n :: r, nd, k + 1, h => by
    have hk : k < r.length := by simpa using h
    obtain ⟨a, b⟩ := List.nodup_cons.mp nd
    have ih := fst_nodup b k hk
    show fstI r[k] (n :: r) = _
    unfold fstI
    have hne : ¬ n = r[k] := fun z => a (by rw [z]; exact List.getElem_mem hk)
    rw [if_neg hne, ih]
    rfl
theorem backO_perm {V : Nat} {o : List Int} (h : o.Perm (iota V)) : (backO o).Perm (iota V) := by
  have nd : o.Nodup := (h.nodup_iff).mpr iota_nodup
  have hl := ord_len h
  let f : Int → Int := fun v => (((fstI v o).getD 0 : Nat) : Int)
  have e1 : backO o = (iota V).map f := by
    unfold backO iota
    rw [hl, List.map_map]
    rfl
  have e2 : o.map f = iota V := by
    refine List.ext_getElem? fun k => ?_
    by_cases hk : k < V
    · have hk2 : k < o.length := by omega
      have q := fst_nodup nd k hk2
      rw [List.getElem?_map, List.getElem?_eq_getElem hk2]
      show some ((((fstI o[k] o).getD 0 : Nat) : Int)) = _
      rw [q]
      unfold iota
      rw [List.getElem?_map, List.getElem?_range hk]
      rfl
    · rw [List.getElem?_eq_none (by rw [List.length_map]; omega), List.getElem?_eq_none (by rw [iota_len]; omega)]
  rw [e1]
  exact (h.symm.map f).trans (by rw [e2])
theorem sgn_abs {s i : Int} (h : s = 1 ∨ s = -1) : (s * i).natAbs = i.natAbs := by
  rcases h with rfl | rfl
  · rw [Int.one_mul]
  · rw [Int.natAbs_mul]; simp
theorem opp_br {V j k : Nat} {x : Br} (h : BrOk V j k x) : BrOk V j k (opp x) := by
  have hs : -x.s = 1 ∨ -x.s = -1 := by rcases h.s with e | e <;> rw [e] <;> decide
  refine ⟨h.s, backO_perm h.o, ?_, ?_, ⟨h.b.d0, h.b.dk, h.b.n0, h.b.nk, by rw [Nat.gcd_comm]; exact h.b.co⟩⟩
  · show (-x.s * x.i.1).natAbs < _
    rw [sgn_abs hs]; exact h.i1
  · show (-x.s * x.i.2).natAbs < _
    rw [sgn_abs hs]; exact h.i2
theorem map_ix {V : Nat} {o : List Int} (h : o.Perm (iota V)) : (iota V).map (ixO o) = o := by
  refine List.ext_getElem? fun k => ?_
  by_cases hk : k < V
  · obtain ⟨j, h1, _, h3⟩ := ord_ix h hk
    rw [h3]
    unfold iota
    rw [List.getElem?_map, List.getElem?_map, List.getElem?_range hk]
    show some (o.getD (k : Int).toNat 0) = _
    rw [Int.toNat_natCast, h1]
  · rw [List.getElem?_eq_none (by rw [List.length_map, iota_len]; omega), List.getElem?_eq_none (by rw [ord_len h]; omega)]
theorem behind_br {V j k k2 : Nat} {x y : Br} (hx : BrOk V j k x) (hy : BrOk V j k2 y) : BrOk V (j + 1) (k + k2) (behind x y) := by
  have p : 2 ^ (j + 1) = 2 ^ j * 2 := Nat.pow_succ 2 j
  refine ⟨?_, ?_, ?_, ?_, mulF_b hx.b hy.b⟩
  · show x.s * y.s = 1 ∨ x.s * y.s = -1
    rcases hx.s with e | e <;> rcases hy.s with e2 | e2 <;> rw [e, e2] <;> decide
  · show (y.o.map (ixO x.o)).Perm _
    have := hy.o.map (ixO x.o)
    rw [map_ix hx.o] at this
    exact this.trans hx.o
  · show (y.s * x.i.1 + y.i.1).natAbs < _
    have h1 := hx.i1
    have h2 := hy.i1
    rw [← sgn_abs (i := x.i.1) hy.s] at h1
    omega
  · show (y.s * x.i.2 + y.i.2).natAbs < _
    have h1 := hx.i2
    have h2 := hy.i2
    rw [← sgn_abs (i := x.i.2) hy.s] at h1
    omega
/-! ### the stages of a turn -/
def so0 : Fs := (asgS 2 (callM m__law_wide_bridge 0 (consL (vS 0) (consL (vS 1) nilL))))
def so1 : Fs := (asgS 3 (callM m__law_wide_bridge 0 (consL (vS 0) (consL (vS 1) nilL))))
def so2 : Fs := (asgS 4 (lcS (seqI (tupS (consL (vS 2) (consL (vS 3) nilL)))) (nmB 5) yesT e__law_so_1 [5]))
def so3 : Fs := (asgS 6 (cbS reprG (consL (vS 4) nilL)))
def so4 : Fs := (iffS (notT (truS (callP (m__law_same 8) (consL (lcS (seqI (vS 4)) (nmB 5) yesT e__law_so_2 [5]) (consL (lstS (consL (vS 2) (consL (vS 3) nilL))) nilL))))) (retS (cS (.bl false))) doneS)
def so5 : Fs := (asgS 7 (callP m__law_behind (consL (vS 2) (consL (vS 3) nilL))))
def so6 : Fs := (iffS (orT (notT (truS (callP (m__law_same 8) (consL (callP m_put_behind (consL (bin2 ixG (vS 4) (cS (.int 0))) (consL (bin2 ixG (vS 4) (cS (.int 1))) nilL))) (consL (vS 7) nilL))))) (notT (truS (callP (m__law_same 8) (consL (callP m_opposite_bridge (consL (bin2 ixG (vS 4) (cS (.int 0))) nilL)) (consL (callP m__law_opposite (consL (vS 2) nilL)) nilL)))))) (retS (cS (.bl false))) doneS)
def so7 : Fs := (asgS 8 (callM m__law_bar 0 (consL (vS 0) (consL (vS 1) (consL (cS (.int 12)) nilL)))))
def so8 : Fs := (asgS 9 (callM m__law_pick 0 (consL (vS 0) (consL (lstS (consL (vS 8) (consL (callP (m__law_listed 8) (consL (vS 8) nilL)) nilL))) nilL))))
def so9 : Fs := (asgS 10 (cbS tupleG (consL (lcS (seqI (vS 8)) (nmB 11) yesT e__law_so_3 [11]) nilL)))
def so10 : Fs := (asgS 12 (callP m_brought (consL (vS 9) (consL (bin2 ixG (vS 4) (cS (.int 0))) nilL))))
def so11 : Fs := (iffS (orT (notT (truS (callP (m__law_same 8) (consL (vS 12) (consL (vS 10) nilL))))) (notT (truS (callP (m__law_same 8) (consL (callP m_brought (consL (vS 12) (consL (bin2 ixG (vS 4) (cS (.int 1))) nilL))) (consL (cbS tupleG (consL (lcS (seqI (vS 8)) (nmB 11) yesT e__law_so_4 [11]) nilL)) nilL)))))) (retS (cS (.bl false))) doneS)
def so12 : Fs := (iffS (orT (notT (truS (callP (m__law_same 8) (consL (callP m_brought (consL (vS 10) (consL (callP m_opposite_bridge (consL (vS 2) nilL)) nilL))) (consL (vS 8) nilL))))) (notT (truS (callP (m__law_same 8) (consL (cbS tupleG (consL (lcS (seqI (vS 10)) (nmB 11) yesT e__law_so_5 [11]) nilL)) (consL (vS 8) nilL)))))) (retS (cS (.bl false))) doneS)
def so13 : Fs := (asgS 13 (callM m__law_wrong 0 (consL (vS 0) (consL (vS 2) (consL (vS 1) nilL)))))
def so14 : Fs := (loopS (rngI1 (consL (cS (.int 12)) nilL)) (nmB 14) l__law_so_1)
def so15 : Fs := (asgS 16 (bin2 addG (cS (.int 1)) (bin2 modG (cbS intG (consL (vS 1) nilL)) (cS (.int 4)))))
def so16 : Fs := (retS (andS (bin2 (bRes eqG) (cbS reprG (consL (vS 4) nilL)) (vS 6)) (callP m__law_refused (consL (bin2 ixG (vS 4) (cS (.int 0))) (consL (vS 16) nilL)))))
theorem so_eq : b__law_so = (seqS so0 (seqS so1 (seqS so2 (seqS so3 (seqS so4 (seqS so5 (seqS so6 (seqS so7 (seqS so8 (seqS so9 (seqS so10 (seqS so11 (seqS so12 (seqS so13 (seqS so14 (seqS so15 so16)))))))))))))))) := rfl
theorem seq_nx {a b : Fs} {env env' : Z.En} (h : a env = some (.nx env')) : seqS a b env = b env' := by rw [s_seq, h]; rfl
abbrev senv (o : OC) (V : Nat) (x2 x3 x4 x5 x6 x7 x8 x9 x10 x11 x12 x13 x14 x15 x16 : Option Sl) : Z.En := [some (.par o), some (.dat (.int (V : Int))), x2, x3, x4, x5, x6, x7, x8, x9, x10, x11, x12, x13, x14, x15, x16]
section
variable {o : OC} {V : Nat} {x2 x3 x4 x5 x6 x7 x8 x9 x10 x11 x12 x13 x14 x15 x16 : Option Sl} {x y : Br}
theorem st0 (P : PoolOk o) (hV : V ≤ 4) : ∃ x o', BrOk V 84 84 x ∧ PoolOk o' ∧ so0 (senv o V x2 x3 x4 x5 x6 x7 x8 x9 x10 x11 x12 x13 x14 x15 x16) = some (.nx (senv o' V (some (.dat (brD false .n x))) x3 x4 x5 x6 x7 x8 x9 x10 x11 x12 x13 x14 x15 x16)) := by
  obtain ⟨x, o', h, hx, P'⟩ := wide_ok P hV
  refine ⟨x, o', hx, P', ?_⟩
  generalize brD false .n x = X at *
  simp [so0, h]
theorem st1 (P : PoolOk o) (hV : V ≤ 4) : ∃ y o', BrOk V 84 84 y ∧ PoolOk o' ∧ so1 (senv o V x2 x3 x4 x5 x6 x7 x8 x9 x10 x11 x12 x13 x14 x15 x16) = some (.nx (senv o' V x2 (some (.dat (brD false .n y))) x4 x5 x6 x7 x8 x9 x10 x11 x12 x13 x14 x15 x16)) := by
  obtain ⟨x, o', h, hx, P'⟩ := wide_ok P hV
  refine ⟨x, o', hx, P', ?_⟩
  generalize brD false .n x = X at *
  simp [so1, h]
theorem hand_ok (P : PoolOk o) (hx : BrOk V 84 84 x) (hV : V ≤ 4) : ∃ b o', m__law_pick o [.lst [brD false .n x, brD true .l x]] = some (.dat (hdD b x), o') ∧ PoolOk o' := by
  obtain ⟨d, o', h, hd, P'⟩ := pick_ok (ds := [brD false .n x, brD true .l x]) P (by simp) (by simp)
  simp only [List.mem_cons, List.mem_nil_iff, or_false] at hd
  rcases hd with rfl | rfl
  · exact ⟨false, o', h, P'⟩
  · exact ⟨true, o', h, P'⟩
theorem listed_hd (hx : BrOk V 84 84 x) (hV : V ≤ 4) : ∃ ds, m__law_listed 8 [brD false .n x] = some (.own (.lst ds)) ∧ brD true .l x = .lst ds :=
  ⟨_, listed_br (n := 5) (by rw [ord_len hx.o]; omega), rfl⟩
theorem st2 (P : PoolOk o) (hx : BrOk V 84 84 x) (hy : BrOk V 84 84 y) (hV : V ≤ 4) : ∃ b c o', PoolOk o' ∧ so2 (senv o V (some (.dat (brD false .n x))) (some (.dat (brD false .n y))) x4 none x6 x7 x8 x9 x10 x11 x12 x13 x14 x15 x16) =
    some (.nx (senv o' V (some (.dat (brD false .n x))) (some (.dat (brD false .n y))) (some (.own (.lst [hdD b x, hdD c y]))) none x6 x7 x8 x9 x10 x11 x12 x13 x14 x15 x16)) := by
  obtain ⟨b, o1, h1, P1⟩ := hand_ok P hx hV
  obtain ⟨c, o2, h2, P2⟩ := hand_ok P1 hy hV
  obtain ⟨d1, l1, e1⟩ := listed_hd hx hV
  obtain ⟨d2, l2, e2⟩ := listed_hd hy hV
  refine ⟨b, c, o2, P2, ?_⟩
  rw [e1] at h1
  rw [e2] at h2
  generalize brD false .n x = X at *
  generalize brD false .n y = Y at *
  generalize hdD b x = HX at *
  generalize hdD c y = HY at *
  simp [so2, e__law_so_1, lcGo, h1, h2, l1, l2]
end
end K86

set_option Elab.async false
set_option linter.all false
set_option maxRecDepth 100000
set_option maxHeartbeats 1000000
namespace K86
open PySem PySem.Spec PyProof.Rows L2 Z
section
variable {o : OC} {V : Nat} {x2 x3 x4 x5 x6 x7 x8 x9 x10 x11 x12 x13 x14 x15 x16 : Option Sl} {x y : Br} {b c : Bool}
theorem st3 (hx : BrOk V 84 84 x) (hy : BrOk V 84 84 y) (hV : V ≤ 4) : so3 (senv o V x2 x3 (some (.own (.lst [hdD b x, hdD c y]))) x5 x6 x7 x8 x9 x10 x11 x12 x13 x14 x15 x16) =
    some (.nx (senv o V x2 x3 (some (.own (.lst [hdD b x, hdD c y]))) x5 (some (.dat (.str (shownH b c x y)))) x7 x8 x9 x10 x11 x12 x13 x14 x15 x16)) := by
  have h := repr_ok2 (b := b) (c := c) hx hy hV
  generalize shownH b c x y = S at *
  generalize hdD b x = HX at *
  generalize hdD c y = HY at *
  simp [so3, h]
theorem hf_kept {b : Bool} : (hf b).kept ≠ .l := by cases b <;> exact fun z => nomatch z
theorem st4 (hx : BrOk V 84 84 x) (hy : BrOk V 84 84 y) (hV : V ≤ 4) : so4 (senv o V (some (.dat (brD false .n x))) (some (.dat (brD false .n y))) (some (.own (.lst [hdD b x, hdD c y]))) none x6 x7 x8 x9 x10 x11 x12 x13 x14 x15 x16) =
    some (.nx (senv o V (some (.dat (brD false .n x))) (some (.dat (brD false .n y))) (some (.dat (.lst [hdD b x, hdD c y]))) none x6 x7 x8 x9 x10 x11 x12 x13 x14 x15 x16)) := by
  have h1 : m_check_bridge [hdD b x, .int (V : Int)] = _ := check_ok (b := b) (f := hf b) hx hV
  have h2 : m_check_bridge [hdD c y, .int (V : Int)] = _ := check_ok (b := c) (f := hf c) hy hV
  have h3 := same_wrapD (n := 7) (b := true) (xs := [(brD false (hf b).kept x, brD false .n x), (brD false (hf c).kept y, brD false .n y)]) (by simp) (fun z hz => by
    simp only [List.mem_cons, List.mem_nil_iff, or_false] at hz
    rcases hz with rfl | rfl
    · exact same_br (n := 4) hf_kept (fun z => nomatch z) (by rw [ord_len hx.o]; omega)
    · exact same_br (n := 4) hf_kept (fun z => nomatch z) (by rw [ord_len hy.o]; omega))
  simp only [List.map_cons, List.map_nil, wrap_t] at h3
  generalize brD false (hf b).kept x = X2 at *
  generalize brD false (hf c).kept y = Y2 at *
  generalize brD false .n x = X at *
  generalize brD false .n y = Y at *
  generalize hdD b x = HX at *
  generalize hdD c y = HY at *
  simp [so4, e__law_so_2, lcGo, h1, h2, h3]
theorem st5 (hx : BrOk V 84 84 x) (hy : BrOk V 84 84 y) (hV : V ≤ 4) : so5 (senv o V (some (.dat (brD false .n x))) (some (.dat (brD false .n y))) x4 x5 x6 x7 x8 x9 x10 x11 x12 x13 x14 x15 x16) =
    some (.nx (senv o V (some (.dat (brD false .n x))) (some (.dat (brD false .n y))) x4 x5 x6 (some (.dat (brD false .t (behind x y)))) x8 x9 x10 x11 x12 x13 x14 x15 x16)) := by
  have h := lbehind_ok (f := .n) (g := .n) hx hy hV (by decide)
  generalize brD false .t (behind x y) = Z at *
  generalize brD false .n x = X at *
  generalize brD false .n y = Y at *
  simp [so5, h]
theorem hf_nt {b : Bool} : hf b ≠ .t := by cases b <;> exact fun z => nomatch z
theorem st6 (hx : BrOk V 84 84 x) (hy : BrOk V 84 84 y) (hV : V ≤ 4) : so6 (senv o V (some (.dat (brD false .n x))) x3 (some (.dat (.lst [hdD b x, hdD c y]))) x5 x6 (some (.dat (brD false .t (behind x y)))) x8 x9 x10 x11 x12 x13 x14 x15 x16) =
    some (.nx (senv o V (some (.dat (brD false .n x))) x3 (some (.dat (.lst [hdD b x, hdD c y]))) x5 x6 (some (.dat (brD false .t (behind x y)))) x8 x9 x10 x11 x12 x13 x14 x15 x16)) := by
  have h1 : m_put_behind [hdD b x, hdD c y] = _ := putb_ok (b := b) (c := c) (f := hf b) (g := hf c) hx hy hV (by decide)
  have h2 : m_opposite_bridge [hdD b x] = _ := opp_ok (b := b) (f := hf b) hx hV (by decide) hf_nt
  have h3 := lopp_ok hx hV
  have hb := behind_br hx hy
  have ho := opp_br hx
  have h4 := same_br (n := 5) (f := .t) (g := .t) (x := behind x y) (fun z => nomatch z) (fun z => nomatch z) (by rw [ord_len hb.o]; omega)
  have h5 := same_br (n := 5) (f := .t) (g := .t) (x := opp x) (fun z => nomatch z) (fun z => nomatch z) (by rw [ord_len ho.o]; omega)
  generalize brD false .t (behind x y) = Z at *
  generalize brD false .t (opp x) = W at *
  generalize brD false .n x = X at *
  generalize hdD b x = HX at *
  generalize hdD c y = HY at *
  simp [so6, h1, h2, h3, h4, h5]
theorem st7 (P : PoolOk o) (hV : V ≤ 4) : ∃ cs o', (∀ c ∈ cs, FrB 10 c.d ∧ c.e.length = V) ∧ cs.length ≤ 12 ∧ PoolOk o' ∧ so7 (senv o V x2 x3 x4 x5 x6 x7 x8 x9 x10 x11 x12 x13 x14 x15 x16) = some (.nx (senv o' V x2 x3 x4 x5 x6 x7 (some (.dat (clsD false false false cs))) x9 x10 x11 x12 x13 x14 x15 x16)) := by
  obtain ⟨cs, o', h, h1, h2, P'⟩ := bar_ok P hV
  refine ⟨cs, o', h1, h2, P', ?_⟩
  generalize clsD false false false cs = C at *
  simp [so7, h]
variable {cs : List Col} (hcs : ∀ c ∈ cs, FrB 10 c.d ∧ c.e.length = V) (hn : cs.length ≤ 12)
include hcs hn
theorem st8 (P : PoolOk o) (hV : V ≤ 4) : ∃ e o', PoolOk o' ∧ so8 (senv o V x2 x3 x4 x5 x6 x7 (some (.dat (clsD false false false cs))) x9 x10 x11 x12 x13 x14 x15 x16) = some (.nx (senv o' V x2 x3 x4 x5 x6 x7 (some (.dat (clsD false false false cs))) (some (.dat (clsD e e e cs))) x10 x11 x12 x13 x14 x15 x16)) := by
  have h1 := listed_cls (n := 2) (cs := cs) (by omega) (fun c hc => by have := (hcs c hc).2; omega)
  obtain ⟨d, o', h, hd, P'⟩ := pick_ok (ds := [clsD false false false cs, .lst (cs.map (colD true true))]) P (by simp) (by simp)
  obtain ⟨e, rfl⟩ : ∃ e, d = clsD e e e cs := by
    simp only [List.mem_cons, List.mem_nil_iff, or_false] at hd
    rcases hd with rfl | rfl
    · exact ⟨false, rfl⟩
    · exact ⟨true, rfl⟩
  refine ⟨e, o', P', ?_⟩
  generalize clsD e e e cs = C2 at *
  generalize clsD false false false cs = C at *
  generalize cs.map (colD true true) = L at *
  simp [so8, h1, h]
omit hn in
theorem crossing_ok (hx : BrOk V 84 84 x) : ∀ c ∈ cs.map fun c => cross c x, FrB 94 c.d ∧ c.e.length = V := by
  intro z hz
  obtain ⟨w, hw, rfl⟩ := List.mem_map.mp hz
  exact ⟨mulF_b (hcs w hw).1 hx.b, by show (crossE w.e x).length = V; rw [crossE_len, ord_len hx.o]⟩
theorem st9 (hx : BrOk V 84 84 x) (hV : V ≤ 4) : so9 (senv o V (some (.dat (brD false .n x))) x3 x4 x5 x6 x7 (some (.dat (clsD false false false cs))) x9 x10 none x12 x13 x14 x15 x16) =
    some (.nx (senv o V (some (.dat (brD false .n x))) x3 x4 x5 x6 x7 (some (.dat (clsD false false false cs))) x9 (some (.dat (clsD false false false (cs.map fun c => cross c x)))) none x12 x13 x14 x15 x16)) := by
  have key := lcS_mapC (fi := seqI (vS 8)) (i := 11) (f := e__law_so_3) (env := senv o V (some (.dat (brD false .n x))) x3 x4 x5 x6 x7 (some (.dat (clsD false false false cs))) x9 x10 none x12 x13 x14 x15 x16) (env1 := senv o V (some (.dat (brD false .n x))) x3 x4 x5 x6 x7 (some (.dat (clsD false false false cs))) x9 x10 none x12 x13 x14 x15 x16) (xs := cs) (colD false false) (fun c => colD false false (cross c x))
    (by unfold clsD; simp) (by omega) (.inl rfl) (by
      intro c hc
      have h := crossed_ok (f := .n) hx (hcs c hc).1 (hcs c hc).2 hV (by decide)
      refine ⟨.dat (colD false false (cross c x)), ?_, rfl⟩
      generalize colD false false (cross c x) = R at *
      generalize colD false false c = C at *
      generalize brD false .n x = B at *
      simp [e__law_so_3, h])
  have e : clsD false false false (cs.map fun c => cross c x) = .tup (cs.map fun c => colD false false (cross c x)) := by unfold clsD; rw [List.map_map]; rfl
  rw [e]
  generalize clsD false false false cs = C at *
  generalize brD false .n x = B at *
  generalize (cs.map fun c => colD false false (cross c x)) = R at *
  simp [-s_lcS, so9, key]
theorem st10 (hx : BrOk V 84 84 x) (hV : V ≤ 4) {e : Bool} {d2 : Z.D} : so10 (senv o V x2 x3 (some (.dat (.lst [hdD b x, d2]))) x5 x6 x7 x8 (some (.dat (clsD e e e cs))) x10 x11 x12 x13 x14 x15 x16) =
    some (.nx (senv o V x2 x3 (some (.dat (.lst [hdD b x, d2]))) x5 x6 x7 x8 (some (.dat (clsD e e e cs))) x10 x11 (some (.dat (clsD false false false (cs.map fun c => cross c x)))) x13 x14 x15 x16)) := by
  have h : m_brought [clsD e e e cs, hdD b x] = _ := brought_ok (l := e) (m := e) (b2 := e) (b := b) (f := hf b) hx hcs hV (by decide) (by omega)
  generalize clsD false false false (cs.map fun c => cross c x) = R at *
  generalize clsD e e e cs = C at *
  generalize hdD b x = B at *
  simp [so10, h]
theorem st11 (hx : BrOk V 84 84 x) (hy : BrOk V 84 84 y) (hV : V ≤ 4) {d1 : Z.D} : so11 (senv o V x2 x3 (some (.dat (.lst [d1, hdD c y]))) x5 x6 (some (.dat (brD false .t (behind x y)))) (some (.dat (clsD false false false cs))) x9 (some (.dat (clsD false false false (cs.map fun c => cross c x)))) none (some (.dat (clsD false false false (cs.map fun c => cross c x)))) x13 x14 x15 x16) =
    some (.nx (senv o V x2 x3 (some (.dat (.lst [d1, hdD c y]))) x5 x6 (some (.dat (brD false .t (behind x y)))) (some (.dat (clsD false false false cs))) x9 (some (.dat (clsD false false false (cs.map fun c => cross c x)))) none (some (.dat (clsD false false false (cs.map fun c => cross c x)))) x13 x14 x15 x16)) := by
  have hc2 := crossing_ok hcs hx
  have hb := behind_br hx hy
  have h1 : m_brought [clsD false false false (cs.map fun c => cross c x), hdD c y] = _ := brought_ok (l := false) (m := false) (b2 := false) (b := c) (f := hf c) hy hc2 hV (by decide) (by rw [List.length_map]; omega)
  have e1 : ((cs.map fun c => cross c x).map fun c => cross c y) = cs.map fun c => cross c (behind x y) := by
    rw [List.map_map]
    refine List.map_congr_left fun c hc => ?_
    exact cross_behind hx hy (hcs c hc).1
  rw [e1] at h1
  have s1 := same_cls (n := 2) (cs := cs.map fun c => cross c x) (by rw [List.length_map]; omega) (fun c hc => by have := (hc2 c hc).2; omega)
  have s2 := same_cls (n := 2) (cs := cs.map fun c => cross c (behind x y)) (by rw [List.length_map]; omega) (fun c hc => by
    obtain ⟨c, hc, rfl⟩ := List.mem_map.mp hc
    show (crossE c.e (behind x y)).length ≤ 2000
    rw [crossE_len, ord_len hb.o]; omega)
  have key := lcS_mapC (fi := seqI (vS 8)) (i := 11) (f := e__law_so_4) (env := senv o V x2 x3 (some (.dat (.lst [d1, hdD c y]))) x5 x6 (some (.dat (brD false .t (behind x y)))) (some (.dat (clsD false false false cs))) x9 (some (.dat (clsD false false false (cs.map fun c => cross c x)))) none (some (.dat (clsD false false false (cs.map fun c => cross c x)))) x13 x14 x15 x16) (env1 := senv o V x2 x3 (some (.dat (.lst [d1, hdD c y]))) x5 x6 (some (.dat (brD false .t (behind x y)))) (some (.dat (clsD false false false cs))) x9 (some (.dat (clsD false false false (cs.map fun c => cross c x)))) none (some (.dat (clsD false false false (cs.map fun c => cross c x)))) x13 x14 x15 x16) (xs := cs) (colD false false) (fun c => colD false false (cross c (behind x y)))
    (by unfold clsD; simp) (by omega) (.inl rfl) (by
      intro c hc
      have h := crossed_ok (f := .t) hb (hcs c hc).1 (hcs c hc).2 hV (by decide)
      refine ⟨.dat (colD false false (cross c (behind x y))), ?_, rfl⟩
      generalize clsD false false false (cs.map fun c => cross c x) = Q at *
      generalize clsD false false false cs = Q2 at *
      generalize colD false false (cross c (behind x y)) = R at *
      generalize colD false false c = C at *
      generalize brD false .t (behind x y) = B at *
      simp [e__law_so_4, h])
  have e : clsD false false false (cs.map fun c => cross c (behind x y)) = .tup (cs.map fun c => colD false false (cross c (behind x y))) := by unfold clsD; rw [List.map_map]; rfl
  rw [e] at s2 h1
  generalize clsD false false false (cs.map fun c => cross c x) = Q at *
  generalize clsD false false false cs = C at *
  generalize brD false .t (behind x y) = B at *
  generalize (cs.map fun c => colD false false (cross c (behind x y))) = R at *
  generalize hdD c y = HY at *
  simp [-s_lcS, so11, key, h1, s1, s2]
theorem st12 (hx : BrOk V 84 84 x) (hV : V ≤ 4) : so12 (senv o V (some (.dat (brD false .n x))) x3 x4 x5 x6 x7 (some (.dat (clsD false false false cs))) x9 (some (.dat (clsD false false false (cs.map fun c => cross c x)))) none x12 x13 x14 x15 x16) =
    some (.nx (senv o V (some (.dat (brD false .n x))) x3 x4 x5 x6 x7 (some (.dat (clsD false false false cs))) x9 (some (.dat (clsD false false false (cs.map fun c => cross c x)))) none x12 x13 x14 x15 x16)) := by
  have hc2 := crossing_ok hcs hx
  have ho := opp_br hx
  have h0 := opp_ok (b := false) (f := .n) hx hV (by decide) (fun z => nomatch z)
  have h00 := lopp_ok hx hV
  have h1 := brought_ok (l := false) (m := false) (b2 := false) (b := false) (f := .t) ho hc2 hV (by decide) (by rw [List.length_map]; omega)
  have e1 : ((cs.map fun c => cross c x).map fun c => cross c (opp x)) = cs := by
    rw [List.map_map]
    refine (List.map_congr_left fun c hc => ?_).trans (List.map_id cs)
    exact cross_back hx (hcs c hc).1 (hcs c hc).2
  have s1 := same_cls (n := 2) (cs := cs) (by omega) (fun c hc => by have := (hcs c hc).2; omega)
  have key := lcS_mapC (fi := seqI (vS 10)) (i := 11) (f := e__law_so_5) (env := senv o V (some (.dat (brD false .n x))) x3 x4 x5 x6 x7 (some (.dat (clsD false false false cs))) x9 (some (.dat (clsD false false false (cs.map fun c => cross c x)))) none x12 x13 x14 x15 x16) (env1 := senv o V (some (.dat (brD false .n x))) x3 x4 x5 x6 x7 (some (.dat (clsD false false false cs))) x9 (some (.dat (clsD false false false (cs.map fun c => cross c x)))) none x12 x13 x14 x15 x16) (xs := cs.map fun c => cross c x) (colD false false) (fun c => colD false false (cross c (opp x)))
    (by unfold clsD; simp) (by rw [List.length_map]; omega) (.inl rfl) (by
      intro c hc
      have h := crossed_ok (f := .t) ho (hc2 c hc).1 (hc2 c hc).2 hV (by decide)
      refine ⟨.dat (colD false false (cross c (opp x))), ?_, rfl⟩
      generalize clsD false false false (cs.map fun c => cross c x) = Q at *
      generalize clsD false false false cs = Q2 at *
      generalize colD false false (cross c (opp x)) = R at *
      generalize colD false false c = C at *
      generalize brD false .t (opp x) = B at *
      generalize brD false .n x = X at *
      simp [e__law_so_5, h00, h])
  have e2 : ((cs.map fun c => cross c x).map fun c => colD false false (cross c (opp x))) = cs.map (colD false false) := by
    have := congrArg (List.map (colD false false)) e1
    rw [List.map_map] at this
    exact this
  rw [e1] at h1
  rw [e2] at key
  have e : clsD false false false cs = .tup (cs.map (colD false false)) := rfl
  rw [e] at s1 h1 key ⊢
  generalize clsD false false false (cs.map fun c => cross c x) = Q at *
  generalize brD false .t (opp x) = B at *
  generalize brD false .n x = X at *
  generalize cs.map (colD false false) = R at *
  simp [-s_lcS, so12, key, h0, h1, s1]
end
end K86

set_option Elab.async false
set_option linter.all false
set_option maxRecDepth 100000
set_option maxHeartbeats 1000000
namespace K86
open PySem PySem.Spec PyProof.Rows L2 Z
section
variable {o : OC} {V : Nat} {x2 x3 x4 x5 x6 x7 x8 x9 x10 x11 x12 x13 x14 x15 x16 : Option Sl} {x y : Br} {b c : Bool}
theorem st13 (hx : BrOk V 84 84 x) (h1 : 1 ≤ V) (hV : V ≤ 4) : so13 (senv o V (some (.dat (brD false .n x))) x3 x4 x5 x6 x7 x8 x9 x10 x11 x12 x13 x14 x15 x16) =
    some (.nx (senv o V (some (.dat (brD false .n x))) x3 x4 x5 x6 x7 x8 x9 x10 x11 x12 (some (.own (.lst (wrongs V x)))) x14 x15 x16)) := by
  have h : m__law_wrong o [brD false .n x, .int (V : Int)] = some (.own (.lst (wrongs V x)), o) := wrong_ok (s := x.s) (od := x.o) (i1 := x.i.1) (i2 := x.i.2) (n := x.b.1) (d := x.b.2) (ord_len hx.o) h1 hV
  generalize wrongs V x = W at *
  generalize brD false .n x = X at *
  simp [so13, h]
theorem st14 (P : PoolOk o) (hx : BrOk V 84 84 x) (h1 : 1 ≤ V) (hV : V ≤ 4) : ∃ o' y13 y14 y15, PoolOk o' ∧ so14 (senv o V x2 x3 x4 x5 x6 x7 x8 x9 x10 x11 x12 (some (.own (.lst (wrongs V x)))) x14 x15 x16) =
    some (.nx (senv o' V x2 x3 x4 x5 x6 x7 x8 x9 x10 x11 x12 y13 y14 y15 x16)) := by
  have hw := wrongs_len hx h1 hV
  have hall := nob_all hx h1 hV
  obtain ⟨env', h3, o3, z13, z14, z15, _, he, P3⟩ := forS_nx (b := nmB 14) (f := l__law_so_1)
    (fun ds env => ∃ (o3 : OC) (z13 z14 z15 : Option Sl), (z13 = some (.own (.lst (wrongs V x))) ∨ z13 = some (.dat (.lst (wrongs V x)))) ∧ env = senv o3 V x2 x3 x4 x5 x6 x7 x8 x9 x10 x11 x12 z13 z14 z15 x16 ∧ PoolOk o3)
    (by
      rintro d ds env ⟨o3, z13, z14, z15, hz, rfl, P⟩
      obtain ⟨w, o4, h4, hm, P4⟩ := pick_ok P hw.2 (by omega)
      have h5 := refused_ok (hall w hm)
      refine ⟨_, _, rfl, ?_, o4, some (.dat (.lst (wrongs V x))), some (.dat d), some (.dat w), .inr rfl, rfl, P4⟩
      generalize wrongs V x = W at *
      rcases hz with rfl | rfl
      · simp [l__law_so_1, h4, h5]
      · simp [l__law_so_1, h4, h5])
    (rngD 0 12) (senv o V x2 x3 x4 x5 x6 x7 x8 x9 x10 x11 x12 (some (.own (.lst (wrongs V x)))) x14 x15 x16) ⟨o, _, x14, x15, .inl rfl, rfl, P⟩
  subst he
  refine ⟨o3, z13, z14, z15, P3, ?_⟩
  generalize wrongs V x = W at *
  simp [so14, h3]
theorem st15 : so15 (senv o V x2 x3 x4 x5 x6 x7 x8 x9 x10 x11 x12 x13 x14 x15 x16) =
    some (.nx (senv o V x2 x3 x4 x5 x6 x7 x8 x9 x10 x11 x12 x13 x14 x15 (some (.dat (.int (1 + (V : Int) % 4)))))) := by
  simp [so15]
theorem nob_few (hx : BrOk V 84 84 x) (h1 : 1 ≤ V) (hV : V ≤ 4) : nob (hdD b x) (1 + (V : Int) % 4) := by
  have e : (1 + (V : Int) % 4) = ((1 + V % 4 : Nat) : Int) := by omega
  rw [e]
  refine nob_ord (b := b) hx.s ?_
  have h := isord_ok (f := hf b) (ns := x.o) (V := 1 + V % 4) (by rw [ord_len hx.o]; omega) (by omega)
  rw [sort_ne_len (by rw [ord_len hx.o]; omega)] at h
  exact h
theorem st16 (hx : BrOk V 84 84 x) (hy : BrOk V 84 84 y) (h1 : 1 ≤ V) (hV : V ≤ 4) : so16 (senv o V x2 x3 (some (.dat (.lst [hdD b x, hdD c y]))) x5 (some (.dat (.str (shownH b c x y)))) x7 x8 x9 x10 x11 x12 x13 x14 x15 (some (.dat (.int (1 + (V : Int) % 4))))) =
    some (.rt (.dat (.bl true)) (senv o V x2 x3 (some (.dat (.lst [hdD b x, hdD c y]))) x5 (some (.dat (.str (shownH b c x y)))) x7 x8 x9 x10 x11 x12 x13 x14 x15 (some (.dat (.int (1 + (V : Int) % 4)))))) := by
  have h := repr_ok2 (b := b) (c := c) hx hy hV
  have h2 := refused_ok (nob_few (b := b) hx h1 hV)
  generalize shownH b c x y = S at *
  generalize hdD b x = HX at *
  generalize hdD c y = HY at *
  generalize 1 + (V : Int) % 4 = W at *
  simp [so16, h, h2]
end
theorem so_ok {o : OC} {V : Nat} (P : PoolOk o) (h1 : 1 ≤ V) (hV : V ≤ 4) : ∃ o', m__law_so o [.int (V : Int)] = some (.dat (.bl true), o') ∧ PoolOk o' := by
  obtain ⟨x, o1, hx, P1, e0⟩ := st0 (o := o) (V := V) (x2 := none) (x3 := none) (x4 := none) (x5 := none) (x6 := none) (x7 := none) (x8 := none) (x9 := none) (x10 := none) (x11 := none) (x12 := none) (x13 := none) (x14 := none) (x15 := none) (x16 := none) P hV
  obtain ⟨y, o2, hy, P2, e1⟩ := st1 (o := o1) (V := V) (x2 := some (.dat (brD false .n x))) (x3 := none) (x4 := none) (x5 := none) (x6 := none) (x7 := none) (x8 := none) (x9 := none) (x10 := none) (x11 := none) (x12 := none) (x13 := none) (x14 := none) (x15 := none) (x16 := none) P1 hV
  obtain ⟨b, c, o3, P3, e2⟩ := st2 (o := o2) (x4 := none) (x6 := none) (x7 := none) (x8 := none) (x9 := none) (x10 := none) (x11 := none) (x12 := none) (x13 := none) (x14 := none) (x15 := none) (x16 := none) P2 hx hy hV
  have e3 := fun x2 x3 => st3 (o := o3) (x2 := x2) (x3 := x3) (x5 := none) (x6 := none) (x7 := none) (x8 := none) (x9 := none) (x10 := none) (x11 := none) (x12 := none) (x13 := none) (x14 := none) (x15 := none) (x16 := none) (b := b) (c := c) hx hy hV
  have e4 := fun x6 => st4 (o := o3) (x6 := x6) (x7 := none) (x8 := none) (x9 := none) (x10 := none) (x11 := none) (x12 := none) (x13 := none) (x14 := none) (x15 := none) (x16 := none) (b := b) (c := c) hx hy hV
  have e5 := fun x4 x6 => st5 (o := o3) (x4 := x4) (x5 := none) (x6 := x6) (x7 := none) (x8 := none) (x9 := none) (x10 := none) (x11 := none) (x12 := none) (x13 := none) (x14 := none) (x15 := none) (x16 := none) hx hy hV
  have e6 := fun x3 x6 => st6 (o := o3) (x3 := x3) (x5 := none) (x6 := x6) (x8 := none) (x9 := none) (x10 := none) (x11 := none) (x12 := none) (x13 := none) (x14 := none) (x15 := none) (x16 := none) (b := b) (c := c) hx hy hV
  obtain ⟨cs, o4, hcs, hn, P4, e7⟩ := st7 (o := o3) (V := V) (x2 := some (.dat (brD false .n x))) (x3 := some (.dat (brD false .n y))) (x4 := some (.dat (.lst [hdD b x, hdD c y]))) (x5 := none) (x6 := some (.dat (.str (shownH b c x y)))) (x7 := some (.dat (brD false .t (behind x y)))) (x8 := none) (x9 := none) (x10 := none) (x11 := none) (x12 := none) (x13 := none) (x14 := none) (x15 := none) (x16 := none) P3 hV
  obtain ⟨e, o5, P5, e8⟩ := st8 (o := o4) (V := V) (x2 := some (.dat (brD false .n x))) (x3 := some (.dat (brD false .n y))) (x4 := some (.dat (.lst [hdD b x, hdD c y]))) (x5 := none) (x6 := some (.dat (.str (shownH b c x y)))) (x7 := some (.dat (brD false .t (behind x y)))) (x9 := none) (x10 := none) (x11 := none) (x12 := none) (x13 := none) (x14 := none) (x15 := none) (x16 := none) hcs hn P4 hV
  have e9 := fun x3 x4 x6 x7 x9 => st9 (o := o5) (x3 := x3) (x4 := x4) (x5 := none) (x6 := x6) (x7 := x7) (x9 := x9) (x10 := none) (x12 := none) (x13 := none) (x14 := none) (x15 := none) (x16 := none) hcs hn hx hV
  have e10 := fun x2 x3 x6 x7 x8 x10 => st10 (o := o5) (b := b) (x2 := x2) (x3 := x3) (x5 := none) (x6 := x6) (x7 := x7) (x8 := x8) (x10 := x10) (x11 := none) (x12 := none) (x13 := none) (x14 := none) (x15 := none) (x16 := none) hcs hn hx hV (e := e) (d2 := hdD c y)
  have e11 := fun x2 x3 x6 x9 => st11 (o := o5) (c := c) (x2 := x2) (x3 := x3) (x5 := none) (x6 := x6) (x9 := x9) (x13 := none) (x14 := none) (x15 := none) (x16 := none) hcs hn hx hy hV (d1 := hdD b x)
  have e12 := fun x3 x4 x6 x7 x9 x12 => st12 (o := o5) (x3 := x3) (x4 := x4) (x5 := none) (x6 := x6) (x7 := x7) (x9 := x9) (x12 := x12) (x13 := none) (x14 := none) (x15 := none) (x16 := none) hcs hn hx hV
  have e13 := fun x3 x4 x6 x7 x8 x9 x10 x12 => st13 (o := o5) (x3 := x3) (x4 := x4) (x5 := none) (x6 := x6) (x7 := x7) (x8 := x8) (x9 := x9) (x10 := x10) (x11 := none) (x12 := x12) (x13 := none) (x14 := none) (x15 := none) (x16 := none) hx h1 hV
  obtain ⟨o6, y13, y14, y15, P6, e14⟩ := st14 (o := o5) (x2 := some (.dat (brD false .n x))) (x3 := some (.dat (brD false .n y))) (x4 := some (.dat (.lst [hdD b x, hdD c y]))) (x5 := none) (x6 := some (.dat (.str (shownH b c x y)))) (x7 := some (.dat (brD false .t (behind x y)))) (x8 := some (.dat (clsD false false false cs))) (x9 := some (.dat (clsD e e e cs))) (x10 := some (.dat (clsD false false false (cs.map fun c => cross c x)))) (x11 := none) (x12 := some (.dat (clsD false false false (cs.map fun c => cross c x)))) (x14 := none) (x15 := none) (x16 := none) P5 hx h1 hV
  refine ⟨o6, ?_, P6⟩
  have hb : ∃ (z2 z3 z4 z5 z6 z7 z8 z9 z10 z11 z12 z13 z14 z15 z16 : Option Sl), b__law_so (senv o V none none none none none none none none none none none none none none none) = some (.rt (.dat (.bl true)) (senv o6 V z2 z3 z4 z5 z6 z7 z8 z9 z10 z11 z12 z13 z14 z15 z16)) := by
    refine ⟨some (.dat (brD false .n x)), some (.dat (brD false .n y)), some (.dat (.lst [hdD b x, hdD c y])), none, some (.dat (.str (shownH b c x y))), some (.dat (brD false .t (behind x y))), some (.dat (clsD false false false cs)), some (.dat (clsD e e e cs)), some (.dat (clsD false false false (cs.map fun c => cross c x))), none, some (.dat (clsD false false false (cs.map fun c => cross c x))), y13, y14, y15, some (.dat (.int (1 + (V : Int) % 4))), ?_⟩
    rw [so_eq, seq_nx e0, seq_nx e1, seq_nx e2, seq_nx (e3 _ _), seq_nx (e4 _), seq_nx (e5 _ _), seq_nx (e6 _ _), seq_nx e7, seq_nx e8, seq_nx (e9 _ _ _ _ _), seq_nx (e10 _ _ _ _ _ _), seq_nx (e11 _ _ _ _), seq_nx (e12 _ _ _ _ _ _), seq_nx (e13 _ _ _ _ _ _ _ _), seq_nx e14, seq_nx st15]
    exact st16 hx hy h1 hV
  obtain ⟨z2, z3, z4, z5, z6, z7, z8, z9, z10, z11, z12, z13, z14, z15, z16, hb⟩ := hb
  simp [m__law_so, hb]
theorem law_ok (ns : List Int) (hl : ns.length ≤ 63) : m_law [.scr ns] = some (.dat (.bl true)) := by
  obtain ⟨o, h0, P0⟩ := pool_ok hl
  obtain ⟨acc', env', h3, o3, k, he, ha, P3⟩ := lcGo_rule (i := 2) (f := e_law_1)
    (fun ds acc env => ∃ (o' : OC) (k : Nat), env = [some (.dat (.scr ns)), some (.own o'), none] ∧ acc = (List.replicate k true).map Z.D.bl ∧ PoolOk o')
    (by
      rintro d ds acc env ⟨o', k, rfl, rfl, P'⟩
      refine ⟨by simp, ?_⟩
      obtain ⟨v, o4, h4, a4, b4, P4⟩ := take_ok (m := 4) P' (by decide) (by decide)
      obtain ⟨W, hW⟩ : ∃ W : Nat, 1 + v = (W : Int) := ⟨(1 + v).toNat, by omega⟩
      obtain ⟨o5, h5, P5⟩ := so_ok (V := W) P4 (by omega) (by omega)
      refine ⟨.dat (.bl true), [some (.dat (.scr ns)), some (.own o5), some (.dat d)], .bl true, _, by simp [e_law_1, h4, hW, h5], rfl, o5, k + 1, rfl, ?_, P5⟩
      rw [List.replicate_succ', List.map_append]
      rfl)
    (rngD 0 3) [] [some (.dat (.scr ns)), some (.own o), none] ⟨o, 0, rfl, rfl, P0⟩
  subst he
  subst ha
  have hb := blsOf_map (List.replicate k true)
  have hall : (List.replicate k true).all id = true := by simp
  generalize (List.replicate k true) = bs at *
  generalize bs.map Z.D.bl = B at *
  simp [m_law, b_law, h0, rngD_length, h3, hb, hall]
end K86

namespace Z
open PySem PySem.Spec PyProof.Rows L2
theorem kit_ref {K : PySem.W.Frag} {C : Addr} {t : Value} (hd : PySem.W.hasDictIn K C = true) (ht : PySem.W.typeIn K (.ref C) = some (.type "type")) (hs : PySem.W.subIn K t (.ref C) = some true) : PySem.W.kitOne K t (.ref C) = some true := by
  obtain ⟨cd, hc, _⟩ := PySem.W.any_some hd
  have e2 : ((PySem.W.clsIn K C).isSome && PySem.W.typeIn K (.ref C) == some (.type "type")) = true := by rw [hc, ht] <;> rfl
  unfold PySem.W.kitOne
  split
  · rfl
  · show (if ((PySem.W.clsIn K C).isSome && PySem.W.typeIn K (.ref C) == some (.type "type")) = true then PySem.W.subIn K t (.ref C) else none) = some true
    rw [if_pos e2]
    exact hs
theorem kit_typ {K : PySem.W.Frag} {T : String} {t : Value} (hk : PySem.W.kitMeta T = true) (hs : PySem.W.subIn K t (.type T) = some true) : PySem.W.kitOne K t (.type T) = some true := by
  unfold PySem.W.kitOne
  split
  · rfl
  · show (if PySem.W.kitMeta T = true then PySem.W.subIn K t (.type T) else none) = some true
    rw [if_pos hk]
    exact hs
end Z

set_option Elab.async false
set_option linter.all false
set_option maxRecDepth 100000
set_option maxHeartbeats 4000000
namespace K86
open PySem PySem.Spec PyProof.Rows L2 Z
def spLaw (K : PySem.W.Frag) : Sp := fun vs H Q _ => ∃ (a : Addr) (ns : List Int), vs = [.ref a] ∧ SqL K H a (ns.map V.int) ∧ ns.length ≤ 63 ∧ ∀ H', Q (.bl true) H'
theorem spLaw_of {K : PySem.W.Frag} {cl : Str → Addr} (vs : List V) (H : Hp) (Q : VK) (E : XK) (h : spLaw K vs H Q E) : spP K cl 1 m_law vs H Q E := by
  obtain ⟨a, ns, rfl, hS, hl, q⟩ := h
  refine ⟨rfl, H, fun _ => none, [.scr ns], _, law_ok ns hl, Le.refl _, fun _ _ z => (by cases z), fun _ _ z => (by cases z), .cons (.scr hS) .nil, fun F' H' v _ _ _ _ a1 => ?_⟩
  cases a1
  exact q H'
theorem all_mk {P : Program} {w : World} {K : PySem.W.Frag} {h : Heap} {mg : Str → Option Value} {fa : Addr} (X : K.In h) (G : h.Ns mainGlobals mg) (hfa : mg "law" = some (.ref fa)) {f1 f2 f3 f4 f5 f6 f7 f8 f9 f10 f11 f12 f13 f14 f15 f16 f17 f18 f19 f20 f21 f22 f23 f24 f25 f26 f27 f28 f29 f30 f31 f32 f33 f34 f35 f36 f37 f38 f39 f40 f41 f42 f43 f44 f45 : Addr} {CBadBridge : Addr} {CScoreError : Addr} {od1 an1 od2 an2 od3 an3 od4 an4 od5 an5 od6 an6 od7 an7 od8 an8 od9 an9 od10 an10 od11 an11 od12 an12 od13 an13 od14 an14 od15 an15 od16 an16 od17 an17 od18 an18 od19 an19 od20 an20 od21 an21 od22 an22 od23 an23 od24 an24 od25 an25 od26 an26 od27 an27 od28 an28 od29 an29 od30 an30 od31 an31 od32 an32 od33 an33 od34 an34 od35 an35 od36 an36 od37 an37 od38 an38 od39 an39 od40 an40 od41 an41 od42 an42 od43 an43 od44 an44 od45 an45 : Option Addr} {sl1 sl2 sl3 sl4 sl5 sl6 sl7 sl8 sl9 sl10 sl11 sl12 sl13 sl14 sl15 sl16 sl17 sl18 sl19 sl20 sl21 sl22 sl23 sl24 sl25 sl26 sl27 sl28 sl29 sl30 sl31 sl32 sl33 sl34 sl35 sl36 sl37 sl38 sl39 sl40 sl41 sl42 sl43 sl44 sl45 : Array (Option Value)} {oc1 kV1 dc1 pm1 cd1 ct1 oc2 kV2 dc2 pm2 cd2 ct2 oc3 kV3 dc3 pm3 cd3 ct3 oc4 kV4 dc4 pm4 cd4 ct4 oc5 kV5 dc5 pm5 cd5 ct5 oc6 kV6 dc6 pm6 cd6 ct6 oc7 kV7 dc7 pm7 cd7 ct7 oc8 kV8 dc8 pm8 cd8 ct8 oc9 kV9 dc9 pm9 cd9 ct9 oc10 kV10 dc10 pm10 cd10 ct10 oc11 kV11 dc11 pm11 cd11 ct11 oc12 kV12 dc12 pm12 cd12 ct12 oc13 kV13 dc13 pm13 cd13 ct13 oc14 kV14 dc14 pm14 cd14 ct14 oc15 kV15 dc15 pm15 cd15 ct15 oc16 kV16 dc16 pm16 cd16 ct16 oc17 kV17 dc17 pm17 cd17 ct17 oc18 kV18 dc18 pm18 cd18 ct18 oc19 kV19 dc19 pm19 cd19 ct19 oc20 kV20 dc20 pm20 cd20 ct20 oc21 kV21 dc21 pm21 cd21 ct21 oc22 kV22 dc22 pm22 cd22 ct22 oc23 kV23 dc23 pm23 cd23 ct23 oc24 kV24 dc24 pm24 cd24 ct24 oc25 kV25 dc25 pm25 cd25 ct25 oc26 kV26 dc26 pm26 cd26 ct26 oc27 kV27 dc27 pm27 cd27 ct27 oc28 kV28 dc28 pm28 cd28 ct28 oc29 kV29 dc29 pm29 cd29 ct29 oc30 kV30 dc30 pm30 cd30 ct30 oc31 kV31 dc31 pm31 cd31 ct31 oc32 kV32 dc32 pm32 cd32 ct32 oc33 kV33 dc33 pm33 cd33 ct33 oc34 kV34 dc34 pm34 cd34 ct34 oc35 kV35 dc35 pm35 cd35 ct35 oc36 kV36 dc36 pm36 cd36 ct36 oc37 kV37 dc37 pm37 cd37 ct37 oc38 kV38 dc38 pm38 cd38 ct38 oc39 kV39 dc39 pm39 cd39 ct39 oc40 kV40 dc40 pm40 cd40 ct40 oc41 kV41 dc41 pm41 cd41 ct41 oc42 kV42 dc42 pm42 cd42 ct42 oc43 kV43 dc43 pm43 cd43 ct43 oc44 kV44 dc44 pm44 cd44 ct44 oc45 kV45 dc45 pm45 cd45 ct45 : Value}  
    (aCBadBridge : PySem.W.nsIn K mainGlobals "BadBridge" = some (some (.ref CBadBridge)))
    (aCScoreError : PySem.W.nsIn K mainGlobals "ScoreError" = some (some (.ref CScoreError)))
    (a1 : PySem.W.nsIn K mainGlobals "_law_pool" = some (some (.ref f1)))
    (l1 : K.lookup f1 = some ⟨oc1, od1, .func (PySem.W.fnOf "_law_pool" "_law_pool" (defArgs st__law_pool) (defBody st__law_pool) (defScope st__law_pool) .none kV1 dc1 pm1 an1 cd1 ct1), sl1⟩)
    (c1 : PySem.W.codeIn K cd1 "_law_pool" = true)
    (k1 : PySem.W.keepIn K (.ref f1) = true)
    (a2 : PySem.W.nsIn K mainGlobals "_law_take" = some (some (.ref f2)))
    (l2 : K.lookup f2 = some ⟨oc2, od2, .func (PySem.W.fnOf "_law_take" "_law_take" (defArgs st__law_take) (defBody st__law_take) (defScope st__law_take) .none kV2 dc2 pm2 an2 cd2 ct2), sl2⟩)
    (c2 : PySem.W.codeIn K cd2 "_law_take" = true)
    (k2 : PySem.W.keepIn K (.ref f2) = true)
    (a3 : PySem.W.nsIn K mainGlobals "_law_pick" = some (some (.ref f3)))
    (l3 : K.lookup f3 = some ⟨oc3, od3, .func (PySem.W.fnOf "_law_pick" "_law_pick" (defArgs st__law_pick) (defBody st__law_pick) (defScope st__law_pick) .none kV3 dc3 pm3 an3 cd3 ct3), sl3⟩)
    (c3 : PySem.W.codeIn K cd3 "_law_pick" = true)
    (k3 : PySem.W.keepIn K (.ref f3) = true)
    (a4 : PySem.W.nsIn K mainGlobals "_law_order" = some (some (.ref f4)))
    (l4 : K.lookup f4 = some ⟨oc4, od4, .func (PySem.W.fnOf "_law_order" "_law_order" (defArgs st__law_order) (defBody st__law_order) (defScope st__law_order) .none kV4 dc4 pm4 an4 cd4 ct4), sl4⟩)
    (c4 : PySem.W.codeIn K cd4 "_law_order" = true)
    (k4 : PySem.W.keepIn K (.ref f4) = true)
    (a5 : PySem.W.nsIn K mainGlobals "_law_interval" = some (some (.ref f5)))
    (l5 : K.lookup f5 = some ⟨oc5, od5, .func (PySem.W.fnOf "_law_interval" "_law_interval" (defArgs st__law_interval) (defBody st__law_interval) (defScope st__law_interval) .none kV5 dc5 pm5 an5 cd5 ct5), sl5⟩)
    (c5 : PySem.W.codeIn K cd5 "_law_interval" = true)
    (k5 : PySem.W.keepIn K (.ref f5) = true)
    (a6 : PySem.W.nsIn K mainGlobals "_law_lowest" = some (some (.ref f6)))
    (l6 : K.lookup f6 = some ⟨oc6, od6, .func (PySem.W.fnOf "_law_lowest" "_law_lowest" (defArgs st__law_lowest) (defBody st__law_lowest) (defScope st__law_lowest) .none kV6 dc6 pm6 an6 cd6 ct6), sl6⟩)
    (c6 : PySem.W.codeIn K cd6 "_law_lowest" = true)
    (k6 : PySem.W.keepIn K (.ref f6) = true)
    (a7 : PySem.W.nsIn K mainGlobals "_law_by" = some (some (.ref f7)))
    (l7 : K.lookup f7 = some ⟨oc7, od7, .func (PySem.W.fnOf "_law_by" "_law_by" (defArgs st__law_by) (defBody st__law_by) (defScope st__law_by) .none kV7 dc7 pm7 an7 cd7 ct7), sl7⟩)
    (c7 : PySem.W.codeIn K cd7 "_law_by" = true)
    (k7 : PySem.W.keepIn K (.ref f7) = true)
    (a8 : PySem.W.nsIn K mainGlobals "_law_below" = some (some (.ref f8)))
    (l8 : K.lookup f8 = some ⟨oc8, od8, .func (PySem.W.fnOf "_law_below" "_law_below" (defArgs st__law_below) (defBody st__law_below) (defScope st__law_below) .none kV8 dc8 pm8 an8 cd8 ct8), sl8⟩)
    (c8 : PySem.W.codeIn K cd8 "_law_below" = true)
    (k8 : PySem.W.keepIn K (.ref f8) = true)
    (a9 : PySem.W.nsIn K mainGlobals "_law_great" = some (some (.ref f9)))
    (l9 : K.lookup f9 = some ⟨oc9, od9, .func (PySem.W.fnOf "_law_great" "_law_great" (defArgs st__law_great) (defBody st__law_great) (defScope st__law_great) .none kV9 dc9 pm9 an9 cd9 ct9), sl9⟩)
    (c9 : PySem.W.codeIn K cd9 "_law_great" = true)
    (k9 : PySem.W.keepIn K (.ref f9) = true)
    (a10 : PySem.W.nsIn K mainGlobals "_law_wide_bridge" = some (some (.ref f10)))
    (l10 : K.lookup f10 = some ⟨oc10, od10, .func (PySem.W.fnOf "_law_wide_bridge" "_law_wide_bridge" (defArgs st__law_wide_bridge) (defBody st__law_wide_bridge) (defScope st__law_wide_bridge) .none kV10 dc10 pm10 an10 cd10 ct10), sl10⟩)
    (c10 : PySem.W.codeIn K cd10 "_law_wide_bridge" = true)
    (k10 : PySem.W.keepIn K (.ref f10) = true)
    (a11 : PySem.W.nsIn K mainGlobals "_law_times" = some (some (.ref f11)))
    (l11 : K.lookup f11 = some ⟨oc11, od11, .func (PySem.W.fnOf "_law_times" "_law_times" (defArgs st__law_times) (defBody st__law_times) (defScope st__law_times) .none kV11 dc11 pm11 an11 cd11 ct11), sl11⟩)
    (c11 : PySem.W.codeIn K cd11 "_law_times" = true)
    (k11 : PySem.W.keepIn K (.ref f11) = true)
    (a12 : PySem.W.nsIn K mainGlobals "_law_behind" = some (some (.ref f12)))
    (l12 : K.lookup f12 = some ⟨oc12, od12, .func (PySem.W.fnOf "_law_behind" "_law_behind" (defArgs st__law_behind) (defBody st__law_behind) (defScope st__law_behind) .none kV12 dc12 pm12 an12 cd12 ct12), sl12⟩)
    (c12 : PySem.W.codeIn K cd12 "_law_behind" = true)
    (k12 : PySem.W.keepIn K (.ref f12) = true)
    (a13 : PySem.W.nsIn K mainGlobals "_law_tone" = some (some (.ref f13)))
    (l13 : K.lookup f13 = some ⟨oc13, od13, .func (PySem.W.fnOf "_law_tone" "_law_tone" (defArgs st__law_tone) (defBody st__law_tone) (defScope st__law_tone) .none kV13 dc13 pm13 an13 cd13 ct13), sl13⟩)
    (c13 : PySem.W.codeIn K cd13 "_law_tone" = true)
    (k13 : PySem.W.keepIn K (.ref f13) = true)
    (a14 : PySem.W.nsIn K mainGlobals "_law_duration" = some (some (.ref f14)))
    (l14 : K.lookup f14 = some ⟨oc14, od14, .func (PySem.W.fnOf "_law_duration" "_law_duration" (defArgs st__law_duration) (defBody st__law_duration) (defScope st__law_duration) .none kV14 dc14 pm14 an14 cd14 ct14), sl14⟩)
    (c14 : PySem.W.codeIn K cd14 "_law_duration" = true)
    (k14 : PySem.W.keepIn K (.ref f14) = true)
    (a15 : PySem.W.nsIn K mainGlobals "_law_column" = some (some (.ref f15)))
    (l15 : K.lookup f15 = some ⟨oc15, od15, .func (PySem.W.fnOf "_law_column" "_law_column" (defArgs st__law_column) (defBody st__law_column) (defScope st__law_column) .none kV15 dc15 pm15 an15 cd15 ct15), sl15⟩)
    (c15 : PySem.W.codeIn K cd15 "_law_column" = true)
    (k15 : PySem.W.keepIn K (.ref f15) = true)
    (a16 : PySem.W.nsIn K mainGlobals "_law_bar" = some (some (.ref f16)))
    (l16 : K.lookup f16 = some ⟨oc16, od16, .func (PySem.W.fnOf "_law_bar" "_law_bar" (defArgs st__law_bar) (defBody st__law_bar) (defScope st__law_bar) .none kV16 dc16 pm16 an16 cd16 ct16), sl16⟩)
    (c16 : PySem.W.codeIn K cd16 "_law_bar" = true)
    (k16 : PySem.W.keepIn K (.ref f16) = true)
    (a17 : PySem.W.nsIn K mainGlobals "with_tones" = some (some (.ref f17)))
    (l17 : K.lookup f17 = some ⟨oc17, od17, .func (PySem.W.fnOf "with_tones" "with_tones" (defArgs st_with_tones) (defBody st_with_tones) (defScope st_with_tones) .none kV17 dc17 pm17 an17 cd17 ct17), sl17⟩)
    (c17 : PySem.W.codeIn K cd17 "with_tones" = true)
    (k17 : PySem.W.keepIn K (.ref f17) = true)
    (a18 : PySem.W.nsIn K mainGlobals "seen" = some (some (.ref f18)))
    (l18 : K.lookup f18 = some ⟨oc18, od18, .func (PySem.W.fnOf "seen" "seen" (defArgs st_seen) (defBody st_seen) (defScope st_seen) .none kV18 dc18 pm18 an18 cd18 ct18), sl18⟩)
    (c18 : PySem.W.codeIn K cd18 "seen" = true)
    (k18 : PySem.W.keepIn K (.ref f18) = true)
    (a19 : PySem.W.nsIn K mainGlobals "fraction" = some (some (.ref f19)))
    (l19 : K.lookup f19 = some ⟨oc19, od19, .func (PySem.W.fnOf "fraction" "fraction" (defArgs st_fraction) (defBody st_fraction) (defScope st_fraction) .none kV19 dc19 pm19 an19 cd19 ct19), sl19⟩)
    (c19 : PySem.W.codeIn K cd19 "fraction" = true)
    (k19 : PySem.W.keepIn K (.ref f19) = true)
    (a20 : PySem.W.nsIn K mainGlobals "product" = some (some (.ref f20)))
    (l20 : K.lookup f20 = some ⟨oc20, od20, .func (PySem.W.fnOf "product" "product" (defArgs st_product) (defBody st_product) (defScope st_product) .none kV20 dc20 pm20 an20 cd20 ct20), sl20⟩)
    (c20 : PySem.W.codeIn K cd20 "product" = true)
    (k20 : PySem.W.keepIn K (.ref f20) = true)
    (a21 : PySem.W.nsIn K mainGlobals "brought_column" = some (some (.ref f21)))
    (l21 : K.lookup f21 = some ⟨oc21, od21, .func (PySem.W.fnOf "brought_column" "brought_column" (defArgs st_brought_column) (defBody st_brought_column) (defScope st_brought_column) .none kV21 dc21 pm21 an21 cd21 ct21), sl21⟩)
    (c21 : PySem.W.codeIn K cd21 "brought_column" = true)
    (k21 : PySem.W.keepIn K (.ref f21) = true)
    (a22 : PySem.W.nsIn K mainGlobals "brought" = some (some (.ref f22)))
    (l22 : K.lookup f22 = some ⟨oc22, od22, .func (PySem.W.fnOf "brought" "brought" (defArgs st_brought) (defBody st_brought) (defScope st_brought) .none kV22 dc22 pm22 an22 cd22 ct22), sl22⟩)
    (c22 : PySem.W.codeIn K cd22 "brought" = true)
    (k22 : PySem.W.keepIn K (.ref f22) = true)
    (a23 : PySem.W.nsIn K mainGlobals "_law_deep" = some (some (.ref f23)))
    (l23 : K.lookup f23 = some ⟨oc23, od23, .func (PySem.W.fnOf "_law_deep" "_law_deep" (defArgs st__law_deep) (defBody st__law_deep) (defScope st__law_deep) .none kV23 dc23 pm23 an23 cd23 ct23), sl23⟩)
    (c23 : PySem.W.codeIn K cd23 "_law_deep" = true)
    (k23 : PySem.W.keepIn K (.ref f23) = true)
    (a24 : PySem.W.nsIn K mainGlobals "_law_wrong" = some (some (.ref f24)))
    (l24 : K.lookup f24 = some ⟨oc24, od24, .func (PySem.W.fnOf "_law_wrong" "_law_wrong" (defArgs st__law_wrong) (defBody st__law_wrong) (defScope st__law_wrong) .none kV24 dc24 pm24 an24 cd24 ct24), sl24⟩)
    (c24 : PySem.W.codeIn K cd24 "_law_wrong" = true)
    (k24 : PySem.W.keepIn K (.ref f24) = true)
    (a25 : PySem.W.nsIn K mainGlobals "_law_is_integer" = some (some (.ref f25)))
    (l25 : K.lookup f25 = some ⟨oc25, od25, .func (PySem.W.fnOf "_law_is_integer" "_law_is_integer" (defArgs st__law_is_integer) (defBody st__law_is_integer) (defScope st__law_is_integer) .none kV25 dc25 pm25 an25 cd25 ct25), sl25⟩)
    (c25 : PySem.W.codeIn K cd25 "_law_is_integer" = true)
    (k25 : PySem.W.keepIn K (.ref f25) = true)
    (a26 : PySem.W.nsIn K mainGlobals "_law_same" = some (some (.ref f26)))
    (l26 : K.lookup f26 = some ⟨oc26, od26, .func (PySem.W.fnOf "_law_same" "_law_same" (defArgs st__law_same) (defBody st__law_same) (defScope st__law_same) .none kV26 dc26 pm26 an26 cd26 ct26), sl26⟩)
    (c26 : PySem.W.codeIn K cd26 "_law_same" = true)
    (k26 : PySem.W.keepIn K (.ref f26) = true)
    (a27 : PySem.W.nsIn K mainGlobals "is_fraction" = some (some (.ref f27)))
    (l27 : K.lookup f27 = some ⟨oc27, od27, .func (PySem.W.fnOf "is_fraction" "is_fraction" (defArgs st_is_fraction) (defBody st_is_fraction) (defScope st_is_fraction) .none kV27 dc27 pm27 an27 cd27 ct27), sl27⟩)
    (c27 : PySem.W.codeIn K cd27 "is_fraction" = true)
    (k27 : PySem.W.keepIn K (.ref f27) = true)
    (a28 : PySem.W.nsIn K mainGlobals "is_whole" = some (some (.ref f28)))
    (l28 : K.lookup f28 = some ⟨oc28, od28, .func (PySem.W.fnOf "is_whole" "is_whole" (defArgs st_is_whole) (defBody st_is_whole) (defScope st_is_whole) .none kV28 dc28 pm28 an28 cd28 ct28), sl28⟩)
    (c28 : PySem.W.codeIn K cd28 "is_whole" = true)
    (k28 : PySem.W.keepIn K (.ref f28) = true)
    (a29 : PySem.W.nsIn K mainGlobals "is_order" = some (some (.ref f29)))
    (l29 : K.lookup f29 = some ⟨oc29, od29, .func (PySem.W.fnOf "is_order" "is_order" (defArgs st_is_order) (defBody st_is_order) (defScope st_is_order) .none kV29 dc29 pm29 an29 cd29 ct29), sl29⟩)
    (c29 : PySem.W.codeIn K cd29 "is_order" = true)
    (k29 : PySem.W.keepIn K (.ref f29) = true)
    (a30 : PySem.W.nsIn K mainGlobals "is_bridge" = some (some (.ref f30)))
    (l30 : K.lookup f30 = some ⟨oc30, od30, .func (PySem.W.fnOf "is_bridge" "is_bridge" (defArgs st_is_bridge) (defBody st_is_bridge) (defScope st_is_bridge) .none kV30 dc30 pm30 an30 cd30 ct30), sl30⟩)
    (c30 : PySem.W.codeIn K cd30 "is_bridge" = true)
    (k30 : PySem.W.keepIn K (.ref f30) = true)
    (a31 : PySem.W.nsIn K mainGlobals "check_bridge" = some (some (.ref f31)))
    (l31 : K.lookup f31 = some ⟨oc31, od31, .func (PySem.W.fnOf "check_bridge" "check_bridge" (defArgs st_check_bridge) (defBody st_check_bridge) (defScope st_check_bridge) .none kV31 dc31 pm31 an31 cd31 ct31), sl31⟩)
    (c31 : PySem.W.codeIn K cd31 "check_bridge" = true)
    (k31 : PySem.W.keepIn K (.ref f31) = true)
    (a32 : PySem.W.nsIn K mainGlobals "_law_refused" = some (some (.ref f32)))
    (l32 : K.lookup f32 = some ⟨oc32, od32, .func (PySem.W.fnOf "_law_refused" "_law_refused" (defArgs st__law_refused) (defBody st__law_refused) (defScope st__law_refused) .none kV32 dc32 pm32 an32 cd32 ct32), sl32⟩)
    (c32 : PySem.W.codeIn K cd32 "_law_refused" = true)
    (k32 : PySem.W.keepIn K (.ref f32) = true)
    (a33 : PySem.W.nsIn K mainGlobals "_law_listed" = some (some (.ref f33)))
    (l33 : K.lookup f33 = some ⟨oc33, od33, .func (PySem.W.fnOf "_law_listed" "_law_listed" (defArgs st__law_listed) (defBody st__law_listed) (defScope st__law_listed) .none kV33 dc33 pm33 an33 cd33 ct33), sl33⟩)
    (c33 : PySem.W.codeIn K cd33 "_law_listed" = true)
    (k33 : PySem.W.keepIn K (.ref f33) = true)
    (a34 : PySem.W.nsIn K mainGlobals "_law_raised" = some (some (.ref f34)))
    (l34 : K.lookup f34 = some ⟨oc34, od34, .func (PySem.W.fnOf "_law_raised" "_law_raised" (defArgs st__law_raised) (defBody st__law_raised) (defScope st__law_raised) .none kV34 dc34 pm34 an34 cd34 ct34), sl34⟩)
    (c34 : PySem.W.codeIn K cd34 "_law_raised" = true)
    (k34 : PySem.W.keepIn K (.ref f34) = true)
    (a35 : PySem.W.nsIn K mainGlobals "_law_seen" = some (some (.ref f35)))
    (l35 : K.lookup f35 = some ⟨oc35, od35, .func (PySem.W.fnOf "_law_seen" "_law_seen" (defArgs st__law_seen) (defBody st__law_seen) (defScope st__law_seen) .none kV35 dc35 pm35 an35 cd35 ct35), sl35⟩)
    (c35 : PySem.W.codeIn K cd35 "_law_seen" = true)
    (k35 : PySem.W.keepIn K (.ref f35) = true)
    (a36 : PySem.W.nsIn K mainGlobals "_law_crossed" = some (some (.ref f36)))
    (l36 : K.lookup f36 = some ⟨oc36, od36, .func (PySem.W.fnOf "_law_crossed" "_law_crossed" (defArgs st__law_crossed) (defBody st__law_crossed) (defScope st__law_crossed) .none kV36 dc36 pm36 an36 cd36 ct36), sl36⟩)
    (c36 : PySem.W.codeIn K cd36 "_law_crossed" = true)
    (k36 : PySem.W.keepIn K (.ref f36) = true)
    (a37 : PySem.W.nsIn K mainGlobals "added" = some (some (.ref f37)))
    (l37 : K.lookup f37 = some ⟨oc37, od37, .func (PySem.W.fnOf "added" "added" (defArgs st_added) (defBody st_added) (defScope st_added) .none kV37 dc37 pm37 an37 cd37 ct37), sl37⟩)
    (c37 : PySem.W.codeIn K cd37 "added" = true)
    (k37 : PySem.W.keepIn K (.ref f37) = true)
    (a38 : PySem.W.nsIn K mainGlobals "scaled" = some (some (.ref f38)))
    (l38 : K.lookup f38 = some ⟨oc38, od38, .func (PySem.W.fnOf "scaled" "scaled" (defArgs st_scaled) (defBody st_scaled) (defScope st_scaled) .none kV38 dc38 pm38 an38 cd38 ct38), sl38⟩)
    (c38 : PySem.W.codeIn K cd38 "scaled" = true)
    (k38 : PySem.W.keepIn K (.ref f38) = true)
    (a39 : PySem.W.nsIn K mainGlobals "put_behind" = some (some (.ref f39)))
    (l39 : K.lookup f39 = some ⟨oc39, od39, .func (PySem.W.fnOf "put_behind" "put_behind" (defArgs st_put_behind) (defBody st_put_behind) (defScope st_put_behind) .none kV39 dc39 pm39 an39 cd39 ct39), sl39⟩)
    (c39 : PySem.W.codeIn K cd39 "put_behind" = true)
    (k39 : PySem.W.keepIn K (.ref f39) = true)
    (a40 : PySem.W.nsIn K mainGlobals "quotient" = some (some (.ref f40)))
    (l40 : K.lookup f40 = some ⟨oc40, od40, .func (PySem.W.fnOf "quotient" "quotient" (defArgs st_quotient) (defBody st_quotient) (defScope st_quotient) .none kV40 dc40 pm40 an40 cd40 ct40), sl40⟩)
    (c40 : PySem.W.codeIn K cd40 "quotient" = true)
    (k40 : PySem.W.keepIn K (.ref f40) = true)
    (a41 : PySem.W.nsIn K mainGlobals "opposite_bridge" = some (some (.ref f41)))
    (l41 : K.lookup f41 = some ⟨oc41, od41, .func (PySem.W.fnOf "opposite_bridge" "opposite_bridge" (defArgs st_opposite_bridge) (defBody st_opposite_bridge) (defScope st_opposite_bridge) .none kV41 dc41 pm41 an41 cd41 ct41), sl41⟩)
    (c41 : PySem.W.codeIn K cd41 "opposite_bridge" = true)
    (k41 : PySem.W.keepIn K (.ref f41) = true)
    (a42 : PySem.W.nsIn K mainGlobals "_law_back" = some (some (.ref f42)))
    (l42 : K.lookup f42 = some ⟨oc42, od42, .func (PySem.W.fnOf "_law_back" "_law_back" (defArgs st__law_back) (defBody st__law_back) (defScope st__law_back) .none kV42 dc42 pm42 an42 cd42 ct42), sl42⟩)
    (c42 : PySem.W.codeIn K cd42 "_law_back" = true)
    (k42 : PySem.W.keepIn K (.ref f42) = true)
    (a43 : PySem.W.nsIn K mainGlobals "_law_opposite" = some (some (.ref f43)))
    (l43 : K.lookup f43 = some ⟨oc43, od43, .func (PySem.W.fnOf "_law_opposite" "_law_opposite" (defArgs st__law_opposite) (defBody st__law_opposite) (defScope st__law_opposite) .none kV43 dc43 pm43 an43 cd43 ct43), sl43⟩)
    (c43 : PySem.W.codeIn K cd43 "_law_opposite" = true)
    (k43 : PySem.W.keepIn K (.ref f43) = true)
    (a44 : PySem.W.nsIn K mainGlobals "_law_so" = some (some (.ref f44)))
    (l44 : K.lookup f44 = some ⟨oc44, od44, .func (PySem.W.fnOf "_law_so" "_law_so" (defArgs st__law_so) (defBody st__law_so) (defScope st__law_so) .none kV44 dc44 pm44 an44 cd44 ct44), sl44⟩)
    (c44 : PySem.W.codeIn K cd44 "_law_so" = true)
    (k44 : PySem.W.keepIn K (.ref f44) = true)
    (a45 : PySem.W.nsIn K mainGlobals "law" = some (some (.ref f45)))
    (l45 : K.lookup f45 = some ⟨oc45, od45, .func (PySem.W.fnOf "law" "law" (defArgs st_law) (defBody st_law) (defScope st_law) .none kV45 dc45 pm45 an45 cd45 ct45), sl45⟩)
    (c45 : PySem.W.codeIn K cd45 "law" = true)
    (k45 : PySem.W.keepIn K (.ref f45) = true)
    (xex : PySem.W.excIn K CBadBridge He.veBase "ValueError.__new__" = true)
    (xkp : PySem.W.keepIn K (.ref CBadBridge) = true)
    (xsb : PySem.W.subIn K (.ref CBadBridge) (.type "BaseException") = some true)
    (xty : PySem.W.typeIn K (.ref CBadBridge) = some (.type "type"))
    (xg : PySem.W.findIn K (.ref CBadBridge) "__getattribute__" = some (some (.builtin "BaseException.__getattribute__")))
    (xk : PySem.W.findIn K (.ref CBadBridge) "__getattr__" = some none)
    (xd : PySem.W.hasDictIn K CBadBridge = true)
    (xa : PySem.W.findIn K (.ref CBadBridge) "__class__" = some (some (.builtin "object.__class__")))
    (xn : PySem.W.specialIn K (.builtin "object.__class__") "__get__" = some (some (.builtin "getset_descriptor.__get__")))
    (xt : PySem.W.takesIn K (.builtin "object.__class__") = some true)
    (xm : PySem.W.mroIn K CBadBridge (.type "object") = some true)
    (xe : PySem.W.subIn K (.ref CBadBridge) (.ref CBadBridge) = some true)
    (xk1 : PySem.W.subIn K (.ref CBadBridge) (.ref CScoreError) = some true)
    (xkd : PySem.W.hasDictIn K CScoreError = true)
    (xkt : PySem.W.typeIn K (.ref CScoreError) = some (.type "type"))
    (xk2 : PySem.W.subIn K (.ref CBadBridge) (.type "ValueError") = some true)
    (bgcd : PySem.W.nsIn K mainGlobals "gcd" = some (some (.builtin "math.gcd")))
    (nValueError : PySem.W.nsIn K mainGlobals "ValueError" = some none)
    (nabs : PySem.W.nsIn K mainGlobals "abs" = some none)
    (nall : PySem.W.nsIn K mainGlobals "all" = some none)
    (nany : PySem.W.nsIn K mainGlobals "any" = some none)
    (nbool : PySem.W.nsIn K mainGlobals "bool" = some none)
    (ndict : PySem.W.nsIn K mainGlobals "dict" = some none)
    (nint : PySem.W.nsIn K mainGlobals "int" = some none)
    (nisinstance : PySem.W.nsIn K mainGlobals "isinstance" = some none)
    (nlen : PySem.W.nsIn K mainGlobals "len" = some none)
    (nlist : PySem.W.nsIn K mainGlobals "list" = some none)
    (nrange : PySem.W.nsIn K mainGlobals "range" = some none)
    (nrepr : PySem.W.nsIn K mainGlobals "repr" = some none)
    (nsorted : PySem.W.nsIn K mainGlobals "sorted" = some none)
    (nstr : PySem.W.nsIn K mainGlobals "str" = some none)
    (ntuple : PySem.W.nsIn K mainGlobals "tuple" = some none)
    : ∃ fd : FuncData, (∀ (s : Shared) (v : Value), BindsTo s fd ⟨[v], []⟩ [("script", v)]) ∧ ∀ base : Heap, K.In base → base.Ns mainGlobals mg → FnG P w K mg base 11 fa fd ["script"] (spLaw K) := by
  have e := hfa.symm.trans (PySem.W.mg_of X G a45)
  cases e
  have F1 := fun_mk (st := st__law_pool) l1 c1 k1
  have F2 := fun_mk (st := st__law_take) l2 c2 k2
  have F3 := fun_mk (st := st__law_pick) l3 c3 k3
  have F4 := fun_mk (st := st__law_order) l4 c4 k4
  have F5 := fun_mk (st := st__law_interval) l5 c5 k5
  have F6 := fun_mk (st := st__law_lowest) l6 c6 k6
  have F7 := fun_mk (st := st__law_by) l7 c7 k7
  have F8 := fun_mk (st := st__law_below) l8 c8 k8
  have F9 := fun_mk (st := st__law_great) l9 c9 k9
  have F10 := fun_mk (st := st__law_wide_bridge) l10 c10 k10
  have F11 := fun_mk (st := st__law_times) l11 c11 k11
  have F12 := fun_mk (st := st__law_behind) l12 c12 k12
  have F13 := fun_mk (st := st__law_tone) l13 c13 k13
  have F14 := fun_mk (st := st__law_duration) l14 c14 k14
  have F15 := fun_mk (st := st__law_column) l15 c15 k15
  have F16 := fun_mk (st := st__law_bar) l16 c16 k16
  have F17 := fun_mk (st := st_with_tones) l17 c17 k17
  have F18 := fun_mk (st := st_seen) l18 c18 k18
  have F19 := fun_mk (st := st_fraction) l19 c19 k19
  have F20 := fun_mk (st := st_product) l20 c20 k20
  have F21 := fun_mk (st := st_brought_column) l21 c21 k21
  have F22 := fun_mk (st := st_brought) l22 c22 k22
  have F23 := fun_mk (st := st__law_deep) l23 c23 k23
  have F24 := fun_mk (st := st__law_wrong) l24 c24 k24
  have F25 := fun_mk (st := st__law_is_integer) l25 c25 k25
  have F26 := fun_mk (st := st__law_same) l26 c26 k26
  have F27 := fun_mk (st := st_is_fraction) l27 c27 k27
  have F28 := fun_mk (st := st_is_whole) l28 c28 k28
  have F29 := fun_mk (st := st_is_order) l29 c29 k29
  have F30 := fun_mk (st := st_is_bridge) l30 c30 k30
  have F31 := fun_mk (st := st_check_bridge) l31 c31 k31
  have F32 := fun_mk (st := st__law_refused) l32 c32 k32
  have F33 := fun_mk (st := st__law_listed) l33 c33 k33
  have F34 := fun_mk (st := st__law_raised) l34 c34 k34
  have F35 := fun_mk (st := st__law_seen) l35 c35 k35
  have F36 := fun_mk (st := st__law_crossed) l36 c36 k36
  have F37 := fun_mk (st := st_added) l37 c37 k37
  have F38 := fun_mk (st := st_scaled) l38 c38 k38
  have F39 := fun_mk (st := st_put_behind) l39 c39 k39
  have F40 := fun_mk (st := st_quotient) l40 c40 k40
  have F41 := fun_mk (st := st_opposite_bridge) l41 c41 k41
  have F42 := fun_mk (st := st__law_back) l42 c42 k42
  have F43 := fun_mk (st := st__law_opposite) l43 c43 k43
  have F44 := fun_mk (st := st__law_so) l44 c44 k44
  have F45 := fun_mk (st := st_law) l45 c45 k45
  obtain ⟨cl, hBadBridge, hScoreError⟩ : ∃ cl : Str → Addr, cl "BadBridge" = CBadBridge ∧ cl "ScoreError" = CScoreError := ⟨fun c => if c = "BadBridge" then CBadBridge else CScoreError, if_pos rfl, if_neg (by decide +kernel)⟩
  have T : Txt K mg cl := by
    constructor
    · exact PySem.W.mg_of X G bgcd
    · exact PySem.W.mg_none_of X G nValueError
    · exact PySem.W.mg_none_of X G nabs
    · exact PySem.W.mg_none_of X G nall
    · exact PySem.W.mg_none_of X G nany
    · exact PySem.W.mg_none_of X G nbool
    · exact PySem.W.mg_none_of X G ndict
    · exact PySem.W.mg_none_of X G nint
    · exact PySem.W.mg_none_of X G nisinstance
    · exact PySem.W.mg_none_of X G nlen
    · exact PySem.W.mg_none_of X G nlist
    · exact PySem.W.mg_none_of X G nrange
    · exact PySem.W.mg_none_of X G nrepr
    · exact PySem.W.mg_none_of X G nsorted
    · exact PySem.W.mg_none_of X G nstr
    · exact PySem.W.mg_none_of X G ntuple
    · exact ⟨⟨_, _, F1, PySem.W.mg_of X G a1⟩⟩
    · exact ⟨⟨_, _, F2, PySem.W.mg_of X G a2⟩⟩
    · exact ⟨⟨_, _, F3, PySem.W.mg_of X G a3⟩⟩
    · exact ⟨⟨_, _, F4, PySem.W.mg_of X G a4⟩⟩
    · exact ⟨⟨_, _, F5, PySem.W.mg_of X G a5⟩⟩
    · exact ⟨⟨_, _, F6, PySem.W.mg_of X G a6⟩⟩
    · exact ⟨⟨_, _, F7, PySem.W.mg_of X G a7⟩⟩
    · exact ⟨⟨_, _, F8, PySem.W.mg_of X G a8⟩⟩
    · exact ⟨⟨_, _, F9, PySem.W.mg_of X G a9⟩⟩
    · exact ⟨⟨_, _, F10, PySem.W.mg_of X G a10⟩⟩
    · exact ⟨⟨_, _, F11, PySem.W.mg_of X G a11⟩⟩
    · exact ⟨⟨_, _, F12, PySem.W.mg_of X G a12⟩⟩
    · exact ⟨⟨_, _, F13, PySem.W.mg_of X G a13⟩⟩
    · exact ⟨⟨_, _, F14, PySem.W.mg_of X G a14⟩⟩
    · exact ⟨⟨_, _, F15, PySem.W.mg_of X G a15⟩⟩
    · exact ⟨⟨_, _, F16, PySem.W.mg_of X G a16⟩⟩
    · exact ⟨⟨_, _, F17, PySem.W.mg_of X G a17⟩⟩
    · exact ⟨⟨_, _, F18, PySem.W.mg_of X G a18⟩⟩
    · exact ⟨⟨_, _, F19, PySem.W.mg_of X G a19⟩⟩
    · exact ⟨⟨_, _, F20, PySem.W.mg_of X G a20⟩⟩
    · exact ⟨⟨_, _, F21, PySem.W.mg_of X G a21⟩⟩
    · exact ⟨⟨_, _, F22, PySem.W.mg_of X G a22⟩⟩
    · exact ⟨⟨_, _, F23, PySem.W.mg_of X G a23⟩⟩
    · exact ⟨⟨_, _, F24, PySem.W.mg_of X G a24⟩⟩
    · exact ⟨⟨_, _, F25, PySem.W.mg_of X G a25⟩⟩
    · exact ⟨⟨_, _, F26, PySem.W.mg_of X G a26⟩⟩
    · exact ⟨⟨_, _, F27, PySem.W.mg_of X G a27⟩⟩
    · exact ⟨⟨_, _, F28, PySem.W.mg_of X G a28⟩⟩
    · exact ⟨⟨_, _, F29, PySem.W.mg_of X G a29⟩⟩
    · exact ⟨⟨_, _, F30, PySem.W.mg_of X G a30⟩⟩
    · exact ⟨⟨_, _, F31, PySem.W.mg_of X G a31⟩⟩
    · exact ⟨⟨_, _, F32, PySem.W.mg_of X G a32⟩⟩
    · exact ⟨⟨_, _, F33, PySem.W.mg_of X G a33⟩⟩
    · exact ⟨⟨_, _, F34, PySem.W.mg_of X G a34⟩⟩
    · exact ⟨⟨_, _, F35, PySem.W.mg_of X G a35⟩⟩
    · exact ⟨⟨_, _, F36, PySem.W.mg_of X G a36⟩⟩
    · exact ⟨⟨_, _, F37, PySem.W.mg_of X G a37⟩⟩
    · exact ⟨⟨_, _, F38, PySem.W.mg_of X G a38⟩⟩
    · exact ⟨⟨_, _, F39, PySem.W.mg_of X G a39⟩⟩
    · exact ⟨⟨_, _, F40, PySem.W.mg_of X G a40⟩⟩
    · exact ⟨⟨_, _, F41, PySem.W.mg_of X G a41⟩⟩
    · exact ⟨⟨_, _, F42, PySem.W.mg_of X G a42⟩⟩
    · exact ⟨⟨_, _, F43, PySem.W.mg_of X G a43⟩⟩
    · exact ⟨⟨_, _, F44, PySem.W.mg_of X G a44⟩⟩
    · exact ⟨⟨_, _, F45, PySem.W.mg_of X G a45⟩⟩
    · rw [hBadBridge]; exact ⟨PySem.W.mg_of X G aCBadBridge, xex, xkp, xsb, xty, ⟨xg, xk, xsb, xd, xa, xn, xt, xm⟩, PySem.W.exm_ref xsb xd xty xe⟩
    · rw [hScoreError]; exact PySem.W.mg_of X G aCScoreError
    · rw [hBadBridge, hScoreError]; exact Z.kit_ref xkd xkt xk1
    · rw [hBadBridge]; exact Z.kit_typ (by decide +kernel) xk2
  exact ⟨_, fun s v => .of_eq rfl, fun base _ _ => (k_law T F45).imp spLaw_of⟩
end K86
open PySem PySem.W PyProof.Rows
set_option maxHeartbeats 0 in
theorem PySem.Challenge.cw_counterheld_k86_whole_bridges_holds : PySem.Challenge.rw_counterheld_k86_whole_bridges.Holds := by
  w_on; o_law; k_head; (case hw => w_witness2)
  k_fill
  refine Z.walkG_of (l := PySem.Challenge.rw_counterheld_k86_whole_bridges) (n := 63) (k := 11) (x := "script") (sp := fun w => K86.spLaw _) rfl (by decide) rfl ⟨rfl, by decide, by decide⟩ (fun w h Y => PySem.W.kIn_of Y) ?F (fun _ _ a ns hl _ hS => ⟨a, ns, rfl, hS, hl, fun _ => rfl⟩)
  case F =>
    intro w mg fa h KX G hmg
    refine' K86.all_mk KX G hmg ?aCBadBridge ?aCScoreError ?a1 ?l1 ?c1 ?k1 ?a2 ?l2 ?c2 ?k2 ?a3 ?l3 ?c3 ?k3 ?a4 ?l4 ?c4 ?k4 ?a5 ?l5 ?c5 ?k5 ?a6 ?l6 ?c6 ?k6 ?a7 ?l7 ?c7 ?k7 ?a8 ?l8 ?c8 ?k8 ?a9 ?l9 ?c9 ?k9 ?a10 ?l10 ?c10 ?k10 ?a11 ?l11 ?c11 ?k11 ?a12 ?l12 ?c12 ?k12 ?a13 ?l13 ?c13 ?k13 ?a14 ?l14 ?c14 ?k14 ?a15 ?l15 ?c15 ?k15 ?a16 ?l16 ?c16 ?k16 ?a17 ?l17 ?c17 ?k17 ?a18 ?l18 ?c18 ?k18 ?a19 ?l19 ?c19 ?k19 ?a20 ?l20 ?c20 ?k20 ?a21 ?l21 ?c21 ?k21 ?a22 ?l22 ?c22 ?k22 ?a23 ?l23 ?c23 ?k23 ?a24 ?l24 ?c24 ?k24 ?a25 ?l25 ?c25 ?k25 ?a26 ?l26 ?c26 ?k26 ?a27 ?l27 ?c27 ?k27 ?a28 ?l28 ?c28 ?k28 ?a29 ?l29 ?c29 ?k29 ?a30 ?l30 ?c30 ?k30 ?a31 ?l31 ?c31 ?k31 ?a32 ?l32 ?c32 ?k32 ?a33 ?l33 ?c33 ?k33 ?a34 ?l34 ?c34 ?k34 ?a35 ?l35 ?c35 ?k35 ?a36 ?l36 ?c36 ?k36 ?a37 ?l37 ?c37 ?k37 ?a38 ?l38 ?c38 ?k38 ?a39 ?l39 ?c39 ?k39 ?a40 ?l40 ?c40 ?k40 ?a41 ?l41 ?c41 ?k41 ?a42 ?l42 ?c42 ?k42 ?a43 ?l43 ?c43 ?k43 ?a44 ?l44 ?c44 ?k44 ?a45 ?l45 ?c45 ?k45 ?xex ?xkp ?xsb ?xty ?xg ?xk ?xd ?xa ?xn ?xt ?xm ?xe ?xk1 ?xkd ?xkt ?xk2 ?bgcd ?nValueError ?nabs ?nall ?nany ?nbool ?ndict ?nint ?nisinstance ?nlen ?nlist ?nrange ?nrepr ?nsorted ?nstr ?ntuple
    (case aCBadBridge => k_is)
    (case aCScoreError => k_is)
    (case a1 => k_is)
    (case l1 => k_is)
    (case c1 => k_is)
    (case k1 => k_is)
    (case a2 => k_is)
    (case l2 => k_is)
    (case c2 => k_is)
    (case k2 => k_is)
    (case a3 => k_is)
    (case l3 => k_is)
    (case c3 => k_is)
    (case k3 => k_is)
    (case a4 => k_is)
    (case l4 => k_is)
    (case c4 => k_is)
    (case k4 => k_is)
    (case a5 => k_is)
    (case l5 => k_is)
    (case c5 => k_is)
    (case k5 => k_is)
    (case a6 => k_is)
    (case l6 => k_is)
    (case c6 => k_is)
    (case k6 => k_is)
    (case a7 => k_is)
    (case l7 => k_is)
    (case c7 => k_is)
    (case k7 => k_is)
    (case a8 => k_is)
    (case l8 => k_is)
    (case c8 => k_is)
    (case k8 => k_is)
    (case a9 => k_is)
    (case l9 => k_is)
    (case c9 => k_is)
    (case k9 => k_is)
    (case a10 => k_is)
    (case l10 => k_is)
    (case c10 => k_is)
    (case k10 => k_is)
    (case a11 => k_is)
    (case l11 => k_is)
    (case c11 => k_is)
    (case k11 => k_is)
    (case a12 => k_is)
    (case l12 => k_is)
    (case c12 => k_is)
    (case k12 => k_is)
    (case a13 => k_is)
    (case l13 => k_is)
    (case c13 => k_is)
    (case k13 => k_is)
    (case a14 => k_is)
    (case l14 => k_is)
    (case c14 => k_is)
    (case k14 => k_is)
    (case a15 => k_is)
    (case l15 => k_is)
    (case c15 => k_is)
    (case k15 => k_is)
    (case a16 => k_is)
    (case l16 => k_is)
    (case c16 => k_is)
    (case k16 => k_is)
    (case a17 => k_is)
    (case l17 => k_is)
    (case c17 => k_is)
    (case k17 => k_is)
    (case a18 => k_is)
    (case l18 => k_is)
    (case c18 => k_is)
    (case k18 => k_is)
    (case a19 => k_is)
    (case l19 => k_is)
    (case c19 => k_is)
    (case k19 => k_is)
    (case a20 => k_is)
    (case l20 => k_is)
    (case c20 => k_is)
    (case k20 => k_is)
    (case a21 => k_is)
    (case l21 => k_is)
    (case c21 => k_is)
    (case k21 => k_is)
    (case a22 => k_is)
    (case l22 => k_is)
    (case c22 => k_is)
    (case k22 => k_is)
    (case a23 => k_is)
    (case l23 => k_is)
    (case c23 => k_is)
    (case k23 => k_is)
    (case a24 => k_is)
    (case l24 => k_is)
    (case c24 => k_is)
    (case k24 => k_is)
    (case a25 => k_is)
    (case l25 => k_is)
    (case c25 => k_is)
    (case k25 => k_is)
    (case a26 => k_is)
    (case l26 => k_is)
    (case c26 => k_is)
    (case k26 => k_is)
    (case a27 => k_is)
    (case l27 => k_is)
    (case c27 => k_is)
    (case k27 => k_is)
    (case a28 => k_is)
    (case l28 => k_is)
    (case c28 => k_is)
    (case k28 => k_is)
    (case a29 => k_is)
    (case l29 => k_is)
    (case c29 => k_is)
    (case k29 => k_is)
    (case a30 => k_is)
    (case l30 => k_is)
    (case c30 => k_is)
    (case k30 => k_is)
    (case a31 => k_is)
    (case l31 => k_is)
    (case c31 => k_is)
    (case k31 => k_is)
    (case a32 => k_is)
    (case l32 => k_is)
    (case c32 => k_is)
    (case k32 => k_is)
    (case a33 => k_is)
    (case l33 => k_is)
    (case c33 => k_is)
    (case k33 => k_is)
    (case a34 => k_is)
    (case l34 => k_is)
    (case c34 => k_is)
    (case k34 => k_is)
    (case a35 => k_is)
    (case l35 => k_is)
    (case c35 => k_is)
    (case k35 => k_is)
    (case a36 => k_is)
    (case l36 => k_is)
    (case c36 => k_is)
    (case k36 => k_is)
    (case a37 => k_is)
    (case l37 => k_is)
    (case c37 => k_is)
    (case k37 => k_is)
    (case a38 => k_is)
    (case l38 => k_is)
    (case c38 => k_is)
    (case k38 => k_is)
    (case a39 => k_is)
    (case l39 => k_is)
    (case c39 => k_is)
    (case k39 => k_is)
    (case a40 => k_is)
    (case l40 => k_is)
    (case c40 => k_is)
    (case k40 => k_is)
    (case a41 => k_is)
    (case l41 => k_is)
    (case c41 => k_is)
    (case k41 => k_is)
    (case a42 => k_is)
    (case l42 => k_is)
    (case c42 => k_is)
    (case k42 => k_is)
    (case a43 => k_is)
    (case l43 => k_is)
    (case c43 => k_is)
    (case k43 => k_is)
    (case a44 => k_is)
    (case l44 => k_is)
    (case c44 => k_is)
    (case k44 => k_is)
    (case a45 => k_is)
    (case l45 => k_is)
    (case c45 => k_is)
    (case k45 => k_is)
    (case xex => k_exc)
    (case xkp => k_is)
    (case xsb => k_is)
    (case xty => k_is)
    (case xg => k_is)
    (case xk => k_is)
    (case xd => k_is)
    (case xa => k_is)
    (case xn => k_is)
    (case xt => k_is)
    (case xm => k_is)
    (case xe => k_is)
    (case xk1 => k_is)
    (case xkd => k_is)
    (case xkt => k_is)
    (case xk2 => k_is)
    (case bgcd => k_is)
    (case nValueError => k_is)
    (case nabs => k_is)
    (case nall => k_is)
    (case nany => k_is)
    (case nbool => k_is)
    (case ndict => k_is)
    (case nint => k_is)
    (case nisinstance => k_is)
    (case nlen => k_is)
    (case nlist => k_is)
    (case nrange => k_is)
    (case nrepr => k_is)
    (case nsorted => k_is)
    (case nstr => k_is)
    (case ntuple => k_is)

