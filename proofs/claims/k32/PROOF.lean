import PyProof.Rows.All
import Wide.All
import OpenK.AllK
import Wide.FinOn
import HandS.ForMost
import HandS.Exc
import HandS.TryOnly
import HandS.ExcOwn
import HandS.WordsExc
import HandS.IsInst
import HandS.Zip
import HandS.Wide
import PyProof.NeData
import HandS.Iter
import HandS.TupAny
import HandS.TupLe
import PyProof.StrOps2
import HandS.SortInts
import HandS.WideBits
import HandS.WideMore
import HandS.Rev
import HandS.Conv
import HandS.Style
import HandS.Text
import HandS.Flow
import HandS.Dict
import HandS.WordsDict
import HandS.TupLen
import HandS.RevTup
import KE.KDictList
import HandS.Defaults
import HandS.HeadHook1
import HandS.HeadHook2
import HandS.TryMany
import HandS.ExcIs
import HandS.DictComp
import HandS.More
import HandS.Star
import HandS.Strs
import HandS.SetFor
import PyProof.Rows.SortShellAny
import HandS.SortRule
import HandS.Flt
import HandS.Head0
import HandS.Head1
import HandS.Head2
import HandS.HeadEnd
import PyProof.StrLawsIn
import PySem.Challenge.RW_oncecodes_k32_whole_great_keys_and_count
set_option Elab.async false
set_option linter.all false
set_option maxRecDepth 100000
section
set_option maxHeartbeats 2000000
namespace Ev
open PySem PySem.Spec PyProof.Rows L2

/-! ### data, slots, results -/
inductive D where
  | non | bl (b : Bool) | int (i : Int) | str (x : Str)
  | tup (xs : List D) | lst (xs : List D) | fn (k : Nat) | scr (ns : List Int)
  | dK (ks : List Key) (xs : List D) | dT (ks : List (List Key)) (xs : List D)
  deriving Inhabited
/-- what a thing of one's own holds -/
inductive Ob where
  | lst (xs : List D) | dK (ks : List Key) (xs : List D) | dT (ks : List (List Key)) (xs : List D)
instance : Coe (List D) Ob := ⟨.lst⟩
def Ob.d : Ob → D
  | .lst xs => .lst xs
  | .dK ks xs => .dK ks xs
  | .dT ks xs => .dT ks xs

/-- a name's place: nothing; a value that stays; a list of its own that may grow (io: the caller's) -/
inductive Sl where
  | un | va (d : D) | ow (io : Bool) (xs : Ob)

abbrev En := List Sl
abbrev Sg := L2.St

inductive R (α : Type) where
  | ok (a : α) (ρ : En) | err (x : Nat) (ρ : En) | bad

def R.bind {α β : Type} : R α → (α → En → R β) → R β
  | .ok a ρ, f => f a ρ
  | .err x ρ, _ => .err x ρ
  | .bad, _ => .bad

@[simp] theorem R.bind_ok {α β : Type} (a : α) (ρ : En) (f : α → En → R β) : (R.ok a ρ).bind f = f a ρ := (rfl)
@[simp] theorem R.bind_err {α β : Type} (x : Nat) (ρ : En) (f : α → En → R β) : (R.err x ρ : R α).bind f = .err x ρ := (rfl)
@[simp] theorem R.bind_bad {α β : Type} (f : α → En → R β) : (R.bad : R α).bind f = .bad := (rfl)

/-- the law's own constants: the written part, where the defs stand, where the classes of errors stand -/
structure Cn where
  K : PySem.W.Frag
  A : Nat → Addr
  C : Nat → Addr

mutual
inductive Rep (c : Cn) (H : Hp) : V → D → Prop
  | non : Rep c H .non .non
  | bl (b : Bool) : Rep c H (.bl b) (.bl b)
  | int (i : Int) : Rep c H (.int i) (.int i)
  | str (x : Str) : Rep c H (.str x) (.str x)
  | tup {a : Addr} {vs : List V} {ds : List D} : H a = some (.tup vs) → Reps c H vs ds → Rep c H (.ref a) (.tup ds)
  | lst {a : Addr} {vs : List V} {ds : List D} : H a = some (.lst vs) → Reps c H vs ds → Rep c H (.ref a) (.lst ds)
  | fn (k : Nat) : Rep c H (.ref (c.A k)) (.fn k)
  | scr {a : Addr} {ns : List Int} : SqL c.K H a (ns.map V.int) → Rep c H (.ref a) (.scr ns)
  | dK {a : Addr} {o : Obj} {kvs : List (Key × V)} {ds : List D} : H a = some (.frz o (.dK kvs)) → Reps c H (kvs.map (·.2)) ds → Rep c H (.ref a) (.dK (kvs.map (·.1)) ds)
  | dT {a : Addr} {o : Obj} {kvs : List (List Key × V)} {ds : List D} : H a = some (.frz o (.dT kvs)) → Reps c H (kvs.map (·.2)) ds → Rep c H (.ref a) (.dT (kvs.map (·.1)) ds)
inductive Reps (c : Cn) (H : Hp) : List V → List D → Prop
  | nil : Reps c H [] []
  | cons {v : V} {vs : List V} {d : D} {ds : List D} : Rep c H v d → Reps c H vs ds → Reps c H (v :: vs) (d :: ds)
end

theorem Same.seqT {K : PySem.W.Frag} {H H' : Hp} {a : Addr} {xs : List V} (e : Same H H') (h : SqT K H a xs) : SqT K H' a xs := by
  rcases h with (h | ⟨o, h⟩) | h
  · exact .inl (.inl (e _ _ h))
  · exact .inl (.inr ⟨o, e _ _ h⟩)
  · exact .inr h

section
variable {c : Cn} {H H' : Hp}
mutual
theorem Rep.mono (s : Same H H') : ∀ {v : V} {d : D}, Rep c H v d → Rep c H' v d
  | _, _, .non => .non
  | _, _, .bl b => .bl b
  | _, _, .int i => .int i
  | _, _, .str x => .str x
  | _, _, .tup h r => .tup (s _ _ h) (Reps.mono s r)
  | _, _, .lst h r => .lst (s _ _ h) (Reps.mono s r)
  | _, _, .fn k => .fn k
  | _, _, .scr h => .scr (s.seq h)
  | _, _, .dK h r => .dK (s _ _ h) (Reps.mono s r)
  | _, _, .dT h r => .dT (s _ _ h) (Reps.mono s r)
theorem Reps.mono (s : Same H H') : ∀ {vs : List V} {ds : List D}, Reps c H vs ds → Reps c H' vs ds
  | _, _, .nil => .nil
  | _, _, .cons h r => .cons (Rep.mono s h) (Reps.mono s r)
end
theorem Reps.length : ∀ {vs : List V} {ds : List D}, Reps c H vs ds → vs.length = ds.length
  | _, _, .nil => rfl
  | _, _, .cons _ r => by rw [List.length_cons, List.length_cons, r.length]
theorem Reps.get : ∀ {vs : List V} {ds : List D} {i : Nat} {d : D}, Reps c H vs ds → ds[i]? = some d → ∃ v, vs[i]? = some v ∧ Rep c H v d
  | _, _, _, _, .nil, e => by simp at e
  | _, _, 0, _, .cons h _, e => by simp at e; subst e; exact ⟨_, rfl, h⟩
  | _, _, i + 1, d, .cons _ r, e => by
    obtain ⟨v, e1, h⟩ := Reps.get (i := i) (d := d) r (by simpa using e)
    exact ⟨v, by simpa using e1, h⟩
theorem Reps.getV : ∀ {vs : List V} {ds : List D} {i : Nat} {v : V}, Reps c H vs ds → vs[i]? = some v → ∃ d, ds[i]? = some d ∧ Rep c H v d
  | _, _, _, _, .nil, e => by simp at e
  | _, _, 0, _, .cons h _, e => by simp at e; subst e; exact ⟨_, rfl, h⟩
  | _, _, i + 1, d, .cons _ r, e => by
    obtain ⟨v, e1, h⟩ := Reps.getV (i := i) (v := d) r (by simpa using e)
    exact ⟨v, by simpa using e1, h⟩
theorem Reps.append : ∀ {vs : List V} {ds : List D} {us : List V} {es : List D}, Reps c H vs ds → Reps c H us es → Reps c H (vs ++ us) (ds ++ es)
  | _, _, _, _, .nil, s => s
  | _, _, _, _, .cons h r, s => .cons h (Reps.append r s)
theorem Reps.take : ∀ {vs : List V} {ds : List D} (n : Nat), Reps c H vs ds → Reps c H (vs.take n) (ds.take n)
  | _, _, 0, _ => .nil
  | _, _, _ + 1, .nil => .nil
  | _, _, n + 1, .cons h r => .cons h (Reps.take n r)
theorem Reps.drop : ∀ {vs : List V} {ds : List D} (n : Nat), Reps c H vs ds → Reps c H (vs.drop n) (ds.drop n)
  | _, _, 0, r => r
  | _, _, _ + 1, .nil => .nil
  | _, _, n + 1, .cons _ r => Reps.drop n r
theorem Reps.set : ∀ {vs : List V} {ds : List D} {v : V} {d : D} (i : Nat), Rep c H v d → Reps c H vs ds → Reps c H (vs.set i v) (ds.set i d)
  | _, _, _, _, _, _, .nil => .nil
  | _, _, _, _, 0, h, .cons _ r => .cons h r
  | _, _, _, _, i + 1, h, .cons h' r => .cons h' (Reps.set i h r)
theorem Reps.erase : ∀ {vs : List V} {ds : List D} (i : Nat), Reps c H vs ds → Reps c H (vs.eraseIdx i) (ds.eraseIdx i)
  | _, _, _, .nil => .nil
  | _, _, 0, .cons _ r => r
  | _, _, i + 1, .cons h r => .cons h (Reps.erase i r)
theorem Reps.dropLast {vs : List V} {ds : List D} (r : Reps c H vs ds) : Reps c H vs.dropLast ds.dropLast := by
  rw [List.dropLast_eq_take, List.dropLast_eq_take, r.length]
  exact r.take _
theorem Reps.reverse : ∀ {vs : List V} {ds : List D}, Reps c H vs ds → Reps c H vs.reverse ds.reverse
  | _, _, .nil => .nil
  | _, _, .cons h r => by rw [List.reverse_cons, List.reverse_cons]; exact (Reps.reverse r).append (.cons h .nil)
theorem Reps.rep {vs : List V} {ds : List D} (r : Reps c H vs ds) : ∀ k : Nat, Reps c H (List.replicate k vs).flatten (List.replicate k ds).flatten
  | 0 => .nil
  | k + 1 => by rw [List.replicate_succ, List.replicate_succ, List.flatten_cons, List.flatten_cons]; exact r.append (r.rep k)
end

/-- a thing of one's own: what stands there holds that -/
def ObR (c : Cn) (H : Hp) : HO → Ob → Prop
  | .lst vs, .lst ds => Reps c H vs ds
  | .dK kvs, .dK ks ds => kvs.map (·.1) = ks ∧ Reps c H (kvs.map (·.2)) ds
  | .dT kvs, .dT ks ds => kvs.map (·.1) = ks ∧ Reps c H (kvs.map (·.2)) ds
  | _, _ => False
theorem ObR.mono {c : Cn} {H H' : Hp} (s : Same H H') {o : HO} {b : Ob} (r : ObR c H o b) : ObR c H' o b := by
  cases b <;> cases o <;> first | exact r.elim | exact Reps.mono s r | exact ⟨r.1, Reps.mono s r.2⟩
theorem ObR.lst {c : Cn} {H : Hp} {o : HO} {xs : List D} (r : ObR c H o (.lst xs)) : ∃ vs, o = .lst vs ∧ Reps c H vs xs := by
  cases o <;> first | exact r.elim | exact ⟨_, rfl, r⟩
@[simp] def D.isOb : D → Bool
  | .lst _ => true
  | .dK _ _ => true
  | .dT _ _ => true
  | _ => false
theorem Ob.is (b : Ob) : b.d.isOb = true := by cases b <;> rfl
/-- let go of: it is a value from now on -/
theorem ObR.rep {c : Cn} {H : Hp} {p : Addr} {o : HO} {xs : List D} (r : ObR c H o (.lst xs)) (h : H p = some o) : Rep c H (.ref p) (.lst xs) := by
  obtain ⟨vs, rfl, r⟩ := r.lst
  exact .lst h r
/-- a dict is let go of: it is locked -/
theorem ObR.repD {c : Cn} {H : Hp} {p : Addr} {o : HO} {od : Obj} {b : Ob} (r : ObR c H o b) (nb : ∀ xs, b ≠ .lst xs) (h : H p = some (.frz od o)) : Rep c H (.ref p) b.d ∧ L2.Mut (some o) := by
  cases b <;> cases o <;> first | exact r.elim | exact absurd rfl (nb _) | (obtain ⟨rfl, r⟩ := r; exact ⟨.dK h r, trivial⟩) | (obtain ⟨rfl, r⟩ := r; exact ⟨.dT h r, trivial⟩)
/-- no tuple: tuples never change, whoever holds them -/
def NT : HO → Prop
  | .tup _ => False
  | _ => True
theorem ObR.nt {c : Cn} {H : Hp} {o : HO} {b : Ob} (r : ObR c H o b) : NT o := by
  cases b <;> cases o <;> first | exact r.elim | trivial
/-! ### the state -/
def SlRel (c : Cn) (pin : Addr) (Z Hf H : Hp) (o : Option (Option V)) : Sl → Prop
  | .un => True
  | .va d => ∃ v, o = some (some v) ∧ Rep c Hf v d
  | .ow io ds => ∃ p ho, o = some (some (.ref p)) ∧ H p = some ho ∧ Hf p = none ∧ Z p = none ∧ ObR c Hf ho ds ∧ (io = true → p = pin)

/-- Z: what stands still and is not spoken of; Hf: what stands still and is spoken of -/
structure SR (c : Cn) (pin : Addr) (Z : Hp) (ρ : En) (σ : Sg) (H Hf : Hp) : Prop where
  z : Same Z H
  f : Same Hf H
  dj : ∀ a o, Z a = some o → NT o → Hf a = none
  len : ρ.length = σ.length
  sl : ∀ (i : Nat) (s : Sl), ρ[i]? = some s → SlRel c pin Z Hf H σ[i]? s
  ap : ∀ (i j : Nat) (io io' : Bool) (xs ys : Ob) (p : Addr), i ≠ j → ρ[i]? = some (.ow io xs) → ρ[j]? = some (.ow io' ys) → σ[i]? = some (some (.ref p)) → σ[j]? = some (some (.ref p)) → False

/-- p is no list of its own of a name -/
def Away (ρ : En) (σ : Sg) (p : Addr) : Prop := ∀ (i : Nat) (io : Bool) (xs : Ob), ρ[i]? = some (.ow io xs) → σ[i]? ≠ some (some (.ref p))

section
variable {c : Cn} {pin : Addr} {Z : Hp} {ρ : En} {σ : Sg} {H H' Hf Hf' : Hp}
theorem SR.away_new (S : SR c pin Z ρ σ H Hf) {p : Addr} (n : H p = none) : Away ρ σ p := fun i io xs e q => by
  obtain ⟨p', vs, e1, e2, _⟩ := S.sl i _ e
  rw [q] at e1
  cases e1
  rw [n] at e2
  cases e2
/-- the heap grows (or changes away from the lists of its own), what is spoken of grows -/
theorem SR.grow (S : SR c pin Z ρ σ H Hf) (hz : Same Z H') (hf : Same Hf' H') (ff : Same Hf Hf') (dj : ∀ a o, Z a = some o → NT o → Hf' a = none)
    (ow : ∀ (i : Nat) (io : Bool) (xs : Ob) (p : Addr) (vs : HO), ρ[i]? = some (.ow io xs) → σ[i]? = some (some (.ref p)) → H p = some vs → NT vs → Hf p = none → H' p = some vs ∧ Hf' p = none) : SR c pin Z ρ σ H' Hf' := by
  refine ⟨hz, hf, dj, S.len, fun i s e => ?_, S.ap⟩
  have q := S.sl i s e
  cases s with
  | un => trivial
  | va d => obtain ⟨v, e1, r⟩ := q; exact ⟨v, e1, r.mono ff⟩
  | ow io ds =>
    obtain ⟨p, vs, e1, e2, e3, e4, r, pn⟩ := q
    obtain ⟨g1, g2⟩ := ow i io ds p vs e e1 e2 r.nt e3
    exact ⟨p, vs, e1, g1, g2, e4, r.mono ff, pn⟩
/-- a new object, not spoken of -/
theorem Same.new {H : Hp} {p : Addr} {o : HO} (n : H p = none) : Same H (upd H p o) := fun b u e => by
  rw [upd_ne (ne_of_none e n)]; exact e
theorem SR.new (S : SR c pin Z ρ σ H Hf) {p : Addr} {o : HO} (n : H p = none) : SR c pin Z ρ σ (upd H p o) Hf := by
  refine S.grow (S.z.trans (Same.new n)) (S.f.trans (Same.new n)) (Same.refl _) S.dj fun i io xs q vs _ _ e _ f => ⟨?_, f⟩
  exact Same.new n _ _ e
/-- an object that stands and is nobody's becomes spoken of -/
theorem SR.speak (S : SR c pin Z ρ σ H Hf) {p : Addr} {o : HO} (h : H p = some o) (hf : Hf p = none) (hz : Z p = none) (aw : Away ρ σ p) : SR c pin Z ρ σ H (upd Hf p o) ∧ Same Hf (upd Hf p o) := by
  have ss : Same Hf (upd Hf p o) := Same.new hf
  refine ⟨S.grow S.z (fun b u e => ?_) ss (fun a u e ne => ?_) fun i io xs q vs e1 e2 e _ f => ⟨e, ?_⟩, ss⟩
  · by_cases hb : b = p
    · subst hb; rw [upd_same] at e; cases e; exact h
    · rw [upd_ne hb] at e; exact S.f _ _ e
  · have : a ≠ p := fun z => by subst z; rw [hz] at e; cases e
    rw [upd_ne this]; exact S.dj _ _ e ne
  · have : q ≠ p := fun z => by subst z; exact aw i io xs e1 e2
    rw [upd_ne this]; exact f
/-- a tuple that stands becomes spoken of -/
theorem SR.speakT (S : SR c pin Z ρ σ H Hf) {p : Addr} {us : List V} (h : H p = some (.tup us)) : ∃ Hf', Same Hf Hf' ∧ SR c pin Z ρ σ H Hf' ∧ Hf' p = some (.tup us) := by
  cases q : Hf p with
  | some o =>
    have := S.f _ _ q
    rw [h] at this
    cases this
    exact ⟨Hf, Same.refl _, S, q⟩
  | none =>
    have ss : Same Hf (upd Hf p (.tup us)) := Same.new q
    refine ⟨_, ss, S.grow S.z (fun b u e => ?_) ss (fun a u e ne => ?_) fun i io xs q vs e1 e2 e nt f => ⟨e, ?_⟩, upd_same⟩
    · by_cases hb : b = p
      · subst hb; rw [upd_same] at e; cases e; exact h
      · rw [upd_ne hb] at e; exact S.f _ _ e
    · have : a ≠ p := fun z => by
        subst z
        have := S.z _ _ e
        rw [h] at this
        cases this
        exact ne.elim
      rw [upd_ne this]; exact S.dj _ _ e ne
    · have : q ≠ p := fun z => by
        subst z
        rw [h] at e
        cases e
        exact nt.elim
      rw [upd_ne this]; exact f
/-- a new object, spoken of -/
theorem SR.newS (S : SR c pin Z ρ σ H Hf) {p : Addr} {o : HO} (n : H p = none) : SR c pin Z ρ σ (upd H p o) (upd Hf p o) ∧ Same Hf (upd Hf p o) := by
  have nz : Z p = none := S.z.free n
  have nf : Hf p = none := S.f.free n
  exact (S.new n).speak upd_same nf nz (S.away_new n)
end

/-! ### readings -/
abbrev Rel (α β : Type) := Hp → En → Sg → Hp → Hp → β → α → Prop
def Go {α β : Type} (c : Cn) (pin : Addr) (Z : Hp) (W : WX) (σ : Sg) (Hf : Hp) (rel : Rel α β) (r : R α) (Q : β → Hp → Prop) : Prop :=
  match r with
  | .ok a ρ => ∀ b H Hf', Same Hf Hf' → SR c pin Z ρ σ H Hf' → rel Z ρ σ Hf' H b a → Q b H
  | .err x ρ => ∀ H Hf', Same Hf Hf' → SR c pin Z ρ σ H Hf' → W (.ref (c.C x)) none σ H
  | .bad => False
abbrev relD (c : Cn) : Rel D V := fun _ _ _ Hf _ v d => Rep c Hf v d
abbrev relDs (c : Cn) : Rel (List D) (List V) := fun _ _ _ Hf _ vs ds => Reps c Hf vs ds
abbrev relB : Rel Bool Bool := fun _ _ _ _ _ b b' => b = b'
/-- a new list at p that nobody holds -/
def relF (c : Cn) : Rel (List D) V := fun Z ρ σ Hf H v ds => ∃ p vs, v = .ref p ∧ H p = some (.lst vs) ∧ Hf p = none ∧ Z p = none ∧ Away ρ σ p ∧ Reps c Hf vs ds
/-- a value that is only looked at: spoken of, or the list of its own of a name -/
def relL (c : Cn) : Rel D V := fun _ _ _ Hf H v d => Rep c Hf v d ∨ ∃ p ho b, v = .ref p ∧ d = Ob.d b ∧ H p = some ho ∧ ObR c Hf ho b

def tG {α β : Type} (c : Cn) (W : WX) (rel : Rel α β) (f : En → R α) : Sg → Hp → (β → Hp → Prop) → Prop := fun σ H Q =>
  ∃ pin Z ρ Hf, SR c pin Z ρ σ H Hf ∧ Go c pin Z W σ Hf rel (f ρ) Q
abbrev tE (c : Cn) (W : WX) (f : En → R D) : TE := tG c W (relD c) f
abbrev tF (c : Cn) (W : WX) (f : En → R (List D)) : TE := tG c W (relF c) f
abbrev tL (c : Cn) (W : WX) (f : En → R D) : TE := tG c W (relL c) f
abbrev tA (c : Cn) (W : WX) (f : En → R (List D)) : TA := tG c W (relDs c) f
abbrev tT (c : Cn) (W : WX) (f : En → R Bool) : TT := tG c W relB f

section
variable {c : Cn} {pin : Addr} {Z : Hp} {W : WX} {σ : Sg} {H Hf Hf' : Hp} {α β γ δ : Type} {rel : Rel α β} {rel' : Rel γ δ}
theorem Go.mono {r : R α} {Q : β → Hp → Prop} (s : Same Hf Hf') (g : Go c pin Z W σ Hf rel r Q) : Go c pin Z W σ Hf' rel r Q := by
  cases r with
  | ok a ρ => exact fun b H Hf'' s' => g b H Hf'' (s.trans s')
  | err x ρ => exact fun H Hf'' s' => g H Hf'' (s.trans s')
  | bad => exact g
theorem Go.imp {r : R α} {Q Q' : β → Hp → Prop} (g : Go c pin Z W σ Hf rel r Q) (h : ∀ b H, Q b H → Q' b H) : Go c pin Z W σ Hf rel r Q' := by
  cases r with
  | ok a ρ => exact fun b H Hf'' s' S e => h _ _ (g b H Hf'' s' S e)
  | err x ρ => exact g
  | bad => exact g
/-- in sequence -/
theorem Go.seq {r : R α} {k : α → En → R γ} {Q : δ → Hp → Prop} {Q1 : β → Hp → Prop} (g : Go c pin Z W σ Hf rel' (r.bind k) Q)
    (h : ∀ a ρ1 b H1 Hf1, Same Hf Hf1 → SR c pin Z ρ1 σ H1 Hf1 → rel Z ρ1 σ Hf1 H1 b a → Go c pin Z W σ Hf1 rel' (k a ρ1) Q → Q1 b H1) : Go c pin Z W σ Hf rel r Q1 := by
  cases r with
  | ok a ρ => exact fun b H Hf'' s' S e => h a ρ b H Hf'' s' S e (Go.mono s' g)
  | err x ρ => exact g
  | bad => exact g
/-- the first part of what is read in sequence -/
theorem tG.seq {f : En → R α} {k : α → En → R γ} {Q : δ → Hp → Prop} {Q1 : β → Hp → Prop} (g : tG c W rel' (fun ρ => (f ρ).bind k) σ H Q)
    (h : ∀ pin Z a ρ1 b H1 Hf1, SR c pin Z ρ1 σ H1 Hf1 → rel Z ρ1 σ Hf1 H1 b a → Go c pin Z W σ Hf1 rel' (k a ρ1) Q → Q1 b H1) : tG c W rel f σ H Q1 := by
  obtain ⟨pin, Z, ρ, Hf, S, g⟩ := g
  exact ⟨pin, Z, ρ, Hf, S, Go.seq g fun a ρ1 b H1 Hf1 _ S1 r1 g1 => h pin Z a ρ1 b H1 Hf1 S1 r1 g1⟩
end

/-! ### readings that ask less -/
section
variable {X : Cx}
theorem pe_of {e : Expr} {t t' : TE} (h : PE X e t) (i : ∀ σ H Q, t' σ H Q → t σ H Q) : PE X e t' := ⟨fun pins s σ H Q I q => h.run pins s σ H Q I (i σ H Q q)⟩
theorem pt_of {e : Expr} {t t' : TT} (h : PT X e t) (i : ∀ σ H Q, t' σ H Q → t σ H Q) : PT X e t' := ⟨fun pins s σ H Q I q => h.run pins s σ H Q I (i σ H Q q)⟩
theorem pa_of {es : List Expr} {t t' : TA} (h : PA X es t) (i : ∀ σ H Q, t' σ H Q → t σ H Q) : PA X es t' := ⟨fun pos pins s σ H Q I q => h.run pos pins s σ H Q I (i σ H Q q)⟩
theorem ps_of {st : Stmt} {t t' : TS} (h : PS X st t) (i : ∀ D σ H, t' D σ H → t D σ H) : PS X st t' := ⟨fun pins s σ H D I q => h.run pins s σ H D I (i D σ H q)⟩
theorem pss_of {st : List Stmt} {t t' : TS} (h : PSs X st t) (i : ∀ D σ H, t' D σ H → t D σ H) : PSs X st t' := ⟨fun pins s σ H D I q => h.run pins s σ H D I (i D σ H q)⟩
/-- lists and tuples that are tracked are not too long -/
def Small (H : Hp) : Prop := ∀ a xs, (Rd H a (.lst xs) ∨ Rd H a (.tup xs)) → xs.length ≤ sizeLine
theorem Small.of {P : Program} {w : World} {H : Hp} {h : Heap} (x : HOk P w H h) : Small H := fun a xs e => by
  rcases e with e | e
  · obtain ⟨z, _⟩ := e.ok x; exact z
  · obtain ⟨z, _⟩ := e.ok x; exact z
theorem Small.sqT {K : PySem.W.Frag} {H : Hp} {a : Addr} {xs : List V} (s : Small H) (h : SqT K H a xs) : xs.length ≤ sizeLine := by
  rcases h with h | ⟨o, its, n, _, _, _, hz, r⟩
  · exact s a xs (.inr h)
  · have e := r.length
    simp only [Array.length_toList] at e
    omega
theorem Small.sqL {K : PySem.W.Frag} {H : Hp} {a : Addr} {xs : List V} (s : Small H) (h : SqL K H a xs) : xs.length ≤ sizeLine := by
  rcases h with h | ⟨o, its, n, _, _, _, _, hz, r⟩
  · exact s a xs (.inl h)
  · have e := r.length
    simp only [Array.length_toList] at e
    omega
end
end Ev

end
section
set_option maxHeartbeats 2000000
namespace Ev
open PySem PySem.Spec PyProof.Rows L2
open PySem.SeqAt

mutual
/-- == of data -/
def eqD : D → D → Bool
  | .non, .non => true
  | .bl a, .bl b => a == b
  | .bl a, .int j => (if a then 1 else 0) == j
  | .int i, .bl b => i == (if b then 1 else 0)
  | .int i, .int j => i == j
  | .str x, .str y => x == y
  | .lst xs, .lst ys => eqDs xs ys
  | .tup xs, .tup ys => eqDs xs ys
  | _, _ => false
def eqDs : List D → List D → Bool
  | [], [] => true
  | x :: xs, y :: ys => eqD x y && eqDs xs ys
  | _, _ => false
end
/-- data that == asks, at most n deep -/
def shp : Nat → D → Bool
  | _, .non => true
  | _, .bl _ => true
  | _, .int _ => true
  | _, .str _ => true
  | 0, .tup xs => xs.isEmpty
  | 0, .lst xs => xs.isEmpty
  | n + 1, .tup xs => xs.all (shp n)
  | n + 1, .lst xs => xs.all (shp n)
  | _, .fn _ => false
  | _, .scr _ => false
  | _, .dK _ _ => false
  | _, .dT _ _ => false

mutual
inductive RdD (h : Heap) : Value → D → Prop
  | non : RdD h .none .non
  | bl (b : Bool) : RdD h (.bool b) (.bl b)
  | int (i : Int) (t : Tok) : RdD h (.int i t) (.int i)
  | str (x : Str) (t : Tok) : RdD h (.str x t) (.str x)
  | lst {l : Addr} {vs : Array Value} {ds : List D} : h.IsList l vs → RdDs h vs.toList ds → RdD h (.ref l) (.lst ds)
  | tup {l : Addr} {vs : Array Value} {ds : List D} : h.IsTuple l vs → RdDs h vs.toList ds → RdD h (.ref l) (.tup ds)
inductive RdDs (h : Heap) : List Value → List D → Prop
  | nil : RdDs h [] []
  | cons {v : Value} {vs : List Value} {d : D} {ds : List D} : RdD h v d → RdDs h vs ds → RdDs h (v :: vs) (d :: ds)
end
theorem RdDs.length {h : Heap} : ∀ {vs : List Value} {ds : List D}, RdDs h vs ds → vs.length = ds.length
  | _, _, .nil => rfl
  | _, _, .cons _ r => by rw [List.length_cons, List.length_cons, r.length]
theorem isList_fun {h : Heap} {l : Addr} {vs ws : Array Value} (a : h.IsList l vs) (b : h.IsList l ws) : vs = ws := by
  obtain ⟨o, e, _, n, d⟩ := a
  obtain ⟨o', e', _, n', d'⟩ := b
  rw [e] at e'; cases e'
  rw [d] at d'; injection d'
theorem isTuple_fun {h : Heap} {l : Addr} {vs ws : Array Value} (a : h.IsTuple l vs) (b : h.IsTuple l ws) : vs = ws := by
  obtain ⟨o, e, _, n, d⟩ := a
  obtain ⟨o', e', _, n', d'⟩ := b
  rw [e] at e'; cases e'
  rw [d] at d'; injection d'
theorem isListTuple {h : Heap} {l : Addr} {vs ws : Array Value} (a : h.IsList l vs) (b : h.IsTuple l ws) : False := by
  obtain ⟨o, e, c, n, d⟩ := a
  obtain ⟨o', e', c', n', d'⟩ := b
  rw [e] at e'; cases e'
  rw [c] at c'
  exact absurd c' (by decide)
mutual
theorem RdD.fun {h : Heap} : ∀ {v : Value} {d e : D}, RdD h v d → RdD h v e → d = e
  | _, _, _, .non, b => by cases b; rfl
  | _, _, _, .bl _, b => by cases b; rfl
  | _, _, _, .int _ _, b => by cases b; rfl
  | _, _, _, .str _ _, b => by cases b; rfl
  | _, _, _, .lst h1 r1, b => by
    cases b with
    | lst h2 r2 => rw [← isList_fun h1 h2] at r2; rw [RdDs.fun r1 r2]
    | tup h2 r2 => exact (isListTuple h1 h2).elim
  | _, _, _, .tup h1 r1, b => by
    cases b with
    | tup h2 r2 => rw [← isTuple_fun h1 h2] at r2; rw [RdDs.fun r1 r2]
    | lst h2 r2 => exact (isListTuple h2 h1).elim
theorem RdDs.fun {h : Heap} : ∀ {vs : List Value} {ds es : List D}, RdDs h vs ds → RdDs h vs es → ds = es
  | _, _, _, .nil, b => by cases b; rfl
  | _, _, _, .cons a r, b => by
    cases b with
    | cons a' r' => rw [RdD.fun a a', RdDs.fun r r']
end
mutual
theorem eqD_refl : ∀ (n : Nat) (d : D), shp n d = true → eqD d d = true
  | _, .non, _ => rfl
  | _, .bl b, _ => by simp [eqD]
  | _, .int i, _ => by simp [eqD]
  | _, .str x, _ => by simp [eqD]
  | n, .dK _ _, h => by cases n <;> cases h
  | n, .dT _ _, h => by cases n <;> cases h
  | 0, .tup xs, h => by cases xs with | nil => rfl | cons => cases h
  | 0, .lst xs, h => by cases xs with | nil => rfl | cons => cases h
  | n + 1, .tup xs, h => by rw [eqD]; exact eqDs_refl n xs h
  | n + 1, .lst xs, h => by rw [eqD]; exact eqDs_refl n xs h
  | n, .fn _, h => by cases n <;> cases h
  | n, .scr _, h => by cases n <;> cases h
theorem eqDs_refl : ∀ (n : Nat) (ds : List D), ds.all (shp n) = true → eqDs ds ds = true
  | _, [], _ => rfl
  | n, d :: ds, h => by
    rw [List.all_cons, Bool.and_eq_true] at h
    rw [eqDs, eqD_refl n d h.1, eqDs_refl n ds h.2]; rfl
end
def pEq (xs ys : List D) (j : Nat) : Bool := eqD (xs.getD j .non) (ys.getD j .non)
theorem eqDs_eq : ∀ xs ys : List D, ((List.range (min xs.length ys.length)).all (pEq xs ys) && xs.length == ys.length) = eqDs xs ys
  | [], [] => rfl
  | [], _ :: _ => by simp [eqDs]
  | _ :: _, [] => by simp [eqDs]
  | x :: xs, y :: ys => by
    have ih := eqDs_eq xs ys
    have e1 : min (x :: xs).length (y :: ys).length = min xs.length ys.length + 1 := by simp only [List.length_cons]; omega
    have e2 : ((x :: xs).length == (y :: ys).length) = (xs.length == ys.length) := by simp
    have e3 : (List.range (min xs.length ys.length + 1)).all (pEq (x :: xs) (y :: ys)) = (eqD x y && (List.range (min xs.length ys.length)).all (pEq xs ys)) := by
      rw [List.range_succ_eq_map, List.all_cons, List.all_map]
      first | rfl | simp [pEq, Function.comp_def]
    rw [e1, e2, e3, eqDs, ← ih, Bool.and_assoc]
theorem eqDs_same {xs ys : List D} (h : xs.length = ys.length) : (List.range xs.length).all (pEq xs ys) = eqDs xs ys := by
  have := eqDs_eq xs ys
  rw [← h, Nat.min_self] at this
  simpa using this
theorem eqDs_other {xs ys : List D} (h : xs.length ≠ ys.length) : eqDs xs ys = false := by
  rw [← eqDs_eq xs ys]; simp [h]

mutual
theorem eqAtD : ∀ (n : Nat) (a b : D) (A : Around) (s : Shared) (u v : Value), RdD s.heap u a → RdD s.heap v b → shp n a = true → shp n b = true → A.units + n < cLine → EqAt A s u v (eqD a b) := by
  intro n a b A s u v ra rb sa sb hu0
  have hu : A.units < cLine := by omega
  have eqat_list : ∀ {l l' : Addr} {vs vs' : Array Value} {xs ys : List D}, s.heap.IsList l vs → RdDs s.heap vs.toList xs → s.heap.IsList l' vs' → RdDs s.heap vs'.toList ys → shp n (.lst xs) = true → shp n (.lst ys) = true → EqAt A s (.ref l) (.ref l') (eqDs xs ys) := by
    intro l l' vs vs' xs ys hl1 rs1 hl2 rs2 sa sb
    have n1 : vs.size = xs.length := by have := rs1.length; simpa using this
    have n2 : vs'.size = ys.length := by have := rs2.length; simpa using this
    by_cases hll : l = l'
    · subst hll
      have e := isList_fun hl1 hl2
      subst e
      have e := RdDs.fun rs1 rs2
      subst e
      have : eqDs xs xs = true := by have := eqD_refl n (.lst xs) sa; simpa [eqD] using this
      rw [this]
      exact EqAt.same _
    · by_cases hsz : vs.size = vs'.size
      · rw [← eqDs_same (by omega : xs.length = ys.length), ← n1]
        refine EqAt.of_refs hll (RcAt.lists hl1 hl2 hsz hu fun j j1 j2 => ?_)
        cases n with
        | zero =>
          cases xs with
          | nil => rw [List.length_nil] at n1; exact absurd j1 (by omega)
          | cons => cases sa
        | succ m =>
          have := eqAtDs m xs ys A.in1 s vs.toList vs'.toList rs1 rs2 sa sb (show A.units + 1 + m < cLine by omega) j (by simpa using j1) (by simpa using j2)
          simpa using this
      · rw [eqDs_other (by omega : xs.length ≠ ys.length)]
        exact EqAt.of_refs hll (RcAt.lists_lengths hl1 hl2 (by simpa using hsz) hu)
  have eqat_tuple : ∀ {l l' : Addr} {vs vs' : Array Value} {xs ys : List D}, s.heap.IsTuple l vs → RdDs s.heap vs.toList xs → s.heap.IsTuple l' vs' → RdDs s.heap vs'.toList ys → shp n (.tup xs) = true → shp n (.tup ys) = true → EqAt A s (.ref l) (.ref l') (eqDs xs ys) := by
    intro l l' vs vs' xs ys hl1 rs1 hl2 rs2 sa sb
    have n1 : vs.size = xs.length := by have := rs1.length; simpa using this
    have n2 : vs'.size = ys.length := by have := rs2.length; simpa using this
    by_cases hll : l = l'
    · subst hll
      have e := isTuple_fun hl1 hl2
      subst e
      have e := RdDs.fun rs1 rs2
      subst e
      have : eqDs xs xs = true := by have := eqD_refl n (.tup xs) sa; simpa [eqD] using this
      rw [this]
      exact EqAt.same _
    · rw [← eqDs_eq xs ys, ← n1, ← n2]
      refine EqAt.of_refs hll (RcAt.tuples hl1 hl2 hu fun j j1 j2 => ?_)
      cases n with
      | zero =>
        cases xs with
        | nil => rw [List.length_nil] at n1; exact absurd j1 (by omega)
        | cons => cases sa
      | succ m =>
        have := eqAtDs m xs ys A.in1 s vs.toList vs'.toList rs1 rs2 sa sb (show A.units + 1 + m < cLine by omega) j (by simpa using j1) (by simpa using j2)
        simpa using this
  cases ra with
    | non =>
      cases rb with
      | non => exact EqAt.same _
      | bl b2 => exact EqAt.none_bool b2
      | int i2 t2 => exact EqAt.none_int i2 t2
      | str x2 t2 => exact EqAt.none_str x2 t2
      | lst hl2 rs2 => exact EqAt.none_list hl2 hu
      | tup hl2 rs2 => exact EqAt.none_tuple hl2 hu
    | bl b1 =>
      cases rb with
      | non => exact EqAt.bool_none b1
      | bl b2 => exact EqAt.bool_bool b1 b2
      | int i2 t2 => exact EqAt.bool_int b1 i2 t2
      | str x2 t2 => exact EqAt.bool_str b1 x2 t2
      | lst hl2 rs2 => exact EqAt.bool_list b1 hl2 hu
      | tup hl2 rs2 => exact EqAt.bool_tuple b1 hl2 hu
    | int i1 t1 =>
      cases rb with
      | non => exact EqAt.int_none i1 t1
      | bl b2 => exact EqAt.int_bool i1 t1 b2
      | int i2 t2 => exact EqAt.int_int i1 t1 i2 t2
      | str x2 t2 => exact EqAt.int_str i1 t1 x2 t2
      | lst hl2 rs2 => exact EqAt.int_list i1 t1 hl2 hu
      | tup hl2 rs2 => exact EqAt.int_tuple i1 t1 hl2 hu
    | str x1 t1 =>
      cases rb with
      | non => exact EqAt.str_none x1 t1
      | bl b2 => exact EqAt.str_bool x1 t1 b2
      | int i2 t2 => exact EqAt.str_int x1 t1 i2 t2
      | str x2 t2 => exact EqAt.str_str x1 t1 x2 t2
      | lst hl2 rs2 => exact EqAt.str_list x1 t1 hl2 hu
      | tup hl2 rs2 => exact EqAt.str_tuple x1 t1 hl2 hu
    | lst hl1 rs1 =>
      cases rb with
      | non => exact EqAt.list_none hl1 hu
      | bl b2 => exact EqAt.list_bool b2 hl1 hu
      | int i2 t2 => exact EqAt.list_int i2 t2 hl1 hu
      | str x2 t2 => exact EqAt.list_str x2 t2 hl1 hu
      | lst hl2 rs2 => exact eqat_list hl1 rs1 hl2 rs2 sa sb
      | tup hl2 rs2 => exact EqAt.list_tuple hl1 hl2 hu
    | tup hl1 rs1 =>
      cases rb with
      | non => exact EqAt.tuple_none hl1 hu
      | bl b2 => exact EqAt.tuple_bool b2 hl1 hu
      | int i2 t2 => exact EqAt.tuple_int i2 t2 hl1 hu
      | str x2 t2 => exact EqAt.tuple_str x2 t2 hl1 hu
      | lst hl2 rs2 => exact EqAt.tuple_list hl1 hl2 hu
      | tup hl2 rs2 => exact eqat_tuple hl1 rs1 hl2 rs2 sa sb
theorem eqAtDs : ∀ (n : Nat) (xs ys : List D) (A : Around) (s : Shared) (us vs : List Value), RdDs s.heap us xs → RdDs s.heap vs ys → xs.all (shp n) = true → ys.all (shp n) = true → A.units + n < cLine →
    ∀ j (h1 : j < us.length) (h2 : j < vs.length), EqAt A s us[j] vs[j] (pEq xs ys j)
  | _, [], _, _, _, _, _, ra, _, _, _, _, j, h1, _ => by cases ra; exact absurd h1 (Nat.not_lt_zero _)
  | _, _ :: _, [], _, _, _, _, _, rb, _, _, _, j, _, h2 => by cases rb; exact absurd h2 (Nat.not_lt_zero _)
  | n, x :: xs, y :: ys, A, s, _, _, ra, rb, sa, sb, hu, j, h1, h2 => by
    rw [List.all_cons, Bool.and_eq_true] at sa sb
    cases ra with
    | cons r rs =>
      cases rb with
      | cons r' rs' =>
        cases j with
        | zero => exact eqAtD n x y A s _ _ r r' sa.1 sb.1 hu
        | succ j => exact eqAtDs n xs ys A s _ _ rs rs' sa.2 sb.2 hu j (Nat.lt_of_succ_lt_succ h1) (Nat.lt_of_succ_lt_succ h2)
end

theorem rcAtD : ∀ (n : Nat) (a b : D) (A : Around) (s : Shared) (u v : Value), RdD s.heap u a → RdD s.heap v b → shp n a = true → shp n b = true → A.units + n < cLine → RcAt A s u v (eqD a b) := by
  intro n a b A s u v ra rb sa sb hu0
  have hu : A.units < cLine := by omega
  have he : ∀ {xs ys : List D} {vs vs' : Array Value}, RdDs s.heap vs.toList xs → RdDs s.heap vs'.toList ys → (shp n (.lst xs) = true ∨ shp n (.tup xs) = true) → (shp n (.lst ys) = true ∨ shp n (.tup ys) = true) → ∀ j (j1 : j < vs.size) (j2 : j < vs'.size), EqAt A.in1 s vs[j] vs'[j] (pEq xs ys j) := by
    intro xs ys vs vs' rs1 rs2 sa sb j j1 j2
    have n1 : vs.size = xs.length := by have := rs1.length; simpa using this
    cases n with
    | zero =>
      cases xs with
      | nil => rw [List.length_nil] at n1; exact absurd j1 (by omega)
      | cons => rcases sa with sa | sa <;> cases sa
    | succ m =>
      have sa' : xs.all (shp m) = true := by rcases sa with sa | sa <;> exact sa
      have sb' : ys.all (shp m) = true := by rcases sb with sb | sb <;> exact sb
      have := eqAtDs m xs ys A.in1 s vs.toList vs'.toList rs1 rs2 sa' sb' (show A.units + 1 + m < cLine by omega) j (by simpa using j1) (by simpa using j2)
      simpa using this
  have f_list : ∀ {l l' : Addr} {vs vs' : Array Value} {xs ys : List D}, s.heap.IsList l vs → RdDs s.heap vs.toList xs → s.heap.IsList l' vs' → RdDs s.heap vs'.toList ys → shp n (.lst xs) = true → shp n (.lst ys) = true → RcAt A s (.ref l) (.ref l') (eqDs xs ys) := by
    intro l l' vs vs' xs ys hl1 rs1 hl2 rs2 sa sb
    have n1 : vs.size = xs.length := by have := rs1.length; simpa using this
    have n2 : vs'.size = ys.length := by have := rs2.length; simpa using this
    by_cases hsz : vs.size = vs'.size
    · rw [← eqDs_same (by omega : xs.length = ys.length), ← n1]
      exact RcAt.lists hl1 hl2 hsz hu (he rs1 rs2 (.inl sa) (.inl sb))
    · rw [eqDs_other (by omega : xs.length ≠ ys.length)]
      exact RcAt.lists_lengths hl1 hl2 (by simpa using hsz) hu
  have f_tuple : ∀ {l l' : Addr} {vs vs' : Array Value} {xs ys : List D}, s.heap.IsTuple l vs → RdDs s.heap vs.toList xs → s.heap.IsTuple l' vs' → RdDs s.heap vs'.toList ys → shp n (.tup xs) = true → shp n (.tup ys) = true → RcAt A s (.ref l) (.ref l') (eqDs xs ys) := by
    intro l l' vs vs' xs ys hl1 rs1 hl2 rs2 sa sb
    have n1 : vs.size = xs.length := by have := rs1.length; simpa using this
    have n2 : vs'.size = ys.length := by have := rs2.length; simpa using this
    rw [← eqDs_eq xs ys, ← n1, ← n2]
    exact RcAt.tuples hl1 hl2 hu (he rs1 rs2 (.inr sa) (.inr sb))
  cases ra with
    | non =>
      cases rb with
      | non => exact RcAt.none_none
      | bl b2 => exact RcAt.none_bool b2
      | int i2 t2 => exact RcAt.none_int i2 t2
      | str x2 t2 => exact RcAt.none_str x2 t2
      | lst hl2 rs2 => exact RcAt.none_list hl2 hu
      | tup hl2 rs2 => exact RcAt.none_tuple hl2 hu
    | bl b1 =>
      cases rb with
      | non => exact RcAt.bool_none b1
      | bl b2 => exact RcAt.bool_bool b1 b2
      | int i2 t2 => exact RcAt.bool_int b1 i2 t2
      | str x2 t2 => exact RcAt.bool_str b1 x2 t2
      | lst hl2 rs2 => exact RcAt.bool_list b1 hl2 hu
      | tup hl2 rs2 => exact RcAt.bool_tuple b1 hl2 hu
    | int i1 t1 =>
      cases rb with
      | non => exact RcAt.int_none i1 t1
      | bl b2 => exact RcAt.int_bool i1 t1 b2
      | int i2 t2 => exact RcAt.int_int i1 t1 i2 t2
      | str x2 t2 => exact RcAt.int_str i1 t1 x2 t2
      | lst hl2 rs2 => exact RcAt.int_list i1 t1 hl2 hu
      | tup hl2 rs2 => exact RcAt.int_tuple i1 t1 hl2 hu
    | str x1 t1 =>
      cases rb with
      | non => exact RcAt.str_none x1 t1
      | bl b2 => exact RcAt.str_bool x1 t1 b2
      | int i2 t2 => exact RcAt.str_int x1 t1 i2 t2
      | str x2 t2 => exact RcAt.str_str x1 t1 x2 t2
      | lst hl2 rs2 => exact RcAt.str_list x1 t1 hl2 hu
      | tup hl2 rs2 => exact RcAt.str_tuple x1 t1 hl2 hu
    | lst hl1 rs1 =>
      cases rb with
      | non => exact RcAt.list_none hl1 hu
      | bl b2 => exact RcAt.list_bool b2 hl1 hu
      | int i2 t2 => exact RcAt.list_int i2 t2 hl1 hu
      | str x2 t2 => exact RcAt.list_str x2 t2 hl1 hu
      | lst hl2 rs2 => exact f_list hl1 rs1 hl2 rs2 sa sb
      | tup hl2 rs2 => exact RcAt.list_tuple hl1 hl2 hu
    | tup hl1 rs1 =>
      cases rb with
      | non => exact RcAt.tuple_none hl1 hu
      | bl b2 => exact RcAt.tuple_bool b2 hl1 hu
      | int i2 t2 => exact RcAt.tuple_int i2 t2 hl1 hu
      | str x2 t2 => exact RcAt.tuple_str x2 t2 hl1 hu
      | lst hl2 rs2 => exact RcAt.tuple_list hl1 hl2 hu
      | tup hl2 rs2 => exact f_tuple hl1 rs1 hl2 rs2 sa sb

theorem rcNeAtD : ∀ (n : Nat) (a b : D) (A : Around) (s : Shared) (u v : Value), RdD s.heap u a → RdD s.heap v b → shp n a = true → shp n b = true → A.units + n < cLine → RcNeAt A s u v (!eqD a b) := by
  intro n a b A s u v ra rb sa sb hu0
  have hu : A.units < cLine := by omega
  have he : ∀ {xs ys : List D} {vs vs' : Array Value}, RdDs s.heap vs.toList xs → RdDs s.heap vs'.toList ys → (shp n (.lst xs) = true ∨ shp n (.tup xs) = true) → (shp n (.lst ys) = true ∨ shp n (.tup ys) = true) → ∀ j (j1 : j < vs.size) (j2 : j < vs'.size), EqAt A.in1 s vs[j] vs'[j] (pEq xs ys j) := by
    intro xs ys vs vs' rs1 rs2 sa sb j j1 j2
    have n1 : vs.size = xs.length := by have := rs1.length; simpa using this
    cases n with
    | zero =>
      cases xs with
      | nil => rw [List.length_nil] at n1; exact absurd j1 (by omega)
      | cons => rcases sa with sa | sa <;> cases sa
    | succ m =>
      have sa' : xs.all (shp m) = true := by rcases sa with sa | sa <;> exact sa
      have sb' : ys.all (shp m) = true := by rcases sb with sb | sb <;> exact sb
      have := eqAtDs m xs ys A.in1 s vs.toList vs'.toList rs1 rs2 sa' sb' (show A.units + 1 + m < cLine by omega) j (by simpa using j1) (by simpa using j2)
      simpa using this
  have f_list : ∀ {l l' : Addr} {vs vs' : Array Value} {xs ys : List D}, s.heap.IsList l vs → RdDs s.heap vs.toList xs → s.heap.IsList l' vs' → RdDs s.heap vs'.toList ys → shp n (.lst xs) = true → shp n (.lst ys) = true → RcNeAt A s (.ref l) (.ref l') (!eqDs xs ys) := by
    intro l l' vs vs' xs ys hl1 rs1 hl2 rs2 sa sb
    have n1 : vs.size = xs.length := by have := rs1.length; simpa using this
    have n2 : vs'.size = ys.length := by have := rs2.length; simpa using this
    by_cases hsz : vs.size = vs'.size
    · rw [← eqDs_same (by omega : xs.length = ys.length), ← n1]
      exact RcNeAt.lists hl1 hl2 hsz hu (he rs1 rs2 (.inl sa) (.inl sb))
    · rw [eqDs_other (by omega : xs.length ≠ ys.length)]
      exact RcNeAt.lists_lengths hl1 hl2 (by simpa using hsz) hu
  have f_tuple : ∀ {l l' : Addr} {vs vs' : Array Value} {xs ys : List D}, s.heap.IsTuple l vs → RdDs s.heap vs.toList xs → s.heap.IsTuple l' vs' → RdDs s.heap vs'.toList ys → shp n (.tup xs) = true → shp n (.tup ys) = true → RcNeAt A s (.ref l) (.ref l') (!eqDs xs ys) := by
    intro l l' vs vs' xs ys hl1 rs1 hl2 rs2 sa sb
    have n1 : vs.size = xs.length := by have := rs1.length; simpa using this
    have n2 : vs'.size = ys.length := by have := rs2.length; simpa using this
    rw [← eqDs_eq xs ys, ← n1, ← n2]
    exact RcNeAt.tuples hl1 hl2 hu (he rs1 rs2 (.inr sa) (.inr sb))
  cases ra with
    | non =>
      cases rb with
      | non => exact RcNeAt.none_none
      | bl b2 => exact RcNeAt.none_bool b2
      | int i2 t2 => exact RcNeAt.none_int i2 t2
      | str x2 t2 => exact RcNeAt.none_str x2 t2
      | lst hl2 rs2 => exact RcNeAt.none_list hl2 hu
      | tup hl2 rs2 => exact RcNeAt.none_tuple hl2 hu
    | bl b1 =>
      cases rb with
      | non => exact RcNeAt.bool_none b1
      | bl b2 => exact RcNeAt.bool_bool b1 b2
      | int i2 t2 => exact RcNeAt.bool_int b1 i2 t2
      | str x2 t2 => exact RcNeAt.bool_str b1 x2 t2
      | lst hl2 rs2 => exact RcNeAt.bool_list b1 hl2 hu
      | tup hl2 rs2 => exact RcNeAt.bool_tuple b1 hl2 hu
    | int i1 t1 =>
      cases rb with
      | non => exact RcNeAt.int_none i1 t1
      | bl b2 => exact RcNeAt.int_bool i1 t1 b2
      | int i2 t2 => exact RcNeAt.int_int i1 t1 i2 t2
      | str x2 t2 => exact RcNeAt.int_str i1 t1 x2 t2
      | lst hl2 rs2 => exact RcNeAt.int_list i1 t1 hl2 hu
      | tup hl2 rs2 => exact RcNeAt.int_tuple i1 t1 hl2 hu
    | str x1 t1 =>
      cases rb with
      | non => exact RcNeAt.str_none x1 t1
      | bl b2 => exact RcNeAt.str_bool x1 t1 b2
      | int i2 t2 => exact RcNeAt.str_int x1 t1 i2 t2
      | str x2 t2 => exact RcNeAt.str_str x1 t1 x2 t2
      | lst hl2 rs2 => exact RcNeAt.str_list x1 t1 hl2 hu
      | tup hl2 rs2 => exact RcNeAt.str_tuple x1 t1 hl2 hu
    | lst hl1 rs1 =>
      cases rb with
      | non => exact RcNeAt.list_none hl1 hu
      | bl b2 => exact RcNeAt.list_bool b2 hl1 hu
      | int i2 t2 => exact RcNeAt.list_int i2 t2 hl1 hu
      | str x2 t2 => exact RcNeAt.list_str x2 t2 hl1 hu
      | lst hl2 rs2 => exact f_list hl1 rs1 hl2 rs2 sa sb
      | tup hl2 rs2 => exact RcNeAt.list_tuple hl1 hl2 hu
    | tup hl1 rs1 =>
      cases rb with
      | non => exact RcNeAt.tuple_none hl1 hu
      | bl b2 => exact RcNeAt.tuple_bool b2 hl1 hu
      | int i2 t2 => exact RcNeAt.tuple_int i2 t2 hl1 hu
      | str x2 t2 => exact RcNeAt.tuple_str x2 t2 hl1 hu
      | lst hl2 rs2 => exact RcNeAt.tuple_list hl1 hl2 hu
      | tup hl2 rs2 => exact f_tuple hl1 rs1 hl2 rs2 sa sb

section
variable {X : Cx} {c : Cn}
mutual
theorem Rep.rd {pins : List (Addr × Obj)} {σ : Sg} {H : Hp} {s : Shared} (hK : X.K = c.K) (I : Inv X pins σ H s) : ∀ (d : D) (v : V) (u : Value) (n : Nat), shp n d = true → Rep c H v d → RelV v u → RdD s.heap u d
  | .non, _, _, _, _, h, r => by cases h; cases r; exact .non
  | .bl b, _, _, _, _, h, r => by cases h; cases r; exact .bl b
  | .int i, _, _, _, _, h, r => by cases h; obtain ⟨t, rfl⟩ := r; exact .int i t
  | .str x, _, _, _, _, h, r => by cases h; obtain ⟨t, rfl⟩ := r; exact .str x t
  | .dK _ _, _, _, n, sh, _, _ => by cases n <;> cases sh
  | .dT _ _, _, _, n, sh, _, _ => by cases n <;> cases sh
  | .tup ds, _, _, n, sh, h, r => by
    cases h with
    | tup h q =>
      cases r
      obtain ⟨its, rv, p, _⟩ := I.tuple (SqT.of h)
      refine .tup (show s.heap.IsTuple _ its.toArray from p) ?_
      cases n with
      | zero =>
        cases ds with
        | nil => cases q; cases rv; exact .nil
        | cons => cases sh
      | succ m => exact Reps.rd hK I ds _ _ m sh q rv
  | .lst ds, _, _, n, sh, h, r => by
    cases h with
    | lst h q =>
      cases r
      obtain ⟨its, rv, p, _⟩ := I.list (SqL.of h)
      refine .lst p.isList ?_
      cases n with
      | zero =>
        cases ds with
        | nil => cases q; cases rv; exact .nil
        | cons => cases sh
      | succ m => exact Reps.rd hK I ds _ _ m sh q rv
  | .fn k, _, _, n, sh, _, _ => by cases n <;> cases sh
  | .scr _, _, _, n, sh, _, _ => by cases n <;> cases sh
theorem Reps.rd {pins : List (Addr × Obj)} {σ : Sg} {H : Hp} {s : Shared} (hK : X.K = c.K) (I : Inv X pins σ H s) : ∀ (ds : List D) (vs : List V) (us : List Value) (n : Nat), ds.all (shp n) = true → Reps c H vs ds → Vals vs us → RdDs s.heap us ds
  | [], _, _, _, _, h, r => by cases h; cases r; exact .nil
  | d :: ds, _, _, n, sh, h, r => by
    rw [List.all_cons, Bool.and_eq_true] at sh
    cases h with
    | cons h q =>
      cases r with
      | cons r1 r2 => exact .cons (Rep.rd hK I d _ _ n sh.1 h r1) (Reps.rd hK I ds _ _ n sh.2 q r2)
end
/-- == and != by values -/
theorem op_eqX (hK : X.K = c.K) (hu : X.A.units + 64 < cLine) : OpR X (compareOp .Eq) (fun x y H Q => ∃ d e, Rep c H x d ∧ Rep c H y e ∧ shp 60 d = true ∧ shp 60 e = true ∧ Q (.bl (eqD d e)) H) := by
  intro pins s σ H x y v u Q I rx ry h
  obtain ⟨d, e, hd, he, sd, se, q⟩ := h
  exact rcAtD 60 d e X.A s v u (Rep.rd hK I d x v 60 sd hd rx) (Rep.rd hK I e y u 60 se he ry) sd se (by omega) X.prog X.w X.xe _ ⟨.bl _, H, I, rfl, q⟩
theorem op_neX (hK : X.K = c.K) (hu : X.A.units + 64 < cLine) : OpR X (compareOp .NotEq) (fun x y H Q => ∃ d e, Rep c H x d ∧ Rep c H y e ∧ shp 60 d = true ∧ shp 60 e = true ∧ Q (.bl (!eqD d e)) H) := by
  intro pins s σ H x y v u Q I rx ry h
  obtain ⟨d, e, hd, he, sd, se, q⟩ := h
  exact rcNeAtD 60 d e X.A s v u (Rep.rd hK I d x v 60 sd hd rx) (Rep.rd hK I e y u 60 se he ry) sd se (by omega) X.prog X.w X.xe _ ⟨.bl _, H, I, rfl, q⟩
end
end Ev

end
section
set_option maxHeartbeats 2000000
namespace Ev
open PySem PySem.Spec PyProof.Rows L2
/-- a text, so many times -/
def repS (z : Str) (k : Int) : Str := if k < 1 then Str.empty else if k = 1 then z else ⟨(List.replicate k.toNat z.cps).foldl (· ++ ·) #[]⟩
theorem fold_size (a : Array Nat) : ∀ (n : Nat) (b : Array Nat), ((List.replicate n a).foldl (· ++ ·) b).size = b.size + n * a.size
  | 0, b => by simp
  | n + 1, b => by
    rw [List.replicate_succ, List.foldl_cons, fold_size a n, Array.size_append, Nat.succ_mul]
    omega
theorem op_repS {X : Cx} : OpR X (binaryOp .Mult) (fun x y H Q => ∃ (z : Str) (k : Int), x = .str z ∧ y = .int k ∧ 0 < z.length ∧ z.length ≤ 1000 ∧ -1000 ≤ k ∧ k ≤ 1000 ∧ Q (.str (repS z k)) H) := by
  intro pins s σ H x y v u Q I rx ry h
  obtain ⟨z, k, rfl, rfl, z0, z1, k0, k1, q⟩ := h
  obtain ⟨t, rfl⟩ := rx
  obtain ⟨t2, rfl⟩ := ry
  have hb : ∀ n : Int, 2 ≤ n → n ≤ 1000 → ((z.length : Nat) : Int) ≤ (2 ^ 63 - 1) / n := fun n h1 h2 => by
    have : (1000 : Int) ≤ (2 ^ 63 - 1) / n := by
      rw [Int.le_ediv_iff_mul_le (by omega)]
      omega
    omega
  refine PySem.P.mul_str (by rw [decide_eq_false (by omega), decide_eq_false (by omega)]; rfl) (fun h1 h2 => ?_) (fun h1 h2 => ?_) ?_
  · have k2 : k ≠ 1 := fun e => by subst e; simp at h2
    have := hb k (by omega) k1
    omega
  · have : z.length * k.toNat ≤ 1000 * 1000 := Nat.mul_le_mul z1 (by omega)
    unfold Builtin.Str.tooLong
    rw [decide_eq_false]
    rw [sizeLine_eq]
    omega
  · unfold repS at q
    by_cases c : k < 1
    · rw [if_pos c] at q ⊢
      exact ⟨by decide, .str Str.empty, H, I.tok _, ⟨_, rfl⟩, q⟩
    · rw [if_neg c] at q ⊢
      by_cases c2 : k = 1
      · subst c2
        exact ⟨.str z, H, I, ⟨t, rfl⟩, by simpa using q⟩
      · have e : (k == 1 || z.length == 0) = false := by
          rw [Bool.or_eq_false_iff]
          exact ⟨by simpa using c2, by rw [beq_eq_false_iff_ne]; omega⟩
        rw [if_neg c2] at q
        rw [e, if_neg Bool.false_ne_true]
        refine ⟨?_, .str _, H, I.tok _, ⟨_, rfl⟩, q⟩
        show ((List.replicate k.toNat z.cps).foldl (· ++ ·) #[]).size ≤ sizeLine
        have : k.toNat * z.cps.size ≤ 1000 * 1000 := Nat.mul_le_mul (by omega) z1
        rw [fold_size, sizeLine_eq, List.size_toArray, List.length_nil]
        omega
end Ev

end
section
set_option maxHeartbeats 2000000
namespace Ev
open PySem PySem.Spec PyProof.Rows L2

def LN : Nat := 16777216
theorem LN_eq : sizeLine = LN := sizeLine_eq
@[irreducible] def BIG : Nat := 2 ^ 499000
@[irreducible] def BIGD : Nat := 2 ^ 8999
def mulOk (i j : Int) : Bool := decide (j.natAbs < 18446744073709551616) || decide (i.natAbs < 18446744073709551616) || (decide (i.natAbs < BIG) && decide (j.natAbs < BIG))
def divOk (j : Int) : Bool := decide (0 < j) && decide (j.natAbs < BIGD)
theorem mulOk_of {i j : Int} (h : mulOk i j = true) : IntMulOk i j := by
  unfold mulOk at h
  rw [Bool.or_eq_true, Bool.or_eq_true, Bool.and_eq_true] at h
  rcases h with (h | h) | h
  · have h1 := of_decide_eq_true h
    exact CMul.ok (.inr (by omega))
  · have h1 := of_decide_eq_true h
    exact CMul.ok (.inl (by omega))
  · have h1 := of_decide_eq_true h.1
    have h2 := of_decide_eq_true h.2
    unfold BIG at h1 h2
    exact CMulW.ok (wide_mul h1 h2 (by decide) (by decide) (by decide))
theorem op_mulG {X : Cx} : OpR X (binaryOp .Mult) (rI IntMulOk fun i j => .int (i * j)) := opI fun _ _ _ _ _ _ _ hc q => mul_int q hc
theorem divOk_of {i j : Int} (h : divOk j = true) : CDivW i j := by
  unfold divOk at h
  rw [Bool.and_eq_true] at h
  have h1 := of_decide_eq_true h.1
  have h2 := of_decide_eq_true h.2
  unfold BIGD at h2
  exact wide_div h1 h2 (by decide) (by decide)

def R.lift {α : Type} : Option α → En → R α
  | some a, ρ => .ok a ρ
  | none, _ => .bad

@[simp] theorem R.lift_some {α : Type} (a : α) (ρ : En) : R.lift (some a) ρ = .ok a ρ := (rfl)
@[simp] theorem R.lift_none {α : Type} (ρ : En) : R.lift (none : Option α) ρ = .bad := (rfl)
/-- the operators on data -/
def op2 : Operator → D → D → Option D
  | .Add, .int i, .int j => some (.int (i + j))
  | .Add, .str x, .str y => if x.length + y.length ≤ LN then some (.str (x ++ y)) else none
  | .Add, .lst xs, .lst ys => if xs.length + ys.length ≤ LN then some (.lst (xs ++ ys)) else none
  | .Add, .tup xs, .tup ys => if xs.length + ys.length ≤ LN then some (.tup (xs ++ ys)) else none
  | .Sub, .int i, .int j => some (.int (i - j))
  | .Mult, .int i, .int j => if mulOk i j = true then some (.int (i * j)) else none
  | .Mult, .lst xs, .int k => if xs.length * k.toNat ≤ LN ∧ -(2 ^ 63) ≤ k ∧ k < 2 ^ 63 then some (.lst (List.replicate k.toNat xs).flatten) else none
  | .Mult, .str x, .int k => if 0 < x.length ∧ x.length ≤ 1000 ∧ -1000 ≤ k ∧ k ≤ 1000 then some (.str (repS x k)) else none
  | .FloorDiv, .int i, .int j => if divOk j = true then some (.int (i / j)) else none
  | .Mod, .int i, .int j => if 0 < j then some (.int (i % j)) else none
  | .Pow, .int i, .int j => if 0 ≤ j ∧ j ≤ 1000000 ∧ i.natAbs < 2 ^ 64 then some (.int (i ^ j.toNat)) else none
  | .LShift, .int i, .int j => if 0 ≤ j ∧ j ≤ 1000000 ∧ i.natAbs < 2 ^ 64 then some (.int (i * 2 ^ j.toNat)) else none
  | .RShift, .int i, .int j => if 0 ≤ j then some (.int (i / 2 ^ j.toNat)) else none
  | .BitAnd, .int i, .int j => some (.int (Builtin.bitAnd i j))
  | .BitOr, .int i, .int j => some (.int (Builtin.bitOr i j))
  | .BitXor, .int i, .int j => some (.int (Builtin.bitXor i j))
  | _, _, _ => none
/-- x op= y -/
def aop2 : Operator → D → D → Option D
  | .Add, .int i, .int j => some (.int (i + j))
  | .Add, .str x, .str y => if x.length + y.length ≤ LN then some (.str (x ++ y)) else none
  | .Sub, .int i, .int j => some (.int (i - j))
  | .Mult, .int i, .int j => if (-(2 ^ 64) < i ∧ i < 2 ^ 64) ∨ (-(2 ^ 64) < j ∧ j < 2 ^ 64) then some (.int (i * j)) else none
  | .FloorDiv, .int i, .int j => if divOk j = true then some (.int (i / j)) else none
  | .Mod, .int i, .int j => if 0 < j then some (.int (i % j)) else none
  | .RShift, .int i, .int j => if 0 ≤ j then some (.int (i / 2 ^ j.toNat)) else none
  | .BitAnd, .int i, .int j => some (.int (Builtin.bitAnd i j))
  | .BitOr, .int i, .int j => some (.int (Builtin.bitOr i j))
  | .BitXor, .int i, .int j => some (.int (Builtin.bitXor i j))
  | _, _, _ => none

def rOp (c : Cn) (g : D → D → Option D) : R2 := fun x y H Q => ∃ pin Z ρ σ Hf d e z, SR c pin Z ρ σ H Hf ∧ Rep c Hf x d ∧ Rep c Hf y e ∧ g d e = some z ∧
  ∀ v H' Hf', Same Hf Hf' → SR c pin Z ρ σ H' Hf' → Rep c Hf' v z → Q v H'
def rUn (c : Cn) (g : D → Option D) : V → Hp → VK → Prop := fun x H Q => ∃ pin Z ρ σ Hf d z, SR c pin Z ρ σ H Hf ∧ Rep c Hf x d ∧ g d = some z ∧
  ∀ v H' Hf', Same Hf Hf' → SR c pin Z ρ σ H' Hf' → Rep c Hf' v z → Q v H'

section
variable {X : Cx} {c : Cn} {W : WX} {a b : Expr} {pos : Pos} {fa fb : En → R D}
theorem Rep.seqT (hK : X.K = c.K) {H Hf : Hp} {v : V} {ds : List D} (s : Same Hf H) (r : Rep c Hf v (.tup ds)) : ∃ p vs, v = .ref p ∧ SqT X.K H p vs ∧ Reps c Hf vs ds := by
  cases r with
  | tup h q => exact ⟨_, _, rfl, SqT.of (s _ _ h), q⟩
theorem Rep.seqL {H Hf : Hp} {v : V} {ds : List D} (s : Same Hf H) (r : Rep c Hf v (.lst ds)) : ∃ p vs, v = .ref p ∧ H p = some (.lst vs) ∧ Reps c Hf vs ds := by
  cases r with
  | lst h q => exact ⟨_, _, rfl, s _ _ h, q⟩
theorem Rep.newL {Hf : Hp} {p : Addr} {vs : List V} {ds : List D} (s : Same Hf (upd Hf p (.lst vs))) (r : Reps c Hf vs ds) : Rep c (upd Hf p (.lst vs)) (.ref p) (.lst ds) := .lst upd_same (r.mono s)
theorem Rep.newT {Hf : Hp} {p : Addr} {vs : List V} {ds : List D} (s : Same Hf (upd Hf p (.tup vs))) (r : Reps c Hf vs ds) : Rep c (upd Hf p (.tup vs)) (.ref p) (.tup ds) := .tup upd_same (r.mono s)

theorem opr (hK : X.K = c.K) (op : Operator) : OpR X (binaryOp op) (rOp c (op2 op)) := by
  intro pins s σ0 H x y v u Q I rx ry h
  obtain ⟨pin, Z, ρ, σ, Hf, d, e, z, S, rd, re, g, q⟩ := h
  have fin : ∀ {w : V}, Rep c Hf w z → Q w H := fun r => q _ H Hf (Same.refl _) S r
  unfold op2 at g
  split at g
  · cases g; cases rd; cases re; exact op_add pins s σ0 H _ _ v u Q I rx ry ⟨_, _, rfl, rfl, fin (.int _)⟩
  · rename_i i j
    by_cases hz : i.length + j.length ≤ LN
    · rw [if_pos hz] at g; cases g; cases rd; cases re
      exact op_add_str pins s σ0 H _ _ v u Q I rx ry ⟨_, _, rfl, rfl, by rw [LN_eq]; exact hz, fin (.str _)⟩
    · rw [if_neg hz] at g; cases g
  · rename_i xs ys
    by_cases hz : xs.length + ys.length ≤ LN
    · rw [if_pos hz] at g; cases g
      obtain ⟨p, vs, rfl, hp, r1⟩ := rd.seqL S.f
      obtain ⟨p2, vs2, rfl, hp2, r2⟩ := re.seqL S.f
      refine op_cat pins s σ0 H _ _ v u Q I rx ry ⟨_, _, _, _, rfl, rfl, hp, hp2, by rw [LN_eq, r1.length, r2.length]; exact hz, fun l hl => ?_⟩
      obtain ⟨S', s'⟩ := S.newS hl
      exact q _ _ _ s' S' (Rep.newL s' (r1.append r2))
    · rw [if_neg hz] at g; cases g
  · rename_i xs ys
    by_cases hz : xs.length + ys.length ≤ LN
    · rw [if_pos hz] at g; cases g
      have rd0 := rd
      have re0 := re
      obtain ⟨p, vs, rfl, hp, r1⟩ := rd.seqT hK S.f
      obtain ⟨p2, vs2, rfl, hp2, r2⟩ := re.seqT hK S.f
      refine op_catA pins s σ0 H _ _ v u Q I rx ry ⟨_, _, _, _, rfl, rfl, hp, hp2, by rw [LN_eq, r1.length, r2.length]; exact hz, fun e => ?_, fun _ e => ?_, fun _ _ l hl => ?_⟩
      · subst e; cases r1; exact fin re0
      · subst e; cases r2; rw [List.append_nil] at q fin; exact fin rd0
      · obtain ⟨S', s'⟩ := S.newS hl
        exact q _ _ _ s' S' (Rep.newT s' (r1.append r2))
    · rw [if_neg hz] at g; cases g
  · cases g; cases rd; cases re; exact op_sub pins s σ0 H _ _ v u Q I rx ry ⟨_, _, rfl, rfl, fin (.int _)⟩
  · rename_i i j
    by_cases hz : mulOk i j = true
    · rw [if_pos hz] at g; cases g; cases rd; cases re
      exact op_mulG pins s σ0 H _ _ v u Q I rx ry ⟨_, _, rfl, rfl, mulOk_of hz, fin (.int _)⟩
    · rw [if_neg hz] at g; cases g
  · rename_i xs k
    split at g
    · rename_i hz
      cases g
      obtain ⟨p, vs, rfl, hp, r1⟩ := rd.seqL S.f
      cases re
      refine op_rep pins s σ0 H _ _ v u Q I rx ry ⟨_, _, _, rfl, rfl, hp, hz.2.1, hz.2.2, by rw [LN_eq, r1.length]; exact hz.1, fun l hl => ?_⟩
      obtain ⟨S', s'⟩ := S.newS hl
      exact q _ _ _ s' S' (Rep.newL s' (r1.rep _))
    · cases g
  · rename_i z k
    split at g
    · rename_i hz
      cases g; cases rd; cases re
      exact op_repS pins s σ0 H _ _ v u Q I rx ry ⟨_, _, rfl, rfl, hz.1, hz.2.1, hz.2.2.1, hz.2.2.2, fin (.str _)⟩
    · cases g
  · rename_i i j
    by_cases hz : divOk j = true
    · rw [if_pos hz] at g; cases g; cases rd; cases re
      exact op_fdivW pins s σ0 H _ _ v u Q I rx ry ⟨_, _, rfl, rfl, divOk_of hz, fin (.int _)⟩
    · rw [if_neg hz] at g; cases g
  · rename_i i j
    by_cases hz : 0 < j
    · rw [if_pos hz] at g; cases g; cases rd; cases re
      exact op_mod pins s σ0 H _ _ v u Q I rx ry ⟨_, _, rfl, rfl, hz, fin (.int _)⟩
    · rw [if_neg hz] at g; cases g
  · split at g
    · rename_i hz
      cases g; cases rd; cases re
      exact op_pow pins s σ0 H _ _ v u Q I rx ry ⟨_, _, rfl, rfl, hz, fin (.int _)⟩
    · cases g
  · split at g
    · rename_i hz
      cases g; cases rd; cases re
      exact op_shl pins s σ0 H _ _ v u Q I rx ry ⟨_, _, rfl, rfl, hz, fin (.int _)⟩
    · cases g
  · split at g
    · rename_i hz
      cases g; cases rd; cases re
      exact op_shr pins s σ0 H _ _ v u Q I rx ry ⟨_, _, rfl, rfl, hz, fin (.int _)⟩
    · cases g
  · cases g; cases rd; cases re; exact op_and pins s σ0 H _ _ v u Q I rx ry ⟨_, _, rfl, rfl, fin (.int _)⟩
  · cases g; cases rd; cases re; exact op_or pins s σ0 H _ _ v u Q I rx ry ⟨_, _, rfl, rfl, fin (.int _)⟩
  · cases g; cases rd; cases re; exact op_xor pins s σ0 H _ _ v u Q I rx ry ⟨_, _, rfl, rfl, fin (.int _)⟩
  · cases g
theorem iopr (op : Operator) : OpR X (inplaceOp op) (rOp c (aop2 op)) := by
  intro pins s σ0 H x y v u Q I rx ry h
  obtain ⟨pin, Z, ρ, σ, Hf, d, e, z, S, rd, re, g, q⟩ := h
  have fin : ∀ {w : V}, Rep c Hf w z → Q w H := fun r => q _ H Hf (Same.refl _) S r
  unfold aop2 at g
  split at g
  · cases g; cases rd; cases re; exact iop_add pins s σ0 H _ _ v u Q I rx ry ⟨_, _, rfl, rfl, fin (.int _)⟩
  · split at g
    · rename_i hz
      cases g; cases rd; cases re
      exact iop_add_str pins s σ0 H _ _ v u Q I rx ry ⟨_, _, rfl, rfl, by rw [LN_eq]; exact hz, fin (.str _)⟩
    · cases g
  · cases g; cases rd; cases re; exact iop_sub pins s σ0 H _ _ v u Q I rx ry ⟨_, _, rfl, rfl, fin (.int _)⟩
  · split at g
    · rename_i hz
      cases g; cases rd; cases re
      exact iop_mul pins s σ0 H _ _ v u Q I rx ry ⟨_, _, rfl, rfl, hz, fin (.int _)⟩
    · cases g
  · split at g
    · rename_i hz
      cases g; cases rd; cases re
      exact iop_fdivW pins s σ0 H _ _ v u Q I rx ry ⟨_, _, rfl, rfl, divOk_of hz, fin (.int _)⟩
    · cases g
  · split at g
    · rename_i hz
      cases g; cases rd; cases re
      exact iop_mod pins s σ0 H _ _ v u Q I rx ry ⟨_, _, rfl, rfl, hz, fin (.int _)⟩
    · cases g
  · split at g
    · rename_i hz
      cases g; cases rd; cases re
      exact iop_shr pins s σ0 H _ _ v u Q I rx ry ⟨_, _, rfl, rfl, hz, fin (.int _)⟩
    · cases g
  · cases g; cases rd; cases re; exact iop_and pins s σ0 H _ _ v u Q I rx ry ⟨_, _, rfl, rfl, fin (.int _)⟩
  · cases g; cases rd; cases re; exact iop_or pins s σ0 H _ _ v u Q I rx ry ⟨_, _, rfl, rfl, fin (.int _)⟩
  · cases g; cases rd; cases re; exact iop_xor pins s σ0 H _ _ v u Q I rx ry ⟨_, _, rfl, rfl, fin (.int _)⟩
  · cases g
/-- two values, then an operation on them -/
theorem two {g : D → D → Option D} {σ : Sg} {H : Hp} {Q : VK} {rr : R2} (hr : ∀ x y H2, rOp c g x y H2 Q → rr x y H2 Q)
    (h : tE c W (fun ρ => (fa ρ).bind fun x ρ1 => (fb ρ1).bind fun y ρ2 => R.lift (g x y) ρ2) σ H Q) : tE c W fa σ H fun x H1 => tE c W fb σ H1 fun y H2 => rr x y H2 Q := by
  refine tG.seq h fun pin Z d ρ1 x H1 Hf1 S1 r1 h1 => ?_
  refine ⟨pin, Z, ρ1, Hf1, S1, Go.seq h1 fun e ρ2 y H2 Hf2 s2 S2 r2 h2 => ?_⟩
  refine hr _ _ _ ?_
  cases hg : g d e with
  | none => rw [hg] at h2; exact h2.elim
  | some z =>
    rw [hg] at h2
    exact ⟨pin, Z, ρ2, σ, Hf2, d, e, z, S2, r1.mono s2, r2, hg, h2⟩
theorem s_bin {op : Operator} (hK : X.K = c.K) (ha : PE X a (tE c W fa)) (hb : PE X b (tE c W fb)) :
    PE X (.BinOp a op b pos) (tE c W fun ρ => (fa ρ).bind fun x ρ1 => (fb ρ1).bind fun y ρ2 => R.lift (op2 op x y) ρ2) :=
  pe_of (pe_op (opr hK op) ha hb) fun _ _ _ h => two (fun _ _ _ z => z) h
def neg1 : D → Option D
  | .int i => some (.int (-i))
  | _ => none
theorem one {β : Type} {g : D → Option D} {σ : Sg} {H : Hp} {Q : VK} {rr : V → Hp → VK → Prop} (hr : ∀ x H2, rUn c g x H2 Q → rr x H2 Q)
    (h : tE c W (fun ρ => (fa ρ).bind fun x ρ1 => R.lift (g x) ρ1) σ H Q) : tE c W fa σ H fun x H1 => rr x H1 Q := by
  refine tG.seq h fun pin Z d ρ1 x H1 Hf1 S1 r1 h1 => hr _ _ ?_
  cases hg : g d with
  | none => rw [hg] at h1; exact h1.elim
  | some z => rw [hg] at h1; exact ⟨pin, Z, ρ1, σ, Hf1, d, z, S1, r1, hg, h1⟩
theorem s_neg (ha : PE X a (tE c W fa)) : PE X (.UnaryOp .USub a pos) (tE c W fun ρ => (fa ρ).bind fun x ρ1 => R.lift (neg1 x) ρ1) :=
  pe_of (pe_un un_neg ha) fun σ H Q h => one (β := Unit) (fun x H2 ⟨pin, Z, ρ, σ, Hf, d, z, S, r, g, q⟩ => by
    cases d <;> cases g
    cases r
    exact ⟨_, rfl, q _ _ _ (Same.refl _) S (.int _)⟩) h
/-! ### constants and names -/
theorem s_con {e : Expr} {v : V} {d : D} (hr : ∀ H, Rep c H v d) (h : PE X e (tC v)) : PE X e (tE c W fun ρ => .ok d ρ) :=
  pe_of h fun σ H Q ⟨pin, Z, ρ, Hf, S, g⟩ => g v H Hf (Same.refl _) S (hr _)
def rdV (ρ : En) (i : Nat) : R D :=
  match ρ[i]? with
  | some (.va d) => .ok d ρ
  | some (.ow false ds) => .ok ds.d (ρ.set i (.va ds.d))
  | _ => .bad
def rdL (ρ : En) (i : Nat) : R D :=
  match ρ[i]? with
  | some (.va d) => .ok d ρ
  | some (.ow _ ds) => .ok ds.d ρ
  | _ => .bad
theorem set_get {α : Type} {l : List α} {i j : Nat} {x y : α} (h : (l.set i x)[j]? = some y) : (i = j ∧ y = x ∧ i < l.length) ∨ (i ≠ j ∧ l[j]? = some y) := by
  by_cases e : i = j
  · subst e
    by_cases hl : i < l.length
    · rw [List.getElem?_set_self hl] at h; cases h; exact .inl ⟨rfl, rfl, hl⟩
    · rw [List.getElem?_eq_none (by simpa using hl)] at h; cases h
  · rw [List.getElem?_set_ne e] at h; exact .inr ⟨e, h⟩
/-- at the slots: what becomes a value, the others stay -/
theorem SR.let {pin : Addr} {Z : Hp} {ρ : En} {σ : Sg} {H H' Hf Hf' : Hp} {i : Nat} {io : Bool} {ds : Ob} {d : D} {p : Addr} (S : SR c pin Z ρ σ H Hf) (h : ρ[i]? = some (.ow io ds)) (e1 : σ[i]? = some (some (.ref p))) (hz : Same Z H') (hf : Same Hf' H') (ff : Same Hf Hf')
    (dj : ∀ a o, Z a = some o → NT o → Hf' a = none) (ot : ∀ q o, q ≠ p → H q = some o → H' q = some o) (of : ∀ q, q ≠ p → Hf q = none → Hf' q = none) (rp : Rep c Hf' (.ref p) d) : SR c pin Z (ρ.set i (.va d)) σ H' Hf' := by
  refine ⟨hz, hf, dj, by rw [List.length_set]; exact S.len, fun j s e => ?_, fun j k io io' xs ys q hjk ej ek sj sk => ?_⟩
  · rcases set_get e with ⟨e5, e6, _⟩ | ⟨e5, e6⟩
    · subst e5; subst e6; exact ⟨_, e1, rp⟩
    · have q := S.sl j s e6
      cases s with
      | un => trivial
      | va d => obtain ⟨v, e7, r7⟩ := q; exact ⟨v, e7, r7.mono ff⟩
      | ow io' es =>
        obtain ⟨p', vs', f1, f2, f3, f4, r', pn'⟩ := q
        have ne : p' ≠ p := fun z => by subst z; exact S.ap i j _ _ _ _ _ e5 h e6 e1 f1
        exact ⟨p', vs', f1, ot _ _ ne f2, of _ ne f3, f4, r'.mono ff, pn'⟩
  · rcases set_get ej with ⟨_, f, _⟩ | ⟨_, ej⟩
    · cases f
    rcases set_get ek with ⟨_, f, _⟩ | ⟨_, ek⟩
    · cases f
    exact S.ap j k _ _ _ _ q hjk ej ek sj sk
/-- a list of its own is let go of: it stays as it is from now on -/
theorem SR.freeze {pin : Addr} {Z : Hp} {ρ : En} {σ : Sg} {H Hf : Hp} {i : Nat} {ds : List D} {io : Bool} (S : SR c pin Z ρ σ H Hf) (h : ρ[i]? = some (.ow io (.lst ds))) :
    ∃ p vs, σ[i]? = some (some (.ref p)) ∧ Same Hf (upd Hf p vs) ∧ SR c pin Z (ρ.set i (.va (.lst ds))) σ H (upd Hf p vs) ∧ Rep c (upd Hf p vs) (.ref p) (.lst ds) := by
  obtain ⟨p, vs, e1, e2, e3, e4, r, pn⟩ := S.sl i _ h
  have ss : Same Hf (upd Hf p vs) := Same.new e3
  have rp : Rep c (upd Hf p vs) (.ref p) (.lst ds) := (r.mono ss).rep upd_same
  refine ⟨p, vs, e1, ss, S.let h e1 S.z (fun b u e => ?_) ss (fun a u e ne => ?_) (fun _ _ _ e => e) (fun q ne e => by rw [upd_ne ne]; exact e) rp, rp⟩
  · by_cases hb : b = p
    · subst hb; rw [upd_same] at e; cases e; exact e2
    · rw [upd_ne hb] at e; exact S.f _ _ e
  · have : a ≠ p := fun z => by subst z; rw [e4] at e; cases e
    rw [upd_ne this]; exact S.dj _ _ e ne
/-- a dict of its own is let go of: it is locked from now on -/
theorem SR.freezeD {pin : Addr} {Z : Hp} {ρ : En} {σ : Sg} {H Hf : Hp} {i : Nat} {ds : Ob} {io : Bool} (S : SR c pin Z ρ σ H Hf) (h : ρ[i]? = some (.ow io ds)) (nb : ∀ xs, ds ≠ .lst xs) :
    ∃ p u, σ[i]? = some (some (.ref p)) ∧ H p = some u ∧ Mut (some u) ∧ ∀ od, Same Hf (upd Hf p (.frz od u)) ∧ SR c pin Z (ρ.set i (.va ds.d)) σ (upd H p (.frz od u)) (upd Hf p (.frz od u)) ∧ Rep c (upd Hf p (.frz od u)) (.ref p) ds.d := by
  obtain ⟨p, u, e1, e2, e3, e4, r, pn⟩ := S.sl i _ h
  have mu : Mut (some u) := by
    cases ds <;> cases u <;> first | exact r.elim | exact absurd rfl (nb _) | trivial
  refine ⟨p, u, e1, e2, mu, fun od => ?_⟩
  have ss : Same Hf (upd Hf p (.frz od u)) := Same.new e3
  have rp : Rep c (upd Hf p (.frz od u)) (.ref p) ds.d := ((r.mono ss).repD nb upd_same).1
  refine ⟨ss, S.let h e1 (fun b o e => ?_) (fun b o e => ?_) ss (fun a o e ne => ?_) (fun q o ne e => by rw [upd_ne ne]; exact e) (fun q ne e => by rw [upd_ne ne]; exact e) rp, rp⟩
  · have : b ≠ p := fun z => by subst z; rw [e4] at e; cases e
    rw [upd_ne this]; exact S.z _ _ e
  · by_cases hb : b = p
    · subst hb; rw [upd_same] at e ⊢; exact e
    · rw [upd_ne hb] at e ⊢; exact S.f _ _ e
  · have : a ≠ p := fun z => by subst z; rw [e4] at e; cases e
    rw [upd_ne this]; exact S.dj _ _ e ne
/-- a value is read, and what stands there may be locked -/
def tFrz (t : TE) : TE := fun σ H Q => t σ H fun v H1 => Q v H1 ∨ ∃ p u, v = .ref p ∧ H1 p = some u ∧ Mut (some u) ∧ ∀ od, Q v (upd H1 p (.frz od u))
theorem pe_frz {e : Expr} {t : TE} (h : PE X e t) : PE X e (tFrz t) := by
  refine ⟨fun pins s σ H Q I q => ?_⟩
  refine thn (h.run pins s σ H _ I q) fun u s1 ⟨v, H1, I1, rv, q1⟩ => ?_
  rcases q1 with q1 | ⟨p, w, rfl, hp, mu, q1⟩
  · exact ⟨v, H1, I1, rv, q1⟩
  · obtain ⟨od, I2⟩ := I1.lock hp mu
    exact ⟨_, _, I2, rv, q1 od⟩
theorem s_var {i : Nat} {x : Str} (h : PE X (.Name x pos) (tVar i)) : PE X (.Name x pos) (tE c W fun ρ => rdV ρ i) :=
  pe_of (pe_frz h) fun σ H Q ⟨pin, Z, ρ, Hf, S, g⟩ => by
    simp only [rdV] at g
    split at g
    · rename_i d hd
      obtain ⟨v, e, r⟩ := S.sl i _ hd
      exact ⟨v, e, .inl (g v H Hf (Same.refl _) S r)⟩
    · rename_i ds hd
      cases ds with
      | lst xs =>
        obtain ⟨p, vs, e1, ss, S', r⟩ := S.freeze hd
        exact ⟨_, e1, .inl (g _ H _ ss S' r)⟩
      | dK ks xs =>
        obtain ⟨p, u, e1, e2, mu, f⟩ := S.freezeD hd (fun _ z => by cases z)
        exact ⟨_, e1, .inr ⟨p, u, rfl, e2, mu, fun od => g _ _ _ (f od).1 (f od).2.1 (f od).2.2⟩⟩
      | dT ks xs =>
        obtain ⟨p, u, e1, e2, mu, f⟩ := S.freezeD hd (fun _ z => by cases z)
        exact ⟨_, e1, .inr ⟨p, u, rfl, e2, mu, fun od => g _ _ _ (f od).1 (f od).2.1 (f od).2.2⟩⟩
    · exact g.elim
theorem s_varL {i : Nat} {x : Str} (h : PE X (.Name x pos) (tVar i)) : PE X (.Name x pos) (tL c W fun ρ => rdL ρ i) :=
  pe_of h fun σ H Q ⟨pin, Z, ρ, Hf, S, g⟩ => by
    simp only [rdL] at g
    split at g
    · rename_i d hd
      obtain ⟨v, e, r⟩ := S.sl i _ hd
      exact ⟨v, e, g v H Hf (Same.refl _) S (.inl r)⟩
    · rename_i io ds hd
      obtain ⟨p, vs, e1, e2, e3, e4, r, pn⟩ := S.sl i _ hd
      exact ⟨_, e1, g _ H Hf (Same.refl _) S (.inr ⟨p, vs, _, rfl, rfl, e2, r⟩)⟩
    · exact g.elim
/-- a value that is held is a value that is looked at -/
theorem s_toL {e : Expr} {f : En → R D} (h : PE X e (tE c W f)) : PE X e (tL c W f) :=
  pe_of h fun σ H Q ⟨pin, Z, ρ, Hf, S, g⟩ => ⟨pin, Z, ρ, Hf, S, by
    cases hf : f ρ with
    | ok a ρ' => rw [hf] at g; exact fun b H' Hf' s' S' r => g b H' Hf' s' S' (.inl r)
    | err x ρ' => rw [hf] at g; exact g
    | bad => rw [hf] at g; exact g⟩
end
end Ev

end
section
set_option maxHeartbeats 2000000
namespace Ev
open PySem PySem.Spec PyProof.Rows L2

/-! ### comparisons -/
def ints? : List D → Option (List Int)
  | [] => some []
  | .int i :: r => (ints? r).map (i :: ·)
  | _ => none
def inD (x : D) (ys : List D) : Option Bool := if shp 60 x = true ∧ ys.all (shp 60) = true then some (ys.any fun y => eqD y x) else none
def inAny (x : D) : D → Option Bool
  | .lst ys => inD x ys
  | .tup ys => inD x ys
  | .str j => match x with
    | .str i => some (!(Builtin.Str.occurrences j i 0 j.length 1).isEmpty)
    | _ => none
  | _ => none
def isD : D → D → Option Bool
  | x, .non => some (match x with | .non => true | _ => false)
  | .bl a, .bl b => some (a == b)
  | _, _ => none
def cmpD : CmpOp → D → D → Option Bool
  | .Eq, x, y => if shp 60 x = true ∧ shp 60 y = true then some (eqD x y) else none
  | .NotEq, x, y => if shp 60 x = true ∧ shp 60 y = true then some (!eqD x y) else none
  | .Lt, .int i, .int j => some (decide (i < j))
  | .LtE, .int i, .int j => some (decide (i ≤ j))
  | .Gt, .int i, .int j => some (decide (j < i))
  | .GtE, .int i, .int j => some (decide (j ≤ i))
  | .Lt, .str i, .str j => some (decide (i.cps.toList < j.cps.toList))
  | .LtE, .str i, .str j => some (!decide (j.cps.toList < i.cps.toList))
  | .Gt, .str i, .str j => some (decide (j.cps.toList < i.cps.toList))
  | .GtE, .str i, .str j => some (!decide (i.cps.toList < j.cps.toList))
  | .LtE, .tup xs, .tup ys => match ints? xs, ints? ys with
    | some ns, some ms => some (Ob.lexAt (fun j => decide (ns.getD j 0 = ms.getD j 0)) (fun j => decide (ns.getD j 0 ≤ ms.getD j 0)) (decide (ns.length ≤ ms.length)) 0 (min ns.length ms.length))
    | _, _ => none
  | .Lt, .tup xs, .tup ys => match ints? xs, ints? ys with
    | some ns, some ms => some (HT.lexLt ns ms)
    | _, _ => none
  | .Is, x, y => isD x y
  | .IsNot, x, y => (isD x y).map (!·)
  | .In, x, y => inAny x y
  | .NotIn, x, y => (inAny x y).map (!·)
  | _, _, _ => none

theorem no_some {α : Type} {p : Prop} {k : α} (h : (none : Option α) = some k) : p := nomatch h
section
variable {X : Cx} {c : Cn} {W : WX} {a b : Expr} {pos : Pos} {fa fb : En → R D}
theorem ints_reps {H : Hp} : ∀ {vs : List V} {ds : List D} {ns : List Int}, Reps c H vs ds → ints? ds = some ns → vs = ns.map V.int
  | _, _, _, .nil, e => by cases e; rfl
  | _, d :: ds, ns, .cons h r, e => by
    cases d with
    | int i =>
      simp only [ints?, Option.map_eq_some_iff] at e
      obtain ⟨ms, e1, rfl⟩ := e
      cases h
      rw [ints_reps r e1, List.map_cons]
    | _ => simp [ints?] at e
open Classical in
theorem op_inX {neg : Bool} (hK : X.K = c.K) (hu : X.A.units + 65 < cLine) : OpR X (compareOp (if neg then .NotIn else .In)) (fun x y H Q => ∃ d ds, Rep c H x d ∧ (Rep c H y (.lst ds) ∨ Rep c H y (.tup ds)) ∧ shp 60 d = true ∧ ds.all (shp 60) = true ∧
    Q (.bl (if neg then !(ds.any fun z => eqD z d) else ds.any fun z => eqD z d)) H) := by
  intro pins s σ H x y v u Q I rx ry h
  obtain ⟨d, ds, hd, hq, sd, ss, q⟩ := h
  have rdx := Rep.rd hK I d x v 60 sd hd rx
  let f : Value → Bool := fun w => if h : ∃ e, RdD s.heap w e ∧ shp 60 e = true then eqD h.choose d else false
  have fe : ∀ w e, RdD s.heap w e → shp 60 e = true → f w = eqD e d := fun w e r z => by
    have h : ∃ e, RdD s.heap w e ∧ shp 60 e = true := ⟨e, r, z⟩
    show (if h : ∃ e, RdD s.heap w e ∧ shp 60 e = true then eqD h.choose d else false) = _
    rw [dif_pos h, RdD.fun h.choose_spec.1 r]
  have fat : ∀ (us : List Value) (es : List D), RdDs s.heap us es → es.all (shp 60) = true → ∀ w ∈ us, SeqAt.EqAt X.A.in1 s w v (f w) := by
    intro us
    induction us with
    | nil => intro _ _ _ w hw; cases hw
    | cons w us ih =>
      intro es r z w' hw
      cases r with
      | cons r1 r2 =>
        rw [List.all_cons, Bool.and_eq_true] at z
        rcases List.mem_cons.mp hw with rfl | hw
        · rw [fe _ _ r1 z.1]
          exact eqAtD 60 _ _ X.A.in1 s _ _ r1 rdx z.1 sd (show X.A.units + 1 + 60 < cLine by omega)
        · exact ih _ r2 z.2 w' hw
  have fany : ∀ (us : List Value) (es : List D), RdDs s.heap us es → es.all (shp 60) = true → us.any f = es.any fun z => eqD z d := by
    intro us
    induction us with
    | nil => intro es r _; cases r; rfl
    | cons w us ih =>
      intro es r z
      cases r with
      | cons r1 r2 =>
        rw [List.all_cons, Bool.and_eq_true] at z
        rw [List.any_cons, List.any_cons, fe _ _ r1 z.1, ih _ r2 z.2]
  rcases hq with hq | hq
  · cases hq with
    | lst hp rs =>
      cases ry
      obtain ⟨its, r, pl, hz⟩ := I.list (SqL.of hp)
      have rds := Reps.rd hK I ds _ its 60 ss rs r
      cases neg with
      | false => exact SeqAt.in_listAt f pl.isList (fun w hw => fat its ds rds ss w (by simpa using hw)) ⟨.bl _, H, I, rfl, by rw [show its.toArray.any f = its.any f by simp, fany its ds rds ss]; exact q⟩
      | true => exact SeqAt.notIn_listAt f pl.isList (fun w hw => fat its ds rds ss w (by simpa using hw)) ⟨.bl _, H, I, rfl, by rw [show its.toArray.any f = its.any f by simp, fany its ds rds ss]; exact q⟩
  · cases hq with
    | tup hp rs =>
      cases ry
      obtain ⟨its, r, pl, hz⟩ := I.tuple (SqT.of hp)
      have rds := Reps.rd hK I ds _ its 60 ss rs r
      cases neg with
      | false => exact SeqAt.in_tupleAt f pl (fun w hw => fat its ds rds ss w (by simpa using hw)) ⟨.bl _, H, I, rfl, by rw [show its.toArray.any f = its.any f by simp, fany its ds rds ss]; exact q⟩
      | true => exact SeqAt.notIn_tupleAt f pl (fun w hw => fat its ds rds ss w (by simpa using hw)) ⟨.bl _, H, I, rfl, by rw [show its.toArray.any f = its.any f by simp, fany its ds rds ss]; exact q⟩
theorem rep_non {H : Hp} {v : V} {d : D} (r : Rep c H v d) : decide (v = .non) = (match d with | .non => true | _ => false) := by
  cases r <;> simp
/-- two values that are looked at, a bool out -/
def rCp (c : Cn) (g : D → D → Option Bool) : R2 := fun x y H Q => ∃ d e k, Rep c H x d ∧ Rep c H y e ∧ g d e = some k ∧ Q (.bl k) H
theorem cpr (hK : X.K = c.K) (hu : X.A.units + 65 < cLine) (op : CmpOp) : OpR X (compareOp op) (rCp c (cmpD op)) := by
  intro pins s σ0 H x y v u Q I rx ry h
  obtain ⟨d, e, k, rd, re, g, q⟩ := h
  cases op with
  | Eq =>
    simp only [cmpD] at g
    split at g
    · rename_i z; cases g; exact op_eqX hK (by omega) pins s σ0 H x y v u Q I rx ry ⟨d, e, rd, re, z.1, z.2, q⟩
    · cases g
  | NotEq =>
    simp only [cmpD] at g
    split at g
    · rename_i z; cases g; exact op_neX hK (by omega) pins s σ0 H x y v u Q I rx ry ⟨d, e, rd, re, z.1, z.2, q⟩
    · cases g
  | Lt =>
    cases d <;> cases e <;> simp only [cmpD] at g <;> try exact no_some g
    · cases g; cases rd; cases re; exact op_lt pins s σ0 H _ _ v u Q I rx ry ⟨_, _, rfl, rfl, q⟩
    · cases g; cases rd; cases re; exact op_lt_str pins s σ0 H _ _ v u Q I rx ry ⟨_, _, rfl, rfl, q⟩
    · split at g
      · rename_i ns ms e1 e2
        cases g
        cases rd with
        | tup h1 r1 =>
          cases re with
          | tup h2 r2 =>
            rw [ints_reps r1 e1] at h1
            rw [ints_reps r2 e2] at h2
            exact op_ltT (by omega) pins s σ0 H _ _ v u Q I rx ry ⟨_, _, ns, ms, rfl, rfl, SqT.of h1, SqT.of h2, q⟩
      · cases g
  | LtE =>
    cases d <;> cases e <;> simp only [cmpD] at g <;> try exact no_some g
    · cases g; cases rd; cases re; exact op_le pins s σ0 H _ _ v u Q I rx ry ⟨_, _, rfl, rfl, q⟩
    · cases g; cases rd; cases re; exact op_le_str pins s σ0 H _ _ v u Q I rx ry ⟨_, _, rfl, rfl, q⟩
    · split at g
      · rename_i ns ms e1 e2
        cases g
        cases rd with
        | tup h1 r1 =>
          cases re with
          | tup h2 r2 =>
            rw [ints_reps r1 e1] at h1
            rw [ints_reps r2 e2] at h2
            exact op_leT (by omega) pins s σ0 H _ _ v u Q I rx ry ⟨_, _, ns, ms, rfl, rfl, SqT.of h1, SqT.of h2, q⟩
      · cases g
  | Gt =>
    cases d <;> cases e <;> simp only [cmpD] at g <;> try exact no_some g
    · cases g; cases rd; cases re; exact op_gt pins s σ0 H _ _ v u Q I rx ry ⟨_, _, rfl, rfl, q⟩
    · cases g; cases rd; cases re; exact op_gt_str pins s σ0 H _ _ v u Q I rx ry ⟨_, _, rfl, rfl, q⟩
  | GtE =>
    cases d <;> cases e <;> simp only [cmpD] at g <;> try exact no_some g
    · cases g; cases rd; cases re; exact op_ge pins s σ0 H _ _ v u Q I rx ry ⟨_, _, rfl, rfl, q⟩
    · cases g; cases rd; cases re; exact op_ge_str pins s σ0 H _ _ v u Q I rx ry ⟨_, _, rfl, rfl, q⟩
  | Is =>
    simp only [cmpD] at g
    cases e with
    | non =>
      cases re
      have hk : k = decide (x = .non) := by
        rw [rep_non rd]
        cases d <;> simp only [isD, Option.some.injEq] at g <;> exact g.symm
      subst hk
      exact op_isN pins s σ0 H _ _ v u Q I rx ry ⟨rfl, q⟩
    | bl b =>
      cases d <;> simp only [isD] at g <;> try exact no_some g
      cases g; cases rd; cases re
      exact op_isBl pins s σ0 H _ _ v u Q I rx ry ⟨_, _, rfl, rfl, by rw [← Bool.beq_eq_decide_eq]; exact q⟩
    | _ => cases d <;> simp [isD] at g
  | IsNot =>
    simp only [cmpD, Option.map_eq_some_iff] at g
    obtain ⟨k', g, rfl⟩ := g
    cases e with
    | non =>
      cases re
      have hk : k' = decide (x = .non) := by
        rw [rep_non rd]
        cases d <;> simp only [isD, Option.some.injEq] at g <;> exact g.symm
      subst hk
      exact op_notN pins s σ0 H _ _ v u Q I rx ry ⟨rfl, q⟩
    | bl b =>
      cases d <;> simp only [isD] at g <;> try exact no_some g
      cases g; cases rd; cases re
      exact op_notBl pins s σ0 H _ _ v u Q I rx ry ⟨_, _, rfl, rfl, by rw [← Bool.beq_eq_decide_eq]; exact q⟩
    | _ => cases d <;> simp [isD] at g
  | In =>
    simp only [cmpD] at g
    cases e with
    | lst ys =>
      simp only [inAny, inD] at g
      split at g
      · rename_i z; cases g
        exact op_inX (neg := false) hK hu pins s σ0 H x y v u Q I rx ry ⟨d, ys, rd, .inl re, z.1, z.2, q⟩
      · cases g
    | tup ys =>
      simp only [inAny, inD] at g
      split at g
      · rename_i z; cases g
        exact op_inX (neg := false) hK hu pins s σ0 H x y v u Q I rx ry ⟨d, ys, rd, .inr re, z.1, z.2, q⟩
      · cases g
    | str j =>
      cases d <;> simp only [inAny] at g <;> try exact no_some g
      cases g; cases rd; cases re
      exact op_in_str pins s σ0 H _ _ v u Q I rx ry ⟨_, _, rfl, rfl, q⟩
    | _ => simp [inAny] at g
  | NotIn =>
    simp only [cmpD, Option.map_eq_some_iff] at g
    obtain ⟨k', g, rfl⟩ := g
    cases e with
    | lst ys =>
      simp only [inAny, inD] at g
      split at g
      · rename_i z; cases g
        exact op_inX (neg := true) hK hu pins s σ0 H x y v u Q I rx ry ⟨d, ys, rd, .inl re, z.1, z.2, q⟩
      · cases g
    | tup ys =>
      simp only [inAny, inD] at g
      split at g
      · rename_i z; cases g
        exact op_inX (neg := true) hK hu pins s σ0 H x y v u Q I rx ry ⟨d, ys, rd, .inr re, z.1, z.2, q⟩
      · cases g
    | str j =>
      cases d <;> simp only [inAny] at g <;> try exact no_some g
      cases g; cases rd; cases re
      exact op_notin_str pins s σ0 H _ _ v u Q I rx ry ⟨_, _, rfl, rfl, q⟩
    | _ => simp [inAny] at g

def liftB : Option Bool → En → R D
  | some k, ρ => .ok (.bl k) ρ
  | none, _ => .bad
@[simp] theorem liftB_some (k : Bool) (ρ : En) : liftB (some k) ρ = .ok (.bl k) ρ := rfl
@[simp] theorem liftB_none (ρ : En) : liftB none ρ = .bad := rfl
theorem twoC {g : D → D → Option Bool} {σ : Sg} {H : Hp} {Q : VK} {rr : R2} (hr : ∀ x y H2, rCp c g x y H2 Q → rr x y H2 Q)
    (h : tE c W (fun ρ => (fa ρ).bind fun x ρ1 => (fb ρ1).bind fun y ρ2 => liftB (g x y) ρ2) σ H Q) : tE c W fa σ H fun x H1 => tE c W fb σ H1 fun y H2 => rr x y H2 Q := by
  refine tG.seq h fun pin Z d ρ1 x H1 Hf1 S1 r1 h1 => ?_
  refine ⟨pin, Z, ρ1, Hf1, S1, Go.seq h1 fun e ρ2 y H2 Hf2 s2 S2 r2 h2 => ?_⟩
  refine hr _ _ _ ?_
  cases hg : g d e with
  | none => rw [hg] at h2; exact h2.elim
  | some z =>
    rw [hg] at h2
    exact ⟨d, e, z, (r1.mono s2).mono S2.f, r2.mono S2.f, hg, h2 _ _ _ (Same.refl _) S2 (.bl z)⟩
/-- the marks behind «in» are for displays of sets alone -/
def isSet : Expr → Bool
  | .Set .. => true
  | _ => false
theorem noMark {op : CmpOp} {b : Expr} (h : isSet b = false) : behindInMarks op b = false := by
  cases b <;> first | rfl | cases h
theorem s_cmp {op : CmpOp} (hK : X.K = c.K) (hu : X.A.units + 65 < cLine) (ns : isSet b = false) (ha : PE X a (tE c W fa)) (hb : PE X b (tE c W fb)) :
    PE X (.Compare a [op] [b] pos) (tE c W fun ρ => (fa ρ).bind fun x ρ1 => (fb ρ1).bind fun y ρ2 => liftB (cmpD op x y) ρ2) :=
  pe_of (pe_cmpR (cpr hK hu op) ha hb (noMark ns)) fun _ _ _ h => twoC (fun _ _ _ z => z) h
def boolOf (d : D) (ρ : En) : R Bool :=
  match d with
  | .bl k => .ok k ρ
  | _ => .bad
theorem s_cmpT {op : CmpOp} (hK : X.K = c.K) (hu : X.A.units + 65 < cLine) (ns : isSet b = false) (ha : PE X a (tE c W fa)) (hb : PE X b (tE c W fb)) :
    PT X (.Compare a [op] [b] pos) (tT c W fun ρ => ((fa ρ).bind fun x ρ1 => (fb ρ1).bind fun y ρ2 => liftB (cmpD op x y) ρ2).bind boolOf) := by
  refine pt_of (pt_cmpR (cpr hK hu op) ha hb (noMark ns)) fun σ H Q h => ?_
  refine twoC (fun _ _ _ z => z) (Q := fun x H' => ∃ k, x = .bl k ∧ Q k H') ?_
  refine tG.seq h fun pin Z d ρ1 x H1 Hf1 S1 r1 h1 => ?_
  cases d <;> try exact h1.elim
  cases r1
  exact ⟨_, rfl, h1 _ _ _ (Same.refl _) S1 rfl⟩
/-- a op b op' c -/
theorem chainC {e : Expr} {fc : En → R D} {g g' : D → D → Option Bool} {σ : Sg} {H : Hp} {Q : VK} {rr rr' : R2} (hr : ∀ x y H2 Q, rCp c g x y H2 Q → rr x y H2 Q) (hr' : ∀ x y H2 Q, rCp c g' x y H2 Q → rr' x y H2 Q)
    (h : tE c W (fun ρ => (fa ρ).bind fun x ρ1 => (fb ρ1).bind fun y ρ2 => (liftB (g x y) ρ2).bind fun k ρ3 => match k with | .bl true => (fc ρ3).bind fun z ρ4 => liftB (g' y z) ρ4 | _ => .ok (.bl false) ρ3) σ H Q) :
    tChain rr rr' (tE c W fa) (tE c W fb) (tE c W fc) σ H Q := by
  refine tG.seq h fun pin Z d ρ1 x H1 Hf1 S1 r1 h1 => ?_
  refine ⟨pin, Z, ρ1, Hf1, S1, Go.seq h1 fun e ρ2 y H2 Hf2 s2 S2 r2 h2 => ?_⟩
  cases hg : g d e with
  | none => rw [hg] at h2; exact h2.elim
  | some k =>
    rw [hg] at h2
    refine hr _ _ _ _ ⟨d, e, k, (r1.mono s2).mono S2.f, r2.mono S2.f, hg, k, rfl, ?_⟩
    cases k with
    | false => exact iteF (h2 _ _ _ (Same.refl _) S2 (.bl false))
    | true =>
      refine iteT ⟨pin, Z, ρ2, Hf2, S2, Go.seq (r := fc ρ2) h2 fun z ρ3 w H3 Hf3 s3 S3 r3 h3 => ?_⟩
      cases hg' : g' e z with
      | none => rw [hg'] at h3; exact h3.elim
      | some k' =>
        rw [hg'] at h3
        exact hr' _ _ _ _ ⟨e, z, k', (r2.mono s3).mono S3.f, r3.mono S3.f, hg', h3 _ _ _ (Same.refl _) S3 (.bl k')⟩
theorem noLast {op op' : CmpOp} {b c : Expr} (h : isSet c = false) : lastMarks [op, op'] [b, c] = false := noMark (op := op') h
theorem s_chain {e : Expr} {fc : En → R D} {op op' : CmpOp} (hK : X.K = c.K) (hu : X.A.units + 65 < cLine) (ns : isSet e = false) (ha : PE X a (tE c W fa)) (hb : PE X b (tE c W fb)) (he : PE X e (tE c W fc)) :
    PE X (.Compare a [op, op'] [b, e] pos) (tE c W (fun ρ => (fa ρ).bind fun x ρ1 => (fb ρ1).bind fun y ρ2 => (liftB (cmpD op x y) ρ2).bind fun k ρ3 => match k with | .bl true => (fc ρ3).bind fun z ρ4 => liftB (cmpD op' y z) ρ4 | _ => .ok (.bl false) ρ3)) :=
  pe_of (pe_chain (cpr hK hu op) (cpr hK hu op') ha hb he (noLast ns)) fun _ _ _ h => chainC (e := e) (fun _ _ _ _ z => z) (fun _ _ _ _ z => z) h
theorem s_chainT {e : Expr} {fc : En → R D} {op op' : CmpOp} (hK : X.K = c.K) (hu : X.A.units + 65 < cLine) (ns : isSet e = false) (ha : PE X a (tE c W fa)) (hb : PE X b (tE c W fb)) (he : PE X e (tE c W fc)) :
    PT X (.Compare a [op, op'] [b, e] pos) (tT c W (fun ρ => ((fa ρ).bind fun x ρ1 => (fb ρ1).bind fun y ρ2 => (liftB (cmpD op x y) ρ2).bind fun k ρ3 => match k with | .bl true => (fc ρ3).bind fun z ρ4 => liftB (cmpD op' y z) ρ4 | _ => .ok (.bl false) ρ3).bind boolOf)) := by
  refine pt_of (pt_chain (cpr hK hu op) (cpr hK hu op') ha hb he (noLast ns)) fun σ H Q h => ?_
  refine chainC (e := e) (fun _ _ _ _ z => z) (fun _ _ _ _ z => z) (Q := fun x H' => ∃ k, x = .bl k ∧ Q k H') ?_
  refine tG.seq h fun pin Z d ρ1 x H1 Hf1 S1 r1 h1 => ?_
  cases d <;> try exact h1.elim
  cases r1
  exact ⟨_, rfl, h1 _ _ _ (Same.refl _) S1 rfl⟩

/-! ### truth, and, or, not, if -/
def tru : D → Option Bool
  | .non => some false
  | .bl b => some b
  | .int i => some (i != 0)
  | .str x => if x.length ≤ LN then some ((x.length : Int) != 0) else none
  | .lst xs => some (!xs.isEmpty)
  | .tup xs => some (!xs.isEmpty)
  | _ => none
def truB (d : D) (ρ : En) : R Bool := R.lift (tru d) ρ
theorem emp_reps {H : Hp} {vs : List V} {ds : List D} (r : Reps c H vs ds) : ds.isEmpty = vs.isEmpty := by cases r <;> rfl
theorem tru_rep (hK : X.K = c.K) {H Hf : Hp} {v : V} {d : D} {k : Bool} (s : Same Hf H) (r : Rep c Hf v d ∨ ∃ p ho b, v = .ref p ∧ d = Ob.d b ∧ H p = some ho ∧ ObR c Hf ho b) (h : tru d = some k) : TruV X.K v H k := by
  rcases r with r | ⟨p, vs, b, rfl, rfl, e, r⟩
  · cases r with
    | dK => cases h
    | dT => cases h
    | non => cases h; rfl
    | bl b => cases h; rfl
    | int i => cases h; rfl
    | str x =>
      simp only [tru] at h
      split at h
      · rename_i z; cases h; exact ⟨by rw [LN_eq]; exact z, rfl⟩
      · cases h
    | tup hq r => cases h; exact .inr (.inl ⟨_, SqT.of (s _ _ hq), by rw [emp_reps r]⟩)
    | lst hq r => cases h; exact .inl ⟨_, SqL.of (s _ _ hq), by rw [emp_reps r]⟩
    | fn k => cases h
    | scr hq => cases h
  · cases b with
    | lst xs =>
      obtain ⟨us, rfl, r⟩ := r.lst
      cases h
      exact .inl ⟨_, SqL.of e, by rw [emp_reps r]⟩
    | dK => cases h
    | dT => cases h
/-- an expression as a test, by its truth -/
theorem s_truth (hK : X.K = c.K) (he : ∀ whole, isTrue a X.env whole = (do let v ← whole; standAt a.pos; holding [v] (truthy v))) (ha : PE X a (tL c W fa)) : PT X a (tT c W fun ρ => (fa ρ).bind truB) := by
  refine pt_of (pt_truth ha he) fun σ H Q h => ?_
  refine tG.seq h fun pin Z d ρ1 x H1 Hf1 S1 r1 h1 => ?_
  unfold truB at h1
  cases ht : tru d with
  | none => rw [ht] at h1; exact h1.elim
  | some k => rw [ht] at h1; exact ⟨k, tru_rep hK S1.f r1 ht, h1 _ _ _ (Same.refl _) S1 rfl⟩
variable {ta tb : En → R Bool} {rest : List Expr}
theorem s_andT (ha : PT X a (tT c W ta)) (hb : PW X (.BoolOp .And (b :: rest) pos) (tT c W tb)) : PW X (.BoolOp .And (a :: b :: rest) pos) (tT c W fun ρ => (ta ρ).bind fun k ρ1 => if k = true then tb ρ1 else .ok false ρ1) := by
  refine ⟨fun wh pins s σ H Q I h => (pw_and ha hb).run wh pins s σ H Q I ?_⟩
  refine tG.seq h fun pin Z k ρ1 k' H1 Hf1 S1 r1 h1 => ?_
  cases r1
  cases k with
  | true => exact iteT ⟨pin, Z, ρ1, Hf1, S1, h1⟩
  | false => exact iteF (h1 _ _ _ (Same.refl _) S1 rfl)
theorem s_orT (ha : PT X a (tT c W ta)) (hb : PW X (.BoolOp .Or (b :: rest) pos) (tT c W tb)) : PW X (.BoolOp .Or (a :: b :: rest) pos) (tT c W fun ρ => (ta ρ).bind fun k ρ1 => if k = true then .ok true ρ1 else tb ρ1) := by
  refine ⟨fun wh pins s σ H Q I h => (pw_or ha hb).run wh pins s σ H Q I ?_⟩
  refine tG.seq h fun pin Z k ρ1 k' H1 Hf1 S1 r1 h1 => ?_
  cases r1
  cases k with
  | true => exact iteT (h1 _ _ _ (Same.refl _) S1 rfl)
  | false => exact iteF ⟨pin, Z, ρ1, Hf1, S1, h1⟩
theorem s_and1 (ha : PT X a (tT c W ta)) : PW X (.BoolOp .And [a] pos) (tT c W ta) := pw_and1 ha
theorem s_or1 (ha : PT X a (tT c W ta)) : PW X (.BoolOp .Or [a] pos) (tT c W ta) := pw_or1 ha
theorem s_notT (ha : PT X a (tT c W ta)) : PT X (.UnaryOp .Not a pos) (tT c W fun ρ => (ta ρ).bind fun k ρ1 => .ok (!k) ρ1) := by
  refine pt_of (pt_not ha) fun σ H Q h => ?_
  refine tG.seq h fun pin Z k ρ1 k' H1 Hf1 S1 r1 h1 => ?_
  cases r1
  exact h1 _ _ _ (Same.refl _) S1 rfl
/-- as values -/
def andV (f : En → R D) (d : D) (ρ : En) : R D :=
  match tru d with
  | some true => f ρ
  | some false => .ok d ρ
  | none => .bad
def orV (f : En → R D) (d : D) (ρ : En) : R D :=
  match tru d with
  | some true => .ok d ρ
  | some false => f ρ
  | none => .bad
theorem s_and (hK : X.K = c.K) (ha : PE X a (tE c W fa)) (hb : PE X (.BoolOp .And (b :: rest) pos) (tE c W fb)) : PE X (.BoolOp .And (a :: b :: rest) pos) (tE c W fun ρ => (fa ρ).bind (andV fb)) := by
  refine pe_of (pe_andT ha hb) fun σ H Q h => ?_
  refine tG.seq h fun pin Z d ρ1 x H1 Hf1 S1 r1 h1 => ?_
  unfold andV at h1
  cases ht : tru d with
  | none => rw [ht] at h1; exact h1.elim
  | some k =>
    rw [ht] at h1
    refine ⟨k, tru_rep hK S1.f (.inl r1) ht, ?_⟩
    cases k with
    | true => exact iteT ⟨pin, Z, ρ1, Hf1, S1, h1⟩
    | false => exact iteF (h1 _ _ _ (Same.refl _) S1 r1)
theorem s_or (hK : X.K = c.K) (ha : PE X a (tE c W fa)) (hb : PE X (.BoolOp .Or (b :: rest) pos) (tE c W fb)) : PE X (.BoolOp .Or (a :: b :: rest) pos) (tE c W fun ρ => (fa ρ).bind (orV fb)) := by
  refine pe_of (pe_orT ha hb) fun σ H Q h => ?_
  refine tG.seq h fun pin Z d ρ1 x H1 Hf1 S1 r1 h1 => ?_
  unfold orV at h1
  cases ht : tru d with
  | none => rw [ht] at h1; exact h1.elim
  | some k =>
    rw [ht] at h1
    refine ⟨k, tru_rep hK S1.f (.inl r1) ht, ?_⟩
    cases k with
    | true => exact iteT (h1 _ _ _ (Same.refl _) S1 r1)
    | false => exact iteF ⟨pin, Z, ρ1, Hf1, S1, h1⟩
def notV (d : D) : Option D := (tru d).map fun k => .bl (!k)
theorem s_not (hK : X.K = c.K) (ha : PE X a (tE c W fa)) : PE X (.UnaryOp .Not a pos) (tE c W fun ρ => (fa ρ).bind fun d ρ1 => R.lift (notV d) ρ1) := by
  refine pe_of (pe_notT ha) fun σ H Q h => ?_
  refine tG.seq h fun pin Z d ρ1 x H1 Hf1 S1 r1 h1 => ?_
  unfold notV at h1
  cases ht : tru d with
  | none => rw [ht] at h1; exact h1.elim
  | some k => rw [ht] at h1; exact ⟨k, tru_rep hK S1.f (.inl r1) ht, h1 _ _ _ (Same.refl _) S1 (.bl _)⟩
theorem s_ife {e : Expr} (hc : PT X e (tT c W ta)) (ha : PE X a (tE c W fa)) (hb : PE X b (tE c W fb)) : PE X (.IfExp e a b pos) (tE c W fun ρ => (ta ρ).bind fun k ρ1 => if k = true then fa ρ1 else fb ρ1) := by
  refine pe_of (pe_ifExp hc ha hb) fun σ H Q h => ?_
  refine tG.seq h fun pin Z k ρ1 k' H1 Hf1 S1 r1 h1 => ?_
  cases r1
  cases k with
  | true => exact iteT ⟨pin, Z, ρ1, Hf1, S1, h1⟩
  | false => exact iteF ⟨pin, Z, ρ1, Hf1, S1, h1⟩

/-! ### several values, displays -/
def noStar : Expr → Bool
  | .Starred .. => false
  | _ => true
theorem star_cons {e : Expr} {es : List Expr} {env : Env} (h : noStar e = true) : starEach (e :: es) env = (false, eval e env) :: starEach es env := by
  cases e <;> first | rfl | cases h
theorem s_nil : PA X [] (tA c W fun ρ => .ok [] ρ) := pa_of pa_nil fun σ H Q ⟨pin, Z, ρ, Hf, S, g⟩ => g _ _ _ (Same.refl _) S .nil
theorem s_cons {es : List Expr} {fs : En → R (List D)} (h : noStar a = true) (ha : PE X a (tE c W fa)) (hs : PA X es (tA c W fs)) :
    PA X (a :: es) (tA c W fun ρ => (fa ρ).bind fun x ρ1 => (fs ρ1).bind fun xs ρ2 => .ok (x :: xs) ρ2) := by
  refine pa_of (pa_cons ha hs (star_cons h)) fun σ H Q h => ?_
  refine tG.seq h fun pin Z d ρ1 x H1 Hf1 S1 r1 h1 => ?_
  refine ⟨pin, Z, ρ1, Hf1, S1, Go.seq h1 fun ds ρ2 xs H2 Hf2 s2 S2 r2 h2 => ?_⟩
  exact h2 _ _ _ (Same.refl _) S2 (.cons (r1.mono s2) r2)
theorem s_tup {es : List Expr} {fs : En → R (List D)} {k : Nat} (hl : ∀ ρ ds ρ', fs ρ = .ok ds ρ' → ds.length ≤ LN) (hs : PA X es (tA c W fs)) : PE X (.Tuple es k pos) (tE c W fun ρ => (fs ρ).bind fun xs ρ1 => .ok (.tup xs) ρ1) := by
  refine pe_of (pe_tup hs) fun σ H Q ⟨pin, Z, ρ, Hf, S, g⟩ => ⟨pin, Z, ρ, Hf, S, ?_⟩
  dsimp only at g
  cases hf : fs ρ with
  | ok ds ρ1 =>
    rw [hf] at g
    intro vs H1 Hf1 s1 S1 r1
    refine ⟨by rw [LN_eq, Reps.length r1]; exact hl _ _ _ hf, fun p hp => ?_⟩
    obtain ⟨S', s'⟩ := S1.newS hp
    exact g _ _ _ (s1.trans s') S' (Rep.newT s' r1)
  | err x ρ1 => rw [hf] at g; exact g
  | bad => rw [hf] at g; exact g
/-- a new list of the values -/
theorem s_lst {es : List Expr} {fs : En → R (List D)} (hl : ∀ ρ ds ρ', fs ρ = .ok ds ρ' → ds.length ≤ LN) (hs : PA X es (tA c W fs)) : PE X (.List es pos) (tF c W fs) := by
  refine pe_of (pe_lst hs) fun σ H Q ⟨pin, Z, ρ, Hf, S, g⟩ => ⟨pin, Z, ρ, Hf, S, ?_⟩
  cases hf : fs ρ with
  | ok ds ρ1 =>
    rw [hf] at g
    intro vs H1 Hf1 s1 S1 r1
    refine ⟨by rw [LN_eq, Reps.length r1]; exact hl _ _ _ hf, fun p hp => ?_⟩
    exact g _ _ Hf1 s1 (S1.new hp) ⟨p, vs, rfl, upd_same, S1.f.free hp, S1.z.free hp, S1.away_new hp, r1⟩
  | err x ρ1 => rw [hf] at g; exact g
  | bad => rw [hf] at g; exact g
/-- a new list as a value -/
theorem s_fr {f : En → R (List D)} (h : PE X a (tF c W f)) : PE X a (tE c W fun ρ => (f ρ).bind fun ds ρ1 => .ok (.lst ds) ρ1) := by
  refine pe_of h fun σ H Q ⟨pin, Z, ρ, Hf, S, g⟩ => ⟨pin, Z, ρ, Hf, S, ?_⟩
  dsimp only at g
  cases hf : f ρ with
  | ok ds ρ1 =>
    rw [hf] at g
    intro v H1 Hf1 s1 S1 ⟨p, vs, e1, e2, e3, e4, aw, r⟩
    subst e1
    obtain ⟨S', s'⟩ := S1.speak e2 e3 e4 aw
    exact g _ _ _ (s1.trans s') S' (Rep.newL s' r)
  | err x ρ1 => rw [hf] at g; exact g
  | bad => rw [hf] at g; exact g
end
end Ev

end
section
set_option maxHeartbeats 2000000
namespace Ev
open PySem PySem.Spec PyProof.Rows L2

/-! ### dicts: what stands at a key -/
def keyD : D → Option Key
  | .int i => some (.inl i)
  | .str x => some (.inr x)
  | _ => none
def keysD : List D → Option (List Key)
  | [] => some []
  | d :: ds => (keyD d).bind fun k => (keysD ds).map (k :: ·)
def keyT : D → Option (List Key)
  | .tup ds => keysD ds
  | _ => none
def lkp {κ : Type} [DecidableEq κ] : List κ → List D → κ → Option D
  | k :: ks, x :: xs, j => if k = j then some x else lkp ks xs j
  | _, _, _ => none
/-- a dict, a key that it may have: what stands there -/
def dgD : D → D → Option (Option D)
  | .dK ks xs, k => (keyD k).map (lkp ks xs)
  | .dT ks xs, k => (keyT k).map (lkp ks xs)
  | _, _ => none
section
variable {X : Cx} {c : Cn}
theorem key_rep {H : Hp} {y : V} {e : D} {k : Key} (r : Rep c H y e) (g : keyD e = some k) : y = kV k := by
  cases e <;> first | (cases g; cases r; rfl) | cases g
theorem keys_rep {H : Hp} : ∀ {vs : List V} {ds : List D} {ks : List Key}, Reps c H vs ds → keysD ds = some ks → vs = ks.map kV
  | _, _, _, .nil, g => by cases g; rfl
  | _, d :: ds, ks, .cons r rs, g => by
    simp only [keysD, Option.bind_eq_some_iff, Option.map_eq_some_iff] at g
    obtain ⟨k, g1, ks', g2, rfl⟩ := g
    rw [key_rep r g1, keys_rep rs g2]
    rfl
/-- what is found, side by side -/
def RepO (c : Cn) (H : Hp) : Option V → Option D → Prop
  | some v, some d => Rep c H v d
  | none, none => True
  | _, _ => False
theorem lkp_rep {κ : Type} [DecidableEq κ] {H : Hp} (k : κ) : ∀ {kvs : List (κ × V)} {xs : List D}, Reps c H (kvs.map (·.2)) xs → RepO c H (valV kvs k) (lkp (kvs.map (·.1)) xs k)
  | [], _, .nil => trivial
  | p :: kvs, x :: xs, .cons r rs => by
    show RepO c H _ (if p.1 = k then some x else lkp (kvs.map (·.1)) xs k)
    by_cases e : p.1 = k
    · rw [valV_pos e, if_pos e]; exact r
    · rw [valV_neg e, if_neg e]; exact lkp_rep k rs
theorem dget_of {H Hf : Hp} {x y : V} {d e : D} {o : Option D} (s : Same Hf H) (rd : relL c (fun _ => none) [] [] Hf H x d) (re : Rep c Hf y e) (g : dgD d e = some o) : ∃ a ov, x = .ref a ∧ DGet H a y ov ∧ RepO c Hf ov o := by
  have goK : ∀ {a : Addr} {kvs : List (Key × V)} {ks : List Key} {xs : List D}, Rd H a (.dK kvs) → kvs.map (·.1) = ks → Reps c Hf (kvs.map (·.2)) xs → dgD (.dK ks xs) e = some o → ∃ ov, DGet H a y ov ∧ RepO c Hf ov o := by
    rintro a kvs ks xs rd rfl r g
    simp only [dgD, Option.map_eq_some_iff] at g
    obtain ⟨k, g1, rfl⟩ := g
    exact ⟨_, .inl ⟨kvs, k, rd, key_rep re g1, rfl⟩, lkp_rep k r⟩
  have goT : ∀ {a : Addr} {kvs : List (List Key × V)} {ks : List (List Key)} {xs : List D}, Rd H a (.dT kvs) → kvs.map (·.1) = ks → Reps c Hf (kvs.map (·.2)) xs → dgD (.dT ks xs) e = some o → ∃ ov, DGet H a y ov ∧ RepO c Hf ov o := by
    rintro a kvs ks xs rd rfl r g
    simp only [dgD, Option.map_eq_some_iff] at g
    obtain ⟨k, g1, rfl⟩ := g
    cases e <;> try (cases g1; done)
    cases re with
    | tup hb rb => exact ⟨_, .inr ⟨kvs, k, _, rd, rfl, by rw [← keys_rep rb g1]; exact s _ _ hb, rfl⟩, lkp_rep k r⟩
  rcases rd with rd | ⟨p, ho, b, rfl, rfl, hp, r⟩
  · cases rd with
    | dK h r => obtain ⟨ov, q⟩ := goK (.inr ⟨_, s _ _ h⟩) rfl r g; exact ⟨_, ov, rfl, q⟩
    | dT h r => obtain ⟨ov, q⟩ := goT (.inr ⟨_, s _ _ h⟩) rfl r g; exact ⟨_, ov, rfl, q⟩
    | _ => cases g
  · cases b <;> cases ho <;> first | exact r.elim | (cases g; done) | (obtain ⟨ov, q⟩ := goK (.inl hp) r.1 r.2 g; exact ⟨_, ov, rfl, q⟩) | (obtain ⟨ov, q⟩ := goT (.inl hp) r.1 r.2 g; exact ⟨_, ov, rfl, q⟩)
/-- d[k] as a subscript by values -/
def rDG : R2 := fun x y H Q => ∃ a v, x = .ref a ∧ DGet H a y (some v) ∧ Q v H
theorem tail_of {pr : Program} {wd : World} {ar : Around} {wish : Value → Shared → Prop} {s0 : Shared} {ve se : Expr} {ov iv : Value} {tn bi : String} {post : Value → Shared → Prop} (ht : s0.TypeIs ov tn) (lk : typeLookup (.type tn) "__getitem__" = pure (some (.builtin bi)))
    (hs : subscripted se false ov iv = operate [ov, iv] (getItem ov iv)) (go : wpAny (model pr wd) ar (getItem ov iv) post wish s0) : wpAny (model pr wd) ar (subscriptTail ve se ov iv) post wish s0 := by
  have last : wpAny (model pr wd) ar (subscripted se false ov iv) (fun got st => wpAny (model pr wd) ar (letTemporaryGo ve ov got >>= fun _ => pure got) post wish st) wish s0 := by
    rw [hs]
    refine wpAny_operating (wpAny_mono go (fun got st ok => ?_) fun _ _ z => z)
    exact wpAny_bind (wpAny_letTemporaryGo (wpAny_pure ok))
  unfold subscriptTail
  refine wpAny_bind ?_
  rw [getitemInPython_of_ne ht.not_modules]
  refine wpAny_bind (wpAny_specialOf ht lk ?_)
  first | exact wpAny_pure (wpAny_bind last) | exact wpAny_bind (wpAny_pure (wpAny_bind last)) | exact wpAny_bind last
theorem ix_dict (hu : X.A.units + 1 < cLine) : IxR X rDG := by
  rintro value slice pins s σ H x y v u Q I rx ry ⟨a, w, rfl, g, q⟩ hs
  obtain rfl : v = Value.ref a := rx
  exact tail_of (dict_typeIs I g) PySem.F.slot_dict_getitem.lookup hs (d_getItem hu I g ry fun w' s3 I3 rw' => ⟨w, H, I3, rw', q⟩)
end
/-! ### subscripts -/
def ixD : D → D → Option D
  | .dK ks xs, k => (keyD k).bind (lkp ks xs)
  | .dT ks xs, k => (keyT k).bind (lkp ks xs)
  | .lst xs, .int i => atI xs i
  | .tup xs, .int i => atI xs i
  | .scr ns, .int i => (atI ns i).map .int
  | .str z, .int i => if z.length ≤ LN then (atI z.cps.toList i).map fun k => .str ⟨#[k]⟩ else none
  | _, _ => none
section
variable {X : Cx} {c : Cn} {W : WX} {a b : Expr} {pos : Pos} {fa fb : En → R D}
theorem ixN_lt {n : Nat} {i : Int} {j : Nat} (h : ixN n i = some j) : j < n := (ixN_seq h).2.1
theorem atI_reps {H : Hp} {vs : List V} {ds : List D} {i : Int} {d : D} (r : Reps c H vs ds) (h : atI ds i = some d) : ∃ v, atI vs i = some v ∧ Rep c H v d := by
  unfold atI at h ⊢
  rw [r.length]
  cases e : ixN ds.length i with
  | none => rw [e] at h; cases h
  | some j =>
    rw [e] at h
    obtain ⟨v, e1, r1⟩ := r.get (show ds[j]? = some d from h)
    exact ⟨v, e1, r1⟩
theorem atI_map {α β : Type} (f : α → β) (xs : List α) (i : Int) : atI (xs.map f) i = (atI xs i).map f := by
  unfold atI
  rw [List.length_map]
  cases ixN xs.length i with
  | none => rfl
  | some j => show (xs.map f)[j]? = (xs[j]?).map f; rw [List.getElem?_map]
/-- a value that is looked at, an index -/
theorem ixr (hK : X.K = c.K) {H Hf : Hp} {x y : V} {d e z : D} {Q : VK} (s : Same Hf H) (rd : relL c (fun _ => none) [] [] Hf H x d) (re : Rep c Hf y e) (g : ixD d e = some z) (q : ∀ v, Rep c Hf v z → Q v H) : rIx X.K x y H Q ∨ rDG x y H Q := by
  have dict : dgD d e = some (some z) → rIx X.K x y H Q ∨ rDG x y H Q := fun g => by
    obtain ⟨a, ov, rfl, dg, ro⟩ := dget_of s rd re g
    cases ov with
    | none => exact ro.elim
    | some v => exact .inr ⟨a, v, rfl, dg, q v ro⟩
  have dj : ∀ {o : Option (Option D)}, o.bind (fun z => z) = some z → o = some (some z) := fun {o} h => by
    cases o with
    | none => cases h
    | some o => cases o <;> cases h; rfl
  rcases rd with rd | ⟨p, vs, b, rfl, rfl, hp, r⟩
  · cases rd with
    | tup h r =>
      cases re <;> try exact no_some g
      obtain ⟨v, e1, r1⟩ := atI_reps r g
      exact .inl (.inr (.inl ⟨_, _, _, v, rfl, rfl, SqT.of (s _ _ h), e1, q v r1⟩))
    | lst h r =>
      cases re <;> try exact no_some g
      obtain ⟨v, e1, r1⟩ := atI_reps r g
      exact .inl (.inl ⟨_, _, _, v, rfl, rfl, SqL.of (s _ _ h), e1, q v r1⟩)
    | scr h =>
      cases re <;> try exact no_some g
      rename_i ns i
      simp only [ixD, Option.map_eq_some_iff] at g
      obtain ⟨n, e1, rfl⟩ := g
      exact .inl (.inl ⟨_, _, _, .int n, rfl, rfl, by rw [hK]; exact s.seq h, by rw [atI_map, e1]; rfl, q _ (.int n)⟩)
    | str zz =>
      cases re <;> try exact no_some g
      simp only [ixD] at g
      split at g
      · rename_i hz
        simp only [Option.map_eq_some_iff] at g
        obtain ⟨k, e1, rfl⟩ := g
        exact .inl (.inr (.inr ⟨_, _, k, rfl, rfl, by rw [LN_eq]; exact hz, e1, q _ (.str _)⟩))
      · cases g
    | dK h r => exact dict (by simp only [ixD, dgD, Option.bind_eq_some_iff] at g ⊢; obtain ⟨k, g1, g2⟩ := g; rw [g1, Option.map_some, g2])
    | dT h r => exact dict (by simp only [ixD, dgD, Option.bind_eq_some_iff] at g ⊢; obtain ⟨k, g1, g2⟩ := g; rw [g1, Option.map_some, g2])
    | _ => exact no_some g
  · cases b with
    | lst ds =>
      obtain ⟨us, rfl, r⟩ := r.lst
      cases re <;> try exact no_some g
      obtain ⟨v, e1, r1⟩ := atI_reps r g
      exact .inl (.inl ⟨_, _, _, v, rfl, rfl, SqL.of hp, e1, q v r1⟩)
    | dK ks xs => exact dict (by simp only [Ob.d, ixD, dgD, Option.bind_eq_some_iff] at g ⊢; obtain ⟨k, g1, g2⟩ := g; rw [g1, Option.map_some, g2])
    | dT ks xs => exact dict (by simp only [Ob.d, ixD, dgD, Option.bind_eq_some_iff] at g ⊢; obtain ⟨k, g1, g2⟩ := g; rw [g1, Option.map_some, g2])
/-! ### in -/
def isinD (neg : Bool) (d e : D) : Option Bool :=
  match dgD e d with
  | some o => some (neg != o.isSome)
  | none => cmpD (if neg = true then .NotIn else .In) d e
def rDI (c : Cn) (neg : Bool) : R2 := fun x y H Q => rCp c (cmpD (if neg = true then .NotIn else .In)) x y H Q ∨ ∃ a o, y = .ref a ∧ DGet H a x o ∧ Q (.bl (neg != o.isSome)) H
theorem in_opr (hK : X.K = c.K) (hu : X.A.units + 65 < cLine) (neg : Bool) : OpR X (compareOp (if neg = true then .NotIn else .In)) (rDI c neg) := by
  intro pins s σ H x y v u Q I rx ry h
  rcases h with h | ⟨a, o, rfl, g, q⟩
  · exact cpr hK hu _ pins s σ H x y v u Q I rx ry h
  · obtain rfl : u = Value.ref a := ry
    cases neg with
    | false => exact d_in (by omega) I g rx fun s' I' => ⟨.bl o.isSome, H, I', rfl, by simpa using q⟩
    | true => exact d_notIn (by omega) I g rx fun s' I' => ⟨.bl (!o.isSome), H, I', rfl, by simpa using q⟩
theorem in_reads {neg : Bool} {fl : En → R D} {σ : Sg} {H : Hp} {Q : VK} (h : tE c W (fun ρ => (fa ρ).bind fun x ρ1 => (fl ρ1).bind fun y ρ2 => liftB (isinD neg x y) ρ2) σ H Q) :
    tE c W fa σ H fun x H1 => tL c W fl σ H1 fun y H2 => rDI c neg x y H2 Q := by
  refine tG.seq h fun pin Z d ρ1 x H1 Hf1 S1 r1 h1 => ?_
  refine ⟨pin, Z, ρ1, Hf1, S1, Go.seq h1 fun e ρ2 y H2 Hf2 s2 S2 r2 h2 => ?_⟩
  have r1 := r1.mono s2
  cases hg : isinD neg d e with
  | none => rw [hg] at h2; exact h2.elim
  | some k =>
    rw [hg] at h2
    have q : Q (.bl k) H2 := h2 _ _ _ (Same.refl _) S2 (.bl k)
    unfold isinD at hg
    cases hd : dgD e d with
    | some o =>
      rw [hd] at hg
      cases hg
      obtain ⟨a, ov, rfl, dg, ro⟩ := dget_of S2.f r2 r1 hd
      refine .inr ⟨a, ov, rfl, dg, ?_⟩
      have : ov.isSome = o.isSome := by cases ov <;> cases o <;> first | rfl | exact ro.elim
      rw [this]; exact q
    | none =>
      rw [hd] at hg
      refine .inl ⟨d, e, k, r1.mono S2.f, ?_, hg, q⟩
      rcases r2 with r2 | ⟨p, ho, b, rfl, rfl, hp, r⟩
      · exact r2.mono S2.f
      · cases b with
        | lst xs => obtain ⟨us, rfl, r⟩ := r.lst; exact .lst hp (r.mono S2.f)
        | dK => cases neg <;> cases hg
        | dT => cases neg <;> cases hg
theorem s_isin {neg : Bool} {fl : En → R D} {op : CmpOp} (hop : op = if neg = true then .NotIn else .In) (hK : X.K = c.K) (hu : X.A.units + 65 < cLine) (ns : isSet b = false) (ha : PE X a (tE c W fa)) (hb : PE X b (tL c W fl)) :
    PE X (.Compare a [op] [b] pos) (tE c W fun ρ => (fa ρ).bind fun x ρ1 => (fl ρ1).bind fun y ρ2 => liftB (isinD neg x y) ρ2) := by
  subst hop
  exact pe_of (pe_cmpR (in_opr hK hu neg) ha hb (noMark ns)) fun _ _ _ h => in_reads h
theorem s_isinT {neg : Bool} {fl : En → R D} {op : CmpOp} (hop : op = if neg = true then .NotIn else .In) (hK : X.K = c.K) (hu : X.A.units + 65 < cLine) (ns : isSet b = false) (ha : PE X a (tE c W fa)) (hb : PE X b (tL c W fl)) :
    PT X (.Compare a [op] [b] pos) (tT c W fun ρ => ((fa ρ).bind fun x ρ1 => (fl ρ1).bind fun y ρ2 => liftB (isinD neg x y) ρ2).bind boolOf) := by
  subst hop
  refine pt_of (pt_cmpR (in_opr hK hu neg) ha hb (noMark ns)) fun σ H Q h => ?_
  refine in_reads (Q := fun x H' => ∃ k, x = .bl k ∧ Q k H') ?_
  refine tG.seq h fun pin Z d ρ1 x H1 Hf1 S1 r1 h1 => ?_
  cases d <;> try exact h1.elim
  cases r1
  exact ⟨_, rfl, h1 _ _ _ (Same.refl _) S1 rfl⟩
def plainSl : Expr → Bool
  | .Slice .. => false
  | _ => true
theorem plainIx {b : Expr} (h : plainSl b = true) : PlainIx b := by
  intro o i
  cases b <;> first | rfl | cases h
theorem s_ix (hK : X.K = c.K) (hu : X.A.units + 65 < cLine) (hp : plainSl b = true) (ha : PE X a (tE c W fa)) (hb : PE X b (tE c W fb)) :
    PE X (.Subscript a b pos) (tE c W fun ρ => (fa ρ).bind fun x ρ1 => (fb ρ1).bind fun k ρ2 => R.lift (ixD x k) ρ2) := by
  refine pe_of (pe_ix (ix_seq.or (ix_dict (by omega))) ha hb (plainIx hp)) fun σ H Q h => ?_
  refine two (g := ixD) (rr := fun x y H Q => rIx X.K x y H Q ∨ rDG x y H Q) (fun x y H2 z => ?_) h
  obtain ⟨pin, Z, ρ, σ, Hf, d, e, w, S, rd, re, g, q⟩ := z
  exact ixr hK S.f (.inl rd) re g fun v r => q v _ _ (Same.refl _) S r
theorem rdL_at {pin : Addr} {Z : Hp} {ρ ρ' : En} {σ : Sg} {H Hf : Hp} {i : Nat} {d : D} (S : SR c pin Z ρ σ H Hf) (h : rdL ρ i = .ok d ρ') : ρ' = ρ ∧ ∃ v, σ[i]? = some (some v) ∧ relL c Z ρ σ Hf H v d := by
  unfold rdL at h
  split at h
  · rename_i d' hd
    cases h
    obtain ⟨v, e, r⟩ := S.sl i _ hd
    exact ⟨rfl, v, e, .inl r⟩
  · rename_i io ds hd
    cases h
    obtain ⟨p, vs, e1, e2, e3, e4, r, pn⟩ := S.sl i _ hd
    exact ⟨rfl, _, e1, .inr ⟨p, vs, ds, rfl, rfl, e2, r⟩⟩
  · cases h
/-- x[e], x a name whose list may still grow -/
theorem s_ixV {i : Nat} {x : Str} {p : Pos} (hK : X.K = c.K) (hu : X.A.units + 65 < cLine) (hp : plainSl b = true) (h : PE X (.Name x p) (tVar i)) (hb : PE X b (tE c W fb)) :
    PE X (.Subscript (.Name x p) b pos) (tE c W fun ρ => (rdL ρ i).bind fun _ ρ0 => (fb ρ0).bind fun k ρ1 => (rdL ρ1 i).bind fun x ρ2 => R.lift (ixD x k) ρ2) := by
  refine pe_of (pe_ix (ix_seq.or (ix_dict (by omega))) h hb (plainIx hp)) fun σ H Q ⟨pin, Z, ρ, Hf, S, g⟩ => ?_
  dsimp only at g
  cases h0 : rdL ρ i with
  | err => unfold rdL at h0; split at h0 <;> cases h0
  | bad => rw [h0] at g; exact g.elim
  | ok d0 ρ0 =>
    rw [h0] at g
    obtain ⟨e0, v, ev, _⟩ := rdL_at S h0
    subst e0
    refine ⟨v, ev, pin, Z, ρ0, Hf, S, Go.seq g fun k ρ1 y H1 Hf1 s1 S1 r1 h1 => ?_⟩
    cases h2 : rdL ρ1 i with
    | err => unfold rdL at h2; split at h2 <;> cases h2
    | bad => rw [h2] at h1; exact h1.elim
    | ok d ρ2 =>
      rw [h2] at h1
      obtain ⟨e2, v', ev', rl⟩ := rdL_at S1 h2
      subst e2
      rw [ev] at ev'
      cases ev'
      cases hg : ixD d k with
      | none => simp only [R.bind, hg] at h1; exact h1.elim
      | some z =>
        simp only [R.bind, hg] at h1
        exact ixr hK S1.f rl r1 hg fun v r => h1 v _ _ (Same.refl _) S1 r
/-! ### slices -/
def cutD (xs : List D) (lo hi : Option Int) : List D := (xs.drop (HT.sIx xs.length 0 lo)).take (HT.sIx xs.length xs.length hi - HT.sIx xs.length 0 lo)
def partD : D → Option (Option Int)
  | .int i => some (some i)
  | _ => none
/-- a part of a slice: left out, or an int -/
structure PPart (X : Cx) (c : Cn) (W : WX) (o : Option Expr) (f : En → R (Option Int)) : Prop where
  run : PO X o (tG c W (fun _ _ _ _ _ (x y : Option Int) => x = y) f)
theorem s_pnone : PPart X c W none fun ρ => .ok none ρ := ⟨⟨fun pins s σ H Q I ⟨pin, Z, ρ, Hf, S, g⟩ => po_none.run pins s σ H Q I (g _ _ _ (Same.refl _) S rfl)⟩⟩
theorem s_psome (ha : PE X a (tE c W fa)) : PPart X c W (some a) fun ρ => (fa ρ).bind fun d ρ1 => R.lift (partD d) ρ1 := ⟨⟨fun pins s σ H Q I h => (po_some ha).run pins s σ H Q I (by
  refine tG.seq h fun pin Z d ρ1 x H1 Hf1 S1 r1 h1 => ?_
  cases d <;> try exact h1.elim
  cases r1
  exact ⟨_, rfl, h1 _ _ _ (Same.refl _) S1 rfl⟩)⟩⟩
theorem cutV_reps {H : Hp} {vs : List V} {ds : List D} (lo hi : Option Int) (r : Reps c H vs ds) : Reps c H (cutV vs lo hi) (cutD ds lo hi) := by
  unfold cutV cutD
  rw [r.length]
  exact (r.drop _).take _
/-- what a slice gives -/
def slD : D → Option Int → Option Int → Option D
  | .lst xs, lo, hi => some (.lst (cutD xs lo hi))
  | .tup xs, lo, hi => some (.tup (cutD xs lo hi))
  | .str z, lo, hi => if z.length ≤ LN then some (.str (cutS z lo hi)) else none
  | _, _, _ => none
theorem HT_all {lo hi : Option Int} {xs : List D} (h : HT.sIx xs.length 0 lo = 0 ∧ HT.sIx xs.length xs.length hi = xs.length) : cutD xs lo hi = xs := by
  unfold cutD
  rw [h.1, h.2, List.drop_zero, Nat.sub_zero, List.take_length]
def rSlX (K : PySem.W.Frag) : V → Option Int → Option Int → Hp → VK → Prop := fun x lo hi H Q => rSlL K x lo hi H Q ∨ rSlA K x lo hi H Q ∨ rSlS x lo hi H Q
theorem sl_any : SlR X (rSlX X.K) := sl_list.or (sl_tupA.or sl_str)
theorem slr (hK : X.K = c.K) {pin : Addr} {Z : Hp} {ρ : En} {σ : Sg} {H Hf : Hp} {x : V} {d z : D} {lo hi : Option Int} {Q : VK} (S : SR c pin Z ρ σ H Hf) (rd : relL c Z ρ σ Hf H x d) (g : slD d lo hi = some z)
    (q : ∀ v H' Hf', Same Hf Hf' → SR c pin Z ρ σ H' Hf' → Rep c Hf' v z → Q v H') : rSlX X.K x lo hi H Q := by
  have lst : ∀ {p : Addr} {vs : List V} {ds : List D}, H p = some (.lst vs) → Reps c Hf vs ds → z = .lst (cutD ds lo hi) → rSlX X.K (.ref p) lo hi H Q := fun {p vs ds} hp r e => by
    subst e
    refine .inl ⟨_, _, rfl, SqL.of hp, fun l hl => ?_⟩
    obtain ⟨S', s'⟩ := S.newS hl
    exact q _ _ _ s' S' (Rep.newL s' (cutV_reps lo hi r))
  rcases rd with rd | ⟨p, vs, b, rfl, rfl, hp, r⟩
  · have rd0 := rd
    cases rd with
    | lst h r => cases g; exact lst (S.f _ _ h) r rfl
    | tup h r =>
      cases g
      rename_i p vs ds
      refine .inr (.inl ⟨_, _, rfl, SqT.of (S.f _ _ h), fun e => ?_, fun _ l hl => ?_⟩)
      · rw [r.length] at e
        rw [HT_all e] at q
        exact q _ _ _ (Same.refl _) S rd0
      · obtain ⟨S', s'⟩ := S.newS hl
        exact q _ _ _ s' S' (Rep.newT s' (cutV_reps lo hi r))
    | str zz =>
      simp only [slD] at g
      split at g
      · rename_i hz; cases g
        exact .inr (.inr ⟨_, rfl, by rw [LN_eq]; exact hz, q _ _ _ (Same.refl _) S (.str _)⟩)
      · cases g
    | _ => exact no_some g
  · cases b with
    | lst ds => obtain ⟨us, rfl, r⟩ := r.lst; cases g; exact lst hp r rfl
    | _ => exact no_some g
variable {lo hi : Option Expr} {p2 : Pos} {fl fh : En → R (Option Int)}
theorem s_slice (hK : X.K = c.K) (ha : PE X a (tE c W fa)) (hl : PPart X c W lo fl) (hh : PPart X c W hi fh) :
    PE X (.Subscript a (.Slice lo hi none p2) pos) (tE c W fun ρ => (fa ρ).bind fun x ρ1 => (fl ρ1).bind fun l ρ2 => (fh ρ2).bind fun h ρ3 => R.lift (slD x l h) ρ3) := by
  refine pe_of (pe_slice sl_any ha hl.run hh.run) fun σ H Q h => ?_
  refine tG.seq h fun pin Z d ρ1 x H1 Hf1 S1 r1 h1 => ?_
  refine ⟨pin, Z, ρ1, Hf1, S1, Go.seq h1 fun l ρ2 l' H2 Hf2 s2 S2 r2 h2 => ?_⟩
  refine ⟨pin, Z, ρ2, Hf2, S2, Go.seq h2 fun u ρ3 u' H3 Hf3 s3 S3 r3 h3 => ?_⟩
  cases r2
  cases r3
  cases hg : slD d l u with
  | none => rw [hg] at h3; exact h3.elim
  | some z => rw [hg] at h3; exact slr hK S3 (.inl ((r1.mono s2).mono s3)) hg h3
theorem s_sliceV {i : Nat} {x : Str} {p : Pos} (hK : X.K = c.K) (h : PE X (.Name x p) (tVar i)) (hl : PPart X c W lo fl) (hh : PPart X c W hi fh) :
    PE X (.Subscript (.Name x p) (.Slice lo hi none p2) pos) (tE c W fun ρ => (rdL ρ i).bind fun _ ρ0 => (fl ρ0).bind fun l ρ1 => (fh ρ1).bind fun h ρ2 => (rdL ρ2 i).bind fun x ρ3 => R.lift (slD x l h) ρ3) := by
  refine pe_of (pe_slice sl_any h hl.run hh.run) fun σ H Q ⟨pin, Z, ρ, Hf, S, g⟩ => ?_
  dsimp only at g
  cases h0 : rdL ρ i with
  | err => unfold rdL at h0; split at h0 <;> cases h0
  | bad => rw [h0] at g; exact g.elim
  | ok d0 ρ0 =>
    rw [h0] at g
    obtain ⟨e0, v, ev, _⟩ := rdL_at S h0
    subst e0
    refine ⟨v, ev, pin, Z, ρ0, Hf, S, Go.seq g fun l ρ1 l' H1 Hf1 s1 S1 r1 h1 => ?_⟩
    refine ⟨pin, Z, ρ1, Hf1, S1, Go.seq h1 fun u ρ2 u' H2 Hf2 s2 S2 r2 h2 => ?_⟩
    cases r1
    cases r2
    cases h3 : rdL ρ2 i with
    | err => unfold rdL at h3; split at h3 <;> cases h3
    | bad => rw [h3] at h2; exact h2.elim
    | ok d ρ3 =>
      rw [h3] at h2
      obtain ⟨e2, v', ev', rl⟩ := rdL_at S2 h3
      subst e2
      rw [ev] at ev'
      cases ev'
      cases hg : slD d l u with
      | none => simp only [R.bind, hg] at h2; exact h2.elim
      | some z => simp only [R.bind, hg] at h2; exact slr hK S2 rl hg h2

/-! ### built-in functions of one value -/
inductive B1 where
  | len | abs | int | bool | str | all | any | sum | max | min | tuple
  deriving DecidableEq
def B1.nm : B1 → Str
  | .len => "len" | .abs => "abs" | .int => "int" | .bool => "bool" | .str => "str" | .all => "all" | .any => "any" | .sum => "sum" | .max => "max" | .min => "min" | .tuple => "tuple"
def B1.val : B1 → Value
  | .len => .builtin "len" | .abs => .builtin "abs" | .int => .type "int" | .bool => .type "bool" | .str => .type "str" | .all => .builtin "all" | .any => .builtin "any" | .sum => .builtin "sum" | .max => .builtin "max" | .min => .builtin "min" | .tuple => .type "tuple"
theorem B1.boot : ∀ f : B1, bootBuiltins f.nm = some f.val
  | .len => by decide +kernel
  | .abs => by decide +kernel
  | .int => by decide +kernel
  | .bool => by decide +kernel
  | .str => by decide +kernel
  | .all => by decide +kernel
  | .any => by decide +kernel
  | .sum => by decide +kernel
  | .max => by decide +kernel
  | .min => by decide +kernel
  | .tuple => by decide +kernel
def bls? : List D → Option (List Bool)
  | [] => some []
  | .bl b :: r => (bls? r).map (b :: ·)
  | _ => none
theorem bls_reps {H : Hp} : ∀ {vs : List V} {ds : List D} {bs : List Bool}, Reps c H vs ds → bls? ds = some bs → vs = bs.map V.bl
  | _, _, _, .nil, e => by cases e; rfl
  | _, d :: ds, bs, .cons h r, e => by
    cases d with
    | bl i =>
      simp only [bls?, Option.map_eq_some_iff] at e
      obtain ⟨ms, e1, rfl⟩ := e
      cases h
      rw [bls_reps r e1, List.map_cons]
    | _ => simp [bls?] at e
def maxI : List Int → Option Int
  | [] => none
  | n :: ns => some (ns.foldl max n)
def minI : List Int → Option Int
  | [] => none
  | n :: ns => some (ns.foldl min n)
theorem foldmax : ∀ (ns : List Int) (n : Int), (ns.foldl max n = n ∨ ns.foldl max n ∈ ns) ∧ n ≤ ns.foldl max n ∧ ∀ m ∈ ns, m ≤ ns.foldl max n
  | [], n => ⟨.inl rfl, Int.le_refl _, fun m h => by cases h⟩
  | k :: ns, n => by
    rw [List.foldl_cons]
    obtain ⟨h1, h2, h3⟩ := foldmax ns (max n k)
    refine ⟨?_, by omega, fun m hm => ?_⟩
    · rcases h1 with h1 | h1
      · rw [h1]
        by_cases e : n ≤ k
        · right; rw [Int.max_eq_right e]; exact List.mem_cons_self
        · left; exact Int.max_eq_left (by omega)
      · right; exact List.mem_cons_of_mem _ h1
    · rcases List.mem_cons.mp hm with rfl | hm
      · omega
      · exact h3 m hm
theorem foldmin : ∀ (ns : List Int) (n : Int), (ns.foldl min n = n ∨ ns.foldl min n ∈ ns) ∧ ns.foldl min n ≤ n ∧ ∀ m ∈ ns, ns.foldl min n ≤ m
  | [], n => ⟨.inl rfl, Int.le_refl _, fun m h => by cases h⟩
  | k :: ns, n => by
    rw [List.foldl_cons]
    obtain ⟨h1, h2, h3⟩ := foldmin ns (min n k)
    refine ⟨?_, by omega, fun m hm => ?_⟩
    · rcases h1 with h1 | h1
      · rw [h1]
        by_cases e : n ≤ k
        · left; exact Int.min_eq_left e
        · right; rw [Int.min_eq_right (by omega)]; exact List.mem_cons_self
      · right; exact List.mem_cons_of_mem _ h1
    · rcases List.mem_cons.mp hm with rfl | hm
      · omega
      · exact h3 m hm
theorem maxI_is {ns : List Int} {m k : Int} (h : maxI ns = some k) (hm : m ∈ ns) (hl : ∀ y ∈ ns, y ≤ m) : m = k := by
  cases ns with
  | nil => cases h
  | cons n ns =>
    cases h
    obtain ⟨h1, h2, h3⟩ := foldmax ns n
    have a1 : ns.foldl max n ≤ m := by
      rcases h1 with h1 | h1
      · rw [h1]; exact hl n List.mem_cons_self
      · exact hl _ (List.mem_cons_of_mem _ h1)
    have a2 : m ≤ ns.foldl max n := by
      rcases List.mem_cons.mp hm with e | e
      · rw [e]; exact h2
      · exact h3 m e
    omega
theorem minI_is {ns : List Int} {m k : Int} (h : minI ns = some k) (hm : m ∈ ns) (hl : ∀ y ∈ ns, m ≤ y) : m = k := by
  cases ns with
  | nil => cases h
  | cons n ns =>
    cases h
    obtain ⟨h1, h2, h3⟩ := foldmin ns n
    have a1 : m ≤ ns.foldl min n := by
      rcases h1 with h1 | h1
      · rw [h1]; exact hl n List.mem_cons_self
      · exact hl _ (List.mem_cons_of_mem _ h1)
    have a2 : ns.foldl min n ≤ m := by
      rcases List.mem_cons.mp hm with e | e
      · rw [e]; exact h2
      · exact h3 m e
    omega
def onInts {α : Type} (f : List Int → Option α) : D → Option α
  | .lst xs => (ints? xs).bind f
  | _ => none
def onBls {α : Type} (f : List Bool → Option α) : D → Option α
  | .lst xs => (bls? xs).bind f
  | _ => none
def lenD : D → Option D
  | .lst xs => some (.int xs.length)
  | .tup xs => some (.int xs.length)
  | .scr ns => some (.int ns.length)
  | .str x => if x.length ≤ LN then some (.int x.length) else none
  | .dK ks _ => some (.int ks.length)
  | .dT ks _ => some (.int ks.length)
  | _ => none
def b1 : B1 → D → Option D
  | .len, d => lenD d
  | .abs, .int i => some (.int (if i < 0 then -i else i))
  | .int, .int i => some (.int i)
  | .int, .bl k => some (.int (if k then 1 else 0))
  | .int, .str x => if x.length ≤ 640 then (PySem.intText? x).map .int else none
  | .bool, .int i => some (.bl (i != 0))
  | .bool, .bl k => some (.bl k)
  | .str, .int i => if i.natAbs.log2 < 1920 then some (.str (toString i)) else none
  | .all, d => onBls (fun bs => some (.bl (bs.all id))) d
  | .any, d => onBls (fun bs => some (.bl (bs.any id))) d
  | .sum, d => onInts (fun ns => some (.int ns.sum)) d
  | .max, d => onInts (fun ns => (maxI ns).map .int) d
  | .min, d => onInts (fun ns => (minI ns).map .int) d
  | .tuple, .lst xs => some (.tup xs)
  | .tuple, .tup xs => some (.tup xs)
  | _, _ => none
def rC1 (c : Cn) (g : D → Option D) : List V → Hp → VK → Prop := fun xs H Q => ∃ pin Z ρ σ Hf x d z, xs = [x] ∧ SR c pin Z ρ σ H Hf ∧ relL c Z ρ σ Hf H x d ∧ g d = some z ∧
  ∀ v H' Hf', Same Hf Hf' → SR c pin Z ρ σ H' Hf' → Rep c Hf' v z → Q v H'
/-- the list that is looked at -/
theorem relL.seq (hK : X.K = c.K) {Z H Hf : Hp} {ρ : En} {σ : Sg} {x : V} {ds : List D} (s : Same Hf H) (r : relL c Z ρ σ Hf H x (.lst ds)) : ∃ p vs, x = .ref p ∧ H p = some (.lst vs) ∧ Reps c Hf vs ds := by
  rcases r with r | ⟨p, vs, b, rfl, e, hp, r⟩
  · exact Rep.seqL s r
  · cases b with
    | lst xs => cases e; obtain ⟨us, rfl, r⟩ := r.lst; exact ⟨p, us, rfl, hp, r⟩
    | _ => cases e
/-- a dict that is looked at -/
theorem relL.dK {Z H Hf : Hp} {ρ : En} {σ : Sg} {x : V} {ks : List Key} {xs : List D} (s : Same Hf H) (r : relL c Z ρ σ Hf H x (.dK ks xs)) : ∃ p kvs, x = .ref p ∧ Rd H p (.dK kvs) ∧ kvs.map (·.1) = ks ∧ Reps c Hf (kvs.map (·.2)) xs := by
  rcases r with r | ⟨p, ho, b, rfl, e, hp, r⟩
  · cases r with
    | dK h r => exact ⟨_, _, rfl, .inr ⟨_, s _ _ h⟩, rfl, r⟩
  · cases b <;> cases ho <;> first | exact r.elim | (cases e; done) | (cases e; exact ⟨_, _, rfl, .inl hp, r.1, r.2⟩)
theorem relL.dT {Z H Hf : Hp} {ρ : En} {σ : Sg} {x : V} {ks : List (List Key)} {xs : List D} (s : Same Hf H) (r : relL c Z ρ σ Hf H x (.dT ks xs)) : ∃ p kvs, x = .ref p ∧ Rd H p (.dT kvs) ∧ kvs.map (·.1) = ks ∧ Reps c Hf (kvs.map (·.2)) xs := by
  rcases r with r | ⟨p, ho, b, rfl, e, hp, r⟩
  · cases r with
    | dT h r => exact ⟨_, _, rfl, .inr ⟨_, s _ _ h⟩, rfl, r⟩
  · cases b <;> cases ho <;> first | exact r.elim | (cases e; done) | (cases e; exact ⟨_, _, rfl, .inl hp, r.1, r.2⟩)
theorem relL.non (hK : X.K = c.K) {Z H Hf : Hp} {ρ : En} {σ : Sg} {x : V} {d : D} (r : relL c Z ρ σ Hf H x d) (h : d.isOb = false) : Rep c Hf x d := by
  rcases r with r | ⟨p, vs, b, rfl, e, hp, r⟩
  · exact r
  · rw [e, b.is] at h; cases h
theorem c1r (hK : X.K = c.K) (hc : X.calm = true) (f : B1) : CallR X f.val (rC1 c (b1 f)) := by
  intro pins s σ0 H xs us Q I r h
  obtain ⟨pin, Z, ρ, σ, Hf, x, d, z, rfl, S, rd, g, q⟩ := h
  have fin : ∀ {w : V}, Rep c Hf w z → Q w H := fun r => q _ H Hf (Same.refl _) S r
  have inl : ∀ {α : Type} {F : List Int → Option α} {w : α}, onInts F d = some w → ∃ p ns, x = .ref p ∧ H p = some (.lst (ns.map V.int)) ∧ F ns = some w := fun {α F w} e => by
    cases d <;> try exact no_some e
    simp only [onInts, Option.bind_eq_some_iff] at e
    obtain ⟨ns, e1, e2⟩ := e
    obtain ⟨p, vs, rfl, hp, r1⟩ := relL.seq hK S.f rd
    rw [ints_reps r1 e1] at hp
    exact ⟨p, ns, rfl, hp, e2⟩
  have bnl : ∀ {α : Type} {F : List Bool → Option α} {w : α}, onBls F d = some w → ∃ p ns, x = .ref p ∧ H p = some (.lst (ns.map V.bl)) ∧ F ns = some w := fun {α F w} e => by
    cases d <;> try exact no_some e
    simp only [onBls, Option.bind_eq_some_iff] at e
    obtain ⟨ns, e1, e2⟩ := e
    obtain ⟨p, vs, rfl, hp, r1⟩ := relL.seq hK S.f rd
    rw [bls_reps r1 e1] at hp
    exact ⟨p, ns, rfl, hp, e2⟩
  cases f with
  | len =>
    simp only [b1, lenD] at g
    cases d <;> try exact no_some g
    · rename_i y
      simp only at g
      split at g
      · rename_i hz; cases g
        cases relL.non hK rd (by simp)
        exact call_len pins s σ0 H _ us Q I r ⟨_, _, rfl, ⟨by rw [LN_eq]; exact hz, rfl⟩, fin (.int _)⟩
      · cases g
    · cases g
      obtain ⟨p, vs, rfl, hp, r1⟩ := (relL.non hK rd (by simp)).seqT hK S.f
      exact call_len pins s σ0 H _ us Q I r ⟨_, _, rfl, .inr ⟨_, hp, rfl⟩, by rw [r1.length]; exact fin (.int _)⟩
    · cases g
      obtain ⟨p, vs, rfl, hp, r1⟩ := relL.seq hK S.f rd
      exact call_len pins s σ0 H _ us Q I r ⟨_, _, rfl, .inl ⟨_, SqL.of hp, rfl⟩, by rw [r1.length]; exact fin (.int _)⟩
    · cases g
      cases relL.non hK rd (by simp) with
      | scr h => exact call_len pins s σ0 H _ us Q I r ⟨_, _, rfl, .inl ⟨_, by rw [hK]; exact S.f.seq h, rfl⟩, by rw [List.length_map]; exact fin (.int _)⟩
    · cases g
      obtain ⟨p, kvs, rfl, hp, rfl, _⟩ := relL.dK S.f rd
      obtain ⟨u, rfl, ru⟩ := vals1 r
      cases ru
      exact d_len I hp fun t s' I' => ⟨.int kvs.length, H, I', ⟨t, rfl⟩, by rw [List.length_map] at fin q; exact q _ H Hf (Same.refl _) S (.int _)⟩
    · cases g
      obtain ⟨p, kvs, rfl, hp, rfl, _⟩ := relL.dT S.f rd
      obtain ⟨u, rfl, ru⟩ := vals1 r
      cases ru
      obtain ⟨z, hd, ys, rel, dd⟩ := dt_rd I.hok hp
      have hl : kvs.length = ys.length := Paired.length rel
      refine call_len_dictH hd dd (by rw [← hl]; rw [sizeLine_eq] at z; omega) ?_
      rw [← hl]
      exact ⟨.int ((kvs.length : Nat) : Int), H, I.tok _, ⟨_, rfl⟩, by rw [List.length_map] at q; exact q _ H Hf (Same.refl _) S (.int _)⟩
  | abs =>
    cases d <;> try exact no_some g
    cases g; cases relL.non hK rd (by simp)
    exact call_abs pins s σ0 H _ us Q I r ⟨_, rfl, fin (.int _)⟩
  | int =>
    cases d <;> try exact no_some g
    · cases g; cases relL.non hK rd (by simp)
      exact call_int1 pins s σ0 H _ us Q I r (.inr ⟨_, rfl, fin (.int _)⟩)
    · cases g; cases relL.non hK rd (by simp)
      exact call_int1 pins s σ0 H _ us Q I r (.inl ⟨_, rfl, fin (.int _)⟩)
    · simp only [b1] at g
      split at g
      · rename_i hz
        obtain ⟨m, e1, rfl⟩ := Option.map_eq_some_iff.mp g
        cases relL.non hK rd (by simp)
        exact call_int_str pins s σ0 H _ us Q I r ⟨_, m, rfl, e1, hz, fin (.int _)⟩
      · cases g
  | bool =>
    cases d <;> try exact no_some g
    · cases g; cases relL.non hK rd (by simp)
      exact call_bool1 pins s σ0 H _ us Q I r (.inr ⟨_, rfl, fin (.bl _)⟩)
    · cases g; cases relL.non hK rd (by simp)
      exact call_bool1 pins s σ0 H _ us Q I r (.inl ⟨_, rfl, fin (.bl _)⟩)
  | str =>
    cases d <;> try exact no_some g
    simp only [b1] at g
    split at g
    · rename_i hz; cases g; cases relL.non hK rd (by simp)
      exact call_str_int pins s σ0 H _ us Q I r ⟨_, rfl, hz, fin (.str _)⟩
    · cases g
  | all =>
    obtain ⟨p, bs, rfl, hp, e⟩ := bnl (show onBls _ d = some z from g)
    cases e
    exact cr_all hc pins s σ0 H _ us Q I r ⟨_, _, rfl, SqL.of hp, fin (.bl _)⟩
  | any =>
    obtain ⟨p, bs, rfl, hp, e⟩ := bnl (show onBls _ d = some z from g)
    cases e
    exact cr_any hc pins s σ0 H _ us Q I r ⟨_, _, rfl, SqL.of hp, fin (.bl _)⟩
  | sum =>
    obtain ⟨p, ns, rfl, hp, e⟩ := inl (show onInts _ d = some z from g)
    cases e
    exact cr_sum hc pins s σ0 H _ us Q I r ⟨_, _, rfl, SqL.of hp, fin (.int _)⟩
  | max =>
    obtain ⟨p, ns, rfl, hp, e⟩ := inl (show onInts _ d = some z from g)
    simp only [Option.map_eq_some_iff] at e
    obtain ⟨k, e, rfl⟩ := e
    refine cr_max hc pins s σ0 H _ us Q I r ⟨_, _, rfl, SqL.of hp, ?_, fun m h1 h2 => ?_⟩
    · cases ns with
      | nil => cases e
      | cons => simp
    · rw [maxI_is e h1 h2]; exact fin (.int _)
  | min =>
    obtain ⟨p, ns, rfl, hp, e⟩ := inl (show onInts _ d = some z from g)
    simp only [Option.map_eq_some_iff] at e
    obtain ⟨k, e, rfl⟩ := e
    refine cr_min hc pins s σ0 H _ us Q I r ⟨_, _, rfl, SqL.of hp, ?_, fun m h1 h2 => ?_⟩
    · cases ns with
      | nil => cases e
      | cons => simp
    · rw [minI_is e h1 h2]; exact fin (.int _)
  | tuple =>
    cases d <;> try exact no_some g
    · cases g
      have rr := relL.non hK rd (by simp)
      obtain ⟨p, vs, e, hp, r1⟩ := rr.seqT hK S.f
      subst e
      exact call_tuple_of pins s σ0 H _ us Q I r ⟨_, _, rfl, .inr ⟨hp, fin rr⟩⟩
    · cases g
      obtain ⟨p, vs, rfl, hp, r1⟩ := relL.seq hK S.f rd
      refine call_tuple_of pins s σ0 H _ us Q I r ⟨_, _, rfl, .inl ⟨SqL.of hp, fun l hl => ?_⟩⟩
      obtain ⟨S', s'⟩ := S.newS hl
      exact q _ _ _ s' S' (Rep.newT s' r1)
/-- f(e), f a built-in -/
theorem s_b1 (f : B1) {p : Pos} (hK : X.K = c.K) (hc : X.calm = true) (hg : Gl X f.nm) (hm : X.mg f.nm = none) (hn : noStar a = true) (ha : PE X a (tL c W fa)) :
    PE X (.Call (.Name f.nm p) [a] [] pos) (tE c W fun ρ => (fa ρ).bind fun x ρ1 => R.lift (b1 f x) ρ1) := by
  have go : ∀ σ H Q, tE c W (fun ρ => (fa ρ).bind fun x ρ1 => R.lift (b1 f x) ρ1) σ H Q → tCB (rC1 c (b1 f)) (tCons (tL c W fa) tNil) σ H Q := fun σ H Q h => by
    refine tG.seq h fun pin Z d ρ1 x H1 Hf1 S1 r1 h1 => ?_
    cases hb : b1 f d with
    | none => rw [hb] at h1; exact h1.elim
    | some z => rw [hb] at h1; exact ⟨pin, Z, ρ1, σ, Hf1, x, d, z, rfl, S1, r1, hb, h1⟩
  have pa : PA X [a] (tCons (tL c W fa) tNil) := pa_cons ha pa_nil (star_cons hn)
  have hv := f.boot
  have hcr := c1r hK hc f
  cases f with
  | int => exact pe_of (pe_callTy hcr hg hm hv pa (by decide) (by decide) (star_cons hn) rfl) go
  | bool => exact pe_of (pe_callTy hcr hg hm hv pa (by decide) (by decide) (star_cons hn) rfl) go
  | str => exact pe_of (pe_callTy hcr hg hm hv pa (by decide) (by decide) (star_cons hn) rfl) go
  | tuple => exact pe_of (pe_callTy hcr hg hm hv pa (by decide) (by decide) (star_cons hn) rfl) go
  | _ => exact pe_of (pe_callB hcr hg hm hv pa (by decide) (by decide) (star_cons hn) rfl) go
/-! ### .. of two -/
inductive B2 where
  | max | min
  deriving DecidableEq
def B2.nm : B2 → Str
  | .max => "max" | .min => "min"
def b2 : B2 → D → D → Option D
  | .max, .int i, .int j => some (.int (if j > i then j else i))
  | .min, .int i, .int j => some (.int (if j < i then j else i))
  | _, _, _ => none
theorem s_b2 (f : B2) {p : Pos} (hc : X.calm = true) (hg : Gl X f.nm) (hm : X.mg f.nm = none) (hn : noStar a = true) (hn2 : noStar b = true) (ha : PE X a (tE c W fa)) (hb : PE X b (tE c W fb)) :
    PE X (.Call (.Name f.nm p) [a, b] [] pos) (tE c W fun ρ => (fa ρ).bind fun x ρ1 => (fb ρ1).bind fun y ρ2 => R.lift (b2 f x y) ρ2) := by
  have pa : PA X [a, b] (tCons (tE c W fa) (tCons (tE c W fb) tNil)) := pa_cons ha (pa_cons hb pa_nil (star_cons hn2)) (star_cons hn)
  have hpl : (backTo pos (starEach [b] X.env)).any (·.1) = false := by rw [star_cons hn2]; rfl
  cases f with
  | max =>
    refine pe_of (pe_callB (call_max2 hc) hg hm (by decide +kernel) pa (by decide) (by decide) (star_cons hn) hpl) fun σ H Q h => ?_
    show tE c W fa σ H fun x H1 => tE c W fb σ H1 fun y H2 => _
    refine two (rr := fun x y H2 Q => ∃ i j, [x, y] = [V.int i, V.int j] ∧ Q (.int (if j > i then j else i)) H2) (fun x y H2 z => ?_) h
    obtain ⟨pin, Z, ρ, σ, Hf, d, e, w, S, rd, re, g, q⟩ := z
    cases d <;> cases e <;> try exact no_some g
    cases g; cases rd; cases re
    exact ⟨_, _, rfl, q _ _ _ (Same.refl _) S (.int _)⟩
  | min =>
    refine pe_of (pe_callB (call_min2 hc) hg hm (by decide +kernel) pa (by decide) (by decide) (star_cons hn) hpl) fun σ H Q h => ?_
    show tE c W fa σ H fun x H1 => tE c W fb σ H1 fun y H2 => _
    refine two (rr := fun x y H2 Q => ∃ i j, [x, y] = [V.int i, V.int j] ∧ Q (.int (if j < i then j else i)) H2) (fun x y H2 z => ?_) h
    obtain ⟨pin, Z, ρ, σ, Hf, d, e, w, S, rd, re, g, q⟩ := z
    cases d <;> cases e <;> try exact no_some g
    cases g; cases rd; cases re
    exact ⟨_, _, rfl, q _ _ _ (Same.refl _) S (.int _)⟩
/-! ### isinstance -/
inductive Ty where
  | int | bool | str | list | tuple | dict
  deriving DecidableEq
def Ty.nm : Ty → Str
  | .int => "int" | .bool => "bool" | .str => "str" | .list => "list" | .tuple => "tuple" | .dict => "dict"
def Ty.id : Ty → String
  | .int => "int" | .bool => "bool" | .str => "str" | .list => "list" | .tuple => "tuple" | .dict => "dict"
theorem Ty.boot : ∀ f : Ty, bootBuiltins f.nm = some (.type f.id)
  | .int => by decide +kernel
  | .bool => by decide +kernel
  | .str => by decide +kernel
  | .list => by decide +kernel
  | .tuple => by decide +kernel
  | .dict => by decide +kernel
def isiD : Ty → D → Option Bool
  | .int, .int _ => some true
  | .int, .bl _ => some true
  | .bool, .bl _ => some true
  | .str, .str _ => some true
  | .list, .lst _ => some true
  | .list, .scr _ => some true
  | .tuple, .tup _ => some true
  | .dict, .dK _ _ => some true
  | _, .dT _ _ => none
  | _, .fn _ => none
  | _, _ => some false
def tyId : D → String
  | .non => "NoneType" | .bl _ => "bool" | .int _ => "int" | .str _ => "str" | .tup _ => "tuple" | .lst _ => "list" | .fn _ => "function" | .scr _ => "list" | .dK _ _ => "dict" | .dT _ _ => "dict"
theorem kits : ∀ (t : Ty) (d : D) (k : Bool), isiD t d = some k → kitB (tyId d) t.id = some k := by
  intro t d k h
  cases t <;> cases d <;> first | exact no_some h | (cases h; dsimp only [tyId, Ty.id]; decide +kernel)
theorem sqL_ty {K : PySem.W.Frag} {H : Hp} {a : Addr} {xs : List V} (h : SqL K H a xs) : TyX K H (.ref a) (.type "list") := by
  rcases h with (h | ⟨o, h⟩) | ⟨o, its, n, h1, h2, _⟩
  · exact .base (.lst h)
  · exact .base (.frz h)
  · exact .kList h1 h2
theorem sqT_ty {K : PySem.W.Frag} {H : Hp} {a : Addr} {xs : List V} (h : SqT K H a xs) : TyX K H (.ref a) (.type "tuple") := by
  rcases h with (h | ⟨o, h⟩) | ⟨o, its, n, h1, h2, _⟩
  · exact .base (.tup h)
  · exact .fTuple h
  · exact .kTuple h1 h2
theorem tyX (hK : X.K = c.K) {Z H Hf : Hp} {ρ : En} {σ : Sg} {x : V} {d : D} (s : Same Hf H) (r : relL c Z ρ σ Hf H x d) (h0 : ∀ k, d ≠ .fn k) (h2 : ∀ k l, d ≠ .dT k l) : TyX X.K H x (.type (tyId d)) := by
  rcases r with r | ⟨p, vs, b, rfl, e, hp, r⟩
  · cases r with
    | dK h r => exact .fDict (s _ _ h)
    | dT h r => exact absurd rfl (h2 _ _)
    | non => exact .base .non
    | bl b => exact .base (.bl b)
    | int i => exact .base (.int i)
    | str x => exact .base (.str x)
    | tup h r => exact sqT_ty (SqT.of (s _ _ h))
    | lst h r => exact sqL_ty (SqL.of (s _ _ h))
    | fn k => exact absurd rfl (h0 k)
    | scr h => exact sqL_ty (by rw [hK]; exact s.seq h)
  · subst e
    cases b <;> cases vs <;> first | exact r.elim | exact sqL_ty (SqL.of hp) | exact .base (.dK hp) | exact .base (.dT hp)
theorem s_isi (t : Ty) {p p2 : Pos} (hK : X.K = c.K) (hg : Gl X "isinstance") (hm : X.mg "isinstance" = none) (hgt : Gl X t.nm) (hmt : X.mg t.nm = none) (hn : noStar a = true) (ha : PE X a (tL c W fa)) :
    PE X (.Call (.Name "isinstance" p) [a, .Name t.nm p2] [] pos) (tE c W fun ρ => (fa ρ).bind fun x ρ1 => liftB (isiD t x) ρ1) := by
  have hdt : (t.nm == ("__debug__" : Str)) = false := by cases t <;> decide
  have hnt : t.nm ≠ "__name__" := by cases t <;> decide
  have pt : PE X (.Name t.nm p2) (tC (.ty t.id)) := pe_bltn hgt hmt t.boot rfl hnt hdt
  have pa : PA X [a, .Name t.nm p2] (tCons (tL c W fa) (tCons (tC (.ty t.id)) tNil)) := pa_cons ha (pa_cons pt pa_nil (star_cons rfl)) (star_cons hn)
  refine pe_of (pe_callB call_isi hg hm boot_isinstance pa (by decide) (by decide) (star_cons hn) rfl) fun σ H Q h => ?_
  refine tG.seq h fun pin Z d ρ1 x H1 Hf1 S1 r1 h1 => ?_
  cases hb : isiD t d with
  | none => rw [hb] at h1; exact h1.elim
  | some k =>
    rw [hb] at h1
    have nf : ∀ k, d ≠ .fn k := fun k e => by subst e; cases t <;> cases hb
    have nt : ∀ k l, d ≠ .dT k l := fun k l e => by subst e; cases t <;> cases hb
    exact ⟨x, _, _, _, k, rfl, .ty _, tyX hK S1.f r1 nf nt, kit_ty (kits t d k hb), h1 _ _ _ (Same.refl _) S1 (.bl k)⟩
end
end Ev

end
section
set_option maxHeartbeats 2000000
namespace RT
open PySem PySem.Spec PyProof.Rows
section
variable {prog : Program} {w : World} {A : Around} {E : Value → Shared → Prop} {s : Shared}
/-- list.extend over a list's backward iterator -/
theorem rev_extend {it l S : Addr} {items : Array Value} {c₀ : Nat} {R : Result → Shared → Prop} {res : Value} (hh : A.handled = none) (hit : s.heap.IsRevIter it l ((items.size : Int) - 1)) (hl : s.heap.IsList l items) (hne : l ≠ it) (hn : items.size ≤ sizeLine)
    (hSi : S ≠ it) (hSl : S ≠ l) (hS : s.heap.get? S = some { cls := .type "list", data := .seq #[] c₀ })
    (hR : ∀ h' tk acc' c', (∀ b o, b ≠ S → b ≠ it → s.heap.get? b = some o → h'.get? b = some o) → h'.get? S = some { cls := .type "list", dict := none, data := .seq acc' c', slots := #[] } → ItemsOf (fun i v => items[items.size - 1 - i]? = some v) acc' items.size → R (.ok (.ret res)) { s with heap := h', toks := tk }) :
    wpAny (model prog w) A.in1 (Builtin.List.listExtendWith (.ref S) (.ref it) res)
      (fun fin s' => match fin with | .done f => R (.ok f) s' | .again c' => c'.quiet = true ∧ codeAny (model prog w) A c' R s') (fun e s' => R (.error e) s') s := by
  have W := (Walks.listRev (prog := prog) (w := w) (A := A.in1) hh it l hne items).toS
  have hSf : S ∉ [it, l] := by simp only [List.mem_cons, List.not_mem_nil, or_false, not_or]; exact ⟨hSi, hSl⟩
  have hT : s.TypeIs (.ref it) "list_reverseiterator" := hit.typeIs
  have h1 : Builtin.List.listSameRef (.ref S) (.ref it) = false := by simp [Builtin.List.listSameRef, hSi]
  unfold Builtin.List.listExtendWith
  refine wpAny_bind (wpAny_typeOf hT ?_)
  rw [if_neg (by rw [h1]; decide)]
  refine wpAny_bind (wpAny_pyIter_revIter hit ?_)
  refine wpAny_bind (wpAny_holding ?_)
  unfold Builtin.List.listLengthHint
  refine wpAny_bind (wpAny_specialOf hT nolen_lri ?_)
  show wpAny _ A.in1 (specialOf (Value.ref it) (Str.ofString "__length_hint__") >>= _) _ _ _
  refine wpAny_bind (wpAny_specialOf hT hint_lri ?_)
  generalize hid : ("list_reverseiterator.__length_hint__" : String) = id0
  wp_delta
  rw [show splitId id0 = some ("list_reverseiterator", "__length_hint__") from by subst hid; decide +kernel]
  subst hid
  refine wpAny_bind (wpAny_isInstance (b := true) hT (by rw [isSubtype_type]; kernel_rfl) ?_)
  refine wpAny_pure ?_
  rw [if_neg (by decide)]
  have e0 : ((items.size : Nat) : Int) - 1 - ((0 : Nat) : Int) = (items.size : Int) - 1 := by omega
  refine wpAny_pure ⟨plainId_quiet F.plain_extend_loop _, codeAny_extend_loopS W hn _ hSf _ items.size 0 _ _ _ rfl (Nat.zero_le _) ⟨Nat.zero_le _, by rw [e0]; exact hit, hl⟩ hS (ItemsOf.nil _) fun s' acc' c' hm hS' hacc => ?_⟩
  rw [Moved.eq_with hm]
  refine hR s'.heap s'.toks acc' c' (fun b o hb hi e => hm.heap b o (fun hmem => ?_) e) hS' hacc
  rcases List.mem_cons.mp hmem with e' | hmem
  · exact hb e'
  · exact hi (List.mem_singleton.mp hmem)
theorem rev_init {it l S : Addr} {items : Array Value} {R : Result → Shared → Prop} (hh : A.handled = none) (hit : s.heap.IsRevIter it l ((items.size : Int) - 1)) (hl : s.heap.IsList l items) (hne : l ≠ it) (hn : items.size ≤ sizeLine)
    (hSi : S ≠ it) (hSl : S ≠ l) (hS : s.heap.get? S = some { cls := .type "list", data := .seq #[] })
    (hR : ∀ h' tk acc' c', (∀ b o, b ≠ S → b ≠ it → s.heap.get? b = some o → h'.get? b = some o) → h'.get? S = some { cls := .type "list", dict := none, data := .seq acc' c', slots := #[] } → ItemsOf (fun i v => items[items.size - 1 - i]? = some v) acc' items.size → R (.ok (.ret .none)) { s with heap := h', toks := tk }) :
    wpAny (model prog w) A.in1 (Builtin.«list.__init__» ⟨[.ref S, .ref it], []⟩)
      (fun fin s' => match fin with | .done f => R (.ok f) s' | .again c' => c'.quiet = true ∧ codeAny (model prog w) A c' R s') (fun e s' => R (.error e) s') s := by
  show wpAny _ _ (do let old ← Builtin.List.listItems (.ref S); Builtin.List.listUpdate (.ref S) (fun _ => #[]); letGo old.toList.reverse; Builtin.List.listExtendWith (.ref S) (.ref it) .none) _ _ s
  refine wpAny_bind ?_
  unfold Builtin.List.listItems
  refine wpAny_bind (wpAny_seqItems hS rfl (wpAny_pure ?_))
  show wpAny _ _ (updateSeq S (fun _ => #[]) >>= fun _ => letGo (#[] : Array Value).toList.reverse >>= fun _ => Builtin.List.listExtendWith (.ref S) (.ref it) .none) _ _ s
  refine wpAny_bind (wpAny_updateSeq hS rfl ?_)
  have hS₂ := Heap.get?_update_self (Obj.mapSeq (fun _ => (#[] : Array Value))) hS rfl
  have oth : ∀ b o, b ≠ S → s.heap.get? b = some o → (s.heap.update S (Obj.mapSeq (fun _ => (#[] : Array Value)))).get? b = some o :=
    fun b o hb e => (Heap.get?_update_other _ _ (Ne.symm hb)).trans e
  refine wpAny_bind (wpAny_letGo ?_)
  refine rev_extend (s := { s with heap := s.heap.update S (Obj.mapSeq (fun _ => (#[] : Array Value))) }) hh (hit.at fun o e => oth it o (Ne.symm hSi) e) ?_ hne hn hSi hSl hS₂ (fun h' tk acc' c' hk hS' hacc => ?_)
  · obtain ⟨o, ho, r⟩ := hl; exact ⟨o, oth l o (Ne.symm hSl) ho, r⟩
  · exact hR h' tk acc' c' (fun b o hb hi e => hk b o hb hi (oth b o hb e)) hS' hacc
theorem call_list_rev {it l : Addr} {items : Array Value} {Q : Value → Shared → Prop} (hh : A.handled = none) (hit : s.heap.IsRevIter it l ((items.size : Int) - 1)) (hl : s.heap.IsList l items) (hne : l ≠ it) (hn : items.size ≤ sizeLine)
    (hQ : ∀ h' tk acc' c', (∀ b o, b ≠ it → s.heap.get? b = some o → h'.get? b = some o) → h'.get? s.heap.objs.size = some { cls := .type "list", dict := none, data := .seq acc' c', slots := #[] } → ItemsOf (fun i v => items[items.size - 1 - i]? = some v) acc' items.size → Q (.ref s.heap.objs.size) { s with heap := h', toks := tk }) :
    wpAny (model prog w) A (call (.type "list") [.ref it]) Q E s := by
  refine callType_codes (Q₁ := fun obj s₁ => obj = .ref s.heap.objs.size ∧ s₁ = { s with heap := s.heap.push { cls := .type "list", data := .seq #[] } }) PySem.F.called_list (PySem.F.typeCall_list_1 _) PySem.F.entry_list_init
    (code_list_new _ ⟨rfl, rfl⟩) fun obj s₁ h₁ => ?_
  obtain ⟨rfl, rfl⟩ := h₁
  have hS : (s.heap.push { cls := .type "list", data := .seq #[] }).get? s.heap.objs.size = some { cls := .type "list", data := .seq #[] } := Heap.get?_push_size _ rfl
  obtain ⟨oi, hoi, _⟩ := id hit
  obtain ⟨ol, hol, _⟩ := id hl
  have hSi : s.heap.objs.size ≠ it := Nat.ne_of_gt (Heap.lt_size hoi)
  have hSl : s.heap.objs.size ≠ l := Nat.ne_of_gt (Heap.lt_size hol)
  refine ⟨⟨_, hS, rfl⟩, PySem.F.args_list_init_2 _ _, rev_init (A := A.in1) (s := { s with heap := s.heap.push { cls := .type "list", data := .seq #[] } }) hh (hit.at fun o e => Heap.get?_push_of_some _ e) (hl.push _) hne hn hSi hSl hS (fun h' tk acc' c' hk hS' hacc => ?_)⟩
  exact ⟨rfl, hQ h' tk acc' c' (fun b o hi e => hk b o (Nat.ne_of_lt (Heap.lt_size e)) hi (Heap.get?_push_of_some _ e)) hS' hacc⟩
end
end RT
namespace L2
open PySem PySem.Spec PyProof.Rows
section
variable {X : Cx}
/-- list(reversed(x)), x a list: a new list -/
def tLstRev (K : PySem.W.Frag) (te : TE) : TE := fun σ H Q => te σ H fun v H1 => ∃ (a : Addr) (xs : List V), v = .ref a ∧ SqL K H1 a xs ∧ ∀ q, H1 q = none → Q (.ref q) (upd H1 q (.lst xs.reverse))
theorem pe_lstRev {e : Expr} {te : TE} {p p2 pos pos2 : Pos} (hc : X.calm = true) (hg : Gl X "list") (hm : X.mg "list" = none) (hg2 : Gl X "reversed") (hm2 : X.mg "reversed" = none) (he : PE X e te)
    (hs : starEach [e] X.env = (false, eval e X.env) :: starEach [] X.env := by rfl)
    (hs2 : starEach [.Call (.Name "reversed" p2) [e] [] pos2] X.env = (false, eval (.Call (.Name "reversed" p2) [e] [] pos2) X.env) :: starEach [] X.env := by rfl) :
    PE X (.Call (.Name "list" p) [.Call (.Name "reversed" p2) [e] [] pos2] [] pos) (tLstRev X.K te) := by
  refine ⟨fun pins s σ H Q I h => ?_⟩
  refine Call_ (ld_blt I hg hm boot_list (PyProof.Rows.callWith_type1 (args_cons (Call_ (ld_blt I hg2 hm2 PyProof.Rows.boot_reversed (PyProof.Rows.callWith_type1 (args_cons (thn (he.run pins s σ H _ I h) fun u s1 ⟨v, H1, I1, r1, q1⟩ => args_nil ?_) hs) hs rfl))) hs2) hs2 rfl))
  obtain ⟨a, xs, ev, hq, q⟩ := q1
  subst ev
  obtain rfl : u = Value.ref a := r1
  obtain ⟨its, rv, p', hz⟩ := I1.list hq
  refine PySem.call_reversed_list p'.isList (args_nil ?_)
  have k0 : ∀ b o, s1.heap.get? b = some o → (s1.heap.push (PySem.revObj a ((its.toArray.size : Int) - 1))).get? b = some o := fun b o e => Heap.get?_push_of_some _ e
  have I2 : Inv X pins σ H1 { s1 with heap := s1.heap.push (PySem.revObj a ((its.toArray.size : Int) - 1)) } := I1.kept (t' := s1.toks) k0
  obtain ⟨f0, f1, f2, f3, f4, f5⟩ := I1.fpOk (H' := H1) (b := s1.heap.objs.size) (Nat.le_refl _) (I1.hok.fresh (Nat.le_refl _))
  have hl := p'.isList
  obtain ⟨ol, hol, _⟩ := id hl
  have hne : a ≠ s1.heap.objs.size := Nat.ne_of_lt (Heap.lt_size hol)
  have hn : its.toArray.size ≤ sizeLine := by rw [List.size_toArray, ← rv.length]; exact hz
  refine RT.call_list_rev (s := { s1 with heap := s1.heap.push (PySem.revObj a ((its.toArray.size : Int) - 1)) }) (I1.ok.hd hc) ⟨_, Heap.get?_push_size _ rfl, rfl, rfl⟩ (hl.push _) hne hn fun h' tk acc c' hk hD hi => ?_
  -- the iterator has turned; the new list stands at the end
  have I3 : Inv X pins σ H1 { s1 with heap := h', toks := tk } := I2.turned (t' := tk) (fun b o hb e => hk b o hb e) f0 f1 f3 f4 f5
  generalize hsz : (s1.heap.push (PySem.revObj a ((its.toArray.size : Int) - 1))).objs.size = D at hD ⊢
  have nD : H1 D = none := I2.hok.fresh (Nat.le_of_eq hsz)
  have ltD : ∀ b o, (s1.heap.push (PySem.revObj a ((its.toArray.size : Int) - 1))).get? b = some o → b ≠ D := fun b o e z => by
    have := Heap.lt_size e
    rw [hsz, z] at this
    exact absurd this (Nat.lt_irrefl _)
  have hok : HOk X.prog X.w (upd H1 D (.lst xs.reverse)) h' := fun b u e => by
    by_cases hb : b = D
    · subst hb
      rw [upd_same] at e
      cases e
      exact ⟨by rw [List.length_reverse]; exact hz, acc.toList, c', RT.vals_rev rv hi, by rw [Array.toArray_toList]; exact hD⟩
    · rw [upd_ne hb] at e
      exact (I3.hok b u e).stay (fun _ _ _ q => q) (fun c q => by rw [upd_ne (ne_of_none q nD)]; exact q) fun c zs q => by rw [upd_ne (ne_of_none q nD)]; exact q
  have I4 : Inv X pins σ (upd H1 D (.lst xs.reverse)) { s1 with heap := h', toks := tk } := by
    refine Inv.step (s := { s1 with heap := s1.heap.push (PySem.revObj a ((its.toArray.size : Int) - 1)) }) (h' := h') (g' := s1.gens) (d' := s1.drawn) (ch := [s1.heap.objs.size]) I2 (fun b hb => ?_) (fun b o _ _ hc e _ => hk b o (fun z => hc (by simp [z])) e) (fun b o _ _ hc e _ => ⟨o.slots, hk b o (fun z => hc (by simp [z])) e⟩)
      (fun b o _ e n => by rw [upd_ne (ltD b o e)]; exact n) (fun b o hc e => ⟨o, hk b o (fun z => hc (by simp [z])) e⟩) (fun b zs e => by rw [upd_ne (ne_of_none e nD)]; exact e) (fun b ob u e => by rw [upd_ne (ne_of_none e nD)]; exact e)
      (fun b ps e => ⟨#[], by rw [upd_ne (ne_of_none e nD), e]; simp⟩) (fun m hm => ?_) hok I2.bare
    · have e : b = s1.heap.objs.size := by simpa using hb
      subst e
      exact ⟨f3, f1, f4, f5⟩
    · obtain ⟨o, es, ep, ho, r⟩ := hm
      exact ⟨o, es, ep, hk _ o (Ne.symm f1) ho, r⟩
  exact ⟨.ref D, _, I4, rfl, q D nD⟩
end
end L2

end
section
set_option maxHeartbeats 2000000
namespace Ev
open PySem PySem.Spec PyProof.Rows L2

/-! ### what is walked -/
/-- the iterator yields the items, one a turn, whatever is done meanwhile -/
structure Yields (c : Cn) (Hf0 : Hp) (J : It) (items : List D) : Prop where
  go : ∀ (i : Nat) pin Z ρ σ H Hf, Same Hf0 Hf → SR c pin Z ρ σ H Hf → i < items.length → J.go i H
  stop : ∀ pin Z ρ σ H Hf, Same Hf0 Hf → SR c pin Z ρ σ H Hf → J.stop items.length H
  yld : ∀ (i : Nat) pin Z ρ σ H Hf x H' d, Same Hf0 Hf → SR c pin Z ρ σ H Hf → items[i]? = some d → J.yld i H x H' → ∃ Hf', Same Hf Hf' ∧ SR c pin Z ρ σ H' Hf' ∧ Rep c Hf' x d
abbrev relI (c : Cn) : Rel (List D) It := fun _ _ _ Hf _ J items => Yields c Hf J items
abbrev tI (c : Cn) (W : WX) (f : En → R (List D)) : TI := tG c W (relI c) f
/-- .. not too many items -/
abbrev relJ (c : Cn) : Rel (List D) It := fun _ _ _ Hf H J items => Yields c Hf J items ∧ (Small H → items.length ≤ LN)
abbrev tJ (c : Cn) (W : WX) (f : En → R (List D)) : TI := tG c W (relJ c) f

section
variable {X : Cx} {c : Cn} {W : WX} {tg a b : Expr} {pos : Pos} {fa fb : En → R D}
theorem pi_of {e : Expr} {t t' : TI} (h : PI X tg e t) (i : ∀ σ H Q, t' σ H Q → t σ H Q) : PI X tg e t' := ⟨fun pins s σ H Q I q => h.run pins s σ H Q I (i σ H Q q)⟩
theorem i_ofJ {e : Expr} {f : En → R (List D)} (h : PI X tg e (tJ c W f)) : PI X tg e (tI c W f) := pi_of h fun σ H Q ⟨pin, Z, ρ, Hf, S, g⟩ => ⟨pin, Z, ρ, Hf, S, by
    cases hf : f ρ with
    | ok a ρ' => rw [hf] at g; exact fun b H' Hf' s' S' r => g b H' Hf' s' S' r.1
    | err x ρ' => rw [hf] at g; exact g
    | bad => rw [hf] at g; exact g⟩
/-- .. looked at -/
def few (items : List D) (ρ : En) : R (List D) := if items.length ≤ LN then .ok items ρ else .bad
theorem i_few {e : Expr} {f : En → R (List D)} (h : PI X tg e (tI c W f)) : PI X tg e (tJ c W fun ρ => (f ρ).bind few) := pi_of h fun σ H Q g => by
  refine tG.seq g fun pin Z items ρ1 J H1 Hf1 S1 y g1 => ?_
  unfold few at g1
  split at g1
  · rename_i hz
    exact g1 _ _ _ (Same.refl _) S1 ⟨y, fun _ => hz⟩
  · exact g1.elim
theorem pi_small {e : Expr} {t : TI} (h : PI X tg e t) : PI X tg e (fun σ H R => t σ H fun J H1 => Small H1 → R J H1) := ⟨fun pins s σ H R I q => thn (h.run pins s σ H _ I q) fun v s1 z => thn z fun itv s2 ⟨it, fp, tn, J, H', e1, I2, T, st, f, r⟩ => ⟨it, fp, tn, J, H', e1, I2, T, st, f, r (Small.of I2.hok)⟩⟩
theorem lt_get {α : Type} {xs : List α} {i : Nat} (h : i < xs.length) : ∃ x, xs[i]? = some x := ⟨xs[i], List.getElem?_eq_getElem h⟩
theorem y_list {K : PySem.W.Frag} {Hf : Hp} {p : Addr} {vs : List V} {ds : List D} (h : Hf p = some (.lst vs)) (r : Reps c Hf vs ds) : Yields c Hf (Itl K p) ds where
  go := fun i pin Z ρ σ H Hf' s S hi => by
    obtain ⟨x, e⟩ := lt_get (show i < vs.length by rw [r.length]; exact hi)
    exact ⟨vs, x, SqL.of (S.f _ _ (s _ _ h)), e⟩
  stop := fun pin Z ρ σ H Hf' s S => ⟨vs, SqL.of (S.f _ _ (s _ _ h)), by rw [r.length]; exact Nat.le_refl _⟩
  yld := fun i pin Z ρ σ H Hf' x H' d s S e y => by
    obtain ⟨rfl, y⟩ := y
    obtain ⟨v, e1, r1⟩ := r.get e
    have := y vs (SqL.of (S.f _ _ (s _ _ h)))
    rw [e1] at this
    cases this
    exact ⟨Hf', Same.refl _, S, r1.mono s⟩
theorem y_tup (hK : X.K = c.K) {Hf : Hp} {p : Addr} {vs : List V} {ds : List D} (h : SqT c.K Hf p vs) (r : Reps c Hf vs ds) : Yields c Hf (Itt X.K p) ds where
  go := fun i pin Z ρ σ H Hf' s S hi => by
    obtain ⟨x, e⟩ := lt_get (show i < vs.length by rw [r.length]; exact hi)
    exact ⟨vs, x, by rw [hK]; exact Same.seqT (s.trans S.f) h, e⟩
  stop := fun pin Z ρ σ H Hf' s S => ⟨vs, by rw [hK]; exact Same.seqT (s.trans S.f) h, by rw [r.length]; exact Nat.le_refl _⟩
  yld := fun i pin Z ρ σ H Hf' x H' d s S e y => by
    obtain ⟨rfl, y⟩ := y
    obtain ⟨v, e1, r1⟩ := r.get e
    have := y vs (by rw [hK]; exact Same.seqT (s.trans S.f) h)
    rw [e1] at this
    cases this
    exact ⟨Hf', Same.refl _, S, r1.mono s⟩
theorem y_scr (hK : X.K = c.K) {Hf : Hp} {p : Addr} {ns : List Int} (h : SqL c.K Hf p (ns.map V.int)) : Yields c Hf (Itl X.K p) (ns.map .int) where
  go := fun i pin Z ρ σ H Hf' s S hi => by
    obtain ⟨x, e⟩ := lt_get (show i < (ns.map V.int).length by rw [List.length_map]; rw [List.length_map] at hi; exact hi)
    exact ⟨_, x, by rw [hK]; exact (s.trans S.f).seq h, e⟩
  stop := fun pin Z ρ σ H Hf' s S => ⟨_, by rw [hK]; exact (s.trans S.f).seq h, by rw [List.length_map, List.length_map]; exact Nat.le_refl _⟩
  yld := fun i pin Z ρ σ H Hf' x H' d s S e y => by
    obtain ⟨rfl, y⟩ := y
    have := y _ (by rw [hK]; exact (s.trans S.f).seq h)
    rw [List.getElem?_map] at this e
    cases q : ns[i]? with
    | none => rw [q] at e; cases e
    | some n =>
      rw [q] at this e
      cases this
      cases e
      exact ⟨Hf', Same.refl _, S, .int n⟩
theorem y_range {Hf : Hp} {lo : Int} {n : Nat} : Yields c Hf (Itr lo n) ((List.range n).map fun (k : Nat) => D.int (lo + (k : Int))) where
  go := fun i pin Z ρ σ H Hf' s S hi => by show i < n; simpa using hi
  stop := fun pin Z ρ σ H Hf' s S => by show n ≤ _; simp
  yld := fun i pin Z ρ σ H Hf' x H' d s S e y => by
    obtain ⟨rfl, rfl⟩ := y
    rw [List.getElem?_map] at e
    by_cases hi : i < n
    · rw [List.getElem?_range hi] at e
      cases e
      exact ⟨Hf', Same.refl _, S, .int _⟩
    · rw [List.getElem?_eq_none (by simpa using hi)] at e
      cases e
theorem y_rangeC {Hf : Hp} {lo st : Int} {n : Nat} : Yields c Hf (Itc lo st n) ((List.range n).map fun (k : Nat) => D.int (lo + (k : Int) * st)) where
  go := fun i pin Z ρ σ H Hf' s S hi => by show i < n; simpa using hi
  stop := fun pin Z ρ σ H Hf' s S => by show n ≤ _; simp
  yld := fun i pin Z ρ σ H Hf' x H' d s S e y => by
    obtain ⟨rfl, rfl⟩ := y
    rw [List.getElem?_map] at e
    by_cases hi : i < n
    · rw [List.getElem?_range hi] at e
      cases e
      exact ⟨Hf', Same.refl _, S, .int _⟩
    · rw [List.getElem?_eq_none (by simpa using hi)] at e
      cases e
theorem y_str {Hf : Hp} {x : Str} : Yields c Hf (Its x) (x.cps.toList.map fun k => .str ⟨#[k]⟩) where
  go := fun i pin Z ρ σ H Hf' s S hi => by simpa [Its] using hi
  stop := fun pin Z ρ σ H Hf' s S => by show x.cps.size ≤ _; simp
  yld := fun i pin Z ρ σ H Hf' v H' d s S e y => by
    obtain ⟨rfl, k, e1, rfl⟩ := y
    rw [List.getElem?_map, Array.getElem?_toList, e1] at e
    cases e
    exact ⟨Hf', Same.refl _, S, .str _⟩
/-- a key as a value -/
def kD : Key → D
  | .inl i => .int i
  | .inr x => .str x
theorem kD_rep {H : Hp} (k : Key) : Rep c H (kV k) (kD k) := by
  cases k with
  | inl i => exact .int i
  | inr x => exact .str x
theorem kDs_rep {H : Hp} : ∀ ks : List Key, Reps c H (ks.map kV) (ks.map kD)
  | [] => .nil
  | k :: ks => .cons (kD_rep k) (kDs_rep ks)
theorem y_keys {Hf : Hp} {p : Addr} {o : Obj} {kvs : List (Key × V)} (h : Hf p = some (.frz o (.dK kvs))) : Yields c Hf (Itk p o kvs) ((kvs.map (·.1)).map kD) where
  go := fun i pin Z ρ σ H Hf' s S hi => ⟨S.f _ _ (s _ _ h), by simpa using hi⟩
  stop := fun pin Z ρ σ H Hf' s S => ⟨S.f _ _ (s _ _ h), by simp⟩
  yld := fun i pin Z ρ σ H Hf' x H' d s S e y => by
    obtain ⟨rfl, k, v, e1, rfl⟩ := y
    rw [List.getElem?_map, List.getElem?_map, e1] at e
    cases e
    exact ⟨Hf', Same.refl _, S, kD_rep k⟩
theorem y_keysT {Hf : Hp} {p : Addr} {o : Obj} {kvs : List (List Key × V)} (h : Hf p = some (.frz o (.dT kvs))) : Yields c Hf (Itkt p o kvs) ((kvs.map (·.1)).map fun k => .tup (k.map kD)) where
  go := fun i pin Z ρ σ H Hf' s S hi => ⟨S.f _ _ (s _ _ h), by simpa using hi⟩
  stop := fun pin Z ρ σ H Hf' s S => ⟨S.f _ _ (s _ _ h), by simp⟩
  yld := fun i pin Z ρ σ H Hf' x H' d s S e y => by
    obtain ⟨rfl, k, v, q, e1, rfl, hq⟩ := y
    rw [List.getElem?_map, List.getElem?_map, e1] at e
    cases e
    obtain ⟨Hf2, ss, S2, e2⟩ := S.speakT hq
    exact ⟨Hf2, ss, S2, .tup e2 (kDs_rep k)⟩
/-- what a value that is walked yields -/
def itD : D → Option (List D)
  | .lst xs => some xs
  | .tup xs => some xs
  | .scr ns => some (ns.map .int)
  | .dK ks _ => some (ks.map kD)
  | .dT ks _ => some (ks.map fun k => .tup (k.map kD))
  | .str x => some (x.cps.toList.map fun k => .str ⟨#[k]⟩)
  | _ => none
/-- a text's signs are counted -/
def itN (x : D) (xs : List D) (ρ : En) : R (List D) :=
  match x with
  | .str _ => few xs ρ
  | .dK _ _ => few xs ρ
  | .dT _ _ => few xs ρ
  | _ => .ok xs ρ
/-- any of them -/
theorem pi_any {l : Expr} {tl : TE} (hl : PE X l tl) : PI X tg l (fun σ H R => tl σ H fun x H1 => (∃ a, x = .ref a ∧ (∃ xs, SqL X.K H1 a xs) ∧ R (Itl X.K a) H1) ∨ (∃ a, x = .ref a ∧ (∃ xs, SqT X.K H1 a xs) ∧ R (Itt X.K a) H1) ∨ (∃ y, x = .str y ∧ R (Its y) H1) ∨ ∃ d o, x = .ref d ∧ ((∃ kvs, H1 d = some (.frz o (.dK kvs)) ∧ R (Itk d o kvs) H1) ∨ ∃ kvs, H1 d = some (.frz o (.dT kvs)) ∧ R (Itkt d o kvs) H1)) := by
  refine ⟨fun pins s σ H R I h => ?_⟩
  refine thn (hl.run pins s σ H _ I h) fun v s1 ⟨x, H1, I1, r1, q1⟩ => ?_
  rcases q1 with ⟨a, e, ⟨xs, hq⟩, q⟩ | ⟨a, e, ⟨xs, hq⟩, q⟩ | ⟨y, e, q⟩ | ⟨d, o, e, ⟨kvs, hd, q⟩ | ⟨kvs, hd, q⟩⟩
  · subst e
    cases r1
    obtain ⟨its, rv, p, hz⟩ := I1.list hq
    refine wpAny_pyIter_list p.isList ?_
    exact pi_one (tk := s1.toks) I1 _ (turn_list a _) ⟨_, Heap.get?_push_size _ rfl, rfl, rfl⟩ q
  · subst e
    cases r1
    obtain ⟨its, rv, p, hz⟩ := I1.tuple hq
    refine wpAny_pyIter_tuple (show s1.heap.IsTuple a its.toArray from p) ?_
    exact pi_one (tk := s1.toks) I1 _ (turn_tuple a _) ⟨_, Heap.get?_push_size _ rfl, rfl, rfl⟩ q
  · subst e
    obtain ⟨t, rfl⟩ := r1
    cases ha : y.cps.all (· < 128)
    · exact wpAny_pyIter_wide ha (pi_one (tk := s1.toks) I1 _ (turn_str _ y t "str_iterator" (.inr rfl)) ⟨_, Heap.get?_push_size _ rfl, rfl, rfl⟩ q)
    · exact wpAny_pyIter_ascii ha (pi_one (tk := s1.toks) I1 _ (turn_str _ y t "str_ascii_iterator" (.inl rfl)) ⟨_, Heap.get?_push_size _ rfl, rfl, rfl⟩ q)
  · subst e
    obtain rfl : v = Value.ref d := r1
    obtain ⟨hs, hgd, hx, es, ep, vs, hdt, hsz, kv, hm⟩ := I1.frzK hd
    refine iter_keys hs hgd hx hdt (pi_one (tk := s1.toks) I1 _ (turn_keys _ hdt) ⟨_, Heap.get?_push_size _ rfl, rfl, ?_⟩ q)
    rw [hsz] <;> rfl
  · subst e
    obtain rfl : v = Value.ref d := r1
    obtain ⟨hs, hgd, hx, es, ep, hdt, hsz, ent⟩ := I1.frzT hd
    refine iter_keys hs hgd hx hdt (pi_one (tk := s1.toks) I1 _ (turn_keysT _ hdt) ⟨_, Heap.get?_push_size _ rfl, rfl, ?_⟩ q)
    rw [hsz] <;> rfl
theorem i_seq (hK : X.K = c.K) (ha : PE X a (tE c W fa)) : PI X tg a (tJ c W fun ρ => (fa ρ).bind fun x ρ1 => (R.lift (itD x) ρ1).bind fun xs ρ2 => itN x xs ρ2) := by
  refine pi_of (pi_any ha) fun σ H Q h => ?_
  refine tG.seq h fun pin Z d ρ1 x H1 Hf1 S1 r1 h1 => ?_
  cases r1 with
  | lst hp r => exact .inl ⟨_, rfl, ⟨_, SqL.of (S1.f _ _ hp)⟩, h1 _ _ _ (Same.refl _) S1 ⟨y_list hp r, fun z => by rw [← r.length, ← LN_eq]; exact z _ _ (.inl (.inl (S1.f _ _ hp)))⟩⟩
  | tup hp r => exact .inr (.inl ⟨_, rfl, ⟨_, by rw [hK]; exact Same.seqT S1.f (SqT.of (K := c.K) hp)⟩, h1 _ _ _ (Same.refl _) S1 ⟨y_tup hK (SqT.of hp) r, fun z => by rw [← r.length, ← LN_eq]; exact z.sqT (Same.seqT S1.f (SqT.of (K := c.K) hp))⟩⟩)
  | scr hp => exact .inl ⟨_, rfl, ⟨_, by rw [hK]; exact S1.f.seq hp⟩, h1 _ _ _ (Same.refl _) S1 ⟨y_scr hK hp, fun z => by
      have := z.sqL (S1.f.seq hp)
      rw [List.length_map] at this ⊢
      rw [← LN_eq]; exact this⟩⟩
  | str y =>
    simp only [itD, R.lift, R.bind, itN, few] at h1
    split at h1
    · rename_i hz
      exact .inr (.inr (.inl ⟨_, rfl, h1 _ _ _ (Same.refl _) S1 ⟨y_str, fun _ => hz⟩⟩))
    · exact h1.elim
  | dK hp r =>
    simp only [itD, R.lift, R.bind, itN, few] at h1
    split at h1
    · rename_i hz
      exact .inr (.inr (.inr ⟨_, _, rfl, .inl ⟨_, S1.f _ _ hp, h1 _ _ _ (Same.refl _) S1 ⟨y_keys hp, fun _ => hz⟩⟩⟩))
    · exact h1.elim
  | dT hp r =>
    simp only [itD, R.lift, R.bind, itN, few] at h1
    split at h1
    · rename_i hz
      exact .inr (.inr (.inr ⟨_, _, rfl, .inr ⟨_, S1.f _ _ hp, h1 _ _ _ (Same.refl _) S1 ⟨y_keysT hp, fun _ => hz⟩⟩⟩))
    · exact h1.elim
  | _ => exact h1.elim
/-- range(..) -/
def rng : List D → Option (List D)
  | [.int j] => if -(2 ^ 62) ≤ j ∧ j < 2 ^ 62 then some ((List.range j.toNat).map fun (k : Nat) => D.int (0 + (k : Int))) else none
  | [.int i, .int j] => if -(2 ^ 62) ≤ i ∧ i < 2 ^ 62 ∧ -(2 ^ 62) ≤ j ∧ j < 2 ^ 62 then some ((List.range (j - i).toNat).map fun (k : Nat) => D.int (i + (k : Int))) else none
  | [.int i, .int j, .int st] => if st = -1 ∧ -(2 ^ 62) ≤ i ∧ i < 2 ^ 62 ∧ -(2 ^ 62) ≤ j ∧ j < 2 ^ 62 then some ((List.range (i - j).toNat).map fun (k : Nat) => D.int (i + (k : Int) * -1)) else none
  | _ => none
theorem i_range1 {p : Pos} (hg : Gl X "range") (hm : X.mg "range" = none) (hn : noStar a = true) (ha : PE X a (tE c W fa)) :
    PI X tg (.Call (.Name "range" p) [a] [] pos) (tI c W fun ρ => (fa ρ).bind fun x ρ1 => R.lift (rng [x]) ρ1) := by
  refine pi_of (pi_range1 hg hm (pa_cons ha pa_nil (star_cons hn)) (star_cons hn)) fun σ H Q h => ?_
  refine tG.seq h fun pin Z d ρ1 x H1 Hf1 S1 r1 h1 => ?_
  cases d <;> try exact h1.elim
  cases r1
  simp only [rng] at h1
  split at h1
  · rename_i hz
    exact ⟨_, rfl, hz.1, hz.2, h1 _ _ _ (Same.refl _) S1 y_range⟩
  · exact h1.elim
theorem i_range2 {p : Pos} (hg : Gl X "range") (hm : X.mg "range" = none) (hn : noStar a = true) (hn2 : noStar b = true) (ha : PE X a (tE c W fa)) (hb : PE X b (tE c W fb)) :
    PI X tg (.Call (.Name "range" p) [a, b] [] pos) (tI c W fun ρ => (fa ρ).bind fun x ρ1 => (fb ρ1).bind fun y ρ2 => R.lift (rng [x, y]) ρ2) := by
  refine pi_of (pi_range2 hg hm (pa_cons ha (pa_cons hb pa_nil (star_cons hn2)) (star_cons hn)) (by rw [star_cons hn, star_cons hn2]; rfl) (by rw [star_cons hn2]; rfl)) fun σ H Q h => ?_
  refine tG.seq h fun pin Z d ρ1 x H1 Hf1 S1 r1 h1 => ?_
  refine ⟨pin, Z, ρ1, Hf1, S1, Go.seq h1 fun e ρ2 y H2 Hf2 s2 S2 r2 h2 => ?_⟩
  cases d <;> cases e <;> try exact h2.elim
  cases r1
  cases r2
  simp only [rng] at h2
  split at h2
  · rename_i hz
    exact ⟨_, _, rfl, hz, h2 _ _ _ (Same.refl _) S2 y_range⟩
  · exact h2.elim
theorem i_range3 {e : Expr} {fe : En → R D} {p : Pos} (hg : Gl X "range") (hm : X.mg "range" = none) (hn : noStar a = true) (hn2 : noStar b = true) (hn3 : noStar e = true) (ha : PE X a (tE c W fa)) (hb : PE X b (tE c W fb)) (he : PE X e (tE c W fe)) :
    PI X tg (.Call (.Name "range" p) [a, b, e] [] pos) (tI c W fun ρ => (fa ρ).bind fun x ρ1 => (fb ρ1).bind fun y ρ2 => (fe ρ2).bind fun z ρ3 => R.lift (rng [x, y, z]) ρ3) := by
  have s3 : starEach [e] X.env = (false, eval e X.env) :: starEach [] X.env := star_cons hn3
  have s2 : starEach [b, e] X.env = (false, eval b X.env) :: starEach [e] X.env := star_cons hn2
  have s1 : starEach [a, b, e] X.env = (false, eval a X.env) :: starEach [b, e] X.env := star_cons hn
  refine pi_of (pi_range3 hg hm (pa_cons ha (pa_cons hb (pa_cons he pa_nil s3) s2) s1) (by first | exact s1 | (rw [s1, s2, s3]; rfl)) (by rw [s2, s3]; rfl)) fun σ H Q h => ?_
  refine tG.seq h fun pin Z d ρ1 x H1 Hf1 S1 r1 h1 => ?_
  refine ⟨pin, Z, ρ1, Hf1, S1, Go.seq h1 fun e ρ2 y H2 Hf2 s2 S2 r2 h2 => ?_⟩
  refine ⟨pin, Z, ρ2, Hf2, S2, Go.seq h2 fun f ρ3 z H3 Hf3 s3 S3 r3 h3 => ?_⟩
  cases d <;> cases e <;> cases f <;> try exact h3.elim
  cases r1
  cases r2
  cases r3
  simp only [rng] at h3
  split at h3
  · rename_i hz
    obtain ⟨rfl, z1, z2, z3, z4⟩ := hz
    exact ⟨_, _, _, _, rfl, RgC.neg z1 z2 z3 z4, h3 _ _ _ (Same.refl _) S3 y_rangeC⟩
  · exact h3.elim
/-- zip of two lists, of two tuples -/
def zipD : D → D → Option (List D)
  | .lst xs, .lst ys => some (List.zipWith (fun x y => .tup [x, y]) xs ys)
  | .tup xs, .tup ys => some (List.zipWith (fun x y => .tup [x, y]) xs ys)
  | _, _ => none
theorem zw_get {xs ys : List D} {i : Nat} {d : D} (h : (List.zipWith (fun x y => D.tup [x, y]) xs ys)[i]? = some d) : ∃ x y, xs[i]? = some x ∧ ys[i]? = some y ∧ d = .tup [x, y] := by
  rw [List.getElem?_zipWith] at h
  cases hx : xs[i]? with
  | none => rw [hx] at h; cases h
  | some x =>
    cases hy : ys[i]? with
    | none => rw [hx, hy] at h; cases h
    | some y => rw [hx, hy] at h; cases h; exact ⟨x, y, rfl, rfl, rfl⟩
theorem y_zip {K : PySem.W.Frag} {Hf : Hp} {p q : Addr} {vs us : List V} {ds es : List D} (h : Hf p = some (.lst vs)) (r : Reps c Hf vs ds) (h' : Hf q = some (.lst us)) (r' : Reps c Hf us es) :
    Yields c Hf (Itz K p q) (List.zipWith (fun x y => .tup [x, y]) ds es) where
  go := fun i pin Z ρ σ H Hf' s S hi => by
    rw [List.length_zipWith] at hi
    obtain ⟨x, e⟩ := lt_get (show i < vs.length by rw [r.length]; omega)
    obtain ⟨y, e'⟩ := lt_get (show i < us.length by rw [r'.length]; omega)
    exact ⟨vs, us, x, y, SqL.of (S.f _ _ (s _ _ h)), SqL.of (S.f _ _ (s _ _ h')), e, e'⟩
  stop := fun pin Z ρ σ H Hf' s S => ⟨vs, us, SqL.of (S.f _ _ (s _ _ h)), SqL.of (S.f _ _ (s _ _ h')), by rw [List.length_zipWith, r.length, r'.length]; omega⟩
  yld := fun i pin Z ρ σ H Hf' x H' d s S e y => by
    obtain ⟨T, x1, y1, rfl, hT, rfl, q1, q2⟩ := y
    obtain ⟨dx, dy, e1, e2, rfl⟩ := zw_get e
    obtain ⟨v, f1, r1⟩ := r.get e1
    obtain ⟨u, f2, r2⟩ := r'.get e2
    have g1 := q1 vs (SqL.of (S.f _ _ (s _ _ h)))
    have g2 := q2 us (SqL.of (S.f _ _ (s _ _ h')))
    rw [f1] at g1
    rw [f2] at g2
    cases g1
    cases g2
    obtain ⟨S', s'⟩ := S.newS hT
    exact ⟨_, s', S', Rep.newT s' (.cons (r1.mono s) (.cons (r2.mono s) .nil))⟩
theorem y_zipT (hK : X.K = c.K) {Hf : Hp} {p q : Addr} {vs us : List V} {ds es : List D} (h : SqT c.K Hf p vs) (r : Reps c Hf vs ds) (h' : SqT c.K Hf q us) (r' : Reps c Hf us es) :
    Yields c Hf (RZ.ItzT X.K p q) (List.zipWith (fun x y => .tup [x, y]) ds es) where
  go := fun i pin Z ρ σ H Hf' s S hi => by
    rw [List.length_zipWith] at hi
    obtain ⟨x, e⟩ := lt_get (show i < vs.length by rw [r.length]; omega)
    obtain ⟨y, e'⟩ := lt_get (show i < us.length by rw [r'.length]; omega)
    exact ⟨vs, us, x, y, by rw [hK]; exact Same.seqT (s.trans S.f) h, by rw [hK]; exact Same.seqT (s.trans S.f) h', e, e'⟩
  stop := fun pin Z ρ σ H Hf' s S => ⟨vs, us, by rw [hK]; exact Same.seqT (s.trans S.f) h, by rw [hK]; exact Same.seqT (s.trans S.f) h', by rw [List.length_zipWith, r.length, r'.length]; omega⟩
  yld := fun i pin Z ρ σ H Hf' x H' d s S e y => by
    obtain ⟨T, x1, y1, rfl, hT, rfl, q1, q2⟩ := y
    obtain ⟨dx, dy, e1, e2, rfl⟩ := zw_get e
    obtain ⟨v, f1, r1⟩ := r.get e1
    obtain ⟨u, f2, r2⟩ := r'.get e2
    have g1 := q1 vs (by rw [hK]; exact Same.seqT (s.trans S.f) h)
    have g2 := q2 us (by rw [hK]; exact Same.seqT (s.trans S.f) h')
    rw [f1] at g1
    rw [f2] at g2
    cases g1
    cases g2
    obtain ⟨S', s'⟩ := S.newS hT
    exact ⟨_, s', S', Rep.newT s' (.cons (r1.mono s) (.cons (r2.mono s) .nil))⟩
theorem i_zip {elts : List Expr} {kk : Nat} {p tpos : Pos} (hK : X.K = c.K) (hg : Gl X "zip") (hm : X.mg "zip" = none) (hn : noStar a = true) (hn2 : noStar b = true) (ha : PE X a (tE c W fa)) (hb : PE X b (tE c W fb)) :
    PI X (.Tuple elts kk tpos) (.Call (.Name "zip" p) [a, b] [] pos) (tJ c W fun ρ => (fa ρ).bind fun x ρ1 => (fb ρ1).bind fun y ρ2 => R.lift (zipD x y) ρ2) := by
  have hpl : (backTo pos (starEach [b] X.env)).any (·.1) = false := by rw [star_cons hn2]; rfl
  refine pi_of (RZ.pi_zipA hg hm (pa_cons ha (pa_cons hb pa_nil (star_cons hn2)) (star_cons hn)) (star_cons hn) hpl) fun σ H Q h => ?_
  refine tG.seq h fun pin Z d ρ1 x H1 Hf1 S1 r1 h1 => ?_
  refine ⟨pin, Z, ρ1, Hf1, S1, Go.seq h1 fun e ρ2 y H2 Hf2 s2 S2 r2 h2 => ?_⟩
  cases d <;> cases e <;> try exact h2.elim
  · cases r1.mono s2 with
    | tup h1 q1 =>
      cases r2 with
      | tup h3 q3 =>
        have h1 : SqT c.K Hf2 _ _ := SqT.of h1
        have h3 : SqT c.K Hf2 _ _ := SqT.of h3
        exact ⟨_, _, _, _, rfl, .inr ⟨by rw [hK]; exact Same.seqT S2.f h1, by rw [hK]; exact Same.seqT S2.f h3, h2 _ _ _ (Same.refl _) S2 ⟨y_zipT hK h1 q1 h3 q3, fun z => by
          rw [List.length_zipWith, ← q1.length, ← LN_eq]
          have := z.sqT (Same.seqT S2.f h1)
          omega⟩⟩⟩
  · cases r1.mono s2 with
    | lst h1 q1 =>
      cases r2 with
      | lst h3 q3 =>
        exact ⟨_, _, _, _, rfl, .inl ⟨SqL.of (S2.f _ _ h1), SqL.of (S2.f _ _ h3), h2 _ _ _ (Same.refl _) S2 ⟨y_zip h1 q1 h3 q3, fun z => by
          rw [List.length_zipWith, ← q1.length, ← LN_eq]
          have := z _ _ (.inl (.inl (S2.f _ _ h1)))
          omega⟩⟩⟩
/-- enumerate(list) -/
def enumD : D → Option (List D)
  | .lst xs => some (xs.mapIdx fun i x => .tup [.int (i : Int), x])
  | _ => none
theorem y_enum {K : PySem.W.Frag} {Hf : Hp} {p : Addr} {vs : List V} {ds : List D} (h : Hf p = some (.lst vs)) (r : Reps c Hf vs ds) : Yields c Hf (Ite K p) (ds.mapIdx fun i x => .tup [.int (i : Int), x]) where
  go := fun i pin Z ρ σ H Hf' s S hi => by
    rw [List.length_mapIdx] at hi
    obtain ⟨x, e⟩ := lt_get (show i < vs.length by rw [r.length]; omega)
    exact ⟨vs, x, SqL.of (S.f _ _ (s _ _ h)), e⟩
  stop := fun pin Z ρ σ H Hf' s S => ⟨vs, SqL.of (S.f _ _ (s _ _ h)), by rw [List.length_mapIdx, r.length]; exact Nat.le_refl _⟩
  yld := fun i pin Z ρ σ H Hf' x H' d s S e y => by
    obtain ⟨T, x1, rfl, hT, rfl, q1⟩ := y
    rw [List.getElem?_mapIdx] at e
    cases e1 : ds[i]? with
    | none => rw [e1] at e; cases e
    | some dx =>
      rw [e1] at e
      cases e
      obtain ⟨v, f1, r1⟩ := r.get e1
      have g1 := q1 vs (SqL.of (S.f _ _ (s _ _ h)))
      rw [f1] at g1
      cases g1
      obtain ⟨S', s'⟩ := S.newS hT
      exact ⟨_, s', S', Rep.newT s' (.cons (.int _) (.cons (r1.mono s) .nil))⟩
theorem i_enum {elts : List Expr} {kk : Nat} {p tpos : Pos} (hg : Gl X "enumerate") (hm : X.mg "enumerate" = none) (hn : noStar a = true) (ha : PE X a (tE c W fa)) :
    PI X (.Tuple elts kk tpos) (.Call (.Name "enumerate" p) [a] [] pos) (tJ c W fun ρ => (fa ρ).bind fun x ρ1 => R.lift (enumD x) ρ1) := by
  refine pi_of (pi_enum hg hm (pa_cons ha pa_nil (star_cons hn)) (star_cons hn)) fun σ H Q h => ?_
  refine tG.seq h fun pin Z d ρ1 x H1 Hf1 S1 r1 h1 => ?_
  cases d <;> try exact h1.elim
  cases r1 with
  | lst hp r => exact ⟨_, _, rfl, SqL.of (S1.f _ _ hp), h1 _ _ _ (Same.refl _) S1 ⟨y_enum hp r, fun z => by rw [List.length_mapIdx, ← r.length, ← LN_eq]; exact z _ _ (.inl (.inl (S1.f _ _ hp)))⟩⟩
/-- reversed(list) -/
def revD : D → Option (List D)
  | .lst xs => some xs.reverse
  | _ => none
theorem y_rev {K : PySem.W.Frag} {Hf : Hp} {p : Addr} {vs : List V} {ds : List D} (h : Hf p = some (.lst vs)) (r : Reps c Hf vs ds) : Yields c Hf (Itv K p vs.length) ds.reverse where
  go := fun i pin Z ρ σ H Hf' s S hi => by
    rw [List.length_reverse] at hi
    have hl := r.length
    obtain ⟨x, e⟩ := lt_get (show vs.length - 1 - i < vs.length by omega)
    exact ⟨by omega, vs, x, SqL.of (S.f _ _ (s _ _ h)), e⟩
  stop := fun pin Z ρ σ H Hf' s S => by show vs.length ≤ _; rw [List.length_reverse, r.length]; exact Nat.le_refl _
  yld := fun i pin Z ρ σ H Hf' x H' d s S e y => by
    obtain ⟨rfl, y⟩ := y
    have hl := r.length
    by_cases hi : i < ds.length
    · rw [List.getElem?_reverse hi] at e
      obtain ⟨v, e1, r1⟩ := r.get e
      have := y vs (SqL.of (S.f _ _ (s _ _ h)))
      rw [hl, e1] at this
      cases this
      exact ⟨Hf', Same.refl _, S, r1.mono s⟩
    · rw [List.getElem?_eq_none (by rw [List.length_reverse]; omega)] at e
      cases e
theorem i_rev {p : Pos} (hg : Gl X "reversed") (hm : X.mg "reversed" = none) (hn : noStar a = true) (ha : PE X a (tE c W fa)) :
    PI X tg (.Call (.Name "reversed" p) [a] [] pos) (tJ c W fun ρ => (fa ρ).bind fun x ρ1 => R.lift (revD x) ρ1) := by
  refine pi_of (pi_reversed hg hm (pa_cons ha pa_nil (star_cons hn)) (star_cons hn)) fun σ H Q h => ?_
  refine tG.seq h fun pin Z d ρ1 x H1 Hf1 S1 r1 h1 => ?_
  cases d <;> try exact h1.elim
  cases r1 with
  | lst hp r => exact ⟨_, _, rfl, SqL.of (S1.f _ _ hp), h1 _ _ _ (Same.refl _) S1 ⟨y_rev hp r, fun z => by rw [List.length_reverse, ← r.length, ← LN_eq]; exact z _ _ (.inl (.inl (S1.f _ _ hp)))⟩⟩
end
end Ev

end
section
set_option maxHeartbeats 2000000
namespace Ev
open PySem PySem.Spec PyProof.Rows L2

/-! ### targets -/
inductive Tg where
  | nm (i : Nat) | tup (is : List Nat)
def Tg.slots : Tg → List Nat
  | .nm i => [i]
  | .tup is => is
/-- a value is stored (the caller's list is never stored over) -/
def setV (i : Nat) (d : D) (ρ : En) : Option En :=
  match ρ[i]? with
  | some (.ow true _) => none
  | some _ => some (ρ.set i (.va d))
  | none => none
def setVs : List Nat → List D → En → Option En
  | [], [], ρ => some ρ
  | i :: is, d :: ds, ρ => (setV i d ρ).bind (setVs is ds)
  | _, _, _ => none
def asgT : Tg → D → En → Option En
  | .nm i, d, ρ => setV i d ρ
  | .tup is, .tup ds, ρ => setVs is ds ρ
  | .tup _, _, _ => none

section
variable {c : Cn} {pin : Addr} {Z : Hp} {ρ ρ' : En} {σ : Sg} {H Hf : Hp}
theorem SR.lt (S : SR c pin Z ρ σ H Hf) {i : Nat} {s : Sl} (h : ρ[i]? = some s) : i < σ.length := by
  rw [← S.len]
  exact (List.getElem?_eq_some_iff.mp h).1
theorem SR.put (S : SR c pin Z ρ σ H Hf) {i : Nat} {v : V} {d : D} {s : Sl} (h : ρ[i]? = some s) (r : Rep c Hf v d) : SR c pin Z (ρ.set i (.va d)) (σ.set i (some v)) H Hf := by
  have hi := S.lt h
  refine ⟨S.z, S.f, S.dj, by rw [List.length_set, List.length_set]; exact S.len, fun j s e => ?_, fun j k io io' xs ys q hjk ej ek sj sk => ?_⟩
  · rcases set_get e with ⟨e1, e2, _⟩ | ⟨e1, e2⟩
    · subst e1; subst e2
      exact ⟨v, List.getElem?_set_self hi, r⟩
    · rw [List.getElem?_set_ne e1]; exact S.sl j s e2
  · rcases set_get ej with ⟨_, f, _⟩ | ⟨f1, ej⟩
    · cases f
    rcases set_get ek with ⟨_, f, _⟩ | ⟨f2, ek⟩
    · cases f
    rw [List.getElem?_set_ne f1] at sj
    rw [List.getElem?_set_ne f2] at sk
    exact S.ap j k _ _ _ _ q hjk ej ek sj sk
theorem setV_some {i : Nat} {d : D} (h : setV i d ρ = some ρ') : ∃ s, ρ[i]? = some s ∧ ρ' = ρ.set i (.va d) := by
  unfold setV at h
  split at h
  · cases h
  · rename_i s _ e; cases h; exact ⟨_, e, rfl⟩
  · cases h
theorem SR.setV (S : SR c pin Z ρ σ H Hf) {i : Nat} {v : V} {d : D} (h : setV i d ρ = some ρ') (r : Rep c Hf v d) : SR c pin Z ρ' (σ.set i (some v)) H Hf := by
  obtain ⟨s, e, rfl⟩ := setV_some h
  exact S.put e r
end

/-- a target's reading -/
def gL : List Nat → TGs
  | [] => gNil
  | i :: is => gCons (gName i) (gL is)
def tgT (c : Cn) : Tg → TG
  | .nm i => gName i
  | .tup is => gTup c.K is.length (gL is)
theorem wipe_set {σ : Sg} {i : Nat} {x : Option V} : ∀ {vs : List Nat}, i ∈ vs → wipe (σ.set i x) vs = wipe σ vs
  | [], h => by cases h
  | v :: vs, h => by
    unfold wipe
    by_cases hv : i ∈ vs
    · rw [wipe_set hv]
    · rcases List.mem_cons.mp h with e | e
      · subst e
        have : ∀ (us : List Nat), i ∉ us → (wipe (σ.set i x) us).set i none = (wipe σ us).set i none := by
          intro us
          induction us with
          | nil => intro _; show (σ.set i x).set i none = σ.set i none; rw [List.set_set]
          | cons u us ih =>
            intro hu
            have h1 : i ≠ u := fun z => hu (by rw [z]; exact List.mem_cons_self)
            have h2 : i ∉ us := fun z => hu (List.mem_cons_of_mem _ z)
            show ((wipe (σ.set i x) us).set u none).set i none = ((wipe σ us).set u none).set i none
            rw [List.set_comm _ _ (Ne.symm h1), ih h2, List.set_comm _ _ h1]
        exact this vs hv
      · exact absurd e hv
theorem setVs_len : ∀ (is : List Nat) (ds : List D) (ρ ρ' : En), setVs is ds ρ = some ρ' → ds.length = is.length := by
  intro is
  induction is with
  | nil => intro ds ρ ρ' e; cases ds <;> first | rfl | cases e
  | cons i is ih =>
    intro ds ρ ρ' e
    cases ds with
    | nil => cases e
    | cons d ds =>
      simp only [setVs, Option.bind_eq_some_iff] at e
      obtain ⟨ρ1, _, e2⟩ := e
      rw [List.length_cons, List.length_cons, ih ds ρ1 ρ' e2]
theorem gLo {c : Cn} {vs : List Nat} : ∀ (is : List Nat), (∀ i ∈ is, i ∈ vs) → ∀ pin Z ρ σ H Hf us ds ρ' Q, SR c pin Z ρ σ H Hf → Reps c Hf us ds → setVs is ds ρ = some ρ' → (∀ σ', SR c pin Z ρ' σ' H Hf → wipe σ' vs = wipe σ vs → Q σ' H) → gL is us σ H Q
  | [], _, pin, Z, ρ, σ, H, Hf, us, ds, ρ', Q, S, r, e, k => by
    cases ds with
    | nil => cases r; cases e; exact ⟨rfl, k _ S rfl⟩
    | cons => cases e
  | i :: is, h, pin, Z, ρ, σ, H, Hf, us, ds, ρ', Q, S, r, e, k => by
    cases ds with
    | nil => cases e
    | cons d ds =>
      cases r with
      | cons r1 r2 =>
        simp only [setVs, Option.bind_eq_some_iff] at e
        obtain ⟨ρ1, e1, e2⟩ := e
        have S1 := S.setV e1 r1
        exact ⟨_, _, rfl, gLo is (fun j hj => h j (List.mem_cons_of_mem _ hj)) _ _ _ _ _ _ _ _ _ _ S1 r2 e2 fun σ' S' w => k σ' S' (w.trans (wipe_set (h i List.mem_cons_self)))⟩
theorem tgo {c : Cn} {vs : List Nat} (T : Tg) (h : ∀ i ∈ T.slots, i ∈ vs) : ∀ pin Z ρ σ H Hf v d ρ' Q, SR c pin Z ρ σ H Hf → Rep c Hf v d → asgT T d ρ = some ρ' → (∀ σ', SR c pin Z ρ' σ' H Hf → wipe σ' vs = wipe σ vs → Q σ' H) → tgT c T v σ H Q := by
  intro pin Z ρ σ H Hf v d ρ' Q S r e k
  cases T with
  | nm i => exact k _ (S.setV e r) (wipe_set (h i List.mem_cons_self))
  | tup is =>
    cases d <;> try exact no_some e
    rename_i ds
    have e : setVs is ds ρ = some ρ' := e
    cases r with
    | tup hh r => exact ⟨_, _, rfl, SqT.of (S.f _ _ hh), by rw [r.length, setVs_len is ds ρ ρ' e], gLo is h _ _ _ _ _ _ _ _ _ _ S r e k⟩
section
variable {X : Cx} {c : Cn} {pos : Pos}
theorem asg_cons {e : Expr} {es : List Expr} {env : Env} (h : noStar e = true) : (assignEach (e :: es) env).map (·.2) = assign e env :: (assignEach es env).map (·.2) := by
  cases e <;> first | rfl | cases h
theorem asg_noStar : ∀ {es : List Expr} {env : Env}, es.all noStar = true → (assignEach es env).findIdx? (·.1) = none ∧ (assignEach es env).length = es.length
  | [], _, _ => ⟨rfl, rfl⟩
  | e :: es, env, h => by
    rw [List.all_cons, Bool.and_eq_true] at h
    obtain ⟨h1, h2⟩ := asg_noStar (es := es) (env := env) h.2
    have : assignEach (e :: es) env = (false, assign e env) :: assignEach es env := by
      cases e <;> first | rfl | cases h.1
    rw [this]
    refine ⟨?_, by rw [List.length_cons, List.length_cons, h2]⟩
    rw [List.findIdx?_cons]
    simp [h1]
theorem g_cons {i : Nat} {x : Str} {is : List Nat} {es : List Expr} (h : PG X (.Name x pos) (gName i)) (hs : PGs X es (gL is)) : PGs X (.Name x pos :: es) (gL (i :: is)) := pgs_cons h hs (asg_cons rfl)
theorem g_tup {is : List Nat} {es : List Expr} {kk : Nat} (hK : X.K = c.K) (hc : X.calm = true) (hn : es.all noStar = true) (hl : es.length = is.length) (hs : PGs X es (gL is)) : PG X (.Tuple es kk pos) (tgT c (.tup is)) := by
  obtain ⟨h1, h2⟩ := asg_noStar (env := X.env) hn
  show PG X _ (gTup c.K is.length (gL is))
  rw [← hK]
  exact pg_tup hc hs (h2.trans hl) h1
end

/-! ### statements -/
inductive Fl where
  | nx | bk | ct | rt (d : D) | rf (xs : List D)
def GoS (c : Cn) (pin : Addr) (Z : Hp) (W : WX) (Hf : Hp) (r : R Fl) (E : Ends) : Prop :=
  match r with
  | .ok (.rf xs) ρ => ∀ p vs σ H Hf', Same Hf Hf' → SR c pin Z ρ σ H Hf' → H p = some (.lst vs) → Hf' p = none → Z p = none → Reps c Hf' vs xs → E.rt (.ref p) H
  | .ok .nx ρ => ∀ σ H Hf', Same Hf Hf' → SR c pin Z ρ σ H Hf' → E.nx σ H
  | .ok .bk ρ => ∀ σ H Hf', Same Hf Hf' → SR c pin Z ρ σ H Hf' → E.bk σ H
  | .ok .ct ρ => ∀ σ H Hf', Same Hf Hf' → SR c pin Z ρ σ H Hf' → E.ct σ H
  | .ok (.rt d) ρ => ∀ v σ H Hf', Same Hf Hf' → SR c pin Z ρ σ H Hf' → Rep c Hf' v d → E.rt v H
  | .err x ρ => ∀ σ H Hf', Same Hf Hf' → SR c pin Z ρ σ H Hf' → W (.ref (c.C x)) none σ H
  | .bad => False
def tS (c : Cn) (W : WX) (f : En → R Fl) : TS := fun E σ H => ∃ pin Z ρ Hf, SR c pin Z ρ σ H Hf ∧ GoS c pin Z W Hf (f ρ) E
theorem GoS.mono {c : Cn} {pin : Addr} {Z : Hp} {W : WX} {Hf Hf' : Hp} {r : R Fl} {E : Ends} (s : Same Hf Hf') (g : GoS c pin Z W Hf r E) : GoS c pin Z W Hf' r E := by
  cases r with
  | ok a ρ => cases a <;> first | exact fun σ H Hf'' s' => g σ H Hf'' (s.trans s') | exact fun v σ H Hf'' s' => g v σ H Hf'' (s.trans s') | exact fun p v σ H Hf'' s' => g p v σ H Hf'' (s.trans s')
  | err x ρ => exact fun σ H Hf'' s' => g σ H Hf'' (s.trans s')
  | bad => exact g
/-- a value is reckoned, then a statement's end -/
theorem GoS.seqE {α β : Type} {c : Cn} {pin : Addr} {Z : Hp} {W : WX} {σ : Sg} {Hf : Hp} {rel : Rel α β} {r : R α} {k : α → En → R Fl} {E : Ends} {Q1 : β → Hp → Prop} (g : GoS c pin Z W Hf (r.bind k) E)
    (h : ∀ a ρ1 b H1 Hf1, Same Hf Hf1 → SR c pin Z ρ1 σ H1 Hf1 → rel Z ρ1 σ Hf1 H1 b a → GoS c pin Z W Hf1 (k a ρ1) E → Q1 b H1) : Go c pin Z W σ Hf rel r Q1 := by
  cases r with
  | ok a ρ => exact fun b H Hf'' s' S e => h a ρ b H Hf'' s' S e (GoS.mono s' g)
  | err x ρ => exact fun H Hf'' s' S => g σ H Hf'' s' S
  | bad => exact g
theorem tS.seqE {α β : Type} {c : Cn} {W : WX} {σ : Sg} {H : Hp} {rel : Rel α β} {f : En → R α} {k : α → En → R Fl} {E : Ends} {Q1 : β → Hp → Prop} (g : tS c W (fun ρ => (f ρ).bind k) E σ H)
    (h : ∀ pin Z a ρ1 b H1 Hf1, SR c pin Z ρ1 σ H1 Hf1 → rel Z ρ1 σ Hf1 H1 b a → GoS c pin Z W Hf1 (k a ρ1) E → Q1 b H1) : tG c W rel f σ H Q1 := by
  obtain ⟨pin, Z, ρ, Hf, S, g⟩ := g
  exact ⟨pin, Z, ρ, Hf, S, GoS.seqE g fun a ρ1 b H1 Hf1 _ S1 r1 g1 => h pin Z a ρ1 b H1 Hf1 S1 r1 g1⟩
/-- one statement, then what follows -/
def thenS (k : En → R Fl) (f : Fl) (ρ : En) : R Fl :=
  match f with
  | .nx => k ρ
  | f => .ok f ρ
theorem GoS.seqS {c : Cn} {pin : Addr} {Z : Hp} {W : WX} {Hf : Hp} {r : R Fl} {k : En → R Fl} {E : Ends} (g : GoS c pin Z W Hf (r.bind (thenS k)) E) : GoS c pin Z W Hf r { E with nx := tS c W k E } := by
  cases r with
  | ok a ρ =>
    cases a with
    | nx => exact fun σ H Hf' s S => ⟨pin, Z, ρ, Hf', S, GoS.mono s g⟩
    | bk => exact g
    | ct => exact g
    | rt d => exact g
    | rf xs => exact g
  | err x ρ => exact g
  | bad => exact g

section
variable {X : Cx} {c : Cn} {W : WX} {pos : Pos} {st : Stmt} {rest : List Stmt} {e : Expr} {f k : En → R Fl} {fe : En → R D}
theorem t_nil : PSs X [] (tS c W fun ρ => .ok .nx ρ) := pss_of pss_nil fun E σ H ⟨pin, Z, ρ, Hf, S, g⟩ => g σ H Hf (Same.refl _) S
theorem t_cons (h : PS X st (tS c W f)) (hr : PSs X rest (tS c W k)) : PSs X (st :: rest) (tS c W fun ρ => (f ρ).bind (thenS k)) :=
  pss_of (pss_cons h hr) fun E σ H ⟨pin, Z, ρ, Hf, S, g⟩ => ⟨pin, Z, ρ, Hf, S, GoS.seqS g⟩
theorem t_pass : PS X (.Pass pos) (tS c W fun ρ => .ok .nx ρ) := ps_of ps_pass fun E σ H ⟨pin, Z, ρ, Hf, S, g⟩ => g σ H Hf (Same.refl _) S
theorem t_break : PS X (.Break pos) (tS c W fun ρ => .ok .bk ρ) := ps_of ps_break fun E σ H ⟨pin, Z, ρ, Hf, S, g⟩ => g σ H Hf (Same.refl _) S
theorem t_cont : PS X (.Continue pos) (tS c W fun ρ => .ok .ct ρ) := ps_of ps_continue fun E σ H ⟨pin, Z, ρ, Hf, S, g⟩ => g σ H Hf (Same.refl _) S
def isComp : Expr → Bool
  | .ListComp .. => true
  | .SetComp .. => true
  | .DictComp .. => true
  | _ => false
theorem noSwap {e : Expr} {o : Option Expr} {l : Nat} {env : Env} (h : isComp e = false) : swapsWith e o l env = pure false := by
  cases e <;> first | rfl | cases h
theorem t_expr (hs : isComp e = false) (he : PE X e (tE c W fe)) : PS X (.Expr e pos) (tS c W fun ρ => (fe ρ).bind fun _ ρ1 => .ok .nx ρ1) :=
  ps_of (ps_expr he (noSwap hs)) fun E σ H h => tS.seqE h fun pin Z a ρ1 b H1 Hf1 S1 r1 g => g σ H1 Hf1 (Same.refl _) S1
theorem t_doc {x : Str} {j : Nat} {p : Pos} : PS X (.Expr (.Constant (.str x) j p) pos) (tS c W fun ρ => .ok .nx ρ) := ps_of ps_doc fun E σ H ⟨pin, Z, ρ, Hf, S, g⟩ => g σ H Hf (Same.refl _) S
theorem t_ret (he : PE X e (tE c W fe)) : PS X (.Return (some e) pos) (tS c W fun ρ => (fe ρ).bind fun d ρ1 => .ok (.rt d) ρ1) :=
  ps_of (ps_ret he) fun E σ H h => tS.seqE h fun pin Z a ρ1 b H1 Hf1 S1 r1 g => g b σ H1 Hf1 (Same.refl _) S1 r1
theorem t_retF {ff : En → R (List D)} (he : PE X e (tF c W ff)) : PS X (.Return (some e) pos) (tS c W fun ρ => (ff ρ).bind fun xs ρ1 => .ok (.rf xs) ρ1) :=
  ps_of (ps_ret he) fun E σ H h => tS.seqE h fun pin Z a ρ1 b H1 Hf1 S1 ⟨p, vs, e1, e2, e3, e4, e5, e6⟩ g => by subst e1; exact g p vs σ H1 Hf1 (Same.refl _) S1 e2 e3 e4 e6
theorem t_retN : PS X (.Return none pos) (tS c W fun ρ => .ok (.rt .non) ρ) := ps_of ps_retN fun E σ H ⟨pin, Z, ρ, Hf, S, g⟩ => g .non σ H Hf (Same.refl _) S .non
variable {a b : List Stmt} {fa fb : En → R Fl} {ft : En → R Bool}
theorem t_if (hc : PT X e (tT c W ft)) (ha : PSs X a (tS c W fa)) (hb : PSs X b (tS c W fb)) : PS X (.If e a b pos) (tS c W fun ρ => (ft ρ).bind fun k ρ1 => if k = true then fa ρ1 else fb ρ1) := by
  refine ps_of (ps_if hc ha hb) fun E σ H h => ?_
  refine tS.seqE h fun pin Z k ρ1 k' H1 Hf1 S1 r1 g => ?_
  cases r1
  cases k with
  | true => exact iteT ⟨pin, Z, ρ1, Hf1, S1, g⟩
  | false => exact iteF ⟨pin, Z, ρ1, Hf1, S1, g⟩
/-- x = e -/
theorem t_asg {i : Nat} {x : Str} {p : Pos} (hN : X.N.Nodup) (hi : X.N[i]? = some x) (hx : Loc X.env.scope x) (hf : X.fn x = true ∨ X.env.scope.names.lookup x = some .local) (hs : isComp e = false) (he : PE X e (tE c W fe)) :
    PS X (.Assign [.Name x p] e pos) (tS c W fun ρ => (fe ρ).bind fun d ρ1 => (R.lift (setV i d ρ1) ρ1).bind fun ρ2 _ => .ok .nx ρ2) := by
  refine ps_of (ps_set hN hi hx he (noSwap hs) hf) fun E σ H h => ?_
  refine tS.seqE h fun pin Z d ρ1 v H1 Hf1 S1 r1 g => ?_
  cases e : setV i d ρ1 with
  | none => rw [e] at g; exact g.elim
  | some ρ2 => rw [e] at g; exact g _ _ _ (Same.refl _) (S1.setV e r1)
/-- a target, any -/
theorem t_asgT {tg : Expr} {T : Tg} (hg : PG X tg (tgT c T)) (hs : swapsWithSole [tg] e pos.line X.env = pure false) (hw : swappedStores [tg] e X.env = pure none) (ht : noStar tg = true) (he : PE X e (tE c W fe)) :
    PS X (.Assign [tg] e pos) (tS c W fun ρ => (fe ρ).bind fun d ρ1 => (R.lift (asgT T d ρ1) ρ1).bind fun ρ2 _ => .ok .nx ρ2) := by
  refine ps_of (ps_asg he hg hs hw (asg_cons ht)) fun E σ H h => ?_
  refine tS.seqE h fun pin Z d ρ1 v H1 Hf1 S1 r1 gg => ?_
  cases e : asgT T d ρ1 with
  | none => rw [e] at gg; exact gg.elim
  | some ρ2 =>
    rw [e] at gg
    exact tgo (vs := T.slots) T (fun _ h => h) _ _ _ _ _ _ _ _ _ _ S1 r1 e fun σ' S' _ => gg σ' _ _ (Same.refl _) S'
/-- x op= e -/
theorem t_aug {i : Nat} {x : Str} {op : Operator} {p : Pos} (hN : X.N.Nodup) (hi : X.N[i]? = some x) (hx : Loc X.env.scope x) (hf : X.fn x = true ∨ X.env.scope.names.lookup x = some .local) (he : PE X e (tE c W fe)) :
    PS X (.AugAssign (.Name x p) op e pos) (tS c W fun ρ => (rdL ρ i).bind fun x0 ρ0 => (fe ρ0).bind fun d ρ1 => (R.lift ((aop2 op x0 d).bind fun z => setV i z ρ1) ρ1).bind fun ρ2 _ => .ok .nx ρ2) := by
  refine ps_of (ps_aug (ti := rOp c (aop2 op)) hN hi hx he (fun pins s σ H x y v u Q I rx ry q => iopr op pins s σ H x y v u Q I rx ry q) hf) fun E σ H ⟨pin, Z, ρ, Hf, S, g⟩ => ?_
  dsimp only at g
  cases h0 : rdL ρ i with
  | err => unfold rdL at h0; split at h0 <;> cases h0
  | bad => rw [h0] at g; exact g.elim
  | ok x0 ρ0 =>
    rw [h0] at g
    obtain ⟨e0, v, ev, rl⟩ := rdL_at S h0
    subst e0
    refine ⟨v, ev, pin, Z, ρ0, Hf, S, GoS.seqE g fun d ρ1 y H1 Hf1 s1 S1 r1 g1 => ?_⟩
    cases ha : aop2 op x0 d with
    | none => rw [ha] at g1; exact g1.elim
    | some z =>
      rw [ha] at g1
      cases hv : setV i z ρ1 with
      | none => simp only [Option.bind_some, hv] at g1; exact g1.elim
      | some ρ2 =>
        simp only [Option.bind_some, hv, R.lift, R.bind] at g1
        have rx : Rep c Hf1 v x0 := by
          rcases rl with rl | ⟨p, vs, ds, rfl, rfl, _⟩
          · exact rl.mono s1
          · cases ds <;> cases op <;> cases d <;> cases ha
        exact ⟨pin, Z, ρ1, σ, Hf1, x0, d, z, S1, rx, r1, ha, fun w H' Hf' s' S' r' => g1 _ _ _ s' (S'.setV hv r')⟩
end
end Ev

end
section
set_option maxHeartbeats 2000000
namespace Ev
open PySem PySem.Spec PyProof.Rows L2

/-! ### for -/
def forL (g : D → En → Option En) (fb : En → R Fl) : List D → En → R Fl
  | [], ρ => .ok .nx ρ
  | d :: ds, ρ =>
    match g d ρ with
    | none => .bad
    | some ρ1 => (fb ρ1).bind fun fl ρ2 =>
      match fl with
      | .nx => forL g fb ds ρ2
      | .ct => forL g fb ds ρ2
      | .bk => .ok .nx ρ2
      | .rt d => .ok (.rt d) ρ2
      | .rf xs => .ok (.rf xs) ρ2
/-- while, at most n turns -/
def whileL (ft : En → R Bool) (fb : En → R Fl) : Nat → En → R Fl
  | 0, _ => .bad
  | n + 1, ρ => (ft ρ).bind fun k ρ1 => if k = true then (fb ρ1).bind fun fl ρ2 =>
      match fl with
      | .nx => whileL ft fb n ρ2
      | .ct => whileL ft fb n ρ2
      | .bk => .ok .nx ρ2
      | .rt d => .ok (.rt d) ρ2
      | .rf xs => .ok (.rf xs) ρ2
    else .ok .nx ρ1
theorem drop_get {α : Type} {xs : List α} {i : Nat} {x : α} (h : xs[i]? = some x) : xs.drop i = x :: xs.drop (i + 1) := by
  obtain ⟨h1, e⟩ := List.getElem?_eq_some_iff.mp h
  rw [List.drop_eq_getElem_cons h1, e]
section
variable {X : Cx} {c : Cn} {W : WX} {pos : Pos} {tg iter e : Expr} {body : List Stmt} {fi : En → R (List D)} {fb : En → R Fl} {ft : En → R Bool} {T : Tg}
theorem t_for (hp : PassesOwn (model X.prog X.w) X.A X.env X.xe) (hc : X.calm = true) (hi : PI X tg iter (tI c W fi)) (pg : PG X tg (tgT c T)) (hb : PSs X body (tS c W fb)) (hs : ∀ x, foldedSetIterable iter X.env x = pure x) :
    PS X (.For tg iter body [] pos) (tS c W fun ρ => (fi ρ).bind fun items ρ1 => forL (asgT T) fb items ρ1) := by
  refine ps_of (ps_for hp hc hi pg hb hs) fun E σ H h => ?_
  refine tS.seqE h fun pin Z items ρ1 J H1 Hf1 S1 y gg => ?_
  refine ⟨fun i m σ' H' => m = items.length - i ∧ i ≤ items.length ∧ ∃ ρ' Hf', Same Hf1 Hf' ∧ SR c pin Z ρ' σ' H' Hf' ∧ GoS c pin Z W Hf' (forL (asgT T) fb (items.drop i) ρ') E, ⟨items.length, by simp, Nat.zero_le _, ρ1, Hf1, Same.refl _, S1, by simpa using gg⟩, ?_⟩
  rintro i m σ' H' ⟨rfl, hi, ρ', Hf', s', S', g'⟩
  by_cases hlt : i < items.length
  · refine .inr ⟨y.go i _ _ _ _ _ _ s' S' hlt, fun σ'' H'' => ∃ ρ'' Hf'', Same Hf1 Hf'' ∧ SR c pin Z ρ'' σ'' H'' Hf'' ∧ GoS c pin Z W Hf'' (forL (asgT T) fb (items.drop (i + 1)) ρ'') E, fun σ'' H'' n => ⟨_, Nat.lt_of_lt_of_le (Nat.sub_lt_sub_left hlt (Nat.lt_succ_self i)) (Nat.le_refl _), rfl, hlt, n⟩, fun x H2 yy => ?_⟩
    obtain ⟨d, hd⟩ := lt_get hlt
    obtain ⟨Hf2, s2, S2, r2⟩ := y.yld i _ _ _ _ _ _ _ _ _ s' S' hd yy
    rw [drop_get hd] at g'
    simp only [forL] at g'
    cases ha : asgT T d ρ' with
    | none => rw [ha] at g'; exact g'.elim
    | some ρ2 =>
      rw [ha] at g'
      refine tgo (vs := T.slots) T (fun _ h => h) _ _ _ _ _ _ _ _ _ _ S2 r2 ha fun σ3 S3 _ => ⟨pin, Z, ρ2, Hf2, S3, ?_⟩
      have g2 := GoS.mono s2 g'
      have s12 := s'.trans s2
      dsimp only at g2
      cases hr : fb ρ2 with
      | ok fl ρ3 =>
        rw [hr] at g2
        cases fl with
        | nx => exact fun σ4 H4 Hf4 s4 S4 => ⟨ρ3, Hf4, s12.trans s4, S4, GoS.mono s4 g2⟩
        | ct => exact fun σ4 H4 Hf4 s4 S4 => ⟨ρ3, Hf4, s12.trans s4, S4, GoS.mono s4 g2⟩
        | bk => exact g2
        | rt d => exact g2
        | rf xs => exact g2
      | err x ρ3 => rw [hr] at g2; exact g2
      | bad => rw [hr] at g2; exact g2
  · have ei : i = items.length := by omega
    subst ei
    rw [List.drop_length] at g'
    exact .inl ⟨y.stop _ _ _ _ _ _ s' S', g' _ _ _ (Same.refl _) S'⟩
theorem t_while {n : Nat} (hp : PassesOwn (model X.prog X.w) X.A X.env X.xe) (hc : PT X e (tT c W ft)) (hb : PSs X body (tS c W fb)) : PS X (.While e body [] pos) (tS c W (whileL ft fb n)) := by
  refine ps_of (ps_while hp hc hb) fun E σ H ⟨pin, Z, ρ, Hf, S, gg⟩ => ?_
  refine ⟨fun m σ' H' => ∃ ρ' Hf', SR c pin Z ρ' σ' H' Hf' ∧ GoS c pin Z W Hf' (whileL ft fb m ρ') E, ⟨n, ρ, Hf, S, gg⟩, ?_⟩
  rintro m σ' H' ⟨ρ', Hf', S', g'⟩
  cases m with
  | zero => exact g'.elim
  | succ m =>
    refine ⟨pin, Z, ρ', Hf', S', GoS.seqE (r := ft ρ') g' fun k ρ1 k' H1 Hf1 s1 S1 r1 g1 => ?_⟩
    cases r1
    cases k with
    | false => exact iteF (g1 _ _ _ (Same.refl _) S1)
    | true =>
      refine iteT ⟨fun σ'' H'' => ∃ ρ'' Hf'', SR c pin Z ρ'' σ'' H'' Hf'' ∧ GoS c pin Z W Hf'' (whileL ft fb m ρ'') E, fun σ'' H'' n => ⟨m, Nat.lt_succ_self m, n⟩, pin, Z, ρ1, Hf1, S1, ?_⟩
      simp only [if_true] at g1
      cases hr : fb ρ1 with
      | ok fl ρ3 =>
        rw [hr] at g1
        cases fl with
        | nx => exact fun σ4 H4 Hf4 s4 S4 => ⟨ρ3, Hf4, S4, GoS.mono s4 g1⟩
        | ct => exact fun σ4 H4 Hf4 s4 S4 => ⟨ρ3, Hf4, S4, GoS.mono s4 g1⟩
        | bk => exact g1
        | rt d => exact g1
        | rf xs => exact g1
      | err x ρ3 => rw [hr] at g1; exact g1
      | bad => rw [hr] at g1; exact g1
end

/-! ### list comprehensions -/
def R.ne {α : Type} : R α → R α
  | .ok a ρ => .ok a ρ
  | .err _ _ => .bad
  | .bad => .bad
@[simp] theorem R.ne_ok {α : Type} (a : α) (ρ : En) : (R.ok a ρ).ne = .ok a ρ := (rfl)
@[simp] theorem R.ne_err {α : Type} (x : Nat) (ρ : En) : (R.err x ρ : R α).ne = .bad := (rfl)
@[simp] theorem R.ne_bad {α : Type} : (R.bad : R α).ne = .bad := (rfl)
def wipeR (ρ : En) : List Nat → En
  | [] => ρ
  | v :: vs => (wipeR ρ vs).set v .un
/-- the names of the comprehension have behind it what they had ahead of it -/
def backR (ρ0 ρ1 : En) : List Nat → En
  | [] => ρ1
  | v :: vs => (backR ρ0 ρ1 vs).set v (match ρ0[v]? with | some (.va d) => .va d | _ => .un)
def compL (g : D → En → Option En) (ft : En → R Bool) (fe : En → R D) (vs : List Nat) : List D → En → R (List D)
  | [], ρ => .ok [] ρ
  | d :: ds, ρ =>
    match g d ρ with
    | none => .bad
    | some ρ1 => (ft ρ1).ne.bind fun k ρ2 =>
      if k = true then (fe ρ2).ne.bind fun x ρ3 => (compL g ft fe vs ds (wipeR ρ3 vs)).bind fun xs ρ4 => .ok (x :: xs) ρ4
      else compL g ft fe vs ds (wipeR ρ2 vs)
def W0 : WX := fun _ _ _ _ => False
section
variable {c : Cn} {pin : Addr} {Z : Hp} {ρ ρ' : En} {σ : Sg} {H Hf : Hp}
theorem wipeR_len : ∀ (vs : List Nat), (wipeR ρ vs).length = ρ.length
  | [] => rfl
  | v :: vs => by show ((wipeR ρ vs).set v .un).length = _; rw [List.length_set, wipeR_len vs]
theorem wipeR_get : ∀ {vs : List Nat} {i : Nat} {s : Sl}, (wipeR ρ vs)[i]? = some s → (s = .un) ∨ (ρ[i]? = some s ∧ i ∉ vs)
  | [], _, _, h => .inr ⟨h, by simp⟩
  | v :: vs, i, s, h => by
    rcases set_get (show ((wipeR ρ vs).set v .un)[i]? = some s from h) with ⟨_, e, _⟩ | ⟨e1, e2⟩
    · exact .inl e
    · rcases wipeR_get e2 with e | ⟨e3, e4⟩
      · exact .inl e
      · exact .inr ⟨e3, by simp only [List.mem_cons, not_or]; exact ⟨fun z => e1 z.symm, e4⟩⟩
theorem wipe_get : ∀ {vs : List Nat} {i : Nat}, i ∉ vs → (wipe σ vs)[i]? = σ[i]?
  | [], _, _ => rfl
  | v :: vs, i, h => by
    show ((wipe σ vs).set v none)[i]? = _
    rw [List.getElem?_set_ne (fun z => h (by rw [z]; exact List.mem_cons_self)), wipe_get fun z => h (List.mem_cons_of_mem _ z)]
theorem SR.wipe (S : SR c pin Z ρ σ H Hf) (vs : List Nat) : SR c pin Z (wipeR ρ vs) (L2.wipe σ vs) H Hf := by
  refine ⟨S.z, S.f, S.dj, by rw [wipeR_len, wipe_length]; exact S.len, fun i s e => ?_, fun i j io io' xs ys p hij ei ej si sj => ?_⟩
  · rcases wipeR_get e with rfl | ⟨e1, e2⟩
    · trivial
    · rw [wipe_get e2]; exact S.sl i s e1
  · rcases wipeR_get ei with e | ⟨e1, e2⟩
    · cases e
    rcases wipeR_get ej with e | ⟨e3, e4⟩
    · cases e
    rw [wipe_get e2] at si
    rw [wipe_get e4] at sj
    exact S.ap i j _ _ _ _ p hij e1 e3 si sj
/-- wiped already at the slots -/
theorem SR.wipe' {σ' : Sg} (S : SR c pin Z ρ σ' H Hf) {vs : List Nat} (h : L2.wipe σ' vs = L2.wipe σ vs) : SR c pin Z (wipeR ρ vs) (L2.wipe σ vs) H Hf := by
  rw [← h]; exact S.wipe vs
theorem backR_len {ρ0 : En} : ∀ (vs : List Nat), (backR ρ0 ρ vs).length = ρ.length
  | [] => rfl
  | v :: vs => by show ((backR ρ0 ρ vs).set v _).length = _; rw [List.length_set, backR_len vs]
theorem backR_get {ρ0 : En} : ∀ {vs : List Nat} {i : Nat} {s : Sl}, (backR ρ0 ρ vs)[i]? = some s → s = .un ∨ (∃ d, s = .va d ∧ ρ0[i]? = some (.va d)) ∨ (ρ[i]? = some s ∧ i ∉ vs)
  | [], _, _, h => .inr (.inr ⟨h, by simp⟩)
  | v :: vs, i, s, h => by
    rcases set_get (show ((backR ρ0 ρ vs).set v _)[i]? = some s from h) with ⟨e0, e, _⟩ | ⟨e1, e2⟩
    · subst e0
      split at e
      · rename_i d hd; exact .inr (.inl ⟨d, e, hd⟩)
      · exact .inl e
    · rcases backR_get e2 with e | e | ⟨e3, e4⟩
      · exact .inl e
      · exact .inr (.inl e)
      · exact .inr (.inr ⟨e3, by simp only [List.mem_cons, not_or]; exact ⟨fun z => e1 z.symm, e4⟩⟩)
theorem SR.back {ρ0 : En} {Hf0 : Hp} {vs : List Nat} {H0 : Hp} (S : SR c pin Z ρ (L2.wipe σ vs) H Hf) (S0 : SR c pin Z ρ0 σ H0 Hf0) (s : Same Hf0 Hf) : SR c pin Z (backR ρ0 ρ vs) σ H Hf := by
  refine ⟨S.z, S.f, S.dj, by rw [backR_len, S.len, wipe_length], fun i sl e => ?_, fun i j io io' xs ys p hij ei ej si sj => ?_⟩
  · rcases backR_get e with rfl | ⟨d, rfl, e1⟩ | ⟨e1, e2⟩
    · trivial
    · obtain ⟨v, e3, r⟩ := S0.sl i _ e1
      exact ⟨v, e3, r.mono s⟩
    · have q := S.sl i sl e1
      rw [wipe_get e2] at q
      exact q
  · rcases backR_get ei with e | ⟨d, e, _⟩ | ⟨e1, e2⟩
    · cases e
    · cases e
    rcases backR_get ej with e | ⟨d, e, _⟩ | ⟨e3, e4⟩
    · cases e
    · cases e
    refine S.ap i j _ _ _ _ p hij e1 e3 ?_ ?_
    · rw [wipe_get e2]; exact si
    · rw [wipe_get e4]; exact sj
/-- one list more stands still: the new list at P -/
theorem SR.guard (S : SR c pin Z ρ σ H Hf) {P : Addr} {o : HO} (h : H P = some o) (hf : Hf P = none) (hz : Z P = none) (aw : Away ρ σ P) : SR c pin (upd Z P o) ρ σ H Hf := by
  refine ⟨fun b u e => ?_, S.f, fun b u e ne => ?_, S.len, fun i s e => ?_, S.ap⟩
  · by_cases hb : b = P
    · subst hb; rw [upd_same] at e; cases e; exact h
    · rw [upd_ne hb] at e; exact S.z _ _ e
  · by_cases hb : b = P
    · subst hb; exact hf
    · rw [upd_ne hb] at e; exact S.dj _ _ e ne
  · have q := S.sl i s e
    cases s with
    | un => trivial
    | va d => exact q
    | ow io ds =>
      obtain ⟨p, vs, e1, e2, e3, e4, r, pn⟩ := q
      refine ⟨p, vs, e1, e2, e3, ?_, r, pn⟩
      rw [upd_ne (fun z => by subst z; exact aw i io ds e e1)]
      exact e4
/-- .. and may be written again -/
theorem SR.unguard {P : Addr} {o : HO} (S : SR c pin (upd Z P o) ρ σ H Hf) (hz : Z P = none) (nt : NT o) : SR c pin Z ρ σ H Hf ∧ H P = some o ∧ Hf P = none ∧ Away ρ σ P := by
  refine ⟨⟨fun b u e => ?_, S.f, fun b u e ne => ?_, S.len, fun i s e => ?_, S.ap⟩, S.z _ _ upd_same, S.dj _ _ upd_same nt, fun i io xs e q => ?_⟩
  · exact S.z _ _ (by rw [upd_ne (fun z => by subst z; rw [hz] at e; cases e)]; exact e)
  · exact S.dj b u (by rw [upd_ne (fun z => by subst z; rw [hz] at e; cases e)]; exact e) ne
  · have q := S.sl i s e
    cases s with
    | un => trivial
    | va d => exact q
    | ow io ds =>
      obtain ⟨p, vs, e1, e2, e3, e4, r, pn⟩ := q
      refine ⟨p, vs, e1, e2, e3, ?_, r, pn⟩
      by_cases hp : p = P
      · subst hp; exact hz
      · rw [upd_ne hp] at e4; exact e4
  · obtain ⟨p, vs, e1, e2, e3, e4, r, pn⟩ := S.sl i _ e
    rw [q] at e1
    cases e1
    rw [upd_same] at e4
    cases e4
/-- the list at P is written -/
theorem SR.write (S : SR c pin Z ρ σ H Hf) {P : Addr} {o : HO} (hf : Hf P = none) (hz : Z P = none) (aw : Away ρ σ P) : SR c pin Z ρ σ (upd H P o) Hf := by
  refine S.grow (fun b u e => ?_) (fun b u e => ?_) (Same.refl _) S.dj fun i io xs q vs e1 e2 e _ f => ⟨?_, f⟩
  · rw [upd_ne (fun z => by subst z; rw [hz] at e; cases e)]; exact S.z _ _ e
  · rw [upd_ne (fun z => by subst z; rw [hf] at e; cases e)]; exact S.f _ _ e
  · rw [upd_ne (fun z => by subst z; exact aw i io xs e1 e2)]; exact e
end
section
variable {X : Cx} {c : Cn} {W : WX} {tg iter elt : Expr} {fi : En → R (List D)} {fe : En → R D} {ft : En → R Bool} {T : Tg} {vs : List Nat}
/-- the reading of a comprehension's walk -/
theorem comp_reads {σ : Sg} {H : Hp} {Q : VK} (hT : ∀ i ∈ T.slots, i ∈ vs)
    (h : tF c W (fun ρ => (fi ρ).bind fun items ρ1 => (compL (asgT T) ft fe vs items (wipeR ρ1 vs)).bind fun ds ρ2 => .ok ds (backR ρ1 ρ2 vs)) σ H Q) : tLc (fun σ H R => tJ c W fi σ H fun J H1 => Small H1 → R J H1) (tgT c T) (tT c W0 ft) (tE c W0 fe) vs σ H Q := by
  obtain ⟨pin, Z, ρ, Hf, S, gg⟩ := h
  dsimp only at gg
  refine ⟨pin, Z, ρ, Hf, S, ?_⟩
  cases hfi : fi ρ with
  | err x ρ1 => rw [hfi] at gg; exact gg
  | bad => rw [hfi] at gg; exact gg
  | ok items ρ1 =>
  rw [hfi] at gg
  intro J H1 Hf1 s1 S1 y hsm P nP
  have hlen := y.2 hsm
  have y := y.1
  simp only [R.bind_ok] at gg
  have gg := Go.mono s1 gg
  -- behind i turns: acc is made, the rest gives what is left of the whole
  let Inv' : Nat → Hp → Prop := fun i H' => i ≤ items.length ∧ ∃ ρ' Hf' acc us, Same Hf1 Hf' ∧ us.length ≤ i ∧ SR c pin (upd Z P (.lst acc)) ρ' (wipe σ vs) H' Hf' ∧ Reps c Hf' acc us ∧
    Go c pin Z W σ Hf' (relF c) ((compL (asgT T) ft fe vs (items.drop i) ρ').bind fun ds ρ2 => .ok (us ++ ds) (backR ρ1 ρ2 vs)) Q
  have zP : Z P = none := S1.z.free nP
  have fP : Hf1 P = none := S1.f.free nP
  have start : Inv' 0 (upd H1 P (.lst [])) := by
    refine ⟨Nat.zero_le _, wipeR ρ1 vs, Hf1, [], [], Same.refl _, Nat.le_refl _, ?_, .nil, by simpa using gg⟩
    have Sw := (S1.new (o := .lst []) nP).wipe vs
    refine Sw.guard upd_same fP zP fun i io xs e q => ?_
    obtain ⟨p, us, e1, e2, e3, e4, r, pn⟩ := (S1.wipe vs).sl i _ e
    rw [q] at e1
    cases e1
    rw [nP] at e2
    cases e2
  refine ⟨fun i m H' => m = items.length - i ∧ Inv' i H', ⟨items.length, by simp, start⟩, ?_⟩
  rintro i m H' ⟨rfl, hi, ρ', Hf', acc, us, s', hus, S', ra, g'⟩
  by_cases hlt : i < items.length
  · refine .inr ⟨y.go i _ _ _ _ _ _ s' S' hlt, fun H'' => Inv' (i + 1) H'', fun H'' n => ⟨_, Nat.lt_of_lt_of_le (Nat.sub_lt_sub_left hlt (Nat.lt_succ_self i)) (Nat.le_refl _), rfl, n⟩, fun x H2 yy => ?_⟩
    obtain ⟨d, hd⟩ := lt_get hlt
    obtain ⟨Hf2, s2, S2, r2⟩ := y.yld i _ _ _ _ _ _ _ _ _ s' S' hd yy
    rw [drop_get hd] at g'
    simp only [compL] at g'
    cases ha : asgT T d ρ' with
    | none => rw [ha] at g'; exact g'.elim
    | some ρ2 =>
      rw [ha] at g'
      refine tgo T hT _ _ _ _ _ _ _ _ _ _ S2 r2 ha fun σ3 S3 hw3 => ⟨hw3.trans ?_, ?_⟩
      · have : ∀ (us : List Nat) (τ : Sg), wipe (wipe τ us) us = wipe τ us := by
          intro us
          induction us with
          | nil => intro τ; rfl
          | cons u us ih =>
            intro τ
            show (wipe ((wipe τ us).set u none) us).set u none = (wipe τ us).set u none
            have gen : ∀ (ws : List Nat) (τ : Sg), (wipe (τ.set u none) ws).set u none = (wipe τ ws).set u none := by
              intro ws
              induction ws with
              | nil => intro τ; show (τ.set u none).set u none = _; rw [List.set_set]; rfl
              | cons w ws ihw =>
                intro τ
                show ((wipe (τ.set u none) ws).set w none).set u none = ((wipe τ ws).set w none).set u none
                by_cases e : w = u
                · subst e; rw [ihw]
                · rw [List.set_comm _ _ e, ihw, List.set_comm _ _ (Ne.symm e)]
            rw [gen, ih]
        exact this vs σ
      refine ⟨pin, upd Z P (.lst acc), ρ2, Hf2, S3, ?_⟩
      have g2 := Go.mono s2 g'
      have s12 := s'.trans s2
      dsimp only at g2
      have ww : ∀ {τ : Sg}, wipe τ vs = wipe (wipe σ vs) vs → wipe τ vs = wipe σ vs := fun {τ} e => by
        rw [e]
        have : ∀ (us : List Nat) (τ : Sg), wipe (wipe τ us) us = wipe τ us := by
          intro us
          induction us with
          | nil => intro τ; rfl
          | cons u us ih =>
            intro τ
            show (wipe ((wipe τ us).set u none) us).set u none = (wipe τ us).set u none
            have gen : ∀ (ws : List Nat) (τ : Sg), (wipe (τ.set u none) ws).set u none = (wipe τ ws).set u none := by
              intro ws
              induction ws with
              | nil => intro τ; show (τ.set u none).set u none = _; rw [List.set_set]; rfl
              | cons w ws ihw =>
                intro τ
                show ((wipe (τ.set u none) ws).set w none).set u none = ((wipe τ ws).set w none).set u none
                by_cases e : w = u
                · subst e; rw [ihw]
                · rw [List.set_comm _ _ e, ihw, List.set_comm _ _ (Ne.symm e)]
            rw [gen, ih]
        exact this vs σ
      cases hr : ft ρ2 with
      | err x ρ3 => rw [hr] at g2; exact g2.elim
      | bad => rw [hr] at g2; exact g2.elim
      | ok k ρ3 =>
        rw [hr] at g2
        simp only [R.ne_ok, R.bind_ok] at g2
        intro k' H4 Hf4 s4 S4 e4
        cases e4
        have g4 := Go.mono s4 g2
        have s14 := s12.trans s4
        cases k with
        | false =>
          refine iteF ⟨hlt, wipeR ρ3 vs, Hf4, acc, us, s14, by omega, S4.wipe' (ww hw3), (ra.mono s2).mono s4, ?_⟩
          simpa using g4
        | true =>
          refine iteT ⟨pin, upd Z P (.lst acc), ρ3, Hf4, S4, ?_⟩
          simp only [if_true] at g4
          cases hx : fe ρ3 with
          | err x ρ3 => rw [hx] at g4; exact g4.elim
          | bad => rw [hx] at g4; exact g4.elim
          | ok z ρ5 =>
            rw [hx] at g4
            simp only [R.ne_ok, R.bind_ok] at g4
            intro v H5 Hf5 s5 S5 r5
            obtain ⟨S6, hP, hfP, aw⟩ := S5.unguard zP trivial
            have ra5 : Reps c Hf5 acc us := ((ra.mono s2).mono s4).mono s5
            refine ⟨acc, hP, ?_, hlt, wipeR ρ5 vs, Hf5, acc ++ [v], us ++ [z], s14.trans s5, by rw [List.length_append, List.length_singleton]; omega, ?_, ra5.append (.cons r5 .nil), ?_⟩
            · rw [ra.length, LN_eq]
              have : LN = 16777216 := rfl
              omega
            · have S7 := (S6.write (o := .lst (acc ++ [v])) hfP zP aw)
              have S8 := S7.guard upd_same hfP zP aw
              exact S8.wipe' (ww hw3)
            · have g5 := Go.mono s5 g4
              cases hc : compL (asgT T) ft fe vs (List.drop (i + 1) items) (wipeR ρ5 vs) with
              | ok xs ρ6 => rw [hc] at g5; simp only [R.bind_ok] at g5 ⊢; rw [List.append_assoc]; exact g5
              | err x ρ6 => rw [hc] at g5; exact g5
              | bad => rw [hc] at g5; exact g5
  · have ei : i = items.length := by omega
    subst ei
    rw [List.drop_length] at g'
    simp only [compL, R.bind, List.append_nil] at g'
    refine .inl ⟨y.stop _ _ _ _ _ _ s' S', ?_⟩
    obtain ⟨S6, hP, hfP, aw⟩ := S'.unguard zP trivial
    have S7 : SR c pin Z (backR ρ1 ρ' vs) σ H' Hf' := S6.back S1 s'
    refine g' _ _ _ (Same.refl _) S7 ⟨P, acc, rfl, hP, hfP, zP, fun i io xs e q => ?_, ra⟩
    rcases backR_get e with e | ⟨d, e, _⟩ | ⟨e1, e2⟩
    · cases e
    · cases e
    · exact aw i io xs e1 (by rw [wipe_get e2]; exact q)
end
end Ev

end
section
set_option maxHeartbeats 2000000
namespace Ev
open PySem PySem.Spec PyProof.Rows L2

/-! ### lists of their own -/
/-- a new list is kept by a name -/
def setO (i : Nat) (ds : Ob) (ρ : En) : Option En :=
  match ρ[i]? with
  | some (.ow true _) => none
  | some _ => some (ρ.set i (.ow false ds))
  | none => none
/-- the list of its own is changed -/
def modO (i : Nat) (f : List D → Option (List D)) (ρ : En) : Option En :=
  match ρ[i]? with
  | some (.ow io (.lst xs)) => (f xs).map fun ys => ρ.set i (.ow io (.lst ys))
  | _ => none
def rdO (ρ : En) (i : Nat) : R (List D) :=
  match ρ[i]? with
  | some (.ow _ (.lst xs)) => .ok xs ρ
  | _ => .bad
section
variable {c : Cn} {pin : Addr} {Z : Hp} {ρ ρ' : En} {σ : Sg} {H Hf : Hp}
theorem SR.own (S : SR c pin Z ρ σ H Hf) {i : Nat} {p : Addr} {vs : HO} {ds : Ob} (h : setO i ds ρ = some ρ') (hp : H p = some vs) (hf : Hf p = none) (hz : Z p = none) (aw : Away ρ σ p) (r : ObR c Hf vs ds) :
    SR c pin Z ρ' (σ.set i (some (.ref p))) H Hf := by
  have : ∃ s, ρ[i]? = some s ∧ ρ' = ρ.set i (.ow false ds) := by
    unfold setO at h
    split at h
    · cases h
    · rename_i s _ e; cases h; exact ⟨_, e, rfl⟩
    · cases h
  obtain ⟨s, hs, rfl⟩ := this
  have hi := S.lt hs
  refine ⟨S.z, S.f, S.dj, by rw [List.length_set, List.length_set]; exact S.len, fun j s e => ?_, fun j k io io' xs ys q hjk ej ek sj sk => ?_⟩
  · rcases set_get e with ⟨e1, e2, _⟩ | ⟨e1, e2⟩
    · subst e1; subst e2
      exact ⟨p, vs, List.getElem?_set_self hi, hp, hf, hz, r, fun z => by cases z⟩
    · rw [List.getElem?_set_ne e1]; exact S.sl j s e2
  · rcases set_get ej with ⟨f1, f2, _⟩ | ⟨f1, ej⟩
    · subst f1
      rw [List.getElem?_set_self hi] at sj
      cases sj
      rw [List.getElem?_set_ne hjk] at sk
      rcases set_get ek with ⟨f3, _, _⟩ | ⟨_, ek⟩
      · exact hjk f3
      · exact aw k _ _ ek sk
    · rw [List.getElem?_set_ne f1] at sj
      rcases set_get ek with ⟨f3, _, _⟩ | ⟨f3, ek⟩
      · subst f3
        rw [List.getElem?_set_self hi] at sk
        cases sk
        exact aw j _ _ ej sj
      · rw [List.getElem?_set_ne f3] at sk
        exact S.ap j k _ _ _ _ q hjk ej ek sj sk
theorem modO_some {i : Nat} {f : List D → Option (List D)} (h : modO i f ρ = some ρ') : ∃ io xs ys, ρ[i]? = some (.ow io (.lst xs)) ∧ f xs = some ys ∧ ρ' = ρ.set i (.ow io (.lst ys)) := by
  unfold modO at h
  split at h
  · rename_i io xs e
    simp only [Option.map_eq_some_iff] at h
    obtain ⟨ys, e1, rfl⟩ := h
    exact ⟨io, xs, ys, e, e1, rfl⟩
  · cases h
/-- the list of the name i is written; H' is the heap behind it -/
theorem SR.modify (S : SR c pin Z ρ σ H Hf) {i : Nat} {io : Bool} {xs ys : Ob} {p : Addr} {us : HO} {H' Hf' : Hp} (h : ρ[i]? = some (.ow io xs)) (hp : σ[i]? = some (some (.ref p)))
    (k : ∀ b o, b ≠ p → H b = some o → H' b = some o) (hn : H' p = some us) (ff : Same Hf Hf') (hf : Same Hf' H') (fr : ∀ a o, H a = some o → NT o → Hf a = none → Hf' a = none) (r : ObR c Hf' us ys) : SR c pin Z (ρ.set i (.ow io ys)) σ H' Hf' := by
  obtain ⟨p', vs, e1, e2, e3, e4, r0, pn⟩ := S.sl i _ h
  rw [hp] at e1
  cases e1
  have hi : i < ρ.length := by rw [S.len]; exact S.lt h
  have fp : Hf' p = none := fr p _ e2 r0.nt e3
  refine ⟨fun b o e => k b o (fun z => by subst z; rw [e4] at e; cases e) (S.z _ _ e), hf, fun a o e ne => ?_, by rw [List.length_set]; exact S.len, fun j s e => ?_, fun j k io io' xs ys q hjk ej ek sj sk => ?_⟩
  · have := S.z _ _ e
    exact fr a _ this ne (S.dj _ _ e ne)
  · rcases set_get e with ⟨f1, f2, _⟩ | ⟨f1, f2⟩
    · subst f1; subst f2
      exact ⟨p, us, hp, hn, fp, e4, r, pn⟩
    · have q := S.sl j s f2
      cases s with
      | un => trivial
      | va d => obtain ⟨v, e5, r5⟩ := q; exact ⟨v, e5, r5.mono ff⟩
      | ow io2 ds2 =>
        obtain ⟨p2, vs2, g1, g2, g3, g4, g5, g6⟩ := q
        have ne : p2 ≠ p := fun z => by subst z; exact S.ap i j _ _ _ _ _ f1 h f2 hp g1
        exact ⟨p2, vs2, g1, k _ _ ne g2, fr p2 _ g2 g5.nt g3, g4, g5.mono ff, g6⟩
  · have old : ∀ {b : Bool} {zs : Ob} {j : Nat} {io : Bool} {xs : Ob}, (ρ.set i (.ow b zs))[j]? = some (.ow io xs) → ∃ io xs, ρ[j]? = some (.ow io xs) := fun {b zs j io xs} e => by
      rcases set_get e with ⟨f1, _, _⟩ | ⟨_, f2⟩
      · subst f1; exact ⟨_, _, h⟩
      · exact ⟨_, _, f2⟩
    obtain ⟨_, _, ej⟩ := old ej
    obtain ⟨_, _, ek⟩ := old ek
    exact S.ap j k _ _ _ _ q hjk ej ek sj sk
theorem rdO_at {i : Nat} {xs : List D} (S : SR c pin Z ρ σ H Hf) (h : rdO ρ i = .ok xs ρ') : ρ' = ρ ∧ ∃ io p vs, ρ[i]? = some (.ow io (.lst xs)) ∧ σ[i]? = some (some (.ref p)) ∧ H p = some (.lst vs) ∧ Hf p = none ∧ Reps c Hf vs xs := by
  unfold rdO at h
  split at h
  · rename_i io ys e
    cases h
    obtain ⟨p, vs, e1, e2, e3, e4, r, pn⟩ := S.sl i _ e
    obtain ⟨us, rfl, r⟩ := r.lst
    exact ⟨rfl, io, p, us, e, e1, e2, e3, r⟩
  · cases h
end
section
variable {X : Cx} {c : Cn} {W : WX} {pos : Pos} {e a : Expr} {fe fa : En → R D} {f : En → R (List D)}
/-- x = a new list that may grow -/
theorem t_own {i : Nat} {x : Str} {p : Pos} (hN : X.N.Nodup) (hi : X.N[i]? = some x) (hx : Loc X.env.scope x) (hf : X.fn x = true ∨ X.env.scope.names.lookup x = some .local) (hs : swapsWith e (some (.Name x p)) pos.line X.env = pure false) (he : PE X e (tF c W f)) :
    PS X (.Assign [.Name x p] e pos) (tS c W fun ρ => (f ρ).bind fun ds ρ1 => (R.lift (setO i ds ρ1) ρ1).bind fun ρ2 _ => .ok .nx ρ2) := by
  refine ps_of (ps_set hN hi hx he hs hf) fun E σ H h => ?_
  refine tS.seqE h fun pin Z ds ρ1 v H1 Hf1 S1 r1 g => ?_
  obtain ⟨q, vs, rfl, h1, h2, h3, aw, r⟩ := r1
  cases e : setO i ds ρ1 with
  | none => rw [e] at g; exact g.elim
  | some ρ2 => rw [e] at g; exact g _ _ _ (Same.refl _) (S1.own e h1 h2 h3 aw r)
/-- x = a new list, as a value -/
theorem t_asgF {i : Nat} {x : Str} {p : Pos} (hN : X.N.Nodup) (hi : X.N[i]? = some x) (hx : Loc X.env.scope x) (hf : X.fn x = true ∨ X.env.scope.names.lookup x = some .local) (hs : swapsWith e (some (.Name x p)) pos.line X.env = pure false) (he : PE X e (tE c W fe)) :
    PS X (.Assign [.Name x p] e pos) (tS c W fun ρ => (fe ρ).bind fun d ρ1 => (R.lift (setV i d ρ1) ρ1).bind fun ρ2 _ => .ok .nx ρ2) := by
  refine ps_of (ps_set hN hi hx he hs hf) fun E σ H h => ?_
  refine tS.seqE h fun pin Z d ρ1 v H1 Hf1 S1 r1 g => ?_
  cases e : setV i d ρ1 with
  | none => rw [e] at g; exact g.elim
  | some ρ2 => rw [e] at g; exact g _ _ _ (Same.refl _) (S1.setV e r1)
def appF (d : D) (xs : List D) : Option (List D) := if xs.length < LN then some (xs ++ [d]) else none
theorem SR.isList {pin : Addr} {Z : Hp} {ρ : En} {σ : Sg} {H Hf : Hp} {i : Nat} {io : Bool} {xs : List D} (S : SR c pin Z ρ σ H Hf) (h : ρ[i]? = some (.ow io (.lst xs))) : ∃ p, σ[i]? = some (some (.ref p)) ∧ tyV X.K "list" (.ref p) H := by
  obtain ⟨p, vs, e1, e2, e3, e4, r, pn⟩ := S.sl i _ h
  obtain ⟨us, rfl, r⟩ := r.lst
  exact ⟨p, e1, .inl ⟨rfl, _, SqL.of e2⟩⟩
/-- x.append(e) -/
theorem t_app {i : Nat} {x : Str} {p p2 p3 : Pos} (hx : PE X (.Name x p) (tVar i)) (hl : (p2.endLine == p3.line) = true) (hn : noStar e = true) (he : PE X e (tE c W fe)) :
    PS X (.Expr (.Call (.Attribute (.Name x p) "append" p2) [e] [] p3) pos) (tS c W fun ρ => (rdO ρ i).bind fun _ ρ0 => (fe ρ0).bind fun d ρ1 => (R.lift (modO i (appF d) ρ1) ρ1).bind fun ρ2 _ => .ok .nx ρ2) := by
  refine ps_of (ps_expr (pe_bm PySem.F.plainAttrs_list PySem.F.slot_list_append PySem.F.type_list_append mt_append hx (pa_cons he pa_nil (star_cons hn)) rfl (by rw [star_cons hn]; rfl) hl (star_cons hn) rfl)) fun E σ H ⟨pin, Z, ρ, Hf, S, g⟩ => ?_
  dsimp only at g
  cases h0 : rdO ρ i with
  | err => unfold rdO at h0; split at h0 <;> cases h0
  | bad => rw [h0] at g; exact g.elim
  | ok xs0 ρ0 =>
    rw [h0] at g
    obtain ⟨e0, io, q, vs, e1, e2, e3, _, _⟩ := rdO_at S h0
    subst e0
    refine ⟨_, e2, .inl ⟨rfl, _, SqL.of e3⟩, pin, Z, ρ0, Hf, S, GoS.seqE g fun d ρ1 y H1 Hf1 s1 S1 r1 g1 => ?_⟩
    cases hm : modO i (appF d) ρ1 with
    | none => rw [hm] at g1; exact g1.elim
    | some ρ2 =>
      rw [hm] at g1
      obtain ⟨io', xs, ys, f1, f2, rfl⟩ := modO_some hm
      obtain ⟨q', us, k1, k2, k3, k4, k5, k6⟩ := S1.sl i _ f1
      obtain ⟨us, rfl, k5⟩ := k5.lst
      rw [e2] at k1
      cases k1
      unfold appF at f2
      split at f2
      · rename_i hz
        cases f2
        refine ⟨q, us, y, rfl, rfl, k2, by rw [k5.length, LN_eq]; exact hz, ?_⟩
        exact g1 _ _ _ (Same.refl _) (S1.modify f1 e2 (fun b o hb e => by rw [upd_ne hb]; exact e) upd_same (Same.refl _) (fun b o e => by rw [upd_ne (fun z => by subst z; rw [k3] at e; cases e)]; exact S1.f _ _ e) (fun _ _ _ _ h => h) (k5.append (.cons r1 .nil)))
      · cases f2
/-- x.pop() -/
def popR (i : Nat) (ρ : En) : R D :=
  match ρ[i]? with
  | some (.ow io (.lst xs)) => match xs[xs.length - 1]? with
    | some d => .ok d (ρ.set i (.ow io (.lst xs.dropLast)))
    | none => .bad
  | _ => .bad
theorem s_pop {i : Nat} {x : Str} {p p2 p3 : Pos} (hx : PE X (.Name x p) (tVar i)) (hl : (p2.endLine == p3.line) = true) : PE X (.Call (.Attribute (.Name x p) "pop" p2) [] [] p3) (tE c W (popR i)) := by
  refine pe_of (pe_bm0 PySem.F.plainAttrs_list PySem.F.slot_list_pop PySem.F.type_list_pop mt_pop hx rfl hl) fun σ H Q ⟨pin, Z, ρ, Hf, S, g⟩ => ?_
  unfold popR at g
  split at g
  · rename_i io xs e
    obtain ⟨q, vs, e1, e2, e3, e4, r, pn⟩ := S.sl i _ e
    obtain ⟨vs, rfl, r⟩ := r.lst
    split at g
    · rename_i d hd
      obtain ⟨v, hv, rv⟩ := r.get hd
      refine ⟨_, e1, .inl ⟨rfl, _, SqL.of e2⟩, q, vs, v, rfl, rfl, e2, by rw [r.length]; exact hv, ?_⟩
      exact g _ _ _ (Same.refl _) (S.modify e e1 (fun b o hb e => by rw [upd_ne hb]; exact e) upd_same (Same.refl _) (fun b o e => by rw [upd_ne (fun z => by subst z; rw [e3] at e; cases e)]; exact S.f _ _ e) (fun _ _ _ _ h => h) r.dropLast) rv
    · exact g.elim
  · exact g.elim
def rPopAtS : V → List V → Hp → VK → Prop := fun x vs H Q => ∃ l xs i k y, x = .ref l ∧ vs = [.int i] ∧ H l = some (.lst xs) ∧ ixN xs.length i = some k ∧ xs[k]? = some y ∧ Q y (upd H l (.lst (xs.eraseIdx k)))
theorem mt_popAtS : MtR X "list.pop" rPopAtS := by
  intro pins s σ H x vs v us Q I r rs h
  obtain ⟨l, xs, i, k, y, rfl, rfl, h1, h2, h3, q⟩ := h
  obtain ⟨z1, z2, z3, z4⟩ := ixN_seq h2
  obtain ⟨hz, _⟩ := I.lstM h1
  rw [sizeLine_eq] at hz
  exact mt_popAt pins s σ H _ _ v us Q I r rs ⟨l, xs, i, k, y, rfl, rfl, h1, by omega, by omega, z1, h3, q⟩
/-- x.pop(e) -/
def popAt (i : Nat) (d : D) (ρ : En) : R D :=
  match d, ρ[i]? with
  | .int k, some (.ow io (.lst xs)) => match ixN xs.length k with
    | some j => match xs[j]? with
      | some d => .ok d (ρ.set i (.ow io (.lst (xs.eraseIdx j))))
      | none => .bad
    | none => .bad
  | _, _ => .bad
theorem s_popAt {i : Nat} {x : Str} {p p2 p3 : Pos} (hx : PE X (.Name x p) (tVar i)) (hl : (p2.endLine == p3.line) = true) (hn : noStar e = true) (he : PE X e (tE c W fe)) :
    PE X (.Call (.Attribute (.Name x p) "pop" p2) [e] [] p3) (tE c W fun ρ => (rdO ρ i).bind fun _ ρ0 => (fe ρ0).bind fun d ρ1 => popAt i d ρ1) := by
  refine pe_of (pe_bm PySem.F.plainAttrs_list PySem.F.slot_list_pop PySem.F.type_list_pop mt_popAtS hx (pa_cons he pa_nil (star_cons hn)) rfl (by rw [star_cons hn]; rfl) hl (star_cons hn) rfl) fun σ H Q ⟨pin, Z, ρ, Hf, S, g⟩ => ?_
  dsimp only at g
  cases h0 : rdO ρ i with
  | err => unfold rdO at h0; split at h0 <;> cases h0
  | bad => rw [h0] at g; exact g.elim
  | ok xs0 ρ0 =>
    rw [h0] at g
    obtain ⟨e0, io, q, vs, e1, e2, e3, _, _⟩ := rdO_at S h0
    subst e0
    refine ⟨_, e2, .inl ⟨rfl, _, SqL.of e3⟩, pin, Z, ρ0, Hf, S, Go.seq g fun d ρ1 y H1 Hf1 s1 S1 r1 g1 => ?_⟩
    unfold popAt at g1
    split at g1
    · rename_i k io' xs f1
      split at g1
      · rename_i j hj
        split at g1
        · rename_i d' hd
          cases r1
          obtain ⟨q', us, k1, k2, k3, k4, k5, k6⟩ := S1.sl i _ f1
          obtain ⟨us, rfl, k5⟩ := k5.lst
          rw [e2] at k1
          cases k1
          obtain ⟨v, hv, rv⟩ := k5.get hd
          refine ⟨q, us, k, j, v, rfl, rfl, k2, by rw [k5.length]; exact hj, hv, ?_⟩
          exact g1 _ _ _ (Same.refl _) (S1.modify f1 e2 (fun b o hb e => by rw [upd_ne hb]; exact e) upd_same (Same.refl _) (fun b o e => by rw [upd_ne (fun z => by subst z; rw [k3] at e; cases e)]; exact S1.f _ _ e) (fun _ _ _ _ h => h) (k5.erase j)) rv
        · exact g1.elim
      · exact g1.elim
    · exact g1.elim
end
end Ev

end
section
set_option maxHeartbeats 2000000
namespace Ev
open PySem PySem.Spec PyProof.Rows L2

/-! ### new lists -/
def seqD : D → Option (List D)
  | .lst xs => some xs
  | .tup xs => some xs
  | .scr ns => some (ns.map .int)
  | _ => none
def sortZ (ns : List Int) : List Int := ns.mergeSort fun a b => decide (a ≤ b)
theorem sortZ_perm (ns : List Int) : (sortZ ns).Perm ns := List.mergeSort_perm _ _
theorem sortZ_sorted (ns : List Int) : (sortZ ns).Pairwise (· ≤ ·) := by
  have := List.pairwise_mergeSort (le := fun (a b : Int) => decide (a ≤ b)) (fun a b c h1 h2 => by simp at *; omega) (fun a b => by simp; omega) ns
  refine this.imp fun h => ?_
  simpa using h
theorem sortZ_is {ns ms : List Int} (hp : ms.Perm ns) (hs : ms.Pairwise (· ≤ ·)) : ms = sortZ ns :=
  (hp.trans (sortZ_perm ns).symm).eq_of_pairwise (fun x y _ _ h1 h2 => Int.le_antisymm h1 h2) hs (sortZ_sorted ns)
def sortD (d : D) : Option (List D) := (seqD d).bind fun xs => (ints? xs).map fun ns => (sortZ ns).map .int
section
variable {X : Cx} {c : Cn} {W : WX} {pos : Pos} {e a b : Expr} {fe fa fb : En → R D} {f : En → R (List D)}
theorem freshF {pin : Addr} {Z : Hp} {ρ : En} {σ : Sg} {H Hf : Hp} {vs : List V} {ds : List D} {Q : VK} (S : SR c pin Z ρ σ H Hf) (r : Reps c Hf vs ds) (g : Go c pin Z W σ Hf (relF c) (.ok ds ρ) Q) : ∀ p, H p = none → Q (.ref p) (upd H p (.lst vs)) := fun p hp =>
  g _ _ _ (Same.refl _) (S.new hp) ⟨p, vs, rfl, upd_same, S.f.free hp, S.z.free hp, S.away_new hp, r⟩
/-- list(x) -/
theorem s_listOf {p : Pos} (hK : X.K = c.K) (hg : Gl X "list") (hm : X.mg "list" = none) (hn : noStar a = true) (ha : PE X a (tL c W fa)) :
    PE X (.Call (.Name "list" p) [a] [] pos) (tF c W fun ρ => (fa ρ).bind fun x ρ1 => R.lift (seqD x) ρ1) := by
  refine pe_of (pe_callTy call_list_of hg hm PyProof.Rows.boot_list (pa_cons ha pa_nil (star_cons hn)) (by decide) (by decide) (star_cons hn) rfl) fun σ H Q h => ?_
  refine tG.seq h fun pin Z d ρ1 x H1 Hf1 S1 r1 h1 => ?_
  cases d <;> try exact h1.elim
  · obtain ⟨p, vs, rfl, hp, r⟩ := (relL.non (X := X) hK r1 (by simp)).seqT hK S1.f
    exact ⟨_, _, rfl, .inr hp, freshF S1 r h1⟩
  · obtain ⟨p, vs, rfl, hp, r⟩ := relL.seq (X := X) hK S1.f r1
    exact ⟨_, _, rfl, .inl (SqL.of hp), freshF S1 r h1⟩
  · rename_i ns
    cases relL.non (X := X) hK r1 (by simp) with
    | scr hp =>
      refine ⟨_, _, rfl, .inl (by rw [hK]; exact S1.f.seq hp), freshF S1 (ds := ns.map .int) ?_ h1⟩
      clear h1 hp r1
      induction ns with
      | nil => exact .nil
      | cons n ns ih => exact .cons (.int n) ih
/-- list(reversed(x)) -/
theorem s_listRev {p p2 pos2 : Pos} (hK : X.K = c.K) (hc : X.calm = true) (hg : Gl X "list") (hm : X.mg "list" = none) (hg2 : Gl X "reversed") (hm2 : X.mg "reversed" = none) (hn : noStar a = true) (ha : PE X a (tL c W fa)) :
    PE X (.Call (.Name "list" p) [.Call (.Name "reversed" p2) [a] [] pos2] [] pos) (tF c W fun ρ => (fa ρ).bind fun x ρ1 => R.lift (revD x) ρ1) := by
  refine pe_of (pe_lstRev hc hg hm hg2 hm2 ha (star_cons hn) (star_cons rfl)) fun σ H Q h => ?_
  refine tG.seq h fun pin Z d ρ1 x H1 Hf1 S1 r1 h1 => ?_
  cases d <;> try exact h1.elim
  obtain ⟨p, vs, rfl, hp, r⟩ := relL.seq (X := X) hK S1.f r1
  exact ⟨_, _, rfl, SqL.of hp, freshF S1 r.reverse h1⟩
/-- list(range(..)) -/
def rgL : List D → Option (List D)
  | [.int j] => if 0 ≤ j ∧ j ≤ 16777216 then some ((List.range j.toNat).map fun (k : Nat) => D.int (0 + (k : Int))) else none
  | [.int i, .int j] => if 0 ≤ i ∧ i ≤ 16777216 ∧ 0 ≤ j ∧ j ≤ 16777216 then some ((List.range (j - i).toNat).map fun (k : Nat) => D.int (i + (k : Int))) else none
  | _ => none
theorem rgV_reps {Hf : Hp} (a b : Int) : Reps c Hf (rgV a b) ((List.range (b - a).toNat).map fun (k : Nat) => D.int (a + (k : Int))) := by
  unfold rgV
  generalize List.range (b - a).toNat = l
  induction l with
  | nil => exact .nil
  | cons n ns ih => exact .cons (.int _) ih
theorem s_listRg1 {p p2 pos2 : Pos} (hc : X.calm = true) (hg : Gl X "list") (hm : X.mg "list" = none) (hg2 : Gl X "range") (hm2 : X.mg "range" = none) (hn : noStar a = true) (ha : PE X a (tE c W fa)) :
    PE X (.Call (.Name "list" p) [.Call (.Name "range" p2) [a] [] pos2] [] pos) (tF c W fun ρ => (fa ρ).bind fun x ρ1 => R.lift (rgL [x]) ρ1) := by
  refine pe_of (pe_listRg hc hg hm (prg_1 hg2 hm2 ha (star_cons hn)) (star_cons rfl)) fun σ H Q h => ?_
  refine tG.seq h fun pin Z d ρ1 x H1 Hf1 S1 r1 h1 => ?_
  cases d <;> try exact h1.elim
  cases r1
  simp only [rgL] at h1
  split at h1
  · rename_i j hz
    refine ⟨j, rfl, RgOk.of_le (by omega) hz.2 (by omega) hz.1, freshF S1 ?_ h1⟩
    have := rgV_reps (c := c) (Hf := Hf1) 0 j
    rw [Int.sub_zero] at this
    exact this
  · exact h1.elim
theorem s_listRg2 {p p2 pos2 : Pos} (hc : X.calm = true) (hg : Gl X "list") (hm : X.mg "list" = none) (hg2 : Gl X "range") (hm2 : X.mg "range" = none) (hn : noStar a = true) (hn2 : noStar b = true) (ha : PE X a (tE c W fa)) (hb : PE X b (tE c W fb)) :
    PE X (.Call (.Name "list" p) [.Call (.Name "range" p2) [a, b] [] pos2] [] pos) (tF c W fun ρ => (fa ρ).bind fun x ρ1 => (fb ρ1).bind fun y ρ2 => R.lift (rgL [x, y]) ρ2) := by
  refine pe_of (pe_listRg hc hg hm (prg_2 hg2 hm2 ha hb (star_cons hn) (star_cons hn2) (by rw [star_cons hn2]; rfl)) (star_cons rfl)) fun σ H Q h => ?_
  refine tG.seq h fun pin Z d ρ1 x H1 Hf1 S1 r1 h1 => ?_
  refine ⟨pin, Z, ρ1, Hf1, S1, Go.seq h1 fun e ρ2 y H2 Hf2 s2 S2 r2 h2 => ?_⟩
  cases d <;> cases e <;> try exact h2.elim
  cases r1
  cases r2
  simp only [rgL] at h2
  split at h2
  · rename_i hz
    exact ⟨_, _, rfl, rfl, RgOk.of_le hz.1 hz.2.2.2 hz.2.1 hz.2.2.1, freshF S2 (rgV_reps _ _) h2⟩
  · exact h2.elim
theorem ints_back {Hf : Hp} : ∀ (ns : List Int), Reps c Hf (ns.map V.int) (ns.map .int)
  | [] => .nil
  | n :: ns => .cons (.int n) (ints_back ns)
/-- sorted(x), whole numbers -/
theorem s_sorted {p : Pos} (hK : X.K = c.K) (hc : X.calm = true) (hg : Gl X "sorted") (hm : X.mg "sorted" = none) (hn : noStar a = true) (ha : PE X a (tL c W fa)) :
    PE X (.Call (.Name "sorted" p) [a] [] pos) (tF c W fun ρ => (fa ρ).bind fun x ρ1 => match x with | .lst _ => R.lift (sortD x) ρ1 | _ => .bad) := by
  refine pe_of (pe_callB cr_sortedI hg hm (by decide +kernel) (pa_cons ha pa_nil (star_cons hn)) (by decide) (by decide) (star_cons hn) rfl) fun σ H Q h => ?_
  refine tG.seq h fun pin Z d ρ1 x H1 Hf1 S1 r1 h1 => ?_
  cases d <;> try exact h1.elim
  rename_i xs
  obtain ⟨p, vs, rfl, hp, r⟩ := relL.seq (X := X) hK S1.f r1
  simp only [sortD, seqD, Option.bind_some] at h1
  cases hi : ints? xs with
  | none => rw [hi] at h1; exact h1.elim
  | some ns =>
    rw [hi] at h1
    have e := ints_reps r hi
    subst e
    refine ⟨_, ns, rfl, SqL.of hp, fun ns' q hperm hs hq => ?_⟩
    have e := sortZ_is hperm hs
    subst e
    exact freshF S1 (ints_back _) h1 q hq
/-- [..] + [..], a new list -/
theorem s_cat (ha : PE X a (tE c W fa)) (hb : PE X b (tE c W fb)) : PE X (.BinOp a .Add b pos) (tF c W fun ρ => (fa ρ).bind fun x ρ1 => (fb ρ1).bind fun y ρ2 => match x, y with
    | .lst xs, .lst ys => if xs.length + ys.length ≤ LN then .ok (xs ++ ys) ρ2 else .bad
    | _, _ => .bad) := by
  refine pe_of (pe_op op_cat ha hb) fun σ H Q h => ?_
  refine tG.seq h fun pin Z d ρ1 x H1 Hf1 S1 r1 h1 => ?_
  refine ⟨pin, Z, ρ1, Hf1, S1, Go.seq h1 fun e ρ2 y H2 Hf2 s2 S2 r2 h2 => ?_⟩
  cases d <;> try exact h2.elim
  cases e <;> try exact h2.elim
  simp only at h2
  split at h2
  · rename_i xs ys hz
    obtain ⟨p, vs, rfl, hp, q1⟩ := (r1.mono s2).seqL S2.f
    obtain ⟨p2, vs2, rfl, hp2, q2⟩ := r2.seqL S2.f
    exact ⟨_, _, _, _, rfl, rfl, hp, hp2, by rw [LN_eq, q1.length, q2.length]; exact hz, freshF S2 (q1.append q2) h2⟩
  · exact h2.elim
/-- [..] * n, a new list -/
theorem s_rep (ha : PE X a (tE c W fa)) (hb : PE X b (tE c W fb)) : PE X (.BinOp a .Mult b pos) (tF c W fun ρ => (fa ρ).bind fun x ρ1 => (fb ρ1).bind fun y ρ2 => match x, y with
    | .lst xs, .int k => if xs.length * k.toNat ≤ LN ∧ -(2 ^ 63) ≤ k ∧ k < 2 ^ 63 then .ok (List.replicate k.toNat xs).flatten ρ2 else .bad
    | _, _ => .bad) := by
  refine pe_of (pe_op op_rep ha hb) fun σ H Q h => ?_
  refine tG.seq h fun pin Z d ρ1 x H1 Hf1 S1 r1 h1 => ?_
  refine ⟨pin, Z, ρ1, Hf1, S1, Go.seq h1 fun e ρ2 y H2 Hf2 s2 S2 r2 h2 => ?_⟩
  cases d <;> try exact h2.elim
  cases e <;> try exact h2.elim
  simp only at h2
  split at h2
  · rename_i xs k hz
    obtain ⟨p, vs, rfl, hp, q1⟩ := (r1.mono s2).seqL S2.f
    cases r2
    exact ⟨_, _, _, rfl, rfl, hp, hz.2.1, hz.2.2, by rw [LN_eq, q1.length]; exact hz.1, freshF S2 (q1.rep _) h2⟩
  · exact h2.elim
/-! ### comprehensions -/
variable {tg iter elt : Expr} {fi : En → R (List D)} {ft : En → R Bool} {T : Tg} {ifs : List Expr} {scope : Scope} {own : List (Str × Nat)}
def compR (T : Tg) (fi : En → R (List D)) (ft : En → R Bool) (fe : En → R D) (vs : List Nat) (ρ : En) : R (List D) :=
  (fi ρ).bind fun items ρ1 => (compL (asgT T) ft fe vs items (wipeR ρ1 vs)).bind fun ds ρ2 => .ok ds (backR ρ1 ρ2 vs)
theorem s_comp (hc : X.calm = true) (hN : X.N.Nodup) (hi : PI X tg iter (tJ c W fi)) (ok : BlkOk X.N X.env.scope scope own) (hT : ∀ i ∈ T.slots, i ∈ own.map (·.2))
    (hg : ∀ (s : Shared) (H : Hp) (C : Addr) (cl : List (Str × Addr)) (fp : List Addr), PG (X.blk s H scope (compEnvC scope cl C X.env) fp) tg (tgT c T)) (ht : ∀ (s : Shared) (H : Hp) (C : Addr) (cl : List (Str × Addr)) (fp : List Addr), PTs (X.blk s H scope (compEnvC scope cl C X.env) fp) ifs (tT c W0 ft))
    (he : ∀ (s : Shared) (H : Hp) (C : Addr) (cl : List (Str × Addr)) (fp : List Addr), PE (X.blk s H scope (compEnvC scope cl C X.env) fp) elt (tE c W0 fe)) (hs : ∀ x, foldedSetIterable iter X.env x = pure x) :
    PE X (.ListComp elt [⟨tg, iter, ifs, 0⟩] scope pos) (tF c W (compR T fi ft fe (own.map (·.2)))) :=
  pe_of (pe_lc hc hN (pi_small hi) ok hg ht he hs) fun σ H Q h => comp_reads hT h
/-- y = [..], the name stored within the comprehension's frame -/
theorem t_ownLc {i : Nat} {y : Str} {py spos : Pos} (hc : X.calm = true) (hN : X.N.Nodup) (hy : X.N[i]? = some y) (hyl : X.env.scope.names.lookup y = some .local) (hsw : swapsWith (.ListComp elt [⟨tg, iter, ifs, 0⟩] scope pos) (some (.Name y py)) spos.line X.env = pure true)
    (hi : PI X tg iter (tJ c W fi)) (ok : BlkOk X.N X.env.scope scope own) (hT : ∀ i ∈ T.slots, i ∈ own.map (·.2))
    (hg : ∀ (s : Shared) (H : Hp) (C : Addr) (cl : List (Str × Addr)) (fp : List Addr), PG (X.blk s H scope (compEnvC scope cl C X.env) fp) tg (tgT c T)) (ht : ∀ (s : Shared) (H : Hp) (C : Addr) (cl : List (Str × Addr)) (fp : List Addr), PTs (X.blk s H scope (compEnvC scope cl C X.env) fp) ifs (tT c W0 ft))
    (he : ∀ (s : Shared) (H : Hp) (C : Addr) (cl : List (Str × Addr)) (fp : List Addr), PE (X.blk s H scope (compEnvC scope cl C X.env) fp) elt (tE c W0 fe)) (hs : ∀ x, foldedSetIterable iter X.env x = pure x) :
    PS X (.Assign [.Name y py] (.ListComp elt [⟨tg, iter, ifs, 0⟩] scope pos) spos) (tS c W fun ρ => (compR T fi ft fe (own.map (·.2)) ρ).bind fun ds ρ1 => (R.lift (setO i ds ρ1) ρ1).bind fun ρ2 _ => .ok .nx ρ2) := by
  refine ps_of (ps_setLc hc hN hy hyl hsw (pi_small hi) ok hg ht he hs) fun E σ H h => ?_
  refine comp_reads hT (W := W) (fi := fi) (Q := fun x H1 => gName i x σ H1 E.nx) ?_
  refine tS.seqE (f := compR T fi ft fe (own.map (·.2))) h fun pin Z ds ρ1 v H1 Hf1 S1 r1 g => ?_
  obtain ⟨q, vs, rfl, h1, h2, h3, aw, r⟩ := r1
  cases e : setO i ds ρ1 with
  | none => rw [e] at g; exact g.elim
  | some ρ2 => rw [e] at g; exact g _ _ _ (Same.refl _) (S1.own e h1 h2 h3 aw r)
theorem t_asgLc {i : Nat} {y : Str} {py spos : Pos} (hc : X.calm = true) (hN : X.N.Nodup) (hy : X.N[i]? = some y) (hyl : X.env.scope.names.lookup y = some .local) (hsw : swapsWith (.ListComp elt [⟨tg, iter, ifs, 0⟩] scope pos) (some (.Name y py)) spos.line X.env = pure true)
    (hi : PI X tg iter (tJ c W fi)) (ok : BlkOk X.N X.env.scope scope own) (hT : ∀ i ∈ T.slots, i ∈ own.map (·.2))
    (hg : ∀ (s : Shared) (H : Hp) (C : Addr) (cl : List (Str × Addr)) (fp : List Addr), PG (X.blk s H scope (compEnvC scope cl C X.env) fp) tg (tgT c T)) (ht : ∀ (s : Shared) (H : Hp) (C : Addr) (cl : List (Str × Addr)) (fp : List Addr), PTs (X.blk s H scope (compEnvC scope cl C X.env) fp) ifs (tT c W0 ft))
    (he : ∀ (s : Shared) (H : Hp) (C : Addr) (cl : List (Str × Addr)) (fp : List Addr), PE (X.blk s H scope (compEnvC scope cl C X.env) fp) elt (tE c W0 fe)) (hs : ∀ x, foldedSetIterable iter X.env x = pure x) :
    PS X (.Assign [.Name y py] (.ListComp elt [⟨tg, iter, ifs, 0⟩] scope pos) spos) (tS c W fun ρ => (compR T fi ft fe (own.map (·.2)) ρ).bind fun ds ρ1 => (R.lift (setV i (.lst ds) ρ1) ρ1).bind fun ρ2 _ => .ok .nx ρ2) := by
  refine ps_of (ps_setLc hc hN hy hyl hsw (pi_small hi) ok hg ht he hs) fun E σ H h => ?_
  refine comp_reads hT (W := W) (fi := fi) (Q := fun x H1 => gName i x σ H1 E.nx) ?_
  refine tS.seqE (f := compR T fi ft fe (own.map (·.2))) h fun pin Z ds ρ1 v H1 Hf1 S1 r1 g => ?_
  obtain ⟨q, vs, rfl, h1, h2, h3, aw, r⟩ := r1
  obtain ⟨S2, s2⟩ := S1.speak h1 h2 h3 aw
  cases e : setV i (.lst ds) ρ1 with
  | none => rw [e] at g; exact g.elim
  | some ρ2 => rw [e] at g; exact g _ _ _ s2 (S2.setV e (Rep.newL s2 r))
theorem s_noifs : PTs X [] (tT c W fun ρ => .ok true ρ) := ⟨fun pins s σ H Q I ⟨pin, Z, ρ, Hf, S, g⟩ => pts_nil.run pins s σ H Q I (g _ _ _ (Same.refl _) S rfl)⟩
theorem s_oneif (h : PT X e (tT c W ft)) : PTs X [e] (tT c W ft) := pts_one h
/-! ### x[k] = e, x.extend(e) -/
def setF (k : D) (d : D) (xs : List D) : Option (List D) :=
  match k with
  | .int k => (ixN xs.length k).map fun j => xs.set j d
  | _ => none
theorem t_setI {i : Nat} {x : Str} {p p2 : Pos} (hx : PE X (.Name x p) (tVar i)) (hn : plainSl b = true) (hs : isComp e = false) (hw : swappedStores [.Subscript (.Name x p) b p2] e X.env = pure none) (he : PE X e (tE c W fe)) (hb : PE X b (tE c W fb)) :
    PS X (.Assign [.Subscript (.Name x p) b p2] e pos) (tS c W fun ρ => (fe ρ).bind fun d ρ1 => (rdO ρ1 i).bind fun _ ρ2 => (fb ρ2).bind fun k ρ3 => (R.lift (modO i (setF k d) ρ3) ρ3).bind fun ρ4 _ => .ok .nx ρ4) := by
  have ha : ∀ v, assign (.Subscript (.Name x p) b p2) X.env v = (do
      let ov ← holding [v] (eval (.Name x p) X.env)
      let iv ← holding [v, ov] (eval b X.env)
      standAt p2
      holding [v, ov, iv] (setItem ov iv v)
      release [v, ov, iv] []) := by intro v; cases b <;> first | rfl | cases hn
  refine ps_of (ps_asg he (pg_sub hx hb set_list ha) (by rw [show swapsWithSole [Expr.Subscript (.Name x p) b p2] e pos.line X.env = swapsWith e (some (Expr.Subscript (.Name x p) b p2)) pos.line X.env from rfl]; exact noSwap hs) hw rfl) fun E σ H h => ?_
  refine tS.seqE h fun pin Z d ρ1 v H1 Hf1 S1 r1 g => ?_
  cases h0 : rdO ρ1 i with
  | err => unfold rdO at h0; split at h0 <;> cases h0
  | bad => rw [h0] at g; exact g.elim
  | ok xs0 ρ0 =>
    rw [h0] at g
    obtain ⟨e0, io, q, vs, e1, e2, e3, _, _⟩ := rdO_at S1 h0
    subst e0
    refine ⟨_, e2, pin, Z, ρ0, Hf1, S1, GoS.seqE g fun k ρ3 y H3 Hf3 s3 S3 r3 g3 => ?_⟩
    cases hm : modO i (setF k d) ρ3 with
    | none => rw [hm] at g3; exact g3.elim
    | some ρ4 =>
      rw [hm] at g3
      obtain ⟨io', xs, ys, f1, f2, rfl⟩ := modO_some hm
      obtain ⟨q', us, k1, k2, k3, k4, k5, k6⟩ := S3.sl i _ f1
      obtain ⟨us, rfl, k5⟩ := k5.lst
      rw [e2] at k1
      cases k1
      cases k <;> try exact no_some f2
      rename_i kk
      simp only [setF, Option.map_eq_some_iff] at f2
      obtain ⟨j, hj, rfl⟩ := f2
      cases r3
      refine ⟨q, us, kk, j, rfl, rfl, k2, by rw [k5.length]; exact hj, ?_⟩
      exact g3 _ _ _ (Same.refl _) (S3.modify f1 e2 (fun b o hb e => by rw [upd_ne hb]; exact e) upd_same (Same.refl _) (fun b o e => by rw [upd_ne (fun z => by subst z; rw [k3] at e; cases e)]; exact S3.f _ _ e) (fun _ _ _ _ h => h) (k5.set j (r1.mono s3)))
def extF (d : D) (xs : List D) : Option (List D) :=
  match d with
  | .lst ys => if xs.length + ys.length ≤ LN then some (xs ++ ys) else none
  | _ => none
theorem t_ext {i : Nat} {x : Str} {p p2 p3 : Pos} (hx : PE X (.Name x p) (tVar i)) (hl : (p2.endLine == p3.line) = true) (hn : noStar e = true) (he : PE X e (tE c W fe)) :
    PS X (.Expr (.Call (.Attribute (.Name x p) "extend" p2) [e] [] p3) pos) (tS c W fun ρ => (rdO ρ i).bind fun _ ρ0 => (fe ρ0).bind fun d ρ1 => (R.lift (modO i (extF d) ρ1) ρ1).bind fun ρ2 _ => .ok .nx ρ2) := by
  refine ps_of (ps_expr (pe_bm PySem.F.plainAttrs_list PySem.F.slot_list_extend PySem.F.type_list_extend mt_extend hx (pa_cons he pa_nil (star_cons hn)) rfl (by rw [star_cons hn]; rfl) hl (star_cons hn) rfl)) fun E σ H ⟨pin, Z, ρ, Hf, S, g⟩ => ?_
  dsimp only at g
  cases h0 : rdO ρ i with
  | err => unfold rdO at h0; split at h0 <;> cases h0
  | bad => rw [h0] at g; exact g.elim
  | ok xs0 ρ0 =>
    rw [h0] at g
    obtain ⟨e0, io, q, vs, e1, e2, e3, _, _⟩ := rdO_at S h0
    subst e0
    refine ⟨_, e2, .inl ⟨rfl, _, SqL.of e3⟩, pin, Z, ρ0, Hf, S, GoS.seqE g fun d ρ1 y H1 Hf1 s1 S1 r1 g1 => ?_⟩
    cases hm : modO i (extF d) ρ1 with
    | none => rw [hm] at g1; exact g1.elim
    | some ρ2 =>
      rw [hm] at g1
      obtain ⟨io', xs, ys, f1, f2, rfl⟩ := modO_some hm
      obtain ⟨q', us, k1, k2, k3, k4, k5, k6⟩ := S1.sl i _ f1
      obtain ⟨us, rfl, k5⟩ := k5.lst
      rw [e2] at k1
      cases k1
      cases d <;> try exact no_some f2
      simp only [extF] at f2
      split at f2
      · rename_i hz
        cases f2
        obtain ⟨b, zs, rfl, hb, rz⟩ := r1.seqL S1.f
        refine ⟨q, b, us, zs, rfl, rfl, k2, hb, by rw [k5.length, rz.length, LN_eq]; exact hz, ?_⟩
        exact g1 _ _ _ (Same.refl _) (S1.modify f1 e2 (fun b o hb e => by rw [upd_ne hb]; exact e) upd_same (Same.refl _) (fun b o e => by rw [upd_ne (fun z => by subst z; rw [k3] at e; cases e)]; exact S1.f _ _ e) (fun _ _ _ _ h => h) (k5.append rz))
      · cases f2
end
end Ev

end
section
set_option maxHeartbeats 2000000
namespace Ev
open PySem PySem.Spec PyProof.Rows L2

/-! ### calls of defs -/
inductive Cr (α : Type) where
  | ok (a : α) | err (x : Nat) | bad
def Cr.r : Cr D → En → R D
  | .ok d, ρ => .ok d ρ
  | .err x, ρ => .err x ρ
  | .bad, _ => .bad
@[simp] theorem Cr.r_ok (d : D) (ρ : En) : Cr.r (.ok d) ρ = .ok d ρ := rfl
@[simp] theorem Cr.r_err (x : Nat) (ρ : En) : Cr.r (.err x) ρ = .err x ρ := rfl
@[simp] theorem Cr.r_bad (ρ : En) : Cr.r .bad ρ = .bad := rfl
/-- a def's promise -/
def spD (c : Cn) (ar : Nat) (r : List D → Cr D) : Sp := fun vs H Q E => ∃ Hf ds, vs.length = ar ∧ Same Hf H ∧ Reps c Hf vs ds ∧
  match r ds with
  | .ok d => ∀ v H' Hf', Same H H' → Same Hf Hf' → Same Hf' H' → (∀ a o, H a = some o → NT o → Hf a = none → Hf' a = none) → Rep c Hf' v d → Q v H'
  | .err x => ∀ H', Same H H' → E (.ref (c.C x)) none H'
  | .bad => False
/-- .. that changes the list that it is handed first -/
def spM (c : Cn) (ar : Nat) (r : List D → List D → Cr (D × List D)) : Sp := fun vs H Q _ => ∃ p us vs' Hf xs ds, vs = .ref p :: vs' ∧ vs.length = ar ∧ Same Hf H ∧ H p = some (.lst us) ∧ Hf p = none ∧ Reps c Hf us xs ∧ Reps c Hf vs' ds ∧
  match r xs ds with
  | .ok (d, ys) => ∀ v H' Hf' us', (∀ a o, a ≠ p → H a = some o → H' a = some o) → H' p = some (.lst us') → Reps c Hf' us' ys → Same Hf Hf' → Same Hf' H' → (∀ a o, H a = some o → NT o → Hf a = none → Hf' a = none) → Rep c Hf' v d → Q v H'
  | _ => False
/-- .. that gives a new list -/
def spF (c : Cn) (ar : Nat) (r : List D → Cr (List D)) : Sp := fun vs H Q E => ∃ Hf ds, vs.length = ar ∧ Same Hf H ∧ Reps c Hf vs ds ∧
  match r ds with
  | .ok xs => ∀ p us H' Hf', Same H H' → Same Hf Hf' → Same Hf' H' → (∀ a o, H a = some o → NT o → Hf a = none → Hf' a = none) → H' p = some (.lst us) → H p = none → Hf' p = none → Reps c Hf' us xs → Q (.ref p) H'
  | .err x => ∀ H', Same H H' → E (.ref (c.C x)) none H'
  | .bad => False
def Cr.f : Cr (List D) → En → R (List D)
  | .ok d, ρ => .ok d ρ
  | .err x, ρ => .err x ρ
  | .bad, _ => .bad
@[simp] theorem Cr.f_ok (d : List D) (ρ : En) : Cr.f (.ok d) ρ = .ok d ρ := rfl
@[simp] theorem Cr.f_err (x : Nat) (ρ : En) : Cr.f (.err x) ρ = .err x ρ := rfl
@[simp] theorem Cr.f_bad (ρ : En) : Cr.f .bad ρ = .bad := rfl
def callM (i : Nat) (r : List D → List D → Cr (D × List D)) (ds : List D) (ρ : En) : R D :=
  match ρ[i]? with
  | some (.ow io (.lst xs)) => match r xs ds with
    | .ok (d, ys) => .ok d (ρ.set i (.ow io (.lst ys)))
    | _ => .bad
  | _ => .bad
section
variable {X : Cx} {c : Cn} {W : WX} {pos p : Pos} {e a : Expr} {es : List Expr} {x : Str} {n : Nat} {f : Addr} {fd : FuncData} {ps : List Str} {fs : En → R (List D)}
theorem star_any : ∀ {es : List Expr} {env : Env} {pos : Pos}, es.all noStar = true → (backTo pos (starEach es env)).any (·.1) = false
  | [], _, _, _ => rfl
  | e :: es, env, pos, h => by
    rw [List.all_cons, Bool.and_eq_true] at h
    rw [star_cons h.1]
    show (false || (backTo pos (starEach es env)).any (·.1)) = false
    rw [star_any h.2]; rfl
/-- the state behind a call that leaves all that was tracked -/
theorem SR.called {pin : Addr} {Z : Hp} {ρ : En} {σ : Sg} {H Hf H' Hf' : Hp} (S : SR c pin Z ρ σ H Hf) (s1 : Same H H') (s2 : Same Hf Hf') (s3 : Same Hf' H') (fr : ∀ a o, H a = some o → NT o → Hf a = none → Hf' a = none) : SR c pin Z ρ σ H' Hf' :=
  S.grow (S.z.trans s1) s3 s2 (fun a o e ne => fr a _ (S.z _ _ e) ne (S.dj _ _ e ne)) fun i io xs q vs _ _ e nt g => ⟨s1 _ _ e, fr q _ e nt g⟩
theorem s_call {r : List D → Cr D} (F : FnOk X.prog X.w X.K X.mg X.base (L2.CX X.prog X.w) n f fd ps (spD c ps.length r)) (hr : Room n X.A) (hg : Gl X x) (hm : X.mg x = some (.ref f)) (hk : PySem.W.keepIn X.K (.ref f) = true) (hb : Binds X.K fd ps []) (tk : Takes X W)
    (hdb : (x == ("__debug__" : Str)) = false) (hn : (a :: es).all noStar = true) (hs : PA X (a :: es) (tA c W fs)) :
    PE X (.Call (.Name x p) (a :: es) [] pos) (tE c W fun ρ => (fs ρ).bind fun ds ρ1 => if ds.length = ps.length then (r ds).r ρ1 else .bad) := by
  rw [List.all_cons, Bool.and_eq_true] at hn
  refine pe_of (pe_callS (E := WE W) F hr hg hm hk hb (fun σ => passAt tk σ) hs hdb (star_cons hn.1) (star_any hn.2)) fun σ H Q h => ?_
  refine tG.seq h fun pin Z ds ρ1 vs H1 Hf1 S1 r1 h1 => ?_
  split at h1
  · rename_i hl
    refine ⟨Hf1, ds, by rw [Reps.length r1, hl], S1.f, r1, ?_⟩
    cases hr : r ds with
    | ok d => rw [hr] at h1; exact fun v H' Hf' s1 s2 s3 fr rv => h1 v H' Hf' s2 (S1.called s1 s2 s3 fr) rv
    | err y => rw [hr] at h1; exact fun H' s1 => h1 H' Hf1 (Same.refl _) (S1.called s1 (Same.refl _) (S1.f.trans s1) fun _ _ _ _ z => z)
    | bad => rw [hr] at h1; exact h1.elim
  · exact h1.elim
theorem s_callF {r : List D → Cr (List D)} (F : FnOk X.prog X.w X.K X.mg X.base (L2.CX X.prog X.w) n f fd ps (spF c ps.length r)) (hr : Room n X.A) (hg : Gl X x) (hm : X.mg x = some (.ref f)) (hk : PySem.W.keepIn X.K (.ref f) = true) (hb : Binds X.K fd ps []) (tk : Takes X W)
    (hdb : (x == ("__debug__" : Str)) = false) (hn : (a :: es).all noStar = true) (hs : PA X (a :: es) (tA c W fs)) :
    PE X (.Call (.Name x p) (a :: es) [] pos) (tF c W fun ρ => (fs ρ).bind fun ds ρ1 => if ds.length = ps.length then (r ds).f ρ1 else .bad) := by
  rw [List.all_cons, Bool.and_eq_true] at hn
  refine pe_of (pe_callS (E := WE W) F hr hg hm hk hb (fun σ => passAt tk σ) hs hdb (star_cons hn.1) (star_any hn.2)) fun σ H Q h => ?_
  refine tG.seq h fun pin Z ds ρ1 vs H1 Hf1 S1 r1 h1 => ?_
  split at h1
  · rename_i hl
    refine ⟨Hf1, ds, by rw [Reps.length r1, hl], S1.f, r1, ?_⟩
    cases hr : r ds with
    | ok xs =>
      rw [hr] at h1
      intro p us H' Hf' s1 s2 s3 fr hp np fp rr
      have S2 := S1.called s1 s2 s3 fr
      exact h1 _ H' Hf' s2 S2 ⟨p, us, rfl, hp, fp, S1.z.free np, S1.away_new np, rr⟩
    | err y => rw [hr] at h1; exact fun H' s1 => h1 H' Hf1 (Same.refl _) (S1.called s1 (Same.refl _) (S1.f.trans s1) fun _ _ _ _ z => z)
    | bad => rw [hr] at h1; exact h1.elim
  · exact h1.elim
theorem s_callM {i : Nat} {y : Str} {py : Pos} {r : List D → List D → Cr (D × List D)} (F : FnOk X.prog X.w X.K X.mg X.base (L2.CX X.prog X.w) n f fd ps (spM c ps.length r)) (hr : Room n X.A) (hg : Gl X x) (hm : X.mg x = some (.ref f)) (hk : PySem.W.keepIn X.K (.ref f) = true) (hb : Binds X.K fd ps []) (tk : Takes X W)
    (hdb : (x == ("__debug__" : Str)) = false) (hn : es.all noStar = true) (hy : PE X (.Name y py) (tVar i)) (hs : PA X es (tA c W fs)) :
    PE X (.Call (.Name x p) (.Name y py :: es) [] pos) (tE c W fun ρ => (rdO ρ i).bind fun _ ρ0 => (fs ρ0).bind fun ds ρ1 => if ds.length + 1 = ps.length then callM i r ds ρ1 else .bad) := by
  refine pe_of (pe_callS (E := WE W) F hr hg hm hk hb (fun σ => passAt tk σ) (pa_cons hy hs (star_cons rfl)) hdb (star_cons rfl) (star_any hn)) fun σ H Q ⟨pin, Z, ρ, Hf, S, g⟩ => ?_
  dsimp only at g
  cases h0 : rdO ρ i with
  | err => unfold rdO at h0; split at h0 <;> cases h0
  | bad => rw [h0] at g; exact g.elim
  | ok xs0 ρ0 =>
    rw [h0] at g
    obtain ⟨e0, io, q, vs, e1, e2, e3, _, _⟩ := rdO_at S h0
    subst e0
    refine ⟨_, e2, pin, Z, ρ0, Hf, S, Go.seq g fun ds ρ1 us H1 Hf1 s1 S1 r1 g1 => ?_⟩
    split at g1
    · rename_i hl
      unfold callM at g1
      split at g1
      · rename_i io' xs f1
        obtain ⟨q', us', k1, k2, k3, k4, k5, k6⟩ := S1.sl i _ f1
        obtain ⟨us', rfl, k5⟩ := k5.lst
        rw [e2] at k1
        cases k1
        refine ⟨q, us', us, Hf1, xs, ds, rfl, by rw [List.length_cons, Reps.length r1]; exact hl, S1.f, k2, k3, k5, r1, ?_⟩
        cases hr : r xs ds with
        | ok dy =>
          obtain ⟨d, ys⟩ := dy
          rw [hr] at g1
          exact fun v H' Hf' us'' k hp ru s2 s3 fr rv => g1 v H' Hf' s2 (S1.modify f1 e2 k hp s2 s3 fr ru) rv
        | err => rw [hr] at g1; exact g1.elim
        | bad => rw [hr] at g1; exact g1.elim
      · exact g1.elim
    · exact g1.elim

/-! ### raise -/
theorem t_raise {k : Nat} {m : Str} {j : Nat} {p2 p3 : Pos} (hc : X.calm = true) (tk : Takes X W) (q : PySem.W.excIn X.K (c.C k) He.veBase "ValueError.__new__" = true) (gC : X.mg x = some (.ref (c.C k))) (kC : PySem.W.keepIn X.K (.ref (c.C k)) = true)
    (r : Raises X (.ref (c.C k))) (hg : Gl X x) (hdb : (x == ("__debug__" : Str)) = false) :
    PS X (.Raise (some (.Call (.Name x p) [.Constant (.str m) j p2] [] p3)) none pos) (tS c W fun ρ => .err k ρ) :=
  ps_of (ps_raise hc tk (pmk_own PySem.F.excBase_ValueError q gC kC r hg hdb)) fun E σ H ⟨pin, Z, ρ, Hf, S, g⟩ => g σ H Hf (Same.refl _) S
end

/-! ### a def's body -/
def startR (io : Bool) (nn : Nat) (ds : List D) : En :=
  match io, ds with
  | true, .lst xs :: ds => .ow true (.lst xs) :: (ds.map .va ++ List.replicate (nn - (ds.length + 1)) .un)
  | _, ds => ds.map .va ++ List.replicate (nn - ds.length) .un
def endD : R Fl → Cr D
  | .ok .nx _ => .ok .non
  | .ok (.rt d) _ => .ok d
  | .ok _ _ => .bad
  | .err x _ => .err x
  | .bad => .bad
def endM : R Fl → Cr (D × List D)
  | .ok .nx ρ => match (ρ : List Sl)[0]? with | some (Sl.ow true (.lst ys)) => .ok (.non, ys) | _ => .bad
  | .ok (.rt d) ρ => match (ρ : List Sl)[0]? with | some (Sl.ow true (.lst ys)) => .ok (d, ys) | _ => .bad
  | _ => .bad
def endF : R Fl → Cr (List D)
  | .ok (.rf xs) _ => .ok xs
  | .err x _ => .err x
  | _ => .bad
/-- the caller's heap but for the list that it handed over and what is spoken of -/
def zOf (H Hf : Hp) (p : Option Addr) : Hp := fun a => if some a = p ∨ Hf a ≠ none then none else H a
section
variable {c : Cn}
theorem startR_get {nn : Nat} : ∀ {ds : List D} {i : Nat} {s : Sl}, (ds.map Sl.va ++ List.replicate (nn - ds.length) Sl.un)[i]? = some s → s = .un ∨ ∃ d, s = .va d ∧ ds[i]? = some d := fun {ds i s} h => by
  by_cases hi : i < ds.length
  · rw [List.getElem?_append_left (by simpa using hi), List.getElem?_map] at h
    cases e : ds[i]? with
    | none => rw [e] at h; cases h
    | some d => rw [e] at h; cases h; exact .inr ⟨d, rfl, rfl⟩
  · rw [List.getElem?_append_right (by simpa using hi), List.getElem?_replicate] at h
    split at h
    · cases h; exact .inl rfl
    · cases h
theorem start_get {N : List Str} {vs : List V} {i : Nat} {v : V} (h : vs[i]? = some v) : (L2.start N vs)[i]? = some (some v) := by
  obtain ⟨hi, _⟩ := List.getElem?_eq_some_iff.mp h
  unfold L2.start
  rw [List.getElem?_append_left (by simpa using hi), List.getElem?_map, h]
  rfl
theorem start_SR {N : List Str} {vs : List V} {ds : List D} {H Hf : Hp} {pin : Addr} (hl : vs.length ≤ N.length) (hf : Same Hf H) (r : Reps c Hf vs ds) : SR c pin (zOf H Hf none) (startR false N.length ds) (L2.start N vs) H Hf := by
  have len := r.length
  refine ⟨fun a o e => ?_, hf, fun a o e _ => ?_, ?_, fun i s e => ?_, fun i j io io' xs ys p hij ei ej _ _ => ?_⟩
  · unfold zOf at e; split at e
    · cases e
    · exact e
  · unfold zOf at e; split at e
    · cases e
    · rename_i h; simp only [not_or, Decidable.not_not] at h; exact h.2
  · unfold startR L2.start
    simp only [List.length_append, List.length_map, List.length_replicate]
    omega
  · rcases startR_get (show (ds.map Sl.va ++ List.replicate (N.length - ds.length) Sl.un)[i]? = some s from e) with rfl | ⟨d, rfl, e1⟩
    · trivial
    · obtain ⟨v, e2, rv⟩ := r.get e1
      exact ⟨v, start_get e2, rv⟩
  · rcases startR_get (show (ds.map Sl.va ++ List.replicate (N.length - ds.length) Sl.un)[i]? = some _ from ei) with h | ⟨d, h, _⟩ <;> cases h
theorem start_SRM {N : List Str} {vs us : List V} {xs ds : List D} {H Hf : Hp} {p : Addr} (hl : vs.length + 1 ≤ N.length) (hf : Same Hf H) (r : Reps c Hf vs ds) (hp : H p = some (.lst us)) (fp : Hf p = none) (rx : Reps c Hf us xs) :
    SR c p (zOf H Hf (some p)) (startR true N.length (.lst xs :: ds)) (L2.start N (.ref p :: vs)) H Hf := by
  have len := r.length
  have get : ∀ {i : Nat} {s : Sl}, (startR true N.length (.lst xs :: ds))[i]? = some s → (i = 0 ∧ s = .ow true (.lst xs)) ∨ (s = .un) ∨ ∃ d j, i = j + 1 ∧ s = .va d ∧ ds[j]? = some d := fun {i s} e => by
    cases i with
    | zero => cases e; exact .inl ⟨rfl, rfl⟩
    | succ j =>
      have e : (ds.map Sl.va ++ List.replicate (N.length - (ds.length + 1)) Sl.un)[j]? = some s := e
      by_cases hi : j < ds.length
      · rw [List.getElem?_append_left (by simpa using hi), List.getElem?_map] at e
        cases e1 : ds[j]? with
        | none => rw [e1] at e; cases e
        | some d => rw [e1] at e; cases e; exact .inr (.inr ⟨d, j, rfl, rfl, e1⟩)
      · rw [List.getElem?_append_right (by simpa using hi), List.getElem?_replicate] at e
        split at e
        · cases e; exact .inr (.inl rfl)
        · cases e
  refine ⟨fun a o e => ?_, hf, fun a o e _ => ?_, ?_, fun i s e => ?_, fun i j io io' xs ys p' hij ei ej _ _ => ?_⟩
  · unfold zOf at e; split at e
    · cases e
    · exact e
  · unfold zOf at e; split at e
    · cases e
    · rename_i h; simp only [not_or, Decidable.not_not] at h; exact h.2
  · unfold startR L2.start
    simp only [List.length_append, List.length_map, List.length_replicate, List.length_cons]
    omega
  · rcases get e with ⟨rfl, rfl⟩ | rfl | ⟨d, j, rfl, rfl, e1⟩
    · exact ⟨p, .lst us, rfl, hp, fp, by unfold zOf; rw [if_pos (.inl rfl)], rx, fun _ => rfl⟩
    · trivial
    · obtain ⟨v, e2, rv⟩ := r.get e1
      exact ⟨v, start_get (show (V.ref p :: vs)[j + 1]? = some v from e2), rv⟩
  · rcases get ei with ⟨rfl, _⟩ | h | ⟨d, j', _, h, _⟩
    · rcases get ej with ⟨rfl, _⟩ | h | ⟨d, j', _, h, _⟩
      · exact hij rfl
      · cases h
      · cases h
    · cases h
    · cases h
/-- the def's body runs as the promise says -/
theorem body_D {N : List Str} {vs : List V} {H : Hp} {Q : VK} {E : XK} {r : En → R Fl} {ar : Nat} (hN : ar ≤ N.length) (h : spD c ar (fun ds => endD (r (startR false N.length ds))) vs H Q E) :
    tS c (fun cls d _ H' => E cls d H') r { nx := fun _ H' => Q .non H', rt := Q } (L2.start N vs) H := by
  obtain ⟨Hf, ds, hl, hf, rr, h⟩ := h
  have S := start_SR (N := N) (pin := 0) (by rw [hl]; exact hN) hf rr
  refine ⟨0, _, _, Hf, S, ?_⟩
  have back : ∀ {ρ : En} {σ : Sg} {H' Hf' : Hp}, SR c 0 (zOf H Hf none) ρ σ H' Hf' → Same Hf Hf' → Same H H' ∧ ∀ a o, H a = some o → NT o → Hf a = none → Hf' a = none := fun {ρ σ H' Hf'} S' s => by
    have zz : ∀ a o, H a = some o → Hf a = none → zOf H Hf none a = some o := fun a o e f => by
      unfold zOf
      rw [if_neg (by simp [f])]
      exact e
    refine ⟨fun a o e => ?_, fun a o q nt f => S'.dj _ _ (zz a o q f) nt⟩
    · cases q : Hf a with
      | none => exact S'.z _ _ (zz a o e q)
      | some u =>
        have := hf _ _ q
        rw [e] at this
        cases this
        exact S'.f _ _ (s _ _ q)
  dsimp only at h ⊢
  cases hr : r (startR false N.length ds) with
  | ok fl ρ =>
    rw [hr] at h
    cases fl with
    | nx => exact fun σ H' Hf' s S' => h _ _ _ (back S' s).1 s S'.f (back S' s).2 .non
    | rt d => exact fun v σ H' Hf' s S' rv => h _ _ _ (back S' s).1 s S'.f (back S' s).2 rv
    | bk => exact h.elim
    | ct => exact h.elim
    | rf xs => exact h.elim
  | err x ρ => rw [hr] at h; exact fun σ H' Hf' s S' => h _ (back S' s).1
  | bad => rw [hr] at h; exact h.elim
theorem body_F {N : List Str} {vs : List V} {H : Hp} {Q : VK} {E : XK} {r : En → R Fl} {ar : Nat} (hN : ar ≤ N.length) (h : spF c ar (fun ds => endF (r (startR false N.length ds))) vs H Q E) :
    tS c (fun cls d _ H' => E cls d H') r { nx := fun _ H' => Q .non H', rt := Q } (L2.start N vs) H := by
  obtain ⟨Hf, ds, hl, hf, rr, h⟩ := h
  have S := start_SR (N := N) (pin := 0) (by rw [hl]; exact hN) hf rr
  refine ⟨0, _, _, Hf, S, ?_⟩
  have zz : ∀ a o, H a = some o → Hf a = none → zOf H Hf none a = some o := fun a o e f => by
    unfold zOf
    rw [if_neg (by simp [f])]
    exact e
  have back : ∀ {ρ : En} {σ : Sg} {H' Hf' : Hp}, SR c 0 (zOf H Hf none) ρ σ H' Hf' → Same Hf Hf' → Same H H' ∧ ∀ a o, H a = some o → NT o → Hf a = none → Hf' a = none := fun {ρ σ H' Hf'} S' s => by
    refine ⟨fun a o e => ?_, fun a o q nt f => S'.dj _ _ (zz a o q f) nt⟩
    · cases q : Hf a with
      | none => exact S'.z _ _ (zz a o e q)
      | some u =>
        have := hf _ _ q
        rw [e] at this
        cases this
        exact S'.f _ _ (s _ _ q)
  dsimp only at h ⊢
  cases hr : r (startR false N.length ds) with
  | ok fl ρ =>
    rw [hr] at h
    cases fl with
    | nx => exact h.elim
    | rt d => exact h.elim
    | bk => exact h.elim
    | ct => exact h.elim
    | rf xs =>
      intro p us σ H' Hf' s S' hp fp zp rr
      refine h p us H' Hf' (back S' s).1 s S'.f (back S' s).2 hp ?_ fp rr
      cases q : H p with
      | none => rfl
      | some o =>
        cases q2 : Hf p with
        | none => rw [zz p o q q2] at zp; cases zp
        | some u => rw [s _ _ q2] at fp; cases fp
  | err x ρ => rw [hr] at h; exact fun σ H' Hf' s S' => h _ (back S' s).1
  | bad => rw [hr] at h; exact h.elim
theorem body_M {N : List Str} {vs : List V} {H : Hp} {Q : VK} {E : XK} {r : En → R Fl} {ar : Nat} (hN : ar ≤ N.length) (h : spM c ar (fun xs ds => endM (r (startR true N.length (.lst xs :: ds)))) vs H Q E) :
    tS c (fun cls d _ H' => E cls d H') r { nx := fun _ H' => Q .non H', rt := Q } (L2.start N vs) H := by
  obtain ⟨p, us, vs', Hf, xs, ds, rfl, hl, hf, hp, fp, rx, rr, h⟩ := h
  have S := start_SRM (N := N) (by rw [List.length_cons] at hl; omega) hf rr hp fp rx
  refine ⟨p, _, _, Hf, S, ?_⟩
  have back : ∀ {ρ : En} {σ : Sg} {H' Hf' : Hp}, SR c p (zOf H Hf (some p)) ρ σ H' Hf' → Same Hf Hf' → (∀ a o, a ≠ p → H a = some o → H' a = some o) ∧ ∀ a o, a ≠ p → H a = some o → NT o → Hf a = none → Hf' a = none := fun {ρ σ H' Hf'} S' s => by
    have zz : ∀ a o, a ≠ p → H a = some o → Hf a = none → zOf H Hf (some p) a = some o := fun a o ne e f => by
      unfold zOf
      rw [if_neg (by simp [f, ne])]
      exact e
    refine ⟨fun a o ne e => ?_, fun a o ne q nt f => S'.dj _ _ (zz a o ne q f) nt⟩
    · cases q : Hf a with
      | none => exact S'.z _ _ (zz a o ne e q)
      | some u =>
        have := hf _ _ q
        rw [e] at this
        cases this
        exact S'.f _ _ (s _ _ q)
  have fin : ∀ {ρ : En} {σ : Sg} {H' Hf' : Hp} {d : D} {v : V} {ys : List D}, ρ[0]? = some (.ow true (.lst ys)) → SR c p (zOf H Hf (some p)) ρ σ H' Hf' → Same Hf Hf' → Rep c Hf' v d →
      (∀ v H' Hf' us', (∀ a o, a ≠ p → H a = some o → H' a = some o) → H' p = some (.lst us') → Reps c Hf' us' ys → Same Hf Hf' → Same Hf' H' → (∀ a o, H a = some o → NT o → Hf a = none → Hf' a = none) → Rep c Hf' v d → Q v H') → Q v H' := fun {ρ σ H' Hf' d v ys} e S' s rv k => by
    obtain ⟨q, us', e1, e2, e3, e4, r5, pn⟩ := S'.sl 0 _ e
    obtain ⟨us', rfl, r5⟩ := r5.lst
    cases pn rfl
    refine k v H' Hf' us' (back S' s).1 e2 r5 s S'.f (fun a o ha nt f => ?_) rv
    by_cases ne : a = p
    · subst ne; exact e3
    · exact (back S' s).2 a o ne ha nt f
  dsimp only at h ⊢
  cases hr : r (startR true N.length (.lst xs :: ds)) with
  | ok fl ρ =>
    rw [hr] at h
    cases fl with
    | nx =>
      simp only [endM] at h
      split at h
      · rename_i d ys q
        split at q
        · rename_i ys' e
          cases q
          exact fun σ H' Hf' s S' => fin e S' s .non h
        · cases q
      · exact h.elim
    | rt d =>
      simp only [endM] at h
      split at h
      · rename_i d' ys q
        split at q
        · rename_i ys' e
          cases q
          exact fun v σ H' Hf' s S' rv => fin e S' s rv h
        · cases q
      · exact h.elim
    | bk => exact h.elim
    | ct => exact h.elim
    | rf xs => exact h.elim
  | err x ρ => rw [hr] at h; exact h.elim
  | bad => rw [hr] at h; exact h.elim
end
end Ev

end
section
set_option maxHeartbeats 2000000
namespace Ev
open PySem PySem.Spec PyProof.Rows L2

/-! ### values and new lists, side by side -/
/-- vs: the values; ss: what the names hold behind it -/
def PR (c : Cn) (Z : Hp) (ρ : En) (σ : Sg) (Hf H : Hp) : List V → List Sl → Prop
  | [], [] => True
  | v :: vs, .va d :: ss => Rep c Hf v d ∧ PR c Z ρ σ Hf H vs ss
  | v :: vs, .ow false xs :: ss => (∃ p us, v = .ref p ∧ H p = some us ∧ Hf p = none ∧ Z p = none ∧ Away ρ σ p ∧ ObR c Hf us xs ∧ ∀ (k : Nat) (io : Bool) (ys : Ob), ss[k]? = some (.ow io ys) → vs[k]? ≠ some (.ref p)) ∧ PR c Z ρ σ Hf H vs ss
  | _, _ => False
abbrev relPs (c : Cn) : Rel (List Sl) (List V) := fun Z ρ σ Hf H vs ss => PR c Z ρ σ Hf H vs ss
abbrev tP (c : Cn) (W : WX) (f : En → R (List Sl)) : TA := tG c W (relPs c) f
def setP (i : Nat) (s : Sl) (ρ : En) : Option En :=
  match s with
  | .va d => setV i d ρ
  | .ow false xs => setO i xs ρ
  | _ => none
def setPs : List Nat → List Sl → En → Option En
  | [], [], ρ => some ρ
  | i :: is, s :: ss, ρ => (setP i s ρ).bind (setPs is ss)
  | _, _, _ => none
section
variable {c : Cn} {pin : Addr} {Z : Hp} {ρ ρ' : En} {σ : Sg} {H Hf : Hp}
theorem PR.length : ∀ {vs : List V} {ss : List Sl}, PR c Z ρ σ Hf H vs ss → vs.length = ss.length
  | [], [], _ => rfl
  | v :: vs, .va d :: ss, h => congrArg Nat.succ (PR.length h.2)
  | v :: vs, .ow false xs :: ss, h => congrArg Nat.succ (PR.length h.2)
  | [], _ :: _, h => h.elim
  | _ :: _, [], h => h.elim
  | _ :: _, .un :: _, h => h.elim
  | _ :: _, .ow true _ :: _, h => h.elim
/-- under one guard more: no new list is the guarded one -/
theorem PR.unguard {P : Addr} {o : HO} : ∀ {vs : List V} {ss : List Sl}, PR c (upd Z P o) ρ σ Hf H vs ss → PR c Z ρ σ Hf H vs ss ∧ ∀ (k : Nat) (io : Bool) (ys : Ob), ss[k]? = some (.ow io ys) → vs[k]? ≠ some (.ref P)
  | [], [], _ => ⟨trivial, fun k io ys e => by simp at e⟩
  | v :: vs, .va d :: ss, h => by
    obtain ⟨h1, h2⟩ := PR.unguard h.2
    refine ⟨⟨h.1, h1⟩, fun k io ys e => ?_⟩
    cases k with
    | zero => cases e
    | succ k => exact h2 k io ys (by simpa using e)
  | v :: vs, .ow false xs :: ss, h => by
    obtain ⟨h1, h2⟩ := PR.unguard h.2
    obtain ⟨p, us, e1, e2, e3, e4, e5, e6, e7⟩ := h.1
    have ne : p ≠ P := fun z => by subst z; rw [upd_same] at e4; cases e4
    refine ⟨⟨⟨p, us, e1, e2, e3, by rw [upd_ne ne] at e4; exact e4, e5, e6, e7⟩, h1⟩, fun k io ys e => ?_⟩
    cases k with
    | zero => intro z; rw [e1] at z; simp at z; exact ne z
    | succ k => exact h2 k io ys (by simpa using e)
  | [], _ :: _, h => h.elim
  | _ :: _, [], h => h.elim
  | _ :: _, .un :: _, h => h.elim
  | _ :: _, .ow true _ :: _, h => h.elim
/-- behind a store of another -/
theorem PR.away {ρ2 : En} {σ2 : Sg} : ∀ {vs : List V} {ss : List Sl}, PR c Z ρ σ Hf H vs ss → (∀ p (k : Nat) (io : Bool) (ys : Ob), ss[k]? = some (.ow io ys) → vs[k]? = some (.ref p) → Away ρ σ p → Away ρ2 σ2 p) → PR c Z ρ2 σ2 Hf H vs ss
  | [], [], _, _ => trivial
  | v :: vs, .va d :: ss, h, a => ⟨h.1, PR.away h.2 fun p k io ys e1 e2 => a p (k + 1) io ys (by simpa using e1) (by simpa using e2)⟩
  | v :: vs, .ow false xs :: ss, h, a => by
    obtain ⟨p, us, e1, e2, e3, e4, e5, e6, e7⟩ := h.1
    exact ⟨⟨p, us, e1, e2, e3, e4, a p 0 false xs rfl (by rw [e1]; rfl) e5, e6, e7⟩, PR.away h.2 fun p k io ys e1 e2 => a p (k + 1) io ys (by simpa using e1) (by simpa using e2)⟩
  | [], _ :: _, h, _ => h.elim
  | _ :: _, [], h, _ => h.elim
  | _ :: _, .un :: _, h, _ => h.elim
  | _ :: _, .ow true _ :: _, h, _ => h.elim
/-- the stores, one behind another -/
theorem SR.setPs : ∀ {is : List Nat} {ss : List Sl} {vs : List V} {ρ ρ' : En} {σ : Sg}, SR c pin Z ρ σ H Hf → PR c Z ρ σ Hf H vs ss → setPs is ss ρ = some ρ' →
    SR c pin Z ρ' ((is.zip vs).foldl (fun σ q => σ.set q.1 (some q.2)) σ) H Hf
  | [], [], [], ρ, ρ', σ, S, _, e => by cases e; exact S
  | i :: is, s :: ss, v :: vs, ρ, ρ', σ, S, h, e => by
    simp only [Ev.setPs, Option.bind_eq_some_iff] at e
    obtain ⟨ρ1, e1, e2⟩ := e
    show SR c pin Z ρ' ((is.zip vs).foldl (fun σ q => σ.set q.1 (some q.2)) (σ.set i (some v))) H Hf
    cases s with
    | un => cases e1
    | va d =>
      have e1 : Ev.setV i d ρ = some ρ1 := e1
      have h : Rep c Hf v d ∧ PR c Z ρ σ Hf H vs ss := h
      refine SR.setPs (S.setV e1 h.1) (h.2.away fun p k io ys _ _ aw j io' zs ej => ?_) e2
      obtain ⟨s0, _, rfl⟩ := setV_some e1
      rcases set_get ej with ⟨_, z, _⟩ | ⟨ne, ej⟩
      · cases z
      · rw [List.getElem?_set_ne ne]; exact aw j io' zs ej
    | ow io xs =>
      cases io with
      | true => cases e1
      | false =>
        have e1 : setO i xs ρ = some ρ1 := e1
        obtain ⟨⟨p, us, rfl, q2, q3, q4, q5, q6, q7⟩, h2⟩ : (∃ p us, v = .ref p ∧ H p = some us ∧ Hf p = none ∧ Z p = none ∧ Away ρ σ p ∧ ObR c Hf us xs ∧ ∀ (k : Nat) (io : Bool) (ys : Ob), ss[k]? = some (.ow io ys) → vs[k]? ≠ some (.ref p)) ∧ PR c Z ρ σ Hf H vs ss := h
        refine SR.setPs (S.own e1 q2 q3 q4 q5 q6) (h2.away fun q k io ys f1 f2 aw j io' zs ej => ?_) e2
        have : ∃ s, ρ[i]? = some s ∧ ρ1 = ρ.set i (.ow false xs) := by
          unfold setO at e1
          split at e1
          · cases e1
          · rename_i s _ e; cases e1; exact ⟨_, e, rfl⟩
          · cases e1
        obtain ⟨s0, hs0, rfl⟩ := this
        rcases set_get ej with ⟨rfl, _, _⟩ | ⟨ne, ej⟩
        · rw [List.getElem?_set_self (S.lt hs0)]
          intro z
          cases z
          exact q7 k io ys f1 f2
        · rw [List.getElem?_set_ne ne]; exact aw j io' zs ej
  | [], _ :: _, _, _, _, _, _, _, e => by cases e
  | _ :: _, [], _, _, _, _, _, _, e => by cases e
  | [], [], _ :: _, _, _, _, _, h, _ => h.elim
  | _ :: _, _ :: _, [], _, _, _, _, h, _ => h.elim
end
/-- the same, as a tuple's targets are stored -/
theorem gLP : ∀ {is : List Nat} {vs : List V} {σ : Sg} {H : Hp} {Q : Sg → Hp → Prop}, vs.length = is.length → Q ((is.zip vs).foldl (fun σ q => σ.set q.1 (some q.2)) σ) H → gL is vs σ H Q
  | [], [], _, _, _, _, q => ⟨rfl, q⟩
  | i :: is, v :: vs, σ, H, Q, l, q => ⟨_, _, rfl, gLP (by simpa using l) q⟩
  | [], _ :: _, _, _, _, l, _ => by cases l
  | _ :: _, [], _, _, _, l, _ => by cases l
section
variable {X : Cx} {c : Cn} {W : WX} {a : Expr} {es : List Expr} {fa : En → R D} {ff : En → R (List D)} {fs : En → R (List Sl)}
theorem s_pnil : PA X [] (tP c W fun ρ => .ok [] ρ) := pa_of pa_nil fun σ H Q ⟨pin, Z, ρ, Hf, S, g⟩ => g [] _ _ (Same.refl _) S trivial
theorem PR.imp {Z : Hp} {ρ : En} {σ : Sg} {Hf H : Hp} {vs : List V} {ss : List Sl} (h : PR c Z ρ σ Hf H vs ss) : PR c Z ρ σ Hf H vs ss := h
theorem s_pcE (h : noStar a = true) (ha : PE X a (tE c W fa)) (hs : PA X es (tP c W fs)) : PA X (a :: es) (tP c W fun ρ => (fa ρ).bind fun d ρ1 => (fs ρ1).bind fun ss ρ2 => .ok (.va d :: ss) ρ2) := by
  refine pa_of (pa_cons ha hs (star_cons h)) fun σ H Q g => ?_
  refine tG.seq g fun pin Z d ρ1 v H1 Hf1 S1 r1 g1 => ⟨pin, Z, ρ1, Hf1, S1, ?_⟩
  refine Go.seq g1 fun ss ρ2 vs H2 Hf2 s2 S2 r2 g2 => ?_
  exact g2 (v :: vs) H2 Hf2 (Same.refl _) S2 ⟨Rep.mono s2 r1, r2⟩
theorem s_pcF (h : noStar a = true) (ha : PE X a (tF c W ff)) (hs : PA X es (tP c W fs)) : PA X (a :: es) (tP c W fun ρ => (ff ρ).bind fun xs ρ1 => (fs ρ1).bind fun ss ρ2 => .ok (.ow false xs :: ss) ρ2) := by
  refine pa_of (pa_cons ha hs (star_cons h)) fun σ H Q g => ?_
  refine tG.seq g fun pin Z xs ρ1 v H1 Hf1 S1 r1 g1 => ?_
  obtain ⟨p, us, rfl, q2, q3, q4, q5, q6⟩ := r1
  refine ⟨pin, upd Z p (.lst us), ρ1, Hf1, S1.guard q2 q3 q4 q5, ?_⟩
  cases hf : fs ρ1 with
  | bad => rw [hf] at g1; exact g1.elim
  | err x ρ2 => rw [hf] at g1; exact fun H2 Hf2 s2 S2 => g1 H2 Hf2 s2 (S2.unguard q4 trivial).1
  | ok ss ρ2 =>
    rw [hf] at g1
    intro vs H2 Hf2 s2 S2 r2
    obtain ⟨S3, k1, k2, k3⟩ := S2.unguard q4 trivial
    obtain ⟨r3, r4⟩ := PR.unguard r2
    exact g1 (.ref p :: vs) H2 Hf2 s2 S3 ⟨⟨p, .lst us, rfl, k1, k2, q4, k3, q6.mono s2, r4⟩, r3⟩
theorem tG_imp {α β : Type} {rel : Rel α β} {f : En → R α} {σ : Sg} {H : Hp} {Q Q1 : β → Hp → Prop} (g : tG c W rel f σ H Q) (h : ∀ b H, Q b H → Q1 b H) : tG c W rel f σ H Q1 := by
  obtain ⟨pin, Z, ρ, Hf, S, g⟩ := g
  exact ⟨pin, Z, ρ, Hf, S, Go.imp g h⟩
variable {i j l : Nat} {x y z : Str} {b d : Expr} {px py pz pt pos : Pos} {kt k2 : Nat} {pt2 : Pos}
theorem setPs_len : ∀ (is : List Nat) (ss : List Sl) (ρ ρ' : En), setPs is ss ρ = some ρ' → ss.length = is.length := by
  intro is
  induction is with
  | nil => intro ss ρ ρ' e; cases ss <;> first | rfl | cases e
  | cons i is ih =>
    intro ss ρ ρ' e
    cases ss with
    | nil => cases e
    | cons s ss =>
      simp only [Ev.setPs, Option.bind_eq_some_iff] at e
      obtain ⟨ρ1, _, e2⟩ := e
      rw [List.length_cons, List.length_cons, ih ss ρ1 ρ' e2]
def parR (is : List Nat) (fs : En → R (List Sl)) (ρ : En) : R Fl := (fs ρ).bind fun ss ρ1 => (R.lift (setPs is ss ρ1) ρ1).bind fun ρ2 _ => .ok .nx ρ2
theorem parR_reads {is : List Nat} {E : Ends} {σ : Sg} {H : Hp} (g : tS c W (parR is fs) E σ H) : tP c W fs σ H fun vs H1 => vs.length = is.length ∧ E.nx ((is.zip vs).foldl (fun σ q => σ.set q.1 (some q.2)) σ) H1 := by
  refine tS.seqE (f := fs) g fun pin Z ss ρ1 vs H1 Hf1 S1 r1 g1 => ?_
  cases e : setPs is ss ρ1 with
  | none => rw [e] at g1; exact g1.elim
  | some ρ2 =>
    rw [e] at g1
    have S2 := S1.setPs r1 e
    refine ⟨?_, g1 _ _ _ (Same.refl _) S2⟩
    rw [PR.length r1]
    exact setPs_len _ _ _ _ e
theorem t_par2 (hc : X.calm = true) (hN : X.N.Nodup) (hi : X.N[i]? = some x) (hj : X.N[j]? = some y) (hij : i ≠ j) (hx : X.env.scope.names.lookup x = some .local) (hy : X.env.scope.names.lookup y = some .local) (ha : PA X [a, b] (tP c W fs))
    (hw : swappedStores [.Tuple [.Name x px, .Name y py] kt pt] (.Tuple [a, b] k2 pt2) X.env = pure (some [x, y])) :
    PS X (.Assign [.Tuple [.Name x px, .Name y py] kt pt] (.Tuple [a, b] k2 pt2) pos) (tS c W (parR [i, j] fs)) :=
  ps_of (ps_par hc hN hi hj hij hx hy ha hw) fun E σ H g => by
    refine tG_imp (parR_reads g) fun vs H1 h => ?_
    match vs, h with
    | [v, w], h => exact ⟨v, w, rfl, h.2⟩
theorem t_par3 (hc : X.calm = true) (hN : X.N.Nodup) (hi : X.N[i]? = some x) (hj : X.N[j]? = some y) (hl : X.N[l]? = some z) (hij : i ≠ j) (hil : i ≠ l) (hjl : j ≠ l) (hx : X.env.scope.names.lookup x = some .local) (hy : X.env.scope.names.lookup y = some .local) (hz : X.env.scope.names.lookup z = some .local) (ha : PA X [a, b, d] (tP c W fs))
    (hw : swappedStores [.Tuple [.Name x px, .Name y py, .Name z pz] kt pt] (.Tuple [a, b, d] k2 pt2) X.env = pure (some [x, y, z])) :
    PS X (.Assign [.Tuple [.Name x px, .Name y py, .Name z pz] kt pt] (.Tuple [a, b, d] k2 pt2) pos) (tS c W (parR [i, j, l] fs)) :=
  ps_of (ps_par3 hc hN hi hj hl hij hil hjl hx hy hz ha hw) fun E σ H g => by
    refine tG_imp (parR_reads g) fun vs H1 h => ?_
    match vs, h with
    | [u, v, w], h => exact ⟨u, v, w, rfl, h.2⟩
/-- a pair is made and taken apart -/
theorem t_parG {is : List Nat} {ts vs' : List Expr} (hK : X.K = c.K) (hlt : ts.length ≤ 1000) (hgl : PG X (.Tuple ts kt pt) (tgT c (.tup is))) (ha : PA X vs' (tP c W fs)) (hil : is.length ≤ 1000)
    (hs : swapsWithSole [.Tuple ts kt pt] (.Tuple vs' k2 pt2) pos.line X.env = pure false) (hw : swappedStores [.Tuple ts kt pt] (.Tuple vs' k2 pt2) X.env = pure none) :
    PS X (.Assign [.Tuple ts kt pt] (.Tuple vs' k2 pt2) pos) (tS c W (parR is fs)) := by
  refine ps_of (ps_asg (pe_tup ha) hgl hs hw (asg_cons rfl)) fun E σ H g => ?_
  refine tS.seqE (f := fs) g fun pin Z ss ρ1 vs H1 Hf1 S1 r1 g1 => ?_
  cases e : setPs is ss ρ1 with
  | none => rw [e] at g1; exact g1.elim
  | some ρ2 =>
    rw [e] at g1
    have el := setPs_len _ _ _ _ e
    have vl : vs.length = is.length := (PR.length r1).trans el
    refine ⟨by rw [LN_eq, vl]; have : LN = 16777216 := rfl; omega, fun p hp => ?_⟩
    have S2 := (S1.setPs r1 e).new (o := .tup vs) hp
    exact ⟨p, vs, rfl, .inl (.inl upd_same), vl, gLP vl (g1 _ _ _ (Same.refl _) S2)⟩
end
end Ev

end
section
set_option maxHeartbeats 2000000
namespace Ev
open PySem PySem.Spec PyProof.Rows L2

/-! ### a def picked out of a list of defs -/
def fnIx (ks : List Nat) (d : D) : Option Nat :=
  match ixD (.lst (ks.map D.fn)) d with
  | some (.fn k) => some k
  | _ => none
theorem reps_fn {c : Cn} {H : Hp} : ∀ (ks : List Nat), Reps c H (ks.map fun k => V.ref (c.A k)) (ks.map D.fn)
  | [] => .nil
  | k :: ks => .cons (.fn k) (reps_fn ks)
theorem fnIx_ok {ks : List Nat} {d e : D} (h : ixD (.lst (ks.map D.fn)) d = some e) : ∃ k, e = .fn k ∧ k ∈ ks ∧ fnIx ks d = some k := by
  have h0 := h
  cases d <;> try (cases h; done)
  rename_i i
  have h : (L2.ixN (ks.map D.fn).length i).bind (fun j => (ks.map D.fn)[j]?) = some e := h
  rw [Option.bind_eq_some_iff] at h
  obtain ⟨j, _, h⟩ := h
  rw [List.getElem?_map, Option.map_eq_some_iff] at h
  obtain ⟨k, hk, rfl⟩ := h
  refine ⟨k, rfl, List.mem_of_getElem? hk, ?_⟩
  unfold fnIx
  rw [h0]
section
variable {X : Cx} {c : Cn} {W : WX} {pos p p1 p2 p3 : Pos} {a e : Expr} {es xs : List Expr} {n m : Nat} {fs : En → R (List D)} {fi : En → R D}
/-- the list of the defs -/
theorem s_fns {ks : List Nat} (hs : PA X xs (fun σ H Q => Q (ks.map fun k => V.ref (c.A k)) H)) (hl : ks.length ≤ 1000) : PE X (.List xs pos) (tE c W fun ρ => .ok (.lst (ks.map D.fn)) ρ) := by
  refine pe_of (pe_lst hs) fun σ H Q ⟨pin, Z, ρ, Hf, S, g⟩ => ?_
  refine ⟨by rw [List.length_map, LN_eq]; have : LN = 16777216 := rfl; omega, fun q hq => ?_⟩
  obtain ⟨S', s'⟩ := S.newS hq
  exact g _ _ _ s' S' (Rep.newL s' (reps_fn ks))
/-- what a def is: where it stands, what it promises -/
def FnAt (X : Cx) (c : Cn) (n m k : Nat) (r : List D → Cr D) : Prop := ∃ fd ps, ps.length = m ∧ FnOk X.prog X.w X.K X.mg X.base (L2.CX X.prog X.w) n (c.A k) fd ps (spD c ps.length r) ∧ PySem.W.keepIn X.K (.ref (c.A k)) = true ∧ Binds X.K fd ps []
theorem s_callX {ks : List Nat} {dD : Nat → List D → Cr D} (hK : X.K = c.K) (hA : ∀ k ∈ ks, FnAt X c n m k (dD k)) (hr : Room n X.A) (hu : X.A.units + 65 < cLine) (tk : Takes X W) (hp : plainSl e = true) (hl : ks.length ≤ 1000) (hxs : PA X xs (fun σ H Q => Q (ks.map fun k => V.ref (c.A k)) H)) (hi : PE X e (tE c W fi))
    (hn : (a :: es).all noStar = true) (hs : PA X (a :: es) (tA c W fs)) :
    PE X (.Call (.Subscript (.List xs p1) e p2) (a :: es) [] pos) (tE c W fun ρ => (fi ρ).bind fun d ρ1 => (R.lift (fnIx ks d) ρ1).bind fun k ρ2 => (fs ρ2).bind fun ds ρ3 => if ds.length = m then (dD k ds).r ρ3 else .bad) := by
  have hf := s_ix (pos := p2) hK hu hp (s_fns (W := W) (pos := p1) hxs hl) hi
  rw [List.all_cons, Bool.and_eq_true] at hn
  refine ⟨fun pins s σ H Q I h => ?_⟩
  have h1 : tE c W (fun ρ => (R.ok (D.lst (ks.map D.fn)) ρ).bind fun x ρ1 => (fi ρ1).bind fun k ρ2 => R.lift (ixD x k) ρ2) σ H fun v H1 => ∃ k, k ∈ ks ∧ v = .ref (c.A k) ∧ tA c W fs σ H1 fun vs H2 => spD c m (dD k) vs H2 Q (WE W σ) := by
    obtain ⟨pin, Z, ρ, Hf, S, g⟩ := h
    refine ⟨pin, Z, ρ, Hf, S, ?_⟩
    dsimp only [R.bind] at g ⊢
    cases hfi : fi ρ with
    | bad => rw [hfi] at g; exact g.elim
    | err x ρ1 => rw [hfi] at g; exact g
    | ok d ρ1 =>
      rw [hfi] at g
      dsimp only at g ⊢
      cases hx : ixD (.lst (ks.map D.fn)) d with
      | none =>
        have : fnIx ks d = none := by unfold fnIx; rw [hx]
        rw [this] at g
        exact g.elim
      | some w =>
        obtain ⟨k, rfl, hk, e1⟩ := fnIx_ok hx
        rw [e1] at g
        intro v H1 Hf1 s1 S1 r1
        cases r1
        refine ⟨k, hk, rfl, pin, Z, ρ1, Hf1, S1, ?_⟩
        have g : Go c pin Z W σ Hf (relD c) ((fs ρ1).bind fun ds ρ3 => if ds.length = m then (dD k ds).r ρ3 else .bad) Q := g
        refine Go.seq (Go.mono s1 g) fun ds ρ3 vs H2 Hf2 s2 S2 r2 h2 => ?_
        split at h2
        · rename_i hl
          refine ⟨Hf2, ds, by rw [Reps.length r2, hl], S2.f, r2, ?_⟩
          cases hr : dD k ds with
          | ok d => rw [hr] at h2; exact fun v H' Hf' s1 s2 s3 fr rv => h2 v H' Hf' s2 (S2.called s1 s2 s3 fr) rv
          | err y => rw [hr] at h2; exact fun H' s1 => h2 H' Hf2 (Same.refl _) (S2.called s1 (Same.refl _) (S2.f.trans s1) fun _ _ _ _ z => z)
          | bad => rw [hr] at h2; exact h2.elim
        · exact h2.elim
  refine Call_ (thn (hf.run pins s σ H _ I h1) fun u s1 ⟨v, H1, I1, rv, k, hk, ev, q⟩ => ?_) (by rfl)
  subst ev
  obtain rfl : u = Value.ref (c.A k) := rv
  obtain ⟨fd, ps, rfl, F, hkp, hb⟩ := hA k hk
  refine PySem.W.callWith_K (h₀ := X.base) I.ok.mod.kin hkp (thn (hs.run pos pins s1 σ H1 _ I1 q) fun us s2 ⟨vs, H2, I2, r, q2⟩ => ⟨I2.kIn, ?_⟩) (star_cons hn.1) (star_any hn.2)
  exact run_fnS F hr hb (passAt tk σ) I2 r q2
end
end Ev

end
section
set_option maxHeartbeats 2000000
namespace Ev
open PySem PySem.Spec PyProof.Rows L2

/-! ### try -/
/-- the errors of the program: class 0 is the base of all -/
def subC (x k : Nat) : Bool := x == k || k == 0
/-- the classes' facts -/
structure ExcF (K : PySem.W.Frag) (C : Nat → Addr) (nC : Nat) : Prop where
  m : ∀ x k, x < nC → k < nC → PySem.W.exmOne K (.ref (C x)) (.ref (C k)) = some (subC x k)
  e : ∀ x, x < nC → ExcC K (C x)
  i : ∀ x k, x < nC → k < nC → PySem.W.kitOne K (.ref (C x)) (.ref (C k)) = some (subC x k)
def pick (hs : List (Nat × D)) (x : Nat) : Option D := (hs.find? fun h => subC x h.1).map (·.2)
def triR (nC : Nat) (hs : List (Nat × D)) : R Fl → R Fl
  | .ok f ρ => .ok f ρ
  | .err x ρ => if x < nC then (match pick hs x with | some d => .ok (.rt d) ρ | none => .err x ρ) else .bad
  | .bad => .bad
def trnR (nC i k j : Nat) (s0 s1 : Str) : R Fl → R Fl
  | .ok f ρ => .ok f ρ
  | .err x ρ => if x < nC then (if subC x k = true then (if i < ρ.length then .ok (.rt (.str (if subC x j = true then s1 else s0))) ρ else .bad) else .err x ρ) else .bad
  | .bad => .bad
@[simp] theorem triR_ok (nC : Nat) (hs : List (Nat × D)) (f : Fl) (ρ : En) : triR nC hs (.ok f ρ) = .ok f ρ := (rfl)
@[simp] theorem trnR_ok (nC i k j : Nat) (s0 s1 : Str) (f : Fl) (ρ : En) : trnR nC i k j s0 s1 (.ok f ρ) = .ok f ρ := (rfl)
section
variable {X : Cx} {c : Cn} {W : WX} {pos np pos' p1 p2 p3 p4 p5 p6 p7 p8 : Pos} {body : List Stmt} {fb : En → R Fl} {nC : Nat}
/-- the clauses -/
inductive Hds (X : Cx) (c : Cn) : List ExceptHandler → List (Nat × V × D) → Prop
  | nil : Hds X c [] []
  | cons {x : Str} {k : Nat} {v : V} {d : D} {e : Expr} {np pos' pr : Pos} {hds : List ExceptHandler} {l : List (Nat × V × D)} (hc : Names X x (.ref (c.C k))) (he : ∀ Y : Cx, PE Y e (tC v)) (hr : ∀ H, Rep c H v d) (r : Hds X c hds l) :
      Hds X c (.ExceptHandler (some (.Name x np)) none [.Return (some e) pr] pos' :: hds) ((k, v, d) :: l)
theorem hds_ok {hds : List ExceptHandler} {l : List (Nat × V × D)} (h : Hds X c hds l) : HdsOk X hds (l.map fun q => (.ref (c.C q.1), fun _ _ _ D _ H => D.rt q.2.1 H)) := by
  induction h with
  | nil => exact .nil
  | cons hc he hr r ih =>
    refine HdsOk.cons hc (fun a oe cls d pn hz hv => ?_) ih
    exact pss_of (pss_cons (ps_ret (he _)) pss_nil) fun D σ H h => h
theorem hds_rep {hds : List ExceptHandler} {l : List (Nat × V × D)} (h : Hds X c hds l) : ∀ q ∈ l, ∀ H, Rep c H q.2.1 q.2.2 := by
  induction h with
  | nil => intro q hq; cases hq
  | cons hc he hr r ih =>
    intro q hq H
    rcases List.mem_cons.mp hq with rfl | hq
    · exact hr H
    · exact ih q hq H
theorem many_of {l : List (Nat × V × D)} (hE : ExcF c.K c.C nC) (hk : ∀ q ∈ l, q.1 < nC) (hr : ∀ q ∈ l, ∀ H, Rep c H q.2.1 q.2.2) {E : Ends} {pin : Addr} {Z Hf : Hp} {x : Nat} {ρ : En} {σ : Sg} {H Hf' : Hp} (hx : x < nC)
    (s : Same Hf Hf') (S : SR c pin Z ρ σ H Hf')
    (g : GoS c pin Z W Hf (match pick (l.map fun q => (q.1, q.2.2)) x with | some d => R.ok (.rt d) ρ | none => .err x ρ) E) :
    wMany c.K W E (l.map fun q => (.ref (c.C q.1), fun _ _ _ D _ H => D.rt q.2.1 H)) (.ref (c.C x)) none σ H := by
  induction l with
  | nil => exact g σ H Hf' s S
  | cons q l ih =>
    refine ⟨subC x q.1, hE.m x q.1 hx (hk q List.mem_cons_self), fun hb a _ => ?_, fun hb => ?_⟩
    · have : pick ((q :: l).map fun q => (q.1, q.2.2)) x = some q.2.2 := by simp [pick, hb]
      rw [this] at g
      exact g q.2.1 σ H Hf' s S (hr q List.mem_cons_self Hf')
    · have : pick ((q :: l).map fun q => (q.1, q.2.2)) x = pick (l.map fun q => (q.1, q.2.2)) x := by simp [pick, hb]
      rw [this] at g
      exact ih (fun q hq => hk q (List.mem_cons_of_mem _ hq)) (fun q hq => hr q (List.mem_cons_of_mem _ hq)) g
theorem t_tri {h₀ : ExceptHandler} {hds : List ExceptHandler} {l : List (Nat × V × D)} (hK : X.K = c.K) (hE : ExcF c.K c.C nC) (hs : X.stack = X.env :: X.outer) (hf : X.env.frame = some X.env.locals) (tk : Takes X W)
    (hb : ∀ (W : WX) (pn : List (Addr × Obj)) (xe : Value → Shared → Prop), Takes (X.tr pn xe) W → PassesOwn (model X.prog X.w) X.A X.env xe → PSs (X.tr pn xe) body (tS c W fb))
    (hh : Hds X c (h₀ :: hds) l) (hk : ∀ q ∈ l, q.1 < nC) : PS X (.Try body (h₀ :: hds) [] [] pos) (tS c W fun ρ => triR nC (l.map fun q => (q.1, q.2.2)) (fb ρ)) := by
  refine ps_of (ps_try_many hs hf tk hb (hds_ok hh)) fun E σ H ⟨pin, Z, ρ, Hf, S, g⟩ => ⟨pin, Z, ρ, Hf, S, ?_⟩
  rw [hK]
  dsimp only at g
  cases hr : fb ρ with
  | bad => rw [hr] at g; exact g.elim
  | err x ρ1 =>
    rw [hr] at g
    unfold triR at g
    dsimp only at g
    by_cases hx : x < nC
    · rw [if_pos hx] at g
      exact fun σ' H' Hf' s S' => many_of hE hk (hds_rep hh) hx s S' g
    · rw [if_neg hx] at g; exact g.elim
  | ok f ρ1 =>
    rw [hr] at g
    cases f <;> exact g
/-- except C_k as n: return [s0, s1][int(isinstance(n, C_j))] -/
theorem suite_ok {i : Nat} {n y : Str} {s0 s1 : Str} {j : Nat} {j0 j1 : Nat} {a : Addr} {oe : Obj} {cls : Value} {d : Option Addr} {pn : List (Addr × Obj)} (hK : X.K = c.K) (hE : ExcF c.K c.C nC) (hj : j < nC)
    (hi : X.N[i]? = some n) (hv : Vis X.env.scope n) (hn1 : (n == ("__debug__" : Str)) = false) (hn2 : (n == ("__classdict__" : Str)) = false) (gi : Gl X "int") (mi : X.mg "int" = none) (gs : Gl X "isinstance") (ms : X.mg "isinstance" = none) (gy : Gl X y) (my : X.mg y = some (.ref (c.C j))) (hy : (y == ("__debug__" : Str)) = false)
    (hz : Zc cls d oe) (hvs : ∃ vs, oe.data = .fields vs) :
    PSs (X.suite a ((a, oe) :: pn)) [.Return (some (.Subscript (.List [.Constant (.str s0) j0 p1, .Constant (.str s1) j1 p2] p3) (.Call (.Name "int" p4) [.Call (.Name "isinstance" p5) [.Name n p6, .Name y p7] [] p8] [] np) pos)) pos']
      (fun D σ H => ∃ x, x < nC ∧ cls = .ref (c.C x) ∧ d = none ∧ σ[i]? = some (some (.ref a)) ∧ ∀ p, H p = none → D.rt (.str (if subC x j = true then s1 else s0)) (upd H p (.lst [.str s0, .str s1]))) := by
  refine ⟨fun pins s σ H D I h => ?_⟩
  obtain ⟨x, hx, rfl, rfl, hσ, q⟩ := h
  have E := hE.e x hx
  rw [← hK] at E
  have pnm : PE (X.suite a ((a, oe) :: pn)) (.Name n p6) (tVar i) := pe_var hi hv hn1 hn2
  have py : PE (X.suite a ((a, oe) :: pn)) (.Name y p7) (tC (.ref (c.C j))) := pe_glob gy my rfl hy
  have pis : PE (X.suite a ((a, oe) :: pn)) (.Call (.Name "isinstance" p5) [.Name n p6, .Name y p7] [] p8) (tCB (rIsE X.K (c.C x) a) (tCons (tVar i) (tCons (tC (.ref (c.C j))) tNil))) :=
    pe_callB (call_isE E hz hvs) gs ms boot_isinstance (pa_cons pnm (pa_cons py pa_nil (star_cons rfl)) (star_cons rfl)) (by decide) (by decide) (star_cons rfl) rfl
  have pint := pe_callTy (X := X.suite a ((a, oe) :: pn)) (p := p4) (pos := np) call_int1 gi mi rfl (pa_cons pis pa_nil (star_cons rfl)) (by decide) (by decide) (star_cons rfl) rfl
  have pl : PE (X.suite a ((a, oe) :: pn)) (.List [.Constant (.str s0) j0 p1, .Constant (.str s1) j1 p2] p3) _ := pe_lst (pa_cons (pe_str (x := s0) (j := j0) (pos := p1)) (pa_cons (pe_str (x := s1) (j := j1) (pos := p2)) pa_nil (star_cons rfl)) (star_cons rfl))
  have px := pss_cons (ps_ret (pos := pos') (pe_ix (pos := pos) ix_seq pl pint (plainIx rfl))) pss_nil
  refine px.run pins s σ H D I ?_
  refine ⟨by rw [LN_eq]; have : LN = 16777216 := rfl; simp; omega, fun p hp => ?_⟩
  refine ⟨_, hσ, ?_⟩
  refine ⟨.ref (c.C j), .ref (c.C j), subC x j, rfl, fun u hu => ?_, by rw [show (X.suite a ((a, oe) :: pn)).K = c.K from hK]; exact hE.i x j hx hj, ?_⟩
  · exact hu
  · refine .inr ⟨_, rfl, ?_⟩
    have q := q p hp
    cases hb : subC x j with
    | true => rw [hb] at q; exact .inl ⟨p, _, 1, .str s1, rfl, rfl, SqL.of upd_same, rfl, q⟩
    | false => rw [hb] at q; exact .inl ⟨p, _, 0, .str s0, rfl, rfl, SqL.of upd_same, rfl, q⟩
theorem t_trn {i : Nat} {n x y : Str} {s0 s1 : Str} {j k : Nat} {j0 j1 : Nat} (hK : X.K = c.K) (hE : ExcF c.K c.C nC) (hk : k < nC) (hj : j < nC) (hs : X.stack = X.env :: X.outer) (hf : X.env.frame = some X.env.locals) (hN : X.N.Nodup)
    (hi : X.N[i]? = some n) (hln : X.env.scope.names.lookup n = some .local) (hn1 : (n == ("__debug__" : Str)) = false) (hn2 : (n == ("__classdict__" : Str)) = false) (gi : Gl X "int") (mi : X.mg "int" = none) (gs : Gl X "isinstance") (ms : X.mg "isinstance" = none)
    (gy : Gl X y) (my : X.mg y = some (.ref (c.C j))) (hy : (y == ("__debug__" : Str)) = false) (gx : Gl X x) (mx : X.mg x = some (.ref (c.C k))) (hx : (x == ("__debug__" : Str)) = false) (tk : Takes X W)
    (hb : ∀ (W : WX) (pn : List (Addr × Obj)) (xe : Value → Shared → Prop), Takes (X.tr pn xe) W → PassesOwn (model X.prog X.w) X.A X.env xe → PSs (X.tr pn xe) body (tS c W fb)) {pos1 pos2 np2 : Pos} :
    PS X (.Try body [.ExceptHandler (some (.Name x np2)) (some n) [.Return (some (.Subscript (.List [.Constant (.str s0) j0 p1, .Constant (.str s1) j1 p2] p3) (.Call (.Name "int" p4) [.Call (.Name "isinstance" p5) [.Name n p6, .Name y p7] [] p8] [] np) pos)) pos'] pos1] [] [] pos2)
      (tS c W fun ρ => trnR nC i k j s0 s1 (fb ρ)) := by
  have hv : Vis X.env.scope n := .inl hln
  refine ps_of (ps_try_as (np := np2) (pos := pos2) (pos' := pos1) hs hf hN hi hln ⟨gx, hx, .inl mx⟩ tk hb (fun a oe cls d pn hz hvs => suite_ok (j0 := j0) (j1 := j1) (s0 := s0) (s1 := s1) hK hE hj hi hv hn1 hn2 gi mi gs ms gy my hy hz hvs)) fun E σ H ⟨pin, Z, ρ, Hf, S, g⟩ => ⟨pin, Z, ρ, Hf, S, ?_⟩
  rw [hK]
  dsimp only at g
  cases hr : fb ρ with
  | bad => rw [hr] at g; exact g.elim
  | err x ρ1 =>
    rw [hr] at g
    unfold trnR at g
    dsimp only at g
    by_cases hx : x < nC
    · rw [if_pos hx] at g
      intro σ' H' Hf' s S'
      refine ⟨subC x k, hE.m x k hx hk, fun hb a na => ?_, fun hb => ?_⟩
      · rw [if_pos hb] at g
        by_cases hl : i < ρ1.length
        case neg => rw [if_neg hl] at g; exact g.elim
        rw [if_pos hl] at g
        refine ⟨x, hx, rfl, rfl, List.getElem?_set_self (by rw [← S'.len]; exact hl), fun p hp => ?_⟩
        · exact g _ σ' _ Hf' s (S'.new hp) (.str _)
      · rw [if_neg (by rw [hb]; decide)] at g
        exact g σ' H' Hf' s S'
    · rw [if_neg hx] at g; exact g.elim
  | ok f ρ1 =>
    rw [hr] at g
    cases f <;> exact g
end
/-! ### a list of its own is handed on -/
def movR (i : Nat) (ρ : En) : R (List D) :=
  match ρ[i]? with
  | some (.ow false (.lst xs)) => .ok xs (ρ.set i .un)
  | _ => .bad
theorem SR.drop {c : Cn} {pin : Addr} {Z : Hp} {ρ : En} {σ : Sg} {H Hf : Hp} (S : SR c pin Z ρ σ H Hf) (i : Nat) : SR c pin Z (ρ.set i .un) σ H Hf := by
  refine ⟨S.z, S.f, S.dj, by rw [List.length_set]; exact S.len, fun j s e => ?_, fun j k io io' xs ys q hjk ej ek sj sk => ?_⟩
  · rcases set_get e with ⟨_, e6, _⟩ | ⟨_, e6⟩
    · subst e6; trivial
    · exact S.sl j s e6
  · rcases set_get ej with ⟨_, f, _⟩ | ⟨_, ej⟩
    · cases f
    rcases set_get ek with ⟨_, f, _⟩ | ⟨_, ek⟩
    · cases f
    exact S.ap j k _ _ _ _ q hjk ej ek sj sk
theorem s_mov {X : Cx} {c : Cn} {W : WX} {pos : Pos} {i : Nat} {x : Str} (h : PE X (.Name x pos) (tVar i)) : PE X (.Name x pos) (tF c W fun ρ => movR i ρ) :=
  pe_of h fun σ H Q ⟨pin, Z, ρ, Hf, S, g⟩ => by
    simp only [movR] at g
    split at g
    · rename_i xs hd
      obtain ⟨p, vs, e1, e2, e3, e4, r, pn⟩ := S.sl i _ hd
      obtain ⟨vs, rfl, r⟩ := r.lst
      refine ⟨_, e1, g _ H Hf (Same.refl _) (S.drop i) ⟨p, vs, rfl, e2, e3, e4, fun j io ys ej sj => ?_, r⟩⟩
      rcases set_get ej with ⟨_, f, _⟩ | ⟨hne, ej⟩
      · cases f
      · exact S.ap i j _ _ _ _ p hne hd ej e1 sj
    · exact g.elim
end Ev

end
section
set_option maxHeartbeats 2000000
namespace Ev
open PySem PySem.Spec PyProof.Rows L2

/-! ### a dict of its own is written -/
def rpl {κ : Type} [DecidableEq κ] : List κ → List D → κ → D → List D
  | k :: ks, x :: xs, j, d => (if k = j then d else x) :: rpl ks xs j d
  | _, _, _, _ => []
def putL {κ : Type} [DecidableEq κ] (ks : List κ) (xs : List D) (k : κ) (d : D) : List κ × List D := if k ∈ ks then (ks, rpl ks xs k d) else (ks ++ [k], xs ++ [d])
section
variable {c : Cn} {κ : Type} [DecidableEq κ]
theorem rpl_rep {H : Hp} {k : κ} {v : V} {d : D} (r : Rep c H v d) : ∀ {kvs : List (κ × V)} {xs : List D}, Reps c H (kvs.map (·.2)) xs →
    (kvs.map fun kv => if kv.1 = k then (kv.1, v) else kv).map (·.1) = kvs.map (·.1) ∧ Reps c H ((kvs.map fun kv => if kv.1 = k then (kv.1, v) else kv).map (·.2)) (rpl (kvs.map (·.1)) xs k d)
  | [], _, .nil => ⟨rfl, .nil⟩
  | p :: kvs, x :: xs, .cons h t => by
    obtain ⟨h1, h2⟩ := rpl_rep r t
    by_cases e : p.1 = k
    · refine ⟨?_, ?_⟩
      · simp only [List.map_cons, if_pos e]; rw [h1]
      · simp only [List.map_cons, rpl, if_pos e]; exact .cons r h2
    · refine ⟨?_, ?_⟩
      · simp only [List.map_cons, if_neg e]; rw [h1]
      · simp only [List.map_cons, rpl, if_neg e]; exact .cons h h2
theorem putL_rep {H : Hp} {k : κ} {v : V} {d : D} (r : Rep c H v d) {kvs : List (κ × V)} {xs : List D} (rs : Reps c H (kvs.map (·.2)) xs) :
    (putK kvs k v).map (·.1) = (putL (kvs.map (·.1)) xs k d).1 ∧ Reps c H ((putK kvs k v).map (·.2)) (putL (kvs.map (·.1)) xs k d).2 := by
  have e : (kvs.any fun kv => decide (kv.1 = k)) = true ↔ k ∈ kvs.map (·.1) := by
    rw [List.any_eq_true, List.mem_map]
    exact ⟨fun ⟨p, hp, q⟩ => ⟨p, hp, of_decide_eq_true q⟩, fun ⟨p, hp, q⟩ => ⟨p, hp, decide_eq_true q⟩⟩
  unfold putK putL
  by_cases h : k ∈ kvs.map (·.1)
  · rw [if_pos (e.mpr h), if_pos h]
    exact rpl_rep r rs
  · rw [if_neg (fun z => h (e.mp z)), if_neg h]
    refine ⟨by simp, ?_⟩
    rw [List.map_append]
    exact rs.append (.cons r .nil)
end
/-- the dict of its own is written at a key -/
def modD (i : Nat) (k d : D) (ρ : En) : Option En :=
  match ρ[i]? with
  | some (.ow io (.dK ks xs)) => (keyD k).bind fun j => if ks.length < LN then some (ρ.set i (.ow io (.dK (putL ks xs j d).1 (putL ks xs j d).2))) else none
  | some (.ow io (.dT ks xs)) => (keyT k).bind fun j => if ks.length < LN then some (ρ.set i (.ow io (.dT (putL ks xs j d).1 (putL ks xs j d).2))) else none
  | _ => none
/-- what a name holds of its own -/
def rdB (ρ : En) (i : Nat) : R Ob :=
  match ρ[i]? with
  | some (.ow _ b) => .ok b ρ
  | _ => .bad
theorem rdB_at {c : Cn} {pin : Addr} {Z : Hp} {ρ ρ' : En} {σ : Sg} {H Hf : Hp} {i : Nat} {b : Ob} (S : SR c pin Z ρ σ H Hf) (h : rdB ρ i = .ok b ρ') : ρ' = ρ ∧ ∃ io p ho, ρ[i]? = some (.ow io b) ∧ σ[i]? = some (some (.ref p)) ∧ H p = some ho ∧ Hf p = none ∧ Z p = none ∧ ObR c Hf ho b := by
  unfold rdB at h
  split at h
  · rename_i io ys e
    cases h
    obtain ⟨p, vs, e1, e2, e3, e4, r, pn⟩ := S.sl i _ e
    exact ⟨rfl, io, p, vs, e, e1, e2, e3, e4, r⟩
  · cases h
theorem modD_some {i : Nat} {k d : D} {ρ ρ' : En} (h : modD i k d ρ = some ρ') : ∃ io b b', ρ[i]? = some (.ow io b) ∧ ρ' = ρ.set i (.ow io b') ∧
    ((∃ ks xs j, b = .dK ks xs ∧ keyD k = some j ∧ ks.length < LN ∧ b' = .dK (putL ks xs j d).1 (putL ks xs j d).2) ∨ ∃ ks xs j, b = .dT ks xs ∧ keyT k = some j ∧ ks.length < LN ∧ b' = .dT (putL ks xs j d).1 (putL ks xs j d).2) := by
  unfold modD at h
  split at h
  · rename_i io ks xs e
    simp only [Option.bind_eq_some_iff] at h
    obtain ⟨j, h1, h2⟩ := h
    split at h2
    · rename_i hl; cases h2; exact ⟨io, _, _, e, rfl, .inl ⟨ks, xs, j, rfl, h1, hl, rfl⟩⟩
    · cases h2
  · rename_i io ks xs e
    simp only [Option.bind_eq_some_iff] at h
    obtain ⟨j, h1, h2⟩ := h
    split at h2
    · rename_i hl; cases h2; exact ⟨io, _, _, e, rfl, .inr ⟨ks, xs, j, rfl, h1, hl, rfl⟩⟩
    · cases h2
  · cases h
section
variable {X : Cx} {c : Cn} {W : WX} {pos : Pos} {e b : Expr} {fe fb : En → R D}
/-- a write to the dict of the name i: how the heap goes on -/
theorem put_of {pin : Addr} {Z : Hp} {ρ ρ' : En} {σ : Sg} {H Hf : Hp} {i : Nat} {k d : D} {v y : V} {p : Addr} (S : SR c pin Z ρ σ H Hf) (h : modD i k d ρ = some ρ') (hp : σ[i]? = some (some (.ref p))) (rv : Rep c Hf v d) (ry : Rep c Hf y k) :
    ∃ H', DPut H p y v H' ∧ SR c pin Z ρ' σ H' Hf := by
  obtain ⟨io, b, b', f1, rfl, f2⟩ := modD_some h
  obtain ⟨q, ho, e1, e2, e3, e4, r, pn⟩ := S.sl i _ f1
  rw [hp] at e1
  cases e1
  have fin : ∀ {u : HO}, ObR c Hf u b' → SR c pin Z (ρ.set i (.ow io b')) σ (upd H p u) Hf := fun {u} ru =>
    S.modify f1 hp (fun b o hb e => by rw [upd_ne hb]; exact e) upd_same (Same.refl _) (fun b o e => by rw [upd_ne (fun z => by subst z; rw [e3] at e; cases e)]; exact S.f _ _ e) (fun _ _ _ _ h => h) ru
  rcases f2 with ⟨ks, xs, j, rfl, g1, g2, rfl⟩ | ⟨ks, xs, j, rfl, g1, g2, rfl⟩
  · cases ho <;> try exact r.elim
    rename_i kvs
    obtain ⟨rfl, r⟩ := r
    rw [List.length_map] at g2
    obtain ⟨q1, q2⟩ := putL_rep (k := j) rv r
    rw [key_rep ry g1]
    exact ⟨_, DPut.k e2 (by rw [LN_eq]; exact g2), fin ⟨q1, q2⟩⟩
  · cases ho <;> try exact r.elim
    rename_i kvs
    obtain ⟨rfl, r⟩ := r
    rw [List.length_map] at g2
    obtain ⟨q1, q2⟩ := putL_rep (k := j) rv r
    cases k <;> try (cases g1; done)
    cases ry with
    | tup hb rb => exact ⟨_, DPut.t e2 (by rw [← keys_rep rb g1]; exact S.f _ _ hb) (by rw [LN_eq]; exact g2), fin ⟨q1, q2⟩⟩
theorem t_put {i : Nat} {x : Str} {p p2 : Pos} (hu : X.A.units + 65 < cLine) (hx : PE X (.Name x p) (tVar i)) (he : PE X e (tE c W fe)) (hb : PE X b (tE c W fb)) (hs : swapsWith e (some (.Subscript (.Name x p) b p2)) pos.line X.env = pure false) :
    PS X (.Assign [.Subscript (.Name x p) b p2] e pos) (tS c W fun ρ => (fe ρ).bind fun d ρ1 => (rdB ρ1 i).bind fun _ ρ0 => (fb ρ0).bind fun k ρ2 => (R.lift (modD i k d ρ2) ρ2).bind fun ρ3 _ => .ok .nx ρ3) := by
  refine ps_of (ps_dput (by omega) hx hb he hs) fun E σ H h => ?_
  refine tS.seqE h fun pin Z d ρ1 v H1 Hf1 S1 r1 g => ?_
  cases h0 : rdB ρ1 i with
  | err => unfold rdB at h0; split at h0 <;> cases h0
  | bad => rw [h0] at g; exact g.elim
  | ok b0 ρ0 =>
    rw [h0] at g
    obtain ⟨e0, io, q, ho, e1, e2, e3, e4, e5, r⟩ := rdB_at S1 h0
    subst e0
    refine ⟨_, e2, pin, Z, ρ0, Hf1, S1, GoS.seqE g fun k ρ2 y H2 Hf2 s2 S2 r2 g2 => ?_⟩
    cases hm : modD i k d ρ2 with
    | none => rw [hm] at g2; exact g2.elim
    | some ρ3 =>
      rw [hm] at g2
      obtain ⟨H', dp, S3⟩ := put_of S2 hm e2 (r1.mono s2) r2
      exact ⟨q, H', rfl, dp, g2 _ _ _ (Same.refl _) S3⟩
/-! ### new dicts -/
/-- a new thing at p that nobody holds -/
def relO (c : Cn) : Rel Ob V := fun Z ρ σ Hf H v b => ∃ p ho, v = .ref p ∧ H p = some ho ∧ Hf p = none ∧ Z p = none ∧ Away ρ σ p ∧ ObR c Hf ho b
abbrev tO (c : Cn) (W : WX) (f : En → R Ob) : TE := tG c W (relO c) f
theorem SR.newO {pin : Addr} {Z : Hp} {ρ : En} {σ : Sg} {H Hf : Hp} (S : SR c pin Z ρ σ H Hf) {p : Addr} {o : HO} {b : Ob} (n : H p = none) (r : ObR c Hf o b) : SR c pin Z ρ σ (upd H p o) Hf ∧ relO c Z ρ σ Hf (upd H p o) (.ref p) b :=
  ⟨S.new n, p, o, rfl, upd_same, S.f.free n, S.z.free n, S.away_new n, r⟩
def newD (isT : Bool) : Ob := if isT = true then .dT [] [] else .dK [] []
theorem s_newD {isT : Bool} : PE X (.Dict [] [] pos) (tO c W fun ρ => .ok (newD isT) ρ) := by
  cases isT with
  | false =>
    refine pe_of pe_dnewK fun σ H Q ⟨pin, Z, ρ, Hf, S, g⟩ p hp => ?_
    obtain ⟨S', r⟩ := S.newO (c := c) (o := .dK []) (b := .dK [] []) hp ⟨rfl, .nil⟩
    exact g _ _ _ (Same.refl _) S' r
  | true =>
    refine pe_of pe_dnewT fun σ H Q ⟨pin, Z, ρ, Hf, S, g⟩ p hp => ?_
    obtain ⟨S', r⟩ := S.newO (c := c) (o := .dT []) (b := .dT [] []) hp ⟨rfl, .nil⟩
    exact g _ _ _ (Same.refl _) S' r
/-- x = a new dict -/
theorem t_ownD {i : Nat} {x : Str} {p : Pos} {f : En → R Ob} (hN : X.N.Nodup) (hi : X.N[i]? = some x) (hx : Loc X.env.scope x) (hf : X.fn x = true ∨ X.env.scope.names.lookup x = some .local) (hs : swapsWith e (some (.Name x p)) pos.line X.env = pure false) (he : PE X e (tO c W f)) :
    PS X (.Assign [.Name x p] e pos) (tS c W fun ρ => (f ρ).bind fun ds ρ1 => (R.lift (setO i ds ρ1) ρ1).bind fun ρ2 _ => .ok .nx ρ2) := by
  refine ps_of (ps_set hN hi hx he hs hf) fun E σ H h => ?_
  refine tS.seqE h fun pin Z ds ρ1 v H1 Hf1 S1 r1 g => ?_
  obtain ⟨q, vs, rfl, h1, h2, h3, aw, r⟩ := r1
  cases e : setO i ds ρ1 with
  | none => rw [e] at g; exact g.elim
  | some ρ2 => rw [e] at g; exact g _ _ _ (Same.refl _) (S1.own e h1 h2 h3 aw r)
/-- .. as a value: it is locked -/
theorem SR.lockO {pin : Addr} {Z : Hp} {ρ : En} {σ : Sg} {H Hf : Hp} (S : SR c pin Z ρ σ H Hf) {p : Addr} {u : HO} {b : Ob} {od : Obj} (hp : H p = some u) (hf : Hf p = none) (hz : Z p = none) (aw : Away ρ σ p) (r : ObR c Hf u b) (nb : ∀ xs, b ≠ .lst xs) :
    SR c pin Z ρ σ (upd H p (.frz od u)) (upd Hf p (.frz od u)) ∧ Same Hf (upd Hf p (.frz od u)) ∧ Rep c (upd Hf p (.frz od u)) (.ref p) b.d := by
  have ss : Same Hf (upd Hf p (.frz od u)) := Same.new hf
  have rp := ((r.mono ss).repD (od := od) (p := p) nb upd_same).1
  obtain ⟨S1, _⟩ := (S.write (o := .frz od u) hf hz aw).speak upd_same hf hz aw
  exact ⟨S1, ss, rp⟩
theorem s_frD {f : En → R Ob} (hnb : ∀ ρ b ρ', f ρ = .ok b ρ' → ∀ xs, b ≠ .lst xs) (h : PE X e (tO c W f)) : PE X e (tE c W fun ρ => (f ρ).bind fun b ρ1 => .ok b.d ρ1) := by
  refine pe_of (pe_frz h) fun σ H Q ⟨pin, Z, ρ, Hf, S, g⟩ => ⟨pin, Z, ρ, Hf, S, ?_⟩
  dsimp only at g
  cases hf : f ρ with
  | ok b ρ1 =>
    rw [hf] at g
    rintro v H1 Hf1 s1 S1 ⟨p, u, rfl, h1, h2, h3, aw, r⟩
    have mu : Mut (some u) := by
      have nb := hnb _ _ _ hf
      cases b <;> cases u <;> first | exact r.elim | exact absurd rfl (nb _) | trivial
    refine .inr ⟨p, u, rfl, h1, mu, fun od => ?_⟩
    obtain ⟨S2, ss, rp⟩ := S1.lockO (od := od) h1 h2 h3 aw r (hnb _ _ _ hf)
    exact g _ _ _ (s1.trans ss) S2 rp
  | err x ρ1 => rw [hf] at g; exact g
  | bad => rw [hf] at g; exact g
end
end Ev

end
section
set_option maxHeartbeats 2000000
namespace Ev
open PySem PySem.Spec PyProof.Rows L2

/-! ### a dict comprehension, its keys plain or tuples -/
section
variable {X : Cx}
/-- d[y] = v, as a comprehension does it -/
theorem d_put {pins : List (Addr × Obj)} {σ : L2.St} {H H' : Hp} {s : Shared} {E : Value → Shared → Prop} {a : Addr} {y v : V} {u r : Value} {Q : Unit → Shared → Prop} (hu : X.A.units + 1 < cLine) (I : Inv X pins σ H s) (g : DPut H a y v H')
    (ry : RelV y u) (rv : RelV v r) (h : ∀ s', Inv X pins σ H' s' → Q () s') : wpAny (model X.prog X.w) X.A (dictSet a u r) Q E s := by
  rcases g with ⟨kvs, k, e, ey, l, eH⟩ | ⟨kvs, k, b, e, ey, eb, l, eH⟩
  · subst ey eH
    exact d_dictSet I e l ry rv h
  · subst ey eH
    cases (show u = Value.ref b from ry)
    obtain ⟨z, hd, xs, rel, dd⟩ := dt_of I.hok e
    have hz : xs.length ≤ sizeLine := by rw [← Paired.length rel]; exact z
    have hl : (putK kvs k v).length ≤ sizeLine := by have := length_putK kvs k v; omega
    refine wpAny_dictSet_heap (hsz := hz) (show X.A.units < cLine by omega) (key_of I.hok eb) dd fun h' dd' hs => h _ ?_
    obtain ⟨q, es, ep, hq, h2, h3, h4, _, h5⟩ := dd'
    refine d_write I (by rw [e]; exact True.intro) hs ⟨q, hq⟩ ⟨hl, hd, _, (rel.put k eb rv).keeps fun c ys ec => ?_, q, es, ep, hq, h2, h3, h4, h5⟩
    rw [upd_ne (ne_of ec e (fun z => nomatch z))]
    exact ec
/-- the empty dict of either kind -/
def eD (isT : Bool) : HO := if isT = true then .dT [] else .dK []
def tDp (isT : Bool) (wi : TI) (g : TG) (tt : TT) (tk tv : TE) (vs : List Nat) : TE := fun σ H Q => wi σ H fun J H1 => ∀ D, H1 D = none → ∃ W : Nat → Nat → Hp → Prop, (∃ m, W 0 m (upd H1 D (eD isT))) ∧ ∀ i m H, W i m H →
  (J.stop i H ∧ Q (.ref D) H) ∨ (J.go i H ∧ ∃ Nx : Hp → Prop, (∀ H', Nx H' → ∃ m', m' < m ∧ W (i + 1) m' H') ∧ ∀ x H', J.yld i H x H' → g x (wipe σ vs) H' fun σ2 H2 => wipe σ2 vs = wipe σ vs ∧ tt σ2 H2 fun b H3 =>
    if b = true then tk σ2 H3 fun y H4 => tv σ2 H4 fun z H5 => ∃ H6, DPut H5 D y z H6 ∧ Nx H6 else Nx H3)
theorem dp_core {pins : List (Addr × Obj)} {s : Shared} {σ : L2.St} {H : Hp} {Q : VK} {isT : Bool} {kx vx tg iter : Expr} {ifs : List Expr} {scope : Scope} {own : List (Str × Nat)} {pos pos' : Pos} {wi : TI} {g : TG} {tt : TT} {tk tv : TE} {use : Option (Value → Sem Unit)} {Qf : Value → Shared → Prop}
    (hc : X.calm = true) (hu : X.A.units + 1 < cLine) (hN : X.N.Nodup) (I : Inv X pins σ H s) (hi : PI X tg iter wi) (ok : BlkOk X.N X.env.scope scope own)
    (hg : ∀ (s : Shared) (H : Hp) (C : Addr) (cl : List (Str × Addr)) (fp : List Addr), PG (X.blk s H scope (compEnvC scope cl C X.env) fp) tg g) (ht : ∀ (s : Shared) (H : Hp) (C : Addr) (cl : List (Str × Addr)) (fp : List Addr), PTs (X.blk s H scope (compEnvC scope cl C X.env) fp) ifs tt)
    (hk : ∀ (s : Shared) (H : Hp) (C : Addr) (cl : List (Str × Addr)) (fp : List Addr), PE (X.blk s H scope (compEnvC scope cl C X.env) fp) kx tk)
    (he : ∀ (s : Shared) (H : Hp) (C : Addr) (cl : List (Str × Addr)) (fp : List Addr), PE (X.blk s H scope (compEnvC scope cl C X.env) fp) vx tv) (hs : ∀ x, foldedSetIterable iter X.env x = pure x)
    (h : tDp isT wi g tt tk tv (own.map (·.2)) σ H Q)
    (hRR : ∀ D C s' m H', Inv X pins σ H' s' → Q (.ref D) H' → s'.heap.Ns C m → FpOk X pins H' C → compPost (model X.prog X.w) X.A X.xe use Qf (.ref D) C (.ok .next) s') :
    wpAny (model X.prog X.w) X.A (comprehension (.DictComp kx vx [⟨tg, iter, ifs, 0⟩] scope pos) scope X.env pos' newDict false (eval iter X.env) use) Qf X.xe s := by
  have hfree : ∀ y ∈ scope.names, y.2 = .free → ∃ c, X.env.cells.lookup y.1 = some c := fun y hy e => by
    rcases ok.free y hy e with k | k
    · exact I.ok.has _ (.inl k)
    · exact I.ok.has _ (.inr k)
  refine wpAny_comprehension_free (use := use) rfl hs (closure_ok hfree) ok.kind (fun y hy e => by rw [ok.uniq y hy, e])
    (thn (hi.run pins s σ H _ I h) fun xv s1 hx => thn hx fun itv s2 h2 => ?_)
  obtain ⟨it, fp, tn, J, H2, e, I2, T, st2, f2, q⟩ := h2
  subst e
  refine wpAny_newObj_type (newEnv_comp ?_)
  generalize hD : s2.heap.objs.size = D
  have hDn : H2 D = none := I2.hok.fresh (Nat.le_of_eq hD)
  obtain ⟨W, ⟨m0, w0⟩, turn⟩ := q D hDn
  generalize hs3 : ({ s2 with heap := s2.heap.push { cls := .type "dict", data := .dict #[] } } : Shared) = s3
  have I3 : Inv X pins σ (upd H2 D (eD isT)) s3 := by
    rw [← hs3]
    refine I2.laid (t' := s2.toks) (fun b o e => Heap.get?_push_of_some _ e) (Nat.le_of_eq hD) ?_
    rw [← hD]
    cases isT with
    | false => exact dk_empty s2.heap I2.big
    | true => exact dt_empty s2.heap I2.big
  have h3 : s3.heap = s2.heap.push { cls := .type "dict", data := .dict #[] } := by rw [← hs3]
  have f3 : ∀ b ∈ fp, FpOk X pins (upd H2 D (eD isT)) b ∧ b < s3.heap.objs.size := fun b hb => by
    obtain ⟨o, e, _⟩ := T.obj _ _ st2 b hb
    have hlt := Heap.lt_size e
    refine ⟨⟨?_, (f2 b hb).2⟩, by rw [h3, Heap.size_push]; exact Nat.lt_succ_of_lt hlt⟩
    rw [upd_ne (by rw [← hD]; exact Nat.ne_of_lt hlt)]
    exact (f2 b hb).1
  have st3 : tn 0 s3.heap := T.keep _ _ _ st2 fun b _ o e => by rw [h3]; exact Heap.get?_push_of_some _ e
  have I4 := block_start I3 ok hN f3
  have pg := hg s3 (upd H2 D (eD isT)) s3.heap.objs.size (cellsFrom (s3.heap.objs.size + 1) scope.names (cloFrom X.env.cells scope.names [])) fp
  have pt := ht s3 (upd H2 D (eD isT)) s3.heap.objs.size (cellsFrom (s3.heap.objs.size + 1) scope.names (cloFrom X.env.cells scope.names [])) fp
  have pk := hk s3 (upd H2 D (eD isT)) s3.heap.objs.size (cellsFrom (s3.heap.objs.size + 1) scope.names (cloFrom X.env.cells scope.names [])) fp
  have pe := he s3 (upd H2 D (eD isT)) s3.heap.objs.size (cellsFrom (s3.heap.objs.size + 1) scope.names (cloFrom X.env.cells scope.names [])) fp
  have nfp : ∀ b ∈ fp, (upd H2 D (eD isT)) b = none := fun b hb => (f3 b hb).1.1
  show codeAny _ _ (.compStart (.DictComp kx vx [⟨tg, iter, ifs, 0⟩] scope pos) 0 (.ref it) (.ref D) (compEnvC scope (cellsFrom (s3.heap.objs.size + 1) scope.names (cloFrom X.env.cells scope.names [])) s3.heap.objs.size X.env)) (compPost (model X.prog X.w) X.A X.xe use Qf (.ref D) s3.heap.objs.size) { s3 with heap := pushCells (s3.heap.push { cls := .type "dict", data := .dict #[] }) scope.names }
  generalize hce : compEnvC scope (cellsFrom (s3.heap.objs.size + 1) scope.names (cloFrom X.env.cells scope.names [])) s3.heap.objs.size X.env = ce at I4 pg pt pk pe ⊢
  have cL : ce.locals = s3.heap.objs.size := by subst hce; rfl
  generalize hH3 : upd H2 D (eD isT) = H3 at I3 I4 pg pt pk pe w0 nfp f3
  generalize hs4 : ({ s3 with heap := pushCells (s3.heap.push { cls := .type "dict", data := .dict #[] }) scope.names } : Shared) = s4 at I4 ⊢
  have st4 : tn 0 s4.heap := T.keep _ _ _ st3 fun b _ o e => by rw [← hs4]; exact pushCells_keeps _ _ _ _ (Heap.get?_push_of_some _ e)
  have stat : ∀ {σ' : L2.St} {H' : Hp} {s' : Shared}, Inv (X.blk s3 H3 scope ce fp) [] σ' H' s' → (∀ b ∈ fp, H' b = none) → ∀ b ∈ fp, FpOk (X.blk s3 H3 scope ce fp) [] H' b := fun {σ' H' s'} I' hn b hb =>
    ⟨hn b hb, (I'.ok.exf b hb).1, I'.ok.exfs b hb, .inl hb, fun x c e => (I'.ok.exf b hb).2 x c e, fun p hp => absurd (show p ∈ ([] : List (Addr × Obj)) ++ [] from hp) (by simp)⟩
  refine codeAny_compStart_dict ?loop (T.self X.A 0 _ _ _ st4 ?loop)
  refine compLoop_anyD (fun n s' => ∃ i H', Inv (X.blk s3 H3 scope ce fp) [] (wipe σ (own.map (·.2))) H' s' ∧ tn i s'.heap ∧ (∀ b ∈ fp, H' b = none) ∧ W i n H') ?_ m0 ⟨0, H3, I4, st4, nfp, w0⟩
  rintro n s5 ⟨i, H5, I5, st5, n5, w5⟩
  rcases turn i n H5 w5 with ⟨stop, qq⟩ | ⟨go, Nx, hNx, step⟩
  · refine thnF (T.done (X.blk s3 H3 scope ce fp) rfl rfl rfl hc i [] s5 _ H5 (fun _ _ => False) I5 (stat I5 n5) st5 stop) fun r s6 ⟨hr, I6⟩ => ?_
    subst hr
    have I7 : Inv X pins σ H5 s6 := I3.call' (ch := fp) I6.os I6.base I6.hok I6.bare fun b hb => ⟨(f3 b hb).1.2.2.2.1, (f3 b hb).1.2.1, (f3 b hb).1.2.2.2.2.1, (f3 b hb).1.2.2.2.2.2⟩
    have nC : H5 s3.heap.objs.size = none := by
      have z : H5 ce.locals = none := I6.free
      rw [cL] at z
      exact z
    obtain ⟨m, hn, _⟩ := I6.loc
    have hn : s6.heap.Ns ce.locals m := hn
    rw [cL] at hn
    exact hRR D s3.heap.objs.size s6 m H5 I7 qq hn (I3.fpOk (Nat.le_refl _) nC)
  · refine thnF (T.item (X.blk s3 H3 scope ce fp) rfl rfl rfl hc i [] s5 _ H5 (fun _ _ => False) I5 (stat I5 n5) st5 go) fun r s6 ⟨u, hr, h6⟩ => ?_
    subst hr
    refine thnF h6 fun _ s7 ⟨x, H7, I7, r7, y7, st7, n7⟩ => ?_
    have I7' := I7.pinned (stat I7 n7) (T.obj _ _ st7)
    refine thnF (pg.run _ s7 _ H7 x u _ I7' r7 (step x H7 y7)) fun _ s8 ⟨σ8, H8, I8, hw8, q8⟩ => ?_
    refine thnF (pt.run _ s8 σ8 H8 _ I8 q8) fun b s9 ⟨H9, I9, q9⟩ => ?_
    have fin : ∀ {s' : Shared} {H' : Hp}, Inv (X.blk s3 H3 scope ce fp) ([] ++ pinsAt fp s7.heap) σ8 H' s' → Nx H' → ∃ m, m < n ∧ ∃ i H', Inv (X.blk s3 H3 scope ce fp) [] (wipe σ (own.map (·.2))) H' s' ∧ tn i s'.heap ∧ (∀ b ∈ fp, H' b = none) ∧ W i m H' := fun {s' H'} I' nx => by
      obtain ⟨m', hm, w'⟩ := hNx H' nx
      have pin' : ∀ b ∈ fp, ∀ o, s7.heap.get? b = some o → s'.heap.get? b = some o ∧ H' b = none := fun b hb o e =>
        let z := I'.pin (b, o) (List.mem_append_right _ (List.mem_append_right _ (mem_pinsAt hb e)))
        ⟨z.1, z.2.1⟩
      have hl : (wipe σ (own.map (·.2))).length = σ8.length := by rw [← hw8, wipe_length]
      refine ⟨m', hm, i + 1, H', (I'.unpinned (pins := [])).weak hl (fun j v e => ?_), T.keep _ _ _ st7 fun b hb o e => (pin' b hb o e).1, fun b hb => ?_, w'⟩
      · rw [← hw8] at e
        exact (wipe_some e).1
      · obtain ⟨o, e, _⟩ := T.obj _ _ st7 b hb
        exact (pin' b hb o e).2
    cases b with
    | false =>
      simp only [Bool.false_eq_true, if_false] at q9 ⊢
      exact fin I9 q9
    | true =>
      simp only [if_true] at q9 ⊢
      refine thnF (pk.run _ s9 σ8 H9 _ I9 q9) fun z s10 ⟨yk, H10, I10, r10, q10⟩ => ?_
      refine thnF (pe.run _ s10 σ8 H10 _ I10 q10) fun z2 s11 ⟨yv, H11, I11, r11, H12, dp, nx⟩ => ?_
      exact d_put (X := X.blk s3 H3 scope ce fp) hu I11 dp r10 r11 fun s12 I12 => fin I12 nx

variable {isT : Bool} {kx vx tg iter : Expr} {ifs : List Expr} {scope : Scope} {own : List (Str × Nat)} {pos spos : Pos} {wi : TI} {g : TG} {tt : TT} {tk tv : TE}
theorem pe_dp (hc : X.calm = true) (hu : X.A.units + 1 < cLine) (hN : X.N.Nodup) (hi : PI X tg iter wi) (ok : BlkOk X.N X.env.scope scope own)
    (hg : ∀ (s : Shared) (H : Hp) (C : Addr) (cl : List (Str × Addr)) (fp : List Addr), PG (X.blk s H scope (compEnvC scope cl C X.env) fp) tg g) (ht : ∀ (s : Shared) (H : Hp) (C : Addr) (cl : List (Str × Addr)) (fp : List Addr), PTs (X.blk s H scope (compEnvC scope cl C X.env) fp) ifs tt)
    (hk : ∀ (s : Shared) (H : Hp) (C : Addr) (cl : List (Str × Addr)) (fp : List Addr), PE (X.blk s H scope (compEnvC scope cl C X.env) fp) kx tk)
    (he : ∀ (s : Shared) (H : Hp) (C : Addr) (cl : List (Str × Addr)) (fp : List Addr), PE (X.blk s H scope (compEnvC scope cl C X.env) fp) vx tv) (hs : ∀ x, foldedSetIterable iter X.env x = pure x) :
    PE X (.DictComp kx vx [⟨tg, iter, ifs, 0⟩] scope pos) (tDp isT wi g tt tk tv (own.map (·.2))) := by
  refine ⟨fun pins s σ H Q I h => ?_⟩
  rw [arm_eval_DictComp]
  refine dp_core hc hu hN I hi ok hg ht hk he hs h fun D C s' m H' I' q hn f => ⟨m, hn, fun h'' sb => ?_⟩
  obtain ⟨f0, f1, f2, f3, f4, f5⟩ := f
  exact ⟨.ref D, H', I'.turned (t' := s'.toks) (fun b o hb e => (sb.2 b hb).trans e) f0 f1 f3 f4 f5, rfl, q⟩
/-- name = {..}, stored ahead of the end of the comprehension's frame -/
theorem ps_setDp {i : Nat} {y : Str} {py : Pos} (hc : X.calm = true) (hu : X.A.units + 1 < cLine) (hN : X.N.Nodup) (hy : X.N[i]? = some y) (hyl : X.env.scope.names.lookup y = some .local)
    (hsw : swapsWith (.DictComp kx vx [⟨tg, iter, ifs, 0⟩] scope pos) (some (.Name y py)) spos.line X.env = pure true) (hi : PI X tg iter wi) (ok : BlkOk X.N X.env.scope scope own)
    (hg : ∀ (s : Shared) (H : Hp) (C : Addr) (cl : List (Str × Addr)) (fp : List Addr), PG (X.blk s H scope (compEnvC scope cl C X.env) fp) tg g) (ht : ∀ (s : Shared) (H : Hp) (C : Addr) (cl : List (Str × Addr)) (fp : List Addr), PTs (X.blk s H scope (compEnvC scope cl C X.env) fp) ifs tt)
    (hk : ∀ (s : Shared) (H : Hp) (C : Addr) (cl : List (Str × Addr)) (fp : List Addr), PE (X.blk s H scope (compEnvC scope cl C X.env) fp) kx tk)
    (he : ∀ (s : Shared) (H : Hp) (C : Addr) (cl : List (Str × Addr)) (fp : List Addr), PE (X.blk s H scope (compEnvC scope cl C X.env) fp) vx tv) (hs : ∀ x, foldedSetIterable iter X.env x = pure x) :
    PS X (.Assign [.Name y py] (.DictComp kx vx [⟨tg, iter, ifs, 0⟩] scope pos) spos) (tAsg (tDp isT wi g tt tk tv (own.map (·.2))) (gName i)) := by
  refine ⟨fun pins s σ H D I h => ?_⟩
  rw [exec_Assign_Name_used _ _ _ _ hsw]
  refine wpAny_bind (wpAny_standAt (wpAny_bind ?_))
  show wpAny _ X.A (do let _ ← comprehension (.DictComp kx vx [⟨tg, iter, ifs, 0⟩] scope pos) scope X.env (firstIterPos [⟨tg, iter, ifs, 0⟩] pos) newDict false (eval iter X.env) (some (assign (.Name y py) X.env))) _ _ s
  have h : tDp isT wi g tt tk tv (own.map (·.2)) σ H (fun x H1 => gName i x σ H1 D.nx) := h
  refine wpAny_bind (thn (dp_core (Qf := fun _ s' => SP X pins D .next s') hc hu hN I hi ok hg ht hk he hs h fun L C s' m H' I' q hn f => ?_) fun _ s' hq => wpAny_pure (wpAny_pure hq))
  show wpAny _ _ (assign (.Name y py) X.env (.ref L)) _ _ _
  refine wpAny_assign_Name (store_ok2 (v := V.ref L) I' hN hy (.inl hyl) rfl (fun s2 I2 ⟨a, sb, ha⟩ => ?_) (.inr hyl))
  obtain ⟨f0, f1, f2, f3, f4, f5⟩ := f
  have haC : C ≠ a := by
    rcases ha with z | z
    · rw [z]; exact f1
    · exact fun e => f4 y a z e.symm
  refine ⟨m, hn.sameBut sb haC, fun h3 sb3 => ?_⟩
  exact ⟨_, H', I2.turned (t' := s2.toks) (fun b o hb e => (sb3.2 b hb).trans e) f0 f1 f3 f4 f5, q⟩
end

/-! ### what it reckons -/
def putB : Ob → D → D → Option Ob
  | .dK ks xs, k, d => (keyD k).bind fun j => if ks.length < LN then some (.dK (putL ks xs j d).1 (putL ks xs j d).2) else none
  | .dT ks xs, k, d => (keyT k).bind fun j => if ks.length < LN then some (.dT (putL ks xs j d).1 (putL ks xs j d).2) else none
  | _, _, _ => none
def compD (g : D → En → Option En) (ft : En → R Bool) (fk fv : En → R D) (vs : List Nat) : List D → Ob → En → R Ob
  | [], b, ρ => .ok b ρ
  | d :: ds, b, ρ =>
    match g d ρ with
    | none => .bad
    | some ρ1 => (ft ρ1).ne.bind fun k ρ2 =>
      if k = true then (fk ρ2).ne.bind fun y ρ3 => (fv ρ3).ne.bind fun z ρ4 => (R.lift (putB b y z) ρ4).bind fun b' _ => compD g ft fk fv vs ds b' (wipeR ρ4 vs)
      else compD g ft fk fv vs ds b (wipeR ρ2 vs)
def compDR (isT : Bool) (T : Tg) (fi : En → R (List D)) (ft : En → R Bool) (fk fv : En → R D) (vs : List Nat) (ρ : En) : R Ob :=
  (fi ρ).bind fun items ρ1 => (compD (asgT T) ft fk fv vs items (newD isT) (wipeR ρ1 vs)).bind fun b ρ2 => .ok b (backR ρ1 ρ2 vs)
theorem wipe_set_none (u : Nat) : ∀ (ws : List Nat) (τ : Sg), (wipe (τ.set u none) ws).set u none = (wipe τ ws).set u none
  | [], τ => by show (τ.set u none).set u none = _; rw [List.set_set]; rfl
  | w :: ws, τ => by
    show ((wipe (τ.set u none) ws).set w none).set u none = ((wipe τ ws).set w none).set u none
    by_cases e : w = u
    · subst e; rw [wipe_set_none]
    · rw [List.set_comm _ _ e, wipe_set_none, List.set_comm _ _ (Ne.symm e)]
theorem wipe_idem : ∀ (us : List Nat) (τ : Sg), wipe (wipe τ us) us = wipe τ us
  | [], _ => rfl
  | u :: us, τ => by
    show (wipe ((wipe τ us).set u none) us).set u none = (wipe τ us).set u none
    rw [wipe_set_none, wipe_idem]
theorem putB_at {c : Cn} {H Hf : Hp} {b b' : Ob} {k d : D} {y v : V} {o : HO} {P : Addr} (h : putB b k d = some b') (hp : H P = some o) (s : Same Hf H) (r : ObR c Hf o b) (ry : Rep c Hf y k) (rv : Rep c Hf v d) :
    ∃ o', DPut H P y v (upd H P o') ∧ ObR c Hf o' b' := by
  cases b with
  | lst xs => cases h
  | dK ks xs =>
    simp only [putB, Option.bind_eq_some_iff] at h
    obtain ⟨j, g1, g2⟩ := h
    split at g2
    · rename_i hl
      cases g2
      cases o <;> try exact r.elim
      obtain ⟨rfl, r⟩ := r
      rw [List.length_map] at hl
      obtain ⟨q1, q2⟩ := putL_rep (k := j) rv r
      rw [key_rep ry g1]
      exact ⟨_, DPut.k hp (by rw [LN_eq]; exact hl), q1, q2⟩
    · cases g2
  | dT ks xs =>
    simp only [putB, Option.bind_eq_some_iff] at h
    obtain ⟨j, g1, g2⟩ := h
    split at g2
    · rename_i hl
      cases g2
      cases o <;> try exact r.elim
      obtain ⟨rfl, r⟩ := r
      rw [List.length_map] at hl
      obtain ⟨q1, q2⟩ := putL_rep (k := j) rv r
      cases k <;> try (cases g1; done)
      cases ry with
      | tup hb rb => exact ⟨_, DPut.t hp (by rw [← keys_rep rb g1]; exact s _ _ hb) (by rw [LN_eq]; exact hl), q1, q2⟩
    · cases g2
theorem eD_rep {c : Cn} {Hf : Hp} (isT : Bool) : ObR c Hf (eD isT) (newD isT) := by
  cases isT <;> exact ⟨rfl, .nil⟩
section
variable {X : Cx} {c : Cn} {W : WX} {tg iter : Expr} {fi : En → R (List D)} {fk fv : En → R D} {ft : En → R Bool} {T : Tg} {vs : List Nat} {isT : Bool}
theorem dc_reads {σ : Sg} {H : Hp} {Q : VK} (hT : ∀ i ∈ T.slots, i ∈ vs) (h : tO c W (compDR isT T fi ft fk fv vs) σ H Q) : tDp isT (tI c W fi) (tgT c T) (tT c W0 ft) (tE c W0 fk) (tE c W0 fv) vs σ H Q := by
  obtain ⟨pin, Z, ρ, Hf, S, gg⟩ := h
  unfold compDR at gg
  refine ⟨pin, Z, ρ, Hf, S, ?_⟩
  cases hfi : fi ρ with
  | err x ρ1 => rw [hfi] at gg; exact gg
  | bad => rw [hfi] at gg; exact gg
  | ok items ρ1 =>
  rw [hfi] at gg
  intro J H1 Hf1 s1 S1 y P nP
  simp only [R.bind_ok] at gg
  have gg := Go.mono s1 gg
  let Inv' : Nat → Hp → Prop := fun i H' => i ≤ items.length ∧ ∃ ρ' Hf' o b, Same Hf1 Hf' ∧ SR c pin (upd Z P o) ρ' (wipe σ vs) H' Hf' ∧ ObR c Hf' o b ∧
    Go c pin Z W σ Hf' (relO c) ((compD (asgT T) ft fk fv vs (items.drop i) b ρ').bind fun b' ρ2 => .ok b' (backR ρ1 ρ2 vs)) Q
  have zP : Z P = none := S1.z.free nP
  have fP : Hf1 P = none := S1.f.free nP
  have start : Inv' 0 (upd H1 P (eD isT)) := by
    refine ⟨Nat.zero_le _, wipeR ρ1 vs, Hf1, eD isT, newD isT, Same.refl _, ?_, eD_rep isT, by simpa using gg⟩
    have Sw := (S1.new (o := eD isT) nP).wipe vs
    refine Sw.guard upd_same fP zP fun i io xs e q => ?_
    obtain ⟨p, us, e1, e2, e3, e4, r, pn⟩ := (S1.wipe vs).sl i _ e
    rw [q] at e1
    cases e1
    rw [nP] at e2
    cases e2
  refine ⟨fun i m H' => m = items.length - i ∧ Inv' i H', ⟨items.length, by simp, start⟩, ?_⟩
  rintro i m H' ⟨rfl, hi, ρ', Hf', o, b, s', S', ra, g'⟩
  by_cases hlt : i < items.length
  · refine .inr ⟨y.go i _ _ _ _ _ _ s' S' hlt, fun H'' => Inv' (i + 1) H'', fun H'' n => ⟨_, Nat.lt_of_lt_of_le (Nat.sub_lt_sub_left hlt (Nat.lt_succ_self i)) (Nat.le_refl _), rfl, n⟩, fun x H2 yy => ?_⟩
    obtain ⟨d, hd⟩ := lt_get hlt
    obtain ⟨Hf2, s2, S2, r2⟩ := y.yld i _ _ _ _ _ _ _ _ _ s' S' hd yy
    rw [drop_get hd] at g'
    simp only [compD] at g'
    cases ha : asgT T d ρ' with
    | none => rw [ha] at g'; exact g'.elim
    | some ρ2 =>
      rw [ha] at g'
      refine tgo T hT _ _ _ _ _ _ _ _ _ _ S2 r2 ha fun σ3 S3 hw3 => ⟨hw3.trans (wipe_idem vs σ), ?_⟩
      have hw4 : wipe σ3 vs = wipe σ vs := hw3.trans (wipe_idem vs σ)
      refine ⟨pin, upd Z P o, ρ2, Hf2, S3, ?_⟩
      have g2 := Go.mono s2 g'
      have s12 := s'.trans s2
      dsimp only at g2
      cases hr : ft ρ2 with
      | err x ρ3 => rw [hr] at g2; exact g2.elim
      | bad => rw [hr] at g2; exact g2.elim
      | ok k ρ3 =>
        rw [hr] at g2
        simp only [R.ne_ok, R.bind_ok] at g2
        intro k' H4 Hf4 s4 S4 e4
        cases e4
        have g4 := Go.mono s4 g2
        have s14 := s12.trans s4
        cases k with
        | false =>
          refine iteF ⟨hlt, wipeR ρ3 vs, Hf4, o, b, s14, S4.wipe' hw4, (ra.mono s2).mono s4, ?_⟩
          simpa using g4
        | true =>
          refine iteT ⟨pin, upd Z P o, ρ3, Hf4, S4, ?_⟩
          simp only [if_true] at g4
          cases hx : fk ρ3 with
          | err x ρ3 => rw [hx] at g4; exact g4.elim
          | bad => rw [hx] at g4; exact g4.elim
          | ok kd ρ5 =>
            rw [hx] at g4
            simp only [R.ne_ok, R.bind_ok] at g4
            intro ky H5 Hf5 s5 S5 r5
            have g5 := Go.mono s5 g4
            refine ⟨pin, upd Z P o, ρ5, Hf5, S5, ?_⟩
            cases hz : fv ρ5 with
            | err x ρ3 => rw [hz] at g5; exact g5.elim
            | bad => rw [hz] at g5; exact g5.elim
            | ok zd ρ6 =>
              rw [hz] at g5
              simp only [R.ne_ok, R.bind_ok] at g5
              intro vz H6 Hf6 s6 S6 r6
              have g6 := Go.mono s6 g5
              have s46 := s5.trans s6
              have nt := ra.nt
              obtain ⟨S7, hP, hfP, aw⟩ := S6.unguard zP nt
              have ra6 : ObR c Hf6 o b := (((ra.mono s2).mono s4).mono s5).mono s6
              cases hb : putB b kd zd with
              | none => rw [hb] at g6; exact g6.elim
              | some b' =>
                rw [hb] at g6
                simp only [R.lift, R.bind_ok] at g6
                obtain ⟨o', dp, ra'⟩ := putB_at hb hP S7.f ra6 (r5.mono s6) r6
                refine ⟨_, dp, hlt, wipeR ρ6 vs, Hf6, o', b', s14.trans s46, ?_, ra', g6⟩
                have S8 := S7.write (o := o') hfP zP aw
                exact (S8.guard upd_same hfP zP aw).wipe' hw4
  · have ei : i = items.length := by omega
    subst ei
    rw [List.drop_length] at g'
    simp only [compD, R.bind_ok] at g'
    refine .inl ⟨y.stop _ _ _ _ _ _ s' S', ?_⟩
    obtain ⟨S6, hP, hfP, aw⟩ := S'.unguard zP ra.nt
    have S7 : SR c pin Z (backR ρ1 ρ' vs) σ H' Hf' := S6.back S1 s'
    refine g' _ _ _ (Same.refl _) S7 ⟨P, o, rfl, hP, hfP, zP, fun i io xs e q => ?_, ra⟩
    rcases backR_get e with e | ⟨d, e, _⟩ | ⟨e1, e2⟩
    · cases e
    · cases e
    · exact aw i io xs e1 (by rw [wipe_get e2]; exact q)
variable {kx vx : Expr} {ifs : List Expr} {scope : Scope} {own : List (Str × Nat)} {pos : Pos}
theorem s_dcomp (hc : X.calm = true) (hu : X.A.units + 65 < cLine) (hN : X.N.Nodup) (hi : PI X tg iter (tI c W fi)) (ok : BlkOk X.N X.env.scope scope own) (hT : ∀ i ∈ T.slots, i ∈ own.map (·.2))
    (hg : ∀ (s : Shared) (H : Hp) (C : Addr) (cl : List (Str × Addr)) (fp : List Addr), PG (X.blk s H scope (compEnvC scope cl C X.env) fp) tg (tgT c T)) (ht : ∀ (s : Shared) (H : Hp) (C : Addr) (cl : List (Str × Addr)) (fp : List Addr), PTs (X.blk s H scope (compEnvC scope cl C X.env) fp) ifs (tT c W0 ft))
    (hk : ∀ (s : Shared) (H : Hp) (C : Addr) (cl : List (Str × Addr)) (fp : List Addr), PE (X.blk s H scope (compEnvC scope cl C X.env) fp) kx (tE c W0 fk))
    (he : ∀ (s : Shared) (H : Hp) (C : Addr) (cl : List (Str × Addr)) (fp : List Addr), PE (X.blk s H scope (compEnvC scope cl C X.env) fp) vx (tE c W0 fv)) (hs : ∀ x, foldedSetIterable iter X.env x = pure x) :
    PE X (.DictComp kx vx [⟨tg, iter, ifs, 0⟩] scope pos) (tO c W (compDR isT T fi ft fk fv (own.map (·.2)))) :=
  pe_of (pe_dp hc (by omega) hN hi ok hg ht hk he hs) fun σ H Q h => dc_reads hT h
/-- y = {..}, y's own -/
theorem t_ownDc {i : Nat} {y : Str} {py spos : Pos} (hc : X.calm = true) (hu : X.A.units + 65 < cLine) (hN : X.N.Nodup) (hy : X.N[i]? = some y) (hyl : X.env.scope.names.lookup y = some .local)
    (hsw : swapsWith (.DictComp kx vx [⟨tg, iter, ifs, 0⟩] scope pos) (some (.Name y py)) spos.line X.env = pure true) (hi : PI X tg iter (tI c W fi)) (ok : BlkOk X.N X.env.scope scope own) (hT : ∀ i ∈ T.slots, i ∈ own.map (·.2))
    (hg : ∀ (s : Shared) (H : Hp) (C : Addr) (cl : List (Str × Addr)) (fp : List Addr), PG (X.blk s H scope (compEnvC scope cl C X.env) fp) tg (tgT c T)) (ht : ∀ (s : Shared) (H : Hp) (C : Addr) (cl : List (Str × Addr)) (fp : List Addr), PTs (X.blk s H scope (compEnvC scope cl C X.env) fp) ifs (tT c W0 ft))
    (hk : ∀ (s : Shared) (H : Hp) (C : Addr) (cl : List (Str × Addr)) (fp : List Addr), PE (X.blk s H scope (compEnvC scope cl C X.env) fp) kx (tE c W0 fk))
    (he : ∀ (s : Shared) (H : Hp) (C : Addr) (cl : List (Str × Addr)) (fp : List Addr), PE (X.blk s H scope (compEnvC scope cl C X.env) fp) vx (tE c W0 fv)) (hs : ∀ x, foldedSetIterable iter X.env x = pure x) :
    PS X (.Assign [.Name y py] (.DictComp kx vx [⟨tg, iter, ifs, 0⟩] scope pos) spos) (tS c W fun ρ => (compDR isT T fi ft fk fv (own.map (·.2)) ρ).bind fun b ρ1 => (R.lift (setO i b ρ1) ρ1).bind fun ρ2 _ => .ok .nx ρ2) := by
  refine ps_of (ps_setDp (isT := isT) hc (by omega) hN hy hyl hsw hi ok hg ht hk he hs) fun E σ H h => ?_
  refine dc_reads hT (c := c) (W := W) (Q := fun x H1 => gName i x σ H1 E.nx) ?_
  refine tS.seqE (f := compDR isT T fi ft fk fv (own.map (·.2))) h fun pin Z ds ρ1 v H1 Hf1 S1 r1 g => ?_
  obtain ⟨q, vs, rfl, h1, h2, h3, aw, r⟩ := r1
  cases e : setO i ds ρ1 with
  | none => rw [e] at g; exact g.elim
  | some ρ2 => rw [e] at g; exact g _ _ _ (Same.refl _) (S1.own e h1 h2 h3 aw r)
end
end Ev
namespace Ev
open PySem PySem.Spec PyProof.Rows L2
/-! ### starred items of a list -/
section
variable {X : Cx} {c : Cn} {W : WX} {e : Expr} {es : List Expr} {fe : En → R D} {fs : En → R (List D)} {p pos : Pos}
theorem s_starP (hK : X.K = c.K) (he : PE X e (tE c W fe)) (hs : PA X es (tA c W fs)) :
    PA X (.Starred e p :: es) (tA c W fun ρ => (fe ρ).bind fun y ρ1 => (R.lift (seqD y) ρ1).bind fun ys ρ2 => (fs ρ2).bind fun xs ρ3 => .ok (ys ++ xs) ρ3) := by
  refine pa_of (StX.pa_star he hs rfl) fun σ H Q h => ?_
  refine tG.seq h fun pin Z d ρ1 x H1 Hf1 S1 r1 h1 => ?_
  cases hq : seqD d with
  | none => rw [hq] at h1; exact h1.elim
  | some ys =>
    rw [hq] at h1
    simp only [R.lift, R.bind_ok] at h1
    have : ∃ q vs, x = .ref q ∧ (SqT X.K H1 q vs ∨ SqL X.K H1 q vs) ∧ Reps c Hf1 vs ys := by
      cases r1 <;> cases hq
      · rename_i a vs hp r; exact ⟨_, _, rfl, .inl (SqT.of (S1.f _ _ hp)), r⟩
      · rename_i a vs hp r; exact ⟨_, _, rfl, .inr (SqL.of (S1.f _ _ hp)), r⟩
      · rename_i a ns hp
        refine ⟨_, _, rfl, .inr (by rw [hK]; exact S1.f.seq hp), ?_⟩
        clear hp h1
        induction ns with
        | nil => exact .nil
        | cons n ns ih => exact .cons (.int n) ih
    obtain ⟨q, vs, rfl, hq2, r⟩ := this
    refine ⟨q, vs, rfl, hq2, pin, Z, ρ1, Hf1, S1, Go.seq h1 fun ds ρ2 xs H2 Hf2 s2 S2 r2 h2 => ?_⟩
    exact h2 _ _ _ (Same.refl _) S2 ((r.mono s2).append r2)
/-- .. as a list, looked at how long it is -/
theorem s_lstS (hs : PA X es (tA c W fs)) : PE X (.List es pos) (tF c W fun ρ => (fs ρ).bind few) := by
  refine s_lst (fun ρ ds ρ' h => ?_) (pa_of hs fun σ H Q h => ?_)
  · cases hf : fs ρ with
    | ok xs ρ1 =>
      rw [hf] at h
      simp only [R.bind_ok, few] at h
      split at h
      · cases h; assumption
      · cases h
    | err x ρ1 => rw [hf] at h; cases h
    | bad => rw [hf] at h; cases h
  · refine tG.seq h fun pin Z ds ρ1 vs H1 Hf1 S1 r1 h1 => ?_
    unfold few at h1
    split at h1
    · exact h1 _ _ _ (Same.refl _) S1 r1
    · exact h1.elim
/-- a new thing of its own among the values of an assignment -/
theorem s_pcO {a : Expr} {ff : En → R Ob} {fs : En → R (List Sl)} (h : noStar a = true) (ha : PE X a (tO c W ff)) (hs : PA X es (tP c W fs)) : PA X (a :: es) (tP c W fun ρ => (ff ρ).bind fun b ρ1 => (fs ρ1).bind fun ss ρ2 => .ok (.ow false b :: ss) ρ2) := by
  refine pa_of (pa_cons ha hs (star_cons h)) fun σ H Q g => ?_
  refine tG.seq g fun pin Z b ρ1 v H1 Hf1 S1 r1 g1 => ?_
  obtain ⟨p, o, rfl, q2, q3, q4, q5, q6⟩ := r1
  refine ⟨pin, upd Z p o, ρ1, Hf1, S1.guard q2 q3 q4 q5, ?_⟩
  cases hf : fs ρ1 with
  | bad => rw [hf] at g1; exact g1.elim
  | err x ρ2 => rw [hf] at g1; exact fun H2 Hf2 s2 S2 => g1 H2 Hf2 s2 (S2.unguard q4 q6.nt).1
  | ok ss ρ2 =>
    rw [hf] at g1
    intro vs H2 Hf2 s2 S2 r2
    obtain ⟨S3, k1, k2, k3⟩ := S2.unguard q4 q6.nt
    obtain ⟨r3, r4⟩ := PR.unguard r2
    exact g1 (.ref p :: vs) H2 Hf2 s2 S3 ⟨⟨p, o, rfl, k1, k2, q4, k3, q6.mono s2, r4⟩, r3⟩
end
end Ev
namespace Ev
open PySem PySem.Spec PyProof.Rows L2
/-! ### a thing of its own looked at, and kept -/
def cmpL (op : CmpOp) (x y : D) : Option Bool := match x with
  | .dK _ _ => none
  | .dT _ _ => none
  | x => cmpD op x y
@[simp] theorem cmpL_lst (op : CmpOp) (xs : List D) (y : D) : cmpL op (.lst xs) y = cmpD op (.lst xs) y := (rfl)
mutual
def noL : D → Bool
  | .non => true
  | .bl _ => true
  | .int _ => true
  | .str _ => true
  | .tup xs => noLs xs
  | _ => false
def noLs : List D → Bool
  | [] => true
  | d :: ds => noL d && noLs ds
end
section
variable {c : Cn} {H H' : Hp} {p : Addr} {us : List V}
mutual
theorem Rep.lose (hp : H p = some (.lst us)) (s : ∀ a, a ≠ p → H' a = H a) : ∀ {v : V} {d : D}, Rep c H v d → noL d = true → Rep c H' v d
  | _, _, .non, _ => .non
  | _, _, .bl b, _ => .bl b
  | _, _, .int i, _ => .int i
  | _, _, .str x, _ => .str x
  | _, _, .tup (a := a) h r, n => .tup (by rw [s a (fun z => by subst z; rw [hp] at h; cases h)]; exact h) (Reps.lose hp s r (by simpa [noL] using n))
  | _, _, .lst _ _, n => by simp [noL] at n
  | _, _, .fn _, n => by simp [noL] at n
  | _, _, .scr _, n => by simp [noL] at n
  | _, _, .dK _ _, n => by simp [noL] at n
  | _, _, .dT _ _, n => by simp [noL] at n
theorem Reps.lose (hp : H p = some (.lst us)) (s : ∀ a, a ≠ p → H' a = H a) : ∀ {vs : List V} {ds : List D}, Reps c H vs ds → noLs ds = true → Reps c H' vs ds
  | _, _, .nil, _ => .nil
  | _, _, .cons r rs, n => by
    simp only [noLs, Bool.and_eq_true] at n
    exact .cons (Rep.lose hp s r n.1) (Reps.lose hp s rs n.2)
end
end
def callMO (i j : Nat) (r : List D → List D → Cr (D × List D)) (ρ : En) : R D :=
  match ρ[i]?, ρ[j]? with
  | some (.ow io (.lst xs)), some (.ow _ (.lst zs)) => if i = j then .bad else match r xs [.lst zs] with
    | .ok (d, ys) => if noL d = true ∧ noLs ys = true then .ok d (ρ.set i (.ow io (.lst ys))) else .bad
    | _ => .bad
  | _, _ => .bad
section
variable {X : Cx} {c : Cn} {W : WX} {pos p : Pos} {b : Expr} {x : Str} {n : Nat} {f : Addr} {fd : FuncData} {ps : List Str} {fb : En → R D}
theorem s_callMO {i j : Nat} {y z : Str} {py pz : Pos} {r : List D → List D → Cr (D × List D)} (F : FnOk X.prog X.w X.K X.mg X.base (L2.CX X.prog X.w) n f fd ps (spM c ps.length r)) (hr : Room n X.A) (hg : Gl X x) (hm : X.mg x = some (.ref f)) (hk : PySem.W.keepIn X.K (.ref f) = true) (hb : Binds X.K fd ps []) (tk : Takes X W)
    (hdb : (x == ("__debug__" : Str)) = false) (h2 : ps.length = 2) (hy : PE X (.Name y py) (tVar i)) (hz : PE X (.Name z pz) (tVar j)) :
    PE X (.Call (.Name x p) [.Name y py, .Name z pz] [] pos) (tE c W fun ρ => callMO i j r ρ) := by
  refine pe_of (pe_callS (E := WE W) F hr hg hm hk hb (fun σ => passAt tk σ) (pa_cons hy (pa_cons hz pa_nil (star_cons rfl)) (star_cons rfl)) hdb (star_cons rfl) (star_any rfl)) fun σ H Q ⟨pin, Z, ρ, Hf, S, g⟩ => ?_
  dsimp only at g
  unfold callMO at g
  split at g
  · rename_i io xs io2 zs f1 f2
    split at g
    · exact g.elim
    · rename_i hij
      obtain ⟨q, o, k1, k2, k3, k4, k5, k6⟩ := S.sl i _ f1
      obtain ⟨us, rfl, k5⟩ := k5.lst
      obtain ⟨q2, o2, l1, l2, l3, l4, l5, l6⟩ := S.sl j _ f2
      obtain ⟨us2, rfl, l5⟩ := l5.lst
      have ne : q ≠ q2 := fun e => by subst e; exact S.ap i j _ _ _ _ q hij f1 f2 k1 l1
      refine ⟨_, k1, _, l1, ?_⟩
      have ss : Same Hf (upd Hf q2 (.lst us2)) := Same.new l3
      have sH : Same (upd Hf q2 (.lst us2)) H := fun a o e => by
        by_cases ha : a = q2
        · subst ha; rw [upd_same] at e; cases e; exact l2
        · rw [upd_ne ha] at e; exact S.f _ _ e
      refine ⟨q, us, [.ref q2], upd Hf q2 (.lst us2), xs, [.lst zs], rfl, h2.symm ▸ rfl, sH, k2, by rw [upd_ne ne]; exact k3, k5.mono ss, .cons (.lst upd_same (l5.mono ss)) .nil, ?_⟩
      cases hr : r xs [.lst zs] with
      | ok dy =>
        obtain ⟨d, ys⟩ := dy
        rw [hr] at g
        dsimp only at g
        split at g
        · rename_i hn
          intro v H' Hf' us'' k hp ru s2 s3 fr rv
          have hq : Hf' q2 = some (.lst us2) := s2 _ _ upd_same
          let Hg : Hp := fun a => if a = q2 then none else Hf' a
          have ag : ∀ a, a ≠ q2 → Hg a = Hf' a := fun a ha => if_neg ha
          have g0 : Hg q2 = none := if_pos rfl
          have sg : Same Hf Hg := fun a o e => by
            have ha : a ≠ q2 := fun z => by subst z; rw [l3] at e; cases e
            rw [ag a ha]
            exact s2 _ _ (by rw [upd_ne ha]; exact e)
          have sg2 : Same Hg H' := fun a o e => by
            by_cases ha : a = q2
            · subst ha; rw [g0] at e; cases e
            · rw [ag a ha] at e; exact s3 _ _ e
          have frg : ∀ a o, H a = some o → NT o → Hf a = none → Hg a = none := fun a o e nt hf => by
            by_cases ha : a = q2
            · subst ha; exact g0
            · rw [ag a ha]; exact fr a o e nt (by rw [upd_ne ha]; exact hf)
          exact g v H' Hg sg (S.modify f1 k1 k hp sg sg2 frg (show ObR c Hg (.lst us'') (.lst ys) from Reps.lose hq ag ru hn.2)) (Rep.lose hq ag rv hn.1)
        · exact g.elim
      | err => rw [hr] at g; exact g.elim
      | bad => rw [hr] at g; exact g.elim
  · exact g.elim
theorem cmpV_reads {i : Nat} {op : CmpOp} {σ : Sg} {H : Hp} {Q : VK} (h : tE c W (fun ρ => (rdL ρ i).bind fun _ ρ0 => (fb ρ0).bind fun y ρ1 => (rdL ρ1 i).bind fun x ρ2 => liftB (cmpL op x y) ρ2) σ H Q) :
    tVar i σ H fun x H1 => tE c W fb σ H1 fun y H2 => rCp c (cmpD op) x y H2 Q := by
  obtain ⟨pin, Z, ρ, Hf, S, g⟩ := h
  dsimp only at g
  cases h0 : rdL ρ i with
  | err => unfold rdL at h0; split at h0 <;> cases h0
  | bad => rw [h0] at g; exact g.elim
  | ok d0 ρ0 =>
    rw [h0] at g
    obtain ⟨e0, v, ev, _⟩ := rdL_at S h0
    subst e0
    refine ⟨v, ev, pin, Z, ρ0, Hf, S, Go.seq g fun k ρ1 y H1 Hf1 s1 S1 r1 h1 => ?_⟩
    cases h2 : rdL ρ1 i with
    | err => unfold rdL at h2; split at h2 <;> cases h2
    | bad => rw [h2] at h1; exact h1.elim
    | ok d ρ2 =>
      rw [h2] at h1
      obtain ⟨e2, v', ev', rl⟩ := rdL_at S1 h2
      subst e2
      rw [ev] at ev'
      cases ev'
      simp only [R.bind_ok] at h1
      cases hg : cmpL op d k with
      | none => rw [hg] at h1; exact h1.elim
      | some z =>
        rw [hg] at h1
        have q : Q (.bl z) H1 := h1 _ _ _ (Same.refl _) S1 (.bl z)
        have hg2 : cmpD op d k = some z := by
          cases d <;> first | exact hg | cases hg
        refine ⟨d, k, z, ?_, r1.mono S1.f, hg2, q⟩
        rcases rl with rl | ⟨p, ho, b, rfl, rfl, hp, r⟩
        · exact rl.mono S1.f
        · cases b with
          | lst xs => obtain ⟨us, rfl, r⟩ := r.lst; exact .lst hp (r.mono S1.f)
          | dK => cases hg
          | dT => cases hg
theorem s_cmpV {i : Nat} {op : CmpOp} (hK : X.K = c.K) (hu : X.A.units + 65 < cLine) (ns : isSet b = false) (hx : PE X (.Name x p) (tVar i)) (hb : PE X b (tE c W fb)) :
    PE X (.Compare (.Name x p) [op] [b] pos) (tE c W fun ρ => (rdL ρ i).bind fun _ ρ0 => (fb ρ0).bind fun y ρ1 => (rdL ρ1 i).bind fun x ρ2 => liftB (cmpL op x y) ρ2) :=
  pe_of (pe_cmpR (cpr hK hu op) hx hb (noMark ns)) fun _ _ _ h => cmpV_reads h
theorem s_cmpVT {i : Nat} {op : CmpOp} (hK : X.K = c.K) (hu : X.A.units + 65 < cLine) (ns : isSet b = false) (hx : PE X (.Name x p) (tVar i)) (hb : PE X b (tE c W fb)) :
    PT X (.Compare (.Name x p) [op] [b] pos) (tT c W fun ρ => ((rdL ρ i).bind fun _ ρ0 => (fb ρ0).bind fun y ρ1 => (rdL ρ1 i).bind fun x ρ2 => liftB (cmpL op x y) ρ2).bind boolOf) := by
  refine pt_of (pt_cmpR (cpr hK hu op) hx hb (noMark ns)) fun σ H Q h => ?_
  refine cmpV_reads (Q := fun x H' => ∃ k, x = .bl k ∧ Q k H') ?_
  refine tG.seq h fun pin Z d ρ1 x H1 Hf1 S1 r1 h1 => ?_
  cases d <;> try exact h1.elim
  cases r1
  exact ⟨_, rfl, h1 _ _ _ (Same.refl _) S1 rfl⟩
end
end Ev

end
section
set_option maxHeartbeats 3200000
namespace Ev
open PySem PySem.Spec PyProof.Rows L2

/-! ### sets of texts, to be counted and to be sorted -/
/-- a text's entry -/
def GoodTx (P : Program) (w : World) (e : Int × Value) : Prop := ∃ x tk, e.2 = Value.str x tk ∧ e.1 = (PySem.strKind P w).hash x
def keyS (e : Int × Value) : Str := match e.2 with | .str x _ => x | _ => Str.empty
/-- the set at a: S says who is in it; its table rises and can be walked -/
def SetS (P : Program) (w : World) (h : Heap) (a : Addr) (S : Str → Bool) : Prop :=
  ∃ o es ep t, h.get? a = some o ∧ o.ExactSet ∧ o.data = .set es ep t ∧ (∀ e ∈ es.toList, GoodTx P w e) ∧ (es.toList.map keyS).Nodup ∧ (∀ k, S k = true ↔ k ∈ es.toList.map keyS) ∧
    t.fits es.size = true ∧ Ris t.place.toList ∧ (w.params.followText "set-order" = true ∨ t.led = true)
section
variable {P : Program} {w : World} {h h' : Heap} {a : Addr} {S : Str → Bool}
theorem SetS.at (R : SetS P w h a S) (k : ∀ o, h.get? a = some o → h'.get? a = some o) : SetS P w h' a S := by
  obtain ⟨o, es, ep, t, ho, r⟩ := R
  exact ⟨o, es, ep, t, k o ho, r⟩
theorem SetS.congr {S' : Str → Bool} (R : SetS P w h a S) (e : ∀ k, S' k = S k) : SetS P w h a S' := by
  rw [show S' = S from funext e]; exact R
theorem goodS_elems {l : List (Int × Value)} (g : ∀ e ∈ l, GoodTx P w e) : ElemsOf (PySem.strKind P w) l := fun e he => by
  obtain ⟨k, tk, h1, h2⟩ := g e he
  exact ⟨⟨k, by rw [h1]; exact strKind_is P w k tk, h2⟩, by rw [h1] <;> rfl⟩
theorem goodS_is {e : Int × Value} (g : GoodTx P w e) (k : Str) : (PySem.strKind P w).is k e.2 = true ↔ keyS e = k := by
  obtain ⟨k0, tk, h1, _⟩ := g
  have q := KeyKind.is_eq_decide (knd := PySem.strKind P w) (strKind_is P w k0 tk) k
  unfold keyS
  rw [h1, q, decide_eq_true_eq]
  exact eq_comm
theorem goodS_mem {l : List (Int × Value)} (g : ∀ e ∈ l, GoodTx P w e) (k : Str) : k ∈ l.map keyS ↔ ∃ e ∈ l, (PySem.strKind P w).is k e.2 = true := by
  rw [List.mem_map]
  constructor
  · rintro ⟨e, he, q⟩; exact ⟨e, he, (goodS_is (g e he) k).2 q⟩
  · rintro ⟨e, he, q⟩; exact ⟨e, he, (goodS_is (g e he) k).1 q⟩
/-- the members, each once -/
def Mems (S : Str → Bool) (ys : List Str) : Prop := ys.Nodup ∧ ∀ k, k ∈ ys ↔ S k = true
end
section
variable {P : Program} {w : World} {A : Around} {E : Value → Shared → Prop} {s : Shared} {a : Addr} {S : Str → Bool}
/-- a new member is laid, the table perhaps anew -/
theorem setS_tail {g : Bool → Sem Unit} (hg : ∀ (b : Bool) (s₁ : Shared) (Q' : Unit → Shared → Prop), Q' () s₁ → wpAny (model P w) A (g b) Q' E s₁)
    {o : Obj} {es : Array (Int × Value)} {ep : Nat} {t : SetTable} (ho : s.heap.get? a = some o) (hex : o.ExactSet) (hd : o.data = .set es ep t)
    {es1 : Array (Int × Value)} {t2 : SetTable} {S' : Str → Bool} (g1 : ∀ e ∈ es1.toList, GoodTx P w e) (nd1 : (es1.toList.map keyS).Nodup) (m1 : ∀ k, S' k = true ↔ k ∈ es1.toList.map keyS)
    (hb1 : es1.size < scanBound) (hf2 : t2.fits es1.size = true) (hr : Ris t2.place.toList) (hl : w.params.followText "set-order" = true ∨ t2.led = true) {wasDummy : Bool} {R : Option Bool → Shared → Prop}
    (hR : ∀ h', Heap.SameBut a s.heap h' → SetS P w h' a S' → R (some true) { s with heap := h' }) :
    wpAny (model P w) A (do
        storeSet a es1 t2
        if (!wasDummy && t2.tooFull) = true then do
            g (relayAll t2 es1 (SetTable.grown es1.size)).2.2
            storeSet a (relayAll t2 es1 (SetTable.grown es1.size)).1 (relayAll t2 es1 (SetTable.grown es1.size)).2.1
            pure (some true)
          else pure (some true)) R E s := by
  refine wpAny_bind (wpAny_storeSet_of ho hd ?_ (fits_of_scanBound hb1))
  have ho1 := L2.store_at (es' := es1) (t' := t2) ho hd
  have sb1 := Heap.SameBut.update s.heap a (Obj.putSet es1 t2)
  split
  · have pm := relayAll_perm t2 es1 (SetTable.grown es1.size)
    have hf3 := relayAll_fits t2 es1 (SetTable.grown es1.size)
    have hr3 := relayAll_ris t2 es1 (SetTable.grown es1.size)
    have hl3 := relayAll_led t2 es1 (SetTable.grown es1.size)
    generalize relayAll t2 es1 (SetTable.grown es1.size) = Z at pm hf3 hr3 hl3 ⊢
    obtain ⟨es2, t3, gave⟩ := Z
    dsimp only at pm hf3 hr3 hl3 ⊢
    have hsz : es2.size = es1.size := by rw [← Array.length_toList, pm.length_eq, Array.length_toList]
    refine wpAny_bind (hg _ _ _ ?_)
    refine wpAny_bind (wpAny_storeSet_of ho1 rfl ?_ (fits_of_scanBound (by rw [hsz]; exact hb1)))
    refine wpAny_pure (hR _ (sb1.trans (Heap.SameBut.update _ a _)) ?_)
    exact ⟨_, es2, _, t3, L2.store_at (es' := es2) (t' := t3) ho1 rfl, hex, rfl, fun e he => g1 e (pm.mem_iff.mp he), (pm.map keyS).nodup_iff.mpr nd1, fun k => (m1 k).trans (pm.map keyS).mem_iff.symm, hf3, hr3,
      hl.imp id fun z => by rw [hl3]; exact z⟩
  · exact wpAny_pure (hR _ sb1 ⟨_, es1, _, t2, ho1, hex, rfl, g1, nd1, m1, hf2, hr, hl⟩)
/-- a text is put into the set -/
theorem setS_add {k : Str} {tk : Tok} {Q : Bool → Shared → Prop} {n : Nat} (R : SetS P w s.heap a S) (few : ∀ ys, Mems S ys → ys.length ≤ n) (room : n + 1 < scanBound)
    (hQ : ∀ h', Heap.SameBut a s.heap h' → SetS P w h' a (fun j => S j || decide (j = k)) → Q (!S k) { s with heap := h' }) :
    wpAny (model P w) A (setAddHashed a (.str k tk) ((PySem.strKind P w).hash k)) Q E s := by
  obtain ⟨o, es, ep, t, ho, hex, hd, g, nd, hm, hf, hr, hl⟩ := R
  have hkey : (PySem.strKind P w).is k (.str k tk) = true := strKind_is P w k tk
  have hsc : (Value.str k tk).scannable = true := rfl
  have hel : ElemsOf (PySem.strKind P w) es.toList := goodS_elems g
  have hn : es.size ≤ n := by
    have := few _ ⟨nd, fun k => (hm k).symm⟩
    rw [List.length_map, Array.length_toList] at this
    exact this
  have hb : es.size < scanBound := by omega
  unfold setAddHashed setAddHashedIn
  refine wpAny_holding (wpAny_bind (wpAny_setState_of ho hd hf ?_))
  dsimp only
  rw [byScan_of hsc hb hel]
  simp only [↓reduceIte]
  unfold setAddByScan
  refine wpAny_bind ?_
  refine wpAny_bind (wpAny_rule ?_)
  refine wpAny_bind (wpAny_setScan_of hkey ho hd hf hel ?_)
  cases hfi : List.findIdx? (fun e => (PySem.strKind P w).is k e.2) es.toList with
  | some j =>
    dsimp only
    obtain ⟨hj, pj, _⟩ := List.findIdx?_eq_some_iff_getElem.mp hfi
    have hSk : S k = true := (hm k).2 ((goodS_mem g k).2 ⟨es.toList[j], List.getElem_mem hj, pj⟩)
    refine wpAny_pure (wpAny_pure ?_)
    have q := hQ s.heap (Heap.SameBut.refl a s.heap) ⟨o, es, ep, t, ho, hex, hd, g, nd, fun i => by
      rw [Bool.or_eq_true, decide_eq_true_eq, ← hm i]
      exact ⟨fun z => z.elim id (fun e => e ▸ hSk), .inl⟩, hf, hr, hl⟩
    rw [hSk] at q
    exact q
  | none =>
    dsimp only
    have hnk : k ∉ es.toList.map keyS := fun z => by
      obtain ⟨e, he, q⟩ := (goodS_mem g k).1 z
      have c := List.findIdx?_eq_none_iff.mp hfi e he
      rw [q] at c
      cases c
    have hSk : S k = false := by
      cases q : S k with
      | false => rfl
      | true => exact absurd ((hm k).1 q) hnk
    have hgw : ∀ (b : Bool) {s₁ : Shared} {Q' : Unit → Shared → Prop}, Q' () s₁ → wpAny (model P w) A (match b with | true => rule "set.scan.the-table-gave-way" | false => pure ()) Q' E s₁ :=
      fun b s₁ Q' q => by cases b <;> first | exact wpAny_pure q | exact wpAny_rule q
    have pm := layNew_perm t es ((PySem.strKind P w).hash k) (.str k tk)
    have hf1 := layNew_fits t es ((PySem.strKind P w).hash k) (.str k tk)
    have hr1 := layNew_ris t es ((PySem.strKind P w).hash k) (.str k tk) hr
    have hl1 := layNew_led t es ((PySem.strKind P w).hash k) (.str k tk)
    generalize layNew t es ((PySem.strKind P w).hash k) (.str k tk) = Z at pm hf1 hr1 hl1 ⊢
    obtain ⟨es1, t1, wasDummy, gave⟩ := Z
    dsimp only at pm hf1 hr1 hl1 ⊢
    rw [Array.toList_push] at pm
    have pc : es1.toList.Perm (((PySem.strKind P w).hash k, Value.str k tk) :: es.toList) := pm.trans (List.perm_append_singleton _ _)
    have pk : (es1.toList.map keyS).Perm (k :: es.toList.map keyS) := pc.map keyS
    have g1 : ∀ e ∈ es1.toList, GoodTx P w e := fun e he => by
      rcases List.mem_cons.mp (pc.mem_iff.mp he) with z | z
      · rw [z]; exact ⟨k, tk, rfl, rfl⟩
      · exact g e z
    have nd1 : (es1.toList.map keyS).Nodup := pk.nodup_iff.mpr (List.nodup_cons.mpr ⟨hnk, nd⟩)
    have m1 : ∀ i, (S i || decide (i = k)) = true ↔ i ∈ es1.toList.map keyS := fun i => by
      rw [Bool.or_eq_true, decide_eq_true_eq, hm i, pk.mem_iff, List.mem_cons]
      exact Or.comm
    have hb1 : es1.size < scanBound := by
      rw [← Array.length_toList, pc.length_eq, List.length_cons, Array.length_toList]
      omega
    have hled : w.params.followText "set-order" = true ∨ t1.led = true := hl.imp id fun z => by rw [hl1]; exact z
    have fin : ∀ h', Heap.SameBut a s.heap h' → SetS P w h' a (fun j => S j || decide (j = k)) → Q true { s with heap := h' } := fun h' sb r => by
      have q := hQ h' sb
      rw [hSk] at q
      exact q r
    refine wpAny_bind (hgw _ ?_)
    split
    · refine wpAny_bind ?_
      rw [hashByValue_scannable 8 hsc]
      refine wpAny_pure ?_
      refine setS_tail ?_ ho hex hd g1 nd1 m1 hb1 ?_ ?_ ?_ ?_
      · intro b s₁ Q' q; cases b <;> first | exact wpAny_pure q | exact wpAny_rule q
      · first | (split <;> first | exact hf1 | exact SetTable.fits_plain_off hf1) | exact hf1
      · first | (split <;> exact hr1) | exact hr1
      · first | (split <;> exact hled) | exact hled
      · intro h' sb r; dsimp only; exact wpAny_pure (fin h' sb r)
    · refine wpAny_bind (wpAny_pure ?_)
      simp only [↓reduceIte]
      refine setS_tail ?_ ho hex hd g1 nd1 m1 hb1 hf1 hr1 hled ?_
      · intro b s₁ Q' q; cases b <;> first | exact wpAny_pure q | exact wpAny_rule q
      · intro h' sb r; dsimp only; exact wpAny_pure (fin h' sb r)
theorem setS_fresh {h : Heap} (ho : h.get? a = some { cls := .type "set", dict := none, data := .set #[] 0 (.fresh 0 0 (!w.params.followText "set-order")) }) : SetS P w h a (fun _ => false) :=
  ⟨_, #[], 0, _, ho, ⟨rfl, rfl, rfl⟩, rfl, (fun e he => by simp at he), (by simp), (fun k => by simp), (by rfl), List.Pairwise.nil, by
    show _ ∨ (!w.params.followText "set-order") = true
    cases w.params.followText "set-order"
    · exact .inr rfl
    · exact .inl rfl⟩
theorem nodup_len {α : Type} [DecidableEq α] : ∀ (ys xs : List α), ys.Nodup → (∀ y ∈ ys, y ∈ xs) → ys.length ≤ xs.length
  | [], _, _, _ => Nat.zero_le _
  | y :: ys, xs, nd, h => by
    rw [List.nodup_cons] at nd
    have hy := h y List.mem_cons_self
    have ih := nodup_len ys (xs.erase y) nd.2 fun z hz => (List.mem_erase_of_ne (fun e : z = y => nd.1 (by rw [← e]; exact hz))).mpr (h z (List.mem_cons_of_mem _ hz))
    rw [List.length_erase_of_mem hy] at ih
    have : 0 < xs.length := List.length_pos_of_mem hy
    rw [List.length_cons]
    omega
theorem mems_le {xs ys : List Str} (h : Mems (fun j => decide (j ∈ xs)) ys) : ys.length ≤ xs.length :=
  nodup_len ys xs h.1 fun y hy => by simpa using (h.2 y).mp hy
/-- a list's texts are put in, one by one -/
theorem setS_loop {I : Addr} {fp wr : List Addr} {G : Array GenState → Array GenState → Prop} {n : Nat} {Pv : Nat → Value → Prop} {St : Nat → Shared → Prop} {R : Result → Shared → Prop}
    (W : WalksS P w A.in1 I fp wr G n Pv St) (D : Addr) (hSf : D ∉ fp) (xs : List Str) (hn : n = xs.length) (hb : xs.length + 1 < scanBound) (hval : ∀ i v, Pv i v → ∃ k t, xs[i]? = some k ∧ v = .str k t) :
    ∀ (k i : Nat) (s : Shared), n - i = k → i ≤ n → St i s → SetS P w s.heap D (fun j => decide (j ∈ xs.take i)) →
      (∀ s', Moved (D :: wr) G s s' → SetS P w s'.heap D (fun j => decide (j ∈ xs)) → R (.ok (.ret .none)) s') →
      codeAny (model P w) A (.builtin "set.update.loop" ⟨[.ref D, .ref I], []⟩) R s := by
  have hSw : D ∉ wr := fun h => hSf (W.sub _ h)
  have hsub : ∀ b ∈ wr, b ∈ D :: wr := fun b hb => List.mem_cons_of_mem _ hb
  intro k
  induction k with
  | zero =>
    intro i s hk' hi hst hS hR
    have hin : i = n := by omega
    subst hin
    refine codeAny_builtin F.entry_set_update_loop ?_
    rw [Around.under_plainId F.plain_set_update_loop _]
    show wpAny _ A.in1 (pyNext (.ref I) >>= _) _ _ s
    refine wpAny_bind (W.done s _ _ hst fun s' hm => ?_)
    show wpAny _ A.in1 (ret Value.none) _ _ s'
    rw [List.take_of_length_le (by omega)] at hS
    exact wpAny_pure (hR s' (hm.mono hsub) (hS.at fun o e => hm.heap D o hSw e))
  | succ k ih =>
    intro i s hk' hi hst hS hR
    have hlt : i < n := by omega
    refine codeAny_builtin F.entry_set_update_loop ?_
    rw [Around.under_plainId F.plain_set_update_loop _]
    show wpAny _ A.in1 (pyNext (.ref I) >>= _) _ _ s
    refine wpAny_bind (W.item i s _ _ hlt hst fun v s' hP hst' hm => ?_)
    obtain ⟨z, t, hz, rfl⟩ := hval i v hP
    have hS' : SetS P w s'.heap D (fun j => decide (j ∈ xs.take i)) := hS.at fun o e => hm.heap D o hSw e
    show wpAny _ A.in1 (holding [Value.str z t] (setAdd D (.str z t)) >>= _) _ _ s'
    refine wpAny_bind (wpAny_holding ?_)
    unfold setAdd
    refine wpAny_holding ?_
    refine wpAny_bind ((PySem.strKind P w).pyHash (k := z) (strKind_is _ _ _ _) ?_)
    refine setS_add (s := { s' with toks := s'.toks + 1 }) (n := xs.length) hS' (fun ys hy => by have := mems_le hy; have := List.length_take_le i xs; omega) hb fun h' hsb hS2 => ?_
    have hS3 : SetS P w h' D (fun j => decide (j ∈ xs.take (i + 1))) := hS2.congr fun j => by
      rw [List.take_add_one, hz]
      simp [List.mem_append]
    refine wpAny_pure ⟨plainId_quiet F.plain_set_update_loop _, ih (i + 1) _ (by omega) hlt (W.frame _ s' _ _ hst' (Nat.le_succ _) fun b hb o e => ?_) hS3 fun s'' hm'' hS'' => ?_⟩
    · rw [hsb.2 b (fun h : b = D => hSf (by rw [← h]; exact hb))]; exact e
    · refine hR s'' (Moved.trans W.gtrans ((hm.mono hsub).then_heap (Nat.le_succ _) fun b o hb e => ?_) hm'') hS''
      rw [hsb.2 b (fun h : b = D => hb (by rw [h]; exact List.mem_cons_self))]; exact e
/-- set(xs), a list of texts -/
theorem call_setS {l : Addr} {items : Array Value} (xs : List Str) {Q : Value → Shared → Prop} (hh : A.handled = none) (hl : s.heap.IsList l items) (hit : StrsAre items.toList xs) (hb : xs.length + 1 < scanBound)
    (h : ∀ (h' : Heap) (tk : Nat), SetS P w h' s.heap.objs.size (fun j => decide (j ∈ xs)) → (∀ b o, s.heap.get? b = some o → h'.get? b = some o) → Q (.ref s.heap.objs.size) { s with heap := h', toks := tk }) :
    wpAny (model P w) A (call (.type "set") [.ref l]) Q E s := by
  have hisz : items.size = xs.length := by rw [← StrsAre.len_eq hit, Array.length_toList]
  obtain ⟨c, tl, hmro⟩ := F.called_set.mro
  have hmade := F.called_set.made
  have hsub := F.called_set.sub
  refine wpAny_call (codeAny_of_tree ?_)
  show wpAny _ _ (callAny (.type "set") _) _ _ _
  refine wpAny_pure ⟨Code.quiet_builtin _ (by decide +kernel), codeAny_builtin F.entry_type_call ?_⟩
  rw [Around.under_plain (weight_type_call_type "set" [.ref l] []) rfl]
  have h1 := F.called_set.notType
  have h2 := F.called_set.canCreate
  have hct := F.typeCall_set_1 (.ref l)
  repeat (any_goals (first | assumption | wp_step))
  refine codeAny_mono (code_set_led1 (.ref l) (E := E) (Q₁ := fun obj s₁ => obj = .ref s.heap.objs.size ∧ s₁ = { s with heap := s.heap.push { cls := .type "set", dict := none, data := .set #[] 0 (.fresh 0 0 (!w.params.followText "set-order")) } }) ⟨rfl, rfl⟩) fun r s₁ hr => ?_
  cases r with
  | error e => exact hr
  | ok fl =>
    cases fl with
    | ret obj =>
      obtain ⟨rfl, rfl⟩ := hr
      have hS : (s.heap.push { cls := .type "set", dict := none, data := .set #[] 0 (.fresh 0 0 (!w.params.followText "set-order")) }).get? s.heap.objs.size = some { cls := .type "set", dict := none, data := .set #[] 0 (.fresh 0 0 (!w.params.followText "set-order")) } := Heap.get?_push_size _ rfl
      have hT : Shared.TypeIs { s with heap := s.heap.push { cls := .type "set", dict := none, data := .set #[] 0 (.fresh 0 0 (!w.params.followText "set-order")) } } (.ref s.heap.objs.size) "set" := ⟨_, hS, rfl⟩
      have hli := F.called_set.init.lookup
      have hbi := F.called_set.init.bind (.ref s.heap.objs.size)
      repeat (any_goals (first | assumption | wp_step))
      refine codeAny_mono (codeAny_call_builtin (R := wants (fun r s₂ => r = .none ∧ ∃ h' tk, s₂ = { s with heap := h', toks := tk } ∧ SetS P w h' s.heap.objs.size (fun j => decide (j ∈ xs)) ∧
          (∀ b o, s.heap.get? b = some o → h'.get? b = some o)) E) F.called_set.init.plain F.entry_set_init (check_set_init_1 hT ?_)) fun r₂ s₂ hr₂ => ?_
      · obtain ⟨ol, hol, hcl, nl, hdl⟩ := hl
        obtain ⟨ocls, odict, odata, oslots⟩ := ol
        simp only at hcl hdl
        subst hcl; subst hdl
        have hol' : (s.heap.push { cls := .type "set", dict := none, data := .set #[] 0 (.fresh 0 0 (!w.params.followText "set-order")) }).get? l = some { cls := .type "list", dict := odict, data := .seq items nl, slots := oslots } := Heap.get?_push_of_some _ hol
        have hsls := F.sub_list_set
        have hslf := F.sub_list_frozenset
        have hne : (Value.type "list" == Value.type "dict") = false := by decide
        have hl1 : (s.heap.push { cls := .type "set", dict := none, data := .set #[] 0 (.fresh 0 0 (!w.params.followText "set-order")) }).IsList l items := ⟨_, hol', rfl, nl, rfl⟩
        unfold Builtin.«set.__init__» noKeywords Builtin.Frozenset.updateFrom
        generalize hPI : pyIter = PI
        wp_walk
        subst hPI
        refine wpAny_pyIter_list hl1 ?_
        refine wpAny_bind (wpAny_runValue ?_)
        have hlS : l < s.heap.objs.size := Heap.lt_size hol
        have hh3 : A.in1.in1.in1.handled = none := by simp [hh]
        have hneI : l ≠ (s.heap.push { cls := .type "set", dict := none, data := .set #[] 0 (.fresh 0 0 (!w.params.followText "set-order")) }).objs.size := by
          rw [Heap.size_push]; exact Nat.ne_of_lt (Nat.lt_succ_of_lt hlS)
        have hSf : s.heap.objs.size ∉ [(s.heap.push { cls := .type "set", dict := none, data := .set #[] 0 (.fresh 0 0 (!w.params.followText "set-order")) }).objs.size, l] := by
          rw [Heap.size_push]; simp only [List.mem_cons, List.mem_singleton, List.not_mem_nil, or_false, not_or]
          exact ⟨Nat.ne_of_lt (Nat.lt_succ_self _), Nat.ne_of_gt hlS⟩
        have hval : ∀ (i : Nat) (v : Value), items[i]? = some v → ∃ k t, xs[i]? = some k ∧ v = .str k t := fun i v hv => by
          have hi : i < xs.length := by rw [← hisz]; exact (Array.getElem?_eq_some_iff.mp hv).1
          obtain ⟨t, e⟩ := SS.strs_at hit i v (by rw [Array.getElem?_toList]; exact hv)
          refine ⟨xs[i], t, List.getElem?_eq_getElem hi, ?_⟩
          rw [e, List.getD_eq_getElem?_getD, List.getElem?_eq_getElem hi] <;> rfl
        refine setS_loop ((Walks.list hh3 _ l hneI items).toS) s.heap.objs.size
          hSf xs hisz hb hval (items.size - 0) 0 _ (by omega) (Nat.zero_le _)
          ⟨⟨_, Heap.get?_push_size _ rfl, rfl, rfl⟩, (hl1.push _)⟩ ?hS0 ?hR
        case hS0 =>
          have hget : ((s.heap.push { cls := .type "set", dict := none, data := .set #[] 0 (.fresh 0 0 (!w.params.followText "set-order")) }).push { cls := .type "list_iterator", data := .fields #[.ref l, .int 0 0] }).get? s.heap.objs.size
              = some { cls := .type "set", dict := none, data := .set #[] 0 (.fresh 0 0 (!w.params.followText "set-order")) } := Heap.get?_push_of_some _ hS
          exact (setS_fresh hget).congr fun k => by simp
        case hR =>
          intro s' hm hS'
          obtain ⟨h', g2, d', tk', os'⟩ := s'
          have eg : g2 = s.gens := hm.gens
          have ed : d' = s.drawn := hm.drawn
          have eo : os' = s.os := hm.os
          subst eg; subst ed; subst eo
          show wpAny _ _ _ _ _ _
          refine wpAny_pure ?_
          show wpAny _ _ (ret Value.none) _ _ _
          refine wpAny_pure ⟨rfl, h', tk', rfl, hS', fun b o e => ?_⟩
          have hb0 : b < s.heap.objs.size := Heap.lt_size e
          have hb1 : b ≠ s.heap.objs.size := Nat.ne_of_lt hb0
          have hb2 : b ≠ (s.heap.push { cls := .type "set", dict := none, data := .set #[] 0 (.fresh 0 0 (!w.params.followText "set-order")) }).objs.size := by
            rw [Heap.size_push]; exact Nat.ne_of_lt (Nat.lt_succ_of_lt hb0)
          exact hm.heap b o (by simp only [List.mem_cons, List.mem_singleton, List.not_mem_nil, or_false, not_or]; exact ⟨hb1, hb2⟩) (Heap.get?_push_of_some _ (Heap.get?_push_of_some _ e))
      · cases r₂ with
        | error e => exact hr₂
        | ok fl₂ =>
          cases fl₂ with
          | ret r =>
            obtain ⟨rfl, h', tk, rfl, hS', hk'⟩ := hr₂
            repeat (any_goals (first | assumption | wp_step))
            exact h _ _ hS' hk'
          | _ => exact hr₂.elim
    | _ => exact hr.elim
theorem strsAre_vals : ∀ {l : List (Int × Value)}, (∀ e ∈ l, GoodTx P w e) → StrsAre (l.map (·.2)) (l.map keyS)
  | [], _ => .nil
  | e :: l, g => by
    obtain ⟨x, tk, h1, _⟩ := g e List.mem_cons_self
    have ih := strsAre_vals (l := l) fun u hu => g u (List.mem_cons_of_mem _ hu)
    rw [List.map_cons, List.map_cons, h1]
    have : keyS e = x := by unfold keyS; rw [h1]
    rw [this]
    exact .cons x tk ih
theorem strsAre_perm {us vs : List Value} (h : us.Perm vs) : ∀ {xs : List Str}, StrsAre vs xs → ∃ ys, StrsAre us ys ∧ ys.Perm xs := by
  induction h with
  | nil => intro xs hx; exact ⟨xs, hx, List.Perm.refl _⟩
  | cons v h ih =>
    intro xs hx
    cases hx with
    | cons y t hr =>
      obtain ⟨ys, h1, h2⟩ := ih hr
      exact ⟨y :: ys, .cons y t h1, h2.cons y⟩
  | swap a b l =>
    intro xs hx
    cases hx with
    | cons y t hr =>
      cases hr with
      | cons z u hr => exact ⟨z :: y :: _, .cons z u (.cons y t hr), List.Perm.swap _ _ _⟩
  | trans h1 h2 ih1 ih2 =>
    intro xs hx
    obtain ⟨ys, q1, q2⟩ := ih2 hx
    obtain ⟨zs, q3, q4⟩ := ih1 q1
    exact ⟨zs, q3, q4.trans q2⟩
/-- sorted(a set of texts) -/
theorem sorted_setS {Q : Value → Shared → Prop} {N : Nat} (R : SetS P w s.heap a S) (few : ∀ ys, Mems S ys → ys.length ≤ N) (hN : N < scanBound) (hh : A.handled = none)
    (hQ : ∀ s' p (out : Array Value) (c : Nat) (ys : List Str), (∀ b o, s.heap.get? b = some o → s'.heap.get? b = some o) → s'.gens = s.gens → s'.os = s.os → s.heap.objs.size ≤ p →
      s'.heap.get? p = some (seqObj "list" out c) → StrsAre out.toList ys → sortedS ys = true → Mems S ys → Q (.ref p) s') :
    wpAny (model P w) A (call (.builtin "sorted") [.ref a]) Q E s := by
  obtain ⟨o, es, ep, t, ho, hex, hd, g, nd, hm, hf, hr, hl⟩ := R
  have hn : es.size ≤ N := by
    have := few _ ⟨nd, fun k => (hm k).symm⟩
    rw [List.length_map, Array.length_toList] at this
    exact this
  refine Calls.call_function_entry kind_sorted plain_sorted entry_sorted (args_sorted1 _) ?_
  unfold Builtin.«sorted»
  refine wpAny_bind (m := checkCount "sorted" 1 1 _) (wpAny_pure ?_)
  refine wpAny_bind (collect_set (A := A.in1) hh ⟨o, ho, hex.1, hd⟩ hf (by omega) hr hl fun s1 vs k1 hz g1 o1 pm => ?_)
  obtain ⟨xs, hI, hp⟩ := strsAre_perm pm (strsAre_vals (P := P) (w := w) (l := es.toList) g)
  have hvl : vs.length ≤ N := by rw [pm.length_eq, List.length_map, Array.length_toList]; exact hn
  have hsc : scanBound ≤ sizeLine := by rw [sizeLine_eq]; decide
  refine wpAny_bind (wpAny_newList ?_ (by omega))
  have hoL : (s1.heap.push (seqObj "list" vs.toArray 0)).get? s1.heap.objs.size = some (seqObj "list" vs.toArray 0) := Heap.get?_push_size _ rfl
  refine wpAny_bind (wpAny_holding (wpAny_call_entry slot_list_sort ⟨_, hoL, rfl⟩ entry_list_sort
    (list_sort_treeKAny strKind_oneLt hoL hI.keysOf (fun v₁ v₂ rest e => keyKind_strs (by rw [← e]; exact hI)) (by omega) fun st' hp2 hs => ?_) (args_list_sort _)))
  obtain ⟨ys, q1, q2, q3⟩ := sorted_out_str hI hp2 hs
  obtain ⟨c, hc⟩ := sortedHeap_at (vs := vs) (out := (arrOf st').map (·.2)) hoL
  refine ⟨_, rfl, ?_⟩
  refine wpAny_pure ⟨_, rfl, hQ _ s1.heap.objs.size _ c ys (fun b u e => ?_) g1 o1 hz hc q1 q3 ⟨(q2.trans hp).nodup_iff.mpr nd, fun k => by rw [(q2.trans hp).mem_iff, ← hm k]⟩⟩
  have q := k1 b u e
  have hlt := Heap.lt_size q
  show (sortedHeap (s1.heap.push (seqObj "list" vs.toArray 0)) s1.heap.objs.size vs _).get? b = some u
  rw [sortedHeap_old (Nat.ne_of_lt hlt) (by rw [size_push']; exact Nat.lt_succ_of_lt hlt)]
  exact Heap.get?_push_of_some _ q
end
end Ev

end
section
set_option maxHeartbeats 2000000
namespace Ev
open PySem PySem.Spec PyProof.Rows L2

/-! ### texts in order, each once -/
def strs? : List D → Option (List Str)
  | [] => some []
  | .str x :: r => (strs? r).map (x :: ·)
  | _ => none
def dd : List Str → List Str
  | [] => []
  | w :: ws => if w ∈ ws then dd ws else w :: dd ws
theorem mem_dd (k : Str) : ∀ ws : List Str, k ∈ dd ws ↔ k ∈ ws
  | [] => Iff.rfl
  | w :: ws => by
    unfold dd
    split
    · rename_i h
      rw [mem_dd k ws, List.mem_cons]
      exact ⟨.inr, fun z => z.elim (fun e => e ▸ h) id⟩
    · rw [List.mem_cons, List.mem_cons, mem_dd k ws]
theorem nd_dd : ∀ ws : List Str, (dd ws).Nodup
  | [] => List.nodup_nil
  | w :: ws => by
    unfold dd
    split
    · exact nd_dd ws
    · rename_i h
      exact List.nodup_cons.mpr ⟨fun z => h ((mem_dd w ws).mp z), nd_dd ws⟩
theorem mems_len {xs ys : List Str} (h : Mems (fun j => decide (j ∈ xs)) ys) : ys.length = (dd xs).length := by
  have m : ∀ k, k ∈ ys ↔ k ∈ dd xs := fun k => by rw [h.2 k, mem_dd]; simp
  exact Nat.le_antisymm (nodup_len ys (dd xs) h.1 fun y hy => (m y).mp hy) (nodup_len (dd xs) ys (nd_dd xs) fun y hy => (m y).mpr hy)
theorem mems_perm {xs ys : List Str} (h : Mems (fun j => decide (j ∈ xs)) ys) : ys.Perm (dd xs) :=
  (List.perm_ext_iff_of_nodup h.1 (nd_dd xs)).mpr fun k => by rw [h.2 k, mem_dd]; simp
/-- a text is no greater -/
def leS (a b : Str) : Prop := ¬ b.cps.toList < a.cps.toList
instance (a b : Str) : Decidable (leS a b) := inferInstanceAs (Decidable (¬ _))
def sortT (ws : List Str) : List Str := ws.mergeSort fun a b => decide (leS a b)
theorem leS_trans {a b c : Str} (h1 : leS a b) (h2 : leS b c) : leS a c := fun h => by
  rcases (show b.cps.toList < a.cps.toList ∨ c.cps.toList < b.cps.toList from by
    by_cases hab : c.cps.toList < b.cps.toList
    · exact .inr hab
    · exact .inl (List.lt_of_le_of_lt (List.not_lt.mp hab) h)) with z | z
  · exact h1 z
  · exact h2 z
theorem leS_anti {a b : Str} (h1 : leS a b) (h2 : leS b a) : a = b := by
  have e := List.le_antisymm (List.not_lt.mp h1) (List.not_lt.mp h2)
  cases a; cases b
  simp only [Str.mk.injEq]
  exact Array.toList_inj.mp e
theorem leS_total (a b : Str) : leS a b ∨ leS b a := by
  by_cases h : leS a b
  · exact .inl h
  · refine .inr fun z => ?_
    have h : b.cps.toList < a.cps.toList := Decidable.not_not.mp h
    exact List.lt_irrefl _ (List.lt_trans h z)
theorem sortT_perm (ws : List Str) : (sortT ws).Perm ws := List.mergeSort_perm _ _
theorem sortT_sorted (ws : List Str) : (sortT ws).Pairwise leS := by
  have := List.pairwise_mergeSort (le := fun (a b : Str) => decide (leS a b)) (fun a b c h1 h2 => by simp only [decide_eq_true_eq] at *; exact leS_trans h1 h2) (fun a b => by
    rcases leS_total a b with h | h <;> simp [h]) ws
  exact this.imp fun h => by simpa using h
theorem sortT_is {ws ys : List Str} (hp : ys.Perm ws) (hs : ys.Pairwise leS) : ys = sortT ws :=
  (hp.trans (sortT_perm ws).symm).eq_of_pairwise (fun x y _ _ h1 h2 => leS_anti h1 h2) hs (sortT_sorted ws)
theorem rising_le : ∀ (xs : List Str) (p : Str), risingS p xs = true → (p :: xs).Pairwise leS
  | [], p, _ => List.pairwise_singleton _ _
  | x :: xs, p, h => by
    have h' : (!ltCps x.cps.toList p.cps.toList && risingS x xs) = true := h
    rw [Bool.and_eq_true] at h'
    have px : leS p x := fun z => by
      have q := ltCps_eq x.cps.toList p.cps.toList
      rw [decide_eq_true z] at q
      rw [q] at h'
      exact absurd h'.1 (by decide)
    have ih := rising_le xs x h'.2
    refine List.pairwise_cons.mpr ⟨fun y hy => ?_, ih⟩
    rcases List.mem_cons.mp hy with rfl | hy
    · exact px
    · exact leS_trans px ((List.pairwise_cons.mp ih).1 y hy)
theorem sortedS_le {ys : List Str} (h : sortedS ys = true) : ys.Pairwise leS := by
  cases ys with
  | nil => exact List.Pairwise.nil
  | cons x xs => exact rising_le xs x h
theorem strs_reps {c : Cn} {H : Hp} : ∀ {vs : List V} {ds : List D} {ws : List Str}, Reps c H vs ds → strs? ds = some ws → vs = ws.map V.str
  | _, _, _, .nil, e => by cases e; rfl
  | _, d :: ds, ws, .cons h r, e => by
    cases d with
    | str i =>
      simp only [strs?, Option.map_eq_some_iff] at e
      obtain ⟨ms, e1, rfl⟩ := e
      cases h
      rw [strs_reps r e1, List.map_cons]
    | _ => simp [strs?] at e
theorem strs_back {c : Cn} {H : Hp} : ∀ ws : List Str, Reps c H (ws.map V.str) (ws.map D.str)
  | [] => .nil
  | w :: ws => .cons (.str w) (strs_back ws)
section
variable {X : Cx} {p p2 q pos : Pos} {a : Expr} {ta : TE}
def tLenSS (K : PySem.W.Frag) (ta : TE) : TE := fun σ H Q => ta σ H fun x H1 => ∃ l, ∃ xs : List Str, x = .ref l ∧ SqL K H1 l (xs.map V.str) ∧ xs.length + 1 < scanBound ∧ Q (.int (dd xs).length) H1
theorem pe_lenSS (hc : X.calm = true) (hg : Gl X "len") (hm : X.mg "len" = none) (hg2 : Gl X "set") (hm2 : X.mg "set" = none) (ha : PE X a ta)
    (na : starEach [a] X.env = (false, eval a X.env) :: starEach [] X.env) : PE X (.Call (.Name "len" p) [.Call (.Name "set" p2) [a] [] q] [] pos) (tLenSS X.K ta) := by
  refine ⟨fun pins s σ H Q I h => ?_⟩
  refine Call_ (ld_blt I hg hm boot_len ?_)
  refine PyProof.Rows.callWith_builtin1 (PyProof.Rows.args_cons ?_ rfl) rfl rfl
  refine Call_ (ld_blt I hg2 hm2 PyProof.Rows.boot_set ?_)
  refine PyProof.Rows.callWith_type1 (PyProof.Rows.args_cons (thn (ha.run pins s σ H _ I h) fun v s1 ⟨x, H1, I1, r1, q1⟩ => PyProof.Rows.args_nil ?_) na) na rfl
  obtain ⟨l, xs, rfl, hq, h1, q1⟩ := q1
  cases r1
  obtain ⟨its, r, pl, hz⟩ := I1.list hq
  refine call_setS xs (I1.ok.hd hc) pl.isList (by simpa using strsAre_of r) h1 fun h' tk hS hk => ?_
  refine PyProof.Rows.args_nil ?_
  obtain ⟨o, es, ep, t, ho, hex, hd, g, nd, hms, hf, _⟩ := hS
  have ml : es.size = (dd xs).length := by
    have := mems_len (xs := xs) (ys := es.toList.map keyS) ⟨nd, fun k => (hms k).symm⟩
    rw [List.length_map, Array.length_toList] at this
    exact this
  have le : (dd xs).length ≤ xs.length := nodup_len _ _ (nd_dd xs) fun y hy => (mem_dd y xs).mp hy
  have sb : scanBound = 4096 := rfl
  have I2 : Inv X pins σ H1 { s1 with heap := h', toks := tk } := I1.kept fun b o e => hk b o e
  refine call_len_set ho hex hd hf (by rw [ml]; omega) ⟨.int (dd xs).length, H1, I2.tok _, ⟨_, by rw [ml]⟩, q1⟩
def tSortSS (K : PySem.W.Frag) (ta : TE) : TE := fun σ H Q => ta σ H fun x H1 => ∃ l, ∃ xs : List Str, x = .ref l ∧ SqL K H1 l (xs.map V.str) ∧ xs.length + 1 < scanBound ∧ ∀ p, H1 p = none → Q (.ref p) (upd H1 p (.lst ((sortT (dd xs)).map V.str)))
theorem pe_sortSS (hc : X.calm = true) (hg : Gl X "sorted") (hm : X.mg "sorted" = none) (hg2 : Gl X "set") (hm2 : X.mg "set" = none) (ha : PE X a ta)
    (na : starEach [a] X.env = (false, eval a X.env) :: starEach [] X.env) : PE X (.Call (.Name "sorted" p) [.Call (.Name "set" p2) [a] [] q] [] pos) (tSortSS X.K ta) := by
  refine ⟨fun pins s σ H Q I h => ?_⟩
  refine Call_ (ld_blt I hg hm PyProof.Rows.boot_sorted ?_)
  refine PyProof.Rows.callWith_builtin1 (PyProof.Rows.args_cons ?_ rfl) rfl rfl
  refine Call_ (ld_blt I hg2 hm2 PyProof.Rows.boot_set ?_)
  refine PyProof.Rows.callWith_type1 (PyProof.Rows.args_cons (thn (ha.run pins s σ H _ I h) fun v s1 ⟨x, H1, I1, r1, q1⟩ => PyProof.Rows.args_nil ?_) na) na rfl
  obtain ⟨l, xs, rfl, hq, h1, q1⟩ := q1
  cases r1
  obtain ⟨its, r, pl, hz⟩ := I1.list hq
  refine call_setS xs (I1.ok.hd hc) pl.isList (by simpa using strsAre_of r) h1 fun h' tk hS hk => ?_
  refine PyProof.Rows.args_nil ?_
  have le : (dd xs).length ≤ xs.length := nodup_len _ _ (nd_dd xs) fun y hy => (mem_dd y xs).mp hy
  have I2 : Inv X pins σ H1 { s1 with heap := h', toks := tk } := I1.kept fun b o e => hk b o e
  have hS2 : SetS X.prog X.w ({ s1 with heap := h', toks := tk } : Shared).heap s1.heap.objs.size (fun j => decide (j ∈ xs)) := hS
  generalize ({ s1 with heap := h', toks := tk } : Shared) = s2 at I2 hS2 ⊢
  refine sorted_setS (N := xs.length) hS2 (fun ys hy => by rw [mems_len hy]; exact le) (by omega) (I2.ok.hd hc) fun s' b out cc ys k g o hp hget hi hs hmm => ?_
  have ey : ys = sortT (dd xs) := sortT_is (mems_perm hmm) (sortedS_le hs)
  subst ey
  have lh : (sortT (dd xs)).length = (dd xs).length := (sortT_perm _).length_eq
  have hlen : ((sortT (dd xs)).map V.str).length ≤ sizeLine := by
    have sb : scanBound = 4096 := rfl
    rw [List.length_map, lh, sizeLine_eq]
    omega
  have hn : H1 b = none := I2.hok.fresh hp
  have J : Inv X pins σ (upd H1 b (.lst ((sortT (dd xs)).map V.str))) { s2 with heap := s'.heap, gens := s'.gens, drawn := s'.drawn, toks := s'.toks } :=
    I2.call (ch := []) (Un.laid k hp hn) (I2.hok.laid k hp ⟨hlen, out.toList, cc, vals_of_strs hi, hget⟩) (by rw [g]; exact I2.bare) (fun _ z => nomatch z)
  have e : s' = { s2 with heap := s'.heap, gens := s'.gens, drawn := s'.drawn, toks := s'.toks } := by
    cases s'
    cases s2
    cases o
    rfl
  rw [e]
  exact ⟨.ref b, _, J, rfl, q1 b hn⟩
variable {c : Cn} {W : WX} {fa : En → R D}
/-- len(set(xs)), xs a list of texts -/
def lenSS : D → Option D
  | .lst ds => (strs? ds).bind fun ws => if ws.length + 1 < 4096 then some (.int (dd ws).length) else none
  | _ => none
def sortSS : D → Option (List D)
  | .lst ds => (strs? ds).bind fun ws => if ws.length + 1 < 4096 then some ((sortT (dd ws)).map .str) else none
  | _ => none
theorem s_lenSS (hK : X.K = c.K) (hc : X.calm = true) (hg : Gl X "len") (hm : X.mg "len" = none) (hg2 : Gl X "set") (hm2 : X.mg "set" = none) (hn : noStar a = true) (ha : PE X a (tL c W fa)) :
    PE X (.Call (.Name "len" p) [.Call (.Name "set" p2) [a] [] q] [] pos) (tE c W fun ρ => (fa ρ).bind fun x ρ1 => R.lift (lenSS x) ρ1) := by
  refine pe_of (pe_lenSS hc hg hm hg2 hm2 ha (star_cons hn)) fun σ H Q h => ?_
  refine tG.seq h fun pin Z d ρ1 x H1 Hf1 S1 r1 h1 => ?_
  cases d <;> try exact h1.elim
  rename_i ds
  obtain ⟨b, vs, rfl, hp, r⟩ := relL.seq (X := X) hK S1.f r1
  dsimp only [lenSS] at h1
  cases hs : strs? ds with
  | none => rw [hs] at h1; exact h1.elim
  | some ws =>
    rw [hs, Option.bind_some] at h1
    split at h1
    · rename_i hl
      have e := strs_reps r hs
      subst e
      exact ⟨_, ws, rfl, SqL.of hp, hl, h1 _ _ _ (Same.refl _) S1 (.int _)⟩
    · exact h1.elim
theorem s_sortSS (hK : X.K = c.K) (hc : X.calm = true) (hg : Gl X "sorted") (hm : X.mg "sorted" = none) (hg2 : Gl X "set") (hm2 : X.mg "set" = none) (hn : noStar a = true) (ha : PE X a (tL c W fa)) :
    PE X (.Call (.Name "sorted" p) [.Call (.Name "set" p2) [a] [] q] [] pos) (tF c W fun ρ => (fa ρ).bind fun x ρ1 => R.lift (sortSS x) ρ1) := by
  refine pe_of (pe_sortSS hc hg hm hg2 hm2 ha (star_cons hn)) fun σ H Q h => ?_
  refine tG.seq h fun pin Z d ρ1 x H1 Hf1 S1 r1 h1 => ?_
  cases d <;> try exact h1.elim
  rename_i ds
  obtain ⟨b, vs, rfl, hp, r⟩ := relL.seq (X := X) hK S1.f r1
  dsimp only [sortSS] at h1
  cases hs : strs? ds with
  | none => rw [hs] at h1; exact h1.elim
  | some ws =>
    rw [hs, Option.bind_some] at h1
    split at h1
    · rename_i hl
      have e := strs_reps r hs
      subst e
      refine ⟨_, ws, rfl, SqL.of hp, hl, fun b2 hb => ?_⟩
      exact h1 _ _ _ (Same.refl _) (S1.new hb) ⟨b2, _, rfl, upd_same, S1.f.free hb, S1.z.free hb, S1.away_new hb, strs_back _⟩
    · exact h1.elim
end
end Ev

end
section
set_option maxHeartbeats 2000000
namespace Ev
open PySem PySem.Spec PyProof.Rows L2
section
variable {X : Cx} {c : Cn} {W : WX} {p pos : Pos} {a b e : Expr} {fa fb fe : En → R D}
/-! ### sorted(d), its keys texts -/
def keyTs : List Key → Option (List Str)
  | [] => some []
  | .inr x :: ks => (keyTs ks).map (x :: ·)
  | _ => none
theorem keyTs_is : ∀ {ks : List Key} {ws : List Str}, keyTs ks = some ws → ks = ws.map Sum.inr
  | [], _, h => by cases h; rfl
  | .inr x :: ks, ws, h => by
    simp only [keyTs, Option.map_eq_some_iff] at h
    obtain ⟨us, h1, rfl⟩ := h
    rw [keyTs_is h1]; rfl
  | .inl _ :: _, _, h => by cases h
/-- .. of any size -/
theorem call_sortT (cm : X.calm = true) : CallR X (.builtin "sorted") (fun us H Q => ∃ (d : Addr) (kws : List (Key × V)) (ws : List Str), us = [.ref d] ∧ Rd H d (.dK kws) ∧ kws.map (·.1) = ws.map Sum.inr ∧ ws.length < 65536 ∧
    ∀ zs q, zs.Perm ws → sortedS zs = true → H q = none → Q (.ref q) (upd H q (.lst (zs.map V.str)))) := by
  intro pns sh τ H ls vs Q J rv ⟨d, kws, ws, el, rd, ek, few, go⟩
  subst el
  obtain ⟨v0, rfl, r0⟩ := vals1 rv
  cases r0
  obtain ⟨_, lo, es, rl, dat⟩ := dk_rd J.hok rd
  obtain ⟨ep, dat⟩ := dat.dictAt
  have kk : es.map (·.1) = ws.map Sum.inr := rl.keys.symm.trans ek
  have el : es.length = ws.length := by
    have := congrArg List.length kk
    simpa using this
  have sz : es.length ≤ sizeLine := by rw [sizeLine_eq]; omega
  refine Calls.call_function_entry kind_sorted plain_sorted entry_sorted (args_sorted1 _) ?_
  unfold Builtin.«sorted»
  refine wpAny_bind (m := checkCount "sorted" 1 1 _) (wpAny_pure ?_)
  refine wpAny_bind (PySem.W.kdu_collect (A := X.A.in1) (PySem.W.kdl_dict (ep := ep) (kvs := es) (knd := mixKind X.prog X.w) lo) (J.ok.hd cm) dat sz fun hp tks got keep gk => ?_)
  have gl : got.toList.length = ws.length := by rw [Array.length_toList, gk.1, el]
  have gs : StrsAre got.toList ws := by
    refine strs_at gl fun i v e => ?_
    obtain ⟨k, x, e1, e2⟩ := gk.2 i v (by rw [← Array.getElem?_toList]; exact e)
    have e3 : (es.map (·.1))[i]? = some k := by rw [List.getElem?_map, e1]; rfl
    rw [kk, List.getElem?_map] at e3
    cases e4 : ws[i]? with
    | none => rw [e4] at e3; simp at e3
    | some y =>
      rw [e4] at e3
      simp at e3
      subst e3
      obtain ⟨t, ev⟩ := Value.isStrOf_shape (v := v) (x := y) e2
      exact ⟨y, t, rfl, ev⟩
  have J1 : Inv X pns τ H { sh with heap := hp, toks := tks } := J.kept keep
  refine wpAny_bind (wpAny_newList ?_ (by rw [gl, sizeLine_eq]; omega))
  have nw : (hp.push (seqObj "list" got.toList.toArray 0)).get? hp.objs.size = some (seqObj "list" got.toList.toArray 0) := Heap.get?_push_size _ rfl
  show wpAny _ _ _ _ _ { sh with heap := hp.push (seqObj "list" got.toList.toArray 0), toks := tks }
  refine wpAny_bind (wpAny_holding (wpAny_call_entry slot_list_sort ⟨_, nw, rfl⟩ entry_list_sort
    (list_sort_treeKAny strKind_oneLt (s := { sh with heap := hp.push (seqObj "list" got.toList.toArray 0), toks := tks }) nw gs.keysOf (fun _ _ _ e => keyKind_strs (by rw [← e]; exact gs)) (by rw [gl, sizeLine_eq]; omega) fun st pm so => ⟨_, rfl, ?_⟩) (args_list_sort _)))
  obtain ⟨zs, z1, z2, z3⟩ := sorted_out_str gs pm so
  obtain ⟨cn, hcn⟩ := sortedHeap_at (out := (arrOf st).map (·.2)) (vs := got.toList) nw
  have zl : (zs.map V.str).length ≤ sizeLine := by rw [List.length_map, z2.length_eq, sizeLine_eq]; omega
  refine wpAny_pure ⟨_, rfl, .ref hp.objs.size, upd H hp.objs.size (.lst (zs.map V.str)), ?_, rfl, go zs _ z2 z3 (J1.hok.fresh (Nat.le_refl _))⟩
  refine J1.laid (t' := tks) (fun b u e => ?_) (Nat.le_refl _) (show ObjOk X.prog X.w _ _ _ (.lst (zs.map V.str)) from ⟨zl, ((arrOf st).map (·.2)).toList, cn, vals_of_strs z1, by rw [Array.toArray_toList]; exact hcn⟩)
  have lt := Heap.lt_size e
  rw [sortedHeap_old (Nat.ne_of_lt lt) (by rw [size_push']; exact Nat.lt_succ_of_lt lt)]
  exact Heap.get?_push_of_some _ e
def sortKD : D → Option (List D)
  | .dK ks _ => (keyTs ks).bind fun ws => if ws.length < 65536 then some ((sortT ws).map .str) else none
  | _ => none
theorem s_sortK (hc : X.calm = true) (hg : Gl X "sorted") (hm : X.mg "sorted" = none) (hn : noStar a = true) (ha : PE X a (tE c W fa)) :
    PE X (.Call (.Name "sorted" p) [a] [] pos) (tF c W fun ρ => (fa ρ).bind fun x ρ1 => R.lift (sortKD x) ρ1) := by
  refine pe_of (pe_callB (call_sortT hc) hg hm (by decide +kernel) (pa_cons ha pa_nil (star_cons hn)) (by decide) (by decide) (star_cons hn) rfl) fun σ H Q h => ?_
  refine tG.seq h fun pin Z d ρ1 x H1 Hf1 S1 r1 h1 => ?_
  cases d <;> try exact h1.elim
  rename_i ks xs
  dsimp only [sortKD] at h1
  cases hs : keyTs ks with
  | none => rw [hs] at h1; exact h1.elim
  | some ws =>
    rw [hs, Option.bind_some] at h1
    split at h1
    · rename_i hl
      cases r1 with
      | dK hp r =>
        refine ⟨_, _, ws, rfl, .inr ⟨_, S1.f _ _ hp⟩, keyTs_is hs, hl, fun ys q hperm hso hq => ?_⟩
        have ey : ys = sortT ws := sortT_is hperm (sortedS_le hso)
        subst ey
        exact h1 _ _ _ (Same.refl _) (S1.new hq) ⟨q, _, rfl, upd_same, S1.f.free hq, S1.z.free hq, S1.away_new hq, strs_back _⟩
    · exact h1.elim
/-! ### max(a, b, c) -/
def max3 : D → D → D → Option D
  | .int i, .int j, .int k => some (.int (max (max i j) k))
  | _, _, _ => none
theorem s_max3 (hc : X.calm = true) (hg : Gl X "max") (hm : X.mg "max" = none) (hn : noStar a = true) (hn2 : noStar b = true) (hn3 : noStar e = true) (ha : PE X a (tE c W fa)) (hb : PE X b (tE c W fb)) (he : PE X e (tE c W fe)) :
    PE X (.Call (.Name "max" p) [a, b, e] [] pos) (tE c W fun ρ => (fa ρ).bind fun x ρ1 => (fb ρ1).bind fun y ρ2 => (fe ρ2).bind fun z ρ3 => R.lift (max3 x y z) ρ3) := by
  have pa : PA X [a, b, e] (tCons (tE c W fa) (tCons (tE c W fb) (tCons (tE c W fe) tNil))) := pa_cons ha (pa_cons hb (pa_cons he pa_nil (star_cons hn3)) (star_cons hn2)) (star_cons hn)
  have hpl : (backTo pos (starEach [b, e] X.env)).any (·.1) = false := by rw [star_cons hn2, star_cons hn3]; rfl
  refine pe_of (pe_callB (call_max3Nu hc) hg hm (by decide +kernel) pa (by decide) (by decide) (star_cons hn) hpl) fun σ H Q h => ?_
  refine tG.seq h fun pin Z d ρ1 x H1 Hf1 S1 r1 h1 => ?_
  refine ⟨pin, Z, ρ1, Hf1, S1, Go.seq h1 fun d2 ρ2 y H2 Hf2 s2 S2 r2 h2 => ?_⟩
  refine ⟨pin, Z, ρ2, Hf2, S2, Go.seq h2 fun d3 ρ3 z H3 Hf3 s3 S3 r3 h3 => ?_⟩
  cases d <;> cases d2 <;> cases d3 <;> try exact h3.elim
  rename_i i j k
  cases r1; cases r2; cases r3
  have e1 : nuMax2 (.int i) (.int j) = some (.int (max i j)) := by
    show some (if decide (i < j) = true then V.int j else V.int i) = _
    by_cases h : i < j
    · rw [if_pos (decide_eq_true h), Int.max_eq_right (Int.le_of_lt h)]
    · rw [decide_eq_false h, if_neg Bool.false_ne_true, Int.max_eq_left (by omega)]
  have e2 : nuMax2 (.int (max i j)) (.int k) = some (.int (max (max i j) k)) := by
    show some (if decide (max i j < k) = true then V.int k else V.int (max i j)) = _
    by_cases h : max i j < k
    · rw [if_pos (decide_eq_true h), Int.max_eq_right (a := max i j) (b := k) (Int.le_of_lt h)]
    · rw [decide_eq_false h, if_neg Bool.false_ne_true, Int.max_eq_left (a := max i j) (b := k) (Int.not_lt.mp h)]
  refine ⟨_, _, _, _, rfl, ?_, h3 _ _ _ (Same.refl _) S3 (.int _)⟩
  show (nuMax2 _ _).bind _ = _
  rw [e1, Option.bind_some, e2]
/-! ### sorted(xs), xs pairs of whole numbers -/
abbrev P2 := Int × Int
def pr2 (q : P2) : D := .tup [.int q.1, .int q.2]
def prs? : List D → Option (List P2)
  | [] => some []
  | .tup [.int i, .int j] :: r => (prs? r).map ((i, j) :: ·)
  | _ => none
def leP (a b : P2) : Prop := ¬ (b.1 < a.1 ∨ (b.1 = a.1 ∧ b.2 < a.2))
instance (a b : P2) : Decidable (leP a b) := inferInstanceAs (Decidable (¬ _))
def sortP (ws : List P2) : List P2 := ws.mergeSort fun a b => decide (leP a b)
theorem leP_trans {a b c : P2} (h1 : leP a b) (h2 : leP b c) : leP a c := by unfold leP at *; omega
theorem leP_anti {a b : P2} (h1 : leP a b) (h2 : leP b a) : a = b := by
  unfold leP at *
  exact Prod.ext (by omega) (by omega)
theorem leP_total (a b : P2) : leP a b ∨ leP b a := by unfold leP; omega
theorem sortP_perm (ws : List P2) : (sortP ws).Perm ws := List.mergeSort_perm _ _
theorem sortP_sorted (ws : List P2) : (sortP ws).Pairwise leP := by
  have := List.pairwise_mergeSort (le := fun (a b : P2) => decide (leP a b)) (fun a b c h1 h2 => by simp only [decide_eq_true_eq] at *; exact leP_trans h1 h2) (fun a b => by
    rcases leP_total a b with h | h <;> simp [h]) ws
  exact this.imp fun h => by simpa using h
theorem sortP_is {ws ys : List P2} (hp : ys.Perm ws) (hs : ys.Pairwise leP) : ys = sortP ws :=
  (hp.trans (sortP_perm ws).symm).eq_of_pairwise (fun x y _ _ h1 h2 => leP_anti h1 h2) hs (sortP_sorted ws)
theorem prs_map (ws : List P2) : prs? (ws.map pr2) = some ws := by
  induction ws with
  | nil => rfl
  | cons w ws ih => show (prs? (ws.map pr2)).map _ = _; rw [ih]; rfl
theorem prs_is : ∀ {ds : List D} {ws : List P2}, prs? ds = some ws → ds = ws.map pr2
  | [], _, h => by cases h; rfl
  | d :: ds, ws, h => by
    cases d with
    | tup xs =>
      match xs, h with
      | [.int i, .int j], h =>
        have h : (prs? ds).map ((i, j) :: ·) = some ws := h
        simp only [Option.map_eq_some_iff] at h
        obtain ⟨us, h1, rfl⟩ := h
        rw [prs_is h1]; rfl
    | _ => simp [prs?] at h
def kOf (Hf : Hp) : V → P2
  | .ref t => match Hf t with
    | some (.tup [.int i, .int j]) => (i, j)
    | _ => (0, 0)
  | _ => (0, 0)
def IsP (Hf : Hp) (v : V) : Prop := ∃ t, v = .ref t ∧ Hf t = some (.tup [.int (kOf Hf v).1, .int (kOf Hf v).2])
theorem rep_pair {Hf : Hp} {v : V} {q : P2} (r : Rep c Hf v (pr2 q)) : IsP Hf v ∧ kOf Hf v = q := by
  unfold pr2 at r
  cases r with
  | tup h rs =>
    rename_i t us
    cases rs with
    | cons r1 rs =>
      cases rs with
      | cons r2 rs =>
        cases rs
        cases r1
        cases r2
        have e : kOf Hf (.ref t) = q := by
          show (match Hf t with | some (.tup [.int i, .int j]) => (i, j) | _ => (0, 0)) = q
          rw [h]
        exact ⟨⟨t, rfl, by rw [e]; exact h⟩, e⟩
theorem reps_pairs {Hf : Hp} : ∀ {vs : List V} {ws : List P2}, Reps c Hf vs (ws.map pr2) → (∀ v ∈ vs, IsP Hf v) ∧ vs.map (kOf Hf) = ws
  | _, [], .nil => ⟨fun v h => (by cases h), rfl⟩
  | _, q :: ws, .cons r rs => by
    obtain ⟨h1, h2⟩ := rep_pair r
    obtain ⟨h3, h4⟩ := reps_pairs rs
    refine ⟨fun v hv => ?_, by rw [List.map_cons, h2, h4]⟩
    rcases List.mem_cons.mp hv with rfl | hv
    · exact h1
    · exact h3 v hv
theorem pairs_back {Hf : Hp} : ∀ {ys : List V}, (∀ v ∈ ys, IsP Hf v) → Reps c Hf ys (ys.map fun v => pr2 (kOf Hf v))
  | [], _ => .nil
  | y :: ys, h => by
    obtain ⟨t, e, ht⟩ := h y List.mem_cons_self
    refine .cons ?_ (pairs_back fun v hv => h v (List.mem_cons_of_mem _ hv))
    have r : Rep c Hf (.ref t) (pr2 (kOf Hf y)) := .tup ht (.cons (.int _) (.cons (.int _) .nil))
    rw [← e] at r
    exact r
def sortPD : D → Option (List D)
  | .lst ds => (prs? ds).map fun ws => (sortP ws).map pr2
  | _ => none
theorem s_sortP (hK : X.K = c.K) (hg : Gl X "sorted") (hm : X.mg "sorted" = none) (hn : noStar a = true) (ha : PE X a (tL c W fa)) :
    PE X (.Call (.Name "sorted" p) [a] [] pos) (tF c W fun ρ => (fa ρ).bind fun x ρ1 => R.lift (sortPD x) ρ1) := by
  refine pe_of (pe_callB cr_sortedPO hg hm (by decide +kernel) (pa_cons ha pa_nil (star_cons hn)) (by decide) (by decide) (star_cons hn) rfl) fun σ H Q h => ?_
  refine tG.seq h fun pin Z d ρ1 x H1 Hf1 S1 r1 h1 => ?_
  cases d <;> try exact h1.elim
  rename_i ds
  obtain ⟨b, vs, rfl, hp, r⟩ := relL.seq (X := X) hK S1.f r1
  dsimp only [sortPD] at h1
  cases hs : prs? ds with
  | none => rw [hs] at h1; exact h1.elim
  | some ws =>
    rw [hs, Option.map_some] at h1
    have e := prs_is hs
    subst e
    obtain ⟨q1, q2⟩ := reps_pairs r
    refine ⟨_, vs, kOf Hf1, rfl, SqL.of hp, fun v hv => ?_, fun ys g hso hst hq => ?_⟩
    · obtain ⟨t, e1, e2⟩ := q1 v hv
      exact ⟨t, e1, S1.f _ _ e2⟩
    · have hy : ∀ v ∈ ys, IsP Hf1 v := fun v hv => q1 v (hst.perm.mem_iff.mp hv)
      have pw : (ys.map (kOf Hf1)).Pairwise leP := by
        rw [List.pairwise_map]
        exact hso.imp fun z => SrtO.lexB_no.mp z
      have ey : ys.map (kOf Hf1) = sortP ws := sortP_is (by rw [← q2]; exact hst.perm.map _) pw
      have rb := pairs_back (c := c) hy
      rw [show (ys.map fun v => pr2 (kOf Hf1 v)) = (ys.map (kOf Hf1)).map pr2 by rw [List.map_map]; rfl, ey] at rb
      exact h1 _ _ _ (Same.refl _) (S1.new hq) ⟨g, _, rfl, upd_same, S1.f.free hq, S1.z.free hq, S1.away_new hq, rb⟩
end
end Ev

end
section
set_option maxHeartbeats 4000000
namespace Ev
open PySem PySem.Spec PyProof.Rows L2

/-! ### texts -/
inductive Con where
  | non | bl (b : Bool) | int (i : Int) | str (x : Str)
def Con.d : Con → D
  | .non => .non | .bl b => .bl b | .int i => .int i | .str x => .str x
def Con.v : Con → V
  | .non => .non | .bl b => .bl b | .int i => .int i | .str x => .str x
def Con.cst : Con → Const
  | .non => .none | .bl b => .bool b | .int i => .int i | .str x => .str x
mutual
inductive E where
  | con (k : Con) | glo (k : Con) | var (i : Nat)
  | bin (op : Operator) (a b : E) | neg (a : E) | not (a : E)
  | cmp (op : CmpOp) (a b : E) | chn (op op' : CmpOp) (a b e : E)
  | ife (t : B) (a b : E) | and (v : Vs) | or (v : Vs)
  | tup (es : A) | fr (f : F)
  | ix (a b : E) | ixV (i : Nat) (b : E) | sl (a : E) (lo hi : O) | slV (i : Nat) (lo hi : O)
  | b1 (f : B1) (a : L) | b2 (f : B2) (a b : E) | isi (t : Ty) (a : L)
  | call (k n : Nat) (es : A) | callM (k n i : Nat) (es : A) | callX (ks : List Nat) (n : Nat) (ix : E) (es : A)
  | pop (i : Nat) | popAt (i : Nat) (e : E)
  | isin (neg : Bool) (a : E) (l : L) | frD (g : Gm) | cmpV (op : CmpOp) (i : Nat) (b : E) | callMO (k i j : Nat) | lenSS (a : L) | max3 (a b e : E)
inductive L where
  | lk (i : Nat) | vl (e : E)
inductive Vs where
  | one (e : E) | more (e : E) (v : Vs)
inductive B where
  | cmp (op : CmpOp) (a b : E) | chn (op op' : CmpOp) (a b e : E)
  | and (w : Ws) | or (w : Ws) | not (b : B) | tr (a : L) | isin (neg : Bool) (a : E) (l : L) | cmpV (op : CmpOp) (i : Nat) (b : E)
inductive Ws where
  | one (b : B) | more (b : B) (w : Ws)
inductive O where
  | no | so (e : E)
inductive A where
  | nil | cons (e : E) (es : A)
inductive F where
  | lst (es : A) | listOf (a : L) | listRev (a : L) | rg1 (a : E) | rg2 (a b : E) | sorted (a : L)
  | cat (a b : E) | rep (a b : E) | comp (tg : Tg) (it : I) (t : Cd) (e : E) (vs : List Nat) | call (k n : Nat) (es : A) | mov (i : Nat) | lstS (es : As) | sortSS (a : L) | sortK (a : E) | sortP (a : L)
inductive As where
  | nil | cons (e : E) (es : As) | star (e : E) (es : As)
inductive Gm where
  | new (t : Bool) | comp (t : Bool) (tg : Tg) (it : I) (cd : Cd) (k v : E) (vs : List Nat)
inductive Cd where
  | no | one (b : B)
inductive I where
  | sq (a : E) | r1 (a : E) | r2 (a b : E) | r3 (a b e : E) | zip (a b : E) | enum (a : E) | rev (a : E)
end
inductive P where
  | nil | cE (e : E) (p : P) | cF (f : F) (p : P) | cD (g : Gm) (p : P)
mutual
inductive S where
  | pass | brk | cnt | ret (e : E) | retF (f : F) | retN | ife (t : B) (a b : Ss)
  | asg (i : Nat) (e : E) | asgF (i : Nat) (f : F) | asgT (tg : Tg) (e : E) | own (i : Nat) (f : F) | aug (op : Operator) (i : Nat) (e : E)
  | app (i : Nat) (e : E) | ext (i : Nat) (e : E) | setI (i : Nat) (b e : E) | putI (i : Nat) (b e : E) | ownD (i : Nat) (g : Gm)
  | for (tg : Tg) (it : I) (b : Ss) | whl (n : Nat) (t : B) (b : Ss) | expr (e : E) | doc | rse (k : Nat) | par (is : List Nat) (p : P)
  | tri (nC : Nat) (b : Ss) (hs : List (Nat × Con)) | trn (nC i k j : Nat) (s0 s1 : Str) (b : Ss)
inductive Ss where
  | nil | cons (s : S) (r : Ss)
end

/-! ### what they reckon -/
/-- the defs, by number -/
structure Gs where
  dD : Nat → List D → Cr D
  dM : Nat → List D → List D → Cr (D × List D)
  dF : Nat → List D → Cr (List D)
mutual
def evE (G : Gs) : E → En → R D
  | .con k => fun ρ => .ok k.d ρ
  | .glo k => fun ρ => .ok k.d ρ
  | .var i => fun ρ => rdV ρ i
  | .bin op a b => fun ρ => (evE G a ρ).bind fun x ρ1 => (evE G b ρ1).bind fun y ρ2 => R.lift (op2 op x y) ρ2
  | .neg a => fun ρ => (evE G a ρ).bind fun x ρ1 => R.lift (neg1 x) ρ1
  | .not a => fun ρ => (evE G a ρ).bind fun d ρ1 => R.lift (notV d) ρ1
  | .cmp op a b => fun ρ => (evE G a ρ).bind fun x ρ1 => (evE G b ρ1).bind fun y ρ2 => liftB (cmpD op x y) ρ2
  | .chn op op' a b e => fun ρ => (evE G a ρ).bind fun x ρ1 => (evE G b ρ1).bind fun y ρ2 => (liftB (cmpD op x y) ρ2).bind fun k ρ3 => match k with | .bl true => (evE G e ρ3).bind fun z ρ4 => liftB (cmpD op' y z) ρ4 | _ => .ok (.bl false) ρ3
  | .ife t a b => fun ρ => (evB G t ρ).bind fun k ρ1 => if k = true then evE G a ρ1 else evE G b ρ1
  | .and v => evAnd G v
  | .or v => evOr G v
  | .tup es => fun ρ => (evA G es ρ).bind fun xs ρ1 => .ok (.tup xs) ρ1
  | .fr f => fun ρ => (evF G f ρ).bind fun ds ρ1 => .ok (.lst ds) ρ1
  | .ix a b => fun ρ => (evE G a ρ).bind fun x ρ1 => (evE G b ρ1).bind fun k ρ2 => R.lift (ixD x k) ρ2
  | .ixV i b => fun ρ => (rdL ρ i).bind fun _ ρ0 => (evE G b ρ0).bind fun k ρ1 => (rdL ρ1 i).bind fun x ρ2 => R.lift (ixD x k) ρ2
  | .sl a lo hi => fun ρ => (evE G a ρ).bind fun x ρ1 => (evO G lo ρ1).bind fun l ρ2 => (evO G hi ρ2).bind fun h ρ3 => R.lift (slD x l h) ρ3
  | .slV i lo hi => fun ρ => (rdL ρ i).bind fun _ ρ0 => (evO G lo ρ0).bind fun l ρ1 => (evO G hi ρ1).bind fun h ρ2 => (rdL ρ2 i).bind fun x ρ3 => R.lift (slD x l h) ρ3
  | .b1 f a => fun ρ => (evL G a ρ).bind fun x ρ1 => R.lift (b1 f x) ρ1
  | .b2 f a b => fun ρ => (evE G a ρ).bind fun x ρ1 => (evE G b ρ1).bind fun y ρ2 => R.lift (b2 f x y) ρ2
  | .isi t a => fun ρ => (evL G a ρ).bind fun x ρ1 => liftB (isiD t x) ρ1
  | .call k n es => fun ρ => (evA G es ρ).bind fun ds ρ1 => if ds.length = n then (G.dD k ds).r ρ1 else .bad
  | .callM k n i es => fun ρ => (rdO ρ i).bind fun _ ρ0 => (evA G es ρ0).bind fun ds ρ1 => if ds.length + 1 = n then Ev.callM i (G.dM k) ds ρ1 else .bad
  | .callX ks n ix es => fun ρ => (evE G ix ρ).bind fun d ρ1 => (R.lift (fnIx ks d) ρ1).bind fun k ρ2 => (evA G es ρ2).bind fun ds ρ3 => if ds.length = n then (G.dD k ds).r ρ3 else .bad
  | .pop i => popR i
  | .popAt i e => fun ρ => (rdO ρ i).bind fun _ ρ0 => (evE G e ρ0).bind fun d ρ1 => Ev.popAt i d ρ1
  | .isin neg a l => fun ρ => (evE G a ρ).bind fun x ρ1 => (evL G l ρ1).bind fun y ρ2 => liftB (isinD neg x y) ρ2
  | .frD g => fun ρ => (evG G g ρ).bind fun b ρ1 => .ok b.d ρ1
  | .cmpV op i b => fun ρ => (rdL ρ i).bind fun _ ρ0 => (evE G b ρ0).bind fun y ρ1 => (rdL ρ1 i).bind fun x ρ2 => liftB (cmpL op x y) ρ2
  | .callMO k i j => fun ρ => Ev.callMO i j (G.dM k) ρ
  | .lenSS a => fun ρ => (evL G a ρ).bind fun x ρ1 => R.lift (Ev.lenSS x) ρ1
  | .max3 a b e => fun ρ => (evE G a ρ).bind fun x ρ1 => (evE G b ρ1).bind fun y ρ2 => (evE G e ρ2).bind fun z ρ3 => R.lift (Ev.max3 x y z) ρ3
def evL (G : Gs) : L → En → R D
  | .lk i => fun ρ => rdL ρ i
  | .vl e => evE G e
def evAnd (G : Gs) : Vs → En → R D
  | .one e => evE G e
  | .more e v => fun ρ => (evE G e ρ).bind (andV (evAnd G v))
def evOr (G : Gs) : Vs → En → R D
  | .one e => evE G e
  | .more e v => fun ρ => (evE G e ρ).bind (orV (evOr G v))
def evB (G : Gs) : B → En → R Bool
  | .cmp op a b => fun ρ => ((evE G a ρ).bind fun x ρ1 => (evE G b ρ1).bind fun y ρ2 => liftB (cmpD op x y) ρ2).bind boolOf
  | .chn op op' a b e => fun ρ => ((evE G a ρ).bind fun x ρ1 => (evE G b ρ1).bind fun y ρ2 => (liftB (cmpD op x y) ρ2).bind fun k ρ3 => match k with | .bl true => (evE G e ρ3).bind fun z ρ4 => liftB (cmpD op' y z) ρ4 | _ => .ok (.bl false) ρ3).bind boolOf
  | .and w => evWA G w
  | .or w => evWO G w
  | .not b => fun ρ => (evB G b ρ).bind fun k ρ1 => .ok (!k) ρ1
  | .tr a => fun ρ => (evL G a ρ).bind truB
  | .cmpV op i b => fun ρ => ((rdL ρ i).bind fun _ ρ0 => (evE G b ρ0).bind fun y ρ1 => (rdL ρ1 i).bind fun x ρ2 => liftB (cmpL op x y) ρ2).bind boolOf
  | .isin neg a l => fun ρ => ((evE G a ρ).bind fun x ρ1 => (evL G l ρ1).bind fun y ρ2 => liftB (isinD neg x y) ρ2).bind boolOf
def evWA (G : Gs) : Ws → En → R Bool
  | .one b => evB G b
  | .more b w => fun ρ => (evB G b ρ).bind fun k ρ1 => if k = true then evWA G w ρ1 else .ok false ρ1
def evWO (G : Gs) : Ws → En → R Bool
  | .one b => evB G b
  | .more b w => fun ρ => (evB G b ρ).bind fun k ρ1 => if k = true then .ok true ρ1 else evWO G w ρ1
def evO (G : Gs) : O → En → R (Option Int)
  | .no => fun ρ => .ok none ρ
  | .so e => fun ρ => (evE G e ρ).bind fun d ρ1 => R.lift (partD d) ρ1
def evA (G : Gs) : A → En → R (List D)
  | .nil => fun ρ => .ok [] ρ
  | .cons e es => fun ρ => (evE G e ρ).bind fun x ρ1 => (evA G es ρ1).bind fun xs ρ2 => .ok (x :: xs) ρ2
def evF (G : Gs) : F → En → R (List D)
  | .lst es => evA G es
  | .listOf a => fun ρ => (evL G a ρ).bind fun x ρ1 => R.lift (seqD x) ρ1
  | .listRev a => fun ρ => (evL G a ρ).bind fun x ρ1 => R.lift (revD x) ρ1
  | .rg1 a => fun ρ => (evE G a ρ).bind fun x ρ1 => R.lift (rgL [x]) ρ1
  | .rg2 a b => fun ρ => (evE G a ρ).bind fun x ρ1 => (evE G b ρ1).bind fun y ρ2 => R.lift (rgL [x, y]) ρ2
  | .sorted a => fun ρ => (evL G a ρ).bind fun x ρ1 => match x with | .lst _ => R.lift (sortD x) ρ1 | _ => .bad
  | .cat a b => fun ρ => (evE G a ρ).bind fun x ρ1 => (evE G b ρ1).bind fun y ρ2 => match x, y with
    | .lst xs, .lst ys => if xs.length + ys.length ≤ LN then .ok (xs ++ ys) ρ2 else .bad
    | _, _ => .bad
  | .rep a b => fun ρ => (evE G a ρ).bind fun x ρ1 => (evE G b ρ1).bind fun y ρ2 => match x, y with
    | .lst xs, .int k => if xs.length * k.toNat ≤ LN ∧ -(2 ^ 63) ≤ k ∧ k < 2 ^ 63 then .ok (List.replicate k.toNat xs).flatten ρ2 else .bad
    | _, _ => .bad
  | .comp tg it t e vs => compR tg (fun ρ => (evI G it ρ).bind few) (evC G t) (evE G e) vs
  | .call k n es => fun ρ => (evA G es ρ).bind fun ds ρ1 => if ds.length = n then (G.dF k ds).f ρ1 else .bad
  | .mov i => fun ρ => movR i ρ
  | .lstS es => fun ρ => (evAs G es ρ).bind few
  | .sortSS a => fun ρ => (evL G a ρ).bind fun x ρ1 => R.lift (Ev.sortSS x) ρ1
  | .sortK a => fun ρ => (evE G a ρ).bind fun x ρ1 => R.lift (sortKD x) ρ1
  | .sortP a => fun ρ => (evL G a ρ).bind fun x ρ1 => R.lift (sortPD x) ρ1
def evAs (G : Gs) : As → En → R (List D)
  | .nil => fun ρ => .ok [] ρ
  | .cons e es => fun ρ => (evE G e ρ).bind fun x ρ1 => (evAs G es ρ1).bind fun xs ρ2 => .ok (x :: xs) ρ2
  | .star e es => fun ρ => (evE G e ρ).bind fun y ρ1 => (R.lift (seqD y) ρ1).bind fun ys ρ2 => (evAs G es ρ2).bind fun xs ρ3 => .ok (ys ++ xs) ρ3
def evG (G : Gs) : Gm → En → R Ob
  | .new t => fun ρ => .ok (newD t) ρ
  | .comp t tg it cd k v vs => compDR t tg (evI G it) (evC G cd) (evE G k) (evE G v) vs
def evC (G : Gs) : Cd → En → R Bool
  | .no => fun ρ => .ok true ρ
  | .one b => evB G b
def evI (G : Gs) : I → En → R (List D)
  | .sq a => fun ρ => (evE G a ρ).bind fun x ρ1 => (R.lift (itD x) ρ1).bind fun xs ρ2 => itN x xs ρ2
  | .r1 a => fun ρ => (evE G a ρ).bind fun x ρ1 => R.lift (rng [x]) ρ1
  | .r2 a b => fun ρ => (evE G a ρ).bind fun x ρ1 => (evE G b ρ1).bind fun y ρ2 => R.lift (rng [x, y]) ρ2
  | .r3 a b e => fun ρ => (evE G a ρ).bind fun x ρ1 => (evE G b ρ1).bind fun y ρ2 => (evE G e ρ2).bind fun z ρ3 => R.lift (rng [x, y, z]) ρ3
  | .zip a b => fun ρ => (evE G a ρ).bind fun x ρ1 => (evE G b ρ1).bind fun y ρ2 => R.lift (zipD x y) ρ2
  | .enum a => fun ρ => (evE G a ρ).bind fun x ρ1 => R.lift (enumD x) ρ1
  | .rev a => fun ρ => (evE G a ρ).bind fun x ρ1 => R.lift (revD x) ρ1
end
def evP (G : Gs) : P → En → R (List Sl)
  | .nil => fun ρ => .ok [] ρ
  | .cE e p => fun ρ => (evE G e ρ).bind fun d ρ1 => (evP G p ρ1).bind fun ss ρ2 => .ok (.va d :: ss) ρ2
  | .cF f p => fun ρ => (evF G f ρ).bind fun xs ρ1 => (evP G p ρ1).bind fun ss ρ2 => .ok (.ow false xs :: ss) ρ2
  | .cD g p => fun ρ => (evG G g ρ).bind fun b ρ1 => (evP G p ρ1).bind fun ss ρ2 => .ok (.ow false b :: ss) ρ2
mutual
def evS (G : Gs) : S → En → R Fl
  | .pass => fun ρ => .ok .nx ρ
  | .brk => fun ρ => .ok .bk ρ
  | .cnt => fun ρ => .ok .ct ρ
  | .ret e => fun ρ => (evE G e ρ).bind fun d ρ1 => .ok (.rt d) ρ1
  | .retF f => fun ρ => (evF G f ρ).bind fun xs ρ1 => .ok (.rf xs) ρ1
  | .retN => fun ρ => .ok (.rt .non) ρ
  | .ife t a b => fun ρ => (evB G t ρ).bind fun k ρ1 => if k = true then evSs G a ρ1 else evSs G b ρ1
  | .asg i e => fun ρ => (evE G e ρ).bind fun d ρ1 => (R.lift (setV i d ρ1) ρ1).bind fun ρ2 _ => .ok .nx ρ2
  | .asgF i f => fun ρ => (evF G f ρ).bind fun ds ρ1 => (R.lift (setV i (.lst ds) ρ1) ρ1).bind fun ρ2 _ => .ok .nx ρ2
  | .asgT tg e => fun ρ => (evE G e ρ).bind fun d ρ1 => (R.lift (Ev.asgT tg d ρ1) ρ1).bind fun ρ2 _ => .ok .nx ρ2
  | .own i f => fun ρ => (evF G f ρ).bind fun ds ρ1 => (R.lift (setO i ds ρ1) ρ1).bind fun ρ2 _ => .ok .nx ρ2
  | .aug op i e => fun ρ => (rdL ρ i).bind fun x0 ρ0 => (evE G e ρ0).bind fun d ρ1 => (R.lift ((aop2 op x0 d).bind fun z => setV i z ρ1) ρ1).bind fun ρ2 _ => .ok .nx ρ2
  | .app i e => fun ρ => (rdO ρ i).bind fun _ ρ0 => (evE G e ρ0).bind fun d ρ1 => (R.lift (modO i (appF d) ρ1) ρ1).bind fun ρ2 _ => .ok .nx ρ2
  | .ext i e => fun ρ => (rdO ρ i).bind fun _ ρ0 => (evE G e ρ0).bind fun d ρ1 => (R.lift (modO i (extF d) ρ1) ρ1).bind fun ρ2 _ => .ok .nx ρ2
  | .setI i b e => fun ρ => (evE G e ρ).bind fun d ρ1 => (rdO ρ1 i).bind fun _ ρ2 => (evE G b ρ2).bind fun k ρ3 => (R.lift (modO i (setF k d) ρ3) ρ3).bind fun ρ4 _ => .ok .nx ρ4
  | .putI i b e => fun ρ => (evE G e ρ).bind fun d ρ1 => (rdB ρ1 i).bind fun _ ρ0 => (evE G b ρ0).bind fun k ρ2 => (R.lift (modD i k d ρ2) ρ2).bind fun ρ3 _ => .ok .nx ρ3
  | .ownD i g => fun ρ => (evG G g ρ).bind fun b ρ1 => (R.lift (setO i b ρ1) ρ1).bind fun ρ2 _ => .ok .nx ρ2
  | .for tg it b => fun ρ => (evI G it ρ).bind fun items ρ1 => forL (Ev.asgT tg) (evSs G b) items ρ1
  | .whl n t b => whileL (evB G t) (evSs G b) n
  | .expr e => fun ρ => (evE G e ρ).bind fun _ ρ1 => .ok .nx ρ1
  | .doc => fun ρ => .ok .nx ρ
  | .rse k => fun ρ => .err k ρ
  | .par is p => parR is (evP G p)
  | .tri nC b hs => fun ρ => triR nC (hs.map fun q => (q.1, q.2.d)) (evSs G b ρ)
  | .trn nC i k j s0 s1 b => fun ρ => trnR nC i k j s0 s1 (evSs G b ρ)
def evSs (G : Gs) : Ss → En → R Fl
  | .nil => fun ρ => .ok .nx ρ
  | .cons s r => fun ρ => (evS G s ρ).bind (thenS (evSs G r))
end

/-! ### is a text of the program that text? -/
structure Tb where
  fns : List (Str × Nat × Nat)
  cls : List Str
  glo : List (Str × Con)
structure Ck where
  tb : Tb
  N : List Str
  sc : Scope
def Ck.visC (K : Ck) (i : Nat) (x : Str) : Bool :=
  decide (K.N[i]? = some x) && !(x == ("__debug__" : Str)) && !(x == ("__classdict__" : Str)) && (match K.sc.names.lookup x with | some .local => true | some .cell => true | some .free => true | _ => false)
def Ck.locC (K : Ck) (i : Nat) (x : Str) : Bool :=
  decide (K.N[i]? = some x) && (match K.sc.names.lookup x with | some .local => true | some .cell => true | _ => false)
def Ck.loc1 (K : Ck) (i : Nat) (x : Str) : Bool := decide (K.N[i]? = some x) && decide (K.sc.names.lookup x = some .local)
/-- a comprehension's own name -/
def Ck.loB (K : Ck) (scope : Scope) (i : Nat) (x : Str) : Bool := decide (K.N[i]? = some x) && (decide ((relS scope K.sc).names.lookup x = some .local) || (decide ((relS scope K.sc).names.lookup x = some .cell) && decide (scope.names.lookup x = some .cell)))
def Ck.glC (K : Ck) (x : Str) : Bool := decide (K.sc.names.lookup x = some .globalImplicit)
def Ck.fnC (K : Ck) (k n kind : Nat) (x : Str) : Bool := decide (K.tb.fns[k]? = some (x, n, kind)) && K.glC x && !(x == ("__debug__" : Str))
def plainT : Expr → Bool
  | .UnaryOp .Not .. => false
  | .BoolOp .. => false
  | .IfExp .. => false
  | .Compare .. => false
  | _ => true
def ownOf (N : List Str) (vs : List Nat) : List (Str × Nat) := vs.map fun i => (N.getD i "", i)
def Ck.blk (K : Ck) (scope : Scope) : Ck := { K with sc := relS scope K.sc }
def tgsC (ok : Nat → Str → Bool) : List Nat → List Expr → Bool
  | [], [] => true
  | i :: is, .Name x _ :: es => ok i x && tgsC ok is es
  | _, _ => false
def tgC (ok : Nat → Str → Bool) : Tg → Expr → Bool
  | .nm i, ex => match ex with | .Name x _ => ok i x | _ => false
  | .tup is, ex => match ex with | .Tuple es _ _ => tgsC ok is es | _ => false
def Ck.fnsC (K : Ck) (n : Nat) : List Nat → List Expr → Bool
  | [], [] => true
  | k :: ks, .Name x _ :: es => K.fnC k n 0 x && K.fnsC n ks es
  | _, _ => false
mutual
def ckE : E → Ck → Expr → Bool
  | .con k, K, ex => match ex with | .Constant v _ _ => decide (v = k.cst) | _ => false
  | .glo k, K, ex => match ex with | .Name x _ => decide ((K.tb.glo.lookup x).map Con.cst = some k.cst) && K.glC x && !(x == ("__debug__" : Str)) | _ => false
  | .var i, K, ex => match ex with | .Name x _ => K.visC i x | _ => false
  | .bin op a b, K, ex => match ex with | .BinOp x op' y _ => decide (op' = op) && ckE a K x && ckE b K y | _ => false
  | .neg a, K, ex => match ex with | .UnaryOp op x _ => decide (op = .USub) && ckE a K x | _ => false
  | .not a, K, ex => match ex with | .UnaryOp op x _ => decide (op = .Not) && ckE a K x | _ => false
  | .cmp op a b, K, ex => match ex with | .Compare x [op'] [y] _ => decide (op' = op) && !isSet y && ckE a K x && ckE b K y | _ => false
  | .chn op op2 a b e, K, ex => match ex with | .Compare x [p, q] [y, z] _ => decide (p = op) && decide (q = op2) && !isSet z && ckE a K x && ckE b K y && ckE e K z | _ => false
  | .ife t a b, K, ex => match ex with | .IfExp x y z _ => ckB t K x && ckE a K y && ckE b K z | _ => false
  | .and v, K, ex => match ex with | .BoolOp op es _ => decide (op = .And) && decide (2 ≤ es.length) && ckVs v K es | _ => false
  | .or v, K, ex => match ex with | .BoolOp op es _ => decide (op = .Or) && decide (2 ≤ es.length) && ckVs v K es | _ => false
  | .tup es, K, ex => match ex with | .Tuple xs _ _ => decide (xs.length ≤ 1000) && ckA es K xs | _ => false
  | .fr f, K, ex => ckF f K ex
  | .ix a b, K, ex => match ex with | .Subscript x y _ => plainSl y && ckE a K x && ckE b K y | _ => false
  | .ixV i b, K, ex => match ex with | .Subscript (.Name x _) y _ => plainSl y && K.visC i x && ckE b K y | _ => false
  | .sl a lo hi, K, ex => match ex with | .Subscript x (.Slice l h none _) _ => ckE a K x && ckO lo K l && ckO hi K h | _ => false
  | .slV i lo hi, K, ex => match ex with | .Subscript (.Name x _) (.Slice l h none _) _ => K.visC i x && ckO lo K l && ckO hi K h | _ => false
  | .b1 f a, K, ex => match ex with | .Call (.Name x _) [y] [] _ => decide (x = f.nm) && K.glC x && noStar y && ckL a K y | _ => false
  | .b2 f a b, K, ex => match ex with | .Call (.Name x _) [y, z] [] _ => decide (x = f.nm) && K.glC x && noStar y && noStar z && ckE a K y && ckE b K z | _ => false
  | .isi t a, K, ex => match ex with | .Call (.Name x _) [y, .Name z _] [] _ => decide (x = "isinstance") && K.glC x && decide (z = t.nm) && K.glC z && noStar y && ckL a K y | _ => false
  | .call k n es, K, ex => match ex with | .Call (.Name x _) (y :: ys) [] _ => K.fnC k n 0 x && (y :: ys).all noStar && ckA es K (y :: ys) | _ => false
  | .callM k n i es, K, ex => match ex with | .Call (.Name x _) (.Name y _ :: ys) [] _ => K.fnC k n 1 x && K.visC i y && ys.all noStar && ckA es K ys | _ => false
  | .callX ks n ix es, K, ex => match ex with | .Call (.Subscript (.List xs _) y _) (z :: zs) [] _ => plainSl y && decide (ks.length ≤ 1000) && K.fnsC n ks xs && ckE ix K y && (z :: zs).all noStar && ckA es K (z :: zs) | _ => false
  | .pop i, K, ex => match ex with | .Call (.Attribute (.Name x _) m p2) [] [] p3 => decide (m = "pop") && K.visC i x && (p2.endLine == p3.line) | _ => false
  | .popAt i e, K, ex => match ex with | .Call (.Attribute (.Name x _) m p2) [y] [] p3 => decide (m = "pop") && K.visC i x && (p2.endLine == p3.line) && noStar y && ckE e K y | _ => false
  | .isin neg a l, K, ex => match ex with | .Compare x [op] [y] _ => decide (op = if neg = true then .NotIn else .In) && !isSet y && ckE a K x && ckL l K y | _ => false
  | .frD g, K, ex => ckG g K ex
  | .cmpV op i b, K, ex => match ex with | .Compare (.Name x _) [op'] [y] _ => decide (op' = op) && !isSet y && K.visC i x && ckE b K y | _ => false
  | .lenSS a, K, ex => match ex with | .Call (.Name x _) [.Call (.Name z _) [y] [] _] [] _ => decide (x = "len") && K.glC x && decide (z = "set") && K.glC z && noStar y && ckL a K y | _ => false
  | .max3 a b e, K, ex => match ex with | .Call (.Name x _) [y, z, u] [] _ => decide (x = "max") && K.glC x && noStar y && noStar z && noStar u && ckE a K y && ckE b K z && ckE e K u | _ => false
  | .callMO k i j, K, ex => match ex with | .Call (.Name x _) [.Name y _, .Name z _] [] _ => K.fnC k 2 1 x && K.visC i y && K.visC j z | _ => false
def ckL : L → Ck → Expr → Bool
  | .lk i, K, ex => match ex with | .Name x _ => K.visC i x | _ => false
  | .vl e, K, ex => ckE e K ex
def ckVs : Vs → Ck → List Expr → Bool
  | .one e, K, es => match es with | [x] => ckE e K x | _ => false
  | .more e v, K, es => match es with | x :: y :: r => ckE e K x && ckVs v K (y :: r) | _ => false
def ckB : B → Ck → Expr → Bool
  | .cmp op a b, K, ex => match ex with | .Compare x [op'] [y] _ => decide (op' = op) && !isSet y && ckE a K x && ckE b K y | _ => false
  | .chn op op2 a b e, K, ex => match ex with | .Compare x [p, q] [y, z] _ => decide (p = op) && decide (q = op2) && !isSet z && ckE a K x && ckE b K y && ckE e K z | _ => false
  | .and w, K, ex => match ex with | .BoolOp op es _ => decide (op = .And) && ckWs w K es | _ => false
  | .or w, K, ex => match ex with | .BoolOp op es _ => decide (op = .Or) && ckWs w K es | _ => false
  | .not b, K, ex => match ex with | .UnaryOp op x _ => decide (op = .Not) && ckB b K x | _ => false
  | .tr a, K, ex => plainT ex && ckL a K ex
  | .cmpV op i b, K, ex => match ex with | .Compare (.Name x _) [op'] [y] _ => decide (op' = op) && !isSet y && K.visC i x && ckE b K y | _ => false
  | .isin neg a l, K, ex => match ex with | .Compare x [op] [y] _ => decide (op = if neg = true then .NotIn else .In) && !isSet y && ckE a K x && ckL l K y | _ => false
def ckWs : Ws → Ck → List Expr → Bool
  | .one b, K, es => match es with | [x] => ckB b K x | _ => false
  | .more b w, K, es => match es with | x :: y :: r => ckB b K x && ckWs w K (y :: r) | _ => false
def ckO : O → Ck → Option Expr → Bool
  | .no, K, o => match o with | none => true | _ => false
  | .so e, K, o => match o with | some x => ckE e K x | _ => false
def ckA : A → Ck → List Expr → Bool
  | .nil, K, es => match es with | [] => true | _ => false
  | .cons e r, K, es => match es with | x :: xs => noStar x && ckE e K x && ckA r K xs | _ => false
def ckF : F → Ck → Expr → Bool
  | .lst es, K, ex => match ex with | .List xs _ => decide (xs.length ≤ 1000) && ckA es K xs | _ => false
  | .listOf a, K, ex => match ex with | .Call (.Name x _) [y] [] _ => decide (x = "list") && K.glC x && noStar y && ckL a K y | _ => false
  | .listRev a, K, ex => match ex with | .Call (.Name x _) [.Call (.Name z _) [y] [] _] [] _ => decide (x = "list") && K.glC x && decide (z = "reversed") && K.glC z && noStar y && ckL a K y | _ => false
  | .rg1 a, K, ex => match ex with | .Call (.Name x _) [.Call (.Name z _) [y] [] _] [] _ => decide (x = "list") && K.glC x && decide (z = "range") && K.glC z && noStar y && ckE a K y | _ => false
  | .rg2 a b, K, ex => match ex with | .Call (.Name x _) [.Call (.Name z _) [y, u] [] _] [] _ => decide (x = "list") && K.glC x && decide (z = "range") && K.glC z && noStar y && noStar u && ckE a K y && ckE b K u | _ => false
  | .sorted a, K, ex => match ex with | .Call (.Name x _) [y] [] _ => decide (x = "sorted") && K.glC x && noStar y && ckL a K y | _ => false
  | .cat a b, K, ex => match ex with | .BinOp x op y _ => decide (op = .Add) && ckE a K x && ckE b K y | _ => false
  | .rep a b, K, ex => match ex with | .BinOp x op y _ => decide (op = .Mult) && ckE a K x && ckE b K y | _ => false
  | .comp tg it t e vs, K, ex => match ex with
    | .ListComp elt [⟨tgx, iter, ifs, asy⟩] scope _ => decide (asy = 0) && blkC K.N K.sc scope (ownOf K.N vs) && tg.slots.all (fun i => vs.contains i) && !isSet iter && ckI it K tgx iter && tgC (K.loB scope) tg tgx && ckC t (K.blk scope) ifs && ckE e (K.blk scope) elt
    | _ => false
  | .call k n es, K, ex => match ex with | .Call (.Name x _) (y :: ys) [] _ => K.fnC k n 2 x && (y :: ys).all noStar && ckA es K (y :: ys) | _ => false
  | .mov i, K, ex => match ex with | .Name x _ => K.visC i x | _ => false
  | .sortSS a, K, ex => match ex with | .Call (.Name x _) [.Call (.Name z _) [y] [] _] [] _ => decide (x = "sorted") && K.glC x && decide (z = "set") && K.glC z && noStar y && ckL a K y | _ => false
  | .sortK a, K, ex => match ex with | .Call (.Name x _) [y] [] _ => decide (x = "sorted") && K.glC x && noStar y && ckE a K y | _ => false
  | .sortP a, K, ex => match ex with | .Call (.Name x _) [y] [] _ => decide (x = "sorted") && K.glC x && noStar y && ckL a K y | _ => false
  | .lstS es, K, ex => match ex with | .List xs _ => ckAs es K xs | _ => false
def ckAs : As → Ck → List Expr → Bool
  | .nil, K, es => match es with | [] => true | _ => false
  | .cons e r, K, es => match es with | x :: xs => noStar x && ckE e K x && ckAs r K xs | _ => false
  | .star e r, K, es => match es with | .Starred x _ :: xs => ckE e K x && ckAs r K xs | _ => false
def ckG : Gm → Ck → Expr → Bool
  | .new t, K, ex => match ex with | .Dict [] [] _ => true | _ => false
  | .comp t tg it cd k v vs, K, ex => match ex with
    | .DictComp kx vx [⟨tgx, iter, ifs, asy⟩] scope _ => decide (asy = 0) && blkC K.N K.sc scope (ownOf K.N vs) && tg.slots.all (fun i => vs.contains i) && !isSet iter && ckI it K tgx iter && tgC (K.loB scope) tg tgx && ckC cd (K.blk scope) ifs && ckE k (K.blk scope) kx && ckE v (K.blk scope) vx
    | _ => false
def ckC : Cd → Ck → List Expr → Bool
  | .no, K, es => match es with | [] => true | _ => false
  | .one b, K, es => match es with | [x] => ckB b K x | _ => false
def ckI : I → Ck → Expr → Expr → Bool
  | .sq a, K, _, ex => ckE a K ex
  | .r1 a, K, _, ex => match ex with | .Call (.Name x _) [y] [] _ => decide (x = "range") && K.glC x && noStar y && ckE a K y | _ => false
  | .r2 a b, K, _, ex => match ex with | .Call (.Name x _) [y, z] [] _ => decide (x = "range") && K.glC x && noStar y && noStar z && ckE a K y && ckE b K z | _ => false
  | .r3 a b e, K, _, ex => match ex with | .Call (.Name x _) [y, z, u] [] _ => decide (x = "range") && K.glC x && noStar y && noStar z && noStar u && ckE a K y && ckE b K z && ckE e K u | _ => false
  | .zip a b, K, tg, ex => match tg, ex with | .Tuple .., .Call (.Name x _) [y, z] [] _ => decide (x = "zip") && K.glC x && noStar y && noStar z && ckE a K y && ckE b K z | _, _ => false
  | .enum a, K, tg, ex => match tg, ex with | .Tuple .., .Call (.Name x _) [y] [] _ => decide (x = "enumerate") && K.glC x && noStar y && ckE a K y | _, _ => false
  | .rev a, K, _, ex => match ex with | .Call (.Name x _) [y] [] _ => decide (x = "reversed") && K.glC x && noStar y && ckE a K y | _ => false
end
end Ev

end
section
set_option maxHeartbeats 4000000
namespace Ev
open PySem PySem.Spec PyProof.Rows L2

def bN : List Str := ["len", "abs", "int", "bool", "str", "all", "any", "sum", "max", "min", "tuple", "list", "reversed", "range", "sorted", "zip", "enumerate", "isinstance", "dict", "set"]
structure GoodG (tb : Tb) (c : Cn) (G : Gs) (n : Nat) (P : Program) (w : World) (KK : PySem.W.Frag) (mg : Str → Option Value) (base : Heap) : Prop where
  free : ∀ x ∈ bN, mg x = none
  exc : ExcF KK c.C tb.cls.length
  dA : ∀ k x ar kind, tb.fns[k]? = some (x, ar, kind) → mg x = some (.ref (c.A k))
  glo : ∀ x k, tb.glo.lookup x = some k → ∃ u, mg x = some u ∧ RelV k.v u
  dD : ∀ k x ar, tb.fns[k]? = some (x, ar, 0) → ∃ f fd ps, ps.length = ar ∧ FnOk P w KK mg base (L2.CX P w) n f fd ps (spD c ps.length (G.dD k)) ∧ mg x = some (.ref f) ∧ PySem.W.keepIn KK (.ref f) = true ∧ Binds KK fd ps []
  dM : ∀ k x ar, tb.fns[k]? = some (x, ar, 1) → ∃ f fd ps, ps.length = ar ∧ FnOk P w KK mg base (L2.CX P w) n f fd ps (spM c ps.length (G.dM k)) ∧ mg x = some (.ref f) ∧ PySem.W.keepIn KK (.ref f) = true ∧ Binds KK fd ps []
  dF : ∀ k x ar, tb.fns[k]? = some (x, ar, 2) → ∃ f fd ps, ps.length = ar ∧ FnOk P w KK mg base (L2.CX P w) n f fd ps (spF c ps.length (G.dF k)) ∧ mg x = some (.ref f) ∧ PySem.W.keepIn KK (.ref f) = true ∧ Binds KK fd ps []
  cls : ∀ k x, tb.cls[k]? = some x → mg x = some (.ref (c.C k)) ∧ PySem.W.excIn KK (c.C k) He.veBase "ValueError.__new__" = true ∧ PySem.W.keepIn KK (.ref (c.C k)) = true ∧ PySem.W.subIn KK (.ref (c.C k)) (.type "BaseException") = some true ∧ PySem.W.typeIn KK (.ref (c.C k)) = some (.type "type")
structure Good (K : Ck) (c : Cn) (G : Gs) (n : Nat) (X : Cx) (W : WX) : Prop where
  k : X.K = c.K
  calm : X.calm = true
  nd : X.N.Nodup
  N : X.N = K.N
  sc : X.env.scope = K.sc
  rm : Room n X.A
  tk : Takes X W
  gl : GoodG K.tb c G n X.prog X.w X.K X.mg X.base
section
variable {K : Ck} {c : Cn} {G : Gs} {n : Nat} {X : Cx} {W : WX}
theorem Good.un (g : Good K c G n X W) : X.A.units + 65 < cLine := by have := g.rm.un; omega
theorem Good.glob (g : Good K c G n X W) {x : Str} (h : K.glC x = true) : Gl X x := by
  unfold Ck.glC at h
  show X.env.scope.names.lookup x = _
  rw [g.sc]
  exact of_decide_eq_true h
theorem Good.freeB (g : Good K c G n X W) {x : Str} (h : x ∈ bN) : X.mg x = none := g.gl.free x h
theorem Good.vis (g : Good K c G n X W) {i : Nat} {x : Str} {p : Pos} (h : K.visC i x = true) : PE X (.Name x p) (tVar i) := by
  unfold Ck.visC at h
  simp only [Bool.and_eq_true, decide_eq_true_eq, Bool.not_eq_true'] at h
  obtain ⟨⟨⟨h1, h2⟩, h3⟩, h4⟩ := h
  refine pe_var (by rw [g.N]; exact h1) ?_ h2 h3
  unfold Vis
  rw [g.sc]
  split at h4 <;> first | (rename_i e; simp [e]; done) | cases h4
theorem Good.loc (g : Good K c G n X W) {i : Nat} {x : Str} (h : K.locC i x = true) : X.N[i]? = some x ∧ L2.Loc X.env.scope x := by
  unfold Ck.locC at h
  simp only [Bool.and_eq_true, decide_eq_true_eq] at h
  refine ⟨by rw [g.N]; exact h.1, ?_⟩
  unfold L2.Loc
  rw [g.sc]
  have h2 := h.2
  split at h2 <;> first | (rename_i e; simp [e]; done) | cases h2
theorem Good.lo1 (g : Good K c G n X W) {i : Nat} {x : Str} (h : K.loc1 i x = true) : X.N[i]? = some x ∧ X.env.scope.names.lookup x = some .local := by
  unfold Ck.loc1 at h
  simp only [Bool.and_eq_true, decide_eq_true_eq] at h
  exact ⟨by rw [g.N]; exact h.1, by rw [g.sc]; exact h.2⟩
theorem Good.blk (g : Good K c G n X W) (s : Shared) (H : Hp) (scope : Scope) (C : Addr) (cl : List (Str × Addr)) (fp : List Addr) : Good (K.blk scope) c G n (X.blk s H scope (compEnvC scope cl C X.env) fp) W0 :=
  ⟨g.k, g.calm, g.nd, g.N, by show relS scope X.env.scope = relS scope K.sc; rw [g.sc], g.rm, takes0, g.gl⟩
theorem Good.loB (g : Good K c G n X W) {s : Shared} {H : Hp} {scope : Scope} {C : Addr} {cl : List (Str × Addr)} {fp : List Addr} {i : Nat} {x : Str} (h : K.loB scope i x = true) :
    (X.blk s H scope (compEnvC scope cl C X.env) fp).N[i]? = some x ∧ L2.Loc (X.blk s H scope (compEnvC scope cl C X.env) fp).env.scope x ∧ ((X.blk s H scope (compEnvC scope cl C X.env) fp).fn x = true ∨ (X.blk s H scope (compEnvC scope cl C X.env) fp).env.scope.names.lookup x = some .local) := by
  have e : (X.blk s H scope (compEnvC scope cl C X.env) fp).env.scope = relS scope K.sc := by show relS scope X.env.scope = _; rw [g.sc]
  unfold Ck.loB at h
  simp only [Bool.and_eq_true, Bool.or_eq_true, decide_eq_true_eq] at h
  refine ⟨by show X.N[i]? = _; rw [g.N]; exact h.1, ?_⟩
  rw [e]
  rcases h.2 with h2 | ⟨h2, h3⟩
  · exact ⟨.inl h2, .inr h2⟩
  · exact ⟨.inr h2, .inl (by show (scope.names.lookup x == some .cell) = true; rw [h3]; rfl)⟩
theorem con_pe {k : Con} {j : Nat} {p : Pos} : PE X (.Constant k.cst j p) (tC k.v) := by
  cases k
  · exact pe_non
  · exact pe_bl
  · exact pe_int
  · exact pe_str
theorem con_rep (k : Con) (H : Hp) : Rep c H k.v k.d := by
  cases k
  · exact .non
  · exact .bl _
  · exact .int _
  · exact .str _
theorem con_inj {k k' : Con} (h : k.cst = k'.cst) : k = k' := by
  cases k <;> cases k' <;> simp_all [Con.cst]
theorem b1_mem (f : B1) : f.nm ∈ bN := by cases f <;> decide
theorem b2_mem (f : B2) : f.nm ∈ bN := by cases f <;> decide
theorem ty_mem (t : Ty) : t.nm ∈ bN := by cases t <;> decide
theorem evA_len : ∀ (es : A) (K : Ck) (xs : List Expr) (ρ : En) (ds : List D) (ρ' : En), ckA es K xs = true → evA G es ρ = .ok ds ρ' → ds.length = xs.length
  | .nil, K, xs, ρ, ds, ρ', h, e => by
    simp only [ckA] at h
    split at h
    · simp only [evA] at e; cases e; rfl
    · cases h
  | .cons a r, K, xs, ρ, ds, ρ', h, e => by
    simp only [ckA] at h
    split at h
    · simp only [Bool.and_eq_true] at h
      simp only [evA] at e
      cases h1 : evE G a ρ with
      | ok d ρ1 =>
        rw [h1] at e
        simp only [R.bind] at e
        cases h2 : evA G r ρ1 with
        | ok es ρ2 =>
          rw [h2] at e
          cases e
          rw [List.length_cons, List.length_cons, evA_len r K _ _ _ _ h.2 h2]
        | err => rw [h2] at e; cases e
        | bad => rw [h2] at e; cases e
      | err => rw [h1] at e; cases e
      | bad => rw [h1] at e; cases e
    · cases h
theorem compD_nb {g : D → En → Option En} {ft : En → R Bool} {fk fv : En → R D} {vs : List Nat} : ∀ (items : List D) (b : Ob) (ρ : En) (b' : Ob) (ρ' : En), (∀ xs, b ≠ .lst xs) → compD g ft fk fv vs items b ρ = .ok b' ρ' → ∀ xs, b' ≠ .lst xs
  | [], b, ρ, b', ρ', nb, h => by simp only [compD] at h; cases h; exact nb
  | d :: ds, b, ρ, b', ρ', nb, h => by
    simp only [compD] at h
    split at h
    · cases h
    · rename_i ρ1 _
      cases h1 : (ft ρ1).ne with
      | bad => rw [h1] at h; cases h
      | err => rw [h1] at h; cases h
      | ok k ρ2 =>
        rw [h1] at h
        simp only [R.bind_ok] at h
        split at h
        · cases h2 : (fk ρ2).ne with
          | bad => rw [h2] at h; cases h
          | err => rw [h2] at h; cases h
          | ok y ρ3 =>
            rw [h2] at h
            simp only [R.bind_ok] at h
            cases h3 : (fv ρ3).ne with
            | bad => rw [h3] at h; cases h
            | err => rw [h3] at h; cases h
            | ok z ρ4 =>
              rw [h3] at h
              simp only [R.bind_ok] at h
              cases h4 : putB b y z with
              | none => rw [h4] at h; cases h
              | some b1 =>
                rw [h4] at h
                simp only [R.lift, R.bind_ok] at h
                refine compD_nb ds b1 _ b' ρ' (fun xs e => ?_) h
                subst e
                cases b with
                | lst => exact nb _ rfl
                | dK ks us => simp only [putB, Option.bind_eq_some_iff] at h4; obtain ⟨j, _, h5⟩ := h4; split at h5 <;> cases h5
                | dT ks us => simp only [putB, Option.bind_eq_some_iff] at h4; obtain ⟨j, _, h5⟩ := h4; split at h5 <;> cases h5
        · exact compD_nb ds b _ b' ρ' nb h
theorem evG_nb (g : Gm) (ρ : En) (b : Ob) (ρ' : En) (h : evG G g ρ = .ok b ρ') : ∀ xs, b ≠ .lst xs := by
  cases g with
  | new t => simp only [evG] at h; cases h; intro xs; cases t <;> exact fun z => by cases z
  | comp t tg it cd k v vs =>
    simp only [evG, compDR] at h
    cases h1 : evI G it ρ with
    | bad => rw [h1] at h; cases h
    | err => rw [h1] at h; cases h
    | ok items ρ1 =>
      rw [h1] at h
      simp only [R.bind_ok] at h
      cases h2 : compD (asgT tg) (evC G cd) (evE G k) (evE G v) vs items (newD t) (wipeR ρ1 vs) with
      | bad => rw [h2] at h; cases h
      | err => rw [h2] at h; cases h
      | ok b1 ρ2 =>
        rw [h2] at h
        simp only [R.bind_ok] at h
        cases h
        exact compD_nb _ _ _ _ _ (fun xs => by cases t <;> exact fun z => by cases z) h2
theorem plainT_ok {e : Expr} (h : plainT e = true) (env : Env) : ∀ whole, isTrue e env whole = (do let v ← whole; standAt e.pos; holding [v] (truthy v)) := by
  intro whole
  cases e with
  | UnaryOp op x p => cases op <;> first | rfl | cases h
  | BoolOp => cases h
  | IfExp => cases h
  | Compare => cases h
  | _ => rfl
theorem noFold {e : Expr} {env : Env} (h : isSet e = false) : ∀ x, foldedSetIterable e env x = pure x := by
  intro x
  cases e <;> first | rfl | cases h
theorem tgs_sound {K : Ck} {X : Cx} {ok : Nat → Str → Bool} (hok : ∀ i x pos, ok i x = true → PG X (.Name x pos) (gName i)) : ∀ {is : List Nat} {es : List Expr}, tgsC ok is es = true → PGs X es (gL is) ∧ es.length = is.length ∧ es.all noStar = true
  | [], [], _ => ⟨pgs_nil, rfl, rfl⟩
  | i :: is, e :: es, h => by
    cases e <;> try (cases h; done)
    simp only [tgsC, Bool.and_eq_true] at h
    obtain ⟨h1, h2, h3⟩ := tgs_sound (K := K) hok h.2
    exact ⟨g_cons (hok _ _ _ h.1) h1, congrArg Nat.succ h2, by rw [List.all_cons, h3]; rfl⟩
  | [], _ :: _, h => by cases h
  | _ :: _, [], h => by cases h
theorem tg_sound {K : Ck} {X : Cx} {ok : Nat → Str → Bool} (hK : X.K = c.K) (hc : X.calm = true) (hok : ∀ i x pos, ok i x = true → PG X (.Name x pos) (gName i)) {T : Tg} {ex : Expr} (h : tgC ok T ex = true) : PG X ex (tgT c T) := by
  cases T with
  | nm i =>
    simp only [tgC] at h
    split at h
    · exact hok _ _ _ h
    · cases h
  | tup is =>
    simp only [tgC] at h
    split at h
    · obtain ⟨h1, h2, h3⟩ := tgs_sound (K := K) hok h
      exact g_tup hK hc h3 h2 h1
    · cases h
theorem s_andE1 {a : Expr} {pos : Pos} {t : TE} (h : PE X a t) : PE X (.BoolOp .And [a] pos) t := ⟨fun pins s σ H Q I q => h.run pins s σ H Q I q⟩
theorem s_orE1 {a : Expr} {pos : Pos} {t : TE} (h : PE X a t) : PE X (.BoolOp .Or [a] pos) t := ⟨fun pins s σ H Q I q => h.run pins s σ H Q I q⟩
theorem ownOf_snd (N : List Str) (vs : List Nat) : (ownOf N vs).map (·.2) = vs := by
  unfold ownOf
  rw [List.map_map]
  exact List.map_id' vs
theorem fns_sound (g : Good K c G n X W) {m : Nat} : ∀ {ks : List Nat} {es : List Expr}, K.fnsC m ks es = true → PA X es (fun σ H Q => Q (ks.map fun k => V.ref (c.A k)) H) ∧ ∀ k ∈ ks, FnAt X c n m k (G.dD k)
  | [], [], _ => ⟨pa_nil, fun k hk => by cases hk⟩
  | k :: ks, e :: es, h => by
    cases e <;> try (cases h; done)
    rename_i x p
    simp only [Ck.fnsC, Bool.and_eq_true] at h
    obtain ⟨h0, h⟩ := h
    unfold Ck.fnC at h0
    simp only [Bool.and_eq_true, decide_eq_true_eq, Bool.not_eq_true'] at h0
    obtain ⟨⟨f1, f2⟩, f3⟩ := h0
    have m1 := g.gl.dA _ _ _ _ f1
    obtain ⟨f, fd, ps, e1, F, m2, kp, bd⟩ := g.gl.dD _ _ _ f1
    rw [m1] at m2
    cases m2
    obtain ⟨i1, i2⟩ := fns_sound g h
    refine ⟨pa_cons (pe_glob (v := V.ref (c.A k)) (g.glob f2) m1 rfl f3) i1 (star_cons rfl), fun j hj => ?_⟩
    rcases List.mem_cons.mp hj with rfl | hj
    · exact ⟨fd, ps, e1, F, kp, bd⟩
    · exact i2 j hj
  | [], _ :: _, h => by cases h
  | _ :: _, [], h => by cases h
end

end Ev

end
section
set_option maxHeartbeats 4000000
namespace Ev
open PySem PySem.Spec PyProof.Rows L2
section
variable {c : Cn} {G : Gs} {n : Nat}
mutual
theorem soE : ∀ (e : E) {K : Ck} {X : Cx} {W : WX} {ex : Expr} (g : Good K c G n X W), ckE e K ex = true → PE X ex (tE c W (evE G e))
  | .con k, K, X, W, ex, g, h => by
    simp only [ckE] at h
    split at h
    · try simp only [Bool.and_eq_true, decide_eq_true_eq, Bool.not_eq_true'] at h
      have h1 := h
      subst h1
      exact s_con (con_rep k) con_pe
    · cases h
  | .glo k, K, X, W, ex, g, h => by
    simp only [ckE] at h
    split at h
    · try simp only [Bool.and_eq_true, decide_eq_true_eq, Bool.not_eq_true'] at h
      obtain ⟨⟨h1, h2⟩, h3⟩ := h
      obtain ⟨k', e1, e2⟩ := Option.map_eq_some_iff.mp h1
      cases con_inj e2
      obtain ⟨u, m1, m2⟩ := g.gl.glo _ _ e1
      exact s_con (con_rep k) (pe_glob (g.glob h2) m1 m2 h3)
    · cases h
  | .var i, K, X, W, ex, g, h => by
    simp only [ckE] at h
    split at h
    · try simp only [Bool.and_eq_true, decide_eq_true_eq, Bool.not_eq_true'] at h
      have h1 := h
      exact s_var (g.vis h1)
    · cases h
  | .bin op a b, K, X, W, ex, g, h => by
    simp only [ckE] at h
    split at h
    · try simp only [Bool.and_eq_true, decide_eq_true_eq, Bool.not_eq_true'] at h
      obtain ⟨⟨h1, h2⟩, h3⟩ := h
      subst h1
      exact s_bin g.k (soE a g h2) (soE b g h3)
    · cases h
  | .neg a, K, X, W, ex, g, h => by
    simp only [ckE] at h
    split at h
    · try simp only [Bool.and_eq_true, decide_eq_true_eq, Bool.not_eq_true'] at h
      obtain ⟨h1, h2⟩ := h
      subst h1
      exact s_neg (soE a g h2)
    · cases h
  | .not a, K, X, W, ex, g, h => by
    simp only [ckE] at h
    split at h
    · try simp only [Bool.and_eq_true, decide_eq_true_eq, Bool.not_eq_true'] at h
      obtain ⟨h1, h2⟩ := h
      subst h1
      exact s_not g.k (soE a g h2)
    · cases h
  | .cmp op a b, K, X, W, ex, g, h => by
    simp only [ckE] at h
    split at h
    · try simp only [Bool.and_eq_true, decide_eq_true_eq, Bool.not_eq_true'] at h
      obtain ⟨⟨⟨h1, h2⟩, h3⟩, h4⟩ := h
      subst h1
      exact s_cmp g.k g.un h2 (soE a g h3) (soE b g h4)
    · cases h
  | .chn op op2 a b e, K, X, W, ex, g, h => by
    simp only [ckE] at h
    split at h
    · try simp only [Bool.and_eq_true, decide_eq_true_eq, Bool.not_eq_true'] at h
      obtain ⟨⟨⟨⟨⟨h1, h2⟩, h3⟩, h4⟩, h5⟩, h6⟩ := h
      subst h1
      subst h2
      exact s_chain g.k g.un h3 (soE a g h4) (soE b g h5) (soE e g h6)
    · cases h
  | .ife t a b, K, X, W, ex, g, h => by
    simp only [ckE] at h
    split at h
    · try simp only [Bool.and_eq_true, decide_eq_true_eq, Bool.not_eq_true'] at h
      obtain ⟨⟨h1, h2⟩, h3⟩ := h
      exact s_ife (soB t g h1) (soE a g h2) (soE b g h3)
    · cases h
  | .and v, K, X, W, ex, g, h => by
    simp only [ckE] at h
    split at h
    · try simp only [Bool.and_eq_true, decide_eq_true_eq, Bool.not_eq_true'] at h
      obtain ⟨⟨h1, h2⟩, h3⟩ := h
      subst h1
      exact (soAnd v g h3).2 h2
    · cases h
  | .or v, K, X, W, ex, g, h => by
    simp only [ckE] at h
    split at h
    · try simp only [Bool.and_eq_true, decide_eq_true_eq, Bool.not_eq_true'] at h
      obtain ⟨⟨h1, h2⟩, h3⟩ := h
      subst h1
      exact (soOr v g h3).2 h2
    · cases h
  | .tup es, K, X, W, ex, g, h => by
    simp only [ckE] at h
    split at h
    · try simp only [Bool.and_eq_true, decide_eq_true_eq, Bool.not_eq_true'] at h
      obtain ⟨h1, h2⟩ := h
      exact s_tup (fun ρ ds ρ' q => by rw [evA_len es _ _ _ _ _ h2 q]; have : LN = 16777216 := rfl; omega) (soA es g h2)
    · cases h
  | .fr f, K, X, W, ex, g, h => by
    simp only [ckE] at h
    exact s_fr (soF f g h)
  | .ix a b, K, X, W, ex, g, h => by
    simp only [ckE] at h
    split at h
    · try simp only [Bool.and_eq_true, decide_eq_true_eq, Bool.not_eq_true'] at h
      obtain ⟨⟨h1, h2⟩, h3⟩ := h
      exact s_ix g.k g.un h1 (soE a g h2) (soE b g h3)
    · cases h
  | .ixV i b, K, X, W, ex, g, h => by
    simp only [ckE] at h
    split at h
    · try simp only [Bool.and_eq_true, decide_eq_true_eq, Bool.not_eq_true'] at h
      obtain ⟨⟨h1, h2⟩, h3⟩ := h
      exact s_ixV g.k g.un h1 (g.vis h2) (soE b g h3)
    · cases h
  | .sl a lo hi, K, X, W, ex, g, h => by
    simp only [ckE] at h
    split at h
    · try simp only [Bool.and_eq_true, decide_eq_true_eq, Bool.not_eq_true'] at h
      obtain ⟨⟨h1, h2⟩, h3⟩ := h
      exact s_slice g.k (soE a g h1) (soO lo g h2) (soO hi g h3)
    · cases h
  | .slV i lo hi, K, X, W, ex, g, h => by
    simp only [ckE] at h
    split at h
    · try simp only [Bool.and_eq_true, decide_eq_true_eq, Bool.not_eq_true'] at h
      obtain ⟨⟨h1, h2⟩, h3⟩ := h
      exact s_sliceV g.k (g.vis h1) (soO lo g h2) (soO hi g h3)
    · cases h
  | .b1 f a, K, X, W, ex, g, h => by
    simp only [ckE] at h
    split at h
    · try simp only [Bool.and_eq_true, decide_eq_true_eq, Bool.not_eq_true'] at h
      obtain ⟨⟨⟨h1, h2⟩, h3⟩, h4⟩ := h
      subst h1
      exact s_b1 f g.k g.calm (g.glob h2) (g.freeB (b1_mem f)) h3 (soL a g h4)
    · cases h
  | .b2 f a b, K, X, W, ex, g, h => by
    simp only [ckE] at h
    split at h
    · try simp only [Bool.and_eq_true, decide_eq_true_eq, Bool.not_eq_true'] at h
      obtain ⟨⟨⟨⟨⟨h1, h2⟩, h3⟩, h4⟩, h5⟩, h6⟩ := h
      subst h1
      exact s_b2 f g.calm (g.glob h2) (g.freeB (b2_mem f)) h3 h4 (soE a g h5) (soE b g h6)
    · cases h
  | .isi t a, K, X, W, ex, g, h => by
    simp only [ckE] at h
    split at h
    · try simp only [Bool.and_eq_true, decide_eq_true_eq, Bool.not_eq_true'] at h
      obtain ⟨⟨⟨⟨⟨h1, h2⟩, h3⟩, h4⟩, h5⟩, h6⟩ := h
      subst h1
      subst h3
      exact s_isi t g.k (g.glob h2) (g.freeB (by decide)) (g.glob h4) (g.freeB (ty_mem t)) h5 (soL a g h6)
    · cases h
  | .call k n' es, K, X, W, ex, g, h => by
    simp only [ckE] at h
    split at h
    · try simp only [Bool.and_eq_true, decide_eq_true_eq, Bool.not_eq_true'] at h
      obtain ⟨⟨h1, h2⟩, h3⟩ := h
      unfold Ck.fnC at h1
      simp only [Bool.and_eq_true, decide_eq_true_eq, Bool.not_eq_true'] at h1
      obtain ⟨⟨f1, f2⟩, f3⟩ := h1
      obtain ⟨f, fd, ps, rfl, F, m, kp, bd⟩ := g.gl.dD _ _ _ f1
      exact s_call F g.rm (g.glob f2) m kp bd g.tk f3 h2 (soA es g h3)
    · cases h
  | .callM k n' i es, K, X, W, ex, g, h => by
    simp only [ckE] at h
    split at h
    · try simp only [Bool.and_eq_true, decide_eq_true_eq, Bool.not_eq_true'] at h
      obtain ⟨⟨⟨h1, h2⟩, h3⟩, h4⟩ := h
      unfold Ck.fnC at h1
      simp only [Bool.and_eq_true, decide_eq_true_eq, Bool.not_eq_true'] at h1
      obtain ⟨⟨f1, f2⟩, f3⟩ := h1
      obtain ⟨f, fd, ps, rfl, F, m, kp, bd⟩ := g.gl.dM _ _ _ f1
      exact s_callM F g.rm (g.glob f2) m kp bd g.tk f3 h3 (g.vis h2) (soA es g h4)
    · cases h
  | .callX ks m ix es, K, X, W, ex, g, h => by
    simp only [ckE] at h
    split at h
    · try simp only [Bool.and_eq_true, decide_eq_true_eq, Bool.not_eq_true'] at h
      obtain ⟨⟨⟨⟨⟨h1, h2⟩, h3⟩, h4⟩, h5⟩, h6⟩ := h
      obtain ⟨q1, q2⟩ := fns_sound g h3
      exact s_callX g.k q2 g.rm g.un g.tk h1 h2 q1 (soE ix g h4) h5 (soA es g h6)
    · cases h
  | .pop i, K, X, W, ex, g, h => by
    simp only [ckE] at h
    split at h
    · try simp only [Bool.and_eq_true, decide_eq_true_eq, Bool.not_eq_true'] at h
      obtain ⟨⟨h1, h2⟩, h3⟩ := h
      subst h1
      exact s_pop (g.vis h2) h3
    · cases h
  | .popAt i e, K, X, W, ex, g, h => by
    simp only [ckE] at h
    split at h
    · try simp only [Bool.and_eq_true, decide_eq_true_eq, Bool.not_eq_true'] at h
      obtain ⟨⟨⟨⟨h1, h2⟩, h3⟩, h4⟩, h5⟩ := h
      subst h1
      exact s_popAt (g.vis h2) h3 h4 (soE e g h5)
    · cases h
  | .isin neg a l, K, X, W, ex, g, h => by
    simp only [ckE] at h
    split at h
    · try simp only [Bool.and_eq_true, decide_eq_true_eq, Bool.not_eq_true'] at h
      obtain ⟨⟨⟨h1, h2⟩, h3⟩, h4⟩ := h
      exact s_isin h1 g.k g.un h2 (soE a g h3) (soL l g h4)
    · cases h
  | .cmpV op i b, K, X, W, ex, g, h => by
    simp only [ckE] at h
    split at h
    · try simp only [Bool.and_eq_true, decide_eq_true_eq, Bool.not_eq_true'] at h
      obtain ⟨⟨⟨h1, h2⟩, h3⟩, h4⟩ := h
      subst h1
      exact s_cmpV g.k g.un h2 (g.vis h3) (soE b g h4)
    · cases h
  | .callMO k i j, K, X, W, ex, g, h => by
    simp only [ckE] at h
    split at h
    · try simp only [Bool.and_eq_true, decide_eq_true_eq, Bool.not_eq_true'] at h
      obtain ⟨⟨h1, h2⟩, h3⟩ := h
      unfold Ck.fnC at h1
      simp only [Bool.and_eq_true, decide_eq_true_eq, Bool.not_eq_true'] at h1
      obtain ⟨⟨f1, f2⟩, f3⟩ := h1
      obtain ⟨f, fd, ps, hp, F, m, kp, bd⟩ := g.gl.dM _ _ _ f1
      exact s_callMO F g.rm (g.glob f2) m kp bd g.tk f3 hp (g.vis h2) (g.vis h3)
    · cases h
  | .lenSS a, K, X, W, ex, g, h => by
    simp only [ckE] at h
    split at h
    · try simp only [Bool.and_eq_true, decide_eq_true_eq, Bool.not_eq_true'] at h
      obtain ⟨⟨⟨⟨⟨h1, h2⟩, h3⟩, h4⟩, h5⟩, h6⟩ := h
      subst h1
      subst h3
      exact s_lenSS g.k g.calm (g.glob h2) (g.freeB (by decide)) (g.glob h4) (g.freeB (by decide)) h5 (soL a g h6)
    · cases h
  | .max3 a b e, K, X, W, ex, g, h => by
    simp only [ckE] at h
    split at h
    · try simp only [Bool.and_eq_true, decide_eq_true_eq, Bool.not_eq_true'] at h
      obtain ⟨⟨⟨⟨⟨⟨⟨h1, h2⟩, h3⟩, h4⟩, h5⟩, h6⟩, h7⟩, h8⟩ := h
      subst h1
      exact s_max3 g.calm (g.glob h2) (g.freeB (by decide)) h3 h4 h5 (soE a g h6) (soE b g h7) (soE e g h8)
    · cases h
  | .frD gm, K, X, W, ex, g, h => by
    simp only [ckE] at h
    exact s_frD (fun ρ b ρ' q => evG_nb gm ρ b ρ' q) (soG gm g h)
theorem soL : ∀ (e : L) {K : Ck} {X : Cx} {W : WX} {ex : Expr} (g : Good K c G n X W), ckL e K ex = true → PE X ex (tL c W (evL G e))
  | .lk i, K, X, W, ex, g, h => by
    simp only [ckL] at h
    split at h
    · try simp only [Bool.and_eq_true, decide_eq_true_eq, Bool.not_eq_true'] at h
      have h1 := h
      exact s_varL (g.vis h1)
    · cases h
  | .vl e, K, X, W, ex, g, h => by
    simp only [ckL] at h
    exact s_toL (soE e g h)
theorem soAnd : ∀ (v : Vs) {K : Ck} {X : Cx} {W : WX} {es : List Expr} {pos : Pos} (g : Good K c G n X W), ckVs v K es = true → (∀ x, es = [x] → PE X x (tE c W (evAnd G v))) ∧ (2 ≤ es.length → PE X (.BoolOp .And es pos) (tE c W (evAnd G v)))
  | .one e, K, X, W, es, pos, g, h => by
    simp only [ckVs] at h
    split at h
    · exact ⟨fun x q => by cases q; exact soE e g h, fun q => by simp at q⟩
    · cases h
  | .more e v, K, X, W, es, pos, g, h => by
    simp only [ckVs] at h
    split at h
    · rename_i x y r
      simp only [Bool.and_eq_true] at h
      refine ⟨fun x q => by simp at q, fun _ => s_and g.k (soE e g h.1) ?_⟩
      have q := soAnd v (pos := pos) g h.2
      cases r with
      | nil => exact s_andE1 (q.1 y rfl)
      | cons z r => exact q.2 (by simp)
    · cases h
theorem soOr : ∀ (v : Vs) {K : Ck} {X : Cx} {W : WX} {es : List Expr} {pos : Pos} (g : Good K c G n X W), ckVs v K es = true → (∀ x, es = [x] → PE X x (tE c W (evOr G v))) ∧ (2 ≤ es.length → PE X (.BoolOp .Or es pos) (tE c W (evOr G v)))
  | .one e, K, X, W, es, pos, g, h => by
    simp only [ckVs] at h
    split at h
    · exact ⟨fun x q => by cases q; exact soE e g h, fun q => by simp at q⟩
    · cases h
  | .more e v, K, X, W, es, pos, g, h => by
    simp only [ckVs] at h
    split at h
    · rename_i x y r
      simp only [Bool.and_eq_true] at h
      refine ⟨fun x q => by simp at q, fun _ => s_or g.k (soE e g h.1) ?_⟩
      have q := soOr v (pos := pos) g h.2
      cases r with
      | nil => exact s_orE1 (q.1 y rfl)
      | cons z r => exact q.2 (by simp)
    · cases h
theorem soB : ∀ (e : B) {K : Ck} {X : Cx} {W : WX} {ex : Expr} (g : Good K c G n X W), ckB e K ex = true → PT X ex (tT c W (evB G e))
  | .cmp op a b, K, X, W, ex, g, h => by
    simp only [ckB] at h
    split at h
    · try simp only [Bool.and_eq_true, decide_eq_true_eq, Bool.not_eq_true'] at h
      obtain ⟨⟨⟨h1, h2⟩, h3⟩, h4⟩ := h
      subst h1
      exact s_cmpT g.k g.un h2 (soE a g h3) (soE b g h4)
    · cases h
  | .chn op op2 a b e, K, X, W, ex, g, h => by
    simp only [ckB] at h
    split at h
    · try simp only [Bool.and_eq_true, decide_eq_true_eq, Bool.not_eq_true'] at h
      obtain ⟨⟨⟨⟨⟨h1, h2⟩, h3⟩, h4⟩, h5⟩, h6⟩ := h
      subst h1
      subst h2
      exact s_chainT g.k g.un h3 (soE a g h4) (soE b g h5) (soE e g h6)
    · cases h
  | .and w, K, X, W, ex, g, h => by
    simp only [ckB] at h
    split at h
    · try simp only [Bool.and_eq_true, decide_eq_true_eq, Bool.not_eq_true'] at h
      obtain ⟨h1, h2⟩ := h
      subst h1
      exact (soWA w g h2).pt
    · cases h
  | .or w, K, X, W, ex, g, h => by
    simp only [ckB] at h
    split at h
    · try simp only [Bool.and_eq_true, decide_eq_true_eq, Bool.not_eq_true'] at h
      obtain ⟨h1, h2⟩ := h
      subst h1
      exact (soWO w g h2).pt
    · cases h
  | .not b, K, X, W, ex, g, h => by
    simp only [ckB] at h
    split at h
    · try simp only [Bool.and_eq_true, decide_eq_true_eq, Bool.not_eq_true'] at h
      obtain ⟨h1, h2⟩ := h
      subst h1
      exact s_notT (soB b g h2)
    · cases h
  | .tr a, K, X, W, ex, g, h => by
    simp only [ckB, Bool.and_eq_true] at h
    exact s_truth g.k (plainT_ok h.1 _) (soL a g h.2)
  | .isin neg a l, K, X, W, ex, g, h => by
    simp only [ckB] at h
    split at h
    · try simp only [Bool.and_eq_true, decide_eq_true_eq, Bool.not_eq_true'] at h
      obtain ⟨⟨⟨h1, h2⟩, h3⟩, h4⟩ := h
      exact s_isinT h1 g.k g.un h2 (soE a g h3) (soL l g h4)
    · cases h
  | .cmpV op i b, K, X, W, ex, g, h => by
    simp only [ckB] at h
    split at h
    · try simp only [Bool.and_eq_true, decide_eq_true_eq, Bool.not_eq_true'] at h
      obtain ⟨⟨⟨h1, h2⟩, h3⟩, h4⟩ := h
      subst h1
      exact s_cmpVT g.k g.un h2 (g.vis h3) (soE b g h4)
    · cases h
theorem soWA : ∀ (v : Ws) {K : Ck} {X : Cx} {W : WX} {es : List Expr} {pos : Pos} (g : Good K c G n X W), ckWs v K es = true → PW X (.BoolOp .And es pos) (tT c W (evWA G v))
  | .one e, K, X, W, es, pos, g, h => by
    simp only [ckWs] at h
    split at h
    · exact s_and1 (soB e g h)
    · cases h
  | .more e v, K, X, W, es, pos, g, h => by
    simp only [ckWs] at h
    split at h
    · simp only [Bool.and_eq_true] at h
      exact s_andT (soB e g h.1) (soWA v g h.2)
    · cases h
theorem soWO : ∀ (v : Ws) {K : Ck} {X : Cx} {W : WX} {es : List Expr} {pos : Pos} (g : Good K c G n X W), ckWs v K es = true → PW X (.BoolOp .Or es pos) (tT c W (evWO G v))
  | .one e, K, X, W, es, pos, g, h => by
    simp only [ckWs] at h
    split at h
    · exact s_or1 (soB e g h)
    · cases h
  | .more e v, K, X, W, es, pos, g, h => by
    simp only [ckWs] at h
    split at h
    · simp only [Bool.and_eq_true] at h
      exact s_orT (soB e g h.1) (soWO v g h.2)
    · cases h
theorem soO : ∀ (e : O) {K : Ck} {X : Cx} {W : WX} {o : Option Expr} (g : Good K c G n X W), ckO e K o = true → PPart X c W o (evO G e)
  | .no, K, X, W, o, g, h => by
    simp only [ckO] at h
    split at h
    · exact s_pnone
    · cases h
  | .so e, K, X, W, o, g, h => by
    simp only [ckO] at h
    split at h
    · exact s_psome (soE e g h)
    · cases h
theorem soA : ∀ (e : A) {K : Ck} {X : Cx} {W : WX} {es : List Expr} (g : Good K c G n X W), ckA e K es = true → PA X es (tA c W (evA G e))
  | .nil, K, X, W, es, g, h => by
    simp only [ckA] at h
    split at h
    · exact s_nil
    · cases h
  | .cons e r, K, X, W, es, g, h => by
    simp only [ckA] at h
    split at h
    · simp only [Bool.and_eq_true] at h
      exact s_cons h.1.1 (soE e g h.1.2) (soA r g h.2)
    · cases h
theorem soF : ∀ (e : F) {K : Ck} {X : Cx} {W : WX} {ex : Expr} (g : Good K c G n X W), ckF e K ex = true → PE X ex (tF c W (evF G e))
  | .lst es, K, X, W, ex, g, h => by
    simp only [ckF] at h
    split at h
    · try simp only [Bool.and_eq_true, decide_eq_true_eq, Bool.not_eq_true'] at h
      obtain ⟨h1, h2⟩ := h
      exact s_lst (fun ρ ds ρ' q => by rw [evA_len es _ _ _ _ _ h2 q]; have : LN = 16777216 := rfl; omega) (soA es g h2)
    · cases h
  | .listOf a, K, X, W, ex, g, h => by
    simp only [ckF] at h
    split at h
    · try simp only [Bool.and_eq_true, decide_eq_true_eq, Bool.not_eq_true'] at h
      obtain ⟨⟨⟨h1, h2⟩, h3⟩, h4⟩ := h
      subst h1
      exact s_listOf g.k (g.glob h2) (g.freeB (by decide)) h3 (soL a g h4)
    · cases h
  | .listRev a, K, X, W, ex, g, h => by
    simp only [ckF] at h
    split at h
    · try simp only [Bool.and_eq_true, decide_eq_true_eq, Bool.not_eq_true'] at h
      obtain ⟨⟨⟨⟨⟨h1, h2⟩, h3⟩, h4⟩, h5⟩, h6⟩ := h
      subst h1
      subst h3
      exact s_listRev g.k g.calm (g.glob h2) (g.freeB (by decide)) (g.glob h4) (g.freeB (by decide)) h5 (soL a g h6)
    · cases h
  | .rg1 a, K, X, W, ex, g, h => by
    simp only [ckF] at h
    split at h
    · try simp only [Bool.and_eq_true, decide_eq_true_eq, Bool.not_eq_true'] at h
      obtain ⟨⟨⟨⟨⟨h1, h2⟩, h3⟩, h4⟩, h5⟩, h6⟩ := h
      subst h1
      subst h3
      exact s_listRg1 g.calm (g.glob h2) (g.freeB (by decide)) (g.glob h4) (g.freeB (by decide)) h5 (soE a g h6)
    · cases h
  | .rg2 a b, K, X, W, ex, g, h => by
    simp only [ckF] at h
    split at h
    · try simp only [Bool.and_eq_true, decide_eq_true_eq, Bool.not_eq_true'] at h
      obtain ⟨⟨⟨⟨⟨⟨⟨h1, h2⟩, h3⟩, h4⟩, h5⟩, h6⟩, h7⟩, h8⟩ := h
      subst h1
      subst h3
      exact s_listRg2 g.calm (g.glob h2) (g.freeB (by decide)) (g.glob h4) (g.freeB (by decide)) h5 h6 (soE a g h7) (soE b g h8)
    · cases h
  | .sorted a, K, X, W, ex, g, h => by
    simp only [ckF] at h
    split at h
    · try simp only [Bool.and_eq_true, decide_eq_true_eq, Bool.not_eq_true'] at h
      obtain ⟨⟨⟨h1, h2⟩, h3⟩, h4⟩ := h
      subst h1
      exact s_sorted g.k g.calm (g.glob h2) (g.freeB (by decide)) h3 (soL a g h4)
    · cases h
  | .cat a b, K, X, W, ex, g, h => by
    simp only [ckF] at h
    split at h
    · try simp only [Bool.and_eq_true, decide_eq_true_eq, Bool.not_eq_true'] at h
      obtain ⟨⟨h1, h2⟩, h3⟩ := h
      subst h1
      exact s_cat (soE a g h2) (soE b g h3)
    · cases h
  | .rep a b, K, X, W, ex, g, h => by
    simp only [ckF] at h
    split at h
    · try simp only [Bool.and_eq_true, decide_eq_true_eq, Bool.not_eq_true'] at h
      obtain ⟨⟨h1, h2⟩, h3⟩ := h
      subst h1
      exact s_rep (soE a g h2) (soE b g h3)
    · cases h
  | .comp tg it t e vs, K, X, W, ex, g, h => by
    simp only [ckF] at h
    split at h
    · rename_i elt tgx iter ifs asy scope pos
      simp only [Bool.and_eq_true, decide_eq_true_eq, Bool.not_eq_true'] at h
      obtain ⟨⟨⟨⟨⟨⟨⟨h1, h2⟩, h3⟩, h4⟩, h5⟩, h6⟩, h7⟩, h8⟩ := h
      subst h1
      have ok := blkOk_by h2
      have e0 : (ownOf K.N vs).map (·.2) = vs := ownOf_snd _ _
      have q := s_comp (X := X) (pos := pos) (c := c) (W := W) (T := tg) (fi := fun ρ => (evI G it ρ).bind few) (ft := evC G t) (fe := evE G e) (own := ownOf K.N vs) g.calm g.nd (i_few (soI it g h5)) (by rw [g.N, g.sc]; exact ok) (by
        rw [e0]
        intro i hi
        have := List.all_eq_true.mp h3 i hi
        simpa using this)
        (fun s H C cl fp => tg_sound (c := c) (K := K) (X := X.blk s H _ (compEnvC _ cl C X.env) fp) g.k g.calm (fun i x pos hx => by
          have hb := g.loB (s := s) (H := H) (C := C) (cl := cl) (fp := fp) hx
          exact pg_name (X := X.blk s H _ (compEnvC _ cl C X.env) fp) g.nd hb.1 hb.2.1 hb.2.2) h6)
        (fun s H C cl fp => soC t (g.blk s H _ C cl fp) h7) (fun s H C cl fp => soE e (g.blk s H _ C cl fp) h8) (noFold h4)
      rw [e0] at q
      exact q
    · cases h
  | .call k n' es, K, X, W, ex, g, h => by
    simp only [ckF] at h
    split at h
    · try simp only [Bool.and_eq_true, decide_eq_true_eq, Bool.not_eq_true'] at h
      obtain ⟨⟨h1, h2⟩, h3⟩ := h
      unfold Ck.fnC at h1
      simp only [Bool.and_eq_true, decide_eq_true_eq, Bool.not_eq_true'] at h1
      obtain ⟨⟨f1, f2⟩, f3⟩ := h1
      obtain ⟨f, fd, ps, rfl, F, m, kp, bd⟩ := g.gl.dF _ _ _ f1
      exact s_callF F g.rm (g.glob f2) m kp bd g.tk f3 h2 (soA es g h3)
    · cases h
  | .mov i, K, X, W, ex, g, h => by
    simp only [ckF] at h
    split at h
    · try simp only [Bool.and_eq_true, decide_eq_true_eq, Bool.not_eq_true'] at h
      have h1 := h
      exact s_mov (g.vis h1)
    · cases h
  | .sortSS a, K, X, W, ex, g, h => by
    simp only [ckF] at h
    split at h
    · try simp only [Bool.and_eq_true, decide_eq_true_eq, Bool.not_eq_true'] at h
      obtain ⟨⟨⟨⟨⟨h1, h2⟩, h3⟩, h4⟩, h5⟩, h6⟩ := h
      subst h1
      subst h3
      exact s_sortSS g.k g.calm (g.glob h2) (g.freeB (by decide)) (g.glob h4) (g.freeB (by decide)) h5 (soL a g h6)
    · cases h
  | .sortK a, K, X, W, ex, g, h => by
    simp only [ckF] at h
    split at h
    · try simp only [Bool.and_eq_true, decide_eq_true_eq, Bool.not_eq_true'] at h
      obtain ⟨⟨⟨h1, h2⟩, h3⟩, h4⟩ := h
      subst h1
      exact s_sortK g.calm (g.glob h2) (g.freeB (by decide)) h3 (soE a g h4)
    · cases h
  | .sortP a, K, X, W, ex, g, h => by
    simp only [ckF] at h
    split at h
    · try simp only [Bool.and_eq_true, decide_eq_true_eq, Bool.not_eq_true'] at h
      obtain ⟨⟨⟨h1, h2⟩, h3⟩, h4⟩ := h
      subst h1
      exact s_sortP g.k (g.glob h2) (g.freeB (by decide)) h3 (soL a g h4)
    · cases h
  | .lstS es, K, X, W, ex, g, h => by
    simp only [ckF] at h
    split at h
    · skip
      exact s_lstS (soAs es g h)
    · cases h
theorem soAs : ∀ (e : As) {K : Ck} {X : Cx} {W : WX} {es : List Expr} (g : Good K c G n X W), ckAs e K es = true → PA X es (tA c W (evAs G e))
  | .nil, K, X, W, es, g, h => by
    simp only [ckAs] at h
    split at h
    · exact s_nil
    · cases h
  | .cons e r, K, X, W, es, g, h => by
    simp only [ckAs] at h
    split at h
    · simp only [Bool.and_eq_true] at h
      exact s_cons h.1.1 (soE e g h.1.2) (soAs r g h.2)
    · cases h
  | .star e r, K, X, W, es, g, h => by
    simp only [ckAs] at h
    split at h
    · simp only [Bool.and_eq_true] at h
      exact s_starP g.k (soE e g h.1) (soAs r g h.2)
    · cases h
theorem soG : ∀ (e : Gm) {K : Ck} {X : Cx} {W : WX} {ex : Expr} (g : Good K c G n X W), ckG e K ex = true → PE X ex (tO c W (evG G e))
  | .new t, K, X, W, ex, g, h => by
    simp only [ckG] at h
    split at h
    · exact s_newD
    · cases h
  | .comp isT tg it t ek ev vs, K, X, W, ex, g, h => by
    simp only [ckG] at h
    split at h
    · rename_i kx vx tgx iter ifs asy scope pos
      simp only [Bool.and_eq_true, decide_eq_true_eq, Bool.not_eq_true'] at h
      obtain ⟨⟨⟨⟨⟨⟨⟨⟨h1, h2⟩, h3⟩, h4⟩, h5⟩, h6⟩, h7⟩, h8⟩, h9⟩ := h
      subst h1
      have ok := blkOk_by h2
      have e0 : (ownOf K.N vs).map (·.2) = vs := ownOf_snd _ _
      have q := s_dcomp (X := X) (pos := pos) (c := c) (W := W) (T := tg) (isT := isT) (fi := evI G it) (ft := evC G t) (fk := evE G ek) (fv := evE G ev) (own := ownOf K.N vs) g.calm g.un g.nd (soI it g h5) (by rw [g.N, g.sc]; exact ok) (by
        rw [e0]
        intro i hi
        have := List.all_eq_true.mp h3 i hi
        simpa using this)
        (fun s H C cl fp => tg_sound (c := c) (K := K) (X := X.blk s H _ (compEnvC _ cl C X.env) fp) g.k g.calm (fun i x pos hx => by
          have hb := g.loB (s := s) (H := H) (C := C) (cl := cl) (fp := fp) hx
          exact pg_name (X := X.blk s H _ (compEnvC _ cl C X.env) fp) g.nd hb.1 hb.2.1 hb.2.2) h6)
        (fun s H C cl fp => soC t (g.blk s H _ C cl fp) h7) (fun s H C cl fp => soE ek (g.blk s H _ C cl fp) h8) (fun s H C cl fp => soE ev (g.blk s H _ C cl fp) h9) (noFold h4)
      rw [e0] at q
      exact q
    · cases h
theorem soC : ∀ (e : Cd) {K : Ck} {X : Cx} {W : WX} {es : List Expr} (g : Good K c G n X W), ckC e K es = true → PTs X es (tT c W (evC G e))
  | .no, K, X, W, es, g, h => by
    simp only [ckC] at h
    split at h
    · exact s_noifs
    · cases h
  | .one e, K, X, W, es, g, h => by
    simp only [ckC] at h
    split at h
    · exact s_oneif (soB e g h)
    · cases h
theorem soI : ∀ (e : I) {K : Ck} {X : Cx} {W : WX} {tg ex : Expr} (g : Good K c G n X W), ckI e K tg ex = true → PI X tg ex (tI c W (evI G e))
  | .sq a, K, X, W, tg, ex, g, h => by
    simp only [ckI] at h
    exact i_ofJ (i_seq g.k (soE a g h))
  | .r1 a, K, X, W, tg, ex, g, h => by
    simp only [ckI] at h
    split at h
    · try simp only [Bool.and_eq_true, decide_eq_true_eq, Bool.not_eq_true'] at h
      obtain ⟨⟨⟨h1, h2⟩, h3⟩, h4⟩ := h
      subst h1
      exact i_range1 (g.glob h2) (g.freeB (by decide)) h3 (soE a g h4)
    · cases h
  | .r2 a b, K, X, W, tg, ex, g, h => by
    simp only [ckI] at h
    split at h
    · try simp only [Bool.and_eq_true, decide_eq_true_eq, Bool.not_eq_true'] at h
      obtain ⟨⟨⟨⟨⟨h1, h2⟩, h3⟩, h4⟩, h5⟩, h6⟩ := h
      subst h1
      exact i_range2 (g.glob h2) (g.freeB (by decide)) h3 h4 (soE a g h5) (soE b g h6)
    · cases h
  | .r3 a b e, K, X, W, tg, ex, g, h => by
    simp only [ckI] at h
    split at h
    · try simp only [Bool.and_eq_true, decide_eq_true_eq, Bool.not_eq_true'] at h
      obtain ⟨⟨⟨⟨⟨⟨⟨h1, h2⟩, h3⟩, h4⟩, h5⟩, h6⟩, h7⟩, h8⟩ := h
      subst h1
      exact i_range3 (g.glob h2) (g.freeB (by decide)) h3 h4 h5 (soE a g h6) (soE b g h7) (soE e g h8)
    · cases h
  | .zip a b, K, X, W, tg, ex, g, h => by
    simp only [ckI] at h
    split at h
    · try simp only [Bool.and_eq_true, decide_eq_true_eq, Bool.not_eq_true'] at h
      obtain ⟨⟨⟨⟨⟨h1, h2⟩, h3⟩, h4⟩, h5⟩, h6⟩ := h
      subst h1
      exact i_ofJ (i_zip g.k (g.glob h2) (g.freeB (by decide)) h3 h4 (soE a g h5) (soE b g h6))
    · cases h
  | .enum a, K, X, W, tg, ex, g, h => by
    simp only [ckI] at h
    split at h
    · try simp only [Bool.and_eq_true, decide_eq_true_eq, Bool.not_eq_true'] at h
      obtain ⟨⟨⟨h1, h2⟩, h3⟩, h4⟩ := h
      subst h1
      exact i_ofJ (i_enum (g.glob h2) (g.freeB (by decide)) h3 (soE a g h4))
    · cases h
  | .rev a, K, X, W, tg, ex, g, h => by
    simp only [ckI] at h
    split at h
    · try simp only [Bool.and_eq_true, decide_eq_true_eq, Bool.not_eq_true'] at h
      obtain ⟨⟨⟨h1, h2⟩, h3⟩, h4⟩ := h
      subst h1
      exact i_ofJ (i_rev (g.glob h2) (g.freeB (by decide)) h3 (soE a g h4))
    · cases h
end
end
end Ev

end
section
set_option maxHeartbeats 4000000
namespace Ev
open PySem PySem.Spec PyProof.Rows L2

/-! ### stores that are swapped, or not -/
def isTupE : Expr → Bool
  | .Tuple .. => true
  | _ => false
theorem kindFn {env : Env} (h : env.scope.kind = .function) : env.blockKind = .function := by
  unfold Env.blockKind
  rw [h]; rfl
theorem sw_noTup {ts : List Expr} {kt : Nat} {pt : Pos} {e : Expr} {env : Env} (h : isTupE e = false) : swappedStores [.Tuple ts kt pt] e env = pure none := by
  cases e <;> first | rfl | (cases h; done)
def fold8 (vs : List Expr) : Bool := vs.all (foldedForSure 8)
def cons8 (vs : List Expr) : Bool := vs.all (constantsAlone 8)
theorem sw_two {x y : Str} {px py : Pos} {a b : Expr} {kt k2 : Nat} {pt pt2 : Pos} {env : Env} (hk : env.scope.kind = .function) (hx : env.scope.names.lookup x = some .local) (hy : env.scope.names.lookup y = some .local) (hl : (py.line == px.line) = true) (hxy : x ≠ y) (ha : noStar a = true) (hb : noStar b = true) (hf : fold8 [a, b] = false) (hc : cons8 [a, b] = false) :
    swappedStores [.Tuple [.Name x px, .Name y py] kt pt] (.Tuple [a, b] k2 pt2) env = pure (some [x, y]) := by
  have e1 : env.kindOf x = some .local := hx
  have e2 : env.kindOf y = some .local := hy
  have ed : [x, y].eraseDups = [x, y] := by
    have : (y == x) = false := by simpa using Ne.symm hxy
    simp [List.eraseDups_cons, this]
  unfold fold8 at hf
  unfold cons8 at hc
  unfold swappedStores
  simp only [List.length_cons, List.length_nil, kindFn hk, List.any_cons, List.any_nil, List.head?_cons, Option.map_some, Option.getD_some, List.filterMap_cons, List.filterMap_nil, e1, e2, Expr.pos, hl, hf, hc, ed]
  simp [ed]
  rintro (h | h)
  · cases a <;> first | (cases h; done) | cases ha
  · cases b <;> first | (cases h; done) | cases hb
theorem sw_three {x y z : Str} {px py pz : Pos} {a b c : Expr} {kt k2 : Nat} {pt pt2 : Pos} {env : Env} (hk : env.scope.kind = .function) (hx : env.scope.names.lookup x = some .local) (hy : env.scope.names.lookup y = some .local) (hz : env.scope.names.lookup z = some .local) (hl : (py.line == px.line) = true) (hl2 : (pz.line == px.line) = true)
    (hxy : x ≠ y) (hxz : x ≠ z) (hyz : y ≠ z) (ha : noStar a = true) (hb : noStar b = true) (hcs : noStar c = true) (hf : fold8 [a, b, c] = false) (hc : cons8 [a, b, c] = false) :
    swappedStores [.Tuple [.Name x px, .Name y py, .Name z pz] kt pt] (.Tuple [a, b, c] k2 pt2) env = pure (some [x, y, z]) := by
  have e1 : env.kindOf x = some .local := hx
  have e2 : env.kindOf y = some .local := hy
  have e3 : env.kindOf z = some .local := hz
  have ed : [x, y, z].eraseDups = [x, y, z] := by
    have h1 : (y == x) = false := by simpa using Ne.symm hxy
    have h2 : (z == x) = false := by simpa using Ne.symm hxz
    have h3 : (z == y) = false := by simpa using Ne.symm hyz
    simp [List.eraseDups_cons, h1, h2, h3]
  unfold fold8 at hf
  unfold cons8 at hc
  unfold swappedStores
  simp only [List.length_cons, List.length_nil, kindFn hk, List.any_cons, List.any_nil, List.head?_cons, Option.map_some, Option.getD_some, List.filterMap_cons, List.filterMap_nil, e1, e2, e3, Expr.pos, hl, hl2, hf, hc, ed]
  simp [ed]
  rintro (h | h | h)
  · cases a <;> first | (cases h; done) | cases ha
  · cases b <;> first | (cases h; done) | cases hb
  · cases c <;> first | (cases h; done) | cases hcs
/-- none are swapped: not two or three, or all folded, or a cell among the names -/
theorem sw_len {ts vs : List Expr} {kt k2 : Nat} {pt pt2 : Pos} {env : Env} (h : (ts.length == 2 || ts.length == 3) = false) : swappedStores [.Tuple ts kt pt] (.Tuple vs k2 pt2) env = pure none := by
  unfold swappedStores
  simp only [h]
  rfl
theorem sw_fold {ts vs : List Expr} {kt k2 : Nat} {pt pt2 : Pos} {env : Env} (h : fold8 vs = true) : swappedStores [.Tuple ts kt pt] (.Tuple vs k2 pt2) env = pure none := by
  unfold fold8 at h
  unfold swappedStores
  simp only [h]
  split
  · rfl
  · split
    · rfl
    · split <;> rfl
def cellAmong (sc : Scope) (ts : List Expr) : Bool := ts.any fun t => match t with | .Name x _ => !(decide (sc.names.lookup x = some .local)) | _ => true
def nmF (env : Env) (l : Nat) : Expr → Option Str
  | .Name id pos => if (env.kindOf id == some .local && pos.line == l) = true then some id else none
  | _ => none
theorem nmF_bad {env : Env} {l : Nat} {t : Expr} (h : (match t with | .Name x _ => !(decide (env.scope.names.lookup x = some .local)) | _ => true) = true) : nmF env l t = none := by
  cases t <;> try rfl
  rename_i x p
  simp only [Bool.not_eq_true', decide_eq_false_iff_not] at h
  have : (env.kindOf x == some NameKind.local) = false := by
    simp only [beq_eq_false_iff_ne]; exact h
  simp [nmF, this]
theorem nmF_len {env : Env} {l : Nat} {ts : List Expr} (h : cellAmong env.scope ts = true) : (ts.filterMap (nmF env l)).length ≠ ts.length := by
  unfold cellAmong at h
  have le : ∀ (us : List Expr), (us.filterMap (nmF env l)).length ≤ us.length := fun us => List.length_filterMap_le _ _
  induction ts with
  | nil => cases h
  | cons t ts ih =>
    rw [List.any_cons, Bool.or_eq_true] at h
    rw [List.filterMap_cons]
    have l1 := le ts
    rcases h with h | h
    · rw [nmF_bad h]
      simp only [List.length_cons]
      omega
    · have l2 := ih h
      split <;> simp only [List.length_cons] <;> omega
theorem sw_cell {ts vs : List Expr} {kt k2 : Nat} {pt pt2 : Pos} {env : Env} (h : cellAmong env.scope ts = true) : swappedStores [.Tuple ts kt pt] (.Tuple vs k2 pt2) env = pure none := by
  have hl := fun l => nmF_len (l := l) h
  unfold swappedStores
  dsimp only
  split
  · rfl
  · split
    · rfl
    · refine if_pos ?_
      rw [Bool.or_eq_true]
      refine .inl ?_
      rw [bne_iff_ne]
      exact hl _
def swapB (K : Ck) (scope : Scope) (x : Str) (l1 l2 : Nat) : Bool :=
  decide (K.sc.names.lookup x = some .local) && (l1 == l2) && !(scope.names.any fun q => q.1 == x && (q.2 == .local || q.2 == .cell))
theorem swapB_eq {K : Ck} {e : Expr} {g : List Comprehension} {scope : Scope} {x : Str} {cpos px : Pos} {l : Nat} {env : Env} (hk : env.scope.kind = .function) (hs : env.scope = K.sc) : swapsWith (.ListComp e g scope cpos) (some (.Name x px)) l env = pure (swapB K scope x px.line cpos.line) := by
  unfold swapsWith swapB
  simp only [kindFn hk]
  have : (env.kindOf x == some NameKind.local) = decide (K.sc.names.lookup x = some .local) := by
    unfold Env.kindOf
    rw [hs]
    rw [Bool.eq_iff_iff]; simp
  rw [this]
  rfl

theorem swapB_eqD {K : Ck} {kx vx : Expr} {g : List Comprehension} {scope : Scope} {x : Str} {cpos px : Pos} {l : Nat} {env : Env} (hk : env.scope.kind = .function) (hs : env.scope = K.sc) : swapsWith (.DictComp kx vx g scope cpos) (some (.Name x px)) l env = pure (swapB K scope x px.line cpos.line) := by
  unfold swapsWith swapB
  simp only [kindFn hk]
  have : (env.kindOf x == some NameKind.local) = decide (K.sc.names.lookup x = some .local) := by
    unfold Env.kindOf
    rw [hs]
    rw [Bool.eq_iff_iff]; simp
  rw [this]
  rfl

/-! ### statements -/
def isCompF : F → Bool
  | .comp .. => true
  | _ => false
def isCompG : Gm → Bool
  | .comp .. => true
  | _ => false
def ckP : P → Ck → List Expr → Bool
  | .nil, K, es => match es with | [] => true | _ => false
  | .cE e r, K, es => match es with | x :: xs => noStar x && ckE e K x && ckP r K xs | _ => false
  | .cF f r, K, es => match es with | x :: xs => noStar x && ckF f K x && ckP r K xs | _ => false
  | .cD g r, K, es => match es with | x :: xs => noStar x && ckG g K x && ckP r K xs | _ => false
def nameIs (x : Str) : Expr → Bool
  | .Name y _ => decide (y = x)
  | _ => false
def ckH : List (Nat × Con) → Ck → List ExceptHandler → Bool
  | [], _, hs => match hs with | [] => true | _ => false
  | q :: l, K, hs => match hs with
    | .ExceptHandler (some (.Name x _)) none [.Return (some (.Constant w _ _)) _] _ :: hds => decide (K.tb.cls[q.1]? = some x) && K.glC x && !(x == ("__debug__" : Str)) && decide (w = q.2.cst) && ckH l K hds
    | _ => false
mutual
def ckS : S → Ck → Stmt → Bool
  | .pass, K, st => match st with | .Pass _ => true | _ => false
  | .brk, K, st => match st with | .Break _ => true | _ => false
  | .cnt, K, st => match st with | .Continue _ => true | _ => false
  | .ret e, K, st => match st with | .Return (some x) _ => ckE e K x | _ => false
  | .retF f, K, st => match st with | .Return (some x) _ => ckF f K x | _ => false
  | .retN, K, st => match st with | .Return none _ => true | _ => false
  | .ife t a b, K, st => match st with | .If x p q _ => ckB t K x && ckSs a K p && ckSs b K q | _ => false
  | .asg i e, K, st => match st with | .Assign [.Name x _] y _ => K.locC i x && !isComp y && ckE e K y | _ => false
  | .asgF i f, K, st => match st with | .Assign [.Name x _] y _ => K.locC i x && (isComp y == isCompF f) && ckF f K y | _ => false
  | .own i f, K, st => match st with | .Assign [.Name x _] y _ => K.locC i x && (isComp y == isCompF f) && ckF f K y | _ => false
  | .asgT tg e, K, st => match st with | .Assign [x] y _ => tgC K.locC tg x && isTupE x && !isTupE y && ckE e K y | _ => false
  | .aug op i e, K, st => match st with | .AugAssign (.Name x _) op' y _ => decide (op' = op) && K.locC i x && ckE e K y | _ => false
  | .app i e, K, st => match st with | .Expr (.Call (.Attribute (.Name x _) m p2) [y] [] p3) _ => decide (m = "append") && K.visC i x && (p2.endLine == p3.line) && noStar y && ckE e K y | _ => false
  | .ext i e, K, st => match st with | .Expr (.Call (.Attribute (.Name x _) m p2) [y] [] p3) _ => decide (m = "extend") && K.visC i x && (p2.endLine == p3.line) && noStar y && ckE e K y | _ => false
  | .setI i b e, K, st => match st with | .Assign [.Subscript (.Name x _) z _] y _ => K.visC i x && plainSl z && !isComp y && !isTupE y && ckE b K z && ckE e K y | _ => false
  | .putI i b e, K, st => match st with | .Assign [.Subscript (.Name x _) z _] y _ => K.visC i x && !isComp y && ckE b K z && ckE e K y | _ => false
  | .ownD i g, K, st => match st with | .Assign [.Name x _] y _ => K.locC i x && (isComp y == isCompG g) && ckG g K y | _ => false
  | .for tg it b, K, st => match st with | .For x y p [] _ => !isSet y && ckI it K x y && tgC K.locC tg x && ckSs b K p | _ => false
  | .whl n t b, K, st => match st with | .While x p [] _ => ckB t K x && ckSs b K p | _ => false
  | .expr e, K, st => match st with | .Expr x _ => !isComp x && ckE e K x | _ => false
  | .doc, K, st => match st with | .Expr (.Constant (.str _) _ _) _ => true | _ => false
  | .rse k, K, st => match st with | .Raise (some (.Call (.Name x _) [.Constant (.str _) _ _] [] _)) none _ => decide (K.tb.cls[k]? = some x) && K.glC x && !(x == ("__debug__" : Str)) | _ => false
  | .par is p, K, st => match st with
    | .Assign [.Tuple ts _ _] (.Tuple vs _ _) _ => ckP p K vs && (match ts, vs, is with
      | [.Name x px, .Name y py], [a, b], [i, j] => (K.loc1 i x && K.loc1 j y && (py.line == px.line) && !(decide (x = y)) && noStar a && noStar b && !fold8 [a, b] && !cons8 [a, b])
      | [.Name x px, .Name y py, .Name z pz], [a, b, d], [i, j, l] => (K.loc1 i x && K.loc1 j y && K.loc1 l z && (py.line == px.line) && (pz.line == px.line) && !(decide (x = y)) && !(decide (x = z)) && !(decide (y = z)) && noStar a && noStar b && noStar d && !fold8 [a, b, d] && !cons8 [a, b, d])
      | _, _, _ => false)
      || ckP p K vs && tgsC K.locC is ts && decide (ts.length ≤ 1000) && (!(ts.length == 2 || ts.length == 3) || fold8 vs || cellAmong K.sc ts)
    | _ => false
  | .tri nC b hs, K, st => match st with | .Try body hds [] [] _ => decide (nC = K.tb.cls.length) && !hds.isEmpty && ckH hs K hds && ckSs b K body | _ => false
  | .trn nC i k j s0 s1 b, K, st => match st with
    | .Try body [.ExceptHandler (some (.Name x _)) (some n) [.Return (some (.Subscript (.List [.Constant (.str t0) _ _, .Constant (.str t1) _ _] _) (.Call (.Name z1 _) [.Call (.Name z2 _) [.Name n2 _, .Name y _] [] _] [] _) _)) _] _] [] [] _ =>
      decide (nC = K.tb.cls.length) && K.loc1 i n && decide (n2 = n) && !(n == ("__debug__" : Str)) && !(n == ("__classdict__" : Str)) && decide (z1 = "int") && K.glC z1 && decide (z2 = "isinstance") && K.glC z2 &&
        decide (K.tb.cls[k]? = some x) && K.glC x && !(x == ("__debug__" : Str)) && decide (K.tb.cls[j]? = some y) && K.glC y && !(y == ("__debug__" : Str)) && decide (t0 = s0) && decide (t1 = s1) && ckSs b K body
    | _ => false
def ckSs : Ss → Ck → List Stmt → Bool
  | .nil, K, st => match st with | [] => true | _ => false
  | .cons s r, K, st => match st with | x :: xs => ckS s K x && ckSs r K xs | _ => false
end
structure GoodS (K : Ck) (c : Cn) (G : Gs) (n : Nat) (X : Cx) (W : WX) : Prop extends Good K c G n X W where
  fn : ∀ x, X.fn x = true
  pass : PassesOwn (model X.prog X.w) X.A X.env X.xe
  kind : X.env.scope.kind = .function
  stk : X.stack = X.env :: X.outer
  frm : X.env.frame = some X.env.locals
section
variable {c : Cn} {G : Gs} {n : Nat} {K : Ck} {X : Cx} {W : WX}
theorem soP : ∀ (p : P) {es : List Expr} (g : Good K c G n X W), ckP p K es = true → PA X es (tP c W (evP G p))
  | .nil, es, g, h => by
    simp only [ckP] at h
    split at h
    · exact s_pnil
    · cases h
  | .cE e r, es, g, h => by
    simp only [ckP] at h
    split at h
    · simp only [Bool.and_eq_true] at h
      exact s_pcE h.1.1 (soE e g h.1.2) (soP r g h.2)
    · cases h
  | .cF f r, es, g, h => by
    simp only [ckP] at h
    split at h
    · simp only [Bool.and_eq_true] at h
      exact s_pcF h.1.1 (soF f g h.1.2) (soP r g h.2)
    · cases h
  | .cD f r, es, g, h => by
    simp only [ckP] at h
    split at h
    · simp only [Bool.and_eq_true] at h
      exact s_pcO h.1.1 (soG f g h.1.2) (soP r g h.2)
    · cases h
/-- y = {..} -/
theorem compG {i : Nat} {y : Str} {py p : Pos} {e : Expr} {f : Gm} (g : GoodS K c G n X W) (hl : K.locC i y = true) (hc : isComp e = true) (hf : isCompG f = true) (h : ckG f K e = true) :
    PS X (.Assign [.Name y py] e p) (tS c W fun ρ => (evG G f ρ).bind fun ds ρ1 => (R.lift (setO i ds ρ1) ρ1).bind fun ρ2 _ => .ok .nx ρ2) := by
  obtain ⟨hi, hx⟩ := g.loc hl
  have h0 := h
  cases f <;> try (cases hf; done)
  rename_i isT tg it t ek ev vs
  simp only [ckG] at h
  split at h
  · rename_i kx vx tgx iter ifs asy scope pos
    simp only [Bool.and_eq_true, decide_eq_true_eq, Bool.not_eq_true'] at h
    obtain ⟨⟨⟨⟨⟨⟨⟨⟨h1, h2⟩, h3⟩, h4⟩, h5⟩, h6⟩, h7⟩, h8⟩, h9⟩ := h
    subst h1
    have ok := blkOk_by h2
    have e0 : (ownOf K.N vs).map (·.2) = vs := ownOf_snd _ _
    have eq := swapB_eqD (kx := kx) (vx := vx) (g := [⟨tgx, iter, ifs, 0⟩]) (scope := scope) (x := y) (cpos := pos) (px := py) (l := p.line) g.kind g.sc
    cases hb : swapB K scope y py.line pos.line with
    | true =>
      rw [hb] at eq
      have hyl : X.env.scope.names.lookup y = some .local := by
        unfold swapB at hb
        simp only [Bool.and_eq_true, decide_eq_true_eq] at hb
        rw [g.sc]; exact hb.1.1
      have a1 : BlkOk X.N X.env.scope scope (ownOf K.N vs) := by rw [g.N, g.sc]; exact ok
      have a2 : ∀ i ∈ tg.slots, i ∈ (ownOf K.N vs).map (·.2) := by
        rw [e0]
        intro i hi
        have := List.all_eq_true.mp h3 i hi
        simpa using this
      have a3 : ∀ (s : Shared) (H : Hp) (C : Addr) (cl : List (Str × Addr)) (fp : List Addr), PG (X.blk s H scope (compEnvC scope cl C X.env) fp) tgx (tgT c tg) :=
        fun s H C cl fp => tg_sound (c := c) (K := K) (X := X.blk s H _ (compEnvC _ cl C X.env) fp) g.k g.calm (fun i x pos hx => by
          have hb := g.toGood.loB (s := s) (H := H) (C := C) (cl := cl) (fp := fp) hx
          exact pg_name (X := X.blk s H _ (compEnvC _ cl C X.env) fp) g.nd hb.1 hb.2.1 hb.2.2) h6
      have q1 := t_ownDc (isT := isT) (X := X) (c := c) (W := W) (pos := pos) (spos := p) (py := py) (T := tg) (fi := evI G it) (ft := evC G t) (fk := evE G ek) (fv := evE G ev) (own := ownOf K.N vs) g.calm g.un g.nd hi hyl eq (soI it g.toGood h5) a1 a2 a3
        (fun s H C cl fp => soC t (g.toGood.blk s H _ C cl fp) h7) (fun s H C cl fp => soE ek (g.toGood.blk s H _ C cl fp) h8) (fun s H C cl fp => soE ev (g.toGood.blk s H _ C cl fp) h9) (noFold h4)
      rw [e0] at q1
      exact q1
    | false =>
      rw [hb] at eq
      exact t_ownD g.nd hi hx (.inl (g.fn _)) eq (soG _ g.toGood h0)
  · cases h
/-- y = [..]: both ways -/
theorem compS {i : Nat} {y : Str} {py p : Pos} {e : Expr} {f : F} (g : GoodS K c G n X W) (hl : K.locC i y = true) (hc : isComp e = true) (hf : isCompF f = true) (h : ckF f K e = true) :
    PS X (.Assign [.Name y py] e p) (tS c W fun ρ => (evF G f ρ).bind fun ds ρ1 => (R.lift (setO i ds ρ1) ρ1).bind fun ρ2 _ => .ok .nx ρ2) ∧
    PS X (.Assign [.Name y py] e p) (tS c W fun ρ => (evF G f ρ).bind fun ds ρ1 => (R.lift (setV i (.lst ds) ρ1) ρ1).bind fun ρ2 _ => .ok .nx ρ2) := by
  obtain ⟨hi, hx⟩ := g.loc hl
  have h0 := h
  cases f <;> try (cases hf; done)
  rename_i tg it t ee vs
  simp only [ckF] at h
  split at h
  · rename_i elt tgx iter ifs asy scope pos
    simp only [Bool.and_eq_true, decide_eq_true_eq, Bool.not_eq_true'] at h
    obtain ⟨⟨⟨⟨⟨⟨⟨h1, h2⟩, h3⟩, h4⟩, h5⟩, h6⟩, h7⟩, h8⟩ := h
    subst h1
    have ok := blkOk_by h2
    have e0 : (ownOf K.N vs).map (·.2) = vs := ownOf_snd _ _
    have eq := swapB_eq (e := elt) (g := [⟨tgx, iter, ifs, 0⟩]) (scope := scope) (x := y) (cpos := pos) (px := py) (l := p.line) g.kind g.sc
    cases hb : swapB K scope y py.line pos.line with
    | true =>
      rw [hb] at eq
      have hyl : X.env.scope.names.lookup y = some .local := by
        unfold swapB at hb
        simp only [Bool.and_eq_true, decide_eq_true_eq] at hb
        rw [g.sc]; exact hb.1.1
      have a1 : BlkOk X.N X.env.scope scope (ownOf K.N vs) := by rw [g.N, g.sc]; exact ok
      have a2 : ∀ i ∈ tg.slots, i ∈ (ownOf K.N vs).map (·.2) := by
        rw [e0]
        intro i hi
        have := List.all_eq_true.mp h3 i hi
        simpa using this
      have a3 : ∀ (s : Shared) (H : Hp) (C : Addr) (cl : List (Str × Addr)) (fp : List Addr), PG (X.blk s H scope (compEnvC scope cl C X.env) fp) tgx (tgT c tg) :=
        fun s H C cl fp => tg_sound (c := c) (K := K) (X := X.blk s H _ (compEnvC _ cl C X.env) fp) g.k g.calm (fun i x pos hx => by
          have hb := g.toGood.loB (s := s) (H := H) (C := C) (cl := cl) (fp := fp) hx
          exact pg_name (X := X.blk s H _ (compEnvC _ cl C X.env) fp) g.nd hb.1 hb.2.1 hb.2.2) h6
      have q1 := t_ownLc (X := X) (c := c) (W := W) (pos := pos) (spos := p) (py := py) (T := tg) (fi := fun ρ => (evI G it ρ).bind few) (ft := evC G t) (fe := evE G ee) (own := ownOf K.N vs) g.calm g.nd hi hyl eq (i_few (soI it g.toGood h5)) a1 a2 a3
        (fun s H C cl fp => soC t (g.toGood.blk s H _ C cl fp) h7) (fun s H C cl fp => soE ee (g.toGood.blk s H _ C cl fp) h8) (noFold h4)
      have q2 := t_asgLc (X := X) (c := c) (W := W) (pos := pos) (spos := p) (py := py) (T := tg) (fi := fun ρ => (evI G it ρ).bind few) (ft := evC G t) (fe := evE G ee) (own := ownOf K.N vs) g.calm g.nd hi hyl eq (i_few (soI it g.toGood h5)) a1 a2 a3
        (fun s H C cl fp => soC t (g.toGood.blk s H _ C cl fp) h7) (fun s H C cl fp => soE ee (g.toGood.blk s H _ C cl fp) h8) (noFold h4)
      rw [e0] at q1 q2
      exact ⟨q1, q2⟩
    | false =>
      rw [hb] at eq
      have q0 := soF _ g.toGood h0
      refine ⟨t_own g.nd hi hx (.inl (g.fn _)) eq q0, ?_⟩
      refine ps_of (t_asgF g.nd hi hx (.inl (g.fn _)) eq (s_fr q0)) fun E σ H ⟨pin, Z, ρ, Hf, S, gg⟩ => ⟨pin, Z, ρ, Hf, S, ?_⟩
      dsimp only at gg ⊢
      cases hr : evF G (.comp tg it t ee vs) ρ <;> rw [hr] at gg <;> exact gg
  · cases h
theorem GoodS.tr (g : GoodS K c G n X W) {W' : WX} {pn : List (Addr × Obj)} {xe : Value → Shared → Prop} (tk : Takes (X.tr pn xe) W') (ps : PassesOwn (model X.prog X.w) X.A X.env xe) : GoodS K c G n (X.tr pn xe) W' :=
  ⟨⟨g.k, g.calm, g.nd, g.N, g.sc, g.rm, tk, g.gl⟩, g.fn, ps, g.kind, g.stk, g.frm⟩
theorem cls_lt {k : Nat} {x : Str} (h : K.tb.cls[k]? = some x) : k < K.tb.cls.length := (List.getElem?_eq_some_iff.mp h).1
theorem hds_sound (g : GoodS K c G n X W) : ∀ {l : List (Nat × Con)} {hds : List ExceptHandler}, ckH l K hds = true → Hds X c hds (l.map fun q => (q.1, q.2.v, q.2.d)) ∧ ∀ q ∈ l.map (fun q : Nat × Con => (q.1, q.2.v, q.2.d)), q.1 < K.tb.cls.length
  | [], hds, h => by
    simp only [ckH] at h
    split at h
    · exact ⟨.nil, fun q hq => by cases hq⟩
    · cases h
  | q :: l, hds, h => by
    simp only [ckH] at h
    split at h
    · simp only [Bool.and_eq_true, decide_eq_true_eq, Bool.not_eq_true'] at h
      obtain ⟨⟨⟨⟨h1, h2⟩, h3⟩, h4⟩, h5⟩ := h
      obtain ⟨i1, i2⟩ := hds_sound g h5
      obtain ⟨f1, _⟩ := g.gl.cls _ _ h1
      subst h4
      refine ⟨.cons ⟨g.glob h2, h3, .inl f1⟩ (fun Y => con_pe) (con_rep q.2) i1, fun r hr => ?_⟩
      rcases List.mem_cons.mp hr with rfl | hr
      · exact cls_lt h1
      · exact i2 r hr
    · cases h

mutual
theorem soS : ∀ (s : S) {X : Cx} {W : WX} {st : Stmt} (g : GoodS K c G n X W), ckS s K st = true → PS X st (tS c W (evS G s))
  | .pass, X, W, st, g, h => by
    simp only [ckS] at h
    split at h
    · skip
      exact t_pass
    · cases h
  | .brk, X, W, st, g, h => by
    simp only [ckS] at h
    split at h
    · skip
      exact t_break
    · cases h
  | .cnt, X, W, st, g, h => by
    simp only [ckS] at h
    split at h
    · skip
      exact t_cont
    · cases h
  | .ret e, X, W, st, g, h => by
    simp only [ckS] at h
    split at h
    · try simp only [Bool.and_eq_true, decide_eq_true_eq, Bool.not_eq_true'] at h
      have h1 := h
      exact t_ret (soE e g.toGood h1)
    · cases h
  | .retF f, X, W, st, g, h => by
    simp only [ckS] at h
    split at h
    · try simp only [Bool.and_eq_true, decide_eq_true_eq, Bool.not_eq_true'] at h
      have h1 := h
      exact t_retF (soF f g.toGood h1)
    · cases h
  | .retN, X, W, st, g, h => by
    simp only [ckS] at h
    split at h
    · skip
      exact t_retN
    · cases h
  | .ife t a b, X, W, st, g, h => by
    simp only [ckS] at h
    split at h
    · try simp only [Bool.and_eq_true, decide_eq_true_eq, Bool.not_eq_true'] at h
      obtain ⟨⟨h1, h2⟩, h3⟩ := h
      exact t_if (soB t g.toGood h1) (soSs a g h2) (soSs b g h3)
    · cases h
  | .asg i e, X, W, st, g, h => by
    simp only [ckS] at h
    split at h
    · try simp only [Bool.and_eq_true, decide_eq_true_eq, Bool.not_eq_true'] at h
      obtain ⟨⟨h1, h2⟩, h3⟩ := h
      obtain ⟨hi, hx⟩ := g.loc h1
      exact t_asg g.nd hi hx (.inl (g.fn _)) h2 (soE e g.toGood h3)
    · cases h
  | .asgF i f, X, W, st, g, h => by
    simp only [ckS] at h
    split at h
    · try simp only [Bool.and_eq_true, decide_eq_true_eq, Bool.not_eq_true'] at h
      obtain ⟨⟨h1, h2⟩, h3⟩ := h
      obtain ⟨hi, hx⟩ := g.loc h1
      rename_i x px y p
      cases hc : isComp y with
      | true => rw [hc] at h2; exact (compS g h1 hc (by simpa using h2) h3).2
      | false =>
        refine ps_of (t_asgF g.nd hi hx (.inl (g.fn _)) (noSwap hc) (s_fr (soF f g.toGood h3))) fun E σ H ⟨pin, Z, ρ, Hf, S, gg⟩ => ⟨pin, Z, ρ, Hf, S, ?_⟩
        simp only [evS] at gg
        dsimp only at gg ⊢
        cases hr : evF G f ρ <;> rw [hr] at gg <;> exact gg
    · cases h
  | .own i f, X, W, st, g, h => by
    simp only [ckS] at h
    split at h
    · try simp only [Bool.and_eq_true, decide_eq_true_eq, Bool.not_eq_true'] at h
      obtain ⟨⟨h1, h2⟩, h3⟩ := h
      obtain ⟨hi, hx⟩ := g.loc h1
      rename_i x px y p
      cases hc : isComp y with
      | true => rw [hc] at h2; exact (compS g h1 hc (by simpa using h2) h3).1
      | false => exact t_own g.nd hi hx (.inl (g.fn _)) (noSwap hc) (soF f g.toGood h3)
    · cases h
  | .asgT tg e, X, W, st, g, h => by
    simp only [ckS] at h
    split at h
    · try simp only [Bool.and_eq_true, decide_eq_true_eq, Bool.not_eq_true'] at h
      obtain ⟨⟨⟨h1, h2⟩, h3⟩, h4⟩ := h
      rename_i x y p
      cases x <;> try (cases h2; done)
      refine t_asgT (tg_sound (c := c) (K := K) g.k g.calm (fun i x pos hx => pg_name g.nd (g.loc hx).1 (g.loc hx).2 (.inl (g.fn _))) h1) ?_ (sw_noTup h3) rfl (soE e g.toGood h4)
      unfold swapsWithSole
      cases y <;> rfl
    · cases h
  | .aug op i e, X, W, st, g, h => by
    simp only [ckS] at h
    split at h
    · try simp only [Bool.and_eq_true, decide_eq_true_eq, Bool.not_eq_true'] at h
      obtain ⟨⟨h1, h2⟩, h3⟩ := h
      subst h1
      obtain ⟨hi, hx⟩ := g.loc h2
      exact t_aug g.nd hi hx (.inl (g.fn _)) (soE e g.toGood h3)
    · cases h
  | .app i e, X, W, st, g, h => by
    simp only [ckS] at h
    split at h
    · try simp only [Bool.and_eq_true, decide_eq_true_eq, Bool.not_eq_true'] at h
      obtain ⟨⟨⟨⟨h1, h2⟩, h3⟩, h4⟩, h5⟩ := h
      subst h1
      exact t_app (g.vis h2) h3 h4 (soE e g.toGood h5)
    · cases h
  | .ext i e, X, W, st, g, h => by
    simp only [ckS] at h
    split at h
    · try simp only [Bool.and_eq_true, decide_eq_true_eq, Bool.not_eq_true'] at h
      obtain ⟨⟨⟨⟨h1, h2⟩, h3⟩, h4⟩, h5⟩ := h
      subst h1
      exact t_ext (g.vis h2) h3 h4 (soE e g.toGood h5)
    · cases h
  | .setI i b e, X, W, st, g, h => by
    simp only [ckS] at h
    split at h
    · try simp only [Bool.and_eq_true, decide_eq_true_eq, Bool.not_eq_true'] at h
      obtain ⟨⟨⟨⟨⟨h1, h2⟩, h3⟩, h4⟩, h5⟩, h6⟩ := h
      rename_i x _ z _ y _
      refine t_setI (g.vis h1) h2 h3 ?_ (soE e g.toGood h6) (soE b g.toGood h5)
      cases y <;> first | rfl | (cases h4; done)
    · cases h
  | .putI i b e, X, W, st, g, h => by
    simp only [ckS] at h
    split at h
    · try simp only [Bool.and_eq_true, decide_eq_true_eq, Bool.not_eq_true'] at h
      obtain ⟨⟨⟨h1, h2⟩, h3⟩, h4⟩ := h
      exact t_put g.un (g.vis h1) (soE e g.toGood h4) (soE b g.toGood h3) (noSwap h2)
    · cases h
  | .ownD i f, X, W, st, g, h => by
    simp only [ckS] at h
    split at h
    · try simp only [Bool.and_eq_true, decide_eq_true_eq, Bool.not_eq_true'] at h
      obtain ⟨⟨h1, h2⟩, h3⟩ := h
      obtain ⟨hi, hx⟩ := g.loc h1
      rename_i x px y p
      cases hc : isComp y with
      | true => rw [hc] at h2; exact compG g h1 hc (by simpa using h2) h3
      | false => exact t_ownD g.nd hi hx (.inl (g.fn _)) (noSwap hc) (soG f g.toGood h3)
    · cases h
  | .for tg it b, X, W, st, g, h => by
    simp only [ckS] at h
    split at h
    · try simp only [Bool.and_eq_true, decide_eq_true_eq, Bool.not_eq_true'] at h
      obtain ⟨⟨⟨h1, h2⟩, h3⟩, h4⟩ := h
      exact t_for g.pass g.calm (soI it g.toGood h2) (tg_sound (c := c) (K := K) g.k g.calm (fun i x pos hx => pg_name g.nd (g.loc hx).1 (g.loc hx).2 (.inl (g.fn _))) h3) (soSs b g h4) (noFold h1)
    · cases h
  | .whl n t b, X, W, st, g, h => by
    simp only [ckS] at h
    split at h
    · try simp only [Bool.and_eq_true, decide_eq_true_eq, Bool.not_eq_true'] at h
      obtain ⟨h1, h2⟩ := h
      exact t_while g.pass (soB t g.toGood h1) (soSs b g h2)
    · cases h
  | .expr e, X, W, st, g, h => by
    simp only [ckS] at h
    split at h
    · try simp only [Bool.and_eq_true, decide_eq_true_eq, Bool.not_eq_true'] at h
      obtain ⟨h1, h2⟩ := h
      exact t_expr h1 (soE e g.toGood h2)
    · cases h
  | .doc, X, W, st, g, h => by
    simp only [ckS] at h
    split at h
    · skip
      exact t_doc
    · cases h
  | .rse k, X, W, st, g, h => by
    simp only [ckS] at h
    split at h
    · try simp only [Bool.and_eq_true, decide_eq_true_eq, Bool.not_eq_true'] at h
      obtain ⟨⟨h1, h2⟩, h3⟩ := h
      obtain ⟨f1, f2, f3, f4, f5⟩ := g.gl.cls _ _ h1
      exact t_raise g.calm g.tk f2 f1 f3 (raises_own f4 f5) (g.glob h2) h3
    · cases h
  | .par is p, X, W, st, g, h => by
    simp only [ckS] at h
    split at h
    · rename_i ts kt pt vs k2 pt2 pos
      rw [Bool.or_eq_true] at h
      rcases h with h | h
      · rw [Bool.and_eq_true] at h
        obtain ⟨hp, h⟩ := h
        split at h
        · simp only [Bool.and_eq_true, decide_eq_true_eq, decide_eq_false_iff_not, Bool.not_eq_true'] at h
          obtain ⟨⟨⟨⟨⟨⟨⟨h1, h2⟩, h3⟩, h4⟩, h5⟩, h6⟩, h7⟩, h8⟩ := h
          rename_i x px y py a b i j
          obtain ⟨i1, i2⟩ := g.lo1 h1
          obtain ⟨j1, j2⟩ := g.lo1 h2
          have hij : i ≠ j := fun z => by subst z; rw [i1] at j1; cases j1; exact h4 rfl
          exact t_par2 g.calm g.nd i1 j1 hij i2 j2 (soP p g.toGood hp) (sw_two g.kind i2 j2 h3 h4 h5 h6 h7 h8)
        · simp only [Bool.and_eq_true, decide_eq_true_eq, decide_eq_false_iff_not, Bool.not_eq_true'] at h
          obtain ⟨⟨⟨⟨⟨⟨⟨⟨⟨⟨⟨⟨h1, h2⟩, h3⟩, h4⟩, h5⟩, h6⟩, h7⟩, h8⟩, h9⟩, h10⟩, h11⟩, h12⟩, h13⟩ := h
          rename_i x px y py z pz a b d i j l
          obtain ⟨i1, i2⟩ := g.lo1 h1
          obtain ⟨j1, j2⟩ := g.lo1 h2
          obtain ⟨l1, l2⟩ := g.lo1 h3
          have hij : i ≠ j := fun q => by subst q; rw [i1] at j1; cases j1; exact h6 rfl
          have hil : i ≠ l := fun q => by subst q; rw [i1] at l1; cases l1; exact h7 rfl
          have hjl : j ≠ l := fun q => by subst q; rw [j1] at l1; cases l1; exact h8 rfl
          exact t_par3 g.calm g.nd i1 j1 l1 hij hil hjl i2 j2 l2 (soP p g.toGood hp) (sw_three g.kind i2 j2 l2 h4 h5 h6 h7 h8 h9 h10 h11 h12 h13)
        · cases h
      · simp only [Bool.and_eq_true, decide_eq_true_eq, Bool.or_eq_true] at h
        obtain ⟨⟨⟨hp, h1⟩, h2⟩, h3⟩ := h
        obtain ⟨p1, p2, p3⟩ := tgs_sound (K := K) (X := X) (fun i x pos hx => pg_name g.nd (g.loc hx).1 (g.loc hx).2 (.inl (g.fn _))) h1
        refine t_parG g.k h2 (g_tup g.k g.calm p3 p2 p1) (soP p g.toGood hp) (by rw [← p2]; exact h2) rfl ?_
        rcases h3 with (h3 | h3) | h3
        · exact sw_len (by simpa using h3)
        · exact sw_fold h3
        · exact sw_cell (by rw [g.sc]; exact h3)
    · cases h
  | .tri nC b hs, X, W, st, g, h => by
    simp only [ckS] at h
    split at h
    · rename_i body hds pos
      simp only [Bool.and_eq_true, decide_eq_true_eq, Bool.not_eq_true'] at h
      obtain ⟨⟨⟨h1, h2⟩, h3⟩, h4⟩ := h
      subst h1
      obtain ⟨i1, i2⟩ := hds_sound g h3
      cases hds with
      | nil => cases h2
      | cons h₀ hds =>
        have q := t_tri (pos := pos) g.k (by rw [← g.k]; exact g.gl.exc) g.stk g.frm g.tk (fun W' pn xe tk ps => soSs b (g.tr (W' := W') (pn := pn) (xe := xe) tk ps) h4) i1 i2
        rw [List.map_map] at q
        exact q
    · cases h
  | .trn nC i k j s0 s1 b, X, W, st, g, h => by
    simp only [ckS] at h
    split at h
    · simp only [Bool.and_eq_true, decide_eq_true_eq, Bool.not_eq_true'] at h
      obtain ⟨⟨⟨⟨⟨⟨⟨⟨⟨⟨⟨⟨⟨⟨⟨⟨⟨h1, h2⟩, h3⟩, h4⟩, h5⟩, h6⟩, h7⟩, h8⟩, h9⟩, h10⟩, h11⟩, h12⟩, h13⟩, h14⟩, h15⟩, h16⟩, h17⟩, h18⟩ := h
      subst h1 h3 h6 h8 h16 h17
      obtain ⟨i1, i2⟩ := g.lo1 h2
      obtain ⟨f1, _⟩ := g.gl.cls _ _ h10
      obtain ⟨f2, _⟩ := g.gl.cls _ _ h13
      exact t_trn g.k (by rw [← g.k]; exact g.gl.exc) (cls_lt h10) (cls_lt h13) g.stk g.frm g.nd i1 i2 h4 h5 (g.glob h7) (g.freeB (by decide)) (g.glob h9) (g.freeB (by decide)) (g.glob h14) f2 h15 (g.glob h11) f1 h12 g.tk (fun W' pn xe tk ps => soSs b (g.tr (W' := W') (pn := pn) (xe := xe) tk ps) h18)
    · cases h
theorem soSs : ∀ (s : Ss) {X : Cx} {W : WX} {st : List Stmt} (g : GoodS K c G n X W), ckSs s K st = true → PSs X st (tS c W (evSs G s))
  | .nil, X, W, st, g, h => by
    simp only [ckSs] at h
    split at h
    · exact t_nil
    · cases h
  | .cons s r, X, W, st, g, h => by
    simp only [ckSs] at h
    split at h
    · simp only [Bool.and_eq_true] at h
      exact t_cons (soS s g h.1) (soSs r g h.2)
    · cases h
end
end
end Ev

end
section
set_option maxHeartbeats 4000000
namespace Ev
open PySem PySem.Spec PyProof.Rows L2

/-! ### all defs of a text -/
structure Df where
  nm : Str
  kind : Nat
  N : List Str
  ar : Nat
  body : Ss
def gs (ds : List Df) : Nat → Gs
  | 0 => ⟨fun _ _ => .bad, fun _ _ _ => .bad, fun _ _ => .bad⟩
  | n + 1 => { dD := fun k xs => match ds[k]? with | some d => endD (evSs (gs ds n) d.body (startR false d.N.length xs)) | none => .bad
               dM := fun k xs ys => match ds[k]? with | some d => endM (evSs (gs ds n) d.body (startR true d.N.length (.lst xs :: ys))) | none => .bad
               dF := fun k xs => match ds[k]? with | some d => endF (evSs (gs ds n) d.body (startR false d.N.length xs)) | none => .bad }
def tbOf (ds : List Df) (cls : List Str) (glo : List (Str × Con)) : Tb := ⟨ds.map fun d => (d.nm, d.ar, d.kind), cls, glo⟩
def cnOf (K : PySem.W.Frag) (ds : List Df) (cls : List Str) : Cn := ⟨K, fun k => He.ga K ((ds[k]?.map Df.nm).getD ""), fun k => He.ga K (cls.getD k "")⟩
def gloFa (q : Str × Con) : He.Fa := match q.2 with
  | .int i => .int q.1 i
  | .str z => .str q.1 z
  | _ => .glo q.1
/-- the facts of the classes, as a test -/
def excB (cls : List Str) (K : PySem.W.Frag) : Bool :=
  (List.range cls.length).all fun x =>
    (decide (PySem.W.findIn K (.ref (He.ga K (cls.getD x ""))) "__getattribute__" = some (some (.builtin "BaseException.__getattribute__"))) && decide (PySem.W.findIn K (.ref (He.ga K (cls.getD x ""))) "__getattr__" = some none) &&
    decide (PySem.W.subIn K (.ref (He.ga K (cls.getD x ""))) (.type "BaseException") = some true) && PySem.W.hasDictIn K (He.ga K (cls.getD x "")) && decide (PySem.W.findIn K (.ref (He.ga K (cls.getD x ""))) "__class__" = some (some (.builtin "object.__class__"))) &&
    decide (PySem.W.specialIn K (.builtin "object.__class__") "__get__" = some (some (.builtin "getset_descriptor.__get__"))) && decide (PySem.W.takesIn K (.builtin "object.__class__") = some true) && decide (PySem.W.mroIn K (He.ga K (cls.getD x "")) (.type "object") = some true)) &&
    (List.range cls.length).all fun k => decide (PySem.W.exmOne K (.ref (He.ga K (cls.getD x ""))) (.ref (He.ga K (cls.getD k ""))) = some (subC x k)) && decide (PySem.W.kitOne K (.ref (He.ga K (cls.getD x ""))) (.ref (He.ga K (cls.getD k ""))) = some (subC x k))
theorem excF_of {K : PySem.W.Frag} {ds : List Df} {cls : List Str} (h : excB cls K = true) : ExcF K (cnOf K ds cls).C cls.length := by
  unfold excB at h
  rw [List.all_eq_true] at h
  have h1 : ∀ x, x < cls.length → _ := fun x hx => h x (List.mem_range.mpr hx)
  simp only [Bool.and_eq_true, decide_eq_true_eq, List.all_eq_true, List.mem_range] at h1
  refine ⟨fun x k hx hk => ((h1 x hx).2 k hk).1, fun x hx => ?_, fun x k hx hk => ((h1 x hx).2 k hk).2⟩
  obtain ⟨⟨⟨⟨⟨⟨⟨⟨a1, a2⟩, a3⟩, a4⟩, a5⟩, a6⟩, a7⟩, a8⟩, _⟩ := h1 x hx
  exact ⟨a1, a2, a3, a4, a5, a6, a7, a8⟩
/-! ### the hook: the facts, and a test more -/
def obsP (fa : List He.Fa) (fn : List He.DefD) (p : PySem.W.Frag → Bool) (K : PySem.W.Frag) : He.AlD × Bool := (He.obsD fa fn K, p K)
def obsPG (n : Nat) (fa : List He.Fa) (fn : List He.DefD) (p : PySem.W.Frag → Bool) (g : Addr → Option Obj) : He.AlD × Bool := obsP fa fn p (He.frG g (He.asD g n))
def hookP (n : Nat) (fa : List He.Fa) (fn : List He.DefD) (p : PySem.W.Frag → Bool) : PySem.W.Hook where
  α := He.AlD × Bool
  obs := fun s => obsPG n fa fn p s.heap.get?
  val := fun _ => (He.valD fn, true)
  says := fun _ h => ∃ K : PySem.W.Frag, K.In h ∧ He.SaysD fa fn K ∧ p K = true
  of := fun _ _ e => ⟨_, He.frG_in, congrArg (fun z : He.AlD × Bool => z.1) e, congrArg (fun z : He.AlD × Bool => z.2) e⟩
  keeps := fun _ _ _ ⟨K, hK, c⟩ k => ⟨K, PySem.W.Frag.In.keeps hK k, c⟩
theorem obsPG_eq {n : Nat} {fa : List He.Fa} {fn : List He.DefD} {p : PySem.W.Frag → Bool} {g : Addr → Option Obj} {s : Shared} (h : ∀ a, g a = s.heap.get? a) : obsPG n fa fn p g = (hookP n fa fn p).obs s := by
  have e : g = s.heap.get? := funext h
  rw [e] <;> rfl
def isIS : Con → Bool
  | .int _ => true
  | .str _ => true
  | _ => false
def faOf (ds : List Df) (cls : List Str) (glo : List (Str × Con)) : List He.Fa :=
  bN.map .free ++ (ds.map (fun d => .glo d.nm) ++ (cls.map .glo ++ (cls.map .exc ++ glo.map gloFa)))
def fsC (N P : List Str) (sc : Scope) : Bool :=
  decide (sc.kind = .function) && !sc.isCoroutine && !sc.isGenerator && decide N.Nodup && decide (N.take P.length = P) &&
    (P.all fun x => match sc.names.lookup x with | some .local => true | some .cell => true | _ => false) && sc.names.all fun y => match y.2 with | .free => false | _ => true
theorem fs_by {N P : List Str} {sc : Scope} (h : fsC N P sc = true) : FnScope N P sc := by
  unfold fsC at h
  simp only [Bool.and_eq_true, decide_eq_true_eq, Bool.not_eq_true', List.all_eq_true] at h
  obtain ⟨⟨⟨⟨⟨⟨h1, h2⟩, h3⟩, h4⟩, h5⟩, h6⟩, h7⟩ := h
  refine ⟨h1, h2, h3, h4, h5, fun x hx => ?_, fun y hy e => ?_⟩
  · have := h6 x hx
    split at this <;> first | exact .inl (by assumption) | exact .inr (by assumption) | cases this
  · have := h7 y hy
    rw [e] at this
    cases this
def dfC (tb : Tb) (q : He.DefD) (d : Df) : Bool :=
  decide (q.at_ = (d.nm, none)) && q.dfl.isEmpty && q.kwd.isEmpty && fsC d.N (d.N.take d.ar) q.scope && decide (d.ar ≤ d.N.length) && ckSs d.body ⟨tb, d.N, q.scope⟩ q.body
def BdOk (q : He.DefD) (d : Df) : Prop := ∀ (kV doc pm : Value) (an : Option Addr) (cdv ct : Value) (us : List Value), us.length = (d.N.take d.ar).length →
  bindArgs (PySem.W.fnOf q.name q.qual q.params q.body q.scope .none kV doc pm an cdv ct) ⟨us, []⟩ = pure ((d.N.take d.ar).zip us)
def AllOk (tb : Tb) : List He.DefD → List Df → Prop
  | [], [] => True
  | q :: qs, d :: ds => (dfC tb q d = true ∧ BdOk q d) ∧ AllOk tb qs ds
  | _, _ => False
theorem AllOk.get {tb : Tb} : ∀ {qs : List He.DefD} {ds : List Df} {k : Nat} {d : Df}, AllOk tb qs ds → ds[k]? = some d → ∃ q, qs[k]? = some q ∧ dfC tb q d = true ∧ BdOk q d
  | [], [], k, d, _, e => by simp at e
  | q :: qs, x :: ds, 0, d, h, e => by cases e; exact ⟨q, rfl, h.1.1, h.1.2⟩
  | q :: qs, x :: ds, k + 1, d, h, e => AllOk.get (k := k) h.2 (by simpa using e)
  | [], _ :: _, _, _, h, _ => h.elim
  | _ :: _, [], _, _, h, _ => h.elim
theorem fact_mem {fa : List He.Fa} {fn : List He.DefD} {K : PySem.W.Frag} (c : He.SaysD fa fn K) {f : He.Fa} (h : f ∈ fa) : f.ok K = true := by
  obtain ⟨i, hi⟩ := List.getElem?_of_mem h
  exact c.fact i hi
section
variable {ds : List Df} {cls : List Str} {glo : List (Str × Con)} {fn : List He.DefD} {K : PySem.W.Frag} {h : Heap} {mg : Str → Option Value}
theorem goodAll (KX : K.In h) (Gn : h.Ns mainGlobals mg) (c : He.SaysD (faOf ds cls glo) fn K) (ok : AllOk (tbOf ds cls glo) fn ds) (hg : (glo.all fun q => isIS q.2) = true) (hE : excB cls K = true) (P : Program) (w : World) (base : Heap) :
    ∀ n, GoodG (tbOf ds cls glo) (cnOf K ds cls) (gs ds n) n P w K mg base := by
  have fFree : ∀ x ∈ bN, mg x = none := fun x hx => He.free_ok KX Gn (fact_mem c (List.mem_append_left _ (List.mem_map_of_mem hx)))
  have fGlo : ∀ x k, (tbOf ds cls glo).glo.lookup x = some k → ∃ u, mg x = some u ∧ RelV k.v u := fun x k hl => by
    have hm : (x, k) ∈ glo := PySem.mem_of_lookup hl
    have hf := fact_mem c (f := gloFa (x, k)) (List.mem_append_right _ (List.mem_append_right _ (List.mem_append_right _ (List.mem_append_right _ (List.mem_map_of_mem hm)))))
    have hk := List.all_eq_true.mp hg _ hm
    cases k with
    | int i => obtain ⟨t, e⟩ := He.int_ok KX Gn hf; exact ⟨_, e, ⟨_, rfl⟩⟩
    | str z => obtain ⟨t, e⟩ := He.str_ok KX Gn hf; exact ⟨_, e, ⟨_, rfl⟩⟩
    | non => cases hk
    | bl => cases hk
  have fDef : ∀ (k : Nat) (x : Str) (ar kind : Nat), (tbOf ds cls glo).fns[k]? = some (x, ar, kind) → ∃ (d : Df) (q : He.DefD) (fd : FuncData), ds[k]? = some d ∧ d.nm = x ∧ d.ar = ar ∧ d.kind = kind ∧ FunD K q.name q.qual q.params q.body q.scope [] [] (He.ga K x) fd ∧ mg x = some (.ref (He.ga K x)) ∧
      PySem.W.keepIn K (.ref (He.ga K x)) = true ∧ Binds K fd (d.N.take d.ar) [] ∧ FnScope d.N (d.N.take d.ar) q.scope ∧ d.ar ≤ d.N.length ∧ ckSs d.body ⟨tbOf ds cls glo, d.N, q.scope⟩ q.body = true := fun k x ar kind hk => by
    have hk : (ds.map fun d => (d.nm, d.ar, d.kind))[k]? = some (x, ar, kind) := hk
    rw [List.getElem?_map, Option.map_eq_some_iff] at hk
    obtain ⟨d, hd, e⟩ := hk
    cases e
    obtain ⟨q, hq, o1, o2⟩ := ok.get hd
    obtain ⟨fd, F⟩ := c.def_ k hq
    unfold dfC at o1
    simp only [Bool.and_eq_true, decide_eq_true_eq, List.isEmpty_iff] at o1
    obtain ⟨⟨⟨⟨⟨e2, e3⟩, e4⟩, e5⟩, e6⟩, e7⟩ := o1
    have ea : He.fAd K q.at_ = He.ga K d.nm := by rw [e2]; rfl
    have e8 : q.dvs K = [] := by unfold He.DefD.dvs; rw [e3]; rfl
    have e9 : q.kws K = [] := by unfold He.DefD.kws; rw [e4]; rfl
    rw [ea, e8, e9] at F
    have hm : mg d.nm = some (.ref (He.ga K d.nm)) := He.glo_ok KX Gn (fact_mem c (List.mem_append_right _ (List.mem_append_left _ (List.mem_map.mpr ⟨d, List.mem_of_getElem? hd, rfl⟩))))
    exact ⟨d, q, fd, hd, rfl, rfl, rfl, F, hm, F.kp, FunD.bindsN F fun kV doc pm an cdv ct us hl => o2 kV doc pm an cdv ct us hl, fs_by e5, e6, e7⟩
  have fCls : ∀ k x, (tbOf ds cls glo).cls[k]? = some x → mg x = some (.ref ((cnOf K ds cls).C k)) ∧ PySem.W.excIn K ((cnOf K ds cls).C k) He.veBase "ValueError.__new__" = true ∧ PySem.W.keepIn K (.ref ((cnOf K ds cls).C k)) = true ∧ PySem.W.subIn K (.ref ((cnOf K ds cls).C k)) (.type "BaseException") = some true ∧ PySem.W.typeIn K (.ref ((cnOf K ds cls).C k)) = some (.type "type") := fun k x hk => by
    have hk : cls[k]? = some x := hk
    have hC : (cnOf K ds cls).C k = He.ga K x := by
      show He.ga K (cls.getD k "") = _
      rw [List.getD_eq_getElem?_getD, hk]; rfl
    rw [hC]
    have hm := List.mem_of_getElem? hk
    have h1 := He.glo_ok KX Gn (fact_mem c (f := .glo x) (List.mem_append_right _ (List.mem_append_right _ (List.mem_append_left _ (List.mem_map_of_mem hm)))))
    obtain ⟨h2, h3, h4, h5⟩ := He.exc_ok (fact_mem c (f := .exc x) (List.mem_append_right _ (List.mem_append_right _ (List.mem_append_right _ (List.mem_append_left _ (List.mem_map_of_mem hm))))))
    exact ⟨h1, h2, h3, h4, h5⟩
  have tl : ∀ (d : Df), d.ar ≤ d.N.length → (d.N.take d.ar).length = d.ar := fun d hd => by rw [List.length_take]; omega
  have fA : ∀ (k : Nat) (x : Str) (ar kind : Nat), (tbOf ds cls glo).fns[k]? = some (x, ar, kind) → mg x = some (.ref ((cnOf K ds cls).A k)) := fun k x ar kind hk => by
    obtain ⟨d, q, fd, hd, e1, _, _, _, hm, _⟩ := fDef k x ar kind hk
    rw [hm, ← e1]
    show _ = some (Value.ref (He.ga K ((ds[k]?.map Df.nm).getD "")))
    rw [hd]
    rfl
  intro n
  induction n with
  | zero =>
    refine ⟨fFree, excF_of hE, fA, fGlo, fun k x ar hk => ?_, fun k x ar hk => ?_, fun k x ar hk => ?_, fCls⟩
    · obtain ⟨d, q, fd, _, _, rfl, _, F, m, kp, bd, S, le, _⟩ := fDef k x ar 0 hk
      refine ⟨_, fd, _, tl d le, ⟨fun vs H Q E z => ?_, fun A outer s H args us vs Q E _ _ _ _ z => ?_⟩, m, kp, bd⟩
      · obtain ⟨_, _, _, _, _, f⟩ := z; exact f.elim
      · obtain ⟨_, _, _, _, _, f⟩ := z; exact f.elim
    · obtain ⟨d, q, fd, _, _, rfl, _, F, m, kp, bd, S, le, _⟩ := fDef k x ar 1 hk
      refine ⟨_, fd, _, tl d le, ⟨fun vs H Q E z => ?_, fun A outer s H args us vs Q E _ _ _ _ z => ?_⟩, m, kp, bd⟩
      · obtain ⟨_, _, _, _, _, _, _, _, _, _, _, _, _, f⟩ := z; exact f.elim
      · obtain ⟨_, _, _, _, _, _, _, _, _, _, _, _, _, f⟩ := z; exact f.elim
    · obtain ⟨d, q, fd, _, _, rfl, _, F, m, kp, bd, S, le, _⟩ := fDef k x ar 2 hk
      refine ⟨_, fd, _, tl d le, ⟨fun vs H Q E z => ?_, fun A outer s H args us vs Q E _ _ _ _ z => ?_⟩, m, kp, bd⟩
      · obtain ⟨_, _, _, _, _, f⟩ := z; exact f.elim
      · obtain ⟨_, _, _, _, _, f⟩ := z; exact f.elim
  | succ n ih =>
    have good : ∀ (d : Df) (q : He.DefD) (f : Addr) (S : FnScope d.N (d.N.take d.ar) q.scope) (cdv : Value) (A : Around) (outer : List Env) (s : Shared) (H : Hp) (E : XK), Room n (A.deeper (envOfC q.qual q.scope s.heap.objs.size f cdv)) →
        GoodS ⟨tbOf ds cls glo, d.N, q.scope⟩ (cnOf K ds cls) (gs ds n) n (cxOf (L2.CX P w) P w K mg base d.N q.qual q.scope f cdv A outer s H E) (fun cls d _ H' => E cls d H') := fun d q f S cdv A outer s H E hr =>
      ⟨⟨rfl, rfl, S.nd, rfl, rfl, hr, takes_of rfl rfl rfl rfl, ih⟩, fun _ => rfl, passes_of rfl, S.kind, rfl, rfl⟩
    refine ⟨fFree, excF_of hE, fA, fGlo, fun k x ar hk => ?_, fun k x ar hk => ?_, fun k x ar hk => ?_, fCls⟩
    · obtain ⟨d, q, fd, hd, _, rfl, _, F, m, kp, bd, S, le, ck⟩ := fDef k x ar 0 hk
      refine ⟨_, fd, _, tl d le, F.ok S (fun vs H Q E z => by obtain ⟨_, _, e, _⟩ := z; exact e) (fun cdv A outer s H vs Q E hr hsp => ⟨_, soSs d.body (good d q _ S cdv A outer s H E hr) ck, ?_⟩), m, kp, bd⟩
      refine body_D (ar := (d.N.take d.ar).length) (by rw [tl d le]; exact le) ?_
      have e : (gs ds (n + 1)).dD k = fun xs => endD (evSs (gs ds n) d.body (startR false d.N.length xs)) := by
        funext xs
        show (match ds[k]? with | some d => endD (evSs (gs ds n) d.body (startR false d.N.length xs)) | none => .bad) = _
        rw [hd]
      rw [e] at hsp
      exact hsp
    · obtain ⟨d, q, fd, hd, _, rfl, _, F, m, kp, bd, S, le, ck⟩ := fDef k x ar 1 hk
      refine ⟨_, fd, _, tl d le, F.ok S (fun vs H Q E z => by obtain ⟨_, _, _, _, _, _, _, e, _⟩ := z; exact e) (fun cdv A outer s H vs Q E hr hsp => ⟨_, soSs d.body (good d q _ S cdv A outer s H E hr) ck, ?_⟩), m, kp, bd⟩
      refine body_M (ar := (d.N.take d.ar).length) (by rw [tl d le]; exact le) ?_
      have e : (gs ds (n + 1)).dM k = fun xs ys => endM (evSs (gs ds n) d.body (startR true d.N.length (.lst xs :: ys))) := by
        funext xs ys
        show (match ds[k]? with | some d => endM (evSs (gs ds n) d.body (startR true d.N.length (.lst xs :: ys))) | none => .bad) = _
        rw [hd]
      rw [e] at hsp
      exact hsp
    · obtain ⟨d, q, fd, hd, _, rfl, _, F, m, kp, bd, S, le, ck⟩ := fDef k x ar 2 hk
      refine ⟨_, fd, _, tl d le, F.ok S (fun vs H Q E z => by obtain ⟨_, _, e, _⟩ := z; exact e) (fun cdv A outer s H vs Q E hr hsp => ⟨_, soSs d.body (good d q _ S cdv A outer s H E hr) ck, ?_⟩), m, kp, bd⟩
      refine body_F (ar := (d.N.take d.ar).length) (by rw [tl d le]; exact le) ?_
      have e : (gs ds (n + 1)).dF k = fun xs => endF (evSs (gs ds n) d.body (startR false d.N.length xs)) := by
        funext xs
        show (match ds[k]? with | some d => endF (evSs (gs ds n) d.body (startR false d.N.length xs)) | none => .bad) = _
        rw [hd]
      rw [e] at hsp
      exact hsp
theorem lawAt (KX : K.In h) (Gn : h.Ns mainGlobals mg) (c : He.SaysD (faOf ds cls glo) fn K) (ok : AllOk (tbOf ds cls glo) fn ds) (hg : (glo.all fun q => isIS q.2) = true) (hE : excB cls K = true) (P : Program) (w : World) (base : Heap) (n : Nat)
    {k : Nat} {d : Df} {q : He.DefD} {fd : FuncData} (hd : ds[k]? = some d) (hq : fn[k]? = some q) (F : FunD K q.name q.qual q.params q.body q.scope (q.dvs K) (q.kws K) (He.fAd K q.at_) fd) :
    FnOk P w K mg base (L2.CX P w) (n + 1) (He.fAd K q.at_) fd (d.N.take d.ar) (spD (cnOf K ds cls) (d.N.take d.ar).length ((gs ds (n + 1)).dD k)) := by
  obtain ⟨q', hq', o1, _⟩ := ok.get hd
  rw [hq] at hq'
  cases hq'
  unfold dfC at o1
  simp only [Bool.and_eq_true, decide_eq_true_eq, List.isEmpty_iff] at o1
  obtain ⟨⟨⟨⟨⟨e2, e3⟩, e4⟩, e5⟩, e6⟩, e7⟩ := o1
  have e8 : q.dvs K = [] := by unfold He.DefD.dvs; rw [e3]; rfl
  have e9 : q.kws K = [] := by unfold He.DefD.kws; rw [e4]; rfl
  rw [e8, e9] at F
  have S := fs_by e5
  refine F.ok S (fun vs H Q E z => by obtain ⟨_, _, e, _⟩ := z; exact e) (fun cdv A outer s H vs Q E hr hsp => ⟨_, soSs d.body (K := ⟨tbOf ds cls glo, d.N, q.scope⟩) (G := gs ds n) (n := n) (c := cnOf K ds cls) ⟨⟨rfl, rfl, S.nd, rfl, rfl, hr, takes_of rfl rfl rfl rfl, goodAll KX Gn c ok hg hE P w base n⟩, fun _ => rfl, passes_of rfl, S.kind, rfl, rfl⟩ e7, ?_⟩)
  refine body_D (ar := (d.N.take d.ar).length) (by rw [List.length_take]; omega) ?_
  have e : (gs ds (n + 1)).dD k = fun xs => endD (evSs (gs ds n) d.body (startR false d.N.length xs)) := by
    funext xs
    show (match ds[k]? with | some d => endD (evSs (gs ds n) d.body (startR false d.N.length xs)) | none => .bad) = _
    rw [hd]
  rw [e] at hsp
  exact hsp
/-- what the law's own reader wants -/
theorem lawSp {c : Cn} {r : List D → Cr D} {H : Hp} {a : Addr} {ns : List Int} (hS : SqL c.K H a (ns.map V.int)) (hr : r [.scr ns] = .ok (.bl true)) : spD c 1 r [.ref a] H (fun v _ => v = .bl true) fun _ _ _ => False := by
  refine ⟨H, [.scr ns], rfl, Same.refl _, .cons (.scr hS) .nil, ?_⟩
  rw [hr]
  intro v H' Hf' _ _ _ _ rv
  cases rv
  rfl
/-- exceptions, of any world -/
def CXu (P : Program) : CXT := fun outer H s E u s' => ∃ w, L2.CX P w outer H s E u s'
theorem wideCX {P : Program} {w : World} {base : Heap} {k : Nat} {f : Addr} {fd : FuncData} {ps : List Str} {sp : Sp} (F : FnOk P w K mg base (L2.CX P w) k f fd ps sp) : FnOk P w K mg base (CXu P) k f fd ps sp :=
  ⟨F.len, fun A outer s H args us vs Q E hr he hb hv hs => codeAny_mono (F.run A outer s H args us vs Q E hr he hb hv hs) fun r s' q => by
    cases r with
    | error e => exact ⟨w, q⟩
    | ok fl => cases fl <;> exact q⟩
theorem noCX {P : Program} (H : Hp) (s : Shared) (e : Value) (s' : Shared) (h : CXu P [] H s (fun _ _ _ => False) e s') : False := by
  obtain ⟨w, _, _, _, _, _, _, _, _, _, _, _, _, f⟩ := h
  exact f
end
end Ev

end
section
set_option maxHeartbeats 1000000
namespace Ev
open PySem PySem.Spec PyProof.Rows L2
def catR (x y : D) (ρ : En) : R (List D) := match x, y with
    | .lst xs, .lst ys => if xs.length + ys.length ≤ LN then .ok (xs ++ ys) ρ else .bad
    | _, _ => .bad
def repR (x y : D) (ρ : En) : R (List D) := match x, y with
    | .lst xs, .int k => if xs.length * k.toNat ≤ LN ∧ -(2 ^ 63) ≤ k ∧ k < 2 ^ 63 then .ok (List.replicate k.toNat xs).flatten ρ else .bad
    | _, _ => .bad
theorem catR_ok (xs ys : List D) (ρ : En) (h : xs.length + ys.length ≤ 16777216) : catR (.lst xs) (.lst ys) ρ = .ok (xs ++ ys) ρ := if_pos (show xs.length + ys.length ≤ LN from h)
theorem flat1 (d : D) (k : Nat) : (List.replicate k [d]).flatten = List.replicate k d := by
  induction k with
  | zero => rfl
  | succ k ih => rw [List.replicate_succ, List.replicate_succ, List.flatten_cons, ih]; rfl
theorem repR_ok (d : D) (k : Int) (ρ : En) (h : k < 16777216) (h0 : -1000 < k) : repR (.lst [d]) (.int k) ρ = .ok (List.replicate k.toNat d) ρ := by
  rw [← flat1]
  exact if_pos ⟨by show 1 * k.toNat ≤ 16777216; omega, by omega, by omega⟩
theorem op_rep1 (d : D) (k : Int) (h : k < 16777216) (h0 : -1000 < k) : op2 .Mult (.lst [d]) (.int k) = some (.lst (List.replicate k.toNat d)) := by
  rw [← flat1]
  exact if_pos ⟨by show 1 * k.toNat ≤ 16777216; omega, by omega, by omega⟩
theorem op_cat (xs ys : List D) (h : xs.length + ys.length ≤ 16777216) : op2 .Add (.lst xs) (.lst ys) = some (.lst (xs ++ ys)) := if_pos (show xs.length + ys.length ≤ LN from h)
def chnR (f : En → R D) (k : D) (ρ : En) : R D := match k with | .bl true => f ρ | _ => .ok (.bl false) ρ
@[simp] theorem chnR_bl (f : En → R D) (b : Bool) (ρ : En) : chnR f (.bl b) ρ = if b = true then f ρ else .ok (.bl false) ρ := by cases b <;> rfl
def evJ (G : Gs) (it : I) : En → R (List D) := fun ρ => (evI G it ρ).bind few
@[simp] theorem evE_1 {G : Gs} {k} (s : Sl) (ρ : En) : evE G (.con k) (s :: ρ) = .ok k.d (s :: ρ) := (rfl)
@[simp] theorem evE_2 {G : Gs} {k} (s : Sl) (ρ : En) : evE G (.glo k) (s :: ρ) = .ok k.d (s :: ρ) := (rfl)
@[simp] theorem evE_3 {G : Gs} {i} (s : Sl) (ρ : En) : evE G (.var i) (s :: ρ) = rdV (s :: ρ) i := (rfl)
@[simp] theorem evE_4 {G : Gs} {op a b} (s : Sl) (ρ : En) : evE G (.bin op a b) (s :: ρ) = (evE G a (s :: ρ)).bind fun x ρ1 => (evE G b ρ1).bind fun y ρ2 => R.lift (op2 op x y) ρ2 := (rfl)
@[simp] theorem evE_5 {G : Gs} {a} (s : Sl) (ρ : En) : evE G (.neg a) (s :: ρ) = (evE G a (s :: ρ)).bind fun x ρ1 => R.lift (neg1 x) ρ1 := (rfl)
@[simp] theorem evE_6 {G : Gs} {a} (s : Sl) (ρ : En) : evE G (.not a) (s :: ρ) = (evE G a (s :: ρ)).bind fun d ρ1 => R.lift (notV d) ρ1 := (rfl)
@[simp] theorem evE_7 {G : Gs} {op a b} (s : Sl) (ρ : En) : evE G (.cmp op a b) (s :: ρ) = (evE G a (s :: ρ)).bind fun x ρ1 => (evE G b ρ1).bind fun y ρ2 => liftB (cmpD op x y) ρ2 := (rfl)
@[simp] theorem evE_8 {G : Gs} {op op' a b e} (s : Sl) (ρ : En) : evE G (.chn op op' a b e) (s :: ρ) = (evE G a (s :: ρ)).bind fun x ρ1 => (evE G b ρ1).bind fun y ρ2 => (liftB (cmpD op x y) ρ2).bind (chnR fun ρ3 => (evE G e ρ3).bind fun z ρ4 => liftB (cmpD op' y z) ρ4) := (rfl)
@[simp] theorem evE_9 {G : Gs} {t a b} (s : Sl) (ρ : En) : evE G (.ife t a b) (s :: ρ) = (evB G t (s :: ρ)).bind fun k ρ1 => if k = true then evE G a ρ1 else evE G b ρ1 := (rfl)
@[simp] theorem evE_10 {G : Gs} {v} (s : Sl) (ρ : En) : evE G (.and v) (s :: ρ) = (evAnd G v) (s :: ρ) := (rfl)
@[simp] theorem evE_11 {G : Gs} {v} (s : Sl) (ρ : En) : evE G (.or v) (s :: ρ) = (evOr G v) (s :: ρ) := (rfl)
@[simp] theorem evE_12 {G : Gs} {es} (s : Sl) (ρ : En) : evE G (.tup es) (s :: ρ) = (evA G es (s :: ρ)).bind fun xs ρ1 => .ok (.tup xs) ρ1 := (rfl)
@[simp] theorem evE_13 {G : Gs} {f} (s : Sl) (ρ : En) : evE G (.fr f) (s :: ρ) = (evF G f (s :: ρ)).bind fun ds ρ1 => .ok (.lst ds) ρ1 := (rfl)
@[simp] theorem evE_14 {G : Gs} {a b} (s : Sl) (ρ : En) : evE G (.ix a b) (s :: ρ) = (evE G a (s :: ρ)).bind fun x ρ1 => (evE G b ρ1).bind fun k ρ2 => R.lift (ixD x k) ρ2 := (rfl)
@[simp] theorem evE_15 {G : Gs} {i b} (s : Sl) (ρ : En) : evE G (.ixV i b) (s :: ρ) = (rdL (s :: ρ) i).bind fun _ ρ0 => (evE G b ρ0).bind fun k ρ1 => (rdL ρ1 i).bind fun x ρ2 => R.lift (ixD x k) ρ2 := (rfl)
@[simp] theorem evE_16 {G : Gs} {a lo hi} (s : Sl) (ρ : En) : evE G (.sl a lo hi) (s :: ρ) = (evE G a (s :: ρ)).bind fun x ρ1 => (evO G lo ρ1).bind fun l ρ2 => (evO G hi ρ2).bind fun h ρ3 => R.lift (slD x l h) ρ3 := (rfl)
@[simp] theorem evE_17 {G : Gs} {i lo hi} (s : Sl) (ρ : En) : evE G (.slV i lo hi) (s :: ρ) = (rdL (s :: ρ) i).bind fun _ ρ0 => (evO G lo ρ0).bind fun l ρ1 => (evO G hi ρ1).bind fun h ρ2 => (rdL ρ2 i).bind fun x ρ3 => R.lift (slD x l h) ρ3 := (rfl)
@[simp] theorem evE_18 {G : Gs} {f a} (s : Sl) (ρ : En) : evE G (.b1 f a) (s :: ρ) = (evL G a (s :: ρ)).bind fun x ρ1 => R.lift (b1 f x) ρ1 := (rfl)
@[simp] theorem evE_19 {G : Gs} {f a b} (s : Sl) (ρ : En) : evE G (.b2 f a b) (s :: ρ) = (evE G a (s :: ρ)).bind fun x ρ1 => (evE G b ρ1).bind fun y ρ2 => R.lift (b2 f x y) ρ2 := (rfl)
@[simp] theorem evE_20 {G : Gs} {t a} (s : Sl) (ρ : En) : evE G (.isi t a) (s :: ρ) = (evL G a (s :: ρ)).bind fun x ρ1 => liftB (isiD t x) ρ1 := (rfl)
@[simp] theorem evE_21 {G : Gs} {k n es} (s : Sl) (ρ : En) : evE G (.call k n es) (s :: ρ) = (evA G es (s :: ρ)).bind fun ds ρ1 => if ds.length = n then (G.dD k ds).r ρ1 else .bad := (rfl)
@[simp] theorem evE_22 {G : Gs} {k n i es} (s : Sl) (ρ : En) : evE G (.callM k n i es) (s :: ρ) = (rdO (s :: ρ) i).bind fun _ ρ0 => (evA G es ρ0).bind fun ds ρ1 => if ds.length + 1 = n then Ev.callM i (G.dM k) ds ρ1 else .bad := (rfl)
@[simp] theorem evE_23 {G : Gs} {i} (s : Sl) (ρ : En) : evE G (.pop i) (s :: ρ) = (popR i) (s :: ρ) := (rfl)
@[simp] theorem evE_24 {G : Gs} {i e} (s : Sl) (ρ : En) : evE G (.popAt i e) (s :: ρ) = (rdO (s :: ρ) i).bind fun _ ρ0 => (evE G e ρ0).bind fun d ρ1 => Ev.popAt i d ρ1 := (rfl)
@[simp] theorem evL_25 {G : Gs} {i} (s : Sl) (ρ : En) : evL G (.lk i) (s :: ρ) = rdL (s :: ρ) i := (rfl)
@[simp] theorem evL_26 {G : Gs} {e} (s : Sl) (ρ : En) : evL G (.vl e) (s :: ρ) = (evE G e) (s :: ρ) := (rfl)
@[simp] theorem evAnd_27 {G : Gs} {e} (s : Sl) (ρ : En) : evAnd G (.one e) (s :: ρ) = (evE G e) (s :: ρ) := (rfl)
@[simp] theorem evAnd_28 {G : Gs} {e v} (s : Sl) (ρ : En) : evAnd G (.more e v) (s :: ρ) = (evE G e (s :: ρ)).bind (andV (evAnd G v)) := (rfl)
@[simp] theorem evOr_29 {G : Gs} {e} (s : Sl) (ρ : En) : evOr G (.one e) (s :: ρ) = (evE G e) (s :: ρ) := (rfl)
@[simp] theorem evOr_30 {G : Gs} {e v} (s : Sl) (ρ : En) : evOr G (.more e v) (s :: ρ) = (evE G e (s :: ρ)).bind (orV (evOr G v)) := (rfl)
@[simp] theorem evB_31 {G : Gs} {op a b} (s : Sl) (ρ : En) : evB G (.cmp op a b) (s :: ρ) = ((evE G a (s :: ρ)).bind fun x ρ1 => (evE G b ρ1).bind fun y ρ2 => liftB (cmpD op x y) ρ2).bind boolOf := (rfl)
@[simp] theorem evB_32 {G : Gs} {op op' a b e} (s : Sl) (ρ : En) : evB G (.chn op op' a b e) (s :: ρ) = ((evE G a (s :: ρ)).bind fun x ρ1 => (evE G b ρ1).bind fun y ρ2 => (liftB (cmpD op x y) ρ2).bind (chnR fun ρ3 => (evE G e ρ3).bind fun z ρ4 => liftB (cmpD op' y z) ρ4)).bind boolOf := (rfl)
@[simp] theorem evB_33 {G : Gs} {w} (s : Sl) (ρ : En) : evB G (.and w) (s :: ρ) = (evWA G w) (s :: ρ) := (rfl)
@[simp] theorem evB_34 {G : Gs} {w} (s : Sl) (ρ : En) : evB G (.or w) (s :: ρ) = (evWO G w) (s :: ρ) := (rfl)
@[simp] theorem evB_35 {G : Gs} {b} (s : Sl) (ρ : En) : evB G (.not b) (s :: ρ) = (evB G b (s :: ρ)).bind fun k ρ1 => .ok (!k) ρ1 := (rfl)
@[simp] theorem evB_36 {G : Gs} {a} (s : Sl) (ρ : En) : evB G (.tr a) (s :: ρ) = (evL G a (s :: ρ)).bind truB := (rfl)
@[simp] theorem evWA_37 {G : Gs} {b} (s : Sl) (ρ : En) : evWA G (.one b) (s :: ρ) = (evB G b) (s :: ρ) := (rfl)
@[simp] theorem evWA_38 {G : Gs} {b w} (s : Sl) (ρ : En) : evWA G (.more b w) (s :: ρ) = (evB G b (s :: ρ)).bind fun k ρ1 => if k = true then evWA G w ρ1 else .ok false ρ1 := (rfl)
@[simp] theorem evWO_39 {G : Gs} {b} (s : Sl) (ρ : En) : evWO G (.one b) (s :: ρ) = (evB G b) (s :: ρ) := (rfl)
@[simp] theorem evWO_40 {G : Gs} {b w} (s : Sl) (ρ : En) : evWO G (.more b w) (s :: ρ) = (evB G b (s :: ρ)).bind fun k ρ1 => if k = true then .ok true ρ1 else evWO G w ρ1 := (rfl)
@[simp] theorem evO_41 {G : Gs} (s : Sl) (ρ : En) : evO G .no (s :: ρ) = .ok none (s :: ρ) := (rfl)
@[simp] theorem evO_42 {G : Gs} {e} (s : Sl) (ρ : En) : evO G (.so e) (s :: ρ) = (evE G e (s :: ρ)).bind fun d ρ1 => R.lift (partD d) ρ1 := (rfl)
@[simp] theorem evA_43 {G : Gs} (s : Sl) (ρ : En) : evA G .nil (s :: ρ) = .ok [] (s :: ρ) := (rfl)
@[simp] theorem evA_44 {G : Gs} {e es} (s : Sl) (ρ : En) : evA G (.cons e es) (s :: ρ) = (evE G e (s :: ρ)).bind fun x ρ1 => (evA G es ρ1).bind fun xs ρ2 => .ok (x :: xs) ρ2 := (rfl)
@[simp] theorem evF_45 {G : Gs} {es} (s : Sl) (ρ : En) : evF G (.lst es) (s :: ρ) = (evA G es) (s :: ρ) := (rfl)
@[simp] theorem evF_46 {G : Gs} {a} (s : Sl) (ρ : En) : evF G (.listOf a) (s :: ρ) = (evL G a (s :: ρ)).bind fun x ρ1 => R.lift (seqD x) ρ1 := (rfl)
@[simp] theorem evF_47 {G : Gs} {a} (s : Sl) (ρ : En) : evF G (.listRev a) (s :: ρ) = (evL G a (s :: ρ)).bind fun x ρ1 => R.lift (revD x) ρ1 := (rfl)
@[simp] theorem evF_48 {G : Gs} {a} (s : Sl) (ρ : En) : evF G (.rg1 a) (s :: ρ) = (evE G a (s :: ρ)).bind fun x ρ1 => R.lift (rgL [x]) ρ1 := (rfl)
@[simp] theorem evF_49 {G : Gs} {a b} (s : Sl) (ρ : En) : evF G (.rg2 a b) (s :: ρ) = (evE G a (s :: ρ)).bind fun x ρ1 => (evE G b ρ1).bind fun y ρ2 => R.lift (rgL [x, y]) ρ2 := (rfl)
@[simp] theorem evF_50 {G : Gs} {a} (s : Sl) (ρ : En) : evF G (.sorted a) (s :: ρ) = (evL G a (s :: ρ)).bind fun x ρ1 => match x with | .lst _ => R.lift (sortD x) ρ1 | _ => .bad := (rfl)
@[simp] theorem evF_51 {G : Gs} {a b} (s : Sl) (ρ : En) : evF G (.cat a b) (s :: ρ) = (evE G a (s :: ρ)).bind fun x ρ1 => (evE G b ρ1).bind fun y ρ2 => catR x y ρ2 := (rfl)
@[simp] theorem evF_52 {G : Gs} {a b} (s : Sl) (ρ : En) : evF G (.rep a b) (s :: ρ) = (evE G a (s :: ρ)).bind fun x ρ1 => (evE G b ρ1).bind fun y ρ2 => repR x y ρ2 := (rfl)
@[simp] theorem evF_53 {G : Gs} {tg it t e vs} (s : Sl) (ρ : En) : evF G (.comp tg it t e vs) (s :: ρ) = (compR tg (evJ G it) (evC G t) (evE G e) vs) (s :: ρ) := (rfl)
@[simp] theorem evF_54 {G : Gs} {k n es} (s : Sl) (ρ : En) : evF G (.call k n es) (s :: ρ) = (evA G es (s :: ρ)).bind fun ds ρ1 => if ds.length = n then (G.dF k ds).f ρ1 else .bad := (rfl)
@[simp] theorem evC_55 {G : Gs} (s : Sl) (ρ : En) : evC G .no (s :: ρ) = .ok true (s :: ρ) := (rfl)
@[simp] theorem evC_56 {G : Gs} {b} (s : Sl) (ρ : En) : evC G (.one b) (s :: ρ) = (evB G b) (s :: ρ) := (rfl)
@[simp] theorem evI_57 {G : Gs} {a} (s : Sl) (ρ : En) : evI G (.sq a) (s :: ρ) = (evE G a (s :: ρ)).bind fun x ρ1 => (R.lift (itD x) ρ1).bind fun xs ρ2 => itN x xs ρ2 := (rfl)
@[simp] theorem evI_58 {G : Gs} {a} (s : Sl) (ρ : En) : evI G (.r1 a) (s :: ρ) = (evE G a (s :: ρ)).bind fun x ρ1 => R.lift (rng [x]) ρ1 := (rfl)
@[simp] theorem evI_59 {G : Gs} {a b} (s : Sl) (ρ : En) : evI G (.r2 a b) (s :: ρ) = (evE G a (s :: ρ)).bind fun x ρ1 => (evE G b ρ1).bind fun y ρ2 => R.lift (rng [x, y]) ρ2 := (rfl)
@[simp] theorem evI_60 {G : Gs} {a b e} (s : Sl) (ρ : En) : evI G (.r3 a b e) (s :: ρ) = (evE G a (s :: ρ)).bind fun x ρ1 => (evE G b ρ1).bind fun y ρ2 => (evE G e ρ2).bind fun z ρ3 => R.lift (rng [x, y, z]) ρ3 := (rfl)
@[simp] theorem evI_61 {G : Gs} {a b} (s : Sl) (ρ : En) : evI G (.zip a b) (s :: ρ) = (evE G a (s :: ρ)).bind fun x ρ1 => (evE G b ρ1).bind fun y ρ2 => R.lift (zipD x y) ρ2 := (rfl)
@[simp] theorem evI_62 {G : Gs} {a} (s : Sl) (ρ : En) : evI G (.enum a) (s :: ρ) = (evE G a (s :: ρ)).bind fun x ρ1 => R.lift (enumD x) ρ1 := (rfl)
@[simp] theorem evI_63 {G : Gs} {a} (s : Sl) (ρ : En) : evI G (.rev a) (s :: ρ) = (evE G a (s :: ρ)).bind fun x ρ1 => R.lift (revD x) ρ1 := (rfl)
@[simp] theorem evP_64 {G : Gs} (s : Sl) (ρ : En) : evP G .nil (s :: ρ) = .ok [] (s :: ρ) := (rfl)
@[simp] theorem evP_65 {G : Gs} {e p} (s : Sl) (ρ : En) : evP G (.cE e p) (s :: ρ) = (evE G e (s :: ρ)).bind fun d ρ1 => (evP G p ρ1).bind fun ss ρ2 => .ok (.va d :: ss) ρ2 := (rfl)
@[simp] theorem evP_66 {G : Gs} {f p} (s : Sl) (ρ : En) : evP G (.cF f p) (s :: ρ) = (evF G f (s :: ρ)).bind fun xs ρ1 => (evP G p ρ1).bind fun ss ρ2 => .ok (.ow false xs :: ss) ρ2 := (rfl)
@[simp] theorem evS_67 {G : Gs} (s : Sl) (ρ : En) : evS G .pass (s :: ρ) = .ok .nx (s :: ρ) := (rfl)
@[simp] theorem evS_68 {G : Gs} (s : Sl) (ρ : En) : evS G .brk (s :: ρ) = .ok .bk (s :: ρ) := (rfl)
@[simp] theorem evS_69 {G : Gs} (s : Sl) (ρ : En) : evS G .cnt (s :: ρ) = .ok .ct (s :: ρ) := (rfl)
@[simp] theorem evS_70 {G : Gs} {e} (s : Sl) (ρ : En) : evS G (.ret e) (s :: ρ) = (evE G e (s :: ρ)).bind fun d ρ1 => .ok (.rt d) ρ1 := (rfl)
@[simp] theorem evS_71 {G : Gs} {f} (s : Sl) (ρ : En) : evS G (.retF f) (s :: ρ) = (evF G f (s :: ρ)).bind fun xs ρ1 => .ok (.rf xs) ρ1 := (rfl)
@[simp] theorem evS_72 {G : Gs} (s : Sl) (ρ : En) : evS G .retN (s :: ρ) = .ok (.rt .non) (s :: ρ) := (rfl)
@[simp] theorem evS_73 {G : Gs} {t a b} (s : Sl) (ρ : En) : evS G (.ife t a b) (s :: ρ) = (evB G t (s :: ρ)).bind fun k ρ1 => if k = true then evSs G a ρ1 else evSs G b ρ1 := (rfl)
@[simp] theorem evS_74 {G : Gs} {i e} (s : Sl) (ρ : En) : evS G (.asg i e) (s :: ρ) = (evE G e (s :: ρ)).bind fun d ρ1 => (R.lift (setV i d ρ1) ρ1).bind fun ρ2 _ => .ok .nx ρ2 := (rfl)
@[simp] theorem evS_75 {G : Gs} {i f} (s : Sl) (ρ : En) : evS G (.asgF i f) (s :: ρ) = (evF G f (s :: ρ)).bind fun ds ρ1 => (R.lift (setV i (.lst ds) ρ1) ρ1).bind fun ρ2 _ => .ok .nx ρ2 := (rfl)
@[simp] theorem evS_76 {G : Gs} {tg e} (s : Sl) (ρ : En) : evS G (.asgT tg e) (s :: ρ) = (evE G e (s :: ρ)).bind fun d ρ1 => (R.lift (Ev.asgT tg d ρ1) ρ1).bind fun ρ2 _ => .ok .nx ρ2 := (rfl)
@[simp] theorem evS_77 {G : Gs} {i f} (s : Sl) (ρ : En) : evS G (.own i f) (s :: ρ) = (evF G f (s :: ρ)).bind fun ds ρ1 => (R.lift (setO i ds ρ1) ρ1).bind fun ρ2 _ => .ok .nx ρ2 := (rfl)
@[simp] theorem evS_78 {G : Gs} {op i e} (s : Sl) (ρ : En) : evS G (.aug op i e) (s :: ρ) = (rdL (s :: ρ) i).bind fun x0 ρ0 => (evE G e ρ0).bind fun d ρ1 => (R.lift ((aop2 op x0 d).bind fun z => setV i z ρ1) ρ1).bind fun ρ2 _ => .ok .nx ρ2 := (rfl)
@[simp] theorem evS_79 {G : Gs} {i e} (s : Sl) (ρ : En) : evS G (.app i e) (s :: ρ) = (rdO (s :: ρ) i).bind fun _ ρ0 => (evE G e ρ0).bind fun d ρ1 => (R.lift (modO i (appF d) ρ1) ρ1).bind fun ρ2 _ => .ok .nx ρ2 := (rfl)
@[simp] theorem evS_80 {G : Gs} {i e} (s : Sl) (ρ : En) : evS G (.ext i e) (s :: ρ) = (rdO (s :: ρ) i).bind fun _ ρ0 => (evE G e ρ0).bind fun d ρ1 => (R.lift (modO i (extF d) ρ1) ρ1).bind fun ρ2 _ => .ok .nx ρ2 := (rfl)
@[simp] theorem evS_81 {G : Gs} {i b e} (s : Sl) (ρ : En) : evS G (.setI i b e) (s :: ρ) = (evE G e (s :: ρ)).bind fun d ρ1 => (rdO ρ1 i).bind fun _ ρ2 => (evE G b ρ2).bind fun k ρ3 => (R.lift (modO i (setF k d) ρ3) ρ3).bind fun ρ4 _ => .ok .nx ρ4 := (rfl)
@[simp] theorem evS_82 {G : Gs} {tg it b} (s : Sl) (ρ : En) : evS G (.for tg it b) (s :: ρ) = (evI G it (s :: ρ)).bind fun items ρ1 => forL (Ev.asgT tg) (evSs G b) items ρ1 := (rfl)
@[simp] theorem evS_83 {G : Gs} {n t b} (s : Sl) (ρ : En) : evS G (.whl n t b) (s :: ρ) = (whileL (evB G t) (evSs G b) n) (s :: ρ) := (rfl)
@[simp] theorem evS_84 {G : Gs} {e} (s : Sl) (ρ : En) : evS G (.expr e) (s :: ρ) = (evE G e (s :: ρ)).bind fun _ ρ1 => .ok .nx ρ1 := (rfl)
@[simp] theorem evS_85 {G : Gs} (s : Sl) (ρ : En) : evS G .doc (s :: ρ) = .ok .nx (s :: ρ) := (rfl)
@[simp] theorem evS_86 {G : Gs} {k} (s : Sl) (ρ : En) : evS G (.rse k) (s :: ρ) = .err k (s :: ρ) := (rfl)
@[simp] theorem evS_87 {G : Gs} {is p} (s : Sl) (ρ : En) : evS G (.par is p) (s :: ρ) = (parR is (evP G p)) (s :: ρ) := (rfl)
@[simp] theorem evSs_88 {G : Gs} (s : Sl) (ρ : En) : evSs G .nil (s :: ρ) = .ok .nx (s :: ρ) := (rfl)
@[simp] theorem evSs_89 {G : Gs} {s r} (s0 : Sl) (ρ : En) : evSs G (.cons s r) (s0 :: ρ) = (evS G s (s0 :: ρ)).bind (thenS (evSs G r)) := (rfl)
@[simp] theorem evE_callX {G : Gs} {ks n ix es} (s : Sl) (ρ : En) : evE G (.callX ks n ix es) (s :: ρ) = (evE G ix (s :: ρ)).bind fun d ρ1 => (R.lift (fnIx ks d) ρ1).bind fun k ρ2 => (evA G es ρ2).bind fun ds ρ3 => if ds.length = n then (G.dD k ds).r ρ3 else .bad := (rfl)
@[simp] theorem evF_mov {G : Gs} {i} (s : Sl) (ρ : En) : evF G (.mov i) (s :: ρ) = movR i (s :: ρ) := (rfl)
@[simp] theorem evS_tri {G : Gs} {nC b hs} (s : Sl) (ρ : En) : evS G (.tri nC b hs) (s :: ρ) = triR nC (hs.map fun q => (q.1, q.2.d)) (evSs G b (s :: ρ)) := (rfl)
@[simp] theorem evS_trn {G : Gs} {nC i k j s0 s1 b} (s : Sl) (ρ : En) : evS G (.trn nC i k j s0 s1 b) (s :: ρ) = trnR nC i k j s0 s1 (evSs G b (s :: ρ)) := (rfl)
theorem fnIx_nat (ks : List Nat) (j k : Nat) (h : ks[j]? = some k) : fnIx ks (.int j) = some k := by
  obtain ⟨hl, _⟩ := List.getElem?_eq_some_iff.mp h
  have e : ixD (.lst (ks.map D.fn)) (.int j) = some (.fn k) := by
    show (L2.ixN (ks.map D.fn).length (j : Int)).bind (fun j => (ks.map D.fn)[j]?) = some (.fn k)
    unfold L2.ixN
    rw [List.length_map, if_pos (by omega), if_pos (by omega)]
    simp [h]
  unfold fnIx
  rw [e]
@[simp] theorem fnIx_0 (a : Nat) (ks : List Nat) : fnIx (a :: ks) (.int 0) = some a := fnIx_nat _ 0 _ rfl
@[simp] theorem fnIx_1 (a b : Nat) (ks : List Nat) : fnIx (a :: b :: ks) (.int 1) = some b := fnIx_nat _ 1 _ rfl
@[simp] theorem fnIx_2 (a b c : Nat) (ks : List Nat) : fnIx (a :: b :: c :: ks) (.int 2) = some c := fnIx_nat _ 2 _ rfl
@[simp] theorem fnIx_3 (a b c d : Nat) (ks : List Nat) : fnIx (a :: b :: c :: d :: ks) (.int 3) = some d := fnIx_nat _ 3 _ rfl
@[simp] theorem fnIx_4 (a b c d e : Nat) (ks : List Nat) : fnIx (a :: b :: c :: d :: e :: ks) (.int 4) = some e := fnIx_nat _ 4 _ rfl
@[simp] theorem fnIx_5 (a b c d e f : Nat) (ks : List Nat) : fnIx (a :: b :: c :: d :: e :: f :: ks) (.int 5) = some f := fnIx_nat _ 5 _ rfl
@[simp] theorem fnIx_6 (a b c d e f g : Nat) (ks : List Nat) : fnIx (a :: b :: c :: d :: e :: f :: g :: ks) (.int 6) = some g := fnIx_nat _ 6 _ rfl
@[simp] theorem movR_ok {ρ : En} {i : Nat} {xs : List D} (h : ρ[i]? = some (.ow false xs)) : movR i ρ = .ok xs (ρ.set i .un) := by unfold movR; rw [h]
@[simp] theorem trnR_err (nC i k j : Nat) (s0 s1 : Str) (x : Nat) (ρ : En) : trnR nC i k j s0 s1 (.err x ρ) = if x < nC then (if subC x k = true then (if i < ρ.length then .ok (.rt (.str (if subC x j = true then s1 else s0))) ρ else .bad) else .err x ρ) else .bad := (rfl)
theorem R.bind_congr {α β : Type} {r r' : R α} {f : α → En → R β} (h : r = r') : r.bind f = r'.bind f := by rw [h]
theorem forL_congr {g : D → En → Option En} {fb : En → R Fl} {xs ys : List D} {ρ ρ' : En} (h : xs = ys) (h2 : ρ = ρ') : forL g fb xs ρ = forL g fb ys ρ' := by rw [h, h2]
theorem whileL_congr {ft : En → R Bool} {fb : En → R Fl} {n : Nat} {ρ ρ' : En} (h2 : ρ = ρ') : whileL ft fb n ρ = whileL ft fb n ρ' := by rw [h2]
theorem compR_congr {T : Tg} {fi : En → R (List D)} {ft : En → R Bool} {fe : En → R D} {vs : List Nat} {ρ ρ' : En} (h2 : ρ = ρ') : compR T fi ft fe vs ρ = compR T fi ft fe vs ρ' := by rw [h2]
theorem compL_congr {g : D → En → Option En} {ft : En → R Bool} {fe : En → R D} {vs : List Nat} {xs ys : List D} {ρ ρ' : En} (h : xs = ys) (h2 : ρ = ρ') : compL g ft fe vs xs ρ = compL g ft fe vs ys ρ' := by rw [h, h2]
@[simp] theorem thenS_nx (k : En → R Fl) (ρ : En) : thenS k .nx ρ = k ρ := (rfl)
@[simp] theorem thenS_bk (k : En → R Fl) (ρ : En) : thenS k .bk ρ = .ok .bk ρ := (rfl)
@[simp] theorem thenS_ct (k : En → R Fl) (ρ : En) : thenS k .ct ρ = .ok .ct ρ := (rfl)
@[simp] theorem thenS_rt (k : En → R Fl) (d : D) (ρ : En) : thenS k (.rt d) ρ = .ok (.rt d) ρ := (rfl)
@[simp] theorem thenS_rf (k : En → R Fl) (d : List D) (ρ : En) : thenS k (.rf d) ρ = .ok (.rf d) ρ := (rfl)
@[simp] theorem endD_nx (ρ : En) : endD (.ok .nx ρ) = .ok .non := (rfl)
@[simp] theorem endD_rt (d : D) (ρ : En) : endD (.ok (.rt d) ρ) = .ok d := (rfl)
@[simp] theorem endD_err (x : Nat) (ρ : En) : endD (.err x ρ) = .err x := (rfl)
@[simp] theorem endD_bad : endD .bad = .bad := (rfl)
@[simp] theorem trnR_bad (nC i k j : Nat) (s0 s1 : Str) : trnR nC i k j s0 s1 .bad = .bad := (rfl)
@[simp] theorem triR_bad (nC : Nat) (hs : List (Nat × D)) : triR nC hs .bad = .bad := (rfl)
@[simp] theorem endF_rf (d : List D) (ρ : En) : endF (.ok (.rf d) ρ) = .ok d := (rfl)
@[simp] theorem endM_nx (ρ : En) (ys : List D) : endM (.ok .nx (.ow true ys :: ρ)) = .ok (.non, ys) := (rfl)
@[simp] theorem endM_rt (d : D) (ρ : En) (ys : List D) : endM (.ok (.rt d) (.ow true ys :: ρ)) = .ok (d, ys) := (rfl)
@[simp] theorem liftB_s (k : Bool) (ρ : En) : liftB (some k) ρ = .ok (.bl k) ρ := (rfl)
@[simp] theorem boolOf_bl (k : Bool) (ρ : En) : boolOf (.bl k) ρ = .ok k ρ := (rfl)
@[simp] theorem truB_bl (k : Bool) (ρ : En) : truB (.bl k) ρ = .ok k ρ := (rfl)
@[simp] theorem con_d1 : Con.d .non = .non := (rfl)
@[simp] theorem con_d2 (b : Bool) : Con.d (.bl b) = .bl b := (rfl)
@[simp] theorem con_d3 (i : Int) : Con.d (.int i) = .int i := (rfl)
@[simp] theorem con_d4 (x : Str) : Con.d (.str x) = .str x := (rfl)
@[simp] theorem andV_bl (f : En → R D) (b : Bool) (ρ : En) : andV f (.bl b) ρ = if b = true then f ρ else .ok (.bl b) ρ := by cases b <;> rfl
@[simp] theorem orV_bl (f : En → R D) (b : Bool) (ρ : En) : orV f (.bl b) ρ = if b = true then .ok (.bl b) ρ else f ρ := by cases b <;> rfl
@[simp] theorem notV_bl (b : Bool) : notV (.bl b) = some (.bl !b) := (rfl)
@[simp] theorem neg1_int (i : Int) : neg1 (.int i) = some (.int (-i)) := (rfl)
@[simp] theorem op_add (i j : Int) : op2 .Add (.int i) (.int j) = some (.int (i + j)) := (rfl)
@[simp] theorem op_sub (i j : Int) : op2 .Sub (.int i) (.int j) = some (.int (i - j)) := (rfl)
@[simp] theorem aop_add (i j : Int) : aop2 .Add (.int i) (.int j) = some (.int (i + j)) := (rfl)
@[simp] theorem aop_sub (i j : Int) : aop2 .Sub (.int i) (.int j) = some (.int (i - j)) := (rfl)
theorem aop_mul (i j : Int) (h : (-(2 ^ 64) < i ∧ i < 2 ^ 64) ∨ (-(2 ^ 64) < j ∧ j < 2 ^ 64)) : aop2 .Mult (.int i) (.int j) = some (.int (i * j)) := by
  show (if _ then _ else _) = _
  rw [if_pos h]
theorem op_mul (i j : Int) (h : mulOk i j = true) : op2 .Mult (.int i) (.int j) = some (.int (i * j)) := by
  show (if _ then _ else _) = _
  rw [if_pos h]
theorem mulOk_r (i j : Int) (h : -18446744073709551616 < j ∧ j < 18446744073709551616) : mulOk i j = true := by
  unfold mulOk
  rw [Bool.or_eq_true, Bool.or_eq_true]
  exact .inl (.inl (decide_eq_true (by omega)))
theorem mulOk_l (i j : Int) (h : -18446744073709551616 < i ∧ i < 18446744073709551616) : mulOk i j = true := by
  unfold mulOk
  rw [Bool.or_eq_true, Bool.or_eq_true]
  exact .inl (.inr (decide_eq_true (by omega)))
theorem divOk_s (j : Int) (h : 0 < j ∧ j < 18446744073709551616) : divOk j = true := by
  unfold divOk BIGD
  rw [Bool.and_eq_true]
  refine ⟨decide_eq_true h.1, decide_eq_true ?_⟩
  have : j.natAbs < 2 ^ 64 := by omega
  exact Nat.lt_of_lt_of_le this (Nat.pow_le_pow_right (by decide) (by decide))
theorem op_fdiv (i j : Int) (h : 0 < j ∧ j < 18446744073709551616) : op2 .FloorDiv (.int i) (.int j) = some (.int (i / j)) := by
  show (if _ then _ else _) = _
  rw [if_pos (divOk_s j h)]
theorem op_mod (i j : Int) (h : 0 < j) : op2 .Mod (.int i) (.int j) = some (.int (i % j)) := by
  show (if _ then _ else _) = _
  rw [if_pos h]
@[simp] theorem cmp_lt (i j : Int) : cmpD .Lt (.int i) (.int j) = some (decide (i < j)) := (rfl)
@[simp] theorem cmp_le (i j : Int) : cmpD .LtE (.int i) (.int j) = some (decide (i ≤ j)) := (rfl)
@[simp] theorem cmp_gt (i j : Int) : cmpD .Gt (.int i) (.int j) = some (decide (j < i)) := (rfl)
@[simp] theorem cmp_ge (i j : Int) : cmpD .GtE (.int i) (.int j) = some (decide (j ≤ i)) := (rfl)
@[simp] theorem cmp_eqI (i j : Int) : cmpD .Eq (.int i) (.int j) = some (i == j) := (rfl)
@[simp] theorem cmp_neI (i j : Int) : cmpD .NotEq (.int i) (.int j) = some (!(i == j)) := (rfl)
@[simp] theorem cmp_eqB (i j : Bool) : cmpD .Eq (.bl i) (.bl j) = some (i == j) := (rfl)
@[simp] theorem cmp_neB (i j : Bool) : cmpD .NotEq (.bl i) (.bl j) = some (!(i == j)) := (rfl)
@[simp] theorem cmp_isN (x : D) : cmpD .Is x .non = some (match x with | .non => true | _ => false) := by cases x <;> rfl
@[simp] theorem cmp_isnN (x : D) : cmpD .IsNot x .non = some (!(match x with | .non => true | _ => false)) := by cases x <;> rfl
theorem forL_nil (g : D → En → Option En) (fb : En → R Fl) (ρ : En) : forL g fb [] ρ = .ok .nx ρ := rfl
theorem forL_cons (g : D → En → Option En) (fb : En → R Fl) (d : D) (ds : List D) (ρ : En) : forL g fb (d :: ds) ρ = match g d ρ with
    | none => .bad
    | some ρ1 => (fb ρ1).bind fun fl ρ2 =>
      match fl with
      | .nx => forL g fb ds ρ2
      | .ct => forL g fb ds ρ2
      | .bk => .ok .nx ρ2
      | .rt d => .ok (.rt d) ρ2
      | .rf xs => .ok (.rf xs) ρ2 := rfl

theorem forL_one {g : D → En → Option En} {fb : En → R Fl} {d : D} {ds : List D} {ρ ρ1 ρ2 : En} (hg : g d ρ = some ρ1) (hb : fb ρ1 = .ok .nx ρ2) : forL g fb (d :: ds) ρ = forL g fb ds ρ2 := by
  rw [forL_cons, hg]
  simp [hb]
@[simp] theorem parR_e (is : List Nat) (fs : En → R (List Sl)) (ρ : En) : parR is fs ρ = (fs ρ).bind fun ss ρ1 => (R.lift (setPs is ss ρ1) ρ1).bind fun ρ2 _ => .ok .nx ρ2 := (rfl)
/-- no caller's list -/
def Nt : Sl → Prop
  | .ow true _ => False
  | _ => True
@[simp] theorem nt_un : Nt .un := trivial
@[simp] theorem nt_va (d : D) : Nt (.va d) := trivial
@[simp] theorem nt_ow (xs : Ob) : Nt (.ow false xs) := trivial
@[simp] theorem obd_lst (xs : List D) : Ob.d (.lst xs) = .lst xs := (rfl)
@[simp] theorem obd_dK (ks : List Key) (xs : List D) : Ob.d (.dK ks xs) = .dK ks xs := (rfl)
@[simp] theorem obd_dT (ks : List (List Key)) (xs : List D) : Ob.d (.dT ks xs) = .dT ks xs := (rfl)
theorem setV_z' {s : Sl} {ρ : En} {d : D} (h : Nt s) : setV 0 d (s :: ρ) = some (.va d :: ρ) := by
  cases s with
  | un => rfl
  | va e => rfl
  | ow io xs => cases io with
    | true => exact h.elim
    | false => rfl
@[simp] theorem setV_z {s : Sl} {ρ : En} {d : D} (h : Nt s) : setV 0 d (s :: ρ) = some (.va d :: ρ) := setV_z' h
@[simp] theorem setV_s {s : Sl} {ρ : En} {d : D} {i : Nat} : setV (i + 1) d (s :: ρ) = (setV i d ρ).map (s :: ·) := by
  unfold setV
  rw [List.getElem?_cons_succ]
  split <;> simp_all
@[simp] theorem setO_z {s : Sl} {ρ : En} {ds : Ob} (h : Nt s) : setO 0 ds (s :: ρ) = some (.ow false ds :: ρ) := by
  cases s with
  | un => rfl
  | va e => rfl
  | ow io xs => cases io with
    | true => exact h.elim
    | false => rfl
@[simp] theorem setO_s {s : Sl} {ρ : En} {ds : Ob} {i : Nat} : setO (i + 1) ds (s :: ρ) = (setO i ds ρ).map (s :: ·) := by
  unfold setO
  rw [List.getElem?_cons_succ]
  split <;> simp_all
@[simp] theorem modO_z {f : List D → Option (List D)} {io : Bool} {xs : List D} {ρ : En} : modO 0 f (.ow io xs :: ρ) = (f xs).map fun ys => .ow io ys :: ρ := (rfl)
@[simp] theorem modO_s {f : List D → Option (List D)} {s : Sl} {ρ : En} {i : Nat} : modO (i + 1) f (s :: ρ) = (modO i f ρ).map (s :: ·) := by
  unfold modO
  rw [List.getElem?_cons_succ]
  cases h : ρ[i]? with
  | none => rfl
  | some t =>
    cases t with
    | ow io xs =>
      cases xs with
      | lst xs => dsimp only; cases f xs <;> rfl
      | _ => rfl
    | _ => rfl
@[simp] theorem asgT_nm (i : Nat) (d : D) (ρ : En) : asgT (.nm i) d ρ = setV i d ρ := (rfl)
@[simp] theorem asgT_tup (is : List Nat) (ds : List D) (ρ : En) : asgT (.tup is) (.tup ds) ρ = setVs is ds ρ := (rfl)
@[simp] theorem setVs_n (ρ : En) : setVs [] [] ρ = some ρ := (rfl)
@[simp] theorem setVs_c (i : Nat) (is : List Nat) (d : D) (ds : List D) (ρ : En) : setVs (i :: is) (d :: ds) ρ = (setV i d ρ).bind (setVs is ds) := (rfl)
@[simp] theorem setPs_n (ρ : En) : setPs [] [] ρ = some ρ := (rfl)
@[simp] theorem setPs_c (i : Nat) (is : List Nat) (s : Sl) (ss : List Sl) (ρ : En) : setPs (i :: is) (s :: ss) ρ = (setP i s ρ).bind (setPs is ss) := (rfl)
@[simp] theorem setP_v (i : Nat) (d : D) (ρ : En) : setP i (.va d) ρ = setV i d ρ := (rfl)
@[simp] theorem setP_o (i : Nat) (ds : Ob) (ρ : En) : setP i (.ow false ds) ρ = setO i ds ρ := (rfl)
@[simp] theorem b2_min (i j : Int) : b2 .min (.int i) (.int j) = some (.int (min i j)) := by
  show some (D.int (if j < i then j else i)) = _
  congr 2
  split <;> omega
@[simp] theorem b2_max (i j : Int) : b2 .max (.int i) (.int j) = some (.int (max i j)) := by
  show some (D.int (if j > i then j else i)) = _
  congr 2
  split <;> omega
@[simp] theorem b1_len_l (xs : List D) : b1 .len (.lst xs) = some (.int xs.length) := (rfl)
@[simp] theorem b1_len_t (xs : List D) : b1 .len (.tup xs) = some (.int xs.length) := (rfl)
@[simp] theorem b1_abs (i : Int) : b1 .abs (.int i) = some (.int (if i < 0 then -i else i)) := (rfl)
@[simp] theorem b1_int (i : Int) : b1 .int (.int i) = some (.int i) := (rfl)
@[simp] theorem b1_intb (k : Bool) : b1 .int (.bl k) = some (.int (if k then 1 else 0)) := (rfl)
theorem appF_ok (d : D) (xs : List D) (h : xs.length < 16777216) : appF d xs = some (xs ++ [d]) := by
  unfold appF
  rw [if_pos (show xs.length < LN from h)]
/-- the numbers a .. b-1 -/
def nums (a : Int) (k : Nat) : List D := (List.range k).map fun (j : Nat) => D.int (a + (j : Int))
theorem nums_succ (a : Int) (k : Nat) : nums a (k + 1) = .int a :: nums (a + 1) k := by
  unfold nums
  rw [List.range_succ_eq_map, List.map_cons, List.map_map]
  congr 1
  · simp
  · apply List.map_congr_left
    intro j _
    show D.int _ = D.int _
    congr 1
    simp only [Nat.succ_eq_add_one]
    omega
@[simp] theorem nums_zero (a : Int) : nums a 0 = [] := (rfl)
theorem nums_len (a : Int) (k : Nat) : (nums a k).length = k := by unfold nums; rw [List.length_map, List.length_range]
theorem rng_1 (j : Int) (h : -(2 ^ 62) ≤ j ∧ j < 2 ^ 62) : rng [.int j] = some (nums 0 j.toNat) := by
  show (if _ then _ else _) = _
  rw [if_pos h]
  rfl
theorem rng_2 (i j : Int) (h : -(2 ^ 62) ≤ i ∧ i < 2 ^ 62 ∧ -(2 ^ 62) ≤ j ∧ j < 2 ^ 62) : rng [.int i, .int j] = some (nums i (j - i).toNat) := by
  show (if _ then _ else _) = _
  rw [if_pos h]
  rfl
/-- lists of whole numbers, of truths -/
def IL (ns : List Int) : D := .lst (ns.map .int)
def BL (bs : List Bool) : D := .lst (bs.map .bl)
theorem bls_map (bs : List Bool) : bls? (bs.map .bl) = some bs := by
  induction bs with
  | nil => rfl
  | cons b bs ih => simp [bls?, ih]
theorem ints_map (ns : List Int) : ints? (ns.map .int) = some ns := by
  induction ns with
  | nil => rfl
  | cons b bs ih => simp [ints?, ih]
theorem b1_all (bs : List Bool) : b1 .all (.lst (bs.map .bl)) = some (.bl (bs.all id)) := by
  show (bls? _).bind _ = _
  rw [bls_map]; rfl
theorem shp_ints (n : Nat) (ns : List Int) : shp (n + 1) (.lst (ns.map .int)) = true := by
  show (ns.map D.int).all (shp n) = true
  rw [List.all_map, List.all_eq_true]
  intro x _
  cases n <;> rfl
theorem shp_bls (n : Nat) (ns : List Bool) : shp (n + 1) (.lst (ns.map .bl)) = true := by
  show (ns.map D.bl).all (shp n) = true
  rw [List.all_map, List.all_eq_true]
  intro x _
  cases n <;> rfl
theorem eqDs_ints : ∀ (ns ms : List Int), eqDs (ns.map .int) (ms.map .int) = decide (ns = ms)
  | [], [] => rfl
  | [], _ :: _ => by simp [eqDs]
  | _ :: _, [] => by simp [eqDs]
  | n :: ns, m :: ms => by
    show (n == m && eqDs (ns.map .int) (ms.map .int)) = _
    rw [eqDs_ints ns ms, Bool.eq_iff_iff]
    simp
theorem eqDs_bls : ∀ (ns ms : List Bool), eqDs (ns.map .bl) (ms.map .bl) = decide (ns = ms)
  | [], [] => rfl
  | [], _ :: _ => by simp [eqDs]
  | _ :: _, [] => by simp [eqDs]
  | n :: ns, m :: ms => by
    show (n == m && eqDs (ns.map .bl) (ms.map .bl)) = _
    rw [eqDs_bls ns ms, Bool.eq_iff_iff]
    simp
theorem cmp_eqIL (ns ms : List Int) : cmpD .Eq (.lst (ns.map .int)) (.lst (ms.map .int)) = some (decide (ns = ms)) := by
  show (if _ then _ else _) = _
  rw [if_pos ⟨shp_ints _ _, shp_ints _ _⟩]
  exact congrArg some (eqDs_ints ns ms)
theorem cmp_neIL (ns ms : List Int) : cmpD .NotEq (.lst (ns.map .int)) (.lst (ms.map .int)) = some (!decide (ns = ms)) := by
  show (if _ then _ else _) = _
  rw [if_pos ⟨shp_ints _ _, shp_ints _ _⟩]
  exact congrArg (fun b => some (!b)) (eqDs_ints ns ms)
theorem cmp_neBL (ns ms : List Bool) : cmpD .NotEq (.lst (ns.map .bl)) (.lst (ms.map .bl)) = some (!decide (ns = ms)) := by
  show (if _ then _ else _) = _
  rw [if_pos ⟨shp_bls _ _, shp_bls _ _⟩]
  exact congrArg (fun b => some (!b)) (eqDs_bls ns ms)
/-- x[i] -/
theorem ixD_lst (xs : List D) (k : Nat) (d : D) (h : xs[k]? = some d) (hk : (k : Int) < 2 ^ 62) : ixD (.lst xs) (.int k) = some d := by
  show (ixN xs.length (k : Int)).bind (fun j => xs[j]?) = _
  obtain ⟨hl, _⟩ := List.getElem?_eq_some_iff.mp h
  unfold ixN
  rw [if_pos (by omega), if_pos (by omega)]
  simpa using h

theorem compL_ok {α : Type} {g : D → En → Option En} {ft : En → R Bool} {fe : En → R D} {vs : List Nat} {ρw : En} {f : α → D} (p : α → Bool) (h : α → D) : ∀ (xs : List α),
    (∀ x ∈ xs, ∃ ρ1, g (f x) ρw = some ρ1 ∧ ft ρ1 = .ok (p x) ρ1 ∧ (p x = true → ∃ ρ2, fe ρ1 = .ok (h x) ρ2 ∧ wipeR ρ2 vs = ρw) ∧ (p x = false → wipeR ρ1 vs = ρw)) →
    compL g ft fe vs (xs.map f) ρw = .ok ((xs.filter p).map h) ρw
  | [], _ => rfl
  | x :: xs, H => by
    obtain ⟨ρ1, h1, h2, h3, h4⟩ := H x List.mem_cons_self
    have ih := compL_ok p h xs fun y hy => H y (List.mem_cons_of_mem _ hy)
    rw [List.map_cons]
    unfold compL
    rw [h1]
    dsimp only
    rw [h2]
    cases hp : p x with
    | false =>
      rw [List.filter_cons_of_neg (by rw [hp]; decide)]
      simp [h4 hp, ih]
    | true =>
      obtain ⟨ρ2, h5, h6⟩ := h3 hp
      rw [List.filter_cons_of_pos hp]
      simp [h5, h6, ih]
/-- a comprehension whose turns leave the rest as it is -/
theorem compR_ok {α : Type} {T : Tg} {fi : En → R (List D)} {ft : En → R Bool} {fe : En → R D} {vs : List Nat} {ρ ρ1 ρw ρ' : En} {f : α → D} (p : α → Bool) (h : α → D) (xs : List α) (hi : fi ρ = .ok (xs.map f) ρ1) (hw : wipeR ρ1 vs = ρw) (hb : backR ρ1 ρw vs = ρ')
    (H : ∀ x ∈ xs, ∃ ρ1, asgT T (f x) ρw = some ρ1 ∧ ft ρ1 = .ok (p x) ρ1 ∧ (p x = true → ∃ ρ2, fe ρ1 = .ok (h x) ρ2 ∧ wipeR ρ2 vs = ρw) ∧ (p x = false → wipeR ρ1 vs = ρw)) :
    compR T fi ft fe vs ρ = .ok ((xs.filter p).map h) ρ' := by
  unfold compR
  rw [hi, R.bind_ok, hw, compL_ok p h xs H, R.bind_ok, hb]
/-- .. without a test -/
theorem compR_all {α : Type} {T : Tg} {fi : En → R (List D)} {ft : En → R Bool} {fe : En → R D} {vs : List Nat} {ρ ρ1 ρw ρ' : En} {f : α → D} (h : α → D) (xs : List α) (hi : fi ρ = .ok (xs.map f) ρ1) (hw : wipeR ρ1 vs = ρw) (hb : backR ρ1 ρw vs = ρ')
    (H : ∀ x ∈ xs, ∃ ρ1, asgT T (f x) ρw = some ρ1 ∧ ft ρ1 = .ok true ρ1 ∧ ∃ ρ2, fe ρ1 = .ok (h x) ρ2 ∧ wipeR ρ2 vs = ρw) :
    compR T fi ft fe vs ρ = .ok (xs.map h) ρ' := by
  have q := compR_ok (T := T) (fi := fi) (ft := ft) (fe := fe) (vs := vs) (f := f) (fun _ => true) h xs hi hw hb fun x hx => by
    obtain ⟨ρ1, h1, h2, h3⟩ := H x hx
    exact ⟨ρ1, h1, h2, fun _ => h3, fun z => by cases z⟩
  rw [List.filter_eq_self.mpr (fun _ _ => rfl)] at q
  exact q
@[simp] theorem few_ok (xs : List D) (ρ : En) (h : xs.length ≤ 16777216) : few xs ρ = .ok xs ρ := by
  unfold few
  rw [if_pos (show xs.length ≤ LN from h)]
@[simp] theorem itD_lst (xs : List D) : itD (.lst xs) = some xs := (rfl)
@[simp] theorem itN_lst (xs ys : List D) (ρ : En) : itN (.lst xs) ys ρ = .ok ys ρ := (rfl)
@[simp] theorem itD_scr (ns : List Int) : itD (.scr ns) = some (ns.map .int) := (rfl)
@[simp] theorem itN_scr (ns : List Int) (ys : List D) (ρ : En) : itN (.scr ns) ys ρ = .ok ys ρ := (rfl)
theorem sIx_k (n d k : Nat) : HT.sIx n d (some (k : Int)) = min k n := by
  show (if (k : Int) < 0 then ((k : Int) + (n : Int)).toNat else min (k : Int).toNat n) = min k n
  rw [if_neg (by omega), Int.toNat_natCast]
theorem sIx_n (n d : Nat) : HT.sIx n d none = d := rfl
theorem cutD_from (xs : List D) (k : Nat) : cutD xs (some (k : Int)) none = xs.drop k := by
  unfold cutD
  rw [sIx_k, sIx_n, List.take_of_length_le (by rw [List.length_drop]; omega)]
  by_cases h : k ≤ xs.length
  · rw [Nat.min_eq_left h]
  · rw [Nat.min_eq_right (by omega), List.drop_of_length_le (by omega), List.drop_of_length_le (by omega)]
theorem cutD_to (xs : List D) (k : Nat) : cutD xs none (some (k : Int)) = xs.take k := by
  unfold cutD
  rw [sIx_k, sIx_n, List.drop_zero, Nat.sub_zero]
  by_cases h : k ≤ xs.length
  · rw [Nat.min_eq_left h]
  · rw [Nat.min_eq_right (by omega), List.take_of_length_le (by omega), List.take_of_length_le (by omega)]
theorem atI_get {α : Type} (xs : List α) (k : Nat) (d : α) (h : xs[k]? = some d) : L2.atI xs (k : Int) = some d := by
  obtain ⟨hl, _⟩ := List.getElem?_eq_some_iff.mp h
  unfold L2.atI L2.ixN
  rw [if_pos (by omega), if_pos (by omega)]
  simpa using h
theorem ixD_tup (xs : List D) (k : Nat) (d : D) (h : xs[k]? = some d) : ixD (.tup xs) (.int k) = some d := atI_get xs k d h
theorem ixD_ls (xs : List D) (k : Nat) (d : D) (h : xs[k]? = some d) : ixD (.lst xs) (.int k) = some d := atI_get xs k d h
theorem cmp_eqS (x : Str) : cmpD .Eq (.str x) (.str x) = some true := by
  show (if (shp 60 (.str x) = true ∧ shp 60 (.str x) = true) then some (eqD (.str x) (.str x)) else none) = _
  rw [if_pos ⟨rfl, rfl⟩]
  show some (x == x) = _
  simp
theorem ixD_last (xs : List D) (d : D) : ixD (.lst (xs ++ [d])) (.int (-1)) = some d := by
  show (L2.ixN (xs ++ [d]).length (-1)).bind (fun j => (xs ++ [d])[j]?) = some d
  unfold L2.ixN
  rw [List.length_append, List.length_singleton, if_neg (by omega), if_pos (by omega)]
  have : (-1 + ((xs.length + 1 : Nat) : Int)).toNat = xs.length := by omega
  rw [this]
  simp
/-! ### dicts -/
@[simp] theorem evE_d1 {G : Gs} {neg a l} (s : Sl) (ρ : En) : evE G (.isin neg a l) (s :: ρ) = (evE G a (s :: ρ)).bind fun x ρ1 => (evL G l ρ1).bind fun y ρ2 => liftB (isinD neg x y) ρ2 := (rfl)
@[simp] theorem evE_d2 {G : Gs} {g} (s : Sl) (ρ : En) : evE G (.frD g) (s :: ρ) = (evG G g (s :: ρ)).bind fun b ρ1 => .ok b.d ρ1 := (rfl)
@[simp] theorem evE_d3 {G : Gs} {op i b} (s : Sl) (ρ : En) : evE G (.cmpV op i b) (s :: ρ) = (rdL (s :: ρ) i).bind fun _ ρ0 => (evE G b ρ0).bind fun y ρ1 => (rdL ρ1 i).bind fun x ρ2 => liftB (cmpL op x y) ρ2 := (rfl)
@[simp] theorem evE_d4 {G : Gs} {k i j} (s : Sl) (ρ : En) : evE G (.callMO k i j) (s :: ρ) = Ev.callMO i j (G.dM k) (s :: ρ) := (rfl)
@[simp] theorem evB_d2 {G : Gs} {op i b} (s : Sl) (ρ : En) : evB G (.cmpV op i b) (s :: ρ) = ((rdL (s :: ρ) i).bind fun _ ρ0 => (evE G b ρ0).bind fun y ρ1 => (rdL ρ1 i).bind fun x ρ2 => liftB (cmpL op x y) ρ2).bind boolOf := (rfl)
@[simp] theorem evE_d5 {G : Gs} {a} (s : Sl) (ρ : En) : evE G (.lenSS a) (s :: ρ) = (evL G a (s :: ρ)).bind fun x ρ1 => R.lift (Ev.lenSS x) ρ1 := (rfl)
@[simp] theorem evE_d6 {G : Gs} {a b e} (s : Sl) (ρ : En) : evE G (.max3 a b e) (s :: ρ) = (evE G a (s :: ρ)).bind fun x ρ1 => (evE G b ρ1).bind fun y ρ2 => (evE G e ρ2).bind fun z ρ3 => R.lift (Ev.max3 x y z) ρ3 := (rfl)
@[simp] theorem evF_d2 {G : Gs} {a} (s : Sl) (ρ : En) : evF G (.sortSS a) (s :: ρ) = (evL G a (s :: ρ)).bind fun x ρ1 => R.lift (Ev.sortSS x) ρ1 := (rfl)
@[simp] theorem evF_d3 {G : Gs} {a} (s : Sl) (ρ : En) : evF G (.sortK a) (s :: ρ) = (evE G a (s :: ρ)).bind fun x ρ1 => R.lift (sortKD x) ρ1 := (rfl)
@[simp] theorem evF_d4 {G : Gs} {a} (s : Sl) (ρ : En) : evF G (.sortP a) (s :: ρ) = (evL G a (s :: ρ)).bind fun x ρ1 => R.lift (sortPD x) ρ1 := (rfl)
@[simp] theorem evB_d1 {G : Gs} {neg a l} (s : Sl) (ρ : En) : evB G (.isin neg a l) (s :: ρ) = ((evE G a (s :: ρ)).bind fun x ρ1 => (evL G l ρ1).bind fun y ρ2 => liftB (isinD neg x y) ρ2).bind boolOf := (rfl)
@[simp] theorem evF_d1 {G : Gs} {es} (s : Sl) (ρ : En) : evF G (.lstS es) (s :: ρ) = (evAs G es (s :: ρ)).bind few := (rfl)
@[simp] theorem evAs_1 {G : Gs} (s : Sl) (ρ : En) : evAs G .nil (s :: ρ) = .ok [] (s :: ρ) := (rfl)
@[simp] theorem evAs_2 {G : Gs} {e es} (s : Sl) (ρ : En) : evAs G (.cons e es) (s :: ρ) = (evE G e (s :: ρ)).bind fun x ρ1 => (evAs G es ρ1).bind fun xs ρ2 => .ok (x :: xs) ρ2 := (rfl)
@[simp] theorem evAs_3 {G : Gs} {e es} (s : Sl) (ρ : En) : evAs G (.star e es) (s :: ρ) = (evE G e (s :: ρ)).bind fun y ρ1 => (R.lift (seqD y) ρ1).bind fun ys ρ2 => (evAs G es ρ2).bind fun xs ρ3 => .ok (ys ++ xs) ρ3 := (rfl)
@[simp] theorem evG_1 {G : Gs} {t} (s : Sl) (ρ : En) : evG G (.new t) (s :: ρ) = .ok (newD t) (s :: ρ) := (rfl)
@[simp] theorem evG_2 {G : Gs} {t tg it cd k v vs} (s : Sl) (ρ : En) : evG G (.comp t tg it cd k v vs) (s :: ρ) = compDR t tg (evI G it) (evC G cd) (evE G k) (evE G v) vs (s :: ρ) := (rfl)
@[simp] theorem evP_d1 {G : Gs} {g p} (s : Sl) (ρ : En) : evP G (.cD g p) (s :: ρ) = (evG G g (s :: ρ)).bind fun b ρ1 => (evP G p ρ1).bind fun ss ρ2 => .ok (.ow false b :: ss) ρ2 := (rfl)
@[simp] theorem evS_d1 {G : Gs} {i b e} (s : Sl) (ρ : En) : evS G (.putI i b e) (s :: ρ) = (evE G e (s :: ρ)).bind fun d ρ1 => (rdB ρ1 i).bind fun _ ρ0 => (evE G b ρ0).bind fun k ρ2 => (R.lift (modD i k d ρ2) ρ2).bind fun ρ3 _ => .ok .nx ρ3 := (rfl)
@[simp] theorem evS_d2 {G : Gs} {i g} (s : Sl) (ρ : En) : evS G (.ownD i g) (s :: ρ) = (evG G g (s :: ρ)).bind fun b ρ1 => (R.lift (setO i b ρ1) ρ1).bind fun ρ2 _ => .ok .nx ρ2 := (rfl)
@[simp] theorem newD_t : newD true = .dT [] [] := (rfl)
@[simp] theorem newD_f : newD false = .dK [] [] := (rfl)
@[simp] theorem rdB_z {io : Bool} {b : Ob} {ρ : En} : rdB (.ow io b :: ρ) 0 = .ok b (.ow io b :: ρ) := (rfl)
theorem rdB_of {ρ : En} {i : Nat} {io : Bool} {b : Ob} (h : ρ[i]? = some (.ow io b)) : rdB ρ i = .ok b ρ := by unfold rdB; rw [h]
@[simp] theorem modD_z {k d : D} {io : Bool} {b : Ob} {ρ : En} : modD 0 k d (.ow io b :: ρ) = (putB b k d).map fun b' => .ow io b' :: ρ := by
  cases b with
  | lst xs => rfl
  | dK ks xs =>
    show (keyD k).bind _ = ((keyD k).bind _).map _
    cases keyD k with
    | none => rfl
    | some j => dsimp only [Option.bind_some]; split <;> rfl
  | dT ks xs =>
    show (keyT k).bind _ = ((keyT k).bind _).map _
    cases keyT k with
    | none => rfl
    | some j => dsimp only [Option.bind_some]; split <;> rfl
@[simp] theorem modD_s {k d : D} {s : Sl} {ρ : En} {i : Nat} : modD (i + 1) k d (s :: ρ) = (modD i k d ρ).map (s :: ·) := by
  unfold modD
  rw [List.getElem?_cons_succ]
  cases h : ρ[i]? with
  | none => rfl
  | some t =>
    cases t with
    | ow io b =>
      cases b with
      | dK ks xs => dsimp only; cases keyD k <;> dsimp only [Option.bind_none, Option.bind_some, Option.map] ; split <;> rfl
      | dT ks xs => dsimp only; cases keyT k <;> dsimp only [Option.bind_none, Option.bind_some, Option.map] ; split <;> rfl
      | lst xs => rfl
    | _ => rfl
theorem noLs_int (ns : List Int) : noLs (ns.map D.int) = true := by
  induction ns with
  | nil => rfl
  | cons n ns ih => simp [noLs, noL, ih]
/-- a def that changes its first list looks at a thing of one's own -/
theorem callMO_ok {i j : Nat} {r : List D → List D → Cr (D × List D)} {ρ : En} {io io2 : Bool} {xs zs : List D} {d : D} {ys : List Int} (h1 : ρ[i]? = some (.ow io (.lst xs))) (h2 : ρ[j]? = some (.ow io2 (.lst zs))) (hij : i ≠ j) (hr : r xs [.lst zs] = .ok (d, ys.map D.int)) (hn : noL d = true) :
    Ev.callMO i j r ρ = .ok d (ρ.set i (.ow io (.lst (ys.map D.int)))) := by
  unfold Ev.callMO
  rw [h1, h2]
  simp only [hij, if_false, hr]
  rw [if_pos ⟨hn, noLs_int ys⟩]
theorem putB_T (ks : List (List Key)) (xs : List D) (k : D) (j : List Key) (d : D) (h : keyT k = some j) (hl : ks.length < 16777216) : putB (.dT ks xs) k d = some (.dT (putL ks xs j d).1 (putL ks xs j d).2) := by
  show (keyT k).bind _ = _
  rw [h, Option.bind_some, if_pos (show ks.length < LN from hl)]
theorem putB_K (ks : List Key) (xs : List D) (k : D) (j : Key) (d : D) (h : keyD k = some j) (hl : ks.length < 16777216) : putB (.dK ks xs) k d = some (.dK (putL ks xs j d).1 (putL ks xs j d).2) := by
  show (keyD k).bind _ = _
  rw [h, Option.bind_some, if_pos (show ks.length < LN from hl)]
@[simp] theorem itD_tup (xs : List D) : itD (.tup xs) = some xs := (rfl)
@[simp] theorem itN_tup (xs ys : List D) (ρ : En) : itN (.tup xs) ys ρ = .ok ys ρ := (rfl)
@[simp] theorem itD_dK (ks : List Key) (xs : List D) : itD (.dK ks xs) = some (ks.map kD) := (rfl)
@[simp] theorem itN_dK (ks : List Key) (xs : List D) (ys : List D) (ρ : En) : itN (.dK ks xs) ys ρ = few ys ρ := (rfl)
@[simp] theorem itD_dT (ks : List (List Key)) (xs : List D) : itD (.dT ks xs) = some (ks.map fun k => .tup (k.map kD)) := (rfl)
@[simp] theorem itN_dT (ks : List (List Key)) (xs : List D) (ys : List D) (ρ : En) : itN (.dT ks xs) ys ρ = few ys ρ := (rfl)
@[simp] theorem seqD_l (xs : List D) : seqD (.lst xs) = some xs := (rfl)
@[simp] theorem seqD_t (xs : List D) : seqD (.tup xs) = some xs := (rfl)
end Ev

end
section
set_option maxHeartbeats 1000000
namespace Ev
open PySem PySem.Spec PyProof.Rows L2
/-! ### what holds behind -/
@[irreducible] def Wp {α : Type} (r : R α) (Q : α → En → Prop) : Prop :=
  match r with
  | .ok a ρ => Q a ρ
  | _ => False
@[simp] theorem Wp_ok {α : Type} (a : α) (ρ : En) (Q : α → En → Prop) : Wp (.ok a ρ) Q = Q a ρ := by unfold Wp; rfl
theorem Wp_err {α : Type} (x : Nat) (ρ : En) (Q : α → En → Prop) : Wp (.err x ρ) Q = False := by unfold Wp; rfl
theorem Wp_bad {α : Type} (Q : α → En → Prop) : Wp .bad Q = False := by unfold Wp; rfl
@[simp] theorem Wp_bind {α β : Type} (r : R α) (k : α → En → R β) (Q : β → En → Prop) : Wp (r.bind k) Q = Wp r fun a ρ => Wp (k a ρ) Q := by
  cases r with
  | ok a ρ => rw [R.bind_ok, Wp_ok]
  | err x ρ => rw [R.bind_err, Wp_err, Wp_err]
  | bad => rw [R.bind_bad, Wp_bad, Wp_bad]
theorem Wp_of {α : Type} {r : R α} {a : α} {ρ : En} {Q : α → En → Prop} (h : r = .ok a ρ) (q : Q a ρ) : Wp r Q := by rw [h, Wp_ok]; exact q
theorem Wp.imp {α : Type} {r : R α} {Q Q' : α → En → Prop} (h : Wp r Q) (i : ∀ a ρ, Q a ρ → Q' a ρ) : Wp r Q' := by
  cases r with
  | ok a ρ => rw [Wp_ok] at h ⊢; exact i _ _ h
  | err => rw [Wp_err] at h; exact h.elim
  | bad => rw [Wp_bad] at h; exact h.elim
theorem Wp.ex {α : Type} {r : R α} {Q : α → En → Prop} (h : Wp r Q) : ∃ a ρ, r = .ok a ρ ∧ Q a ρ := by
  cases r with
  | ok a ρ => rw [Wp_ok] at h; exact ⟨a, ρ, rfl, h⟩
  | err => rw [Wp_err] at h; exact h.elim
  | bad => rw [Wp_bad] at h; exact h.elim
/-- behind a statement: on to the next, or the end -/
@[simp] theorem Wp_then_nx (k : En → R Fl) (ρ : En) (Q : Fl → En → Prop) : Wp (thenS k .nx ρ) Q = Wp (k ρ) Q := (rfl)
theorem endD_wp {r : R Fl} {d : D} (h : Wp r fun f _ => f = .rt d) : endD r = .ok d := by
  obtain ⟨f, ρ, rfl, rfl⟩ := h.ex; rfl
theorem endD_wpN {r : R Fl} (h : Wp r fun f _ => f = .nx) : endD r = .ok .non := by
  obtain ⟨f, ρ, rfl, rfl⟩ := h.ex; rfl
theorem endF_wp {r : R Fl} {d : List D} (h : Wp r fun f _ => f = .rf d) : endF r = .ok d := by
  obtain ⟨f, ρ, rfl, rfl⟩ := h.ex; rfl
theorem endM_wp {r : R Fl} {d : D} {ys : List D} (h : Wp r fun f ρ => f = .rt d ∧ ∃ ρ', ρ = .ow true ys :: ρ') : endM r = .ok (d, ys) := by
  obtain ⟨f, ρ, rfl, rfl, ρ', rfl⟩ := h.ex; rfl
theorem endD_wpx {r : R Fl} {P : D → Prop} (h : Wp r fun f _ => ∃ d, f = .rt d ∧ P d) : ∃ d, endD r = .ok d ∧ P d := by
  obtain ⟨f, ρ, rfl, d, rfl, p⟩ := h.ex; exact ⟨d, rfl, p⟩
theorem endF_wpx {r : R Fl} {P : List D → Prop} (h : Wp r fun f _ => ∃ d, f = .rf d ∧ P d) : ∃ d, endF r = .ok d ∧ P d := by
  obtain ⟨f, ρ, rfl, d, rfl, p⟩ := h.ex; exact ⟨d, rfl, p⟩
theorem endM_wpx {r : R Fl} {P : D → List D → Prop} (h : Wp r fun f ρ => ∃ (d : D) (ys : List D) (ρ' : En), f = .rt d ∧ ρ = .ow true ys :: ρ' ∧ P d ys) : ∃ d ys, endM r = .ok (d, ys) ∧ P d ys := by
  obtain ⟨f, ρ, rfl, d, ys, ρ', rfl, rfl, p⟩ := h.ex; exact ⟨d, ys, rfl, p⟩
/-- what a def ends with -/
def retD (J : D → Prop) (f : Fl) (_ : En) : Prop := match f with
  | .rt d => J d
  | .nx => J .non
  | _ => False
def retF (J : List D → Prop) (f : Fl) (_ : En) : Prop := match f with
  | .rf d => J d
  | _ => False
def retM (J : D → List D → Prop) (f : Fl) (ρ : En) : Prop := match f, ρ with
  | .rt d, .ow true (.lst ys) :: _ => J d ys
  | .nx, .ow true (.lst ys) :: _ => J .non ys
  | _, _ => False
@[simp] theorem retD_rt (J : D → Prop) (d : D) (ρ : En) : retD J (.rt d) ρ = J d := (rfl)
@[simp] theorem retD_nx (J : D → Prop) (ρ : En) : retD J .nx ρ = J .non := (rfl)
@[simp] theorem retF_rf (J : List D → Prop) (d : List D) (ρ : En) : retF J (.rf d) ρ = J d := (rfl)
@[simp] theorem retM_rt (J : D → List D → Prop) (d : D) (ys : List D) (ρ : En) : retM J (.rt d) (.ow true ys :: ρ) = J d ys := (rfl)
@[simp] theorem retM_nx (J : D → List D → Prop) (ys : List D) (ρ : En) : retM J .nx (.ow true ys :: ρ) = J .non ys := (rfl)
theorem endD_J {r : R Fl} {P : D → Prop} (h : ∀ J : D → Prop, (∀ d, P d → J d) → Wp r (retD J)) : ∃ d, endD r = .ok d ∧ P d := by
  obtain ⟨f, ρ, rfl, q⟩ := (h P fun _ z => z).ex
  cases f with
  | rt d => exact ⟨d, rfl, q⟩
  | nx => exact ⟨.non, rfl, q⟩
  | _ => exact q.elim
theorem endF_J {r : R Fl} {P : List D → Prop} (h : ∀ J : List D → Prop, (∀ d, P d → J d) → Wp r (retF J)) : ∃ d, endF r = .ok d ∧ P d := by
  obtain ⟨f, ρ, rfl, q⟩ := (h P fun _ z => z).ex
  cases f with
  | rf d => exact ⟨d, rfl, q⟩
  | _ => exact q.elim
theorem endM_J {r : R Fl} {P : D → List D → Prop} (h : ∀ J : D → List D → Prop, (∀ d ys, P d ys → J d ys) → Wp r (retM J)) : ∃ d ys, endM r = .ok (d, ys) ∧ P d ys := by
  obtain ⟨f, ρ, rfl, q⟩ := (h P fun _ _ z => z).ex
  cases f with
  | rt d =>
    cases ρ with
    | nil => exact q.elim
    | cons s ρ => cases s with
      | ow io ys => cases ys <;> cases io <;> first | exact q.elim | exact ⟨d, _, rfl, q⟩
      | _ => exact q.elim
  | nx =>
    cases ρ with
    | nil => exact q.elim
    | cons s ρ => cases s with
      | ow io ys => cases ys <;> cases io <;> first | exact q.elim | exact ⟨.non, _, rfl, q⟩
      | _ => exact q.elim
  | _ => exact q.elim
/-- a store, then .. -/
def oW (o : Option En) (P : En → Prop) : Prop := match o with
  | some ρ => P ρ
  | none => False
@[simp] theorem oW_some (ρ : En) (P : En → Prop) : oW (some ρ) P = P ρ := (rfl)
/-- behind a loop's turn -/
def fw (Q : Fl → En → Prop) (J : En → Prop) (f : Fl) (ρ : En) : Prop := match f with
  | .nx => J ρ
  | .ct => J ρ
  | .bk => Q .nx ρ
  | .rt d => Q (.rt d) ρ
  | .rf d => Q (.rf d) ρ
@[simp] theorem fw_nx (Q : Fl → En → Prop) (J : En → Prop) (ρ : En) : fw Q J .nx ρ = J ρ := (rfl)
@[simp] theorem fw_ct (Q : Fl → En → Prop) (J : En → Prop) (ρ : En) : fw Q J .ct ρ = J ρ := (rfl)
@[simp] theorem fw_bk (Q : Fl → En → Prop) (J : En → Prop) (ρ : En) : fw Q J .bk ρ = Q .nx ρ := (rfl)
@[simp] theorem fw_rt (Q : Fl → En → Prop) (J : En → Prop) (d : D) (ρ : En) : fw Q J (.rt d) ρ = Q (.rt d) ρ := (rfl)
@[simp] theorem fw_rf (Q : Fl → En → Prop) (J : En → Prop) (d : List D) (ρ : En) : fw Q J (.rf d) ρ = Q (.rf d) ρ := (rfl)
/-- a loop: I speaks of the items that are left -/
theorem wp_for {α : Type} {f : α → D} {g : D → En → Option En} {fb : En → R Fl} {Q : Fl → En → Prop} (I : List α → En → Prop) {xs : List α} {ρ : En} (h0 : I xs ρ)
    (hs : ∀ J : List α → En → Prop, (∀ ys ρ, I ys ρ → J ys ρ) → ∀ y ys ρ, I (y :: ys) ρ → oW (g (f y) ρ) fun ρ1 => Wp (fb ρ1) (fw Q (J ys)))
    (he : ∀ ρ, I [] ρ → Q .nx ρ) : Wp (forL g fb (xs.map f) ρ) Q := by
  induction xs generalizing ρ with
  | nil => exact Wp_of rfl (he ρ h0)
  | cons x xs ih =>
    have h := hs I (fun _ _ z => z) x xs ρ h0
    rw [List.map_cons, forL_cons]
    cases hg : g (f x) ρ with
    | none => rw [hg] at h; exact h.elim
    | some ρ1 =>
      rw [hg] at h
      obtain ⟨fl, ρ2, e, q⟩ := Wp.ex (show Wp (fb ρ1) (fw Q (I xs)) from h)
      dsimp only
      rw [e, R.bind_ok]
      cases fl with
      | nx => exact ih q
      | ct => exact ih q
      | bk => exact Wp_of rfl q
      | rt d => exact Wp_of rfl q
      | rf d => exact Wp_of rfl q
/-- a loop over a .. b-1: I speaks of the number that is next -/
theorem wp_forN {g : D → En → Option En} {fb : En → R Fl} {Q : Fl → En → Prop} (I : Nat → En → Prop) {a : Int} {n : Nat} {ρ : En} (h0 : I 0 ρ)
    (hs : ∀ J : Nat → En → Prop, (∀ k ρ, I k ρ → J k ρ) → ∀ k ρ, k < n → I k ρ → oW (g (.int (a + (k : Int))) ρ) fun ρ1 => Wp (fb ρ1) (fw Q (J (k + 1))))
    (he : ∀ ρ, I n ρ → Q .nx ρ) : Wp (forL g fb (nums a n) ρ) Q := by
  have go : ∀ (m k : Nat) (ρ : En), k + m = n → I k ρ → Wp (forL g fb (nums (a + (k : Int)) m) ρ) Q := by
    intro m
    induction m with
    | zero => intro k ρ e i; simp only [Nat.add_zero] at e; subst e; exact Wp_of rfl (he ρ i)
    | succ m ih =>
      intro k ρ e i
      have h := hs I (fun _ _ z => z) k ρ (by omega) i
      rw [nums_succ, forL_cons]
      cases hg : g (.int (a + (k : Int))) ρ with
      | none => rw [hg] at h; exact h.elim
      | some ρ1 =>
        rw [hg] at h
        obtain ⟨fl, ρ2, e2, q⟩ := Wp.ex (show Wp (fb ρ1) (fw Q (I (k + 1))) from h)
        have nx : I (k + 1) ρ2 → Wp (forL g fb (nums (a + (k : Int) + 1) m) ρ2) Q := fun q => by
          have := ih (k + 1) ρ2 (by omega) q
          rw [show a + ((k + 1 : Nat) : Int) = a + (k : Int) + 1 by omega] at this
          exact this
        dsimp only
        rw [e2, R.bind_ok]
        cases fl with
        | nx => exact nx q
        | ct => exact nx q
        | bk => exact Wp_of rfl q
        | rt d => exact Wp_of rfl q
        | rf d => exact Wp_of rfl q
  have := go n 0 ρ (by omega) h0
  rw [show a + ((0 : Nat) : Int) = a by omega] at this
  exact this
/-- a comprehension's turns: I speaks of what is found and of the items that are left -/
theorem wp_compL {α : Type} {f : α → D} {g : D → En → Option En} {ft : En → R Bool} {fe : En → R D} {vs : List Nat} {Q : List D → En → Prop} (I : List D → List α → En → Prop) {xs : List α} {ρ : En} (h0 : I [] xs ρ)
    (hs : ∀ J : List D → List α → En → Prop, (∀ ds ys ρ, I ds ys ρ → J ds ys ρ) → ∀ ds y ys ρ, I ds (y :: ys) ρ → oW (g (f y) ρ) fun ρ1 => Wp (ft ρ1) fun k ρ2 => if k = true then Wp (fe ρ2) fun d ρ3 => J (ds ++ [d]) ys (wipeR ρ3 vs) else J ds ys (wipeR ρ2 vs))
    (he : ∀ ds ρ, I ds [] ρ → Q ds ρ) : Wp (compL g ft fe vs (xs.map f) ρ) Q := by
  have go : ∀ (xs : List α) (ds : List D) (ρ : En), I ds xs ρ → Wp (compL g ft fe vs (xs.map f) ρ) fun es ρ' => Q (ds ++ es) ρ' := by
    intro xs
    induction xs with
    | nil => intro ds ρ i; refine Wp_of rfl ?_; rw [List.append_nil]; exact he ds ρ i
    | cons x xs ih =>
      intro ds ρ i
      have h := hs I (fun _ _ _ z => z) ds x xs ρ i
      rw [List.map_cons]
      unfold compL
      cases hg : g (f x) ρ with
      | none => rw [hg] at h; exact h.elim
      | some ρ1 =>
        rw [hg] at h
        obtain ⟨k, ρ2, e, q⟩ := Wp.ex (show Wp (ft ρ1) _ from h)
        dsimp only
        rw [e]
        cases k with
        | false =>
          exact ih ds _ (by simpa using q)
        | true =>
          rw [if_pos rfl] at q
          obtain ⟨d, ρ3, e3, q3⟩ := q.ex
          have w := ih (ds ++ [d]) _ q3
          obtain ⟨es, ρ4, e4, q4⟩ := w.ex
          show Wp (((fe ρ2).ne.bind fun x ρ3 => (compL g ft fe vs (xs.map f) (wipeR ρ3 vs)).bind fun xs ρ4 => .ok (x :: xs) ρ4)) _
          rw [e3]
          show Wp ((compL g ft fe vs (xs.map f) (wipeR ρ3 vs)).bind fun xs ρ4 => .ok (d :: xs) ρ4) _
          rw [e4]
          refine Wp_of rfl ?_
          rw [List.append_assoc] at q4
          exact q4
  have := go xs [] ρ h0
  exact this
/-- a comprehension -/
theorem wp_comp {α : Type} {f : α → D} {T : Tg} {fi : En → R (List D)} {ft : En → R Bool} {fe : En → R D} {vs : List Nat} {Q : List D → En → Prop} {ρ ρ1 : En} {xs : List α} (I : List D → List α → En → Prop) (hi : fi ρ = .ok (xs.map f) ρ1) (h0 : I [] xs (wipeR ρ1 vs))
    (hs : ∀ J : List D → List α → En → Prop, (∀ ds ys ρ, I ds ys ρ → J ds ys ρ) → ∀ ds y ys ρ, I ds (y :: ys) ρ → oW (asgT T (f y) ρ) fun ρ1 => Wp (ft ρ1) fun k ρ2 => if k = true then Wp (fe ρ2) fun d ρ3 => J (ds ++ [d]) ys (wipeR ρ3 vs) else J ds ys (wipeR ρ2 vs))
    (he : ∀ ds ρ, I ds [] ρ → Q ds (backR ρ1 ρ vs)) : Wp (compR T fi ft fe vs ρ) Q := by
  unfold compR
  rw [hi, R.bind_ok, Wp_bind]
  exact wp_compL I h0 hs fun ds ρ i => Wp_of rfl (he ds ρ i)
/-- .. over a .. b-1 -/
theorem nums0 (n : Nat) : nums 0 n = (List.range n).map fun (j : Nat) => D.int (j : Int) := by
  unfold nums
  apply List.map_congr_left
  intro j _
  rw [Int.zero_add]
theorem nums_map (a : Int) (n : Nat) : nums a n = (List.range n).map fun (j : Nat) => D.int (a + (j : Int)) := rfl
/-- a dict comprehension's turns: I speaks of the dict so far and of the items that are left -/
theorem wp_compD {α : Type} {f : α → D} {g : D → En → Option En} {ft : En → R Bool} {fk fv : En → R D} {vs : List Nat} {Q : Ob → En → Prop} (I : Ob → List α → En → Prop) {xs : List α} {b : Ob} {ρ : En} (h0 : I b xs ρ)
    (hs : ∀ J : Ob → List α → En → Prop, (∀ b ys ρ, I b ys ρ → J b ys ρ) → ∀ b y ys ρ, I b (y :: ys) ρ → oW (g (f y) ρ) fun ρ1 => Wp (ft ρ1) fun k ρ2 => if k = true then Wp (fk ρ2) fun kd ρ3 => Wp (fv ρ3) fun d ρ4 => (match putB b kd d with | some b' => J b' ys (wipeR ρ4 vs) | none => False) else J b ys (wipeR ρ2 vs))
    (he : ∀ b ρ, I b [] ρ → Q b ρ) : Wp (compD g ft fk fv vs (xs.map f) b ρ) Q := by
  induction xs generalizing b ρ with
  | nil => exact Wp_of rfl (he b ρ h0)
  | cons x xs ih =>
    have h := hs I (fun _ _ _ z => z) b x xs ρ h0
    rw [List.map_cons]
    unfold compD
    cases hg : g (f x) ρ with
    | none => rw [hg] at h; exact h.elim
    | some ρ1 =>
      rw [hg] at h
      obtain ⟨k, ρ2, e, q⟩ := Wp.ex (show Wp (ft ρ1) _ from h)
      dsimp only
      rw [e]
      cases k with
      | false => exact ih (by simpa using q)
      | true =>
        rw [if_pos rfl] at q
        obtain ⟨kd, ρ3, e3, q3⟩ := q.ex
        obtain ⟨d, ρ4, e4, q4⟩ := q3.ex
        simp only [R.ne_ok, R.bind_ok, if_true, e3, e4]
        cases hb : putB b kd d with
        | none => rw [hb] at q4; exact q4.elim
        | some b' => rw [hb] at q4; simp only [R.lift, R.bind_ok]; exact ih q4
theorem wp_compDR {α : Type} {isT : Bool} {f : α → D} {T : Tg} {fi : En → R (List D)} {ft : En → R Bool} {fk fv : En → R D} {vs : List Nat} {Q : Ob → En → Prop} {ρ ρ1 : En} {xs : List α} (I : Ob → List α → En → Prop) (hi : fi ρ = .ok (xs.map f) ρ1) (h0 : I (newD isT) xs (wipeR ρ1 vs))
    (hs : ∀ J : Ob → List α → En → Prop, (∀ b ys ρ, I b ys ρ → J b ys ρ) → ∀ b y ys ρ, I b (y :: ys) ρ → oW (asgT T (f y) ρ) fun ρ1 => Wp (ft ρ1) fun k ρ2 => if k = true then Wp (fk ρ2) fun kd ρ3 => Wp (fv ρ3) fun d ρ4 => (match putB b kd d with | some b' => J b' ys (wipeR ρ4 vs) | none => False) else J b ys (wipeR ρ2 vs))
    (he : ∀ b ρ, I b [] ρ → Q b (backR ρ1 ρ vs)) : Wp (compDR isT T fi ft fk fv vs ρ) Q := by
  unfold compDR
  rw [hi, R.bind_ok, Wp_bind]
  exact wp_compD I h0 hs fun b ρ i => Wp_of rfl (he b ρ i)
end Ev

end
section
set_option maxHeartbeats 1000000
namespace Ev
open PySem PySem.Spec PyProof.Rows L2
/-! ### what a run does not look at may be anything -/
/-- a place that is empty on the left may hold anything but the caller's own list on the right -/
def LeS : Sl → Sl → Prop
  | .un, .un => True
  | .un, .va _ => True
  | .un, .ow io _ => io = false
  | a, b => a = b
def Le : En → En → Prop
  | [], [] => True
  | s :: ρ, t :: ρ' => LeS s t ∧ Le ρ ρ'
  | _, _ => False
@[simp] theorem le_nil : Le [] [] = True := (rfl)
@[simp] theorem le_cons (s t : Sl) (ρ ρ' : En) : Le (s :: ρ) (t :: ρ') = (LeS s t ∧ Le ρ ρ') := (rfl)
@[simp] theorem leS_un : LeS .un .un = True := (rfl)
@[simp] theorem leS_unva (d : D) : LeS .un (.va d) = True := (rfl)
@[simp] theorem leS_unow (b : Ob) : LeS .un (.ow false b) = True := by simp [LeS]
@[simp] theorem leS_refl (s : Sl) : LeS s s := by cases s <;> simp [LeS]
theorem leS_un_of {t : Sl} (h : Nt t) : LeS .un t := by
  cases t with
  | un => trivial
  | va d => trivial
  | ow io b => cases io with
    | true => exact h.elim
    | false => rfl
theorem leS_va {d : D} {t : Sl} (h : LeS (.va d) t) : t = .va d := by cases t <;> simp_all [LeS]
theorem leS_ow {io : Bool} {b : Ob} {t : Sl} (h : LeS (.ow io b) t) : t = .ow io b := by cases t <;> simp_all [LeS]
theorem lS_trans {a b c : Sl} (h : LeS a b) (h2 : LeS b c) : LeS a c := by
  cases a with
  | un => cases b with
    | un => exact h2
    | va d => rw [leS_va h2]; trivial
    | ow io x => rw [leS_ow h2]; exact h
  | va d => rw [leS_va h] at h2; exact h2
  | ow io x => rw [leS_ow h] at h2; exact h2
theorem le_refl : ∀ ρ : En, Le ρ ρ
  | [] => trivial
  | s :: ρ => ⟨leS_refl s, le_refl ρ⟩
theorem le_trans : ∀ {a b c : En}, Le a b → Le b c → Le a c
  | [], [], [], _, _ => trivial
  | _ :: _, _ :: _, _ :: _, h, h2 => ⟨lS_trans h.1 h2.1, le_trans h.2 h2.2⟩
  | [], _ :: _, _, h, _ => h.elim
  | _ :: _, [], _, h, _ => h.elim
  | [], [], _ :: _, _, h => h.elim
  | _ :: _, _ :: _, [], _, h => h.elim
theorem le_len : ∀ {a b : En}, Le a b → a.length = b.length
  | [], [], _ => rfl
  | _ :: _, _ :: _, h => by rw [List.length_cons, List.length_cons, le_len h.2]
  | [], _ :: _, h => h.elim
  | _ :: _, [], h => h.elim
theorem le_get : ∀ {a b : En} (i : Nat) {s : Sl}, Le a b → a[i]? = some s → ∃ t, b[i]? = some t ∧ LeS s t
  | _ :: _, t :: _, 0, s, h, e => by cases e; exact ⟨t, rfl, h.1⟩
  | _ :: a, _ :: b, i + 1, s, h, e => by
    rw [List.getElem?_cons_succ] at e ⊢
    exact le_get i h.2 e
  | [], _, _, _, _, e => by simp at e
  | _ :: _, [], _, _, h, _ => h.elim
theorem le_set : ∀ {a b : En} (i : Nat) {s t : Sl}, Le a b → LeS s t → Le (a.set i s) (b.set i t)
  | [], [], _, _, _, _, _ => trivial
  | _ :: _, _ :: _, 0, _, _, h, h2 => ⟨h2, h.2⟩
  | _ :: _, _ :: _, i + 1, _, _, h, h2 => ⟨h.1, le_set i h.2 h2⟩
  | [], _ :: _, _, _, _, h, _ => h.elim
  | _ :: _, [], _, _, _, h, _ => h.elim
def RLe {α : Type} : R α → R α → Prop
  | .bad, _ => True
  | .ok a ρ', r => ∃ ρ, r = .ok a ρ ∧ Le ρ' ρ
  | .err x ρ', r => ∃ ρ, r = .err x ρ ∧ Le ρ' ρ
def Mo {α : Type} (f : En → R α) : Prop := ∀ ρ' ρ, Le ρ' ρ → RLe (f ρ') (f ρ)
def OLe : Option En → Option En → Prop
  | none, _ => True
  | some ρ', o => ∃ ρ, o = some ρ ∧ Le ρ' ρ
def MoO (g : En → Option En) : Prop := ∀ ρ' ρ, Le ρ' ρ → OLe (g ρ') (g ρ)
theorem rle_bad {α : Type} {r : R α} : RLe .bad r := trivial
theorem rle_bind {α β : Type} {r' r : R α} {k' k : α → En → R β} (h : RLe r' r) (hk : ∀ a ρ' ρ, Le ρ' ρ → RLe (k' a ρ') (k a ρ)) : RLe (r'.bind k') (r.bind k) := by
  cases r' with
  | ok a ρ' => obtain ⟨ρ, rfl, l⟩ := h; exact hk a ρ' ρ l
  | err x ρ' => obtain ⟨ρ, rfl, l⟩ := h; exact ⟨ρ, rfl, l⟩
  | bad => trivial
theorem mo_bind {α β : Type} {f : En → R α} {k : α → En → R β} (h : Mo f) (hk : ∀ a, Mo (k a)) : Mo fun ρ => (f ρ).bind k := fun ρ' ρ l => rle_bind (h ρ' ρ l) fun a ρ1' ρ1 l1 => hk a ρ1' ρ1 l1
theorem mo_pure {α : Type} (a : α) : Mo fun ρ => R.ok a ρ := fun ρ' ρ l => ⟨ρ, rfl, l⟩
theorem mo_err {α : Type} (x : Nat) : Mo fun ρ => (R.err x ρ : R α) := fun ρ' ρ l => ⟨ρ, rfl, l⟩
theorem mo_bad {α : Type} : Mo fun _ => (R.bad : R α) := fun ρ' ρ l => trivial
theorem mo_lift {α : Type} (o : Option α) : Mo fun ρ => R.lift o ρ := by
  cases o with
  | none => exact mo_bad
  | some a => exact mo_pure a
theorem mo_liftB (o : Option Bool) : Mo fun ρ => liftB o ρ := by
  cases o with
  | none => exact mo_bad
  | some a => exact mo_pure _
theorem mo_ite {α : Type} {p : Prop} [Decidable p] {f g : En → R α} (h1 : Mo f) (h2 : Mo g) : Mo fun ρ => if p then f ρ else g ρ := by
  by_cases c : p
  · simpa [c] using h1
  · simpa [c] using h2
theorem mo_ne {α : Type} {f : En → R α} (h : Mo f) : Mo fun ρ => (f ρ).ne := fun ρ' ρ l => by
  try dsimp only
  have := h ρ' ρ l
  cases hf : f ρ' with
  | ok a ρ1 => rw [hf] at this; obtain ⟨ρ2, e, l2⟩ := this; rw [e]; exact ⟨ρ2, rfl, l2⟩
  | err => trivial
  | bad => trivial
/-- a store, then .. -/
theorem mo_store {β : Type} {g : En → Option En} {k : En → En → R β} (hg : MoO g) (hk : ∀ ρ0' ρ0 ρ' ρ, Le ρ0' ρ0 → Le ρ' ρ → RLe (k ρ0' ρ') (k ρ0 ρ)) : Mo fun ρ => (R.lift (g ρ) ρ).bind k := fun ρ' ρ l => by
  try dsimp only
  have := hg ρ' ρ l
  cases h : g ρ' with
  | none => trivial
  | some ρ1 => rw [h] at this; obtain ⟨ρ2, e, l2⟩ := this; rw [e]; exact hk _ _ _ _ l2 l
theorem mo_setR {g : En → Option En} (hg : MoO g) : Mo fun ρ => (R.lift (g ρ) ρ).bind fun ρ2 _ => R.ok Fl.nx ρ2 := mo_store hg fun ρ0' ρ0 _ _ l _ => ⟨ρ0, rfl, l⟩
theorem moO_bind {f g : En → Option En} (hf : MoO f) (hg : MoO g) : MoO fun ρ => (f ρ).bind g := fun ρ' ρ l => by
  try dsimp only
  have := hf ρ' ρ l
  cases h : f ρ' with
  | none => trivial
  | some ρ1 => rw [h] at this; obtain ⟨ρ2, e, l2⟩ := this; rw [e]; exact hg _ _ l2
/-! the places -/
theorem mo_rdV (i : Nat) : Mo fun ρ => rdV ρ i := fun ρ' ρ l => by
  try dsimp only
  unfold rdV
  cases h : ρ'[i]? with
  | none => trivial
  | some s =>
    obtain ⟨t, e, ls⟩ := le_get i l h
    rw [e]
    cases s with
    | un => trivial
    | va d => rw [leS_va ls]; exact ⟨ρ, rfl, l⟩
    | ow io b => rw [leS_ow ls]; cases io with
      | true => trivial
      | false => exact ⟨_, rfl, le_set i l (leS_refl _)⟩
theorem mo_rdL (i : Nat) : Mo fun ρ => rdL ρ i := fun ρ' ρ l => by
  try dsimp only
  unfold rdL
  cases h : ρ'[i]? with
  | none => trivial
  | some s =>
    obtain ⟨t, e, ls⟩ := le_get i l h
    rw [e]
    cases s with
    | un => trivial
    | va d => rw [leS_va ls]; exact ⟨ρ, rfl, l⟩
    | ow io b => rw [leS_ow ls]; exact ⟨ρ, rfl, l⟩
theorem mo_rdO (i : Nat) : Mo fun ρ => rdO ρ i := fun ρ' ρ l => by
  try dsimp only
  unfold rdO
  cases h : ρ'[i]? with
  | none => trivial
  | some s =>
    obtain ⟨t, e, ls⟩ := le_get i l h
    rw [e]
    cases s with
    | ow io b => rw [leS_ow ls]; cases b <;> first | exact ⟨ρ, rfl, l⟩ | trivial
    | _ => trivial
theorem mo_rdB (i : Nat) : Mo fun ρ => rdB ρ i := fun ρ' ρ l => by
  try dsimp only
  unfold rdB
  cases h : ρ'[i]? with
  | none => trivial
  | some s =>
    obtain ⟨t, e, ls⟩ := le_get i l h
    rw [e]
    cases s with
    | ow io b => rw [leS_ow ls]; exact ⟨ρ, rfl, l⟩
    | _ => trivial
theorem mo_popR (i : Nat) : Mo (popR i) := fun ρ' ρ l => by
  try dsimp only
  unfold popR
  cases h : ρ'[i]? with
  | none => trivial
  | some s =>
    obtain ⟨t, e, ls⟩ := le_get i l h
    rw [e]
    cases s with
    | ow io b =>
      rw [leS_ow ls]
      cases b with
      | lst xs => dsimp only; split <;> first | exact ⟨_, rfl, le_set i l (leS_refl _)⟩ | trivial
      | _ => trivial
    | _ => trivial
theorem mo_popAt (i : Nat) (d : D) : Mo (popAt i d) := fun ρ' ρ l => by
  try dsimp only
  unfold popAt
  cases d with
  | int k =>
    cases h : ρ'[i]? with
    | none => trivial
    | some s =>
      obtain ⟨t, e, ls⟩ := le_get i l h
      rw [e]
      cases s with
      | ow io b =>
        rw [leS_ow ls]
        cases b with
        | lst xs => dsimp only; split <;> (try split) <;> first | exact ⟨_, rfl, le_set i l (leS_refl _)⟩ | trivial
        | _ => trivial
      | _ => trivial
  | _ => trivial
theorem mo_callM (i : Nat) (r : List D → List D → Cr (D × List D)) (ds : List D) : Mo (Ev.callM i r ds) := fun ρ' ρ l => by
  try dsimp only
  unfold Ev.callM
  cases h : ρ'[i]? with
  | none => trivial
  | some s =>
    obtain ⟨t, e, ls⟩ := le_get i l h
    rw [e]
    cases s with
    | ow io b =>
      rw [leS_ow ls]
      cases b with
      | lst xs => dsimp only; split <;> first | exact ⟨_, rfl, le_set i l (leS_refl _)⟩ | trivial
      | _ => trivial
    | _ => trivial
theorem mo_callMO (i j : Nat) (r : List D → List D → Cr (D × List D)) : Mo (Ev.callMO i j r) := fun ρ' ρ l => by
  try dsimp only
  unfold Ev.callMO
  cases h : ρ'[i]? with
  | none => trivial
  | some s =>
    cases h2 : ρ'[j]? with
    | none => cases s with
      | ow io b => cases b <;> trivial
      | _ => trivial
    | some s2 =>
      obtain ⟨t, e, ls⟩ := le_get i l h
      obtain ⟨t2, e2, ls2⟩ := le_get j l h2
      rw [e, e2]
      cases s with
      | ow io b =>
        cases s2 with
        | ow io2 b2 =>
          rw [leS_ow ls, leS_ow ls2]
          cases b with
          | lst xs => cases b2 with
            | lst zs => dsimp only; split <;> (try split) <;> (try split) <;> first | exact ⟨_, rfl, le_set i l (leS_refl _)⟩ | trivial
            | _ => trivial
          | _ => cases b2 <;> trivial
        | _ => cases b <;> trivial
      | _ => cases s2 <;> trivial
theorem mo_movR (i : Nat) : Mo (movR i) := fun ρ' ρ l => by
  try dsimp only
  unfold movR
  cases h : ρ'[i]? with
  | none => trivial
  | some s =>
    obtain ⟨t, e, ls⟩ := le_get i l h
    rw [e]
    cases s with
    | ow io b =>
      rw [leS_ow ls]
      cases io with
      | true => trivial
      | false => cases b <;> first | exact ⟨_, rfl, le_set i l (leS_refl _)⟩ | trivial
    | _ => trivial
theorem mo_setV (i : Nat) (d : D) : MoO (setV i d) := fun ρ' ρ l => by
  try dsimp only
  unfold setV
  cases h : ρ'[i]? with
  | none => trivial
  | some s =>
    obtain ⟨t, e, ls⟩ := le_get i l h
    rw [e]
    cases s with
    | un => cases t with
      | un => exact ⟨_, rfl, le_set i l (leS_refl _)⟩
      | va d => exact ⟨_, rfl, le_set i l (leS_refl _)⟩
      | ow io b => cases (show io = false from ls); exact ⟨_, rfl, le_set i l (leS_refl _)⟩
    | va d => rw [leS_va ls]; exact ⟨_, rfl, le_set i l (leS_refl _)⟩
    | ow io b => rw [leS_ow ls]; cases io <;> first | exact ⟨_, rfl, le_set i l (leS_refl _)⟩ | trivial
theorem mo_setO (i : Nat) (d : Ob) : MoO (setO i d) := fun ρ' ρ l => by
  try dsimp only
  unfold setO
  cases h : ρ'[i]? with
  | none => trivial
  | some s =>
    obtain ⟨t, e, ls⟩ := le_get i l h
    rw [e]
    cases s with
    | un => cases t with
      | un => exact ⟨_, rfl, le_set i l (leS_refl _)⟩
      | va d => exact ⟨_, rfl, le_set i l (leS_refl _)⟩
      | ow io b => cases (show io = false from ls); exact ⟨_, rfl, le_set i l (leS_refl _)⟩
    | va d => rw [leS_va ls]; exact ⟨_, rfl, le_set i l (leS_refl _)⟩
    | ow io b => rw [leS_ow ls]; cases io <;> first | exact ⟨_, rfl, le_set i l (leS_refl _)⟩ | trivial
theorem mo_modO (i : Nat) (f : List D → Option (List D)) : MoO (modO i f) := fun ρ' ρ l => by
  try dsimp only
  unfold modO
  cases h : ρ'[i]? with
  | none => trivial
  | some s =>
    obtain ⟨t, e, ls⟩ := le_get i l h
    rw [e]
    cases s with
    | ow io b =>
      rw [leS_ow ls]
      cases b with
      | lst xs => dsimp only; cases f xs <;> first | exact ⟨_, rfl, le_set i l (leS_refl _)⟩ | trivial
      | _ => trivial
    | _ => trivial
theorem mo_modD (i : Nat) (k d : D) : MoO (modD i k d) := fun ρ' ρ l => by
  try dsimp only
  unfold modD
  cases h : ρ'[i]? with
  | none => trivial
  | some s =>
    obtain ⟨t, e, ls⟩ := le_get i l h
    rw [e]
    cases s with
    | ow io b =>
      rw [leS_ow ls]
      cases b with
      | lst xs => trivial
      | dK ks xs =>
        dsimp only
        cases keyD k with
        | none => trivial
        | some j => dsimp only [Option.bind_some]; split <;> first | exact ⟨_, rfl, le_set i l (leS_refl _)⟩ | trivial
      | dT ks xs =>
        dsimp only
        cases keyT k with
        | none => trivial
        | some j => dsimp only [Option.bind_some]; split <;> first | exact ⟨_, rfl, le_set i l (leS_refl _)⟩ | trivial
    | _ => trivial
theorem mo_setVs : ∀ (is : List Nat) (ds : List D), MoO (setVs is ds)
  | [], [] => fun ρ' ρ l => ⟨ρ, rfl, l⟩
  | i :: is, d :: ds => moO_bind (mo_setV i d) (mo_setVs is ds)
  | [], _ :: _ => fun _ _ _ => trivial
  | _ :: _, [] => fun _ _ _ => trivial
theorem mo_asgT (T : Tg) (d : D) : MoO (asgT T d) := by
  cases T with
  | nm i => exact mo_setV i d
  | tup is => cases d with
    | tup ds => exact mo_setVs is ds
    | _ => exact fun _ _ _ => trivial
theorem mo_setPs : ∀ (is : List Nat) (ss : List Sl), MoO (setPs is ss)
  | [], [] => fun ρ' ρ l => ⟨ρ, rfl, l⟩
  | i :: is, s :: ss => moO_bind (by
      cases s with
      | un => exact fun _ _ _ => trivial
      | va d => exact mo_setV i d
      | ow io b => cases io with
        | true => exact fun _ _ _ => trivial
        | false => exact mo_setO i b) (mo_setPs is ss)
  | [], _ :: _ => fun _ _ _ => trivial
  | _ :: _, [] => fun _ _ _ => trivial
theorem mo_few (xs : List D) : Mo (few xs) := by
  unfold few
  exact mo_ite (mo_pure _) mo_bad
theorem mo_itN (x : D) (xs : List D) : Mo (itN x xs) := by
  cases x <;> first | exact mo_few _ | exact mo_pure _
theorem mo_boolOf (d : D) : Mo (boolOf d) := by
  unfold boolOf
  cases d <;> first | exact mo_pure _ | exact mo_bad
theorem mo_truB (d : D) : Mo (truB d) := mo_lift _
theorem mo_crR (r : Cr D) : Mo r.r := by cases r <;> first | exact mo_pure _ | exact mo_err _ | exact mo_bad
theorem mo_crF (r : Cr (List D)) : Mo r.f := by cases r <;> first | exact mo_pure _ | exact mo_err _ | exact mo_bad
theorem mo_andV {f : En → R D} (h : Mo f) (d : D) : Mo (andV f d) := by
  unfold andV
  split <;> first | exact h | exact mo_pure _ | exact mo_bad
theorem mo_orV {f : En → R D} (h : Mo f) (d : D) : Mo (orV f d) := by
  unfold orV
  split <;> first | exact h | exact mo_pure _ | exact mo_bad
theorem mo_thenS {k : En → R Fl} (h : Mo k) (f : Fl) : Mo (thenS k f) := by
  cases f <;> first | exact h | exact mo_pure _
theorem mo_forL {g : D → En → Option En} {fb : En → R Fl} (hg : ∀ d, MoO (g d)) (hb : Mo fb) : ∀ ds, Mo (forL g fb ds)
  | [] => mo_pure _
  | d :: ds => fun ρ' ρ l => by
    rw [forL_cons, forL_cons]
    have := hg d ρ' ρ l
    cases h : g d ρ' with
    | none => trivial
    | some ρ1 =>
      rw [h] at this
      obtain ⟨ρ2, e, l2⟩ := this
      rw [e]
      refine rle_bind (hb _ _ l2) fun fl ρ3' ρ3 l3 => ?_
      cases fl with
      | nx => exact mo_forL hg hb ds _ _ l3
      | ct => exact mo_forL hg hb ds _ _ l3
      | bk => exact ⟨_, rfl, l3⟩
      | rt d => exact ⟨_, rfl, l3⟩
      | rf d => exact ⟨_, rfl, l3⟩
theorem mo_whileL {ft : En → R Bool} {fb : En → R Fl} (ht : Mo ft) (hb : Mo fb) : ∀ n, Mo (whileL ft fb n)
  | 0 => mo_bad
  | n + 1 => fun ρ' ρ l => by
    unfold whileL
    refine rle_bind (ht _ _ l) fun k ρ1' ρ1 l1 => ?_
    cases k with
    | false => exact ⟨_, rfl, l1⟩
    | true =>
      refine rle_bind (hb _ _ l1) fun fl ρ3' ρ3 l3 => ?_
      cases fl with
      | nx => exact mo_whileL ht hb n _ _ l3
      | ct => exact mo_whileL ht hb n _ _ l3
      | bk => exact ⟨_, rfl, l3⟩
      | rt d => exact ⟨_, rfl, l3⟩
      | rf d => exact ⟨_, rfl, l3⟩
theorem le_wipe : ∀ (vs : List Nat) {ρ' ρ : En}, Le ρ' ρ → Le (wipeR ρ' vs) (wipeR ρ vs)
  | [], _, _, l => l
  | v :: vs, _, _, l => le_set v (le_wipe vs l) (leS_refl _)
theorem le_back : ∀ (vs : List Nat) {ρ0' ρ0 ρ' ρ : En}, Le ρ0' ρ0 → Le ρ' ρ → Le (backR ρ0' ρ' vs) (backR ρ0 ρ vs)
  | [], _, _, _, _, _, l => l
  | v :: vs, ρ0', ρ0, _, _, l0, l => by
    refine le_set v (le_back vs l0 l) ?_
    cases h : ρ0'[v]? with
    | none =>
      have e : ρ0[v]? = none := by
        rw [List.getElem?_eq_none_iff, ← le_len l0, ← List.getElem?_eq_none_iff]; exact h
      rw [e]; trivial
    | some s =>
      obtain ⟨t, e, ls⟩ := le_get v l0 h
      rw [e]
      cases s with
      | un => cases t <;> trivial
      | va d => rw [leS_va ls]; rfl
      | ow io b => rw [leS_ow ls]; trivial
theorem mo_compL {g : D → En → Option En} {ft : En → R Bool} {fe : En → R D} (hg : ∀ d, MoO (g d)) (ht : Mo ft) (he : Mo fe) (vs : List Nat) : ∀ ds, Mo (compL g ft fe vs ds)
  | [] => mo_pure _
  | d :: ds => fun ρ' ρ l => by
    unfold compL
    have := hg d ρ' ρ l
    cases h : g d ρ' with
    | none => trivial
    | some ρ1 =>
      rw [h] at this
      obtain ⟨ρ2, e, l2⟩ := this
      rw [e]
      refine rle_bind (mo_ne ht _ _ l2) fun k ρ3' ρ3 l3 => ?_
      cases k with
      | false => exact mo_compL hg ht he vs ds _ _ (le_wipe vs l3)
      | true =>
        refine rle_bind (mo_ne he _ _ l3) fun x ρ4' ρ4 l4 => ?_
        exact rle_bind (mo_compL hg ht he vs ds _ _ (le_wipe vs l4)) fun xs ρ5' ρ5 l5 => ⟨_, rfl, l5⟩
theorem mo_compR {T : Tg} {fi : En → R (List D)} {ft : En → R Bool} {fe : En → R D} (hi : Mo fi) (ht : Mo ft) (he : Mo fe) (vs : List Nat) : Mo (compR T fi ft fe vs) := fun ρ' ρ l => by
  try dsimp only
  unfold compR
  refine rle_bind (hi _ _ l) fun xs ρ1' ρ1 l1 => ?_
  exact rle_bind (mo_compL (mo_asgT T) ht he vs xs _ _ (le_wipe vs l1)) fun ds ρ2' ρ2 l2 => ⟨_, rfl, le_back vs l1 l2⟩
theorem mo_compD {g : D → En → Option En} {ft : En → R Bool} {fk fv : En → R D} (hg : ∀ d, MoO (g d)) (ht : Mo ft) (hk : Mo fk) (hv : Mo fv) (vs : List Nat) : ∀ ds b, Mo (compD g ft fk fv vs ds b)
  | [], _ => mo_pure _
  | d :: ds, b => fun ρ' ρ l => by
    unfold compD
    have := hg d ρ' ρ l
    cases h : g d ρ' with
    | none => trivial
    | some ρ1 =>
      rw [h] at this
      obtain ⟨ρ2, e, l2⟩ := this
      rw [e]
      refine rle_bind (mo_ne ht _ _ l2) fun k ρ3' ρ3 l3 => ?_
      cases k with
      | false => exact mo_compD hg ht hk hv vs ds b _ _ (le_wipe vs l3)
      | true =>
        refine rle_bind (mo_ne hk _ _ l3) fun x ρ4' ρ4 l4 => ?_
        refine rle_bind (mo_ne hv _ _ l4) fun y ρ5' ρ5 l5 => ?_
        cases putB b x y with
        | none => trivial
        | some b' => exact mo_compD hg ht hk hv vs ds b' _ _ (le_wipe vs l5)
theorem mo_compDR {isT : Bool} {T : Tg} {fi : En → R (List D)} {ft : En → R Bool} {fk fv : En → R D} (hi : Mo fi) (ht : Mo ft) (hk : Mo fk) (hv : Mo fv) (vs : List Nat) : Mo (compDR isT T fi ft fk fv vs) := fun ρ' ρ l => by
  try dsimp only
  unfold compDR
  refine rle_bind (hi _ _ l) fun xs ρ1' ρ1 l1 => ?_
  exact rle_bind (mo_compD (mo_asgT T) ht hk hv vs xs _ _ _ (le_wipe vs l1)) fun ds ρ2' ρ2 l2 => ⟨_, rfl, le_back vs l1 l2⟩
theorem rle_tri {nC : Nat} {hs : List (Nat × D)} {r' r : R Fl} (h : RLe r' r) : RLe (triR nC hs r') (triR nC hs r) := by
  cases r' with
  | ok a ρ' => obtain ⟨ρ, rfl, l⟩ := h; exact ⟨ρ, rfl, l⟩
  | bad => trivial
  | err x ρ' =>
    obtain ⟨ρ, rfl, l⟩ := h
    show RLe (if _ then _ else _) (if _ then _ else _)
    split
    · split <;> exact ⟨ρ, rfl, l⟩
    · trivial
theorem rle_trn {nC i k j : Nat} {s0 s1 : Str} {r' r : R Fl} (h : RLe r' r) : RLe (trnR nC i k j s0 s1 r') (trnR nC i k j s0 s1 r) := by
  cases r' with
  | ok a ρ' => obtain ⟨ρ, rfl, l⟩ := h; exact ⟨ρ, rfl, l⟩
  | bad => trivial
  | err x ρ' =>
    obtain ⟨ρ, rfl, l⟩ := h
    show RLe (if _ then _ else _) (if _ then _ else _)
    rw [le_len l]
    split
    · split
      · split
        · exact ⟨ρ, rfl, l⟩
        · trivial
      · exact ⟨ρ, rfl, l⟩
    · trivial
end Ev

end
section
set_option maxHeartbeats 4000000
namespace Ev
open PySem PySem.Spec PyProof.Rows L2
theorem mo_chn {f : En → R D} (h : Mo f) (k : D) : Mo (fun ρ3 => match k with | .bl true => f ρ3 | _ => .ok (.bl false) ρ3) := by
  split <;> first | exact h | exact mo_pure _
theorem mo_sortL (x : D) : Mo (fun ρ1 => match x with | .lst _ => R.lift (sortD x) ρ1 | _ => (.bad : R (List D))) := by
  cases x <;> first | exact mo_lift _ | exact mo_bad
theorem mo_cat (x y : D) : Mo (fun ρ2 => match x, y with
    | .lst xs, .lst ys => if xs.length + ys.length ≤ LN then .ok (xs ++ ys) ρ2 else (.bad : R (List D))
    | _, _ => .bad) := by
  split
  · exact mo_ite (mo_pure _) mo_bad
  · exact mo_bad
theorem mo_rep (x y : D) : Mo (fun ρ2 => match x, y with
    | .lst xs, .int k => if xs.length * k.toNat ≤ LN ∧ -(2 ^ 63) ≤ k ∧ k < 2 ^ 63 then .ok (List.replicate k.toNat xs).flatten ρ2 else (.bad : R (List D))
    | _, _ => .bad) := by
  split
  · exact mo_ite (mo_pure _) mo_bad
  · exact mo_bad
theorem mo_store1 {g : D → En → Option En} (hg : ∀ d, MoO (g d)) (d : D) : Mo fun ρ1 => (R.lift (g d ρ1) ρ1).bind fun ρ2 _ => R.ok Fl.nx ρ2 := mo_setR (hg d)
theorem moO_aug (o : Option D) (i : Nat) : MoO fun ρ1 => o.bind fun z => setV i z ρ1 := by
  cases o with
  | none => exact fun _ _ _ => trivial
  | some z => exact mo_setV i z
section
variable (G : Gs)
mutual
theorem mE : ∀ x : E, Mo (evE G x)
  | .con k => by
    show Mo (evE G (.con k))
    unfold evE
    repeat' (first  | assumption  | exact mo_pure _ | exact mo_bad | exact mo_err _ | exact mo_lift _ | exact mo_liftB _ | exact mo_rdV _ | exact mo_rdL _ | exact mo_rdO _ | exact mo_rdB _ | exact mo_popR _ | exact mo_popAt _ _ | exact mo_callM _ _ _ | exact mo_callMO _ _ _ | exact mo_movR _  | exact mo_few _ | exact mo_itN _ _ | exact mo_boolOf _ | exact mo_truB _ | exact mo_crR _ | exact mo_crF _ | exact mo_sortL _ | exact mo_cat _ _ | exact mo_rep _ _  | exact mo_setR (mo_setV _ _) | exact mo_setR (mo_setO _ _) | exact mo_setR (mo_asgT _ _) | exact mo_setR (mo_modO _ _) | exact mo_setR (mo_modD _ _ _) | exact mo_setR (mo_setPs _ _) | exact mo_setR (moO_aug _ _)  | refine mo_compR ?_ ?_ ?_ _ | refine mo_compDR ?_ ?_ ?_ ?_ _ | refine mo_forL (mo_asgT _) ?_ _ | refine mo_whileL ?_ ?_ _  | refine mo_andV ?_ _ | refine mo_orV ?_ _ | refine mo_thenS ?_ _ | refine mo_chn ?_ _  | refine mo_bind ?_ ?_ | refine mo_ite ?_ ?_ | intro _)
  | .glo k => by
    show Mo (evE G (.glo k))
    unfold evE
    repeat' (first  | assumption  | exact mo_pure _ | exact mo_bad | exact mo_err _ | exact mo_lift _ | exact mo_liftB _ | exact mo_rdV _ | exact mo_rdL _ | exact mo_rdO _ | exact mo_rdB _ | exact mo_popR _ | exact mo_popAt _ _ | exact mo_callM _ _ _ | exact mo_callMO _ _ _ | exact mo_movR _  | exact mo_few _ | exact mo_itN _ _ | exact mo_boolOf _ | exact mo_truB _ | exact mo_crR _ | exact mo_crF _ | exact mo_sortL _ | exact mo_cat _ _ | exact mo_rep _ _  | exact mo_setR (mo_setV _ _) | exact mo_setR (mo_setO _ _) | exact mo_setR (mo_asgT _ _) | exact mo_setR (mo_modO _ _) | exact mo_setR (mo_modD _ _ _) | exact mo_setR (mo_setPs _ _) | exact mo_setR (moO_aug _ _)  | refine mo_compR ?_ ?_ ?_ _ | refine mo_compDR ?_ ?_ ?_ ?_ _ | refine mo_forL (mo_asgT _) ?_ _ | refine mo_whileL ?_ ?_ _  | refine mo_andV ?_ _ | refine mo_orV ?_ _ | refine mo_thenS ?_ _ | refine mo_chn ?_ _  | refine mo_bind ?_ ?_ | refine mo_ite ?_ ?_ | intro _)
  | .var i => by
    show Mo (evE G (.var i))
    unfold evE
    repeat' (first  | assumption  | exact mo_pure _ | exact mo_bad | exact mo_err _ | exact mo_lift _ | exact mo_liftB _ | exact mo_rdV _ | exact mo_rdL _ | exact mo_rdO _ | exact mo_rdB _ | exact mo_popR _ | exact mo_popAt _ _ | exact mo_callM _ _ _ | exact mo_callMO _ _ _ | exact mo_movR _  | exact mo_few _ | exact mo_itN _ _ | exact mo_boolOf _ | exact mo_truB _ | exact mo_crR _ | exact mo_crF _ | exact mo_sortL _ | exact mo_cat _ _ | exact mo_rep _ _  | exact mo_setR (mo_setV _ _) | exact mo_setR (mo_setO _ _) | exact mo_setR (mo_asgT _ _) | exact mo_setR (mo_modO _ _) | exact mo_setR (mo_modD _ _ _) | exact mo_setR (mo_setPs _ _) | exact mo_setR (moO_aug _ _)  | refine mo_compR ?_ ?_ ?_ _ | refine mo_compDR ?_ ?_ ?_ ?_ _ | refine mo_forL (mo_asgT _) ?_ _ | refine mo_whileL ?_ ?_ _  | refine mo_andV ?_ _ | refine mo_orV ?_ _ | refine mo_thenS ?_ _ | refine mo_chn ?_ _  | refine mo_bind ?_ ?_ | refine mo_ite ?_ ?_ | intro _)
  | .bin op a b => by
    have h1 := mE a
    have h2 := mE b
    show Mo (evE G (.bin op a b))
    unfold evE
    repeat' (first  | assumption  | exact mo_pure _ | exact mo_bad | exact mo_err _ | exact mo_lift _ | exact mo_liftB _ | exact mo_rdV _ | exact mo_rdL _ | exact mo_rdO _ | exact mo_rdB _ | exact mo_popR _ | exact mo_popAt _ _ | exact mo_callM _ _ _ | exact mo_callMO _ _ _ | exact mo_movR _  | exact mo_few _ | exact mo_itN _ _ | exact mo_boolOf _ | exact mo_truB _ | exact mo_crR _ | exact mo_crF _ | exact mo_sortL _ | exact mo_cat _ _ | exact mo_rep _ _  | exact mo_setR (mo_setV _ _) | exact mo_setR (mo_setO _ _) | exact mo_setR (mo_asgT _ _) | exact mo_setR (mo_modO _ _) | exact mo_setR (mo_modD _ _ _) | exact mo_setR (mo_setPs _ _) | exact mo_setR (moO_aug _ _)  | refine mo_compR ?_ ?_ ?_ _ | refine mo_compDR ?_ ?_ ?_ ?_ _ | refine mo_forL (mo_asgT _) ?_ _ | refine mo_whileL ?_ ?_ _  | refine mo_andV ?_ _ | refine mo_orV ?_ _ | refine mo_thenS ?_ _ | refine mo_chn ?_ _  | refine mo_bind ?_ ?_ | refine mo_ite ?_ ?_ | intro _)
  | .neg a => by
    have h1 := mE a
    show Mo (evE G (.neg a))
    unfold evE
    repeat' (first  | assumption  | exact mo_pure _ | exact mo_bad | exact mo_err _ | exact mo_lift _ | exact mo_liftB _ | exact mo_rdV _ | exact mo_rdL _ | exact mo_rdO _ | exact mo_rdB _ | exact mo_popR _ | exact mo_popAt _ _ | exact mo_callM _ _ _ | exact mo_callMO _ _ _ | exact mo_movR _  | exact mo_few _ | exact mo_itN _ _ | exact mo_boolOf _ | exact mo_truB _ | exact mo_crR _ | exact mo_crF _ | exact mo_sortL _ | exact mo_cat _ _ | exact mo_rep _ _  | exact mo_setR (mo_setV _ _) | exact mo_setR (mo_setO _ _) | exact mo_setR (mo_asgT _ _) | exact mo_setR (mo_modO _ _) | exact mo_setR (mo_modD _ _ _) | exact mo_setR (mo_setPs _ _) | exact mo_setR (moO_aug _ _)  | refine mo_compR ?_ ?_ ?_ _ | refine mo_compDR ?_ ?_ ?_ ?_ _ | refine mo_forL (mo_asgT _) ?_ _ | refine mo_whileL ?_ ?_ _  | refine mo_andV ?_ _ | refine mo_orV ?_ _ | refine mo_thenS ?_ _ | refine mo_chn ?_ _  | refine mo_bind ?_ ?_ | refine mo_ite ?_ ?_ | intro _)
  | .not a => by
    have h1 := mE a
    show Mo (evE G (.not a))
    unfold evE
    repeat' (first  | assumption  | exact mo_pure _ | exact mo_bad | exact mo_err _ | exact mo_lift _ | exact mo_liftB _ | exact mo_rdV _ | exact mo_rdL _ | exact mo_rdO _ | exact mo_rdB _ | exact mo_popR _ | exact mo_popAt _ _ | exact mo_callM _ _ _ | exact mo_callMO _ _ _ | exact mo_movR _  | exact mo_few _ | exact mo_itN _ _ | exact mo_boolOf _ | exact mo_truB _ | exact mo_crR _ | exact mo_crF _ | exact mo_sortL _ | exact mo_cat _ _ | exact mo_rep _ _  | exact mo_setR (mo_setV _ _) | exact mo_setR (mo_setO _ _) | exact mo_setR (mo_asgT _ _) | exact mo_setR (mo_modO _ _) | exact mo_setR (mo_modD _ _ _) | exact mo_setR (mo_setPs _ _) | exact mo_setR (moO_aug _ _)  | refine mo_compR ?_ ?_ ?_ _ | refine mo_compDR ?_ ?_ ?_ ?_ _ | refine mo_forL (mo_asgT _) ?_ _ | refine mo_whileL ?_ ?_ _  | refine mo_andV ?_ _ | refine mo_orV ?_ _ | refine mo_thenS ?_ _ | refine mo_chn ?_ _  | refine mo_bind ?_ ?_ | refine mo_ite ?_ ?_ | intro _)
  | .cmp op a b => by
    have h1 := mE a
    have h2 := mE b
    show Mo (evE G (.cmp op a b))
    unfold evE
    repeat' (first  | assumption  | exact mo_pure _ | exact mo_bad | exact mo_err _ | exact mo_lift _ | exact mo_liftB _ | exact mo_rdV _ | exact mo_rdL _ | exact mo_rdO _ | exact mo_rdB _ | exact mo_popR _ | exact mo_popAt _ _ | exact mo_callM _ _ _ | exact mo_callMO _ _ _ | exact mo_movR _  | exact mo_few _ | exact mo_itN _ _ | exact mo_boolOf _ | exact mo_truB _ | exact mo_crR _ | exact mo_crF _ | exact mo_sortL _ | exact mo_cat _ _ | exact mo_rep _ _  | exact mo_setR (mo_setV _ _) | exact mo_setR (mo_setO _ _) | exact mo_setR (mo_asgT _ _) | exact mo_setR (mo_modO _ _) | exact mo_setR (mo_modD _ _ _) | exact mo_setR (mo_setPs _ _) | exact mo_setR (moO_aug _ _)  | refine mo_compR ?_ ?_ ?_ _ | refine mo_compDR ?_ ?_ ?_ ?_ _ | refine mo_forL (mo_asgT _) ?_ _ | refine mo_whileL ?_ ?_ _  | refine mo_andV ?_ _ | refine mo_orV ?_ _ | refine mo_thenS ?_ _ | refine mo_chn ?_ _  | refine mo_bind ?_ ?_ | refine mo_ite ?_ ?_ | intro _)
  | .chn op op2 a b e => by
    have h1 := mE a
    have h2 := mE b
    have h3 := mE e
    show Mo (evE G (.chn op op2 a b e))
    unfold evE
    repeat' (first  | assumption  | exact mo_pure _ | exact mo_bad | exact mo_err _ | exact mo_lift _ | exact mo_liftB _ | exact mo_rdV _ | exact mo_rdL _ | exact mo_rdO _ | exact mo_rdB _ | exact mo_popR _ | exact mo_popAt _ _ | exact mo_callM _ _ _ | exact mo_callMO _ _ _ | exact mo_movR _  | exact mo_few _ | exact mo_itN _ _ | exact mo_boolOf _ | exact mo_truB _ | exact mo_crR _ | exact mo_crF _ | exact mo_sortL _ | exact mo_cat _ _ | exact mo_rep _ _  | exact mo_setR (mo_setV _ _) | exact mo_setR (mo_setO _ _) | exact mo_setR (mo_asgT _ _) | exact mo_setR (mo_modO _ _) | exact mo_setR (mo_modD _ _ _) | exact mo_setR (mo_setPs _ _) | exact mo_setR (moO_aug _ _)  | refine mo_compR ?_ ?_ ?_ _ | refine mo_compDR ?_ ?_ ?_ ?_ _ | refine mo_forL (mo_asgT _) ?_ _ | refine mo_whileL ?_ ?_ _  | refine mo_andV ?_ _ | refine mo_orV ?_ _ | refine mo_thenS ?_ _ | refine mo_chn ?_ _  | refine mo_bind ?_ ?_ | refine mo_ite ?_ ?_ | intro _)
  | .ife t a b => by
    have h1 := mB t
    have h2 := mE a
    have h3 := mE b
    show Mo (evE G (.ife t a b))
    unfold evE
    repeat' (first  | assumption  | exact mo_pure _ | exact mo_bad | exact mo_err _ | exact mo_lift _ | exact mo_liftB _ | exact mo_rdV _ | exact mo_rdL _ | exact mo_rdO _ | exact mo_rdB _ | exact mo_popR _ | exact mo_popAt _ _ | exact mo_callM _ _ _ | exact mo_callMO _ _ _ | exact mo_movR _  | exact mo_few _ | exact mo_itN _ _ | exact mo_boolOf _ | exact mo_truB _ | exact mo_crR _ | exact mo_crF _ | exact mo_sortL _ | exact mo_cat _ _ | exact mo_rep _ _  | exact mo_setR (mo_setV _ _) | exact mo_setR (mo_setO _ _) | exact mo_setR (mo_asgT _ _) | exact mo_setR (mo_modO _ _) | exact mo_setR (mo_modD _ _ _) | exact mo_setR (mo_setPs _ _) | exact mo_setR (moO_aug _ _)  | refine mo_compR ?_ ?_ ?_ _ | refine mo_compDR ?_ ?_ ?_ ?_ _ | refine mo_forL (mo_asgT _) ?_ _ | refine mo_whileL ?_ ?_ _  | refine mo_andV ?_ _ | refine mo_orV ?_ _ | refine mo_thenS ?_ _ | refine mo_chn ?_ _  | refine mo_bind ?_ ?_ | refine mo_ite ?_ ?_ | intro _)
  | .and v => by
    have h1 := mAnd v
    show Mo (evE G (.and v))
    unfold evE
    repeat' (first  | assumption  | exact mo_pure _ | exact mo_bad | exact mo_err _ | exact mo_lift _ | exact mo_liftB _ | exact mo_rdV _ | exact mo_rdL _ | exact mo_rdO _ | exact mo_rdB _ | exact mo_popR _ | exact mo_popAt _ _ | exact mo_callM _ _ _ | exact mo_callMO _ _ _ | exact mo_movR _  | exact mo_few _ | exact mo_itN _ _ | exact mo_boolOf _ | exact mo_truB _ | exact mo_crR _ | exact mo_crF _ | exact mo_sortL _ | exact mo_cat _ _ | exact mo_rep _ _  | exact mo_setR (mo_setV _ _) | exact mo_setR (mo_setO _ _) | exact mo_setR (mo_asgT _ _) | exact mo_setR (mo_modO _ _) | exact mo_setR (mo_modD _ _ _) | exact mo_setR (mo_setPs _ _) | exact mo_setR (moO_aug _ _)  | refine mo_compR ?_ ?_ ?_ _ | refine mo_compDR ?_ ?_ ?_ ?_ _ | refine mo_forL (mo_asgT _) ?_ _ | refine mo_whileL ?_ ?_ _  | refine mo_andV ?_ _ | refine mo_orV ?_ _ | refine mo_thenS ?_ _ | refine mo_chn ?_ _  | refine mo_bind ?_ ?_ | refine mo_ite ?_ ?_ | intro _)
  | .or v => by
    have h1 := mOr v
    show Mo (evE G (.or v))
    unfold evE
    repeat' (first  | assumption  | exact mo_pure _ | exact mo_bad | exact mo_err _ | exact mo_lift _ | exact mo_liftB _ | exact mo_rdV _ | exact mo_rdL _ | exact mo_rdO _ | exact mo_rdB _ | exact mo_popR _ | exact mo_popAt _ _ | exact mo_callM _ _ _ | exact mo_callMO _ _ _ | exact mo_movR _  | exact mo_few _ | exact mo_itN _ _ | exact mo_boolOf _ | exact mo_truB _ | exact mo_crR _ | exact mo_crF _ | exact mo_sortL _ | exact mo_cat _ _ | exact mo_rep _ _  | exact mo_setR (mo_setV _ _) | exact mo_setR (mo_setO _ _) | exact mo_setR (mo_asgT _ _) | exact mo_setR (mo_modO _ _) | exact mo_setR (mo_modD _ _ _) | exact mo_setR (mo_setPs _ _) | exact mo_setR (moO_aug _ _)  | refine mo_compR ?_ ?_ ?_ _ | refine mo_compDR ?_ ?_ ?_ ?_ _ | refine mo_forL (mo_asgT _) ?_ _ | refine mo_whileL ?_ ?_ _  | refine mo_andV ?_ _ | refine mo_orV ?_ _ | refine mo_thenS ?_ _ | refine mo_chn ?_ _  | refine mo_bind ?_ ?_ | refine mo_ite ?_ ?_ | intro _)
  | .tup es => by
    have h1 := mA es
    show Mo (evE G (.tup es))
    unfold evE
    repeat' (first  | assumption  | exact mo_pure _ | exact mo_bad | exact mo_err _ | exact mo_lift _ | exact mo_liftB _ | exact mo_rdV _ | exact mo_rdL _ | exact mo_rdO _ | exact mo_rdB _ | exact mo_popR _ | exact mo_popAt _ _ | exact mo_callM _ _ _ | exact mo_callMO _ _ _ | exact mo_movR _  | exact mo_few _ | exact mo_itN _ _ | exact mo_boolOf _ | exact mo_truB _ | exact mo_crR _ | exact mo_crF _ | exact mo_sortL _ | exact mo_cat _ _ | exact mo_rep _ _  | exact mo_setR (mo_setV _ _) | exact mo_setR (mo_setO _ _) | exact mo_setR (mo_asgT _ _) | exact mo_setR (mo_modO _ _) | exact mo_setR (mo_modD _ _ _) | exact mo_setR (mo_setPs _ _) | exact mo_setR (moO_aug _ _)  | refine mo_compR ?_ ?_ ?_ _ | refine mo_compDR ?_ ?_ ?_ ?_ _ | refine mo_forL (mo_asgT _) ?_ _ | refine mo_whileL ?_ ?_ _  | refine mo_andV ?_ _ | refine mo_orV ?_ _ | refine mo_thenS ?_ _ | refine mo_chn ?_ _  | refine mo_bind ?_ ?_ | refine mo_ite ?_ ?_ | intro _)
  | .fr f => by
    have h1 := mF f
    show Mo (evE G (.fr f))
    unfold evE
    repeat' (first  | assumption  | exact mo_pure _ | exact mo_bad | exact mo_err _ | exact mo_lift _ | exact mo_liftB _ | exact mo_rdV _ | exact mo_rdL _ | exact mo_rdO _ | exact mo_rdB _ | exact mo_popR _ | exact mo_popAt _ _ | exact mo_callM _ _ _ | exact mo_callMO _ _ _ | exact mo_movR _  | exact mo_few _ | exact mo_itN _ _ | exact mo_boolOf _ | exact mo_truB _ | exact mo_crR _ | exact mo_crF _ | exact mo_sortL _ | exact mo_cat _ _ | exact mo_rep _ _  | exact mo_setR (mo_setV _ _) | exact mo_setR (mo_setO _ _) | exact mo_setR (mo_asgT _ _) | exact mo_setR (mo_modO _ _) | exact mo_setR (mo_modD _ _ _) | exact mo_setR (mo_setPs _ _) | exact mo_setR (moO_aug _ _)  | refine mo_compR ?_ ?_ ?_ _ | refine mo_compDR ?_ ?_ ?_ ?_ _ | refine mo_forL (mo_asgT _) ?_ _ | refine mo_whileL ?_ ?_ _  | refine mo_andV ?_ _ | refine mo_orV ?_ _ | refine mo_thenS ?_ _ | refine mo_chn ?_ _  | refine mo_bind ?_ ?_ | refine mo_ite ?_ ?_ | intro _)
  | .ix a b => by
    have h1 := mE a
    have h2 := mE b
    show Mo (evE G (.ix a b))
    unfold evE
    repeat' (first  | assumption  | exact mo_pure _ | exact mo_bad | exact mo_err _ | exact mo_lift _ | exact mo_liftB _ | exact mo_rdV _ | exact mo_rdL _ | exact mo_rdO _ | exact mo_rdB _ | exact mo_popR _ | exact mo_popAt _ _ | exact mo_callM _ _ _ | exact mo_callMO _ _ _ | exact mo_movR _  | exact mo_few _ | exact mo_itN _ _ | exact mo_boolOf _ | exact mo_truB _ | exact mo_crR _ | exact mo_crF _ | exact mo_sortL _ | exact mo_cat _ _ | exact mo_rep _ _  | exact mo_setR (mo_setV _ _) | exact mo_setR (mo_setO _ _) | exact mo_setR (mo_asgT _ _) | exact mo_setR (mo_modO _ _) | exact mo_setR (mo_modD _ _ _) | exact mo_setR (mo_setPs _ _) | exact mo_setR (moO_aug _ _)  | refine mo_compR ?_ ?_ ?_ _ | refine mo_compDR ?_ ?_ ?_ ?_ _ | refine mo_forL (mo_asgT _) ?_ _ | refine mo_whileL ?_ ?_ _  | refine mo_andV ?_ _ | refine mo_orV ?_ _ | refine mo_thenS ?_ _ | refine mo_chn ?_ _  | refine mo_bind ?_ ?_ | refine mo_ite ?_ ?_ | intro _)
  | .ixV i b => by
    have h1 := mE b
    show Mo (evE G (.ixV i b))
    unfold evE
    repeat' (first  | assumption  | exact mo_pure _ | exact mo_bad | exact mo_err _ | exact mo_lift _ | exact mo_liftB _ | exact mo_rdV _ | exact mo_rdL _ | exact mo_rdO _ | exact mo_rdB _ | exact mo_popR _ | exact mo_popAt _ _ | exact mo_callM _ _ _ | exact mo_callMO _ _ _ | exact mo_movR _  | exact mo_few _ | exact mo_itN _ _ | exact mo_boolOf _ | exact mo_truB _ | exact mo_crR _ | exact mo_crF _ | exact mo_sortL _ | exact mo_cat _ _ | exact mo_rep _ _  | exact mo_setR (mo_setV _ _) | exact mo_setR (mo_setO _ _) | exact mo_setR (mo_asgT _ _) | exact mo_setR (mo_modO _ _) | exact mo_setR (mo_modD _ _ _) | exact mo_setR (mo_setPs _ _) | exact mo_setR (moO_aug _ _)  | refine mo_compR ?_ ?_ ?_ _ | refine mo_compDR ?_ ?_ ?_ ?_ _ | refine mo_forL (mo_asgT _) ?_ _ | refine mo_whileL ?_ ?_ _  | refine mo_andV ?_ _ | refine mo_orV ?_ _ | refine mo_thenS ?_ _ | refine mo_chn ?_ _  | refine mo_bind ?_ ?_ | refine mo_ite ?_ ?_ | intro _)
  | .sl a lo hi => by
    have h1 := mE a
    have h2 := mO lo
    have h3 := mO hi
    show Mo (evE G (.sl a lo hi))
    unfold evE
    repeat' (first  | assumption  | exact mo_pure _ | exact mo_bad | exact mo_err _ | exact mo_lift _ | exact mo_liftB _ | exact mo_rdV _ | exact mo_rdL _ | exact mo_rdO _ | exact mo_rdB _ | exact mo_popR _ | exact mo_popAt _ _ | exact mo_callM _ _ _ | exact mo_callMO _ _ _ | exact mo_movR _  | exact mo_few _ | exact mo_itN _ _ | exact mo_boolOf _ | exact mo_truB _ | exact mo_crR _ | exact mo_crF _ | exact mo_sortL _ | exact mo_cat _ _ | exact mo_rep _ _  | exact mo_setR (mo_setV _ _) | exact mo_setR (mo_setO _ _) | exact mo_setR (mo_asgT _ _) | exact mo_setR (mo_modO _ _) | exact mo_setR (mo_modD _ _ _) | exact mo_setR (mo_setPs _ _) | exact mo_setR (moO_aug _ _)  | refine mo_compR ?_ ?_ ?_ _ | refine mo_compDR ?_ ?_ ?_ ?_ _ | refine mo_forL (mo_asgT _) ?_ _ | refine mo_whileL ?_ ?_ _  | refine mo_andV ?_ _ | refine mo_orV ?_ _ | refine mo_thenS ?_ _ | refine mo_chn ?_ _  | refine mo_bind ?_ ?_ | refine mo_ite ?_ ?_ | intro _)
  | .slV i lo hi => by
    have h1 := mO lo
    have h2 := mO hi
    show Mo (evE G (.slV i lo hi))
    unfold evE
    repeat' (first  | assumption  | exact mo_pure _ | exact mo_bad | exact mo_err _ | exact mo_lift _ | exact mo_liftB _ | exact mo_rdV _ | exact mo_rdL _ | exact mo_rdO _ | exact mo_rdB _ | exact mo_popR _ | exact mo_popAt _ _ | exact mo_callM _ _ _ | exact mo_callMO _ _ _ | exact mo_movR _  | exact mo_few _ | exact mo_itN _ _ | exact mo_boolOf _ | exact mo_truB _ | exact mo_crR _ | exact mo_crF _ | exact mo_sortL _ | exact mo_cat _ _ | exact mo_rep _ _  | exact mo_setR (mo_setV _ _) | exact mo_setR (mo_setO _ _) | exact mo_setR (mo_asgT _ _) | exact mo_setR (mo_modO _ _) | exact mo_setR (mo_modD _ _ _) | exact mo_setR (mo_setPs _ _) | exact mo_setR (moO_aug _ _)  | refine mo_compR ?_ ?_ ?_ _ | refine mo_compDR ?_ ?_ ?_ ?_ _ | refine mo_forL (mo_asgT _) ?_ _ | refine mo_whileL ?_ ?_ _  | refine mo_andV ?_ _ | refine mo_orV ?_ _ | refine mo_thenS ?_ _ | refine mo_chn ?_ _  | refine mo_bind ?_ ?_ | refine mo_ite ?_ ?_ | intro _)
  | .b1 f a => by
    have h1 := mL a
    show Mo (evE G (.b1 f a))
    unfold evE
    repeat' (first  | assumption  | exact mo_pure _ | exact mo_bad | exact mo_err _ | exact mo_lift _ | exact mo_liftB _ | exact mo_rdV _ | exact mo_rdL _ | exact mo_rdO _ | exact mo_rdB _ | exact mo_popR _ | exact mo_popAt _ _ | exact mo_callM _ _ _ | exact mo_callMO _ _ _ | exact mo_movR _  | exact mo_few _ | exact mo_itN _ _ | exact mo_boolOf _ | exact mo_truB _ | exact mo_crR _ | exact mo_crF _ | exact mo_sortL _ | exact mo_cat _ _ | exact mo_rep _ _  | exact mo_setR (mo_setV _ _) | exact mo_setR (mo_setO _ _) | exact mo_setR (mo_asgT _ _) | exact mo_setR (mo_modO _ _) | exact mo_setR (mo_modD _ _ _) | exact mo_setR (mo_setPs _ _) | exact mo_setR (moO_aug _ _)  | refine mo_compR ?_ ?_ ?_ _ | refine mo_compDR ?_ ?_ ?_ ?_ _ | refine mo_forL (mo_asgT _) ?_ _ | refine mo_whileL ?_ ?_ _  | refine mo_andV ?_ _ | refine mo_orV ?_ _ | refine mo_thenS ?_ _ | refine mo_chn ?_ _  | refine mo_bind ?_ ?_ | refine mo_ite ?_ ?_ | intro _)
  | .b2 f a b => by
    have h1 := mE a
    have h2 := mE b
    show Mo (evE G (.b2 f a b))
    unfold evE
    repeat' (first  | assumption  | exact mo_pure _ | exact mo_bad | exact mo_err _ | exact mo_lift _ | exact mo_liftB _ | exact mo_rdV _ | exact mo_rdL _ | exact mo_rdO _ | exact mo_rdB _ | exact mo_popR _ | exact mo_popAt _ _ | exact mo_callM _ _ _ | exact mo_callMO _ _ _ | exact mo_movR _  | exact mo_few _ | exact mo_itN _ _ | exact mo_boolOf _ | exact mo_truB _ | exact mo_crR _ | exact mo_crF _ | exact mo_sortL _ | exact mo_cat _ _ | exact mo_rep _ _  | exact mo_setR (mo_setV _ _) | exact mo_setR (mo_setO _ _) | exact mo_setR (mo_asgT _ _) | exact mo_setR (mo_modO _ _) | exact mo_setR (mo_modD _ _ _) | exact mo_setR (mo_setPs _ _) | exact mo_setR (moO_aug _ _)  | refine mo_compR ?_ ?_ ?_ _ | refine mo_compDR ?_ ?_ ?_ ?_ _ | refine mo_forL (mo_asgT _) ?_ _ | refine mo_whileL ?_ ?_ _  | refine mo_andV ?_ _ | refine mo_orV ?_ _ | refine mo_thenS ?_ _ | refine mo_chn ?_ _  | refine mo_bind ?_ ?_ | refine mo_ite ?_ ?_ | intro _)
  | .isi t a => by
    have h1 := mL a
    show Mo (evE G (.isi t a))
    unfold evE
    repeat' (first  | assumption  | exact mo_pure _ | exact mo_bad | exact mo_err _ | exact mo_lift _ | exact mo_liftB _ | exact mo_rdV _ | exact mo_rdL _ | exact mo_rdO _ | exact mo_rdB _ | exact mo_popR _ | exact mo_popAt _ _ | exact mo_callM _ _ _ | exact mo_callMO _ _ _ | exact mo_movR _  | exact mo_few _ | exact mo_itN _ _ | exact mo_boolOf _ | exact mo_truB _ | exact mo_crR _ | exact mo_crF _ | exact mo_sortL _ | exact mo_cat _ _ | exact mo_rep _ _  | exact mo_setR (mo_setV _ _) | exact mo_setR (mo_setO _ _) | exact mo_setR (mo_asgT _ _) | exact mo_setR (mo_modO _ _) | exact mo_setR (mo_modD _ _ _) | exact mo_setR (mo_setPs _ _) | exact mo_setR (moO_aug _ _)  | refine mo_compR ?_ ?_ ?_ _ | refine mo_compDR ?_ ?_ ?_ ?_ _ | refine mo_forL (mo_asgT _) ?_ _ | refine mo_whileL ?_ ?_ _  | refine mo_andV ?_ _ | refine mo_orV ?_ _ | refine mo_thenS ?_ _ | refine mo_chn ?_ _  | refine mo_bind ?_ ?_ | refine mo_ite ?_ ?_ | intro _)
  | .call k n es => by
    have h1 := mA es
    show Mo (evE G (.call k n es))
    unfold evE
    repeat' (first  | assumption  | exact mo_pure _ | exact mo_bad | exact mo_err _ | exact mo_lift _ | exact mo_liftB _ | exact mo_rdV _ | exact mo_rdL _ | exact mo_rdO _ | exact mo_rdB _ | exact mo_popR _ | exact mo_popAt _ _ | exact mo_callM _ _ _ | exact mo_callMO _ _ _ | exact mo_movR _  | exact mo_few _ | exact mo_itN _ _ | exact mo_boolOf _ | exact mo_truB _ | exact mo_crR _ | exact mo_crF _ | exact mo_sortL _ | exact mo_cat _ _ | exact mo_rep _ _  | exact mo_setR (mo_setV _ _) | exact mo_setR (mo_setO _ _) | exact mo_setR (mo_asgT _ _) | exact mo_setR (mo_modO _ _) | exact mo_setR (mo_modD _ _ _) | exact mo_setR (mo_setPs _ _) | exact mo_setR (moO_aug _ _)  | refine mo_compR ?_ ?_ ?_ _ | refine mo_compDR ?_ ?_ ?_ ?_ _ | refine mo_forL (mo_asgT _) ?_ _ | refine mo_whileL ?_ ?_ _  | refine mo_andV ?_ _ | refine mo_orV ?_ _ | refine mo_thenS ?_ _ | refine mo_chn ?_ _  | refine mo_bind ?_ ?_ | refine mo_ite ?_ ?_ | intro _)
  | .callM k n i es => by
    have h1 := mA es
    show Mo (evE G (.callM k n i es))
    unfold evE
    repeat' (first  | assumption  | exact mo_pure _ | exact mo_bad | exact mo_err _ | exact mo_lift _ | exact mo_liftB _ | exact mo_rdV _ | exact mo_rdL _ | exact mo_rdO _ | exact mo_rdB _ | exact mo_popR _ | exact mo_popAt _ _ | exact mo_callM _ _ _ | exact mo_callMO _ _ _ | exact mo_movR _  | exact mo_few _ | exact mo_itN _ _ | exact mo_boolOf _ | exact mo_truB _ | exact mo_crR _ | exact mo_crF _ | exact mo_sortL _ | exact mo_cat _ _ | exact mo_rep _ _  | exact mo_setR (mo_setV _ _) | exact mo_setR (mo_setO _ _) | exact mo_setR (mo_asgT _ _) | exact mo_setR (mo_modO _ _) | exact mo_setR (mo_modD _ _ _) | exact mo_setR (mo_setPs _ _) | exact mo_setR (moO_aug _ _)  | refine mo_compR ?_ ?_ ?_ _ | refine mo_compDR ?_ ?_ ?_ ?_ _ | refine mo_forL (mo_asgT _) ?_ _ | refine mo_whileL ?_ ?_ _  | refine mo_andV ?_ _ | refine mo_orV ?_ _ | refine mo_thenS ?_ _ | refine mo_chn ?_ _  | refine mo_bind ?_ ?_ | refine mo_ite ?_ ?_ | intro _)
  | .callX ks n ix es => by
    have h1 := mE ix
    have h2 := mA es
    show Mo (evE G (.callX ks n ix es))
    unfold evE
    repeat' (first  | assumption  | exact mo_pure _ | exact mo_bad | exact mo_err _ | exact mo_lift _ | exact mo_liftB _ | exact mo_rdV _ | exact mo_rdL _ | exact mo_rdO _ | exact mo_rdB _ | exact mo_popR _ | exact mo_popAt _ _ | exact mo_callM _ _ _ | exact mo_callMO _ _ _ | exact mo_movR _  | exact mo_few _ | exact mo_itN _ _ | exact mo_boolOf _ | exact mo_truB _ | exact mo_crR _ | exact mo_crF _ | exact mo_sortL _ | exact mo_cat _ _ | exact mo_rep _ _  | exact mo_setR (mo_setV _ _) | exact mo_setR (mo_setO _ _) | exact mo_setR (mo_asgT _ _) | exact mo_setR (mo_modO _ _) | exact mo_setR (mo_modD _ _ _) | exact mo_setR (mo_setPs _ _) | exact mo_setR (moO_aug _ _)  | refine mo_compR ?_ ?_ ?_ _ | refine mo_compDR ?_ ?_ ?_ ?_ _ | refine mo_forL (mo_asgT _) ?_ _ | refine mo_whileL ?_ ?_ _  | refine mo_andV ?_ _ | refine mo_orV ?_ _ | refine mo_thenS ?_ _ | refine mo_chn ?_ _  | refine mo_bind ?_ ?_ | refine mo_ite ?_ ?_ | intro _)
  | .pop i => by
    show Mo (evE G (.pop i))
    unfold evE
    repeat' (first  | assumption  | exact mo_pure _ | exact mo_bad | exact mo_err _ | exact mo_lift _ | exact mo_liftB _ | exact mo_rdV _ | exact mo_rdL _ | exact mo_rdO _ | exact mo_rdB _ | exact mo_popR _ | exact mo_popAt _ _ | exact mo_callM _ _ _ | exact mo_callMO _ _ _ | exact mo_movR _  | exact mo_few _ | exact mo_itN _ _ | exact mo_boolOf _ | exact mo_truB _ | exact mo_crR _ | exact mo_crF _ | exact mo_sortL _ | exact mo_cat _ _ | exact mo_rep _ _  | exact mo_setR (mo_setV _ _) | exact mo_setR (mo_setO _ _) | exact mo_setR (mo_asgT _ _) | exact mo_setR (mo_modO _ _) | exact mo_setR (mo_modD _ _ _) | exact mo_setR (mo_setPs _ _) | exact mo_setR (moO_aug _ _)  | refine mo_compR ?_ ?_ ?_ _ | refine mo_compDR ?_ ?_ ?_ ?_ _ | refine mo_forL (mo_asgT _) ?_ _ | refine mo_whileL ?_ ?_ _  | refine mo_andV ?_ _ | refine mo_orV ?_ _ | refine mo_thenS ?_ _ | refine mo_chn ?_ _  | refine mo_bind ?_ ?_ | refine mo_ite ?_ ?_ | intro _)
  | .popAt i e => by
    have h1 := mE e
    show Mo (evE G (.popAt i e))
    unfold evE
    repeat' (first  | assumption  | exact mo_pure _ | exact mo_bad | exact mo_err _ | exact mo_lift _ | exact mo_liftB _ | exact mo_rdV _ | exact mo_rdL _ | exact mo_rdO _ | exact mo_rdB _ | exact mo_popR _ | exact mo_popAt _ _ | exact mo_callM _ _ _ | exact mo_callMO _ _ _ | exact mo_movR _  | exact mo_few _ | exact mo_itN _ _ | exact mo_boolOf _ | exact mo_truB _ | exact mo_crR _ | exact mo_crF _ | exact mo_sortL _ | exact mo_cat _ _ | exact mo_rep _ _  | exact mo_setR (mo_setV _ _) | exact mo_setR (mo_setO _ _) | exact mo_setR (mo_asgT _ _) | exact mo_setR (mo_modO _ _) | exact mo_setR (mo_modD _ _ _) | exact mo_setR (mo_setPs _ _) | exact mo_setR (moO_aug _ _)  | refine mo_compR ?_ ?_ ?_ _ | refine mo_compDR ?_ ?_ ?_ ?_ _ | refine mo_forL (mo_asgT _) ?_ _ | refine mo_whileL ?_ ?_ _  | refine mo_andV ?_ _ | refine mo_orV ?_ _ | refine mo_thenS ?_ _ | refine mo_chn ?_ _  | refine mo_bind ?_ ?_ | refine mo_ite ?_ ?_ | intro _)
  | .isin neg a l => by
    have h1 := mE a
    have h2 := mL l
    show Mo (evE G (.isin neg a l))
    unfold evE
    repeat' (first  | assumption  | exact mo_pure _ | exact mo_bad | exact mo_err _ | exact mo_lift _ | exact mo_liftB _ | exact mo_rdV _ | exact mo_rdL _ | exact mo_rdO _ | exact mo_rdB _ | exact mo_popR _ | exact mo_popAt _ _ | exact mo_callM _ _ _ | exact mo_callMO _ _ _ | exact mo_movR _  | exact mo_few _ | exact mo_itN _ _ | exact mo_boolOf _ | exact mo_truB _ | exact mo_crR _ | exact mo_crF _ | exact mo_sortL _ | exact mo_cat _ _ | exact mo_rep _ _  | exact mo_setR (mo_setV _ _) | exact mo_setR (mo_setO _ _) | exact mo_setR (mo_asgT _ _) | exact mo_setR (mo_modO _ _) | exact mo_setR (mo_modD _ _ _) | exact mo_setR (mo_setPs _ _) | exact mo_setR (moO_aug _ _)  | refine mo_compR ?_ ?_ ?_ _ | refine mo_compDR ?_ ?_ ?_ ?_ _ | refine mo_forL (mo_asgT _) ?_ _ | refine mo_whileL ?_ ?_ _  | refine mo_andV ?_ _ | refine mo_orV ?_ _ | refine mo_thenS ?_ _ | refine mo_chn ?_ _  | refine mo_bind ?_ ?_ | refine mo_ite ?_ ?_ | intro _)
  | .frD g => by
    have h1 := mG g
    show Mo (evE G (.frD g))
    unfold evE
    repeat' (first  | assumption  | exact mo_pure _ | exact mo_bad | exact mo_err _ | exact mo_lift _ | exact mo_liftB _ | exact mo_rdV _ | exact mo_rdL _ | exact mo_rdO _ | exact mo_rdB _ | exact mo_popR _ | exact mo_popAt _ _ | exact mo_callM _ _ _ | exact mo_callMO _ _ _ | exact mo_movR _  | exact mo_few _ | exact mo_itN _ _ | exact mo_boolOf _ | exact mo_truB _ | exact mo_crR _ | exact mo_crF _ | exact mo_sortL _ | exact mo_cat _ _ | exact mo_rep _ _  | exact mo_setR (mo_setV _ _) | exact mo_setR (mo_setO _ _) | exact mo_setR (mo_asgT _ _) | exact mo_setR (mo_modO _ _) | exact mo_setR (mo_modD _ _ _) | exact mo_setR (mo_setPs _ _) | exact mo_setR (moO_aug _ _)  | refine mo_compR ?_ ?_ ?_ _ | refine mo_compDR ?_ ?_ ?_ ?_ _ | refine mo_forL (mo_asgT _) ?_ _ | refine mo_whileL ?_ ?_ _  | refine mo_andV ?_ _ | refine mo_orV ?_ _ | refine mo_thenS ?_ _ | refine mo_chn ?_ _  | refine mo_bind ?_ ?_ | refine mo_ite ?_ ?_ | intro _)
  | .cmpV op i b => by
    have h1 := mE b
    show Mo (evE G (.cmpV op i b))
    unfold evE
    repeat' (first  | assumption  | exact mo_pure _ | exact mo_bad | exact mo_err _ | exact mo_lift _ | exact mo_liftB _ | exact mo_rdV _ | exact mo_rdL _ | exact mo_rdO _ | exact mo_rdB _ | exact mo_popR _ | exact mo_popAt _ _ | exact mo_callM _ _ _ | exact mo_callMO _ _ _ | exact mo_movR _  | exact mo_few _ | exact mo_itN _ _ | exact mo_boolOf _ | exact mo_truB _ | exact mo_crR _ | exact mo_crF _ | exact mo_sortL _ | exact mo_cat _ _ | exact mo_rep _ _  | exact mo_setR (mo_setV _ _) | exact mo_setR (mo_setO _ _) | exact mo_setR (mo_asgT _ _) | exact mo_setR (mo_modO _ _) | exact mo_setR (mo_modD _ _ _) | exact mo_setR (mo_setPs _ _) | exact mo_setR (moO_aug _ _)  | refine mo_compR ?_ ?_ ?_ _ | refine mo_compDR ?_ ?_ ?_ ?_ _ | refine mo_forL (mo_asgT _) ?_ _ | refine mo_whileL ?_ ?_ _  | refine mo_andV ?_ _ | refine mo_orV ?_ _ | refine mo_thenS ?_ _ | refine mo_chn ?_ _  | refine mo_bind ?_ ?_ | refine mo_ite ?_ ?_ | intro _)
  | .callMO k i j => by
    show Mo (evE G (.callMO k i j))
    unfold evE
    repeat' (first  | assumption  | exact mo_pure _ | exact mo_bad | exact mo_err _ | exact mo_lift _ | exact mo_liftB _ | exact mo_rdV _ | exact mo_rdL _ | exact mo_rdO _ | exact mo_rdB _ | exact mo_popR _ | exact mo_popAt _ _ | exact mo_callM _ _ _ | exact mo_callMO _ _ _ | exact mo_movR _  | exact mo_few _ | exact mo_itN _ _ | exact mo_boolOf _ | exact mo_truB _ | exact mo_crR _ | exact mo_crF _ | exact mo_sortL _ | exact mo_cat _ _ | exact mo_rep _ _  | exact mo_setR (mo_setV _ _) | exact mo_setR (mo_setO _ _) | exact mo_setR (mo_asgT _ _) | exact mo_setR (mo_modO _ _) | exact mo_setR (mo_modD _ _ _) | exact mo_setR (mo_setPs _ _) | exact mo_setR (moO_aug _ _)  | refine mo_compR ?_ ?_ ?_ _ | refine mo_compDR ?_ ?_ ?_ ?_ _ | refine mo_forL (mo_asgT _) ?_ _ | refine mo_whileL ?_ ?_ _  | refine mo_andV ?_ _ | refine mo_orV ?_ _ | refine mo_thenS ?_ _ | refine mo_chn ?_ _  | refine mo_bind ?_ ?_ | refine mo_ite ?_ ?_ | intro _)
  | .lenSS a => by
    have h1 := mL a
    show Mo (evE G (.lenSS a))
    unfold evE
    repeat' (first  | assumption  | exact mo_pure _ | exact mo_bad | exact mo_err _ | exact mo_lift _ | exact mo_liftB _ | exact mo_rdV _ | exact mo_rdL _ | exact mo_rdO _ | exact mo_rdB _ | exact mo_popR _ | exact mo_popAt _ _ | exact mo_callM _ _ _ | exact mo_callMO _ _ _ | exact mo_movR _  | exact mo_few _ | exact mo_itN _ _ | exact mo_boolOf _ | exact mo_truB _ | exact mo_crR _ | exact mo_crF _ | exact mo_sortL _ | exact mo_cat _ _ | exact mo_rep _ _  | exact mo_setR (mo_setV _ _) | exact mo_setR (mo_setO _ _) | exact mo_setR (mo_asgT _ _) | exact mo_setR (mo_modO _ _) | exact mo_setR (mo_modD _ _ _) | exact mo_setR (mo_setPs _ _) | exact mo_setR (moO_aug _ _)  | refine mo_compR ?_ ?_ ?_ _ | refine mo_compDR ?_ ?_ ?_ ?_ _ | refine mo_forL (mo_asgT _) ?_ _ | refine mo_whileL ?_ ?_ _  | refine mo_andV ?_ _ | refine mo_orV ?_ _ | refine mo_thenS ?_ _ | refine mo_chn ?_ _  | refine mo_bind ?_ ?_ | refine mo_ite ?_ ?_ | intro _)
  | .max3 a b e => by
    have h1 := mE a
    have h2 := mE b
    have h3 := mE e
    show Mo (evE G (.max3 a b e))
    unfold evE
    repeat' (first  | assumption  | exact mo_pure _ | exact mo_bad | exact mo_err _ | exact mo_lift _ | exact mo_liftB _ | exact mo_rdV _ | exact mo_rdL _ | exact mo_rdO _ | exact mo_rdB _ | exact mo_popR _ | exact mo_popAt _ _ | exact mo_callM _ _ _ | exact mo_callMO _ _ _ | exact mo_movR _  | exact mo_few _ | exact mo_itN _ _ | exact mo_boolOf _ | exact mo_truB _ | exact mo_crR _ | exact mo_crF _ | exact mo_sortL _ | exact mo_cat _ _ | exact mo_rep _ _  | exact mo_setR (mo_setV _ _) | exact mo_setR (mo_setO _ _) | exact mo_setR (mo_asgT _ _) | exact mo_setR (mo_modO _ _) | exact mo_setR (mo_modD _ _ _) | exact mo_setR (mo_setPs _ _) | exact mo_setR (moO_aug _ _)  | refine mo_compR ?_ ?_ ?_ _ | refine mo_compDR ?_ ?_ ?_ ?_ _ | refine mo_forL (mo_asgT _) ?_ _ | refine mo_whileL ?_ ?_ _  | refine mo_andV ?_ _ | refine mo_orV ?_ _ | refine mo_thenS ?_ _ | refine mo_chn ?_ _  | refine mo_bind ?_ ?_ | refine mo_ite ?_ ?_ | intro _)
theorem mL : ∀ x : L, Mo (evL G x)
  | .lk i => by
    show Mo (evL G (.lk i))
    unfold evL
    repeat' (first  | assumption  | exact mo_pure _ | exact mo_bad | exact mo_err _ | exact mo_lift _ | exact mo_liftB _ | exact mo_rdV _ | exact mo_rdL _ | exact mo_rdO _ | exact mo_rdB _ | exact mo_popR _ | exact mo_popAt _ _ | exact mo_callM _ _ _ | exact mo_callMO _ _ _ | exact mo_movR _  | exact mo_few _ | exact mo_itN _ _ | exact mo_boolOf _ | exact mo_truB _ | exact mo_crR _ | exact mo_crF _ | exact mo_sortL _ | exact mo_cat _ _ | exact mo_rep _ _  | exact mo_setR (mo_setV _ _) | exact mo_setR (mo_setO _ _) | exact mo_setR (mo_asgT _ _) | exact mo_setR (mo_modO _ _) | exact mo_setR (mo_modD _ _ _) | exact mo_setR (mo_setPs _ _) | exact mo_setR (moO_aug _ _)  | refine mo_compR ?_ ?_ ?_ _ | refine mo_compDR ?_ ?_ ?_ ?_ _ | refine mo_forL (mo_asgT _) ?_ _ | refine mo_whileL ?_ ?_ _  | refine mo_andV ?_ _ | refine mo_orV ?_ _ | refine mo_thenS ?_ _ | refine mo_chn ?_ _  | refine mo_bind ?_ ?_ | refine mo_ite ?_ ?_ | intro _)
  | .vl e => by
    have h1 := mE e
    show Mo (evL G (.vl e))
    unfold evL
    repeat' (first  | assumption  | exact mo_pure _ | exact mo_bad | exact mo_err _ | exact mo_lift _ | exact mo_liftB _ | exact mo_rdV _ | exact mo_rdL _ | exact mo_rdO _ | exact mo_rdB _ | exact mo_popR _ | exact mo_popAt _ _ | exact mo_callM _ _ _ | exact mo_callMO _ _ _ | exact mo_movR _  | exact mo_few _ | exact mo_itN _ _ | exact mo_boolOf _ | exact mo_truB _ | exact mo_crR _ | exact mo_crF _ | exact mo_sortL _ | exact mo_cat _ _ | exact mo_rep _ _  | exact mo_setR (mo_setV _ _) | exact mo_setR (mo_setO _ _) | exact mo_setR (mo_asgT _ _) | exact mo_setR (mo_modO _ _) | exact mo_setR (mo_modD _ _ _) | exact mo_setR (mo_setPs _ _) | exact mo_setR (moO_aug _ _)  | refine mo_compR ?_ ?_ ?_ _ | refine mo_compDR ?_ ?_ ?_ ?_ _ | refine mo_forL (mo_asgT _) ?_ _ | refine mo_whileL ?_ ?_ _  | refine mo_andV ?_ _ | refine mo_orV ?_ _ | refine mo_thenS ?_ _ | refine mo_chn ?_ _  | refine mo_bind ?_ ?_ | refine mo_ite ?_ ?_ | intro _)
theorem mAnd : ∀ x : Vs, Mo (evAnd G x)
  | .one e => by
    have h1 := mE e
    show Mo (evAnd G (.one e))
    unfold evAnd
    repeat' (first  | assumption  | exact mo_pure _ | exact mo_bad | exact mo_err _ | exact mo_lift _ | exact mo_liftB _ | exact mo_rdV _ | exact mo_rdL _ | exact mo_rdO _ | exact mo_rdB _ | exact mo_popR _ | exact mo_popAt _ _ | exact mo_callM _ _ _ | exact mo_callMO _ _ _ | exact mo_movR _  | exact mo_few _ | exact mo_itN _ _ | exact mo_boolOf _ | exact mo_truB _ | exact mo_crR _ | exact mo_crF _ | exact mo_sortL _ | exact mo_cat _ _ | exact mo_rep _ _  | exact mo_setR (mo_setV _ _) | exact mo_setR (mo_setO _ _) | exact mo_setR (mo_asgT _ _) | exact mo_setR (mo_modO _ _) | exact mo_setR (mo_modD _ _ _) | exact mo_setR (mo_setPs _ _) | exact mo_setR (moO_aug _ _)  | refine mo_compR ?_ ?_ ?_ _ | refine mo_compDR ?_ ?_ ?_ ?_ _ | refine mo_forL (mo_asgT _) ?_ _ | refine mo_whileL ?_ ?_ _  | refine mo_andV ?_ _ | refine mo_orV ?_ _ | refine mo_thenS ?_ _ | refine mo_chn ?_ _  | refine mo_bind ?_ ?_ | refine mo_ite ?_ ?_ | intro _)
  | .more e v => by
    have h1 := mE e
    have h2 := mAnd v
    show Mo (evAnd G (.more e v))
    unfold evAnd
    repeat' (first  | assumption  | exact mo_pure _ | exact mo_bad | exact mo_err _ | exact mo_lift _ | exact mo_liftB _ | exact mo_rdV _ | exact mo_rdL _ | exact mo_rdO _ | exact mo_rdB _ | exact mo_popR _ | exact mo_popAt _ _ | exact mo_callM _ _ _ | exact mo_callMO _ _ _ | exact mo_movR _  | exact mo_few _ | exact mo_itN _ _ | exact mo_boolOf _ | exact mo_truB _ | exact mo_crR _ | exact mo_crF _ | exact mo_sortL _ | exact mo_cat _ _ | exact mo_rep _ _  | exact mo_setR (mo_setV _ _) | exact mo_setR (mo_setO _ _) | exact mo_setR (mo_asgT _ _) | exact mo_setR (mo_modO _ _) | exact mo_setR (mo_modD _ _ _) | exact mo_setR (mo_setPs _ _) | exact mo_setR (moO_aug _ _)  | refine mo_compR ?_ ?_ ?_ _ | refine mo_compDR ?_ ?_ ?_ ?_ _ | refine mo_forL (mo_asgT _) ?_ _ | refine mo_whileL ?_ ?_ _  | refine mo_andV ?_ _ | refine mo_orV ?_ _ | refine mo_thenS ?_ _ | refine mo_chn ?_ _  | refine mo_bind ?_ ?_ | refine mo_ite ?_ ?_ | intro _)
theorem mOr : ∀ x : Vs, Mo (evOr G x)
  | .one e => by
    have h1 := mE e
    show Mo (evOr G (.one e))
    unfold evOr
    repeat' (first  | assumption  | exact mo_pure _ | exact mo_bad | exact mo_err _ | exact mo_lift _ | exact mo_liftB _ | exact mo_rdV _ | exact mo_rdL _ | exact mo_rdO _ | exact mo_rdB _ | exact mo_popR _ | exact mo_popAt _ _ | exact mo_callM _ _ _ | exact mo_callMO _ _ _ | exact mo_movR _  | exact mo_few _ | exact mo_itN _ _ | exact mo_boolOf _ | exact mo_truB _ | exact mo_crR _ | exact mo_crF _ | exact mo_sortL _ | exact mo_cat _ _ | exact mo_rep _ _  | exact mo_setR (mo_setV _ _) | exact mo_setR (mo_setO _ _) | exact mo_setR (mo_asgT _ _) | exact mo_setR (mo_modO _ _) | exact mo_setR (mo_modD _ _ _) | exact mo_setR (mo_setPs _ _) | exact mo_setR (moO_aug _ _)  | refine mo_compR ?_ ?_ ?_ _ | refine mo_compDR ?_ ?_ ?_ ?_ _ | refine mo_forL (mo_asgT _) ?_ _ | refine mo_whileL ?_ ?_ _  | refine mo_andV ?_ _ | refine mo_orV ?_ _ | refine mo_thenS ?_ _ | refine mo_chn ?_ _  | refine mo_bind ?_ ?_ | refine mo_ite ?_ ?_ | intro _)
  | .more e v => by
    have h1 := mE e
    have h2 := mOr v
    show Mo (evOr G (.more e v))
    unfold evOr
    repeat' (first  | assumption  | exact mo_pure _ | exact mo_bad | exact mo_err _ | exact mo_lift _ | exact mo_liftB _ | exact mo_rdV _ | exact mo_rdL _ | exact mo_rdO _ | exact mo_rdB _ | exact mo_popR _ | exact mo_popAt _ _ | exact mo_callM _ _ _ | exact mo_callMO _ _ _ | exact mo_movR _  | exact mo_few _ | exact mo_itN _ _ | exact mo_boolOf _ | exact mo_truB _ | exact mo_crR _ | exact mo_crF _ | exact mo_sortL _ | exact mo_cat _ _ | exact mo_rep _ _  | exact mo_setR (mo_setV _ _) | exact mo_setR (mo_setO _ _) | exact mo_setR (mo_asgT _ _) | exact mo_setR (mo_modO _ _) | exact mo_setR (mo_modD _ _ _) | exact mo_setR (mo_setPs _ _) | exact mo_setR (moO_aug _ _)  | refine mo_compR ?_ ?_ ?_ _ | refine mo_compDR ?_ ?_ ?_ ?_ _ | refine mo_forL (mo_asgT _) ?_ _ | refine mo_whileL ?_ ?_ _  | refine mo_andV ?_ _ | refine mo_orV ?_ _ | refine mo_thenS ?_ _ | refine mo_chn ?_ _  | refine mo_bind ?_ ?_ | refine mo_ite ?_ ?_ | intro _)
theorem mB : ∀ x : B, Mo (evB G x)
  | .cmp op a b => by
    have h1 := mE a
    have h2 := mE b
    show Mo (evB G (.cmp op a b))
    unfold evB
    repeat' (first  | assumption  | exact mo_pure _ | exact mo_bad | exact mo_err _ | exact mo_lift _ | exact mo_liftB _ | exact mo_rdV _ | exact mo_rdL _ | exact mo_rdO _ | exact mo_rdB _ | exact mo_popR _ | exact mo_popAt _ _ | exact mo_callM _ _ _ | exact mo_callMO _ _ _ | exact mo_movR _  | exact mo_few _ | exact mo_itN _ _ | exact mo_boolOf _ | exact mo_truB _ | exact mo_crR _ | exact mo_crF _ | exact mo_sortL _ | exact mo_cat _ _ | exact mo_rep _ _  | exact mo_setR (mo_setV _ _) | exact mo_setR (mo_setO _ _) | exact mo_setR (mo_asgT _ _) | exact mo_setR (mo_modO _ _) | exact mo_setR (mo_modD _ _ _) | exact mo_setR (mo_setPs _ _) | exact mo_setR (moO_aug _ _)  | refine mo_compR ?_ ?_ ?_ _ | refine mo_compDR ?_ ?_ ?_ ?_ _ | refine mo_forL (mo_asgT _) ?_ _ | refine mo_whileL ?_ ?_ _  | refine mo_andV ?_ _ | refine mo_orV ?_ _ | refine mo_thenS ?_ _ | refine mo_chn ?_ _  | refine mo_bind ?_ ?_ | refine mo_ite ?_ ?_ | intro _)
  | .chn op op2 a b e => by
    have h1 := mE a
    have h2 := mE b
    have h3 := mE e
    show Mo (evB G (.chn op op2 a b e))
    unfold evB
    repeat' (first  | assumption  | exact mo_pure _ | exact mo_bad | exact mo_err _ | exact mo_lift _ | exact mo_liftB _ | exact mo_rdV _ | exact mo_rdL _ | exact mo_rdO _ | exact mo_rdB _ | exact mo_popR _ | exact mo_popAt _ _ | exact mo_callM _ _ _ | exact mo_callMO _ _ _ | exact mo_movR _  | exact mo_few _ | exact mo_itN _ _ | exact mo_boolOf _ | exact mo_truB _ | exact mo_crR _ | exact mo_crF _ | exact mo_sortL _ | exact mo_cat _ _ | exact mo_rep _ _  | exact mo_setR (mo_setV _ _) | exact mo_setR (mo_setO _ _) | exact mo_setR (mo_asgT _ _) | exact mo_setR (mo_modO _ _) | exact mo_setR (mo_modD _ _ _) | exact mo_setR (mo_setPs _ _) | exact mo_setR (moO_aug _ _)  | refine mo_compR ?_ ?_ ?_ _ | refine mo_compDR ?_ ?_ ?_ ?_ _ | refine mo_forL (mo_asgT _) ?_ _ | refine mo_whileL ?_ ?_ _  | refine mo_andV ?_ _ | refine mo_orV ?_ _ | refine mo_thenS ?_ _ | refine mo_chn ?_ _  | refine mo_bind ?_ ?_ | refine mo_ite ?_ ?_ | intro _)
  | .and w => by
    have h1 := mWA w
    show Mo (evB G (.and w))
    unfold evB
    repeat' (first  | assumption  | exact mo_pure _ | exact mo_bad | exact mo_err _ | exact mo_lift _ | exact mo_liftB _ | exact mo_rdV _ | exact mo_rdL _ | exact mo_rdO _ | exact mo_rdB _ | exact mo_popR _ | exact mo_popAt _ _ | exact mo_callM _ _ _ | exact mo_callMO _ _ _ | exact mo_movR _  | exact mo_few _ | exact mo_itN _ _ | exact mo_boolOf _ | exact mo_truB _ | exact mo_crR _ | exact mo_crF _ | exact mo_sortL _ | exact mo_cat _ _ | exact mo_rep _ _  | exact mo_setR (mo_setV _ _) | exact mo_setR (mo_setO _ _) | exact mo_setR (mo_asgT _ _) | exact mo_setR (mo_modO _ _) | exact mo_setR (mo_modD _ _ _) | exact mo_setR (mo_setPs _ _) | exact mo_setR (moO_aug _ _)  | refine mo_compR ?_ ?_ ?_ _ | refine mo_compDR ?_ ?_ ?_ ?_ _ | refine mo_forL (mo_asgT _) ?_ _ | refine mo_whileL ?_ ?_ _  | refine mo_andV ?_ _ | refine mo_orV ?_ _ | refine mo_thenS ?_ _ | refine mo_chn ?_ _  | refine mo_bind ?_ ?_ | refine mo_ite ?_ ?_ | intro _)
  | .or w => by
    have h1 := mWO w
    show Mo (evB G (.or w))
    unfold evB
    repeat' (first  | assumption  | exact mo_pure _ | exact mo_bad | exact mo_err _ | exact mo_lift _ | exact mo_liftB _ | exact mo_rdV _ | exact mo_rdL _ | exact mo_rdO _ | exact mo_rdB _ | exact mo_popR _ | exact mo_popAt _ _ | exact mo_callM _ _ _ | exact mo_callMO _ _ _ | exact mo_movR _  | exact mo_few _ | exact mo_itN _ _ | exact mo_boolOf _ | exact mo_truB _ | exact mo_crR _ | exact mo_crF _ | exact mo_sortL _ | exact mo_cat _ _ | exact mo_rep _ _  | exact mo_setR (mo_setV _ _) | exact mo_setR (mo_setO _ _) | exact mo_setR (mo_asgT _ _) | exact mo_setR (mo_modO _ _) | exact mo_setR (mo_modD _ _ _) | exact mo_setR (mo_setPs _ _) | exact mo_setR (moO_aug _ _)  | refine mo_compR ?_ ?_ ?_ _ | refine mo_compDR ?_ ?_ ?_ ?_ _ | refine mo_forL (mo_asgT _) ?_ _ | refine mo_whileL ?_ ?_ _  | refine mo_andV ?_ _ | refine mo_orV ?_ _ | refine mo_thenS ?_ _ | refine mo_chn ?_ _  | refine mo_bind ?_ ?_ | refine mo_ite ?_ ?_ | intro _)
  | .not b => by
    have h1 := mB b
    show Mo (evB G (.not b))
    unfold evB
    repeat' (first  | assumption  | exact mo_pure _ | exact mo_bad | exact mo_err _ | exact mo_lift _ | exact mo_liftB _ | exact mo_rdV _ | exact mo_rdL _ | exact mo_rdO _ | exact mo_rdB _ | exact mo_popR _ | exact mo_popAt _ _ | exact mo_callM _ _ _ | exact mo_callMO _ _ _ | exact mo_movR _  | exact mo_few _ | exact mo_itN _ _ | exact mo_boolOf _ | exact mo_truB _ | exact mo_crR _ | exact mo_crF _ | exact mo_sortL _ | exact mo_cat _ _ | exact mo_rep _ _  | exact mo_setR (mo_setV _ _) | exact mo_setR (mo_setO _ _) | exact mo_setR (mo_asgT _ _) | exact mo_setR (mo_modO _ _) | exact mo_setR (mo_modD _ _ _) | exact mo_setR (mo_setPs _ _) | exact mo_setR (moO_aug _ _)  | refine mo_compR ?_ ?_ ?_ _ | refine mo_compDR ?_ ?_ ?_ ?_ _ | refine mo_forL (mo_asgT _) ?_ _ | refine mo_whileL ?_ ?_ _  | refine mo_andV ?_ _ | refine mo_orV ?_ _ | refine mo_thenS ?_ _ | refine mo_chn ?_ _  | refine mo_bind ?_ ?_ | refine mo_ite ?_ ?_ | intro _)
  | .tr a => by
    have h1 := mL a
    show Mo (evB G (.tr a))
    unfold evB
    repeat' (first  | assumption  | exact mo_pure _ | exact mo_bad | exact mo_err _ | exact mo_lift _ | exact mo_liftB _ | exact mo_rdV _ | exact mo_rdL _ | exact mo_rdO _ | exact mo_rdB _ | exact mo_popR _ | exact mo_popAt _ _ | exact mo_callM _ _ _ | exact mo_callMO _ _ _ | exact mo_movR _  | exact mo_few _ | exact mo_itN _ _ | exact mo_boolOf _ | exact mo_truB _ | exact mo_crR _ | exact mo_crF _ | exact mo_sortL _ | exact mo_cat _ _ | exact mo_rep _ _  | exact mo_setR (mo_setV _ _) | exact mo_setR (mo_setO _ _) | exact mo_setR (mo_asgT _ _) | exact mo_setR (mo_modO _ _) | exact mo_setR (mo_modD _ _ _) | exact mo_setR (mo_setPs _ _) | exact mo_setR (moO_aug _ _)  | refine mo_compR ?_ ?_ ?_ _ | refine mo_compDR ?_ ?_ ?_ ?_ _ | refine mo_forL (mo_asgT _) ?_ _ | refine mo_whileL ?_ ?_ _  | refine mo_andV ?_ _ | refine mo_orV ?_ _ | refine mo_thenS ?_ _ | refine mo_chn ?_ _  | refine mo_bind ?_ ?_ | refine mo_ite ?_ ?_ | intro _)
  | .isin neg a l => by
    have h1 := mE a
    have h2 := mL l
    show Mo (evB G (.isin neg a l))
    unfold evB
    repeat' (first  | assumption  | exact mo_pure _ | exact mo_bad | exact mo_err _ | exact mo_lift _ | exact mo_liftB _ | exact mo_rdV _ | exact mo_rdL _ | exact mo_rdO _ | exact mo_rdB _ | exact mo_popR _ | exact mo_popAt _ _ | exact mo_callM _ _ _ | exact mo_callMO _ _ _ | exact mo_movR _  | exact mo_few _ | exact mo_itN _ _ | exact mo_boolOf _ | exact mo_truB _ | exact mo_crR _ | exact mo_crF _ | exact mo_sortL _ | exact mo_cat _ _ | exact mo_rep _ _  | exact mo_setR (mo_setV _ _) | exact mo_setR (mo_setO _ _) | exact mo_setR (mo_asgT _ _) | exact mo_setR (mo_modO _ _) | exact mo_setR (mo_modD _ _ _) | exact mo_setR (mo_setPs _ _) | exact mo_setR (moO_aug _ _)  | refine mo_compR ?_ ?_ ?_ _ | refine mo_compDR ?_ ?_ ?_ ?_ _ | refine mo_forL (mo_asgT _) ?_ _ | refine mo_whileL ?_ ?_ _  | refine mo_andV ?_ _ | refine mo_orV ?_ _ | refine mo_thenS ?_ _ | refine mo_chn ?_ _  | refine mo_bind ?_ ?_ | refine mo_ite ?_ ?_ | intro _)
  | .cmpV op i b => by
    have h1 := mE b
    show Mo (evB G (.cmpV op i b))
    unfold evB
    repeat' (first  | assumption  | exact mo_pure _ | exact mo_bad | exact mo_err _ | exact mo_lift _ | exact mo_liftB _ | exact mo_rdV _ | exact mo_rdL _ | exact mo_rdO _ | exact mo_rdB _ | exact mo_popR _ | exact mo_popAt _ _ | exact mo_callM _ _ _ | exact mo_callMO _ _ _ | exact mo_movR _  | exact mo_few _ | exact mo_itN _ _ | exact mo_boolOf _ | exact mo_truB _ | exact mo_crR _ | exact mo_crF _ | exact mo_sortL _ | exact mo_cat _ _ | exact mo_rep _ _  | exact mo_setR (mo_setV _ _) | exact mo_setR (mo_setO _ _) | exact mo_setR (mo_asgT _ _) | exact mo_setR (mo_modO _ _) | exact mo_setR (mo_modD _ _ _) | exact mo_setR (mo_setPs _ _) | exact mo_setR (moO_aug _ _)  | refine mo_compR ?_ ?_ ?_ _ | refine mo_compDR ?_ ?_ ?_ ?_ _ | refine mo_forL (mo_asgT _) ?_ _ | refine mo_whileL ?_ ?_ _  | refine mo_andV ?_ _ | refine mo_orV ?_ _ | refine mo_thenS ?_ _ | refine mo_chn ?_ _  | refine mo_bind ?_ ?_ | refine mo_ite ?_ ?_ | intro _)
theorem mWA : ∀ x : Ws, Mo (evWA G x)
  | .one b => by
    have h1 := mB b
    show Mo (evWA G (.one b))
    unfold evWA
    repeat' (first  | assumption  | exact mo_pure _ | exact mo_bad | exact mo_err _ | exact mo_lift _ | exact mo_liftB _ | exact mo_rdV _ | exact mo_rdL _ | exact mo_rdO _ | exact mo_rdB _ | exact mo_popR _ | exact mo_popAt _ _ | exact mo_callM _ _ _ | exact mo_callMO _ _ _ | exact mo_movR _  | exact mo_few _ | exact mo_itN _ _ | exact mo_boolOf _ | exact mo_truB _ | exact mo_crR _ | exact mo_crF _ | exact mo_sortL _ | exact mo_cat _ _ | exact mo_rep _ _  | exact mo_setR (mo_setV _ _) | exact mo_setR (mo_setO _ _) | exact mo_setR (mo_asgT _ _) | exact mo_setR (mo_modO _ _) | exact mo_setR (mo_modD _ _ _) | exact mo_setR (mo_setPs _ _) | exact mo_setR (moO_aug _ _)  | refine mo_compR ?_ ?_ ?_ _ | refine mo_compDR ?_ ?_ ?_ ?_ _ | refine mo_forL (mo_asgT _) ?_ _ | refine mo_whileL ?_ ?_ _  | refine mo_andV ?_ _ | refine mo_orV ?_ _ | refine mo_thenS ?_ _ | refine mo_chn ?_ _  | refine mo_bind ?_ ?_ | refine mo_ite ?_ ?_ | intro _)
  | .more b w => by
    have h1 := mB b
    have h2 := mWA w
    show Mo (evWA G (.more b w))
    unfold evWA
    repeat' (first  | assumption  | exact mo_pure _ | exact mo_bad | exact mo_err _ | exact mo_lift _ | exact mo_liftB _ | exact mo_rdV _ | exact mo_rdL _ | exact mo_rdO _ | exact mo_rdB _ | exact mo_popR _ | exact mo_popAt _ _ | exact mo_callM _ _ _ | exact mo_callMO _ _ _ | exact mo_movR _  | exact mo_few _ | exact mo_itN _ _ | exact mo_boolOf _ | exact mo_truB _ | exact mo_crR _ | exact mo_crF _ | exact mo_sortL _ | exact mo_cat _ _ | exact mo_rep _ _  | exact mo_setR (mo_setV _ _) | exact mo_setR (mo_setO _ _) | exact mo_setR (mo_asgT _ _) | exact mo_setR (mo_modO _ _) | exact mo_setR (mo_modD _ _ _) | exact mo_setR (mo_setPs _ _) | exact mo_setR (moO_aug _ _)  | refine mo_compR ?_ ?_ ?_ _ | refine mo_compDR ?_ ?_ ?_ ?_ _ | refine mo_forL (mo_asgT _) ?_ _ | refine mo_whileL ?_ ?_ _  | refine mo_andV ?_ _ | refine mo_orV ?_ _ | refine mo_thenS ?_ _ | refine mo_chn ?_ _  | refine mo_bind ?_ ?_ | refine mo_ite ?_ ?_ | intro _)
theorem mWO : ∀ x : Ws, Mo (evWO G x)
  | .one b => by
    have h1 := mB b
    show Mo (evWO G (.one b))
    unfold evWO
    repeat' (first  | assumption  | exact mo_pure _ | exact mo_bad | exact mo_err _ | exact mo_lift _ | exact mo_liftB _ | exact mo_rdV _ | exact mo_rdL _ | exact mo_rdO _ | exact mo_rdB _ | exact mo_popR _ | exact mo_popAt _ _ | exact mo_callM _ _ _ | exact mo_callMO _ _ _ | exact mo_movR _  | exact mo_few _ | exact mo_itN _ _ | exact mo_boolOf _ | exact mo_truB _ | exact mo_crR _ | exact mo_crF _ | exact mo_sortL _ | exact mo_cat _ _ | exact mo_rep _ _  | exact mo_setR (mo_setV _ _) | exact mo_setR (mo_setO _ _) | exact mo_setR (mo_asgT _ _) | exact mo_setR (mo_modO _ _) | exact mo_setR (mo_modD _ _ _) | exact mo_setR (mo_setPs _ _) | exact mo_setR (moO_aug _ _)  | refine mo_compR ?_ ?_ ?_ _ | refine mo_compDR ?_ ?_ ?_ ?_ _ | refine mo_forL (mo_asgT _) ?_ _ | refine mo_whileL ?_ ?_ _  | refine mo_andV ?_ _ | refine mo_orV ?_ _ | refine mo_thenS ?_ _ | refine mo_chn ?_ _  | refine mo_bind ?_ ?_ | refine mo_ite ?_ ?_ | intro _)
  | .more b w => by
    have h1 := mB b
    have h2 := mWO w
    show Mo (evWO G (.more b w))
    unfold evWO
    repeat' (first  | assumption  | exact mo_pure _ | exact mo_bad | exact mo_err _ | exact mo_lift _ | exact mo_liftB _ | exact mo_rdV _ | exact mo_rdL _ | exact mo_rdO _ | exact mo_rdB _ | exact mo_popR _ | exact mo_popAt _ _ | exact mo_callM _ _ _ | exact mo_callMO _ _ _ | exact mo_movR _  | exact mo_few _ | exact mo_itN _ _ | exact mo_boolOf _ | exact mo_truB _ | exact mo_crR _ | exact mo_crF _ | exact mo_sortL _ | exact mo_cat _ _ | exact mo_rep _ _  | exact mo_setR (mo_setV _ _) | exact mo_setR (mo_setO _ _) | exact mo_setR (mo_asgT _ _) | exact mo_setR (mo_modO _ _) | exact mo_setR (mo_modD _ _ _) | exact mo_setR (mo_setPs _ _) | exact mo_setR (moO_aug _ _)  | refine mo_compR ?_ ?_ ?_ _ | refine mo_compDR ?_ ?_ ?_ ?_ _ | refine mo_forL (mo_asgT _) ?_ _ | refine mo_whileL ?_ ?_ _  | refine mo_andV ?_ _ | refine mo_orV ?_ _ | refine mo_thenS ?_ _ | refine mo_chn ?_ _  | refine mo_bind ?_ ?_ | refine mo_ite ?_ ?_ | intro _)
theorem mO : ∀ x : O, Mo (evO G x)
  | .no => by
    show Mo (evO G (.no))
    unfold evO
    repeat' (first  | assumption  | exact mo_pure _ | exact mo_bad | exact mo_err _ | exact mo_lift _ | exact mo_liftB _ | exact mo_rdV _ | exact mo_rdL _ | exact mo_rdO _ | exact mo_rdB _ | exact mo_popR _ | exact mo_popAt _ _ | exact mo_callM _ _ _ | exact mo_callMO _ _ _ | exact mo_movR _  | exact mo_few _ | exact mo_itN _ _ | exact mo_boolOf _ | exact mo_truB _ | exact mo_crR _ | exact mo_crF _ | exact mo_sortL _ | exact mo_cat _ _ | exact mo_rep _ _  | exact mo_setR (mo_setV _ _) | exact mo_setR (mo_setO _ _) | exact mo_setR (mo_asgT _ _) | exact mo_setR (mo_modO _ _) | exact mo_setR (mo_modD _ _ _) | exact mo_setR (mo_setPs _ _) | exact mo_setR (moO_aug _ _)  | refine mo_compR ?_ ?_ ?_ _ | refine mo_compDR ?_ ?_ ?_ ?_ _ | refine mo_forL (mo_asgT _) ?_ _ | refine mo_whileL ?_ ?_ _  | refine mo_andV ?_ _ | refine mo_orV ?_ _ | refine mo_thenS ?_ _ | refine mo_chn ?_ _  | refine mo_bind ?_ ?_ | refine mo_ite ?_ ?_ | intro _)
  | .so e => by
    have h1 := mE e
    show Mo (evO G (.so e))
    unfold evO
    repeat' (first  | assumption  | exact mo_pure _ | exact mo_bad | exact mo_err _ | exact mo_lift _ | exact mo_liftB _ | exact mo_rdV _ | exact mo_rdL _ | exact mo_rdO _ | exact mo_rdB _ | exact mo_popR _ | exact mo_popAt _ _ | exact mo_callM _ _ _ | exact mo_callMO _ _ _ | exact mo_movR _  | exact mo_few _ | exact mo_itN _ _ | exact mo_boolOf _ | exact mo_truB _ | exact mo_crR _ | exact mo_crF _ | exact mo_sortL _ | exact mo_cat _ _ | exact mo_rep _ _  | exact mo_setR (mo_setV _ _) | exact mo_setR (mo_setO _ _) | exact mo_setR (mo_asgT _ _) | exact mo_setR (mo_modO _ _) | exact mo_setR (mo_modD _ _ _) | exact mo_setR (mo_setPs _ _) | exact mo_setR (moO_aug _ _)  | refine mo_compR ?_ ?_ ?_ _ | refine mo_compDR ?_ ?_ ?_ ?_ _ | refine mo_forL (mo_asgT _) ?_ _ | refine mo_whileL ?_ ?_ _  | refine mo_andV ?_ _ | refine mo_orV ?_ _ | refine mo_thenS ?_ _ | refine mo_chn ?_ _  | refine mo_bind ?_ ?_ | refine mo_ite ?_ ?_ | intro _)
theorem mA : ∀ x : A, Mo (evA G x)
  | .nil => by
    show Mo (evA G (.nil))
    unfold evA
    repeat' (first  | assumption  | exact mo_pure _ | exact mo_bad | exact mo_err _ | exact mo_lift _ | exact mo_liftB _ | exact mo_rdV _ | exact mo_rdL _ | exact mo_rdO _ | exact mo_rdB _ | exact mo_popR _ | exact mo_popAt _ _ | exact mo_callM _ _ _ | exact mo_callMO _ _ _ | exact mo_movR _  | exact mo_few _ | exact mo_itN _ _ | exact mo_boolOf _ | exact mo_truB _ | exact mo_crR _ | exact mo_crF _ | exact mo_sortL _ | exact mo_cat _ _ | exact mo_rep _ _  | exact mo_setR (mo_setV _ _) | exact mo_setR (mo_setO _ _) | exact mo_setR (mo_asgT _ _) | exact mo_setR (mo_modO _ _) | exact mo_setR (mo_modD _ _ _) | exact mo_setR (mo_setPs _ _) | exact mo_setR (moO_aug _ _)  | refine mo_compR ?_ ?_ ?_ _ | refine mo_compDR ?_ ?_ ?_ ?_ _ | refine mo_forL (mo_asgT _) ?_ _ | refine mo_whileL ?_ ?_ _  | refine mo_andV ?_ _ | refine mo_orV ?_ _ | refine mo_thenS ?_ _ | refine mo_chn ?_ _  | refine mo_bind ?_ ?_ | refine mo_ite ?_ ?_ | intro _)
  | .cons e es => by
    have h1 := mE e
    have h2 := mA es
    show Mo (evA G (.cons e es))
    unfold evA
    repeat' (first  | assumption  | exact mo_pure _ | exact mo_bad | exact mo_err _ | exact mo_lift _ | exact mo_liftB _ | exact mo_rdV _ | exact mo_rdL _ | exact mo_rdO _ | exact mo_rdB _ | exact mo_popR _ | exact mo_popAt _ _ | exact mo_callM _ _ _ | exact mo_callMO _ _ _ | exact mo_movR _  | exact mo_few _ | exact mo_itN _ _ | exact mo_boolOf _ | exact mo_truB _ | exact mo_crR _ | exact mo_crF _ | exact mo_sortL _ | exact mo_cat _ _ | exact mo_rep _ _  | exact mo_setR (mo_setV _ _) | exact mo_setR (mo_setO _ _) | exact mo_setR (mo_asgT _ _) | exact mo_setR (mo_modO _ _) | exact mo_setR (mo_modD _ _ _) | exact mo_setR (mo_setPs _ _) | exact mo_setR (moO_aug _ _)  | refine mo_compR ?_ ?_ ?_ _ | refine mo_compDR ?_ ?_ ?_ ?_ _ | refine mo_forL (mo_asgT _) ?_ _ | refine mo_whileL ?_ ?_ _  | refine mo_andV ?_ _ | refine mo_orV ?_ _ | refine mo_thenS ?_ _ | refine mo_chn ?_ _  | refine mo_bind ?_ ?_ | refine mo_ite ?_ ?_ | intro _)
theorem mF : ∀ x : F, Mo (evF G x)
  | .lst es => by
    have h1 := mA es
    show Mo (evF G (.lst es))
    unfold evF
    repeat' (first  | assumption  | exact mo_pure _ | exact mo_bad | exact mo_err _ | exact mo_lift _ | exact mo_liftB _ | exact mo_rdV _ | exact mo_rdL _ | exact mo_rdO _ | exact mo_rdB _ | exact mo_popR _ | exact mo_popAt _ _ | exact mo_callM _ _ _ | exact mo_callMO _ _ _ | exact mo_movR _  | exact mo_few _ | exact mo_itN _ _ | exact mo_boolOf _ | exact mo_truB _ | exact mo_crR _ | exact mo_crF _ | exact mo_sortL _ | exact mo_cat _ _ | exact mo_rep _ _  | exact mo_setR (mo_setV _ _) | exact mo_setR (mo_setO _ _) | exact mo_setR (mo_asgT _ _) | exact mo_setR (mo_modO _ _) | exact mo_setR (mo_modD _ _ _) | exact mo_setR (mo_setPs _ _) | exact mo_setR (moO_aug _ _)  | refine mo_compR ?_ ?_ ?_ _ | refine mo_compDR ?_ ?_ ?_ ?_ _ | refine mo_forL (mo_asgT _) ?_ _ | refine mo_whileL ?_ ?_ _  | refine mo_andV ?_ _ | refine mo_orV ?_ _ | refine mo_thenS ?_ _ | refine mo_chn ?_ _  | refine mo_bind ?_ ?_ | refine mo_ite ?_ ?_ | intro _)
  | .listOf a => by
    have h1 := mL a
    show Mo (evF G (.listOf a))
    unfold evF
    repeat' (first  | assumption  | exact mo_pure _ | exact mo_bad | exact mo_err _ | exact mo_lift _ | exact mo_liftB _ | exact mo_rdV _ | exact mo_rdL _ | exact mo_rdO _ | exact mo_rdB _ | exact mo_popR _ | exact mo_popAt _ _ | exact mo_callM _ _ _ | exact mo_callMO _ _ _ | exact mo_movR _  | exact mo_few _ | exact mo_itN _ _ | exact mo_boolOf _ | exact mo_truB _ | exact mo_crR _ | exact mo_crF _ | exact mo_sortL _ | exact mo_cat _ _ | exact mo_rep _ _  | exact mo_setR (mo_setV _ _) | exact mo_setR (mo_setO _ _) | exact mo_setR (mo_asgT _ _) | exact mo_setR (mo_modO _ _) | exact mo_setR (mo_modD _ _ _) | exact mo_setR (mo_setPs _ _) | exact mo_setR (moO_aug _ _)  | refine mo_compR ?_ ?_ ?_ _ | refine mo_compDR ?_ ?_ ?_ ?_ _ | refine mo_forL (mo_asgT _) ?_ _ | refine mo_whileL ?_ ?_ _  | refine mo_andV ?_ _ | refine mo_orV ?_ _ | refine mo_thenS ?_ _ | refine mo_chn ?_ _  | refine mo_bind ?_ ?_ | refine mo_ite ?_ ?_ | intro _)
  | .listRev a => by
    have h1 := mL a
    show Mo (evF G (.listRev a))
    unfold evF
    repeat' (first  | assumption  | exact mo_pure _ | exact mo_bad | exact mo_err _ | exact mo_lift _ | exact mo_liftB _ | exact mo_rdV _ | exact mo_rdL _ | exact mo_rdO _ | exact mo_rdB _ | exact mo_popR _ | exact mo_popAt _ _ | exact mo_callM _ _ _ | exact mo_callMO _ _ _ | exact mo_movR _  | exact mo_few _ | exact mo_itN _ _ | exact mo_boolOf _ | exact mo_truB _ | exact mo_crR _ | exact mo_crF _ | exact mo_sortL _ | exact mo_cat _ _ | exact mo_rep _ _  | exact mo_setR (mo_setV _ _) | exact mo_setR (mo_setO _ _) | exact mo_setR (mo_asgT _ _) | exact mo_setR (mo_modO _ _) | exact mo_setR (mo_modD _ _ _) | exact mo_setR (mo_setPs _ _) | exact mo_setR (moO_aug _ _)  | refine mo_compR ?_ ?_ ?_ _ | refine mo_compDR ?_ ?_ ?_ ?_ _ | refine mo_forL (mo_asgT _) ?_ _ | refine mo_whileL ?_ ?_ _  | refine mo_andV ?_ _ | refine mo_orV ?_ _ | refine mo_thenS ?_ _ | refine mo_chn ?_ _  | refine mo_bind ?_ ?_ | refine mo_ite ?_ ?_ | intro _)
  | .rg1 a => by
    have h1 := mE a
    show Mo (evF G (.rg1 a))
    unfold evF
    repeat' (first  | assumption  | exact mo_pure _ | exact mo_bad | exact mo_err _ | exact mo_lift _ | exact mo_liftB _ | exact mo_rdV _ | exact mo_rdL _ | exact mo_rdO _ | exact mo_rdB _ | exact mo_popR _ | exact mo_popAt _ _ | exact mo_callM _ _ _ | exact mo_callMO _ _ _ | exact mo_movR _  | exact mo_few _ | exact mo_itN _ _ | exact mo_boolOf _ | exact mo_truB _ | exact mo_crR _ | exact mo_crF _ | exact mo_sortL _ | exact mo_cat _ _ | exact mo_rep _ _  | exact mo_setR (mo_setV _ _) | exact mo_setR (mo_setO _ _) | exact mo_setR (mo_asgT _ _) | exact mo_setR (mo_modO _ _) | exact mo_setR (mo_modD _ _ _) | exact mo_setR (mo_setPs _ _) | exact mo_setR (moO_aug _ _)  | refine mo_compR ?_ ?_ ?_ _ | refine mo_compDR ?_ ?_ ?_ ?_ _ | refine mo_forL (mo_asgT _) ?_ _ | refine mo_whileL ?_ ?_ _  | refine mo_andV ?_ _ | refine mo_orV ?_ _ | refine mo_thenS ?_ _ | refine mo_chn ?_ _  | refine mo_bind ?_ ?_ | refine mo_ite ?_ ?_ | intro _)
  | .rg2 a b => by
    have h1 := mE a
    have h2 := mE b
    show Mo (evF G (.rg2 a b))
    unfold evF
    repeat' (first  | assumption  | exact mo_pure _ | exact mo_bad | exact mo_err _ | exact mo_lift _ | exact mo_liftB _ | exact mo_rdV _ | exact mo_rdL _ | exact mo_rdO _ | exact mo_rdB _ | exact mo_popR _ | exact mo_popAt _ _ | exact mo_callM _ _ _ | exact mo_callMO _ _ _ | exact mo_movR _  | exact mo_few _ | exact mo_itN _ _ | exact mo_boolOf _ | exact mo_truB _ | exact mo_crR _ | exact mo_crF _ | exact mo_sortL _ | exact mo_cat _ _ | exact mo_rep _ _  | exact mo_setR (mo_setV _ _) | exact mo_setR (mo_setO _ _) | exact mo_setR (mo_asgT _ _) | exact mo_setR (mo_modO _ _) | exact mo_setR (mo_modD _ _ _) | exact mo_setR (mo_setPs _ _) | exact mo_setR (moO_aug _ _)  | refine mo_compR ?_ ?_ ?_ _ | refine mo_compDR ?_ ?_ ?_ ?_ _ | refine mo_forL (mo_asgT _) ?_ _ | refine mo_whileL ?_ ?_ _  | refine mo_andV ?_ _ | refine mo_orV ?_ _ | refine mo_thenS ?_ _ | refine mo_chn ?_ _  | refine mo_bind ?_ ?_ | refine mo_ite ?_ ?_ | intro _)
  | .sorted a => by
    have h1 := mL a
    show Mo (evF G (.sorted a))
    unfold evF
    repeat' (first  | assumption  | exact mo_pure _ | exact mo_bad | exact mo_err _ | exact mo_lift _ | exact mo_liftB _ | exact mo_rdV _ | exact mo_rdL _ | exact mo_rdO _ | exact mo_rdB _ | exact mo_popR _ | exact mo_popAt _ _ | exact mo_callM _ _ _ | exact mo_callMO _ _ _ | exact mo_movR _  | exact mo_few _ | exact mo_itN _ _ | exact mo_boolOf _ | exact mo_truB _ | exact mo_crR _ | exact mo_crF _ | exact mo_sortL _ | exact mo_cat _ _ | exact mo_rep _ _  | exact mo_setR (mo_setV _ _) | exact mo_setR (mo_setO _ _) | exact mo_setR (mo_asgT _ _) | exact mo_setR (mo_modO _ _) | exact mo_setR (mo_modD _ _ _) | exact mo_setR (mo_setPs _ _) | exact mo_setR (moO_aug _ _)  | refine mo_compR ?_ ?_ ?_ _ | refine mo_compDR ?_ ?_ ?_ ?_ _ | refine mo_forL (mo_asgT _) ?_ _ | refine mo_whileL ?_ ?_ _  | refine mo_andV ?_ _ | refine mo_orV ?_ _ | refine mo_thenS ?_ _ | refine mo_chn ?_ _  | refine mo_bind ?_ ?_ | refine mo_ite ?_ ?_ | intro _)
  | .cat a b => by
    have h1 := mE a
    have h2 := mE b
    show Mo (evF G (.cat a b))
    unfold evF
    repeat' (first  | assumption  | exact mo_pure _ | exact mo_bad | exact mo_err _ | exact mo_lift _ | exact mo_liftB _ | exact mo_rdV _ | exact mo_rdL _ | exact mo_rdO _ | exact mo_rdB _ | exact mo_popR _ | exact mo_popAt _ _ | exact mo_callM _ _ _ | exact mo_callMO _ _ _ | exact mo_movR _  | exact mo_few _ | exact mo_itN _ _ | exact mo_boolOf _ | exact mo_truB _ | exact mo_crR _ | exact mo_crF _ | exact mo_sortL _ | exact mo_cat _ _ | exact mo_rep _ _  | exact mo_setR (mo_setV _ _) | exact mo_setR (mo_setO _ _) | exact mo_setR (mo_asgT _ _) | exact mo_setR (mo_modO _ _) | exact mo_setR (mo_modD _ _ _) | exact mo_setR (mo_setPs _ _) | exact mo_setR (moO_aug _ _)  | refine mo_compR ?_ ?_ ?_ _ | refine mo_compDR ?_ ?_ ?_ ?_ _ | refine mo_forL (mo_asgT _) ?_ _ | refine mo_whileL ?_ ?_ _  | refine mo_andV ?_ _ | refine mo_orV ?_ _ | refine mo_thenS ?_ _ | refine mo_chn ?_ _  | refine mo_bind ?_ ?_ | refine mo_ite ?_ ?_ | intro _)
  | .rep a b => by
    have h1 := mE a
    have h2 := mE b
    show Mo (evF G (.rep a b))
    unfold evF
    repeat' (first  | assumption  | exact mo_pure _ | exact mo_bad | exact mo_err _ | exact mo_lift _ | exact mo_liftB _ | exact mo_rdV _ | exact mo_rdL _ | exact mo_rdO _ | exact mo_rdB _ | exact mo_popR _ | exact mo_popAt _ _ | exact mo_callM _ _ _ | exact mo_callMO _ _ _ | exact mo_movR _  | exact mo_few _ | exact mo_itN _ _ | exact mo_boolOf _ | exact mo_truB _ | exact mo_crR _ | exact mo_crF _ | exact mo_sortL _ | exact mo_cat _ _ | exact mo_rep _ _  | exact mo_setR (mo_setV _ _) | exact mo_setR (mo_setO _ _) | exact mo_setR (mo_asgT _ _) | exact mo_setR (mo_modO _ _) | exact mo_setR (mo_modD _ _ _) | exact mo_setR (mo_setPs _ _) | exact mo_setR (moO_aug _ _)  | refine mo_compR ?_ ?_ ?_ _ | refine mo_compDR ?_ ?_ ?_ ?_ _ | refine mo_forL (mo_asgT _) ?_ _ | refine mo_whileL ?_ ?_ _  | refine mo_andV ?_ _ | refine mo_orV ?_ _ | refine mo_thenS ?_ _ | refine mo_chn ?_ _  | refine mo_bind ?_ ?_ | refine mo_ite ?_ ?_ | intro _)
  | .comp tg it t e vs => by
    have h1 := mI it
    have h2 := mC t
    have h3 := mE e
    show Mo (evF G (.comp tg it t e vs))
    unfold evF
    repeat' (first  | assumption  | exact mo_pure _ | exact mo_bad | exact mo_err _ | exact mo_lift _ | exact mo_liftB _ | exact mo_rdV _ | exact mo_rdL _ | exact mo_rdO _ | exact mo_rdB _ | exact mo_popR _ | exact mo_popAt _ _ | exact mo_callM _ _ _ | exact mo_callMO _ _ _ | exact mo_movR _  | exact mo_few _ | exact mo_itN _ _ | exact mo_boolOf _ | exact mo_truB _ | exact mo_crR _ | exact mo_crF _ | exact mo_sortL _ | exact mo_cat _ _ | exact mo_rep _ _  | exact mo_setR (mo_setV _ _) | exact mo_setR (mo_setO _ _) | exact mo_setR (mo_asgT _ _) | exact mo_setR (mo_modO _ _) | exact mo_setR (mo_modD _ _ _) | exact mo_setR (mo_setPs _ _) | exact mo_setR (moO_aug _ _)  | refine mo_compR ?_ ?_ ?_ _ | refine mo_compDR ?_ ?_ ?_ ?_ _ | refine mo_forL (mo_asgT _) ?_ _ | refine mo_whileL ?_ ?_ _  | refine mo_andV ?_ _ | refine mo_orV ?_ _ | refine mo_thenS ?_ _ | refine mo_chn ?_ _  | refine mo_bind ?_ ?_ | refine mo_ite ?_ ?_ | intro _)
  | .call k n es => by
    have h1 := mA es
    show Mo (evF G (.call k n es))
    unfold evF
    repeat' (first  | assumption  | exact mo_pure _ | exact mo_bad | exact mo_err _ | exact mo_lift _ | exact mo_liftB _ | exact mo_rdV _ | exact mo_rdL _ | exact mo_rdO _ | exact mo_rdB _ | exact mo_popR _ | exact mo_popAt _ _ | exact mo_callM _ _ _ | exact mo_callMO _ _ _ | exact mo_movR _  | exact mo_few _ | exact mo_itN _ _ | exact mo_boolOf _ | exact mo_truB _ | exact mo_crR _ | exact mo_crF _ | exact mo_sortL _ | exact mo_cat _ _ | exact mo_rep _ _  | exact mo_setR (mo_setV _ _) | exact mo_setR (mo_setO _ _) | exact mo_setR (mo_asgT _ _) | exact mo_setR (mo_modO _ _) | exact mo_setR (mo_modD _ _ _) | exact mo_setR (mo_setPs _ _) | exact mo_setR (moO_aug _ _)  | refine mo_compR ?_ ?_ ?_ _ | refine mo_compDR ?_ ?_ ?_ ?_ _ | refine mo_forL (mo_asgT _) ?_ _ | refine mo_whileL ?_ ?_ _  | refine mo_andV ?_ _ | refine mo_orV ?_ _ | refine mo_thenS ?_ _ | refine mo_chn ?_ _  | refine mo_bind ?_ ?_ | refine mo_ite ?_ ?_ | intro _)
  | .mov i => by
    show Mo (evF G (.mov i))
    unfold evF
    repeat' (first  | assumption  | exact mo_pure _ | exact mo_bad | exact mo_err _ | exact mo_lift _ | exact mo_liftB _ | exact mo_rdV _ | exact mo_rdL _ | exact mo_rdO _ | exact mo_rdB _ | exact mo_popR _ | exact mo_popAt _ _ | exact mo_callM _ _ _ | exact mo_callMO _ _ _ | exact mo_movR _  | exact mo_few _ | exact mo_itN _ _ | exact mo_boolOf _ | exact mo_truB _ | exact mo_crR _ | exact mo_crF _ | exact mo_sortL _ | exact mo_cat _ _ | exact mo_rep _ _  | exact mo_setR (mo_setV _ _) | exact mo_setR (mo_setO _ _) | exact mo_setR (mo_asgT _ _) | exact mo_setR (mo_modO _ _) | exact mo_setR (mo_modD _ _ _) | exact mo_setR (mo_setPs _ _) | exact mo_setR (moO_aug _ _)  | refine mo_compR ?_ ?_ ?_ _ | refine mo_compDR ?_ ?_ ?_ ?_ _ | refine mo_forL (mo_asgT _) ?_ _ | refine mo_whileL ?_ ?_ _  | refine mo_andV ?_ _ | refine mo_orV ?_ _ | refine mo_thenS ?_ _ | refine mo_chn ?_ _  | refine mo_bind ?_ ?_ | refine mo_ite ?_ ?_ | intro _)
  | .lstS es => by
    have h1 := mAs es
    show Mo (evF G (.lstS es))
    unfold evF
    repeat' (first  | assumption  | exact mo_pure _ | exact mo_bad | exact mo_err _ | exact mo_lift _ | exact mo_liftB _ | exact mo_rdV _ | exact mo_rdL _ | exact mo_rdO _ | exact mo_rdB _ | exact mo_popR _ | exact mo_popAt _ _ | exact mo_callM _ _ _ | exact mo_callMO _ _ _ | exact mo_movR _  | exact mo_few _ | exact mo_itN _ _ | exact mo_boolOf _ | exact mo_truB _ | exact mo_crR _ | exact mo_crF _ | exact mo_sortL _ | exact mo_cat _ _ | exact mo_rep _ _  | exact mo_setR (mo_setV _ _) | exact mo_setR (mo_setO _ _) | exact mo_setR (mo_asgT _ _) | exact mo_setR (mo_modO _ _) | exact mo_setR (mo_modD _ _ _) | exact mo_setR (mo_setPs _ _) | exact mo_setR (moO_aug _ _)  | refine mo_compR ?_ ?_ ?_ _ | refine mo_compDR ?_ ?_ ?_ ?_ _ | refine mo_forL (mo_asgT _) ?_ _ | refine mo_whileL ?_ ?_ _  | refine mo_andV ?_ _ | refine mo_orV ?_ _ | refine mo_thenS ?_ _ | refine mo_chn ?_ _  | refine mo_bind ?_ ?_ | refine mo_ite ?_ ?_ | intro _)
  | .sortSS a => by
    have h1 := mL a
    show Mo (evF G (.sortSS a))
    unfold evF
    repeat' (first  | assumption  | exact mo_pure _ | exact mo_bad | exact mo_err _ | exact mo_lift _ | exact mo_liftB _ | exact mo_rdV _ | exact mo_rdL _ | exact mo_rdO _ | exact mo_rdB _ | exact mo_popR _ | exact mo_popAt _ _ | exact mo_callM _ _ _ | exact mo_callMO _ _ _ | exact mo_movR _  | exact mo_few _ | exact mo_itN _ _ | exact mo_boolOf _ | exact mo_truB _ | exact mo_crR _ | exact mo_crF _ | exact mo_sortL _ | exact mo_cat _ _ | exact mo_rep _ _  | exact mo_setR (mo_setV _ _) | exact mo_setR (mo_setO _ _) | exact mo_setR (mo_asgT _ _) | exact mo_setR (mo_modO _ _) | exact mo_setR (mo_modD _ _ _) | exact mo_setR (mo_setPs _ _) | exact mo_setR (moO_aug _ _)  | refine mo_compR ?_ ?_ ?_ _ | refine mo_compDR ?_ ?_ ?_ ?_ _ | refine mo_forL (mo_asgT _) ?_ _ | refine mo_whileL ?_ ?_ _  | refine mo_andV ?_ _ | refine mo_orV ?_ _ | refine mo_thenS ?_ _ | refine mo_chn ?_ _  | refine mo_bind ?_ ?_ | refine mo_ite ?_ ?_ | intro _)
  | .sortK a => by
    have h1 := mE a
    show Mo (evF G (.sortK a))
    unfold evF
    repeat' (first  | assumption  | exact mo_pure _ | exact mo_bad | exact mo_err _ | exact mo_lift _ | exact mo_liftB _ | exact mo_rdV _ | exact mo_rdL _ | exact mo_rdO _ | exact mo_rdB _ | exact mo_popR _ | exact mo_popAt _ _ | exact mo_callM _ _ _ | exact mo_callMO _ _ _ | exact mo_movR _  | exact mo_few _ | exact mo_itN _ _ | exact mo_boolOf _ | exact mo_truB _ | exact mo_crR _ | exact mo_crF _ | exact mo_sortL _ | exact mo_cat _ _ | exact mo_rep _ _  | exact mo_setR (mo_setV _ _) | exact mo_setR (mo_setO _ _) | exact mo_setR (mo_asgT _ _) | exact mo_setR (mo_modO _ _) | exact mo_setR (mo_modD _ _ _) | exact mo_setR (mo_setPs _ _) | exact mo_setR (moO_aug _ _)  | refine mo_compR ?_ ?_ ?_ _ | refine mo_compDR ?_ ?_ ?_ ?_ _ | refine mo_forL (mo_asgT _) ?_ _ | refine mo_whileL ?_ ?_ _  | refine mo_andV ?_ _ | refine mo_orV ?_ _ | refine mo_thenS ?_ _ | refine mo_chn ?_ _  | refine mo_bind ?_ ?_ | refine mo_ite ?_ ?_ | intro _)
  | .sortP a => by
    have h1 := mL a
    show Mo (evF G (.sortP a))
    unfold evF
    repeat' (first  | assumption  | exact mo_pure _ | exact mo_bad | exact mo_err _ | exact mo_lift _ | exact mo_liftB _ | exact mo_rdV _ | exact mo_rdL _ | exact mo_rdO _ | exact mo_rdB _ | exact mo_popR _ | exact mo_popAt _ _ | exact mo_callM _ _ _ | exact mo_callMO _ _ _ | exact mo_movR _  | exact mo_few _ | exact mo_itN _ _ | exact mo_boolOf _ | exact mo_truB _ | exact mo_crR _ | exact mo_crF _ | exact mo_sortL _ | exact mo_cat _ _ | exact mo_rep _ _  | exact mo_setR (mo_setV _ _) | exact mo_setR (mo_setO _ _) | exact mo_setR (mo_asgT _ _) | exact mo_setR (mo_modO _ _) | exact mo_setR (mo_modD _ _ _) | exact mo_setR (mo_setPs _ _) | exact mo_setR (moO_aug _ _)  | refine mo_compR ?_ ?_ ?_ _ | refine mo_compDR ?_ ?_ ?_ ?_ _ | refine mo_forL (mo_asgT _) ?_ _ | refine mo_whileL ?_ ?_ _  | refine mo_andV ?_ _ | refine mo_orV ?_ _ | refine mo_thenS ?_ _ | refine mo_chn ?_ _  | refine mo_bind ?_ ?_ | refine mo_ite ?_ ?_ | intro _)
theorem mAs : ∀ x : As, Mo (evAs G x)
  | .nil => by
    show Mo (evAs G (.nil))
    unfold evAs
    repeat' (first  | assumption  | exact mo_pure _ | exact mo_bad | exact mo_err _ | exact mo_lift _ | exact mo_liftB _ | exact mo_rdV _ | exact mo_rdL _ | exact mo_rdO _ | exact mo_rdB _ | exact mo_popR _ | exact mo_popAt _ _ | exact mo_callM _ _ _ | exact mo_callMO _ _ _ | exact mo_movR _  | exact mo_few _ | exact mo_itN _ _ | exact mo_boolOf _ | exact mo_truB _ | exact mo_crR _ | exact mo_crF _ | exact mo_sortL _ | exact mo_cat _ _ | exact mo_rep _ _  | exact mo_setR (mo_setV _ _) | exact mo_setR (mo_setO _ _) | exact mo_setR (mo_asgT _ _) | exact mo_setR (mo_modO _ _) | exact mo_setR (mo_modD _ _ _) | exact mo_setR (mo_setPs _ _) | exact mo_setR (moO_aug _ _)  | refine mo_compR ?_ ?_ ?_ _ | refine mo_compDR ?_ ?_ ?_ ?_ _ | refine mo_forL (mo_asgT _) ?_ _ | refine mo_whileL ?_ ?_ _  | refine mo_andV ?_ _ | refine mo_orV ?_ _ | refine mo_thenS ?_ _ | refine mo_chn ?_ _  | refine mo_bind ?_ ?_ | refine mo_ite ?_ ?_ | intro _)
  | .cons e es => by
    have h1 := mE e
    have h2 := mAs es
    show Mo (evAs G (.cons e es))
    unfold evAs
    repeat' (first  | assumption  | exact mo_pure _ | exact mo_bad | exact mo_err _ | exact mo_lift _ | exact mo_liftB _ | exact mo_rdV _ | exact mo_rdL _ | exact mo_rdO _ | exact mo_rdB _ | exact mo_popR _ | exact mo_popAt _ _ | exact mo_callM _ _ _ | exact mo_callMO _ _ _ | exact mo_movR _  | exact mo_few _ | exact mo_itN _ _ | exact mo_boolOf _ | exact mo_truB _ | exact mo_crR _ | exact mo_crF _ | exact mo_sortL _ | exact mo_cat _ _ | exact mo_rep _ _  | exact mo_setR (mo_setV _ _) | exact mo_setR (mo_setO _ _) | exact mo_setR (mo_asgT _ _) | exact mo_setR (mo_modO _ _) | exact mo_setR (mo_modD _ _ _) | exact mo_setR (mo_setPs _ _) | exact mo_setR (moO_aug _ _)  | refine mo_compR ?_ ?_ ?_ _ | refine mo_compDR ?_ ?_ ?_ ?_ _ | refine mo_forL (mo_asgT _) ?_ _ | refine mo_whileL ?_ ?_ _  | refine mo_andV ?_ _ | refine mo_orV ?_ _ | refine mo_thenS ?_ _ | refine mo_chn ?_ _  | refine mo_bind ?_ ?_ | refine mo_ite ?_ ?_ | intro _)
  | .star e es => by
    have h1 := mE e
    have h2 := mAs es
    show Mo (evAs G (.star e es))
    unfold evAs
    repeat' (first  | assumption  | exact mo_pure _ | exact mo_bad | exact mo_err _ | exact mo_lift _ | exact mo_liftB _ | exact mo_rdV _ | exact mo_rdL _ | exact mo_rdO _ | exact mo_rdB _ | exact mo_popR _ | exact mo_popAt _ _ | exact mo_callM _ _ _ | exact mo_callMO _ _ _ | exact mo_movR _  | exact mo_few _ | exact mo_itN _ _ | exact mo_boolOf _ | exact mo_truB _ | exact mo_crR _ | exact mo_crF _ | exact mo_sortL _ | exact mo_cat _ _ | exact mo_rep _ _  | exact mo_setR (mo_setV _ _) | exact mo_setR (mo_setO _ _) | exact mo_setR (mo_asgT _ _) | exact mo_setR (mo_modO _ _) | exact mo_setR (mo_modD _ _ _) | exact mo_setR (mo_setPs _ _) | exact mo_setR (moO_aug _ _)  | refine mo_compR ?_ ?_ ?_ _ | refine mo_compDR ?_ ?_ ?_ ?_ _ | refine mo_forL (mo_asgT _) ?_ _ | refine mo_whileL ?_ ?_ _  | refine mo_andV ?_ _ | refine mo_orV ?_ _ | refine mo_thenS ?_ _ | refine mo_chn ?_ _  | refine mo_bind ?_ ?_ | refine mo_ite ?_ ?_ | intro _)
theorem mG : ∀ x : Gm, Mo (evG G x)
  | .new t => by
    show Mo (evG G (.new t))
    unfold evG
    repeat' (first  | assumption  | exact mo_pure _ | exact mo_bad | exact mo_err _ | exact mo_lift _ | exact mo_liftB _ | exact mo_rdV _ | exact mo_rdL _ | exact mo_rdO _ | exact mo_rdB _ | exact mo_popR _ | exact mo_popAt _ _ | exact mo_callM _ _ _ | exact mo_callMO _ _ _ | exact mo_movR _  | exact mo_few _ | exact mo_itN _ _ | exact mo_boolOf _ | exact mo_truB _ | exact mo_crR _ | exact mo_crF _ | exact mo_sortL _ | exact mo_cat _ _ | exact mo_rep _ _  | exact mo_setR (mo_setV _ _) | exact mo_setR (mo_setO _ _) | exact mo_setR (mo_asgT _ _) | exact mo_setR (mo_modO _ _) | exact mo_setR (mo_modD _ _ _) | exact mo_setR (mo_setPs _ _) | exact mo_setR (moO_aug _ _)  | refine mo_compR ?_ ?_ ?_ _ | refine mo_compDR ?_ ?_ ?_ ?_ _ | refine mo_forL (mo_asgT _) ?_ _ | refine mo_whileL ?_ ?_ _  | refine mo_andV ?_ _ | refine mo_orV ?_ _ | refine mo_thenS ?_ _ | refine mo_chn ?_ _  | refine mo_bind ?_ ?_ | refine mo_ite ?_ ?_ | intro _)
  | .comp t tg it cd k v vs => by
    have h1 := mI it
    have h2 := mC cd
    have h3 := mE k
    have h4 := mE v
    show Mo (evG G (.comp t tg it cd k v vs))
    unfold evG
    repeat' (first  | assumption  | exact mo_pure _ | exact mo_bad | exact mo_err _ | exact mo_lift _ | exact mo_liftB _ | exact mo_rdV _ | exact mo_rdL _ | exact mo_rdO _ | exact mo_rdB _ | exact mo_popR _ | exact mo_popAt _ _ | exact mo_callM _ _ _ | exact mo_callMO _ _ _ | exact mo_movR _  | exact mo_few _ | exact mo_itN _ _ | exact mo_boolOf _ | exact mo_truB _ | exact mo_crR _ | exact mo_crF _ | exact mo_sortL _ | exact mo_cat _ _ | exact mo_rep _ _  | exact mo_setR (mo_setV _ _) | exact mo_setR (mo_setO _ _) | exact mo_setR (mo_asgT _ _) | exact mo_setR (mo_modO _ _) | exact mo_setR (mo_modD _ _ _) | exact mo_setR (mo_setPs _ _) | exact mo_setR (moO_aug _ _)  | refine mo_compR ?_ ?_ ?_ _ | refine mo_compDR ?_ ?_ ?_ ?_ _ | refine mo_forL (mo_asgT _) ?_ _ | refine mo_whileL ?_ ?_ _  | refine mo_andV ?_ _ | refine mo_orV ?_ _ | refine mo_thenS ?_ _ | refine mo_chn ?_ _  | refine mo_bind ?_ ?_ | refine mo_ite ?_ ?_ | intro _)
theorem mC : ∀ x : Cd, Mo (evC G x)
  | .no => by
    show Mo (evC G (.no))
    unfold evC
    repeat' (first  | assumption  | exact mo_pure _ | exact mo_bad | exact mo_err _ | exact mo_lift _ | exact mo_liftB _ | exact mo_rdV _ | exact mo_rdL _ | exact mo_rdO _ | exact mo_rdB _ | exact mo_popR _ | exact mo_popAt _ _ | exact mo_callM _ _ _ | exact mo_callMO _ _ _ | exact mo_movR _  | exact mo_few _ | exact mo_itN _ _ | exact mo_boolOf _ | exact mo_truB _ | exact mo_crR _ | exact mo_crF _ | exact mo_sortL _ | exact mo_cat _ _ | exact mo_rep _ _  | exact mo_setR (mo_setV _ _) | exact mo_setR (mo_setO _ _) | exact mo_setR (mo_asgT _ _) | exact mo_setR (mo_modO _ _) | exact mo_setR (mo_modD _ _ _) | exact mo_setR (mo_setPs _ _) | exact mo_setR (moO_aug _ _)  | refine mo_compR ?_ ?_ ?_ _ | refine mo_compDR ?_ ?_ ?_ ?_ _ | refine mo_forL (mo_asgT _) ?_ _ | refine mo_whileL ?_ ?_ _  | refine mo_andV ?_ _ | refine mo_orV ?_ _ | refine mo_thenS ?_ _ | refine mo_chn ?_ _  | refine mo_bind ?_ ?_ | refine mo_ite ?_ ?_ | intro _)
  | .one b => by
    have h1 := mB b
    show Mo (evC G (.one b))
    unfold evC
    repeat' (first  | assumption  | exact mo_pure _ | exact mo_bad | exact mo_err _ | exact mo_lift _ | exact mo_liftB _ | exact mo_rdV _ | exact mo_rdL _ | exact mo_rdO _ | exact mo_rdB _ | exact mo_popR _ | exact mo_popAt _ _ | exact mo_callM _ _ _ | exact mo_callMO _ _ _ | exact mo_movR _  | exact mo_few _ | exact mo_itN _ _ | exact mo_boolOf _ | exact mo_truB _ | exact mo_crR _ | exact mo_crF _ | exact mo_sortL _ | exact mo_cat _ _ | exact mo_rep _ _  | exact mo_setR (mo_setV _ _) | exact mo_setR (mo_setO _ _) | exact mo_setR (mo_asgT _ _) | exact mo_setR (mo_modO _ _) | exact mo_setR (mo_modD _ _ _) | exact mo_setR (mo_setPs _ _) | exact mo_setR (moO_aug _ _)  | refine mo_compR ?_ ?_ ?_ _ | refine mo_compDR ?_ ?_ ?_ ?_ _ | refine mo_forL (mo_asgT _) ?_ _ | refine mo_whileL ?_ ?_ _  | refine mo_andV ?_ _ | refine mo_orV ?_ _ | refine mo_thenS ?_ _ | refine mo_chn ?_ _  | refine mo_bind ?_ ?_ | refine mo_ite ?_ ?_ | intro _)
theorem mI : ∀ x : I, Mo (evI G x)
  | .sq a => by
    have h1 := mE a
    show Mo (evI G (.sq a))
    unfold evI
    repeat' (first  | assumption  | exact mo_pure _ | exact mo_bad | exact mo_err _ | exact mo_lift _ | exact mo_liftB _ | exact mo_rdV _ | exact mo_rdL _ | exact mo_rdO _ | exact mo_rdB _ | exact mo_popR _ | exact mo_popAt _ _ | exact mo_callM _ _ _ | exact mo_callMO _ _ _ | exact mo_movR _  | exact mo_few _ | exact mo_itN _ _ | exact mo_boolOf _ | exact mo_truB _ | exact mo_crR _ | exact mo_crF _ | exact mo_sortL _ | exact mo_cat _ _ | exact mo_rep _ _  | exact mo_setR (mo_setV _ _) | exact mo_setR (mo_setO _ _) | exact mo_setR (mo_asgT _ _) | exact mo_setR (mo_modO _ _) | exact mo_setR (mo_modD _ _ _) | exact mo_setR (mo_setPs _ _) | exact mo_setR (moO_aug _ _)  | refine mo_compR ?_ ?_ ?_ _ | refine mo_compDR ?_ ?_ ?_ ?_ _ | refine mo_forL (mo_asgT _) ?_ _ | refine mo_whileL ?_ ?_ _  | refine mo_andV ?_ _ | refine mo_orV ?_ _ | refine mo_thenS ?_ _ | refine mo_chn ?_ _  | refine mo_bind ?_ ?_ | refine mo_ite ?_ ?_ | intro _)
  | .r1 a => by
    have h1 := mE a
    show Mo (evI G (.r1 a))
    unfold evI
    repeat' (first  | assumption  | exact mo_pure _ | exact mo_bad | exact mo_err _ | exact mo_lift _ | exact mo_liftB _ | exact mo_rdV _ | exact mo_rdL _ | exact mo_rdO _ | exact mo_rdB _ | exact mo_popR _ | exact mo_popAt _ _ | exact mo_callM _ _ _ | exact mo_callMO _ _ _ | exact mo_movR _  | exact mo_few _ | exact mo_itN _ _ | exact mo_boolOf _ | exact mo_truB _ | exact mo_crR _ | exact mo_crF _ | exact mo_sortL _ | exact mo_cat _ _ | exact mo_rep _ _  | exact mo_setR (mo_setV _ _) | exact mo_setR (mo_setO _ _) | exact mo_setR (mo_asgT _ _) | exact mo_setR (mo_modO _ _) | exact mo_setR (mo_modD _ _ _) | exact mo_setR (mo_setPs _ _) | exact mo_setR (moO_aug _ _)  | refine mo_compR ?_ ?_ ?_ _ | refine mo_compDR ?_ ?_ ?_ ?_ _ | refine mo_forL (mo_asgT _) ?_ _ | refine mo_whileL ?_ ?_ _  | refine mo_andV ?_ _ | refine mo_orV ?_ _ | refine mo_thenS ?_ _ | refine mo_chn ?_ _  | refine mo_bind ?_ ?_ | refine mo_ite ?_ ?_ | intro _)
  | .r2 a b => by
    have h1 := mE a
    have h2 := mE b
    show Mo (evI G (.r2 a b))
    unfold evI
    repeat' (first  | assumption  | exact mo_pure _ | exact mo_bad | exact mo_err _ | exact mo_lift _ | exact mo_liftB _ | exact mo_rdV _ | exact mo_rdL _ | exact mo_rdO _ | exact mo_rdB _ | exact mo_popR _ | exact mo_popAt _ _ | exact mo_callM _ _ _ | exact mo_callMO _ _ _ | exact mo_movR _  | exact mo_few _ | exact mo_itN _ _ | exact mo_boolOf _ | exact mo_truB _ | exact mo_crR _ | exact mo_crF _ | exact mo_sortL _ | exact mo_cat _ _ | exact mo_rep _ _  | exact mo_setR (mo_setV _ _) | exact mo_setR (mo_setO _ _) | exact mo_setR (mo_asgT _ _) | exact mo_setR (mo_modO _ _) | exact mo_setR (mo_modD _ _ _) | exact mo_setR (mo_setPs _ _) | exact mo_setR (moO_aug _ _)  | refine mo_compR ?_ ?_ ?_ _ | refine mo_compDR ?_ ?_ ?_ ?_ _ | refine mo_forL (mo_asgT _) ?_ _ | refine mo_whileL ?_ ?_ _  | refine mo_andV ?_ _ | refine mo_orV ?_ _ | refine mo_thenS ?_ _ | refine mo_chn ?_ _  | refine mo_bind ?_ ?_ | refine mo_ite ?_ ?_ | intro _)
  | .r3 a b e => by
    have h1 := mE a
    have h2 := mE b
    have h3 := mE e
    show Mo (evI G (.r3 a b e))
    unfold evI
    repeat' (first  | assumption  | exact mo_pure _ | exact mo_bad | exact mo_err _ | exact mo_lift _ | exact mo_liftB _ | exact mo_rdV _ | exact mo_rdL _ | exact mo_rdO _ | exact mo_rdB _ | exact mo_popR _ | exact mo_popAt _ _ | exact mo_callM _ _ _ | exact mo_callMO _ _ _ | exact mo_movR _  | exact mo_few _ | exact mo_itN _ _ | exact mo_boolOf _ | exact mo_truB _ | exact mo_crR _ | exact mo_crF _ | exact mo_sortL _ | exact mo_cat _ _ | exact mo_rep _ _  | exact mo_setR (mo_setV _ _) | exact mo_setR (mo_setO _ _) | exact mo_setR (mo_asgT _ _) | exact mo_setR (mo_modO _ _) | exact mo_setR (mo_modD _ _ _) | exact mo_setR (mo_setPs _ _) | exact mo_setR (moO_aug _ _)  | refine mo_compR ?_ ?_ ?_ _ | refine mo_compDR ?_ ?_ ?_ ?_ _ | refine mo_forL (mo_asgT _) ?_ _ | refine mo_whileL ?_ ?_ _  | refine mo_andV ?_ _ | refine mo_orV ?_ _ | refine mo_thenS ?_ _ | refine mo_chn ?_ _  | refine mo_bind ?_ ?_ | refine mo_ite ?_ ?_ | intro _)
  | .zip a b => by
    have h1 := mE a
    have h2 := mE b
    show Mo (evI G (.zip a b))
    unfold evI
    repeat' (first  | assumption  | exact mo_pure _ | exact mo_bad | exact mo_err _ | exact mo_lift _ | exact mo_liftB _ | exact mo_rdV _ | exact mo_rdL _ | exact mo_rdO _ | exact mo_rdB _ | exact mo_popR _ | exact mo_popAt _ _ | exact mo_callM _ _ _ | exact mo_callMO _ _ _ | exact mo_movR _  | exact mo_few _ | exact mo_itN _ _ | exact mo_boolOf _ | exact mo_truB _ | exact mo_crR _ | exact mo_crF _ | exact mo_sortL _ | exact mo_cat _ _ | exact mo_rep _ _  | exact mo_setR (mo_setV _ _) | exact mo_setR (mo_setO _ _) | exact mo_setR (mo_asgT _ _) | exact mo_setR (mo_modO _ _) | exact mo_setR (mo_modD _ _ _) | exact mo_setR (mo_setPs _ _) | exact mo_setR (moO_aug _ _)  | refine mo_compR ?_ ?_ ?_ _ | refine mo_compDR ?_ ?_ ?_ ?_ _ | refine mo_forL (mo_asgT _) ?_ _ | refine mo_whileL ?_ ?_ _  | refine mo_andV ?_ _ | refine mo_orV ?_ _ | refine mo_thenS ?_ _ | refine mo_chn ?_ _  | refine mo_bind ?_ ?_ | refine mo_ite ?_ ?_ | intro _)
  | .enum a => by
    have h1 := mE a
    show Mo (evI G (.enum a))
    unfold evI
    repeat' (first  | assumption  | exact mo_pure _ | exact mo_bad | exact mo_err _ | exact mo_lift _ | exact mo_liftB _ | exact mo_rdV _ | exact mo_rdL _ | exact mo_rdO _ | exact mo_rdB _ | exact mo_popR _ | exact mo_popAt _ _ | exact mo_callM _ _ _ | exact mo_callMO _ _ _ | exact mo_movR _  | exact mo_few _ | exact mo_itN _ _ | exact mo_boolOf _ | exact mo_truB _ | exact mo_crR _ | exact mo_crF _ | exact mo_sortL _ | exact mo_cat _ _ | exact mo_rep _ _  | exact mo_setR (mo_setV _ _) | exact mo_setR (mo_setO _ _) | exact mo_setR (mo_asgT _ _) | exact mo_setR (mo_modO _ _) | exact mo_setR (mo_modD _ _ _) | exact mo_setR (mo_setPs _ _) | exact mo_setR (moO_aug _ _)  | refine mo_compR ?_ ?_ ?_ _ | refine mo_compDR ?_ ?_ ?_ ?_ _ | refine mo_forL (mo_asgT _) ?_ _ | refine mo_whileL ?_ ?_ _  | refine mo_andV ?_ _ | refine mo_orV ?_ _ | refine mo_thenS ?_ _ | refine mo_chn ?_ _  | refine mo_bind ?_ ?_ | refine mo_ite ?_ ?_ | intro _)
  | .rev a => by
    have h1 := mE a
    show Mo (evI G (.rev a))
    unfold evI
    repeat' (first  | assumption  | exact mo_pure _ | exact mo_bad | exact mo_err _ | exact mo_lift _ | exact mo_liftB _ | exact mo_rdV _ | exact mo_rdL _ | exact mo_rdO _ | exact mo_rdB _ | exact mo_popR _ | exact mo_popAt _ _ | exact mo_callM _ _ _ | exact mo_callMO _ _ _ | exact mo_movR _  | exact mo_few _ | exact mo_itN _ _ | exact mo_boolOf _ | exact mo_truB _ | exact mo_crR _ | exact mo_crF _ | exact mo_sortL _ | exact mo_cat _ _ | exact mo_rep _ _  | exact mo_setR (mo_setV _ _) | exact mo_setR (mo_setO _ _) | exact mo_setR (mo_asgT _ _) | exact mo_setR (mo_modO _ _) | exact mo_setR (mo_modD _ _ _) | exact mo_setR (mo_setPs _ _) | exact mo_setR (moO_aug _ _)  | refine mo_compR ?_ ?_ ?_ _ | refine mo_compDR ?_ ?_ ?_ ?_ _ | refine mo_forL (mo_asgT _) ?_ _ | refine mo_whileL ?_ ?_ _  | refine mo_andV ?_ _ | refine mo_orV ?_ _ | refine mo_thenS ?_ _ | refine mo_chn ?_ _  | refine mo_bind ?_ ?_ | refine mo_ite ?_ ?_ | intro _)
end
theorem mP : ∀ x : P, Mo (evP G x)
  | .nil => mo_pure _
  | .cE e p => by
    have h1 := mE G e
    have h2 := mP p
    unfold evP
    repeat' (first  | assumption  | exact mo_pure _ | exact mo_bad | exact mo_err _ | exact mo_lift _ | exact mo_liftB _ | exact mo_rdV _ | exact mo_rdL _ | exact mo_rdO _ | exact mo_rdB _ | exact mo_popR _ | exact mo_popAt _ _ | exact mo_callM _ _ _ | exact mo_callMO _ _ _ | exact mo_movR _  | exact mo_few _ | exact mo_itN _ _ | exact mo_boolOf _ | exact mo_truB _ | exact mo_crR _ | exact mo_crF _ | exact mo_sortL _ | exact mo_cat _ _ | exact mo_rep _ _  | exact mo_setR (mo_setV _ _) | exact mo_setR (mo_setO _ _) | exact mo_setR (mo_asgT _ _) | exact mo_setR (mo_modO _ _) | exact mo_setR (mo_modD _ _ _) | exact mo_setR (mo_setPs _ _) | exact mo_setR (moO_aug _ _)  | refine mo_compR ?_ ?_ ?_ _ | refine mo_compDR ?_ ?_ ?_ ?_ _ | refine mo_forL (mo_asgT _) ?_ _ | refine mo_whileL ?_ ?_ _  | refine mo_andV ?_ _ | refine mo_orV ?_ _ | refine mo_thenS ?_ _ | refine mo_chn ?_ _  | refine mo_bind ?_ ?_ | refine mo_ite ?_ ?_ | intro _)
  | .cF e p => by
    have h1 := mF G e
    have h2 := mP p
    unfold evP
    repeat' (first  | assumption  | exact mo_pure _ | exact mo_bad | exact mo_err _ | exact mo_lift _ | exact mo_liftB _ | exact mo_rdV _ | exact mo_rdL _ | exact mo_rdO _ | exact mo_rdB _ | exact mo_popR _ | exact mo_popAt _ _ | exact mo_callM _ _ _ | exact mo_callMO _ _ _ | exact mo_movR _  | exact mo_few _ | exact mo_itN _ _ | exact mo_boolOf _ | exact mo_truB _ | exact mo_crR _ | exact mo_crF _ | exact mo_sortL _ | exact mo_cat _ _ | exact mo_rep _ _  | exact mo_setR (mo_setV _ _) | exact mo_setR (mo_setO _ _) | exact mo_setR (mo_asgT _ _) | exact mo_setR (mo_modO _ _) | exact mo_setR (mo_modD _ _ _) | exact mo_setR (mo_setPs _ _) | exact mo_setR (moO_aug _ _)  | refine mo_compR ?_ ?_ ?_ _ | refine mo_compDR ?_ ?_ ?_ ?_ _ | refine mo_forL (mo_asgT _) ?_ _ | refine mo_whileL ?_ ?_ _  | refine mo_andV ?_ _ | refine mo_orV ?_ _ | refine mo_thenS ?_ _ | refine mo_chn ?_ _  | refine mo_bind ?_ ?_ | refine mo_ite ?_ ?_ | intro _)
  | .cD e p => by
    have h1 := mG G e
    have h2 := mP p
    unfold evP
    repeat' (first  | assumption  | exact mo_pure _ | exact mo_bad | exact mo_err _ | exact mo_lift _ | exact mo_liftB _ | exact mo_rdV _ | exact mo_rdL _ | exact mo_rdO _ | exact mo_rdB _ | exact mo_popR _ | exact mo_popAt _ _ | exact mo_callM _ _ _ | exact mo_callMO _ _ _ | exact mo_movR _  | exact mo_few _ | exact mo_itN _ _ | exact mo_boolOf _ | exact mo_truB _ | exact mo_crR _ | exact mo_crF _ | exact mo_sortL _ | exact mo_cat _ _ | exact mo_rep _ _  | exact mo_setR (mo_setV _ _) | exact mo_setR (mo_setO _ _) | exact mo_setR (mo_asgT _ _) | exact mo_setR (mo_modO _ _) | exact mo_setR (mo_modD _ _ _) | exact mo_setR (mo_setPs _ _) | exact mo_setR (moO_aug _ _)  | refine mo_compR ?_ ?_ ?_ _ | refine mo_compDR ?_ ?_ ?_ ?_ _ | refine mo_forL (mo_asgT _) ?_ _ | refine mo_whileL ?_ ?_ _  | refine mo_andV ?_ _ | refine mo_orV ?_ _ | refine mo_thenS ?_ _ | refine mo_chn ?_ _  | refine mo_bind ?_ ?_ | refine mo_ite ?_ ?_ | intro _)
mutual
theorem mS : ∀ x : S, Mo (evS G x)
  | .pass => by
    show Mo (evS G (.pass))
    unfold evS
    repeat' (first  | assumption  | exact mo_pure _ | exact mo_bad | exact mo_err _ | exact mo_lift _ | exact mo_liftB _ | exact mo_rdV _ | exact mo_rdL _ | exact mo_rdO _ | exact mo_rdB _ | exact mo_popR _ | exact mo_popAt _ _ | exact mo_callM _ _ _ | exact mo_callMO _ _ _ | exact mo_movR _  | exact mo_few _ | exact mo_itN _ _ | exact mo_boolOf _ | exact mo_truB _ | exact mo_crR _ | exact mo_crF _ | exact mo_sortL _ | exact mo_cat _ _ | exact mo_rep _ _  | exact mo_setR (mo_setV _ _) | exact mo_setR (mo_setO _ _) | exact mo_setR (mo_asgT _ _) | exact mo_setR (mo_modO _ _) | exact mo_setR (mo_modD _ _ _) | exact mo_setR (mo_setPs _ _) | exact mo_setR (moO_aug _ _)  | refine mo_compR ?_ ?_ ?_ _ | refine mo_compDR ?_ ?_ ?_ ?_ _ | refine mo_forL (mo_asgT _) ?_ _ | refine mo_whileL ?_ ?_ _  | refine mo_andV ?_ _ | refine mo_orV ?_ _ | refine mo_thenS ?_ _ | refine mo_chn ?_ _  | refine mo_bind ?_ ?_ | refine mo_ite ?_ ?_ | intro _)
  | .brk => by
    show Mo (evS G (.brk))
    unfold evS
    repeat' (first  | assumption  | exact mo_pure _ | exact mo_bad | exact mo_err _ | exact mo_lift _ | exact mo_liftB _ | exact mo_rdV _ | exact mo_rdL _ | exact mo_rdO _ | exact mo_rdB _ | exact mo_popR _ | exact mo_popAt _ _ | exact mo_callM _ _ _ | exact mo_callMO _ _ _ | exact mo_movR _  | exact mo_few _ | exact mo_itN _ _ | exact mo_boolOf _ | exact mo_truB _ | exact mo_crR _ | exact mo_crF _ | exact mo_sortL _ | exact mo_cat _ _ | exact mo_rep _ _  | exact mo_setR (mo_setV _ _) | exact mo_setR (mo_setO _ _) | exact mo_setR (mo_asgT _ _) | exact mo_setR (mo_modO _ _) | exact mo_setR (mo_modD _ _ _) | exact mo_setR (mo_setPs _ _) | exact mo_setR (moO_aug _ _)  | refine mo_compR ?_ ?_ ?_ _ | refine mo_compDR ?_ ?_ ?_ ?_ _ | refine mo_forL (mo_asgT _) ?_ _ | refine mo_whileL ?_ ?_ _  | refine mo_andV ?_ _ | refine mo_orV ?_ _ | refine mo_thenS ?_ _ | refine mo_chn ?_ _  | refine mo_bind ?_ ?_ | refine mo_ite ?_ ?_ | intro _)
  | .cnt => by
    show Mo (evS G (.cnt))
    unfold evS
    repeat' (first  | assumption  | exact mo_pure _ | exact mo_bad | exact mo_err _ | exact mo_lift _ | exact mo_liftB _ | exact mo_rdV _ | exact mo_rdL _ | exact mo_rdO _ | exact mo_rdB _ | exact mo_popR _ | exact mo_popAt _ _ | exact mo_callM _ _ _ | exact mo_callMO _ _ _ | exact mo_movR _  | exact mo_few _ | exact mo_itN _ _ | exact mo_boolOf _ | exact mo_truB _ | exact mo_crR _ | exact mo_crF _ | exact mo_sortL _ | exact mo_cat _ _ | exact mo_rep _ _  | exact mo_setR (mo_setV _ _) | exact mo_setR (mo_setO _ _) | exact mo_setR (mo_asgT _ _) | exact mo_setR (mo_modO _ _) | exact mo_setR (mo_modD _ _ _) | exact mo_setR (mo_setPs _ _) | exact mo_setR (moO_aug _ _)  | refine mo_compR ?_ ?_ ?_ _ | refine mo_compDR ?_ ?_ ?_ ?_ _ | refine mo_forL (mo_asgT _) ?_ _ | refine mo_whileL ?_ ?_ _  | refine mo_andV ?_ _ | refine mo_orV ?_ _ | refine mo_thenS ?_ _ | refine mo_chn ?_ _  | refine mo_bind ?_ ?_ | refine mo_ite ?_ ?_ | intro _)
  | .ret e => by
    have h1 := mE G e
    show Mo (evS G (.ret e))
    unfold evS
    repeat' (first  | assumption  | exact mo_pure _ | exact mo_bad | exact mo_err _ | exact mo_lift _ | exact mo_liftB _ | exact mo_rdV _ | exact mo_rdL _ | exact mo_rdO _ | exact mo_rdB _ | exact mo_popR _ | exact mo_popAt _ _ | exact mo_callM _ _ _ | exact mo_callMO _ _ _ | exact mo_movR _  | exact mo_few _ | exact mo_itN _ _ | exact mo_boolOf _ | exact mo_truB _ | exact mo_crR _ | exact mo_crF _ | exact mo_sortL _ | exact mo_cat _ _ | exact mo_rep _ _  | exact mo_setR (mo_setV _ _) | exact mo_setR (mo_setO _ _) | exact mo_setR (mo_asgT _ _) | exact mo_setR (mo_modO _ _) | exact mo_setR (mo_modD _ _ _) | exact mo_setR (mo_setPs _ _) | exact mo_setR (moO_aug _ _)  | refine mo_compR ?_ ?_ ?_ _ | refine mo_compDR ?_ ?_ ?_ ?_ _ | refine mo_forL (mo_asgT _) ?_ _ | refine mo_whileL ?_ ?_ _  | refine mo_andV ?_ _ | refine mo_orV ?_ _ | refine mo_thenS ?_ _ | refine mo_chn ?_ _  | refine mo_bind ?_ ?_ | refine mo_ite ?_ ?_ | intro _)
  | .retF f => by
    have h1 := mF G f
    show Mo (evS G (.retF f))
    unfold evS
    repeat' (first  | assumption  | exact mo_pure _ | exact mo_bad | exact mo_err _ | exact mo_lift _ | exact mo_liftB _ | exact mo_rdV _ | exact mo_rdL _ | exact mo_rdO _ | exact mo_rdB _ | exact mo_popR _ | exact mo_popAt _ _ | exact mo_callM _ _ _ | exact mo_callMO _ _ _ | exact mo_movR _  | exact mo_few _ | exact mo_itN _ _ | exact mo_boolOf _ | exact mo_truB _ | exact mo_crR _ | exact mo_crF _ | exact mo_sortL _ | exact mo_cat _ _ | exact mo_rep _ _  | exact mo_setR (mo_setV _ _) | exact mo_setR (mo_setO _ _) | exact mo_setR (mo_asgT _ _) | exact mo_setR (mo_modO _ _) | exact mo_setR (mo_modD _ _ _) | exact mo_setR (mo_setPs _ _) | exact mo_setR (moO_aug _ _)  | refine mo_compR ?_ ?_ ?_ _ | refine mo_compDR ?_ ?_ ?_ ?_ _ | refine mo_forL (mo_asgT _) ?_ _ | refine mo_whileL ?_ ?_ _  | refine mo_andV ?_ _ | refine mo_orV ?_ _ | refine mo_thenS ?_ _ | refine mo_chn ?_ _  | refine mo_bind ?_ ?_ | refine mo_ite ?_ ?_ | intro _)
  | .retN => by
    show Mo (evS G (.retN))
    unfold evS
    repeat' (first  | assumption  | exact mo_pure _ | exact mo_bad | exact mo_err _ | exact mo_lift _ | exact mo_liftB _ | exact mo_rdV _ | exact mo_rdL _ | exact mo_rdO _ | exact mo_rdB _ | exact mo_popR _ | exact mo_popAt _ _ | exact mo_callM _ _ _ | exact mo_callMO _ _ _ | exact mo_movR _  | exact mo_few _ | exact mo_itN _ _ | exact mo_boolOf _ | exact mo_truB _ | exact mo_crR _ | exact mo_crF _ | exact mo_sortL _ | exact mo_cat _ _ | exact mo_rep _ _  | exact mo_setR (mo_setV _ _) | exact mo_setR (mo_setO _ _) | exact mo_setR (mo_asgT _ _) | exact mo_setR (mo_modO _ _) | exact mo_setR (mo_modD _ _ _) | exact mo_setR (mo_setPs _ _) | exact mo_setR (moO_aug _ _)  | refine mo_compR ?_ ?_ ?_ _ | refine mo_compDR ?_ ?_ ?_ ?_ _ | refine mo_forL (mo_asgT _) ?_ _ | refine mo_whileL ?_ ?_ _  | refine mo_andV ?_ _ | refine mo_orV ?_ _ | refine mo_thenS ?_ _ | refine mo_chn ?_ _  | refine mo_bind ?_ ?_ | refine mo_ite ?_ ?_ | intro _)
  | .ife t a b => by
    have h1 := mB G t
    have h2 := mSs a
    have h3 := mSs b
    show Mo (evS G (.ife t a b))
    unfold evS
    repeat' (first  | assumption  | exact mo_pure _ | exact mo_bad | exact mo_err _ | exact mo_lift _ | exact mo_liftB _ | exact mo_rdV _ | exact mo_rdL _ | exact mo_rdO _ | exact mo_rdB _ | exact mo_popR _ | exact mo_popAt _ _ | exact mo_callM _ _ _ | exact mo_callMO _ _ _ | exact mo_movR _  | exact mo_few _ | exact mo_itN _ _ | exact mo_boolOf _ | exact mo_truB _ | exact mo_crR _ | exact mo_crF _ | exact mo_sortL _ | exact mo_cat _ _ | exact mo_rep _ _  | exact mo_setR (mo_setV _ _) | exact mo_setR (mo_setO _ _) | exact mo_setR (mo_asgT _ _) | exact mo_setR (mo_modO _ _) | exact mo_setR (mo_modD _ _ _) | exact mo_setR (mo_setPs _ _) | exact mo_setR (moO_aug _ _)  | refine mo_compR ?_ ?_ ?_ _ | refine mo_compDR ?_ ?_ ?_ ?_ _ | refine mo_forL (mo_asgT _) ?_ _ | refine mo_whileL ?_ ?_ _  | refine mo_andV ?_ _ | refine mo_orV ?_ _ | refine mo_thenS ?_ _ | refine mo_chn ?_ _  | refine mo_bind ?_ ?_ | refine mo_ite ?_ ?_ | intro _)
  | .asg i e => by
    have h1 := mE G e
    show Mo (evS G (.asg i e))
    unfold evS
    repeat' (first  | assumption  | exact mo_pure _ | exact mo_bad | exact mo_err _ | exact mo_lift _ | exact mo_liftB _ | exact mo_rdV _ | exact mo_rdL _ | exact mo_rdO _ | exact mo_rdB _ | exact mo_popR _ | exact mo_popAt _ _ | exact mo_callM _ _ _ | exact mo_callMO _ _ _ | exact mo_movR _  | exact mo_few _ | exact mo_itN _ _ | exact mo_boolOf _ | exact mo_truB _ | exact mo_crR _ | exact mo_crF _ | exact mo_sortL _ | exact mo_cat _ _ | exact mo_rep _ _  | exact mo_setR (mo_setV _ _) | exact mo_setR (mo_setO _ _) | exact mo_setR (mo_asgT _ _) | exact mo_setR (mo_modO _ _) | exact mo_setR (mo_modD _ _ _) | exact mo_setR (mo_setPs _ _) | exact mo_setR (moO_aug _ _)  | refine mo_compR ?_ ?_ ?_ _ | refine mo_compDR ?_ ?_ ?_ ?_ _ | refine mo_forL (mo_asgT _) ?_ _ | refine mo_whileL ?_ ?_ _  | refine mo_andV ?_ _ | refine mo_orV ?_ _ | refine mo_thenS ?_ _ | refine mo_chn ?_ _  | refine mo_bind ?_ ?_ | refine mo_ite ?_ ?_ | intro _)
  | .asgF i f => by
    have h1 := mF G f
    show Mo (evS G (.asgF i f))
    unfold evS
    repeat' (first  | assumption  | exact mo_pure _ | exact mo_bad | exact mo_err _ | exact mo_lift _ | exact mo_liftB _ | exact mo_rdV _ | exact mo_rdL _ | exact mo_rdO _ | exact mo_rdB _ | exact mo_popR _ | exact mo_popAt _ _ | exact mo_callM _ _ _ | exact mo_callMO _ _ _ | exact mo_movR _  | exact mo_few _ | exact mo_itN _ _ | exact mo_boolOf _ | exact mo_truB _ | exact mo_crR _ | exact mo_crF _ | exact mo_sortL _ | exact mo_cat _ _ | exact mo_rep _ _  | exact mo_setR (mo_setV _ _) | exact mo_setR (mo_setO _ _) | exact mo_setR (mo_asgT _ _) | exact mo_setR (mo_modO _ _) | exact mo_setR (mo_modD _ _ _) | exact mo_setR (mo_setPs _ _) | exact mo_setR (moO_aug _ _)  | refine mo_compR ?_ ?_ ?_ _ | refine mo_compDR ?_ ?_ ?_ ?_ _ | refine mo_forL (mo_asgT _) ?_ _ | refine mo_whileL ?_ ?_ _  | refine mo_andV ?_ _ | refine mo_orV ?_ _ | refine mo_thenS ?_ _ | refine mo_chn ?_ _  | refine mo_bind ?_ ?_ | refine mo_ite ?_ ?_ | intro _)
  | .asgT tg e => by
    have h1 := mE G e
    show Mo (evS G (.asgT tg e))
    unfold evS
    repeat' (first  | assumption  | exact mo_pure _ | exact mo_bad | exact mo_err _ | exact mo_lift _ | exact mo_liftB _ | exact mo_rdV _ | exact mo_rdL _ | exact mo_rdO _ | exact mo_rdB _ | exact mo_popR _ | exact mo_popAt _ _ | exact mo_callM _ _ _ | exact mo_callMO _ _ _ | exact mo_movR _  | exact mo_few _ | exact mo_itN _ _ | exact mo_boolOf _ | exact mo_truB _ | exact mo_crR _ | exact mo_crF _ | exact mo_sortL _ | exact mo_cat _ _ | exact mo_rep _ _  | exact mo_setR (mo_setV _ _) | exact mo_setR (mo_setO _ _) | exact mo_setR (mo_asgT _ _) | exact mo_setR (mo_modO _ _) | exact mo_setR (mo_modD _ _ _) | exact mo_setR (mo_setPs _ _) | exact mo_setR (moO_aug _ _)  | refine mo_compR ?_ ?_ ?_ _ | refine mo_compDR ?_ ?_ ?_ ?_ _ | refine mo_forL (mo_asgT _) ?_ _ | refine mo_whileL ?_ ?_ _  | refine mo_andV ?_ _ | refine mo_orV ?_ _ | refine mo_thenS ?_ _ | refine mo_chn ?_ _  | refine mo_bind ?_ ?_ | refine mo_ite ?_ ?_ | intro _)
  | .own i f => by
    have h1 := mF G f
    show Mo (evS G (.own i f))
    unfold evS
    repeat' (first  | assumption  | exact mo_pure _ | exact mo_bad | exact mo_err _ | exact mo_lift _ | exact mo_liftB _ | exact mo_rdV _ | exact mo_rdL _ | exact mo_rdO _ | exact mo_rdB _ | exact mo_popR _ | exact mo_popAt _ _ | exact mo_callM _ _ _ | exact mo_callMO _ _ _ | exact mo_movR _  | exact mo_few _ | exact mo_itN _ _ | exact mo_boolOf _ | exact mo_truB _ | exact mo_crR _ | exact mo_crF _ | exact mo_sortL _ | exact mo_cat _ _ | exact mo_rep _ _  | exact mo_setR (mo_setV _ _) | exact mo_setR (mo_setO _ _) | exact mo_setR (mo_asgT _ _) | exact mo_setR (mo_modO _ _) | exact mo_setR (mo_modD _ _ _) | exact mo_setR (mo_setPs _ _) | exact mo_setR (moO_aug _ _)  | refine mo_compR ?_ ?_ ?_ _ | refine mo_compDR ?_ ?_ ?_ ?_ _ | refine mo_forL (mo_asgT _) ?_ _ | refine mo_whileL ?_ ?_ _  | refine mo_andV ?_ _ | refine mo_orV ?_ _ | refine mo_thenS ?_ _ | refine mo_chn ?_ _  | refine mo_bind ?_ ?_ | refine mo_ite ?_ ?_ | intro _)
  | .aug op i e => by
    have h1 := mE G e
    show Mo (evS G (.aug op i e))
    unfold evS
    repeat' (first  | assumption  | exact mo_pure _ | exact mo_bad | exact mo_err _ | exact mo_lift _ | exact mo_liftB _ | exact mo_rdV _ | exact mo_rdL _ | exact mo_rdO _ | exact mo_rdB _ | exact mo_popR _ | exact mo_popAt _ _ | exact mo_callM _ _ _ | exact mo_callMO _ _ _ | exact mo_movR _  | exact mo_few _ | exact mo_itN _ _ | exact mo_boolOf _ | exact mo_truB _ | exact mo_crR _ | exact mo_crF _ | exact mo_sortL _ | exact mo_cat _ _ | exact mo_rep _ _  | exact mo_setR (mo_setV _ _) | exact mo_setR (mo_setO _ _) | exact mo_setR (mo_asgT _ _) | exact mo_setR (mo_modO _ _) | exact mo_setR (mo_modD _ _ _) | exact mo_setR (mo_setPs _ _) | exact mo_setR (moO_aug _ _)  | refine mo_compR ?_ ?_ ?_ _ | refine mo_compDR ?_ ?_ ?_ ?_ _ | refine mo_forL (mo_asgT _) ?_ _ | refine mo_whileL ?_ ?_ _  | refine mo_andV ?_ _ | refine mo_orV ?_ _ | refine mo_thenS ?_ _ | refine mo_chn ?_ _  | refine mo_bind ?_ ?_ | refine mo_ite ?_ ?_ | intro _)
  | .app i e => by
    have h1 := mE G e
    show Mo (evS G (.app i e))
    unfold evS
    repeat' (first  | assumption  | exact mo_pure _ | exact mo_bad | exact mo_err _ | exact mo_lift _ | exact mo_liftB _ | exact mo_rdV _ | exact mo_rdL _ | exact mo_rdO _ | exact mo_rdB _ | exact mo_popR _ | exact mo_popAt _ _ | exact mo_callM _ _ _ | exact mo_callMO _ _ _ | exact mo_movR _  | exact mo_few _ | exact mo_itN _ _ | exact mo_boolOf _ | exact mo_truB _ | exact mo_crR _ | exact mo_crF _ | exact mo_sortL _ | exact mo_cat _ _ | exact mo_rep _ _  | exact mo_setR (mo_setV _ _) | exact mo_setR (mo_setO _ _) | exact mo_setR (mo_asgT _ _) | exact mo_setR (mo_modO _ _) | exact mo_setR (mo_modD _ _ _) | exact mo_setR (mo_setPs _ _) | exact mo_setR (moO_aug _ _)  | refine mo_compR ?_ ?_ ?_ _ | refine mo_compDR ?_ ?_ ?_ ?_ _ | refine mo_forL (mo_asgT _) ?_ _ | refine mo_whileL ?_ ?_ _  | refine mo_andV ?_ _ | refine mo_orV ?_ _ | refine mo_thenS ?_ _ | refine mo_chn ?_ _  | refine mo_bind ?_ ?_ | refine mo_ite ?_ ?_ | intro _)
  | .ext i e => by
    have h1 := mE G e
    show Mo (evS G (.ext i e))
    unfold evS
    repeat' (first  | assumption  | exact mo_pure _ | exact mo_bad | exact mo_err _ | exact mo_lift _ | exact mo_liftB _ | exact mo_rdV _ | exact mo_rdL _ | exact mo_rdO _ | exact mo_rdB _ | exact mo_popR _ | exact mo_popAt _ _ | exact mo_callM _ _ _ | exact mo_callMO _ _ _ | exact mo_movR _  | exact mo_few _ | exact mo_itN _ _ | exact mo_boolOf _ | exact mo_truB _ | exact mo_crR _ | exact mo_crF _ | exact mo_sortL _ | exact mo_cat _ _ | exact mo_rep _ _  | exact mo_setR (mo_setV _ _) | exact mo_setR (mo_setO _ _) | exact mo_setR (mo_asgT _ _) | exact mo_setR (mo_modO _ _) | exact mo_setR (mo_modD _ _ _) | exact mo_setR (mo_setPs _ _) | exact mo_setR (moO_aug _ _)  | refine mo_compR ?_ ?_ ?_ _ | refine mo_compDR ?_ ?_ ?_ ?_ _ | refine mo_forL (mo_asgT _) ?_ _ | refine mo_whileL ?_ ?_ _  | refine mo_andV ?_ _ | refine mo_orV ?_ _ | refine mo_thenS ?_ _ | refine mo_chn ?_ _  | refine mo_bind ?_ ?_ | refine mo_ite ?_ ?_ | intro _)
  | .setI i b e => by
    have h1 := mE G b
    have h2 := mE G e
    show Mo (evS G (.setI i b e))
    unfold evS
    repeat' (first  | assumption  | exact mo_pure _ | exact mo_bad | exact mo_err _ | exact mo_lift _ | exact mo_liftB _ | exact mo_rdV _ | exact mo_rdL _ | exact mo_rdO _ | exact mo_rdB _ | exact mo_popR _ | exact mo_popAt _ _ | exact mo_callM _ _ _ | exact mo_callMO _ _ _ | exact mo_movR _  | exact mo_few _ | exact mo_itN _ _ | exact mo_boolOf _ | exact mo_truB _ | exact mo_crR _ | exact mo_crF _ | exact mo_sortL _ | exact mo_cat _ _ | exact mo_rep _ _  | exact mo_setR (mo_setV _ _) | exact mo_setR (mo_setO _ _) | exact mo_setR (mo_asgT _ _) | exact mo_setR (mo_modO _ _) | exact mo_setR (mo_modD _ _ _) | exact mo_setR (mo_setPs _ _) | exact mo_setR (moO_aug _ _)  | refine mo_compR ?_ ?_ ?_ _ | refine mo_compDR ?_ ?_ ?_ ?_ _ | refine mo_forL (mo_asgT _) ?_ _ | refine mo_whileL ?_ ?_ _  | refine mo_andV ?_ _ | refine mo_orV ?_ _ | refine mo_thenS ?_ _ | refine mo_chn ?_ _  | refine mo_bind ?_ ?_ | refine mo_ite ?_ ?_ | intro _)
  | .putI i b e => by
    have h1 := mE G b
    have h2 := mE G e
    show Mo (evS G (.putI i b e))
    unfold evS
    repeat' (first  | assumption  | exact mo_pure _ | exact mo_bad | exact mo_err _ | exact mo_lift _ | exact mo_liftB _ | exact mo_rdV _ | exact mo_rdL _ | exact mo_rdO _ | exact mo_rdB _ | exact mo_popR _ | exact mo_popAt _ _ | exact mo_callM _ _ _ | exact mo_callMO _ _ _ | exact mo_movR _  | exact mo_few _ | exact mo_itN _ _ | exact mo_boolOf _ | exact mo_truB _ | exact mo_crR _ | exact mo_crF _ | exact mo_sortL _ | exact mo_cat _ _ | exact mo_rep _ _  | exact mo_setR (mo_setV _ _) | exact mo_setR (mo_setO _ _) | exact mo_setR (mo_asgT _ _) | exact mo_setR (mo_modO _ _) | exact mo_setR (mo_modD _ _ _) | exact mo_setR (mo_setPs _ _) | exact mo_setR (moO_aug _ _)  | refine mo_compR ?_ ?_ ?_ _ | refine mo_compDR ?_ ?_ ?_ ?_ _ | refine mo_forL (mo_asgT _) ?_ _ | refine mo_whileL ?_ ?_ _  | refine mo_andV ?_ _ | refine mo_orV ?_ _ | refine mo_thenS ?_ _ | refine mo_chn ?_ _  | refine mo_bind ?_ ?_ | refine mo_ite ?_ ?_ | intro _)
  | .ownD i g => by
    have h1 := mG G g
    show Mo (evS G (.ownD i g))
    unfold evS
    repeat' (first  | assumption  | exact mo_pure _ | exact mo_bad | exact mo_err _ | exact mo_lift _ | exact mo_liftB _ | exact mo_rdV _ | exact mo_rdL _ | exact mo_rdO _ | exact mo_rdB _ | exact mo_popR _ | exact mo_popAt _ _ | exact mo_callM _ _ _ | exact mo_callMO _ _ _ | exact mo_movR _  | exact mo_few _ | exact mo_itN _ _ | exact mo_boolOf _ | exact mo_truB _ | exact mo_crR _ | exact mo_crF _ | exact mo_sortL _ | exact mo_cat _ _ | exact mo_rep _ _  | exact mo_setR (mo_setV _ _) | exact mo_setR (mo_setO _ _) | exact mo_setR (mo_asgT _ _) | exact mo_setR (mo_modO _ _) | exact mo_setR (mo_modD _ _ _) | exact mo_setR (mo_setPs _ _) | exact mo_setR (moO_aug _ _)  | refine mo_compR ?_ ?_ ?_ _ | refine mo_compDR ?_ ?_ ?_ ?_ _ | refine mo_forL (mo_asgT _) ?_ _ | refine mo_whileL ?_ ?_ _  | refine mo_andV ?_ _ | refine mo_orV ?_ _ | refine mo_thenS ?_ _ | refine mo_chn ?_ _  | refine mo_bind ?_ ?_ | refine mo_ite ?_ ?_ | intro _)
  | .for tg it b => by
    have h1 := mI G it
    have h2 := mSs b
    show Mo (evS G (.for tg it b))
    unfold evS
    repeat' (first  | assumption  | exact mo_pure _ | exact mo_bad | exact mo_err _ | exact mo_lift _ | exact mo_liftB _ | exact mo_rdV _ | exact mo_rdL _ | exact mo_rdO _ | exact mo_rdB _ | exact mo_popR _ | exact mo_popAt _ _ | exact mo_callM _ _ _ | exact mo_callMO _ _ _ | exact mo_movR _  | exact mo_few _ | exact mo_itN _ _ | exact mo_boolOf _ | exact mo_truB _ | exact mo_crR _ | exact mo_crF _ | exact mo_sortL _ | exact mo_cat _ _ | exact mo_rep _ _  | exact mo_setR (mo_setV _ _) | exact mo_setR (mo_setO _ _) | exact mo_setR (mo_asgT _ _) | exact mo_setR (mo_modO _ _) | exact mo_setR (mo_modD _ _ _) | exact mo_setR (mo_setPs _ _) | exact mo_setR (moO_aug _ _)  | refine mo_compR ?_ ?_ ?_ _ | refine mo_compDR ?_ ?_ ?_ ?_ _ | refine mo_forL (mo_asgT _) ?_ _ | refine mo_whileL ?_ ?_ _  | refine mo_andV ?_ _ | refine mo_orV ?_ _ | refine mo_thenS ?_ _ | refine mo_chn ?_ _  | refine mo_bind ?_ ?_ | refine mo_ite ?_ ?_ | intro _)
  | .whl n t b => by
    have h1 := mB G t
    have h2 := mSs b
    show Mo (evS G (.whl n t b))
    unfold evS
    repeat' (first  | assumption  | exact mo_pure _ | exact mo_bad | exact mo_err _ | exact mo_lift _ | exact mo_liftB _ | exact mo_rdV _ | exact mo_rdL _ | exact mo_rdO _ | exact mo_rdB _ | exact mo_popR _ | exact mo_popAt _ _ | exact mo_callM _ _ _ | exact mo_callMO _ _ _ | exact mo_movR _  | exact mo_few _ | exact mo_itN _ _ | exact mo_boolOf _ | exact mo_truB _ | exact mo_crR _ | exact mo_crF _ | exact mo_sortL _ | exact mo_cat _ _ | exact mo_rep _ _  | exact mo_setR (mo_setV _ _) | exact mo_setR (mo_setO _ _) | exact mo_setR (mo_asgT _ _) | exact mo_setR (mo_modO _ _) | exact mo_setR (mo_modD _ _ _) | exact mo_setR (mo_setPs _ _) | exact mo_setR (moO_aug _ _)  | refine mo_compR ?_ ?_ ?_ _ | refine mo_compDR ?_ ?_ ?_ ?_ _ | refine mo_forL (mo_asgT _) ?_ _ | refine mo_whileL ?_ ?_ _  | refine mo_andV ?_ _ | refine mo_orV ?_ _ | refine mo_thenS ?_ _ | refine mo_chn ?_ _  | refine mo_bind ?_ ?_ | refine mo_ite ?_ ?_ | intro _)
  | .expr e => by
    have h1 := mE G e
    show Mo (evS G (.expr e))
    unfold evS
    repeat' (first  | assumption  | exact mo_pure _ | exact mo_bad | exact mo_err _ | exact mo_lift _ | exact mo_liftB _ | exact mo_rdV _ | exact mo_rdL _ | exact mo_rdO _ | exact mo_rdB _ | exact mo_popR _ | exact mo_popAt _ _ | exact mo_callM _ _ _ | exact mo_callMO _ _ _ | exact mo_movR _  | exact mo_few _ | exact mo_itN _ _ | exact mo_boolOf _ | exact mo_truB _ | exact mo_crR _ | exact mo_crF _ | exact mo_sortL _ | exact mo_cat _ _ | exact mo_rep _ _  | exact mo_setR (mo_setV _ _) | exact mo_setR (mo_setO _ _) | exact mo_setR (mo_asgT _ _) | exact mo_setR (mo_modO _ _) | exact mo_setR (mo_modD _ _ _) | exact mo_setR (mo_setPs _ _) | exact mo_setR (moO_aug _ _)  | refine mo_compR ?_ ?_ ?_ _ | refine mo_compDR ?_ ?_ ?_ ?_ _ | refine mo_forL (mo_asgT _) ?_ _ | refine mo_whileL ?_ ?_ _  | refine mo_andV ?_ _ | refine mo_orV ?_ _ | refine mo_thenS ?_ _ | refine mo_chn ?_ _  | refine mo_bind ?_ ?_ | refine mo_ite ?_ ?_ | intro _)
  | .doc => by
    show Mo (evS G (.doc))
    unfold evS
    repeat' (first  | assumption  | exact mo_pure _ | exact mo_bad | exact mo_err _ | exact mo_lift _ | exact mo_liftB _ | exact mo_rdV _ | exact mo_rdL _ | exact mo_rdO _ | exact mo_rdB _ | exact mo_popR _ | exact mo_popAt _ _ | exact mo_callM _ _ _ | exact mo_callMO _ _ _ | exact mo_movR _  | exact mo_few _ | exact mo_itN _ _ | exact mo_boolOf _ | exact mo_truB _ | exact mo_crR _ | exact mo_crF _ | exact mo_sortL _ | exact mo_cat _ _ | exact mo_rep _ _  | exact mo_setR (mo_setV _ _) | exact mo_setR (mo_setO _ _) | exact mo_setR (mo_asgT _ _) | exact mo_setR (mo_modO _ _) | exact mo_setR (mo_modD _ _ _) | exact mo_setR (mo_setPs _ _) | exact mo_setR (moO_aug _ _)  | refine mo_compR ?_ ?_ ?_ _ | refine mo_compDR ?_ ?_ ?_ ?_ _ | refine mo_forL (mo_asgT _) ?_ _ | refine mo_whileL ?_ ?_ _  | refine mo_andV ?_ _ | refine mo_orV ?_ _ | refine mo_thenS ?_ _ | refine mo_chn ?_ _  | refine mo_bind ?_ ?_ | refine mo_ite ?_ ?_ | intro _)
  | .rse k => by
    show Mo (evS G (.rse k))
    unfold evS
    repeat' (first  | assumption  | exact mo_pure _ | exact mo_bad | exact mo_err _ | exact mo_lift _ | exact mo_liftB _ | exact mo_rdV _ | exact mo_rdL _ | exact mo_rdO _ | exact mo_rdB _ | exact mo_popR _ | exact mo_popAt _ _ | exact mo_callM _ _ _ | exact mo_callMO _ _ _ | exact mo_movR _  | exact mo_few _ | exact mo_itN _ _ | exact mo_boolOf _ | exact mo_truB _ | exact mo_crR _ | exact mo_crF _ | exact mo_sortL _ | exact mo_cat _ _ | exact mo_rep _ _  | exact mo_setR (mo_setV _ _) | exact mo_setR (mo_setO _ _) | exact mo_setR (mo_asgT _ _) | exact mo_setR (mo_modO _ _) | exact mo_setR (mo_modD _ _ _) | exact mo_setR (mo_setPs _ _) | exact mo_setR (moO_aug _ _)  | refine mo_compR ?_ ?_ ?_ _ | refine mo_compDR ?_ ?_ ?_ ?_ _ | refine mo_forL (mo_asgT _) ?_ _ | refine mo_whileL ?_ ?_ _  | refine mo_andV ?_ _ | refine mo_orV ?_ _ | refine mo_thenS ?_ _ | refine mo_chn ?_ _  | refine mo_bind ?_ ?_ | refine mo_ite ?_ ?_ | intro _)
  | .par is p => by
    have h1 := mP G p
    show Mo (evS G (.par is p))
    unfold evS
    unfold parR
    repeat' (first  | assumption  | exact mo_pure _ | exact mo_bad | exact mo_err _ | exact mo_lift _ | exact mo_liftB _ | exact mo_rdV _ | exact mo_rdL _ | exact mo_rdO _ | exact mo_rdB _ | exact mo_popR _ | exact mo_popAt _ _ | exact mo_callM _ _ _ | exact mo_callMO _ _ _ | exact mo_movR _  | exact mo_few _ | exact mo_itN _ _ | exact mo_boolOf _ | exact mo_truB _ | exact mo_crR _ | exact mo_crF _ | exact mo_sortL _ | exact mo_cat _ _ | exact mo_rep _ _  | exact mo_setR (mo_setV _ _) | exact mo_setR (mo_setO _ _) | exact mo_setR (mo_asgT _ _) | exact mo_setR (mo_modO _ _) | exact mo_setR (mo_modD _ _ _) | exact mo_setR (mo_setPs _ _) | exact mo_setR (moO_aug _ _)  | refine mo_compR ?_ ?_ ?_ _ | refine mo_compDR ?_ ?_ ?_ ?_ _ | refine mo_forL (mo_asgT _) ?_ _ | refine mo_whileL ?_ ?_ _  | refine mo_andV ?_ _ | refine mo_orV ?_ _ | refine mo_thenS ?_ _ | refine mo_chn ?_ _  | refine mo_bind ?_ ?_ | refine mo_ite ?_ ?_ | intro _)
  | .tri nC b hs => by
    have h1 := mSs b
    show Mo (evS G (.tri nC b hs))
    unfold evS
    exact fun ρ' ρ l => rle_tri (h1 _ _ l)
  | .trn nC i k j s0 s1 b => by
    have h1 := mSs b
    show Mo (evS G (.trn nC i k j s0 s1 b))
    unfold evS
    exact fun ρ' ρ l => rle_trn (h1 _ _ l)
theorem mSs : ∀ x : Ss, Mo (evSs G x)
  | .nil => by
    show Mo (evSs G (.nil))
    unfold evSs
    repeat' (first  | assumption  | exact mo_pure _ | exact mo_bad | exact mo_err _ | exact mo_lift _ | exact mo_liftB _ | exact mo_rdV _ | exact mo_rdL _ | exact mo_rdO _ | exact mo_rdB _ | exact mo_popR _ | exact mo_popAt _ _ | exact mo_callM _ _ _ | exact mo_callMO _ _ _ | exact mo_movR _  | exact mo_few _ | exact mo_itN _ _ | exact mo_boolOf _ | exact mo_truB _ | exact mo_crR _ | exact mo_crF _ | exact mo_sortL _ | exact mo_cat _ _ | exact mo_rep _ _  | exact mo_setR (mo_setV _ _) | exact mo_setR (mo_setO _ _) | exact mo_setR (mo_asgT _ _) | exact mo_setR (mo_modO _ _) | exact mo_setR (mo_modD _ _ _) | exact mo_setR (mo_setPs _ _) | exact mo_setR (moO_aug _ _)  | refine mo_compR ?_ ?_ ?_ _ | refine mo_compDR ?_ ?_ ?_ ?_ _ | refine mo_forL (mo_asgT _) ?_ _ | refine mo_whileL ?_ ?_ _  | refine mo_andV ?_ _ | refine mo_orV ?_ _ | refine mo_thenS ?_ _ | refine mo_chn ?_ _  | refine mo_bind ?_ ?_ | refine mo_ite ?_ ?_ | intro _)
  | .cons s r => by
    have h1 := mS s
    have h2 := mSs r
    show Mo (evSs G (.cons s r))
    unfold evSs
    repeat' (first  | assumption  | exact mo_pure _ | exact mo_bad | exact mo_err _ | exact mo_lift _ | exact mo_liftB _ | exact mo_rdV _ | exact mo_rdL _ | exact mo_rdO _ | exact mo_rdB _ | exact mo_popR _ | exact mo_popAt _ _ | exact mo_callM _ _ _ | exact mo_callMO _ _ _ | exact mo_movR _  | exact mo_few _ | exact mo_itN _ _ | exact mo_boolOf _ | exact mo_truB _ | exact mo_crR _ | exact mo_crF _ | exact mo_sortL _ | exact mo_cat _ _ | exact mo_rep _ _  | exact mo_setR (mo_setV _ _) | exact mo_setR (mo_setO _ _) | exact mo_setR (mo_asgT _ _) | exact mo_setR (mo_modO _ _) | exact mo_setR (mo_modD _ _ _) | exact mo_setR (mo_setPs _ _) | exact mo_setR (moO_aug _ _)  | refine mo_compR ?_ ?_ ?_ _ | refine mo_compDR ?_ ?_ ?_ ?_ _ | refine mo_forL (mo_asgT _) ?_ _ | refine mo_whileL ?_ ?_ _  | refine mo_andV ?_ _ | refine mo_orV ?_ _ | refine mo_thenS ?_ _ | refine mo_chn ?_ _  | refine mo_bind ?_ ?_ | refine mo_ite ?_ ?_ | intro _)
end
end
/-- what holds behind a run from less holds behind a run from more -/
class Up (Q : Fl → En → Prop) : Prop where
  up : ∀ f ρ' ρ, Le ρ' ρ → Q f ρ' → Q f ρ
theorem wp_le {α : Type} {f : En → R α} {Q Q' : α → En → Prop} {ρ' ρ : En} (m : Mo f) (l : Le ρ' ρ) (h : Wp (f ρ') Q) (q : ∀ a ρ1' ρ1, Le ρ1' ρ1 → Q a ρ1' → Q' a ρ1) : Wp (f ρ) Q' := by
  obtain ⟨a, ρ1, e, q1⟩ := h.ex
  have := m _ _ l
  rw [e] at this
  obtain ⟨ρ2, e2, l2⟩ := this
  exact Wp_of e2 (q _ _ _ l2 q1)
instance up_p (p : Fl → Prop) : Up (fun f _ => p f) := ⟨fun _ _ _ _ h => h⟩
instance up_thenS {G : Gs} {r : Ss} {Q : Fl → En → Prop} [u : Up Q] : Up (fun f ρ => Wp (thenS (evSs G r) f ρ) Q) := ⟨fun f _ _ l h => wp_le (mo_thenS (mSs G r) f) l h fun a _ _ l1 q => u.up a _ _ l1 q⟩
instance up_retD {J : D → Prop} : Up (retD J) := ⟨fun f _ _ _ h => h⟩
instance up_retF {J : List D → Prop} : Up (retF J) := ⟨fun f _ _ _ h => h⟩
instance up_retM {J : D → List D → Prop} : Up (retM J) := ⟨fun f ρ' ρ l h => by
  cases f with
  | rt d =>
    cases ρ' with
    | nil => exact h.elim
    | cons s r =>
      cases s with
      | ow io b => cases io with
        | true =>
          cases b with
          | lst ys =>
            cases ρ with
            | nil => exact l.elim
            | cons t r2 => cases leS_ow l.1; exact h
          | _ => exact h.elim
        | false => cases b <;> exact h.elim
      | _ => exact h.elim
  | nx =>
    cases ρ' with
    | nil => exact h.elim
    | cons s r =>
      cases s with
      | ow io b => cases io with
        | true =>
          cases b with
          | lst ys =>
            cases ρ with
            | nil => exact l.elim
            | cons t r2 => cases leS_ow l.1; exact h
          | _ => exact h.elim
        | false => cases b <;> exact h.elim
      | _ => exact h.elim
  | _ => exact h.elim⟩
/-- a set of environments that may only grow -/
class UpE (J : En → Prop) : Prop where
  up : ∀ ρ' ρ, Le ρ' ρ → J ρ' → J ρ
instance up_fw {Q : Fl → En → Prop} {J : En → Prop} [u : Up Q] [v : UpE J] : Up (fw Q J) := ⟨fun f ρ' ρ l h => by
  cases f with
  | nx => exact v.up _ _ l h
  | ct => exact v.up _ _ l h
  | bk => exact u.up _ _ _ l h
  | rt d => exact u.up _ _ _ l h
  | rf d => exact u.up _ _ _ l h⟩
/-- names that are not wanted any more are forgotten -/
theorem wp_forget {G : Gs} {r : Ss} {Q : Fl → En → Prop} [u : Up Q] {ρ : En} (ρ' : En) (l : Le ρ' ρ) (h : Wp (evSs G r ρ') Q) : Wp (evSs G r ρ) Q := wp_le (mSs G r) l h fun a _ _ l1 q => u.up a _ _ l1 q
/-- a loop over a .. b-1; names that are not wanted any more may be left out of I -/
theorem wp_forU {G : Gs} {T : Tg} {b : Ss} {Q : Fl → En → Prop} [u : Up Q] (I : Nat → En → Prop) {a : Int} {n : Nat} {ρ : En} (h0 : ∃ ρ0, I 0 ρ0 ∧ Le ρ0 ρ)
    (hs : ∀ J : Nat → En → Prop, (∀ k, UpE (J k)) → (∀ k ρ0 ρ, I k ρ0 → Le ρ0 ρ → J k ρ) → ∀ k ρ, k < n → I k ρ → oW (asgT T (.int (a + (k : Int))) ρ) fun ρ1 => Wp (evSs G b ρ1) (fw Q (J (k + 1))))
    (he : ∀ ρ, I n ρ → Q .nx ρ) : Wp (forL (asgT T) (evSs G b) (nums a n) ρ) Q := by
  let J : Nat → En → Prop := fun k ρ => ∃ ρ0, I k ρ0 ∧ Le ρ0 ρ
  have uJ : ∀ k, UpE (J k) := fun k => ⟨fun _ _ l ⟨ρ0, i, l0⟩ => ⟨ρ0, i, le_trans l0 l⟩⟩
  refine wp_forN J h0 (fun J' hJ' k ρ hk ⟨ρ0, i, l0⟩ => ?_) fun ρ ⟨ρ0, i, l0⟩ => u.up _ _ _ l0 (he ρ0 i)
  have h := hs J uJ (fun k ρ0 ρ i l => ⟨ρ0, i, l⟩) k ρ0 hk i
  have ms := mo_asgT T (.int (a + (k : Int))) _ _ l0
  cases hg : asgT T (.int (a + (k : Int))) ρ0 with
  | none => rw [hg] at h; exact h.elim
  | some ρ1 =>
    rw [hg] at h ms
    obtain ⟨ρ2, e2, l2⟩ := ms
    rw [e2]
    refine wp_le (mSs G b) l2 h fun f ρ3' ρ3 l3 q => ?_
    have q := (@up_fw Q (J (k + 1)) u (uJ (k + 1))).up f _ _ l3 q
    cases f with
    | nx => exact hJ' _ _ q
    | ct => exact hJ' _ _ q
    | bk => exact q
    | rt d => exact q
    | rf d => exact q
/-- .. over a list -/
theorem wp_forUL {α : Type} {f : α → D} {G : Gs} {T : Tg} {b : Ss} {Q : Fl → En → Prop} [u : Up Q] (I : List α → En → Prop) {xs : List α} {ρ : En} (h0 : ∃ ρ0, I xs ρ0 ∧ Le ρ0 ρ)
    (hs : ∀ J : List α → En → Prop, (∀ ys, UpE (J ys)) → (∀ ys ρ0 ρ, I ys ρ0 → Le ρ0 ρ → J ys ρ) → ∀ y ys ρ, I (y :: ys) ρ → oW (asgT T (f y) ρ) fun ρ1 => Wp (evSs G b ρ1) (fw Q (J ys)))
    (he : ∀ ρ, I [] ρ → Q .nx ρ) : Wp (forL (asgT T) (evSs G b) (xs.map f) ρ) Q := by
  let J : List α → En → Prop := fun k ρ => ∃ ρ0, I k ρ0 ∧ Le ρ0 ρ
  have uJ : ∀ k, UpE (J k) := fun k => ⟨fun _ _ l ⟨ρ0, i, l0⟩ => ⟨ρ0, i, le_trans l0 l⟩⟩
  refine wp_for J h0 (fun J' hJ' y ys ρ ⟨ρ0, i, l0⟩ => ?_) fun ρ ⟨ρ0, i, l0⟩ => u.up _ _ _ l0 (he ρ0 i)
  have h := hs J uJ (fun k ρ0 ρ i l => ⟨ρ0, i, l⟩) y ys ρ0 i
  have ms := mo_asgT T (f y) _ _ l0
  cases hg : asgT T (f y) ρ0 with
  | none => rw [hg] at h; exact h.elim
  | some ρ1 =>
    rw [hg] at h ms
    obtain ⟨ρ2, e2, l2⟩ := ms
    rw [e2]
    refine wp_le (mSs G b) l2 h fun f ρ3' ρ3 l3 q => ?_
    have q := (@up_fw Q (J ys) u (uJ ys)).up f _ _ l3 q
    cases f with
    | nx => exact hJ' _ _ q
    | ct => exact hJ' _ _ q
    | bk => exact q
    | rt d => exact q
    | rf d => exact q
/-- while: a measure falls -/
theorem wp_whlU {G : Gs} {t : B} {b : Ss} {Q : Fl → En → Prop} [u : Up Q] (I : Nat → En → Prop) {m N : Nat} {ρ : En} (hN : m < N) (h0 : ∃ ρ0, I m ρ0 ∧ Le ρ0 ρ)
    (hs : ∀ J : Nat → En → Prop, (∀ k, UpE (J k)) → (∀ k ρ0 ρ, I k ρ0 → Le ρ0 ρ → J k ρ) → ∀ k ρ, I k ρ → Wp (evB G t ρ) fun c ρ1 => if c = true then Wp (evSs G b ρ1) (fw Q fun ρ2 => ∃ j, j < k ∧ J j ρ2) else Q .nx ρ1) :
    Wp (whileL (evB G t) (evSs G b) N ρ) Q := by
  let J : Nat → En → Prop := fun k ρ => ∃ ρ0, I k ρ0 ∧ Le ρ0 ρ
  have uJ : ∀ k, UpE (J k) := fun k => ⟨fun _ _ l ⟨ρ0, i, l0⟩ => ⟨ρ0, i, le_trans l0 l⟩⟩
  have uJ2 : ∀ k, UpE (fun ρ2 => ∃ j, j < k ∧ J j ρ2) := fun k => ⟨fun _ _ l ⟨j, hj, q⟩ => ⟨j, hj, (uJ j).up _ _ l q⟩⟩
  have go : ∀ (N m : Nat) (ρ : En), m < N → J m ρ → Wp (whileL (evB G t) (evSs G b) N ρ) Q := by
    intro N
    induction N with
    | zero => intro m ρ h; omega
    | succ N ih =>
      rintro m ρ hm ⟨ρ0, i, l0⟩
      have h := hs J uJ (fun k ρ0 ρ i l => ⟨ρ0, i, l⟩) m ρ0 i
      unfold whileL
      rw [Wp_bind]
      refine wp_le (mB G t) l0 h fun c ρ1' ρ1 l1 q => ?_
      cases c with
      | false =>
        rw [if_neg Bool.false_ne_true] at q ⊢
        rw [Wp_ok]
        exact u.up _ _ _ l1 q
      | true =>
        rw [if_pos rfl] at q ⊢
        rw [Wp_bind]
        refine wp_le (mSs G b) l1 q fun fl ρ3' ρ3 l3 q => ?_
        have q := (@up_fw Q _ u (uJ2 m)).up fl _ _ l3 q
        cases fl with
        | nx => obtain ⟨j, hj, q⟩ := q; exact ih j _ (by omega) q
        | ct => obtain ⟨j, hj, q⟩ := q; exact ih j _ (by omega) q
        | bk => exact Wp_of rfl q
        | rt d => exact Wp_of rfl q
        | rf d => exact Wp_of rfl q
  exact go N m ρ hN h0
end Ev

end
section
set_option maxHeartbeats 1000000
namespace Ev
open PySem PySem.Spec L2
/-! ### the last figures of a number, as a text -/
abbrev Sx (l : List Nat) : Str := ⟨l.toArray⟩
theorem Sx_inj {a b : List Nat} (h : Sx a = Sx b) : a = b := congrArg (fun x : Str => x.cps.toList) h
theorem Sx_cat (a b : List Nat) : Sx a ++ Sx b = Sx (a ++ b) := TL.ext_tl (TL.tl_append (Sx a) (Sx b))
theorem Sx_num (n : Nat) : Str.ofString (toString ((n : Nat) : Int)) = Sx (TL.numL n) := TL.ext_tl (TL.tl_num n)
@[simp] theorem Sx_tl (a : List Nat) : (Sx a).cps.toList = a := by simp [Sx]
@[simp] theorem Sx_len (a : List Nat) : (Sx a).length = a.length := by simp [Sx, Str.length]
theorem Sx_beq (a b : List Nat) : (Sx a == Sx b) = decide (a = b) := by
  rw [Bool.eq_iff_iff, beq_iff_eq, decide_eq_true_eq]
  exact ⟨Sx_inj, fun h => by rw [h]⟩
def dg : Nat → Nat → List Nat
  | 0, _ => []
  | d + 1, v => dg d (v / 10) ++ [48 + v % 10]
theorem dg_len : ∀ (d v : Nat), (dg d v).length = d
  | 0, _ => rfl
  | d + 1, v => by rw [dg, List.length_append, dg_len d]; rfl
theorem dg_all : ∀ (d v : Nat), NumText.AllDigits (dg d v)
  | 0, _ => fun c h => by cases h
  | d + 1, v => fun c h => by
    rw [dg] at h
    rcases List.mem_append.mp h with h | h
    · exact dg_all d _ c h
    · rw [List.mem_singleton.mp h]; have := Nat.mod_lt v (show 0 < 10 by decide); omega
theorem dg_val : ∀ (d v : Nat), NumText.digitsVal (dg d v) = v % 10 ^ d
  | 0, v => by rw [dg, Nat.pow_zero, Nat.mod_one]; rfl
  | d + 1, v => by
    have ih := dg_val d (v / 10)
    unfold NumText.digitsVal at ih ⊢
    rw [dg, List.foldl_append, ih]
    show (v / 10) % 10 ^ d * 10 + (48 + v % 10 - 48) = _
    rw [Nat.pow_succ, Nat.mul_comm (10 ^ d) 10, Nat.mod_mul]
    omega
theorem dg_mod (d v w : Nat) (h : v % 10 ^ d = w % 10 ^ d) : dg d v = dg d w := by
  induction d generalizing v w with
  | zero => rfl
  | succ d ih =>
    rw [Nat.pow_succ, Nat.mul_comm (10 ^ d) 10, Nat.mod_mul, Nat.mod_mul] at h
    have a := Nat.mod_lt v (show 0 < 10 by decide)
    have b := Nat.mod_lt w (show 0 < 10 by decide)
    have h1 : v % 10 = w % 10 := by omega
    have h2 : v / 10 % 10 ^ d = w / 10 % 10 ^ d := by omega
    rw [dg, dg, ih _ _ h2, h1]
theorem dg_eq {d v w : Nat} : dg d v = dg d w ↔ v % 10 ^ d = w % 10 ^ d := ⟨fun h => by rw [← dg_val, ← dg_val, h], dg_mod d v w⟩
theorem dg_mod' (d v : Nat) : dg d (v % 10 ^ d) = dg d v := dg_mod d _ _ (Nat.mod_mod _ _)
/-- str(v mod 10^d + 10^d) -/
theorem numL_dg : ∀ (d v : Nat), TL.numL (v % 10 ^ d + 10 ^ d) = 49 :: dg d v
  | 0, v => by rw [Nat.pow_zero, Nat.mod_one, dg, TL.numL_lt (by decide)]
  | d + 1, v => by
    have p : 0 < 10 ^ d := Nat.pow_pos (by decide)
    have e : v % 10 ^ (d + 1) = v % 10 + 10 * (v / 10 % 10 ^ d) := by rw [Nat.pow_succ, Nat.mul_comm (10 ^ d) 10, Nat.mod_mul]
    have e2 : 10 ^ (d + 1) = 10 * 10 ^ d := by rw [Nat.pow_succ, Nat.mul_comm]
    have a := Nat.mod_lt v (show 0 < 10 by decide)
    rw [TL.numL_step (by omega), show (v % 10 ^ (d + 1) + 10 ^ (d + 1)) / 10 = v / 10 % 10 ^ d + 10 ^ d by omega, show (v % 10 ^ (d + 1) + 10 ^ (d + 1)) % 10 = v % 10 by omega, numL_dg d, dg]
    rfl
theorem dg_zero : ∀ d : Nat, dg d 0 = List.replicate d 48
  | 0 => rfl
  | d + 1 => by rw [dg, dg_zero d, List.replicate_succ']
/-- the last signs of '00..' + str(v) -/
theorem last_dg : ∀ (d m v : Nat), d ≤ m + 1 → (List.replicate m 48 ++ TL.numL v).drop ((List.replicate m 48 ++ TL.numL v).length - d) = dg d v
  | 0, m, v, _ => by rw [Nat.sub_zero, List.drop_length]; rfl
  | d + 1, m, v, h => by
    by_cases c : v < 10
    · rw [TL.numL_lt c, dg, show v / 10 = 0 by omega, dg_zero, show v % 10 = v by omega, List.length_append, List.length_replicate, List.length_singleton,
        List.drop_append_of_le_length (by rw [List.length_replicate]; omega), List.drop_replicate, show m - (m + 1 - (d + 1)) = d by omega]
    · have ih := last_dg d m (v / 10) (by omega)
      rw [TL.numL_step (by omega), ← List.append_assoc, dg, ← ih]
      generalize hL : List.replicate m 48 ++ TL.numL (v / 10) = L
      rw [List.length_append, List.length_singleton, List.drop_append_of_le_length (by omega)]
      congr 2
      omega
/-- a text of figures is the last figures of its number -/
theorem dg_of : ∀ (cs : List Nat), NumText.AllDigits cs → ∃ w, cs = dg cs.length w := by
  intro cs
  induction h : cs.length generalizing cs with
  | zero => intro _; exact ⟨0, by rw [List.length_eq_zero_iff.mp h]; rfl⟩
  | succ n ih =>
    intro hd
    rcases List.eq_nil_or_concat cs with rfl | ⟨ds, c, rfl⟩
    · cases h
    · rw [List.concat_eq_append] at *
      rw [List.length_append, List.length_singleton] at h
      obtain ⟨w, e⟩ := ih ds (by omega) fun x hx => hd x (List.mem_append_left _ hx)
      have hc := hd c (List.mem_append_right _ List.mem_cons_self)
      refine ⟨10 * w + (c - 48), ?_⟩
      rw [dg, show (10 * w + (c - 48)) / 10 = w by omega, ← e, show 48 + (10 * w + (c - 48)) % 10 = c by omega]
theorem int_dg (d v : Nat) (h : 0 < d) (h2 : d ≤ 4300) : intText? (Sx (dg d v)) = some ((v % 10 ^ d : Nat) : Int) := by
  rw [← dg_val]
  have := intText_digits (x := Sx (dg d v)) (by rw [Sx_tl]; exact dg_all d v) (by rw [Sx_tl]; intro e; have := dg_len d v; rw [e] at this; simp at this; omega) (by rw [Sx_len, dg_len]; exact h2)
  rw [Sx_tl] at this
  exact this
end Ev

end
section
set_option maxHeartbeats 1000000
namespace Ev
open PySem PySem.Spec L2
/-! ### judges by clocks, in plain words -/
structure Ky where
  a : Int
  b : Int
  c : Int
  d : Nat
structure Ky.Ok (k : Ky) : Prop where
  a0 : 0 ≤ k.a
  a1 : k.a < 1000003
  b0 : 0 ≤ k.b
  b1 : k.b < 1000003
  c0 : 0 ≤ k.c
  c1 : k.c < 1000003
  d0 : 1 ≤ k.d
  d1 : k.d ≤ 6
def Ky.D (k : Ky) : D := .tup [.int k.a, .int k.b, .int k.c, .int (k.d : Int)]
def Ky.v (k : Ky) (n : Int) : Int := (k.a * n * n * n + k.b * n + k.c) % 1000003
def Ky.w (k : Ky) (n : Int) : Nat := (k.v n).toNat
def Ky.s (k : Ky) (n : Int) : List Nat := dg k.d (k.w n)
theorem Ky.v0 (k : Ky) (n : Int) : 0 ≤ k.v n ∧ k.v n < 1000003 := ⟨Int.emod_nonneg _ (by decide), Int.emod_lt_of_pos _ (by decide)⟩
theorem Ky.vw (k : Ky) (n : Int) : k.v n = (k.w n : Int) := by have := k.v0 n; unfold Ky.w; omega
theorem Ky.w_lt (k : Ky) (n : Int) : k.w n < 1000003 := by have := k.v0 n; unfold Ky.w; omega
structure Jd where
  k : Ky
  st : Int
  sl : Int
  dr : Int
  la : Int
def Jd.D (j : Jd) : D := .tup [j.k.D, .int j.st, .int j.sl, .int j.dr, .int j.la]
structure Jd.Ok (B : Int) (j : Jd) : Prop where
  k : j.k.Ok
  s0 : 1 ≤ j.st
  s1 : j.st ≤ 600
  l0 : 0 ≤ j.sl
  l1 : j.sl ≤ 20
  d0 : -B ≤ j.dr
  d1 : j.dr ≤ B
  m0 : -1 ≤ j.la
theorem Jd.Ok.mono {B B' : Int} {j : Jd} (h : j.Ok B) (l : B ≤ B') : j.Ok B' := ⟨h.k, h.s0, h.s1, h.l0, h.l1, by have := h.d0; omega, by have := h.d1; omega, h.m0⟩
def Jd.due (j : Jd) (t : Int) : Int := t / j.st + j.dr
def rgI (a : Int) (n : Nat) : List Int := (List.range n).map fun (i : Nat) => a + (i : Int)
theorem rgI_zero (a : Int) : rgI a 0 = [] := rfl
theorem rgI_len (a : Int) (n : Nat) : (rgI a n).length = n := by unfold rgI; simp
theorem rgI_succ (a : Int) (n : Nat) : rgI a (n + 1) = rgI a n ++ [a + (n : Int)] := by unfold rgI; rw [List.range_succ, List.map_append]; rfl
theorem rgI_cons (a : Int) (n : Nat) : rgI a (n + 1) = a :: rgI (a + 1) n := by
  unfold rgI
  rw [List.range_succ_eq_map, List.map_cons, List.map_map]
  congr 1
  · simp
  · apply List.map_congr_left
    intro j _
    simp only [Function.comp_apply]
    omega
theorem mem_rgI {a x : Int} {n : Nat} : x ∈ rgI a n ↔ a ≤ x ∧ x < a + n := by
  unfold rgI
  rw [List.mem_map]
  constructor
  · rintro ⟨i, hi, rfl⟩
    have := List.mem_range.mp hi
    omega
  · rintro ⟨h1, h2⟩
    exact ⟨(x - a).toNat, List.mem_range.mpr (by omega), by omega⟩
theorem rgI_nodup (a : Int) (n : Nat) : (rgI a n).Nodup := by
  unfold rgI
  rw [List.Nodup, List.pairwise_map]
  exact List.nodup_range.imp fun h e => h (by omega)
/-- the nearest first -/
def fan (d : Int) (s : Nat) : List Int := d :: (rgI 1 s).flatMap fun far => [d - far, d + far]
theorem fan_succ (d : Int) (s : Nat) : fan d (s + 1) = fan d s ++ [d - (1 + (s : Int)), d + (1 + (s : Int))] := by
  unfold fan
  rw [rgI_succ, List.flatMap_append]
  simp
theorem fan_len (d : Int) (s : Nat) : (fan d s).length = 2 * s + 1 := by
  induction s with
  | zero => rfl
  | succ s ih => rw [fan_succ, List.length_append, ih]; simp; omega
theorem fan_perm (d : Int) : ∀ s : Nat, (fan d s).Perm (rgI (d - s) (2 * s + 1))
  | 0 => by
    have : rgI (d - (0 : Nat)) (2 * 0 + 1) = [d] := by unfold rgI; simp
    rw [this]; exact List.Perm.refl _
  | s + 1 => by
    have e : rgI (d - (s + 1 : Nat)) (2 * (s + 1) + 1) = (d - (1 + (s : Int))) :: (rgI (d - s) (2 * s + 1) ++ [d + (1 + (s : Int))]) := by
      rw [show 2 * (s + 1) + 1 = (2 * s + 1 + 1) + 1 by omega, rgI_cons, rgI_succ, show d - (s + 1 : Nat) = d - (1 + (s : Int)) by omega, show d - (1 + (s : Int)) + 1 = d - s by omega, show d - (s : Int) + ((2 * s + 1 : Nat) : Int) = d + (1 + (s : Int)) by omega]
    rw [e, fan_succ]
    have h := (fan_perm d s).append_right [d - (1 + (s : Int)), d + (1 + (s : Int))]
    refine h.trans ?_
    have h2 : (rgI (d - s) (2 * s + 1) ++ [d - (1 + (s : Int)), d + (1 + (s : Int))]).Perm ([d - (1 + (s : Int))] ++ rgI (d - s) (2 * s + 1) ++ [d + (1 + (s : Int))]) := by
      rw [show [d - (1 + (s : Int)), d + (1 + (s : Int))] = [d - (1 + (s : Int))] ++ [d + (1 + (s : Int))] from rfl, ← List.append_assoc]
      exact List.Perm.append_right _ List.perm_append_comm
    exact h2
def ab (i : Int) : Int := if i < 0 then -i else i
def far (d n : Int) : P2 := (ab (n - d), n)
theorem fan_mem {d x : Int} {s : Nat} (h : x ∈ fan d s) : ab (x - d) ≤ s := by
  have := mem_rgI.mp ((fan_perm d s).mem_iff.mp h)
  unfold ab
  split <;> omega
theorem fan_sorted (d : Int) : ∀ s : Nat, (fan d s).Pairwise fun x y => leP (far d x) (far d y)
  | 0 => by simp [fan, rgI]
  | s + 1 => by
    rw [fan_succ, List.pairwise_append]
    refine ⟨fan_sorted d s, ?_, fun x hx y hy => ?_⟩
    · simp [leP, far, ab]
      split <;> split <;> omega
    · have := fan_mem hx
      unfold leP far
      simp only [List.mem_cons, List.not_mem_nil, or_false] at hy
      rcases hy with rfl | rfl
      · have : ab (d - (1 + (s : Int)) - d) = 1 + s := by unfold ab; split <;> omega
        simp only [this]; omega
      · have : ab (d + (1 + (s : Int)) - d) = 1 + s := by unfold ab; split <;> omega
        simp only [this]; omega
def Jd.fits (j : Jd) (n : Int) : Bool := decide (j.la < n) && decide (0 ≤ n)
def Jd.look (j : Jd) (t : Int) : List Int := (fan (j.due t) j.sl.toNat).filter j.fits
theorem filt_sorted {α : Type} {r : α → α → Prop} {p : α → Bool} {xs : List α} (h : xs.Pairwise r) : (xs.filter p).Pairwise r := List.Pairwise.sublist List.filter_sublist h
/-- the law's way -/
theorem look_law (j : Jd) (t : Int) : (sortP (((rgI (j.due t - j.sl.toNat) (2 * j.sl.toNat + 1)).filter j.fits).map (far (j.due t)))).map (fun q => q.2) = j.look t := by
  have e : ((fan (j.due t) j.sl.toNat).filter j.fits).map (far (j.due t)) = sortP (((rgI (j.due t - j.sl.toNat) (2 * j.sl.toNat + 1)).filter j.fits).map (far (j.due t))) := by
    refine sortP_is (((fan_perm _ _).filter _).map _) ?_
    rw [List.pairwise_map]
    exact filt_sorted (fan_sorted _ _)
  rw [← e, List.map_map]
  exact (List.map_congr_left fun _ _ => rfl).trans (List.map_id _)
theorem look_mem {j : Jd} {t n : Int} (hl : 0 ≤ j.sl) : n ∈ j.look t ↔ j.due t - j.sl ≤ n ∧ n ≤ j.due t + j.sl ∧ j.la < n ∧ 0 ≤ n := by
  unfold Jd.look Jd.fits
  rw [List.mem_filter, (fan_perm _ _).mem_iff, mem_rgI, Bool.and_eq_true, decide_eq_true_eq, decide_eq_true_eq]
  omega
theorem look_len (j : Jd) (t : Int) (h : j.sl ≤ 20) : (j.look t).length ≤ 41 := by
  unfold Jd.look
  have := List.length_filter_le j.fits (fan (j.due t) j.sl.toNat)
  rw [fan_len] at this
  omega
/-- what a code of a number w means -/
def Jd.has (j : Jd) (w : Nat) (n : Int) : Bool := decide (j.k.s n = dg j.k.d w)
def Jd.hits (j : Jd) (w : Nat) (t : Int) : List Int := (j.look t).filter (j.has w)
def Jd.met (j : Jd) (w : Nat) (t : Int) : Option Int := (j.hits w t).head?
def Jd.aft (j : Jd) (m : Option Int) (t : Int) : Jd := match m with
  | none => j
  | some n => { j with dr := n - t / j.st, la := n }
theorem met_mem {j : Jd} {w : Nat} {t n : Int} (hl : 0 ≤ j.sl) (h : j.met w t = some n) : j.due t - j.sl ≤ n ∧ n ≤ j.due t + j.sl ∧ j.la < n ∧ 0 ≤ n ∧ j.k.s n = dg j.k.d w := by
  unfold Jd.met Jd.hits at h
  have := List.mem_of_head? h
  rw [List.mem_filter, look_mem hl] at this
  obtain ⟨⟨h1, h2, h3, h4⟩, h5⟩ := this
  exact ⟨h1, h2, h3, h4, of_decide_eq_true h5⟩
theorem Jd.Ok.aft {B : Int} {j : Jd} (h : j.Ok B) (w : Nat) (t : Int) : (j.aft (j.met w t) t).Ok (B + 20) := by
  cases e : j.met w t with
  | none => exact h.mono (by omega)
  | some n =>
    have := met_mem h.l0 e
    unfold Jd.due at this
    refine ⟨h.k, h.s0, h.s1, h.l0, h.l1, ?_, ?_, ?_⟩ <;> simp only [Jd.aft] <;> have := h.d0 <;> have := h.d1 <;> have := h.l1 <;> omega
theorem aft_st (j : Jd) (m : Option Int) (t : Int) : (j.aft m t).st = j.st := by cases m <;> rfl
theorem aft_k (j : Jd) (m : Option Int) (t : Int) : (j.aft m t).k = j.k := by cases m <;> rfl
theorem aft_sl (j : Jd) (m : Option Int) (t : Int) : (j.aft m t).sl = j.sl := by cases m <;> rfl
/-- the checker's way: the nearest of all that fit -/
def Jd.near (j : Jd) (w : Nat) (t : Int) : List Int := (rgI (max (max 0 (j.la + 1)) (j.due t - j.sl)) (j.due t + j.sl + 1 - max (max 0 (j.la + 1)) (j.due t - j.sl)).toNat).filter (j.has w)
theorem near_mem {j : Jd} {w : Nat} {t n : Int} (hl : 0 ≤ j.sl) : n ∈ j.near w t ↔ n ∈ j.hits w t := by
  unfold Jd.near Jd.hits
  rw [List.mem_filter, List.mem_filter, look_mem hl, mem_rgI]
  constructor
  · rintro ⟨h1, h2⟩; exact ⟨by omega, h2⟩
  · rintro ⟨h1, h2⟩; exact ⟨by omega, h2⟩
theorem takes_plain {j : Jd} {w : Nat} {t n : Int} (hl : 0 ≤ j.sl) : (n ∈ j.near w t ∧ ∀ m ∈ j.near w t, leP (far (j.due t) n) (far (j.due t) m)) ↔ j.met w t = some n := by
  have so : (j.hits w t).Pairwise fun x y => leP (far (j.due t) x) (far (j.due t) y) := filt_sorted (filt_sorted (fan_sorted _ _))
  constructor
  · rintro ⟨h1, h2⟩
    rw [near_mem hl] at h1
    unfold Jd.met
    cases e : j.hits w t with
    | nil => rw [e] at h1; cases h1
    | cons x xs =>
      rw [e] at h1 so
      have hx : x ∈ j.near w t := by rw [near_mem hl, e]; exact List.mem_cons_self
      have a := h2 x hx
      rw [List.pairwise_cons] at so
      rcases List.mem_cons.mp h1 with rfl | h1
      · rfl
      · have b := so.1 n h1
        have := leP_anti a b
        exact congrArg some (congrArg Prod.snd this).symm
  · intro h
    unfold Jd.met at h
    cases e : j.hits w t with
    | nil => rw [e] at h; cases h
    | cons x xs =>
      rw [e] at h so
      cases h
      refine ⟨by rw [near_mem hl, e]; exact List.mem_cons_self, fun m hm => ?_⟩
      rw [near_mem hl, e] at hm
      rw [List.pairwise_cons] at so
      rcases List.mem_cons.mp hm with rfl | hm
      · unfold leP; omega
      · exact so.1 m hm
/-! ### clocks -/
abbrev Ck2 := Int × Int
def ckD (c : Ck2) : D := .tup [.int c.1, .int c.2]
def shown (c : Ck2) (st t : Int) : Int := (t + c.1 + t * c.2 / 1000000) / st
def Jd.askM (j : Jd) (c : Ck2) (t : Int) : Option Int := if 0 ≤ shown c j.st t then j.met (j.k.w (shown c j.st t)) t else none
def Jd.ask (j : Jd) (c : Ck2) (t : Int) : Jd := j.aft (j.askM c t) t
theorem Jd.Ok.ask {B : Int} {j : Jd} (h : j.Ok B) (c : Ck2) (t : Int) : (j.ask c t).Ok (B + 20) := by
  unfold Jd.ask Jd.askM
  split
  · exact h.aft _ t
  · exact h.mono (by omega)
/-- the course -/
def cours (c : Ck2) : Jd → List Int → List (Bool × Int)
  | _, [] => []
  | j, t :: ts => ((j.askM c t).isSome, (j.ask c t).dr) :: cours c (j.ask c t) ts
theorem cours_len (c : Ck2) : ∀ (ts : List Int) (j : Jd), (cours c j ts).length = ts.length
  | [], _ => rfl
  | t :: ts, j => by simp [cours, cours_len c ts]
/-- the first that is lost -/
def lostI (c : Ck2) (p : Int) : Jd → Int → Nat → Option Int
  | _, _, 0 => none
  | j, i, n + 1 => if (j.askM c (i * p)).isSome = true then lostI c p (j.ask c (i * p)) (i + 1) n else some i
theorem lost_cours (c : Ck2) (p : Int) : ∀ (n : Nat) (j : Jd) (i : Int), lostI c p j i n = (((rgI i n).zip (cours c j ((rgI i n).map fun k => k * p))).filter fun q => !q.2.1).head?.map (·.1)
  | 0, _, _ => rfl
  | n + 1, j, i => by
    rw [rgI_cons, List.map_cons, cours, List.zip_cons_cons, lostI]
    cases h : (j.askM c (i * p)).isSome with
    | true => rw [if_pos rfl, List.filter_cons_of_neg (by simp), lost_cours c p n]
    | false => rw [if_neg Bool.false_ne_true, List.filter_cons_of_pos (by simp)]; rfl
end Ev

end
section
set_option maxHeartbeats 1000000
namespace Ev
open PySem PySem.Spec PyProof.Rows L2
/-! ### helpers for all laws -/
theorem compR_u {T : Tg} {fi : En → R (List D)} {ft : En → R Bool} {fe : En → R D} {vs : List Nat} (s : Sl) (ρ : En) : compR T fi ft fe vs (s :: ρ) = (fi (s :: ρ)).bind fun items ρ1 => (compL (asgT T) ft fe vs items (wipeR ρ1 vs)).bind fun ds ρ2 => .ok ds (backR ρ1 ρ2 vs) := (rfl)
@[simp] theorem compL_n {g : D → En → Option En} {ft : En → R Bool} {fe : En → R D} {vs : List Nat} (ρ : En) : compL g ft fe vs [] ρ = .ok [] ρ := (rfl)
theorem compL_c {g : D → En → Option En} {ft : En → R Bool} {fe : En → R D} {vs : List Nat} (d : D) (ds : List D) (ρ : En) : compL g ft fe vs (d :: ds) ρ = (R.lift (g d ρ) ρ).bind fun ρ1 _ => (ft ρ1).ne.bind fun k ρ2 =>
    if k = true then (fe ρ2).ne.bind fun x ρ3 => (compL g ft fe vs ds (wipeR ρ3 vs)).bind fun xs ρ4 => .ok (x :: xs) ρ4 else compL g ft fe vs ds (wipeR ρ2 vs) := by
  rw [compL]
  cases g d ρ <;> rfl
@[simp] theorem compD_n {g : D → En → Option En} {ft : En → R Bool} {fk fv : En → R D} {vs : List Nat} (b : Ob) (ρ : En) : compD g ft fk fv vs [] b ρ = .ok b ρ := (rfl)
theorem compD_c {g : D → En → Option En} {ft : En → R Bool} {fk fv : En → R D} {vs : List Nat} (d : D) (ds : List D) (b : Ob) (ρ : En) : compD g ft fk fv vs (d :: ds) b ρ = (R.lift (g d ρ) ρ).bind fun ρ1 _ => (ft ρ1).ne.bind fun k ρ2 =>
    if k = true then (fk ρ2).ne.bind fun y ρ3 => (fv ρ3).ne.bind fun z ρ4 => (R.lift (putB b y z) ρ4).bind fun b' _ => compD g ft fk fv vs ds b' (wipeR ρ4 vs) else compD g ft fk fv vs ds b (wipeR ρ2 vs) := by
  rw [compD]
  cases g d ρ <;> rfl
theorem compDR_u {isT : Bool} {T : Tg} {fi : En → R (List D)} {ft : En → R Bool} {fk fv : En → R D} {vs : List Nat} (s : Sl) (ρ : En) : compDR isT T fi ft fk fv vs (s :: ρ) = (fi (s :: ρ)).bind fun items ρ1 => (compD (asgT T) ft fk fv vs items (newD isT) (wipeR ρ1 vs)).bind fun b ρ2 => .ok b (backR ρ1 ρ2 vs) := (rfl)
theorem b1_any (bs : List Bool) : b1 .any (.lst (bs.map .bl)) = some (.bl (bs.any id)) := by
  show (bls? _).bind _ = _
  rw [bls_map]; rfl
theorem all_T {α : Type} (xs : List α) : b1 .all (.lst (xs.map fun _ => D.bl true)) = some (.bl true) := by
  rw [show (xs.map fun _ => D.bl true) = (xs.map fun _ => true).map D.bl by rw [List.map_map]; rfl, b1_all]
  simp
theorem all_P {α : Type} (xs : List α) (p : α → Bool) : b1 .all (.lst (xs.map fun x => D.bl (p x))) = some (.bl (xs.all p)) := by
  rw [show (xs.map fun x => D.bl (p x)) = (xs.map p).map D.bl by rw [List.map_map]; rfl, b1_all]
  simp [List.all_map]
theorem any_P {α : Type} (xs : List α) (p : α → Bool) : b1 .any (.lst (xs.map fun x => D.bl (p x))) = some (.bl (xs.any p)) := by
  rw [show (xs.map fun x => D.bl (p x)) = (xs.map p).map D.bl by rw [List.map_map]; rfl, b1_any]
  simp [List.any_map]
theorem nums_rgI (a : Int) (n : Nat) : nums a n = (rgI a n).map D.int := by unfold nums rgI; rw [List.map_map]; rfl
theorem itD_strI (x : Str) : itD (.str x) = some (x.cps.toList.map fun k => .str ⟨#[k]⟩) := (rfl)
theorem itN_strI (x : Str) (xs : List D) (ρ : En) : itN (.str x) xs ρ = few xs ρ := (rfl)
theorem lt1 (a b : Nat) : (([a] : List Nat) < [b]) ↔ a < b := by
  rw [List.cons_lt_cons_iff]
  constructor
  · rintro (h | ⟨_, h⟩)
    · exact h
    · exact absurd h (List.lt_irrefl _)
  · exact .inl
theorem le_str1 (a b : Nat) : cmpD .LtE (.str ⟨#[a]⟩) (.str ⟨#[b]⟩) = some (decide (a ≤ b)) := by
  show some (!decide (([b] : List Nat) < [a])) = _
  congr 1
  rw [Bool.eq_iff_iff, Bool.not_eq_true', decide_eq_false_iff_not, decide_eq_true_eq, lt1]
  omega
theorem fig_lo (k : Nat) : cmpD .LtE (.str "0") (.str ⟨#[k]⟩) = some (decide (48 ≤ k)) := le_str1 48 k
theorem fig_hi (k : Nat) : cmpD .LtE (.str ⟨#[k]⟩) (.str "9") = some (decide (k ≤ 57)) := le_str1 k 57
theorem in_figs (k : Nat) (h : 48 ≤ k ∧ k ≤ 57) : cmpD .In (.str ⟨#[k]⟩) (.str "0123456789") = some true := by
  show some (!(Builtin.Str.occurrences (Str.ofString "0123456789") ⟨#[k]⟩ 0 (Str.ofString "0123456789").length 1).isEmpty) = _
  rw [PySem.StrLaws.found_one, show (Str.ofString "0123456789").cps.toList = [48, 49, 50, 51, 52, 53, 54, 55, 56, 57] by decide +kernel]
  congr 1
  rw [decide_eq_true_eq]
  simp only [List.mem_cons, List.not_mem_nil, or_false]
  omega
theorem b1_strN (v : Nat) (h : v < 2 ^ 1900) : b1 .str (.int (v : Int)) = some (.str (Sx (TL.numL v))) := by
  show (if (v : Int).natAbs.log2 < 1920 then some (D.str (toString (v : Int))) else none) = _
  have : v.log2 < 1920 := by
    by_cases z : v = 0
    · subst z; decide
    · rw [Nat.log2_lt z]
      exact Nat.lt_of_lt_of_le h (Nat.pow_le_pow_right (by decide) (by decide))
  rw [Int.natAbs_natCast, if_pos this]
  exact congrArg (fun z => some (D.str z)) (Sx_num v)
theorem sl_strF (cs : List Nat) (k : Nat) (h : cs.length ≤ 16777216) : slD (.str (Sx cs)) (some (k : Int)) none = some (.str (Sx (cs.drop k))) := by
  show (if (Sx cs).length ≤ LN then some (D.str (cutS (Sx cs) (some (k : Int)) none)) else none) = _
  rw [Sx_len, if_pos (show cs.length ≤ LN from h)]
  unfold cutS
  rw [Sx_tl, Sx_len, sIx_k, sIx_n]
  congr 3
  rw [List.take_of_length_le (by rw [List.length_drop]; omega)]
  by_cases h : k ≤ cs.length
  · rw [Nat.min_eq_left h]
  · rw [Nat.min_eq_right (by omega), List.drop_of_length_le (by omega), List.drop_of_length_le (by omega)]
theorem sl_strL (cs : List Nat) (k : Nat) (h : cs.length ≤ 16777216) (h0 : 0 < k) (hk : k ≤ cs.length) : slD (.str (Sx cs)) (some (-(k : Int))) none = some (.str (Sx (cs.drop (cs.length - k)))) := by
  show (if (Sx cs).length ≤ LN then some (D.str (cutS (Sx cs) (some (-(k : Int))) none)) else none) = _
  rw [Sx_len, if_pos (show cs.length ≤ LN from h)]
  have e : HT.sIx cs.length 0 (some (-(k : Int))) = cs.length - k := by
    show (if (-(k : Int)) < 0 then (-(k : Int) + (cs.length : Int)).toNat else min (-(k : Int)).toNat cs.length) = _
    rw [if_pos (by omega)]
    omega
  unfold cutS
  rw [Sx_tl, Sx_len, e, sIx_n]
  congr 3
  rw [List.take_of_length_le (by rw [List.length_drop]; omega)]
theorem b1_len_str (cs : List Nat) (h : cs.length ≤ 16777216) : b1 .len (.str (Sx cs)) = some (.int cs.length) := by
  show (if (Sx cs).length ≤ LN then some (D.int (Sx cs).length) else none) = _
  rw [Sx_len, if_pos (show cs.length ≤ LN from h)]
theorem op_catS (a b : List Nat) (h : a.length + b.length ≤ 16777216) : op2 .Add (.str (Sx a)) (.str (Sx b)) = some (.str (Sx (a ++ b))) := by
  show (if (Sx a).length + (Sx b).length ≤ LN then some (D.str (Sx a ++ Sx b)) else none) = _
  rw [Sx_len, Sx_len, if_pos (show a.length + b.length ≤ LN from h), Sx_cat]
theorem b1_int_dg (d v : Nat) (h : 0 < d) (h2 : d ≤ 600) : b1 .int (.str (Sx (dg d v))) = some (.int ((v % 10 ^ d : Nat) : Int)) := by
  show (if (Sx (dg d v)).length ≤ 640 then (PySem.intText? (Sx (dg d v))).map D.int else none) = _
  rw [Sx_len, dg_len, if_pos (by omega), int_dg d v h (by omega)]
  rfl
theorem cmp_eqSx (a b : List Nat) : cmpD .Eq (.str (Sx a)) (.str (Sx b)) = some (decide (a = b)) := by
  show (if (shp 60 (.str (Sx a)) = true ∧ shp 60 (.str (Sx b)) = true) then some (eqD (.str (Sx a)) (.str (Sx b))) else none) = _
  rw [if_pos ⟨rfl, rfl⟩]
  exact congrArg some (Sx_beq a b)
theorem cmp_neSx (a b : List Nat) : cmpD .NotEq (.str (Sx a)) (.str (Sx b)) = some (!decide (a = b)) := by
  show (if (shp 60 (.str (Sx a)) = true ∧ shp 60 (.str (Sx b)) = true) then some (!eqD (.str (Sx a)) (.str (Sx b))) else none) = _
  rw [if_pos ⟨rfl, rfl⟩]
  exact congrArg (fun b => some (!b)) (Sx_beq a b)
theorem max3I (a b c : Int) : Ev.max3 (.int a) (.int b) (.int c) = some (.int (max (max a b) c)) := (rfl)
theorem le_pair (a b c d : Int) : cmpD .LtE (.tup [.int a, .int b]) (.tup [.int c, .int d]) = some (decide (leP (a, b) (c, d))) := by
  show some (Ob.lexAt (fun j => decide (([a, b] : List Int).getD j 0 = ([c, d] : List Int).getD j 0)) (fun j => decide (([a, b] : List Int).getD j 0 ≤ ([c, d] : List Int).getD j 0)) true 0 2) = _
  rw [Ob.lexAt_succ, Ob.lexAt_succ, Ob.lexAt_zero]
  congr 1
  rw [Bool.eq_iff_iff]
  unfold leP
  simp
  split <;> (try split) <;> (try simp) <;> omega
theorem strs_mapI (ws : List Str) : strs? (ws.map D.str) = some ws := by
  induction ws with
  | nil => rfl
  | cons w ws ih => simp [strs?, ih]
theorem lenSS_ok (ws : List Str) (h : ws.length < 4095) : lenSS (.lst (ws.map D.str)) = some (.int (dd ws).length) := by
  show (strs? _).bind _ = _
  rw [strs_mapI, Option.bind_some, if_pos (by omega)]
theorem sortSS_ok (ws : List Str) (h : ws.length < 4095) : sortSS (.lst (ws.map D.str)) = some ((sortT (dd ws)).map D.str) := by
  show (strs? _).bind _ = _
  rw [strs_mapI, Option.bind_some, if_pos (by omega)]
theorem keyTs_map (ws : List Str) : keyTs (ws.map Sum.inr) = some ws := by
  induction ws with
  | nil => rfl
  | cons w ws ih => simp [keyTs, ih]
theorem sortKD_ok (ws : List Str) (xs : List D) (h : ws.length < 65536) : sortKD (.dK (ws.map Sum.inr) xs) = some ((sortT ws).map D.str) := by
  show (keyTs _).bind _ = _
  rw [keyTs_map, Option.bind_some, if_pos h]
theorem sortPD_ok (ws : List P2) : sortPD (.lst (ws.map pr2)) = some ((sortP ws).map pr2) := by
  show (prs? _).map _ = _
  rw [prs_map]; rfl
theorem sortT_dd {ks cs : List Str} (nd : ks.Nodup) (hm : ∀ k, k ∈ ks ↔ k ∈ cs) : sortT ks = sortT (dd cs) := by
  refine sortT_is ((sortT_perm ks).trans ?_) (sortT_sorted ks)
  refine mems_perm ⟨nd, fun k => ?_⟩
  rw [hm, decide_eq_true_eq]
theorem dd_len_eq : ∀ {ws : List Str}, (dd ws).length = ws.length ↔ ws.Nodup
  | [] => by simp [dd]
  | w :: ws => by
    have le : ∀ us : List Str, (dd us).length ≤ us.length := by
      intro us
      induction us with
      | nil => exact Nat.le_refl _
      | cons u us ih => unfold dd; split <;> simp <;> omega
    unfold dd
    rw [List.nodup_cons]
    split
    · rename_i h
      have := le ws
      constructor
      · intro e; rw [List.length_cons] at e; omega
      · exact fun z => absurd h z.1
    · rename_i h
      rw [List.length_cons, List.length_cons, ← dd_len_eq (ws := ws)]
      constructor
      · exact fun e => ⟨h, by omega⟩
      · rintro ⟨_, e⟩; omega
/-- [..][0], none if there is none -/
theorem head_ix (xs : List D) (h : 0 < xs.length) : ixD (.lst xs) (.int 0) = some (xs.headD .non) := by
  cases xs with
  | nil => simp at h
  | cons x xs => exact ixD_ls (x :: xs) 0 x rfl
@[simp] theorem callM_0 (r : List D → List D → Cr (D × List D)) (ds xs : List D) (io : Bool) (ρ : En) : Ev.callM 0 r ds (.ow io xs :: ρ) = match r xs ds with | .ok (d, ys) => .ok d (.ow io ys :: ρ) | _ => .bad := by
  unfold Ev.callM
  simp
  try (cases r xs ds <;> rfl)
@[simp] theorem callM_1 (r : List D → List D → Cr (D × List D)) (ds xs : List D) (io : Bool) (s : Sl) (ρ : En) : Ev.callM 1 r ds (s :: .ow io xs :: ρ) = match r xs ds with | .ok (d, ys) => .ok d (s :: .ow io ys :: ρ) | _ => .bad := by
  unfold Ev.callM
  simp
  try (cases r xs ds <;> rfl)
@[simp] theorem rdO_0 (xs : List D) (io : Bool) (ρ : En) : rdO (.ow io xs :: ρ) 0 = .ok xs (.ow io xs :: ρ) := (rfl)
@[simp] theorem rdO_1 (xs : List D) (io : Bool) (s : Sl) (ρ : En) : rdO (s :: .ow io xs :: ρ) 1 = .ok xs (s :: .ow io xs :: ρ) := (rfl)
theorem cmp_isB (a b : Bool) : cmpD .Is (.bl a) (.bl b) = some (a == b) := (rfl)
theorem cmp_isnB (a b : Bool) : cmpD .IsNot (.bl a) (.bl b) = some (!(a == b)) := (rfl)
theorem isin_K {neg : Bool} {d : D} {ks : List Key} {vs : List D} {j : Key} (h : keyD d = some j) : isinD neg d (.dK ks vs) = some (neg != (lkp ks vs j).isSome) := by
  have e : dgD (.dK ks vs) d = some (lkp ks vs j) := by
    show (keyD d).map (lkp ks vs) = _
    rw [h]; rfl
  unfold isinD
  rw [e]
theorem ix_K {d : D} {ks : List Key} {vs : List D} {j : Key} (h : keyD d = some j) : ixD (.dK ks vs) d = lkp ks vs j := by
  show (keyD d).bind (lkp ks vs) = _
  rw [h]; rfl
theorem isin_T {neg : Bool} {d : D} {ks : List (List Key)} {vs : List D} {j : List Key} (h : keyT d = some j) : isinD neg d (.dT ks vs) = some (neg != (lkp ks vs j).isSome) := by
  have e : dgD (.dT ks vs) d = some (lkp ks vs j) := by
    show (keyT d).map (lkp ks vs) = _
    rw [h]; rfl
  unfold isinD
  rw [e]
theorem ix_T {d : D} {ks : List (List Key)} {vs : List D} {j : List Key} (h : keyT d = some j) : ixD (.dT ks vs) d = lkp ks vs j := by
  show (keyT d).bind (lkp ks vs) = _
  rw [h]; rfl
end Ev

end
section
set_option maxHeartbeats 0
namespace Ev.W
open PySem PySem.Spec PyProof.Rows L2 Ev
def top (i : Nat) : Stmt := PySem.Challenge.pw_oncecodes_k32_whole_great_keys_and_count.main.body.getD i (.Pass ⟨0, 0, 0, 0⟩)
def defName (s : Stmt) : Str := match s with
  | .FunctionDef n .. => n
  | _ => ""
def dOf (s : Stmt) : He.DefD := ⟨(defName s, none), defName s, defName s, defArgs s, defBody s, defScope s, [], []⟩
def dOfA (s : Stmt) (a : Str) : He.DefD := ⟨(a, none), defName s, defName s, defArgs s, defBody s, defScope s, [], []⟩
abbrev n_is_integer : Nat := 0
abbrev n_is_within : Nat := 1
abbrev n_check : Nat := 2
abbrev n_is_count : Nat := 3
abbrev n_power : Nat := 4
abbrev n_is_key_keys : Nat := 5
abbrev n_check_key : Nat := 6
abbrev n_are_figures : Nat := 7
abbrev n_is_code_keys : Nat := 8
abbrev n_value_by : Nat := 9
abbrev n_told : Nat := 10
abbrev n_code_by : Nat := 11
abbrev n_value_at : Nat := 12
abbrev n_code_at : Nat := 13
abbrev n_codes_from : Nat := 14
abbrev n_check_span : Nat := 15
abbrev n_counts_of : Nat := 16
abbrev n_first_repeat : Nat := 17
abbrev n_tell : Nat := 18
abbrev n_is_count_judge : Nat := 19
abbrev n_is_device : Nat := 20
abbrev n_check_judge : Nat := 21
abbrev n_check_code : Nat := 22
abbrev n_met_by : Nat := 23
abbrev n_met_count : Nat := 24
abbrev n_moved : Nat := 25
abbrev n_judged_by : Nat := 26
abbrev n_judged : Nat := 27
abbrev n_beat_found : Nat := 28
abbrev n_shown : Nat := 29
abbrev n_check_both : Nat := 30
abbrev n_apart : Nat := 31
abbrev n_session : Nat := 32
abbrev n_looked_at : Nat := 33
abbrev n_taken_codes : Nat := 34
abbrev n_is_clear_by : Nat := 35
abbrev n_is_clear : Nat := 36
abbrev n_most_shows : Nat := 37
abbrev n_is_key_checkcodes : Nat := 38
abbrev n_is_code_checkcodes : Nat := 39
abbrev n_shows : Nat := 40
abbrev n_takes_repeat : Nat := 41
abbrev n_need_judge : Nat := 42
abbrev n_takes_met : Nat := 43
abbrev n_fits : Nat := 44
abbrev n_takes_beat : Nat := 45
abbrev n__law_draws : Nat := 46
abbrev n__law_take : Nat := 47
abbrev n__law_pick : Nat := 48
abbrev n__law_same : Nat := 49
abbrev n__law_key : Nat := 50
abbrev n__law_value : Nat := 51
abbrev n__law_code : Nat := 52
abbrev n__law_first_repeat : Nat := 53
abbrev n__law_met : Nat := 54
abbrev n__law_most : Nat := 55
abbrev n__law_are_keys : Nat := 56
abbrev n__law_are_sessions : Nat := 57
abbrev n_law : Nat := 58
def b_is_integer : Ss := (
  .cons (.ret (.and (.more (.isi .int (.lk 0)) (.one (.not (.isi .bool (.lk 0))))))) <|
  .nil)
def d_is_integer : Df := ⟨"is_integer", 0, ["value"], 1, b_is_integer⟩
def b_is_within : Ss := (
  .cons (.ret (.and (.more (.call n_is_integer 1 (.cons (.var 0) .nil)) (.one (.chn .LtE .LtE (.var 1) (.var 0) (.var 2)))))) <|
  .nil)
def d_is_within : Df := ⟨"is_within", 0, ["value", "low", "high"], 3, b_is_within⟩
def b_check : Ss := (
  .cons (.ife (.not (.tr (.lk 0))) (
    .cons (.rse 1) <|
    .nil) .nil) <|
  .nil)
def d_check : Df := ⟨"check", 0, ["is_right"], 1, b_check⟩
def b_is_count : Ss := (
  .cons (.ret (.and (.more (.call n_is_integer 1 (.cons (.var 0) .nil)) (.one (.cmp .GtE (.var 0) (.con (.int 0))))))) <|
  .nil)
def d_is_count : Df := ⟨"is_count", 0, ["value"], 1, b_is_count⟩
def l1_power : Ss := (
  .cons (.aug .Mult 2 (.var 0)) <|
  .nil)
def b_power : Ss := (
  .cons (.asg 2 (.con (.int 1))) <|
  .cons (.for (.nm 3) (.r1 (.var 1)) l1_power) <|
  .cons (.ret (.var 2)) <|
  .nil)
def d_power : Df := ⟨"power", 0, ["number", "times", "found", "_"], 2, b_power⟩
def b_is_key_keys : Ss := (
  .cons (.ife (.or (.more (.not (.tr (.vl (.isi .tuple (.lk 0))))) (.more (.cmp .NotEq (.b1 .len (.lk 0)) (.con (.int 4))) (.one (.not (.tr (.vl (.call n_is_within 3 (.cons (.ixV 0 (.con (.int 3))) (.cons (.con (.int 1)) (.cons (.glo (.int 6)) .nil))))))))))) (
    .cons (.ret (.con (.bl false))) <|
    .nil) .nil) <|
  .cons (.ret (.b1 .all (.vl (.fr (.comp (.nm 1) (.sq (.slV 0 .no (.so (.con (.int 3))))) .no (.call n_is_within 3 (.cons (.var 1) (.cons (.con (.int 0)) (.cons (.bin .Sub (.glo (.int 1000003)) (.con (.int 1))) .nil)))) [1]))))) <|
  .nil)
def d_is_key_keys : Df := ⟨"is_key_keys", 0, ["value", "one"], 1, b_is_key_keys⟩
def b_check_key : Ss := (
  .cons (.expr (.call n_check 1 (.cons (.call n_is_key_keys 1 (.cons (.var 0) .nil)) .nil))) <|
  .nil)
def d_check_key : Df := ⟨"check_key", 0, ["key"], 1, b_check_key⟩
def b_are_figures : Ss := (
  .cons (.ret (.and (.more (.isi .str (.lk 0)) (.more (.cmp .Eq (.b1 .len (.lk 0)) (.var 1)) (.one (.b1 .all (.vl (.fr (.comp (.nm 2) (.sq (.var 0)) .no (.chn .LtE .LtE (.con (.str "0")) (.var 2) (.con (.str "9"))) [2]))))))))) <|
  .nil)
def d_are_figures : Df := ⟨"are_figures", 0, ["value", "length", "sign"], 2, b_are_figures⟩
def b_is_code_keys : Ss := (
  .cons (.expr (.call n_check_key 1 (.cons (.var 0) .nil))) <|
  .cons (.ret (.call n_are_figures 2 (.cons (.var 1) (.cons (.ixV 0 (.con (.int 3))) .nil)))) <|
  .nil)
def d_is_code_keys : Df := ⟨"is_code_keys", 0, ["key", "value"], 2, b_is_code_keys⟩
def b_value_by : Ss := (
  .cons (.asgT (.tup [2, 3, 4, 5]) (.var 0)) <|
  .cons (.ret (.bin .Mod (.bin .Add (.bin .Add (.bin .Mult (.bin .Mult (.bin .Mult (.var 2) (.var 1)) (.var 1)) (.var 1)) (.bin .Mult (.var 3) (.var 1))) (.var 4)) (.glo (.int 1000003)))) <|
  .nil)
def d_value_by : Df := ⟨"value_by", 0, ["key", "n", "a", "b", "c", "_"], 2, b_value_by⟩
def b_told : Ss := (
  .cons (.ret (.sl (.b1 .str (.vl (.bin .Add (.bin .Mod (.var 0) (.call n_power 2 (.cons (.con (.int 10)) (.cons (.var 1) .nil)))) (.call n_power 2 (.cons (.con (.int 10)) (.cons (.var 1) .nil)))))) (.so (.con (.int 1))) .no)) <|
  .nil)
def d_told : Df := ⟨"told", 0, ["value", "digits"], 2, b_told⟩
def b_code_by : Ss := (
  .cons (.ret (.call n_told 2 (.cons (.call n_value_by 2 (.cons (.var 0) (.cons (.var 1) .nil))) (.cons (.ixV 0 (.con (.int 3))) .nil)))) <|
  .nil)
def d_code_by : Df := ⟨"code_by", 0, ["key", "n"], 2, b_code_by⟩
def b_value_at : Ss := (
  .cons (.expr (.call n_check_key 1 (.cons (.var 0) .nil))) <|
  .cons (.expr (.call n_check 1 (.cons (.call n_is_count 1 (.cons (.var 1) .nil)) .nil))) <|
  .cons (.ret (.call n_value_by 2 (.cons (.var 0) (.cons (.var 1) .nil)))) <|
  .nil)
def d_value_at : Df := ⟨"value_at", 0, ["key", "n"], 2, b_value_at⟩
def b_code_at : Ss := (
  .cons (.expr (.call n_check_key 1 (.cons (.var 0) .nil))) <|
  .cons (.expr (.call n_check 1 (.cons (.call n_is_count 1 (.cons (.var 1) .nil)) .nil))) <|
  .cons (.ret (.call n_code_by 2 (.cons (.var 0) (.cons (.var 1) .nil)))) <|
  .nil)
def d_code_at : Df := ⟨"code_at", 0, ["key", "n"], 2, b_code_at⟩
def b_codes_from : Ss := (
  .cons (.expr (.call n_check_key 1 (.cons (.var 0) .nil))) <|
  .cons (.expr (.call n_check 1 (.cons (.and (.more (.call n_is_count 1 (.cons (.var 1) .nil)) (.one (.call n_is_within 3 (.cons (.var 2) (.cons (.con (.int 0)) (.cons (.glo (.int 100000)) .nil))))))) .nil))) <|
  .cons (.ret (.fr (.comp (.nm 3) (.r2 (.var 1) (.bin .Add (.var 1) (.var 2))) .no (.call n_code_by 2 (.cons (.var 0) (.cons (.var 3) .nil))) [3]))) <|
  .nil)
def d_codes_from : Df := ⟨"codes_from", 0, ["key", "n", "much", "at"], 3, b_codes_from⟩
def b_check_span : Ss := (
  .cons (.ife (.cmp .GtE (.bin .Sub (.var 1) (.var 0)) (.glo (.int 200000))) (
    .cons (.rse 3) <|
    .nil) .nil) <|
  .nil)
def d_check_span : Df := ⟨"check_span", 0, ["low", "high"], 2, b_check_span⟩
def b_counts_of : Ss := (
  .cons (.expr (.call n_check_key 1 (.cons (.var 0) .nil))) <|
  .cons (.expr (.call n_check 1 (.cons (.and (.more (.call n_is_count 1 (.cons (.var 2) .nil)) (.more (.call n_is_count 1 (.cons (.var 3) .nil)) (.one (.call n_are_figures 2 (.cons (.var 1) (.cons (.ixV 0 (.con (.int 3))) .nil))))))) .nil))) <|
  .cons (.expr (.call n_check_span 2 (.cons (.var 2) (.cons (.var 3) .nil)))) <|
  .cons (.ret (.fr (.comp (.nm 4) (.r2 (.var 2) (.bin .Add (.var 3) (.con (.int 1)))) (.one (.cmp .Eq (.call n_code_by 2 (.cons (.var 0) (.cons (.var 4) .nil))) (.var 1))) (.var 4) [4]))) <|
  .nil)
def d_counts_of : Df := ⟨"counts_of", 0, ["key", "code", "low", "high", "n"], 4, b_counts_of⟩
def l1_first_repeat : Ss := (
  .cons (.asg 5 (.call n_code_by 2 (.cons (.var 0) (.cons (.var 4) .nil)))) <|
  .cons (.ife (.isin false (.var 5) (.lk 3)) (
    .cons (.ret (.tup (.cons (.ixV 3 (.var 5)) (.cons (.var 4) .nil)))) <|
    .nil) .nil) <|
  .cons (.putI 3 (.var 5) (.var 4)) <|
  .nil)
def b_first_repeat : Ss := (
  .cons (.expr (.call n_check_key 1 (.cons (.var 0) .nil))) <|
  .cons (.expr (.call n_check 1 (.cons (.and (.more (.call n_is_count 1 (.cons (.var 1) .nil)) (.one (.call n_is_count 1 (.cons (.var 2) .nil))))) .nil))) <|
  .cons (.expr (.call n_check_span 2 (.cons (.var 1) (.cons (.var 2) .nil)))) <|
  .cons (.ownD 3 (.new false)) <|
  .cons (.for (.nm 4) (.r2 (.var 1) (.bin .Add (.var 2) (.con (.int 1)))) l1_first_repeat) <|
  .cons (.ret (.con .non)) <|
  .nil)
def d_first_repeat : Df := ⟨"first_repeat", 0, ["key", "low", "high", "known", "n", "code"], 3, b_first_repeat⟩
def b_tell : Ss := (
  .cons (.expr (.call n_check 1 (.cons (.and (.more (.call n_is_count 1 (.cons (.var 0) .nil)) (.one (.call n_is_within 3 (.cons (.var 1) (.cons (.con (.int 1)) (.cons (.glo (.int 12)) .nil))))))) .nil))) <|
  .cons (.ret (.call n_told 2 (.cons (.var 0) (.cons (.var 1) .nil)))) <|
  .nil)
def d_tell : Df := ⟨"tell", 0, ["value", "digits"], 2, b_tell⟩
def b_is_count_judge : Ss := (
  .cons (.ife (.or (.more (.not (.tr (.vl (.isi .tuple (.lk 0))))) (.more (.cmp .NotEq (.b1 .len (.lk 0)) (.con (.int 4))) (.more (.not (.tr (.vl (.call n_is_key_keys 1 (.cons (.ixV 0 (.con (.int 0))) .nil))))) (.one (.not (.tr (.vl (.call n_is_count 1 (.cons (.ixV 0 (.con (.int 1))) .nil)))))))))) (
    .cons (.ret (.con (.bl false))) <|
    .nil) .nil) <|
  .cons (.ret (.and (.more (.call n_is_within 3 (.cons (.ixV 0 (.con (.int 2))) (.cons (.con (.int 0)) (.cons (.glo (.int 1000)) .nil)))) (.one (.call n_is_within 3 (.cons (.ixV 0 (.con (.int 3))) (.cons (.ixV 0 (.con (.int 2))) (.cons (.glo (.int 20000)) .nil)))))))) <|
  .nil)
def d_is_count_judge : Df := ⟨"is_count_judge", 0, ["value"], 1, b_is_count_judge⟩
def b_is_device : Ss := (
  .cons (.ret (.and (.more (.isi .tuple (.lk 0)) (.more (.cmp .Eq (.b1 .len (.lk 0)) (.con (.int 2))) (.more (.call n_is_key_keys 1 (.cons (.ixV 0 (.con (.int 0))) .nil)) (.one (.call n_is_count 1 (.cons (.ixV 0 (.con (.int 1))) .nil)))))))) <|
  .nil)
def d_is_device : Df := ⟨"is_device", 0, ["value"], 1, b_is_device⟩
def b_check_judge : Ss := (
  .cons (.expr (.call n_check 1 (.cons (.call n_is_count_judge 1 (.cons (.var 0) .nil)) .nil))) <|
  .nil)
def d_check_judge : Df := ⟨"check_judge", 0, ["judge"], 1, b_check_judge⟩
def b_check_code : Ss := (
  .cons (.expr (.call n_check_judge 1 (.cons (.var 0) .nil))) <|
  .cons (.expr (.call n_check 1 (.cons (.call n_are_figures 2 (.cons (.var 1) (.cons (.ix (.ixV 0 (.con (.int 0))) (.con (.int 3))) .nil))) .nil))) <|
  .nil)
def d_check_code : Df := ⟨"check_code", 0, ["judge", "code"], 2, b_check_code⟩
def l1_met_by : Ss := (
  .cons (.ife (.cmp .Eq (.call n_code_by 2 (.cons (.var 3) (.cons (.var 2) .nil))) (.var 1)) (
    .cons (.ret (.var 2)) <|
    .nil) .nil) <|
  .nil)
def b_met_by : Ss := (
  .cons (.asgT (.tup [3, 4, 5, 6]) (.var 0)) <|
  .cons (.for (.nm 2) (.r2 (.var 4) (.bin .Add (.bin .Add (.var 4) (.var 5)) (.con (.int 1)))) l1_met_by) <|
  .cons (.ret (.con .non)) <|
  .nil)
def d_met_by : Df := ⟨"met_by", 0, ["judge", "code", "n", "key", "start", "window", "_"], 2, b_met_by⟩
def b_met_count : Ss := (
  .cons (.expr (.call n_check_code 2 (.cons (.var 0) (.cons (.var 1) .nil)))) <|
  .cons (.ret (.call n_met_by 2 (.cons (.var 0) (.cons (.var 1) .nil)))) <|
  .nil)
def d_met_count : Df := ⟨"met_count", 0, ["judge", "code"], 2, b_met_count⟩
def b_moved : Ss := (
  .cons (.ret (.tup (.cons (.ixV 0 (.con (.int 0))) (.cons (.var 1) (.cons (.ixV 0 (.con (.int 2))) (.cons (.ixV 0 (.con (.int 3))) .nil)))))) <|
  .nil)
def d_moved : Df := ⟨"moved", 0, ["judge", "start"], 2, b_moved⟩
def b_judged_by : Ss := (
  .cons (.asg 2 (.call n_met_by 2 (.cons (.var 0) (.cons (.var 1) .nil)))) <|
  .cons (.ret (.ife (.cmp .Is (.var 2) (.con .non)) (.tup (.cons (.con (.bl false)) (.cons (.var 0) .nil))) (.tup (.cons (.con (.bl true)) (.cons (.call n_moved 2 (.cons (.var 0) (.cons (.bin .Add (.var 2) (.con (.int 1))) .nil))) .nil))))) <|
  .nil)
def d_judged_by : Df := ⟨"judged_by", 0, ["judge", "code", "met"], 2, b_judged_by⟩
def b_judged : Ss := (
  .cons (.expr (.call n_check_code 2 (.cons (.var 0) (.cons (.var 1) .nil)))) <|
  .cons (.ret (.call n_judged_by 2 (.cons (.var 0) (.cons (.var 1) .nil)))) <|
  .nil)
def d_judged : Df := ⟨"judged", 0, ["judge", "code"], 2, b_judged⟩
def l1_beat_found : Ss := (
  .cons (.ife (.tr (.vl (.b1 .all (.vl (.fr (.comp (.tup [8, 7]) (.enum (.var 1)) .no (.cmp .Eq (.call n_code_by 2 (.cons (.var 3) (.cons (.bin .Add (.var 2) (.var 8)) .nil))) (.var 7)) [8, 7])))))) (
    .cons (.ret (.tup (.cons (.var 2) (.cons (.call n_moved 2 (.cons (.var 0) (.cons (.bin .Add (.var 2) (.b1 .len (.lk 1))) .nil))) .nil)))) <|
    .nil) .nil) <|
  .nil)
def b_beat_found : Ss := (
  .cons (.expr (.call n_check_judge 1 (.cons (.var 0) .nil))) <|
  .cons (.expr (.call n_check 1 (.cons (.and (.more (.isi .list (.lk 1)) (.one (.chn .LtE .LtE (.con (.int 2)) (.b1 .len (.lk 1)) (.glo (.int 10)))))) .nil))) <|
  .cons (.expr (.call n_check 1 (.cons (.b1 .all (.vl (.fr (.comp (.nm 7) (.sq (.var 1)) .no (.call n_are_figures 2 (.cons (.var 7) (.cons (.ix (.ixV 0 (.con (.int 0))) (.con (.int 3))) .nil))) [7])))) .nil))) <|
  .cons (.asgT (.tup [3, 4, 5, 6]) (.var 0)) <|
  .cons (.for (.nm 2) (.r2 (.var 4) (.bin .Add (.bin .Add (.var 4) (.var 6)) (.con (.int 1)))) l1_beat_found) <|
  .cons (.ret (.con .non)) <|
  .nil)
def d_beat_found : Df := ⟨"beat_found", 0, ["judge", "codes", "n", "key", "start", "_", "wide", "code", "at"], 2, b_beat_found⟩
def b_shown : Ss := (
  .cons (.expr (.call n_check 1 (.cons (.call n_is_device 1 (.cons (.var 0) .nil)) .nil))) <|
  .cons (.asgT (.tup [1, 2]) (.var 0)) <|
  .cons (.ret (.tup (.cons (.call n_code_by 2 (.cons (.var 1) (.cons (.var 2) .nil))) (.cons (.tup (.cons (.var 1) (.cons (.bin .Add (.var 2) (.con (.int 1))) .nil))) .nil)))) <|
  .nil)
def d_shown : Df := ⟨"shown", 0, ["device", "key", "n"], 1, b_shown⟩
def b_check_both : Ss := (
  .cons (.expr (.call n_check_judge 1 (.cons (.var 0) .nil))) <|
  .cons (.expr (.call n_check 1 (.cons (.call n_is_device 1 (.cons (.var 1) .nil)) .nil))) <|
  .nil)
def d_check_both : Df := ⟨"check_both", 0, ["judge", "device"], 2, b_check_both⟩
def b_apart : Ss := (
  .cons (.expr (.call n_check_both 2 (.cons (.var 0) (.cons (.var 1) .nil)))) <|
  .cons (.ife (.cmp .NotEq (.ixV 0 (.con (.int 0))) (.ixV 1 (.con (.int 0)))) (
    .cons (.rse 2) <|
    .nil) .nil) <|
  .cons (.ret (.bin .Sub (.ixV 1 (.con (.int 1))) (.ixV 0 (.con (.int 1))))) <|
  .nil)
def d_apart : Df := ⟨"apart", 0, ["judge", "device"], 2, b_apart⟩
def l1_session : Ss := (
  .cons (.asgT (.tup [5, 1]) (.call n_shown 1 (.cons (.var 1) .nil))) <|
  .cons (.ife (.cmp .Eq (.var 4) (.glo (.str "send"))) (
    .cons (.asgT (.tup [6, 0]) (.call n_judged_by 2 (.cons (.var 0) (.cons (.var 5) .nil)))) <|
    .cons (.app 3 (.var 6)) <|
    .nil) .nil) <|
  .nil)
def b_session : Ss := (
  .cons (.expr (.call n_check_both 2 (.cons (.var 0) (.cons (.var 1) .nil)))) <|
  .cons (.expr (.call n_check 1 (.cons (.and (.more (.b1 .all (.vl (.fr (.comp (.nm 4) (.sq (.var 2)) .no (.cmp .In (.var 4) (.tup (.cons (.glo (.str "show")) (.cons (.glo (.str "send")) .nil)))) [4])))) (.one (.cmp .Eq (.ixV 0 (.con (.int 0))) (.ixV 1 (.con (.int 0))))))) .nil))) <|
  .cons (.own 3 (.lst .nil)) <|
  .cons (.for (.nm 4) (.sq (.var 2)) l1_session) <|
  .cons (.ret (.tup (.cons (.var 3) (.cons (.var 0) (.cons (.var 1) .nil))))) <|
  .nil)
def d_session : Df := ⟨"session", 0, ["judge", "device", "words", "sent", "word", "code", "is_taken"], 3, b_session⟩
def b_looked_at : Ss := (
  .cons (.ret (.fr (.comp (.nm 1) (.r2 (.ixV 0 (.con (.int 1))) (.bin .Add (.bin .Add (.ixV 0 (.con (.int 1))) (.ixV 0 (.con (.int 2)))) (.con (.int 1)))) .no (.call n_code_by 2 (.cons (.ixV 0 (.con (.int 0))) (.cons (.var 1) .nil))) [1]))) <|
  .nil)
def d_looked_at : Df := ⟨"looked_at", 0, ["judge", "n"], 1, b_looked_at⟩
def b_taken_codes : Ss := (
  .cons (.expr (.call n_check_judge 1 (.cons (.var 0) .nil))) <|
  .cons (.ret (.fr (.sortK (.frD (.comp false (.nm 1) (.sq (.call n_looked_at 1 (.cons (.var 0) .nil))) .no (.var 1) (.con (.bl true)) [1]))))) <|
  .nil)
def d_taken_codes : Df := ⟨"taken_codes", 0, ["judge", "code"], 1, b_taken_codes⟩
def b_is_clear_by : Ss := (
  .cons (.asg 1 (.call n_looked_at 1 (.cons (.var 0) .nil))) <|
  .cons (.ret (.cmp .Eq (.b1 .len (.vl (.frD (.comp false (.nm 2) (.sq (.var 1)) .no (.var 2) (.con (.bl true)) [2])))) (.b1 .len (.lk 1)))) <|
  .nil)
def d_is_clear_by : Df := ⟨"is_clear_by", 0, ["judge", "codes", "code"], 1, b_is_clear_by⟩
def b_is_clear : Ss := (
  .cons (.expr (.call n_check_judge 1 (.cons (.var 0) .nil))) <|
  .cons (.ret (.call n_is_clear_by 1 (.cons (.var 0) .nil))) <|
  .nil)
def d_is_clear : Df := ⟨"is_clear", 0, ["judge"], 1, b_is_clear⟩
def b_most_shows : Ss := (
  .cons (.expr (.call n_check_judge 1 (.cons (.var 0) .nil))) <|
  .cons (.ife (.not (.tr (.vl (.call n_is_clear_by 1 (.cons (.var 0) .nil))))) (
    .cons (.rse 2) <|
    .nil) .nil) <|
  .cons (.ret (.ixV 0 (.con (.int 2)))) <|
  .nil)
def d_most_shows : Df := ⟨"most_shows", 0, ["judge"], 1, b_most_shows⟩
def b_is_key_checkcodes : Ss := (
  .cons (.ife (.or (.more (.not (.tr (.vl (.isi .tuple (.lk 0))))) (.more (.cmp .NotEq (.b1 .len (.lk 0)) (.con (.int 4))) (.one (.not (.tr (.vl (.call n_is_within 3 (.cons (.ixV 0 (.con (.int 3))) (.cons (.con (.int 1)) (.cons (.con (.int 6)) .nil))))))))))) (
    .cons (.ret (.con (.bl false))) <|
    .nil) .nil) <|
  .cons (.ret (.b1 .all (.vl (.fr (.comp (.nm 1) (.sq (.slV 0 .no (.so (.con (.int 3))))) .no (.call n_is_within 3 (.cons (.var 1) (.cons (.con (.int 0)) (.cons (.bin .Sub (.glo (.int 1000003)) (.con (.int 1))) .nil)))) [1]))))) <|
  .nil)
def d_is_key_checkcodes : Df := ⟨"is_key_checkcodes", 0, ["value", "one"], 1, b_is_key_checkcodes⟩
def b_is_code_checkcodes : Ss := (
  .cons (.ret (.and (.more (.isi .str (.lk 1)) (.more (.cmp .Eq (.b1 .len (.lk 1)) (.ixV 0 (.con (.int 3)))) (.one (.b1 .all (.vl (.fr (.comp (.nm 2) (.sq (.var 1)) .no (.cmp .In (.var 2) (.con (.str "0123456789"))) [2]))))))))) <|
  .nil)
def d_is_code_checkcodes : Df := ⟨"is_code_checkcodes", 0, ["key", "value", "sign"], 2, b_is_code_checkcodes⟩
def b_shows : Ss := (
  .cons (.asgT (.tup [3, 4, 5, 6]) (.var 0)) <|
  .cons (.ret (.cmp .Eq (.bin .Mod (.bin .Mod (.bin .Add (.bin .Add (.bin .Mult (.bin .Mult (.bin .Mult (.var 3) (.var 1)) (.var 1)) (.var 1)) (.bin .Mult (.var 4) (.var 1))) (.var 5)) (.glo (.int 1000003))) (.call n_power 2 (.cons (.con (.int 10)) (.cons (.var 6) .nil)))) (.b1 .int (.lk 2)))) <|
  .nil)
def d_shows : Df := ⟨"shows", 0, ["key", "n", "code", "a", "b", "c", "digits"], 3, b_shows⟩
def b_takes_repeat : Ss := (
  .cons (.expr (.call n_check 1 (.cons (.call n_is_key_checkcodes 1 (.cons (.var 0) .nil)) .nil))) <|
  .cons (.ife (.or (.more (.not (.tr (.vl (.call n_is_count 1 (.cons (.var 1) .nil))))) (.more (.not (.tr (.vl (.call n_is_count 1 (.cons (.var 2) .nil))))) (.one (.cmp .GtE (.var 1) (.var 2)))))) (
    .cons (.ret (.con (.bl false))) <|
    .nil) .nil) <|
  .cons (.asgT (.tup [4, 5, 6, 7]) (.var 0)) <|
  .cons (.asgF 3 (.comp (.nm 8) (.sq (.tup (.cons (.var 1) (.cons (.var 2) .nil)))) .no (.bin .Mod (.bin .Mod (.bin .Add (.bin .Add (.bin .Mult (.bin .Mult (.bin .Mult (.var 4) (.var 8)) (.var 8)) (.var 8)) (.bin .Mult (.var 5) (.var 8))) (.var 6)) (.glo (.int 1000003))) (.call n_power 2 (.cons (.con (.int 10)) (.cons (.var 7) .nil)))) [8])) <|
  .cons (.ret (.cmp .Eq (.ixV 3 (.con (.int 0))) (.ixV 3 (.con (.int 1))))) <|
  .nil)
def d_takes_repeat : Df := ⟨"takes_repeat", 0, ["key", "one", "other", "values", "a", "b", "c", "digits", "n"], 3, b_takes_repeat⟩
def b_need_judge : Ss := (
  .cons (.expr (.call n_check 1 (.cons (.and (.more (.isi .tuple (.lk 0)) (.more (.cmp .Eq (.b1 .len (.lk 0)) (.con (.int 4))) (.more (.call n_is_key_checkcodes 1 (.cons (.ixV 0 (.con (.int 0))) .nil)) (.one (.call n_is_count 1 (.cons (.ixV 0 (.con (.int 1))) .nil))))))) .nil))) <|
  .cons (.expr (.call n_check 1 (.cons (.and (.more (.call n_is_within 3 (.cons (.ixV 0 (.con (.int 2))) (.cons (.con (.int 0)) (.cons (.con (.int 1000)) .nil)))) (.one (.call n_is_within 3 (.cons (.ixV 0 (.con (.int 3))) (.cons (.ixV 0 (.con (.int 2))) (.cons (.con (.int 20000)) .nil))))))) .nil))) <|
  .nil)
def d_need_judge : Df := ⟨"need_judge", 0, ["judge"], 1, b_need_judge⟩
def b_takes_met : Ss := (
  .cons (.expr (.call n_need_judge 1 (.cons (.var 0) .nil))) <|
  .cons (.asgT (.tup [3, 4, 5, 6]) (.var 0)) <|
  .cons (.ife (.or (.more (.not (.tr (.vl (.call n_is_code_checkcodes 2 (.cons (.var 3) (.cons (.var 1) .nil)))))) (.one (.not (.tr (.vl (.call n_is_within 3 (.cons (.var 2) (.cons (.var 4) (.cons (.bin .Add (.var 4) (.var 5)) .nil)))))))))) (
    .cons (.ret (.con (.bl false))) <|
    .nil) .nil) <|
  .cons (.ret (.and (.more (.call n_shows 3 (.cons (.var 3) (.cons (.var 2) (.cons (.var 1) .nil)))) (.one (.not (.b1 .any (.vl (.fr (.comp (.nm 7) (.r2 (.var 4) (.var 2)) .no (.call n_shows 3 (.cons (.var 3) (.cons (.var 7) (.cons (.var 1) .nil)))) [7]))))))))) <|
  .nil)
def d_takes_met : Df := ⟨"takes_met", 0, ["judge", "code", "count", "key", "start", "window", "_", "n"], 3, b_takes_met⟩
def b_fits : Ss := (
  .cons (.ret (.b1 .all (.vl (.fr (.comp (.tup [3, 4]) (.enum (.var 2)) .no (.call n_shows 3 (.cons (.var 0) (.cons (.bin .Add (.var 1) (.var 3)) (.cons (.var 4) .nil)))) [3, 4]))))) <|
  .nil)
def d_fits : Df := ⟨"fits", 0, ["key", "n", "codes", "at", "code"], 3, b_fits⟩
def b_takes_beat : Ss := (
  .cons (.expr (.call n_need_judge 1 (.cons (.var 0) .nil))) <|
  .cons (.asgT (.tup [3, 4, 5, 6]) (.var 0)) <|
  .cons (.ife (.or (.more (.not (.tr (.vl (.isi .list (.lk 1))))) (.more (.not (.chn .LtE .LtE (.con (.int 2)) (.b1 .len (.lk 1)) (.con (.int 10)))) (.one (.not (.tr (.vl (.b1 .all (.vl (.fr (.comp (.nm 7) (.sq (.var 1)) .no (.call n_is_code_checkcodes 2 (.cons (.var 3) (.cons (.var 7) .nil))) [7]))))))))))) (
    .cons (.ret (.con (.bl false))) <|
    .nil) .nil) <|
  .cons (.ife (.not (.tr (.vl (.call n_is_within 3 (.cons (.var 2) (.cons (.var 4) (.cons (.bin .Add (.var 4) (.var 6)) .nil))))))) (
    .cons (.ret (.con (.bl false))) <|
    .nil) .nil) <|
  .cons (.ret (.and (.more (.call n_fits 3 (.cons (.var 3) (.cons (.var 2) (.cons (.var 1) .nil)))) (.one (.not (.b1 .any (.vl (.fr (.comp (.nm 8) (.r2 (.var 4) (.var 2)) .no (.call n_fits 3 (.cons (.var 3) (.cons (.var 8) (.cons (.var 1) .nil)))) [8]))))))))) <|
  .nil)
def d_takes_beat : Df := ⟨"takes_beat", 0, ["judge", "codes", "count", "key", "start", "_", "wide", "code", "n"], 3, b_takes_beat⟩
def l1__law_draws : Ss := (
  .cons (.ife (.cmp .Gt (.var 5) (.con (.int 0))) (
    .cons (.app 1 (.bin .Mod (.b1 .int (.lk 5)) (.con (.int 997)))) <|
    .cons (.asg 5 (.bin .FloorDiv (.var 5) (.con (.int 997)))) <|
    .nil) .nil) <|
  .nil)
def l2__law_draws : Ss := (
  .cons (.asg 5 (.b1 .abs (.lk 2))) <|
  .cons (.ife (.cmp .Lt (.var 5) (.bin .Pow (.con (.int 10)) (.con (.int 18)))) (
    .cons (.asg 6 (.bin .Mod (.b1 .int (.vl (.bin .Add (.bin .Mult (.var 5) (.con (.int 48271))) (.con (.int 11))))) (.con (.int 2147483647)))) <|
    .cons (.app 1 (.bin .Mod (.b1 .int (.vl (.bin .Add (.bin .Mult (.var 6) (.con (.int 69621))) (.var 5)))) (.con (.int 2147483629)))) <|
    .cons (.app 1 (.bin .Mod (.b1 .int (.vl (.bin .Add (.var 6) (.bin .FloorDiv (.var 5) (.con (.int 7)))))) (.con (.int 1000003)))) <|
    .cons (.asg 5 (.con (.int 0))) <|
    .nil) .nil) <|
  .cons (.for (.nm 4) (.r1 (.con (.int 60))) l1__law_draws) <|
  .nil)
def l3__law_draws : Ss := (
  .cons (.asg 3 (.bin .Mod (.b1 .int (.vl (.bin .Add (.bin .Mult (.var 3) (.con (.int 48271))) (.con (.int 69621))))) (.con (.int 2147483647)))) <|
  .cons (.app 1 (.bin .FloorDiv (.var 3) (.con (.int 5)))) <|
  .nil)
def b__law_draws : Ss := (
  .cons (.own 1 (.lst .nil)) <|
  .cons (.for (.nm 2) (.sq (.var 0)) l2__law_draws) <|
  .cons (.asg 3 (.con (.int 1))) <|
  .cons (.ife (.cmp .Gt (.b1 .len (.lk 0)) (.con (.int 0))) (
    .cons (.asg 3 (.bin .Add (.con (.int 1)) (.b1 .abs (.vl (.ixV 0 (.con (.int 0))))))) <|
    .nil) .nil) <|
  .cons (.for (.nm 4) (.r1 (.con (.int 9000))) l3__law_draws) <|
  .cons (.retF (.listRev (.lk 1))) <|
  .nil)
def d__law_draws : Df := ⟨"_law_draws", 2, ["script", "draws", "cell", "seed", "k", "number", "first"], 1, b__law_draws⟩
def b__law_take : Ss := (
  .cons (.ife (.cmp .Eq (.b1 .len (.lk 0)) (.con (.int 0))) (
    .cons (.ret (.con (.int 0))) <|
    .nil) .nil) <|
  .cons (.ret (.bin .Mod (.b1 .int (.vl (.pop 0))) (.var 1))) <|
  .nil)
def d__law_take : Df := ⟨"_law_take", 1, ["draws", "bound"], 2, b__law_take⟩
def b__law_pick : Ss := (
  .cons (.ret (.ixV 1 (.callM n__law_take 2 0 (.cons (.b1 .len (.lk 1)) .nil)))) <|
  .nil)
def d__law_pick : Df := ⟨"_law_pick", 1, ["draws", "items"], 2, b__law_pick⟩
def b__law_same : Ss := (
  .cons (.ife (.tr (.vl (.isi .dict (.lk 1)))) (
    .cons (.ife (.or (.more (.not (.tr (.vl (.isi .dict (.lk 0))))) (.one (.cmp .NotEq (.fr (.sorted (.vl (.fr (.listOf (.lk 0)))))) (.fr (.sorted (.vl (.fr (.listOf (.lk 1)))))))))) (
      .cons (.ret (.con (.bl false))) <|
      .nil) .nil) <|
    .cons (.ret (.b1 .all (.vl (.fr (.comp (.nm 2) (.sq (.var 1)) .no (.call n__law_same 2 (.cons (.ixV 0 (.var 2)) (.cons (.ixV 1 (.var 2)) .nil))) [2]))))) <|
    .nil) .nil) <|
  .cons (.ife (.or (.more (.tr (.vl (.isi .tuple (.lk 1)))) (.one (.tr (.vl (.isi .list (.lk 1))))))) (
    .cons (.ife (.or (.more (.cmp .NotEq (.isi .tuple (.lk 1)) (.isi .tuple (.lk 0))) (.one (.cmp .NotEq (.isi .list (.lk 1)) (.isi .list (.lk 0)))))) (
      .cons (.ret (.con (.bl false))) <|
      .nil) .nil) <|
    .cons (.ret (.and (.more (.cmp .Eq (.b1 .len (.lk 0)) (.b1 .len (.lk 1))) (.one (.b1 .all (.vl (.fr (.comp (.nm 3) (.r1 (.b1 .len (.lk 1))) .no (.call n__law_same 2 (.cons (.ixV 0 (.var 3)) (.cons (.ixV 1 (.var 3)) .nil))) [3])))))))) <|
    .nil) .nil) <|
  .cons (.ife (.cmp .Is (.var 1) (.con .non)) (
    .cons (.ret (.cmp .Is (.var 0) (.con .non))) <|
    .nil) .nil) <|
  .cons (.ife (.cmp .NotEq (.isi .bool (.lk 1)) (.isi .bool (.lk 0))) (
    .cons (.ret (.con (.bl false))) <|
    .nil) .nil) <|
  .cons (.ife (.or (.more (.cmp .NotEq (.isi .int (.lk 1)) (.isi .int (.lk 0))) (.one (.cmp .NotEq (.isi .str (.lk 1)) (.isi .str (.lk 0)))))) (
    .cons (.ret (.con (.bl false))) <|
    .nil) .nil) <|
  .cons (.ret (.cmp .Eq (.var 0) (.var 1))) <|
  .nil)
def d__law_same : Df := ⟨"_law_same", 0, ["told_v", "due", "key", "k"], 2, b__law_same⟩
def b__law_key : Ss := (
  .cons (.asg 1 (.bin .Add (.con (.int 1)) (.callM n__law_take 2 0 (.cons (.con (.int 6)) .nil)))) <|
  .cons (.asg 2 (.callM n__law_pick 2 0 (.cons (.fr (.lst (.cons (.con (.int 2)) (.cons (.con (.int 10)) (.cons (.con (.int 1000003)) .nil))))) .nil))) <|
  .cons (.ret (.tup (.cons (.callM n__law_pick 2 0 (.cons (.fr (.lst (.cons (.con (.int 0)) (.cons (.callM n__law_take 2 0 (.cons (.var 2) .nil)) .nil)))) .nil)) (.cons (.callM n__law_take 2 0 (.cons (.var 2) .nil)) (.cons (.callM n__law_take 2 0 (.cons (.con (.int 1000003)) .nil)) (.cons (.var 1) .nil)))))) <|
  .nil)
def d__law_key : Df := ⟨"_law_key", 1, ["draws", "digits", "small"], 1, b__law_key⟩
def b__law_value : Ss := (
  .cons (.ret (.bin .Mod (.b1 .int (.vl (.bin .Add (.bin .Add (.bin .Mult (.bin .Mult (.bin .Mult (.ixV 0 (.con (.int 0))) (.var 1)) (.var 1)) (.var 1)) (.bin .Mult (.ixV 0 (.con (.int 1))) (.var 1))) (.ixV 0 (.con (.int 2)))))) (.con (.int 1000003)))) <|
  .nil)
def d__law_value : Df := ⟨"_law_value", 0, ["key", "n"], 2, b__law_value⟩
def b__law_code : Ss := (
  .cons (.asg 2 (.bin .Add (.bin .Mult (.con (.str "0")) (.con (.int 12))) (.b1 .str (.vl (.call n__law_value 2 (.cons (.var 0) (.cons (.var 1) .nil))))))) <|
  .cons (.ret (.slV 2 (.so (.bin .Sub (.b1 .len (.lk 2)) (.ixV 0 (.con (.int 3))))) .no)) <|
  .nil)
def d__law_code : Df := ⟨"_law_code", 0, ["key", "n", "text"], 2, b__law_code⟩
def l1__law_first_repeat : Ss := (
  .cons (.ife (.isin false (.ixV 0 (.var 3)) (.lk 2)) (
    .cons (.ret (.tup (.cons (.bin .Add (.var 1) (.ixV 2 (.ixV 0 (.var 3)))) (.cons (.bin .Add (.var 1) (.var 3)) .nil)))) <|
    .nil) .nil) <|
  .cons (.putI 2 (.ixV 0 (.var 3)) (.var 3)) <|
  .nil)
def b__law_first_repeat : Ss := (
  .cons (.ownD 2 (.new false)) <|
  .cons (.for (.nm 3) (.r1 (.b1 .len (.lk 0))) l1__law_first_repeat) <|
  .cons (.ret (.con .non)) <|
  .nil)
def d__law_first_repeat : Df := ⟨"_law_first_repeat", 0, ["codes", "low", "seen", "k"], 2, b__law_first_repeat⟩
def b__law_met : Ss := (
  .cons (.asgT (.tup [3, 4, 5, 6]) (.var 0)) <|
  .cons (.asgF 2 (.comp (.nm 7) (.r2 (.var 4) (.bin .Add (.bin .Add (.var 4) (.var 5)) (.con (.int 1)))) (.one (.cmp .Eq (.call n__law_code 2 (.cons (.var 3) (.cons (.var 7) .nil))) (.var 1))) (.var 7) [7])) <|
  .cons (.ret (.ife (.cmp .NotEq (.var 2) (.fr (.lst .nil))) (.ixV 2 (.con (.int 0))) (.con .non))) <|
  .nil)
def d__law_met : Df := ⟨"_law_met", 0, ["judge", "code", "fits_v", "key", "now", "window", "wide", "n"], 2, b__law_met⟩
def b__law_most : Ss := (
  .cons (.tri 4 (
    .cons (.ret (.call n_most_shows 1 (.cons (.var 0) .nil))) <|
    .nil) [(2, .non)]) <|
  .nil)
def d__law_most : Df := ⟨"_law_most", 0, ["judge"], 1, b__law_most⟩
def m1__law_are_keys : S := (.asg 2 (.callM n__law_pick 2 0 (.cons (.fr (.lst (.cons (.con (.int 0)) (.cons (.callM n__law_take 2 0 (.cons (.con (.int 5000)) .nil)) (.cons (.bin .Add (.bin .Pow (.con (.int 10)) (.con (.int 12))) (.callM n__law_take 2 0 (.cons (.con (.int 99)) .nil))) .nil))))) .nil)))
def m2__law_are_keys : S := (.asg 3 (.bin .Add (.con (.int 1)) (.callM n__law_take 2 0 (.cons (.con (.int 299)) .nil))))
def m3__law_are_keys : S := (.asgF 4 (.comp (.nm 9) (.r1 (.var 3)) .no (.call n__law_code 2 (.cons (.var 1) (.cons (.bin .Add (.var 2) (.var 9)) .nil))) [9]))
def m4__law_are_keys : S := (.ife (.or (.more (.cmp .NotEq (.call n_codes_from 3 (.cons (.var 1) (.cons (.var 2) (.cons (.var 3) .nil)))) (.var 4)) (.more (.cmp .NotEq (.call n_value_at 2 (.cons (.var 1) (.cons (.var 2) .nil))) (.call n__law_value 2 (.cons (.var 1) (.cons (.var 2) .nil)))) (.one (.cmp .NotEq (.call n_code_at 2 (.cons (.var 1) (.cons (.bin .Add (.var 2) (.bin .Mult (.con (.int 1000003)) (.callM n__law_take 2 0 (.cons (.con (.int 9)) .nil)))) .nil))) (.call n__law_code 2 (.cons (.var 1) (.cons (.var 2) .nil)))))))) (
    .cons (.ret (.con (.bl false))) <|
    .nil) .nil)
def m5__law_are_keys : S := (.asg 5 (.callM n__law_pick 2 0 (.cons (.bin .Add (.var 4) (.fr (.lst (.cons (.call n__law_code 2 (.cons (.var 1) (.cons (.var 2) .nil))) .nil)))) .nil)))
def m6__law_are_keys : S := (.asg 6 (.bin .Sub (.bin .Add (.var 2) (.var 3)) (.con (.int 1))))
def m7__law_are_keys : S := (.ife (.or (.more (.cmp .NotEq (.call n_counts_of 4 (.cons (.var 1) (.cons (.var 5) (.cons (.var 2) (.cons (.var 6) .nil))))) (.fr (.comp (.nm 9) (.r1 (.var 3)) (.one (.cmp .Eq (.ixV 4 (.var 9)) (.var 5))) (.bin .Add (.var 2) (.var 9)) [9]))) (.more (.cmp .IsNot (.call n_is_code_keys 2 (.cons (.var 1) (.cons (.var 5) .nil))) (.con (.bl true))) (.one (.cmp .IsNot (.call n_is_code_keys 2 (.cons (.var 1) (.cons (.bin .Add (.var 5) (.con (.str "0"))) .nil))) (.con (.bl false))))))) (
    .cons (.ret (.con (.bl false))) <|
    .nil) .nil)
def m8__law_are_keys : S := (.asg 7 (.call n__law_first_repeat 2 (.cons (.var 4) (.cons (.var 2) .nil))))
def m9__law_are_keys : S := (.ife (.not (.tr (.vl (.call n__law_same 2 (.cons (.call n_first_repeat 3 (.cons (.var 1) (.cons (.var 2) (.cons (.var 6) .nil)))) (.cons (.var 7) .nil)))))) (
    .cons (.ret (.con (.bl false))) <|
    .nil) .nil)
def m10__law_are_keys : S := (.ife (.and (.more (.cmp .IsNot (.var 7) (.con .non)) (.one (.or (.more (.cmp .IsNot (.call n_takes_repeat 3 (.cons (.var 1) (.cons (.ixV 7 (.con (.int 0))) (.cons (.ixV 7 (.con (.int 1))) .nil)))) (.con (.bl true))) (.one (.cmp .IsNot (.call n_takes_repeat 3 (.cons (.var 1) (.cons (.ixV 7 (.con (.int 1))) (.cons (.ixV 7 (.con (.int 0))) .nil)))) (.con (.bl false))))))))) (
    .cons (.ret (.con (.bl false))) <|
    .nil) .nil)
def m11__law_are_keys : S := (.asg 8 (.callM n__law_take 2 0 (.cons (.bin .Pow (.con (.int 10)) (.con (.int 9))) .nil)))
def m12__law_are_keys : S := (.ret (.cmp .Eq (.call n_tell 2 (.cons (.var 8) (.cons (.con (.int 4)) .nil))) (.sl (.bin .Add (.con (.str "0000")) (.b1 .str (.lk 8))) (.so (.neg (.con (.int 4)))) .no)))
def b__law_are_keys : Ss := .cons m1__law_are_keys <| .cons m2__law_are_keys <| .cons m3__law_are_keys <| .cons m4__law_are_keys <| .cons m5__law_are_keys <| .cons m6__law_are_keys <| .cons m7__law_are_keys <| .cons m8__law_are_keys <| .cons m9__law_are_keys <| .cons m10__law_are_keys <| .cons m11__law_are_keys <| .cons m12__law_are_keys <| .nil
def d__law_are_keys : Df := ⟨"_law_are_keys", 1, ["draws", "key", "low", "much", "codes", "code", "high", "repeat", "number", "k"], 2, b__law_are_keys⟩
def l1__law_are_sessions : Ss := (
  .cons (.ife (.cmp .Eq (.var 6) (.con (.str "send"))) (
    .cons (.asg 9 (.call n__law_met 2 (.cons (.var 14) (.cons (.call n__law_code 2 (.cons (.var 1) (.cons (.var 5) .nil))) .nil)))) <|
    .cons (.app 15 (.cmp .IsNot (.var 9) (.con .non))) <|
    .cons (.ife (.cmp .IsNot (.var 9) (.con .non)) (
      .cons (.asg 14 (.tup (.cons (.var 1) (.cons (.bin .Add (.var 9) (.con (.int 1))) (.cons (.ixV 14 (.con (.int 2))) (.cons (.ixV 14 (.con (.int 3))) .nil)))))) <|
      .nil) .nil) <|
    .nil) .nil) <|
  .cons (.asg 5 (.bin .Add (.var 5) (.con (.int 1)))) <|
  .nil)
def m1__law_are_sessions : S := (.asg 2 (.callM n__law_take 2 0 (.cons (.callM n__law_pick 2 0 (.cons (.fr (.lst (.cons (.con (.int 3)) (.cons (.con (.int 30)) (.cons (.con (.int 300)) .nil))))) .nil)) .nil)))
def m2__law_are_sessions : S := (.asg 3 (.tup (.cons (.var 1) (.cons (.callM n__law_take 2 0 (.cons (.con (.int 2000)) .nil)) (.cons (.var 2) (.cons (.bin .Add (.var 2) (.callM n__law_take 2 0 (.cons (.con (.int 300)) .nil))) .nil))))))
def m3__law_are_sessions : S := (.par [13, 14, 15] (.cE (.tup (.cons (.var 1) (.cons (.bin .Add (.ixV 3 (.con (.int 1))) (.callM n__law_take 2 0 (.cons (.bin .Add (.var 2) (.con (.int 2))) .nil))) .nil))) (.cE (.var 3) (.cF (.lst .nil) .nil))))
def m4__law_are_sessions : S := (.asgF 4 (.comp (.nm 20) (.r1 (.callM n__law_take 2 0 (.cons (.con (.int 60)) .nil))) .no (.callM n__law_pick 2 0 (.cons (.fr (.lst (.cons (.con (.str "show")) (.cons (.con (.str "send")) (.cons (.con (.str "send")) .nil))))) .nil)) [20]))
def m5__law_are_sessions : S := (.asg 5 (.ixV 13 (.con (.int 1))))
def m6__law_are_sessions : S := (.for (.nm 6) (.sq (.var 4)) l1__law_are_sessions)
def m7__law_are_sessions : S := (.ife (.or (.more (.not (.tr (.vl (.call n__law_same 2 (.cons (.call n_session 3 (.cons (.var 3) (.cons (.var 13) (.cons (.fr (.listOf (.lk 4))) .nil)))) (.cons (.tup (.cons (.var 15) (.cons (.var 14) (.cons (.tup (.cons (.var 1) (.cons (.var 5) .nil))) .nil)))) .nil)))))) (.one (.cmp .NotEq (.call n_apart 2 (.cons (.var 3) (.cons (.var 13) .nil))) (.bin .Sub (.ixV 13 (.con (.int 1))) (.ixV 3 (.con (.int 1)))))))) (
    .cons (.ret (.con (.bl false))) <|
    .nil) .nil)
def m8__law_are_sessions : S := (.asgF 7 (.comp (.nm 21) (.r2 (.ixV 3 (.con (.int 1))) (.bin .Add (.bin .Add (.ixV 3 (.con (.int 1))) (.var 2)) (.con (.int 1)))) .no (.call n__law_code 2 (.cons (.var 1) (.cons (.var 21) .nil))) [21]))
def m9__law_are_sessions : S := (.asg 8 (.cmp .Eq (.lenSS (.lk 7)) (.b1 .len (.lk 7))))
def m10__law_are_sessions : S := (.ife (.not (.tr (.vl (.call n__law_same 2 (.cons (.fr (.lst (.cons (.call n_taken_codes 1 (.cons (.var 3) .nil)) (.cons (.call n_is_clear 1 (.cons (.var 3) .nil)) (.cons (.call n__law_most 1 (.cons (.var 3) .nil)) .nil))))) (.cons (.fr (.lst (.cons (.fr (.sortSS (.lk 7))) (.cons (.var 8) (.cons (.ife (.tr (.lk 8)) (.var 2) (.con .non)) .nil))))) .nil)))))) (
    .cons (.ret (.con (.bl false))) <|
    .nil) .nil)
def m11__law_are_sessions : S := (.asgT (.tup [16, 17]) (.call n_shown 1 (.cons (.var 13) .nil)))
def m12__law_are_sessions : S := (.asg 9 (.call n__law_met 2 (.cons (.var 3) (.cons (.var 16) .nil))))
def m13__law_are_sessions : S := (.ife (.or (.more (.cmp .NotEq (.tup (.cons (.var 16) (.cons (.var 17) .nil))) (.tup (.cons (.call n__law_code 2 (.cons (.var 1) (.cons (.ixV 13 (.con (.int 1))) .nil))) (.cons (.tup (.cons (.var 1) (.cons (.bin .Add (.ixV 13 (.con (.int 1))) (.con (.int 1))) .nil))) .nil)))) (.one (.not (.tr (.vl (.call n__law_same 2 (.cons (.call n_met_count 2 (.cons (.var 3) (.cons (.var 16) .nil))) (.cons (.var 9) .nil))))))))) (
    .cons (.ret (.con (.bl false))) <|
    .nil) .nil)
def m14__law_are_sessions : S := (.ife (.not (.tr (.vl (.call n__law_same 2 (.cons (.call n_judged 2 (.cons (.var 3) (.cons (.var 16) .nil))) (.cons (.tup (.cons (.cmp .IsNot (.var 9) (.con .non)) (.cons (.ife (.cmp .Is (.var 9) (.con .non)) (.var 3) (.tup (.cons (.var 1) (.cons (.bin .Add (.var 9) (.con (.int 1))) (.cons (.ixV 3 (.con (.int 2))) (.cons (.ixV 3 (.con (.int 3))) .nil)))))) .nil))) .nil)))))) (
    .cons (.ret (.con (.bl false))) <|
    .nil) .nil)
def m15__law_are_sessions : S := (.ife (.or (.more (.and (.more (.cmp .IsNot (.var 9) (.con .non)) (.one (.or (.more (.cmp .IsNot (.call n_takes_met 3 (.cons (.var 3) (.cons (.var 16) (.cons (.var 9) .nil)))) (.con (.bl true))) (.one (.cmp .IsNot (.call n_takes_met 3 (.cons (.var 3) (.cons (.var 16) (.cons (.bin .Add (.var 9) (.con (.int 1))) .nil)))) (.con (.bl false))))))))) (.one (.and (.more (.tr (.lk 8)) (.more (.cmp .LtE (.ixV 13 (.con (.int 1))) (.bin .Add (.ixV 3 (.con (.int 1))) (.var 2))) (.one (.cmp .NotEq (.var 9) (.ixV 13 (.con (.int 1))))))))))) (
    .cons (.ret (.con (.bl false))) <|
    .nil) .nil)
def m16__law_are_sessions : S := (.par [18, 19] (.cE (.bin .Add (.con (.int 2)) (.callM n__law_take 2 0 (.cons (.con (.int 5)) .nil))) (.cE (.bin .Add (.ixV 3 (.con (.int 1))) (.callM n__law_take 2 0 (.cons (.bin .Add (.ixV 3 (.con (.int 3))) (.con (.int 20))) .nil))) .nil)))
def m17__law_are_sessions : S := (.asgF 10 (.comp (.nm 20) (.r1 (.var 18)) .no (.call n__law_code 2 (.cons (.var 1) (.cons (.bin .Add (.var 19) (.var 20)) .nil))) [20]))
def m18__law_are_sessions : S := (.asgF 11 (.comp (.nm 21) (.r2 (.ixV 3 (.con (.int 1))) (.bin .Add (.bin .Add (.ixV 3 (.con (.int 1))) (.ixV 3 (.con (.int 3)))) (.con (.int 1)))) (.one (.tr (.vl (.b1 .all (.vl (.fr (.comp (.nm 20) (.r1 (.var 18)) .no (.cmp .Eq (.call n__law_code 2 (.cons (.var 1) (.cons (.bin .Add (.var 21) (.var 20)) .nil))) (.ixV 10 (.var 20))) [20]))))))) (.var 21) [21]))
def m19__law_are_sessions : S := (.asg 12 (.ife (.cmp .Eq (.var 11) (.fr (.lst .nil))) (.con .non) (.tup (.cons (.ixV 11 (.con (.int 0))) (.cons (.tup (.cons (.var 1) (.cons (.bin .Add (.ixV 11 (.con (.int 0))) (.var 18)) (.cons (.ixV 3 (.con (.int 2))) (.cons (.ixV 3 (.con (.int 3))) .nil))))) .nil)))))
def m20__law_are_sessions : S := (.ife (.or (.more (.not (.tr (.vl (.call n__law_same 2 (.cons (.call n_beat_found 2 (.cons (.var 3) (.cons (.fr (.listOf (.lk 10))) .nil))) (.cons (.var 12) .nil)))))) (.one (.and (.more (.cmp .LtE (.var 19) (.bin .Add (.ixV 3 (.con (.int 1))) (.ixV 3 (.con (.int 3))))) (.one (.cmp .Is (.var 12) (.con .non)))))))) (
    .cons (.ret (.con (.bl false))) <|
    .nil) .nil)
def m21__law_are_sessions : S := (.ret (.or (.more (.cmp .Is (.var 12) (.con .non)) (.one (.and (.more (.cmp .Is (.call n_takes_beat 3 (.cons (.var 3) (.cons (.fr (.listOf (.lk 10))) (.cons (.ixV 12 (.con (.int 0))) .nil)))) (.con (.bl true))) (.one (.cmp .Is (.call n_takes_beat 3 (.cons (.var 3) (.cons (.fr (.listOf (.lk 10))) (.cons (.bin .Add (.ixV 12 (.con (.int 0))) (.con (.int 1))) .nil)))) (.con (.bl false))))))))))
def b__law_are_sessions : Ss := .cons m1__law_are_sessions <| .cons m2__law_are_sessions <| .cons m3__law_are_sessions <| .cons m4__law_are_sessions <| .cons m5__law_are_sessions <| .cons m6__law_are_sessions <| .cons m7__law_are_sessions <| .cons m8__law_are_sessions <| .cons m9__law_are_sessions <| .cons m10__law_are_sessions <| .cons m11__law_are_sessions <| .cons m12__law_are_sessions <| .cons m13__law_are_sessions <| .cons m14__law_are_sessions <| .cons m15__law_are_sessions <| .cons m16__law_are_sessions <| .cons m17__law_are_sessions <| .cons m18__law_are_sessions <| .cons m19__law_are_sessions <| .cons m20__law_are_sessions <| .cons m21__law_are_sessions <| .nil
def d__law_are_sessions : Df := ⟨"_law_are_sessions", 1, ["draws", "key", "window", "judge", "words", "here", "word", "codes", "clear", "met", "row", "fits_v", "beat", "device", "due", "sent", "code", "behind", "many", "start", "k", "n"], 2, b__law_are_sessions⟩
def l1_law : Ss := (
  .cons (.asg 5 (.callM n__law_key 1 1 .nil)) <|
  .cons (.ife (.or (.more (.not (.tr (.vl (.callM n__law_are_keys 2 1 (.cons (.var 5) .nil))))) (.one (.not (.tr (.vl (.callM n__law_are_sessions 2 1 (.cons (.var 5) .nil)))))))) (
    .cons (.ret (.con (.bl false))) <|
    .nil) .nil) <|
  .nil)
def l2_law : Ss := (
  .cons (.asg 6 (.bin .Sub (.bin .Add (.ixV 3 (.con (.int 1))) (.callM n__law_take 2 1 (.cons (.con (.int 60)) .nil))) (.con (.int 8)))) <|
  .cons (.ife (.cmp .GtE (.var 6) (.con (.int 0))) (
    .cons (.asgT (.tup [7, 3]) (.call n_judged 2 (.cons (.var 3) (.cons (.call n_code_at 2 (.cons (.ixV 3 (.con (.int 0))) (.cons (.var 6) .nil))) .nil)))) <|
    .cons (.ife (.and (.more (.tr (.lk 7)) (.one (.cmp .In (.var 6) (.var 4))))) (
      .cons (.ret (.con (.bl false))) <|
      .nil) .nil) <|
    .cons (.asg 4 (.bin .Add (.var 4) (.bin .Mult (.fr (.lst (.cons (.var 6) .nil))) (.b1 .int (.lk 7))))) <|
    .nil) .nil) <|
  .nil)
def b_law : Ss := (
  .cons (.own 1 (.call n__law_draws 1 (.cons (.var 0) .nil))) <|
  .cons (.for (.nm 2) (.r1 (.con (.int 3))) l1_law) <|
  .cons (.asg 3 (.tup (.cons (.tup (.cons (.con (.int 0)) (.cons (.con (.int 1)) (.cons (.con (.int 5)) (.cons (.con (.int 6)) .nil))))) (.cons (.callM n__law_take 2 1 (.cons (.con (.int 1000)) .nil)) (.cons (.con (.int 50)) (.cons (.con (.int 200)) .nil)))))) <|
  .cons (.asg 4 (.fr (.lst .nil))) <|
  .cons (.for (.nm 2) (.r1 (.con (.int 30))) l2_law) <|
  .cons (.ret (.b1 .all (.vl (.fr (.comp (.nm 6) (.sq (.var 4)) .no (.cmp .Is (.call n_met_count 2 (.cons (.var 3) (.cons (.call n_code_at 2 (.cons (.ixV 3 (.con (.int 0))) (.cons (.var 6) .nil))) .nil))) (.con .non)) [6]))))) <|
  .nil)
def d_law : Df := ⟨"law", 0, ["script", "draws", "turn", "judge", "used", "key", "n", "taken"], 1, b_law⟩
def dfs : List Df := [d_is_integer, d_is_within, d_check, d_is_count, d_power, d_is_key_keys, d_check_key, d_are_figures, d_is_code_keys, d_value_by, d_told, d_code_by, d_value_at, d_code_at, d_codes_from, d_check_span, d_counts_of, d_first_repeat, d_tell, d_is_count_judge, d_is_device, d_check_judge, d_check_code, d_met_by, d_met_count, d_moved, d_judged_by, d_judged, d_beat_found, d_shown, d_check_both, d_apart, d_session, d_looked_at, d_taken_codes, d_is_clear_by, d_is_clear, d_most_shows, d_is_key_checkcodes, d_is_code_checkcodes, d_shows, d_takes_repeat, d_need_judge, d_takes_met, d_fits, d_takes_beat, d__law_draws, d__law_take, d__law_pick, d__law_same, d__law_key, d__law_value, d__law_code, d__law_first_repeat, d__law_met, d__law_most, d__law_are_keys, d__law_are_sessions, d_law]
def cls : List Str := ["CodeError", "NotRight", "NoAnswer", "TooLarge"]
def glo : List (Str × Con) := [("MOST_DIGITS", (.int 6)), ("PRIME_keys", (.int 1000003)), ("MOST_CODES", (.int 100000)), ("MOST_COUNTS", (.int 200000)), ("LONGEST", (.int 12)), ("WIDEST", (.int 1000)), ("MOST_WIDE", (.int 20000)), ("MOST_ROW", (.int 10)), ("SEND", (.str "send")), ("SHOW", (.str "show")), ("PRIME_checkcodes", (.int 1000003))]
abbrev q_is_integer : He.DefD := dOf (top 5)
abbrev q_is_within : He.DefD := dOf (top 6)
abbrev q_check : He.DefD := dOf (top 7)
abbrev q_is_count : He.DefD := dOf (top 8)
abbrev q_power : He.DefD := dOf (top 9)
abbrev q_is_key_keys : He.DefD := dOfA (top 16) "is_key_keys"
abbrev q_check_key : He.DefD := dOf (top 18)
abbrev q_are_figures : He.DefD := dOf (top 19)
abbrev q_is_code_keys : He.DefD := dOfA (top 20) "is_code_keys"
abbrev q_value_by : He.DefD := dOf (top 22)
abbrev q_told : He.DefD := dOf (top 23)
abbrev q_code_by : He.DefD := dOf (top 24)
abbrev q_value_at : He.DefD := dOf (top 25)
abbrev q_code_at : He.DefD := dOf (top 26)
abbrev q_codes_from : He.DefD := dOf (top 27)
abbrev q_check_span : He.DefD := dOf (top 28)
abbrev q_counts_of : He.DefD := dOf (top 29)
abbrev q_first_repeat : He.DefD := dOf (top 30)
abbrev q_tell : He.DefD := dOf (top 31)
abbrev q_is_count_judge : He.DefD := dOf (top 38)
abbrev q_is_device : He.DefD := dOf (top 39)
abbrev q_check_judge : He.DefD := dOf (top 40)
abbrev q_check_code : He.DefD := dOf (top 41)
abbrev q_met_by : He.DefD := dOf (top 42)
abbrev q_met_count : He.DefD := dOf (top 43)
abbrev q_moved : He.DefD := dOf (top 44)
abbrev q_judged_by : He.DefD := dOf (top 45)
abbrev q_judged : He.DefD := dOf (top 46)
abbrev q_beat_found : He.DefD := dOf (top 47)
abbrev q_shown : He.DefD := dOf (top 48)
abbrev q_check_both : He.DefD := dOf (top 49)
abbrev q_apart : He.DefD := dOf (top 50)
abbrev q_session : He.DefD := dOf (top 51)
abbrev q_looked_at : He.DefD := dOf (top 52)
abbrev q_taken_codes : He.DefD := dOf (top 53)
abbrev q_is_clear_by : He.DefD := dOf (top 54)
abbrev q_is_clear : He.DefD := dOf (top 55)
abbrev q_most_shows : He.DefD := dOf (top 56)
abbrev q_is_key_checkcodes : He.DefD := dOfA (top 59) "is_key_checkcodes"
abbrev q_is_code_checkcodes : He.DefD := dOfA (top 61) "is_code_checkcodes"
abbrev q_shows : He.DefD := dOf (top 63)
abbrev q_takes_repeat : He.DefD := dOf (top 64)
abbrev q_need_judge : He.DefD := dOf (top 65)
abbrev q_takes_met : He.DefD := dOf (top 66)
abbrev q_fits : He.DefD := dOf (top 67)
abbrev q_takes_beat : He.DefD := dOf (top 68)
abbrev q__law_draws : He.DefD := dOf (top 70)
abbrev q__law_take : He.DefD := dOf (top 71)
abbrev q__law_pick : He.DefD := dOf (top 72)
abbrev q__law_same : He.DefD := dOf (top 73)
abbrev q__law_key : He.DefD := dOf (top 74)
abbrev q__law_value : He.DefD := dOf (top 75)
abbrev q__law_code : He.DefD := dOf (top 76)
abbrev q__law_first_repeat : He.DefD := dOf (top 77)
abbrev q__law_met : He.DefD := dOf (top 78)
abbrev q__law_most : He.DefD := dOf (top 79)
abbrev q__law_are_keys : He.DefD := dOf (top 80)
abbrev q__law_are_sessions : He.DefD := dOf (top 81)
abbrev q_law : He.DefD := dOf (top 82)
def fnd : List He.DefD := [q_is_integer, q_is_within, q_check, q_is_count, q_power, q_is_key_keys, q_check_key, q_are_figures, q_is_code_keys, q_value_by, q_told, q_code_by, q_value_at, q_code_at, q_codes_from, q_check_span, q_counts_of, q_first_repeat, q_tell, q_is_count_judge, q_is_device, q_check_judge, q_check_code, q_met_by, q_met_count, q_moved, q_judged_by, q_judged, q_beat_found, q_shown, q_check_both, q_apart, q_session, q_looked_at, q_taken_codes, q_is_clear_by, q_is_clear, q_most_shows, q_is_key_checkcodes, q_is_code_checkcodes, q_shows, q_takes_repeat, q_need_judge, q_takes_met, q_fits, q_takes_beat, q__law_draws, q__law_take, q__law_pick, q__law_same, q__law_key, q__law_value, q__law_code, q__law_first_repeat, q__law_met, q__law_most, q__law_are_keys, q__law_are_sessions, q_law]
end Ev.W

end
section
set_option maxHeartbeats 0
namespace Ev.W
open PySem PySem.Spec PyProof.Rows L2 Ev
theorem ok_is_integer : dfC (tbOf dfs cls glo) q_is_integer d_is_integer = true ∧ BdOk q_is_integer d_is_integer := ⟨by kernel_rfl, fun _ _ _ _ _ _ us hl => match us, hl with | [_], _ => rfl⟩
theorem ok_is_within : dfC (tbOf dfs cls glo) q_is_within d_is_within = true ∧ BdOk q_is_within d_is_within := ⟨by kernel_rfl, fun _ _ _ _ _ _ us hl => match us, hl with | [_, _, _], _ => rfl⟩
theorem ok_check : dfC (tbOf dfs cls glo) q_check d_check = true ∧ BdOk q_check d_check := ⟨by kernel_rfl, fun _ _ _ _ _ _ us hl => match us, hl with | [_], _ => rfl⟩
theorem ok_is_count : dfC (tbOf dfs cls glo) q_is_count d_is_count = true ∧ BdOk q_is_count d_is_count := ⟨by kernel_rfl, fun _ _ _ _ _ _ us hl => match us, hl with | [_], _ => rfl⟩
theorem ok_power : dfC (tbOf dfs cls glo) q_power d_power = true ∧ BdOk q_power d_power := ⟨by kernel_rfl, fun _ _ _ _ _ _ us hl => match us, hl with | [_, _], _ => rfl⟩
theorem ok_is_key_keys : dfC (tbOf dfs cls glo) q_is_key_keys d_is_key_keys = true ∧ BdOk q_is_key_keys d_is_key_keys := ⟨by kernel_rfl, fun _ _ _ _ _ _ us hl => match us, hl with | [_], _ => rfl⟩
theorem ok_check_key : dfC (tbOf dfs cls glo) q_check_key d_check_key = true ∧ BdOk q_check_key d_check_key := ⟨by kernel_rfl, fun _ _ _ _ _ _ us hl => match us, hl with | [_], _ => rfl⟩
theorem ok_are_figures : dfC (tbOf dfs cls glo) q_are_figures d_are_figures = true ∧ BdOk q_are_figures d_are_figures := ⟨by kernel_rfl, fun _ _ _ _ _ _ us hl => match us, hl with | [_, _], _ => rfl⟩
theorem ok_is_code_keys : dfC (tbOf dfs cls glo) q_is_code_keys d_is_code_keys = true ∧ BdOk q_is_code_keys d_is_code_keys := ⟨by kernel_rfl, fun _ _ _ _ _ _ us hl => match us, hl with | [_, _], _ => rfl⟩
theorem ok_value_by : dfC (tbOf dfs cls glo) q_value_by d_value_by = true ∧ BdOk q_value_by d_value_by := ⟨by kernel_rfl, fun _ _ _ _ _ _ us hl => match us, hl with | [_, _], _ => rfl⟩
theorem ok_told : dfC (tbOf dfs cls glo) q_told d_told = true ∧ BdOk q_told d_told := ⟨by kernel_rfl, fun _ _ _ _ _ _ us hl => match us, hl with | [_, _], _ => rfl⟩
theorem ok_code_by : dfC (tbOf dfs cls glo) q_code_by d_code_by = true ∧ BdOk q_code_by d_code_by := ⟨by kernel_rfl, fun _ _ _ _ _ _ us hl => match us, hl with | [_, _], _ => rfl⟩
theorem ok_value_at : dfC (tbOf dfs cls glo) q_value_at d_value_at = true ∧ BdOk q_value_at d_value_at := ⟨by kernel_rfl, fun _ _ _ _ _ _ us hl => match us, hl with | [_, _], _ => rfl⟩
theorem ok_code_at : dfC (tbOf dfs cls glo) q_code_at d_code_at = true ∧ BdOk q_code_at d_code_at := ⟨by kernel_rfl, fun _ _ _ _ _ _ us hl => match us, hl with | [_, _], _ => rfl⟩
theorem ok_codes_from : dfC (tbOf dfs cls glo) q_codes_from d_codes_from = true ∧ BdOk q_codes_from d_codes_from := ⟨by kernel_rfl, fun _ _ _ _ _ _ us hl => match us, hl with | [_, _, _], _ => rfl⟩
theorem ok_check_span : dfC (tbOf dfs cls glo) q_check_span d_check_span = true ∧ BdOk q_check_span d_check_span := ⟨by kernel_rfl, fun _ _ _ _ _ _ us hl => match us, hl with | [_, _], _ => rfl⟩
theorem ok_counts_of : dfC (tbOf dfs cls glo) q_counts_of d_counts_of = true ∧ BdOk q_counts_of d_counts_of := ⟨by kernel_rfl, fun _ _ _ _ _ _ us hl => match us, hl with | [_, _, _, _], _ => rfl⟩
theorem ok_first_repeat : dfC (tbOf dfs cls glo) q_first_repeat d_first_repeat = true ∧ BdOk q_first_repeat d_first_repeat := ⟨by kernel_rfl, fun _ _ _ _ _ _ us hl => match us, hl with | [_, _, _], _ => rfl⟩
theorem ok_tell : dfC (tbOf dfs cls glo) q_tell d_tell = true ∧ BdOk q_tell d_tell := ⟨by kernel_rfl, fun _ _ _ _ _ _ us hl => match us, hl with | [_, _], _ => rfl⟩
theorem ok_is_count_judge : dfC (tbOf dfs cls glo) q_is_count_judge d_is_count_judge = true ∧ BdOk q_is_count_judge d_is_count_judge := ⟨by kernel_rfl, fun _ _ _ _ _ _ us hl => match us, hl with | [_], _ => rfl⟩
theorem ok_is_device : dfC (tbOf dfs cls glo) q_is_device d_is_device = true ∧ BdOk q_is_device d_is_device := ⟨by kernel_rfl, fun _ _ _ _ _ _ us hl => match us, hl with | [_], _ => rfl⟩
theorem ok_check_judge : dfC (tbOf dfs cls glo) q_check_judge d_check_judge = true ∧ BdOk q_check_judge d_check_judge := ⟨by kernel_rfl, fun _ _ _ _ _ _ us hl => match us, hl with | [_], _ => rfl⟩
theorem ok_check_code : dfC (tbOf dfs cls glo) q_check_code d_check_code = true ∧ BdOk q_check_code d_check_code := ⟨by kernel_rfl, fun _ _ _ _ _ _ us hl => match us, hl with | [_, _], _ => rfl⟩
theorem ok_met_by : dfC (tbOf dfs cls glo) q_met_by d_met_by = true ∧ BdOk q_met_by d_met_by := ⟨by kernel_rfl, fun _ _ _ _ _ _ us hl => match us, hl with | [_, _], _ => rfl⟩
theorem ok_met_count : dfC (tbOf dfs cls glo) q_met_count d_met_count = true ∧ BdOk q_met_count d_met_count := ⟨by kernel_rfl, fun _ _ _ _ _ _ us hl => match us, hl with | [_, _], _ => rfl⟩
theorem ok_moved : dfC (tbOf dfs cls glo) q_moved d_moved = true ∧ BdOk q_moved d_moved := ⟨by kernel_rfl, fun _ _ _ _ _ _ us hl => match us, hl with | [_, _], _ => rfl⟩
theorem ok_judged_by : dfC (tbOf dfs cls glo) q_judged_by d_judged_by = true ∧ BdOk q_judged_by d_judged_by := ⟨by kernel_rfl, fun _ _ _ _ _ _ us hl => match us, hl with | [_, _], _ => rfl⟩
theorem ok_judged : dfC (tbOf dfs cls glo) q_judged d_judged = true ∧ BdOk q_judged d_judged := ⟨by kernel_rfl, fun _ _ _ _ _ _ us hl => match us, hl with | [_, _], _ => rfl⟩
theorem ok_beat_found : dfC (tbOf dfs cls glo) q_beat_found d_beat_found = true ∧ BdOk q_beat_found d_beat_found := ⟨by kernel_rfl, fun _ _ _ _ _ _ us hl => match us, hl with | [_, _], _ => rfl⟩
theorem ok_shown : dfC (tbOf dfs cls glo) q_shown d_shown = true ∧ BdOk q_shown d_shown := ⟨by kernel_rfl, fun _ _ _ _ _ _ us hl => match us, hl with | [_], _ => rfl⟩
theorem ok_check_both : dfC (tbOf dfs cls glo) q_check_both d_check_both = true ∧ BdOk q_check_both d_check_both := ⟨by kernel_rfl, fun _ _ _ _ _ _ us hl => match us, hl with | [_, _], _ => rfl⟩
theorem ok_apart : dfC (tbOf dfs cls glo) q_apart d_apart = true ∧ BdOk q_apart d_apart := ⟨by kernel_rfl, fun _ _ _ _ _ _ us hl => match us, hl with | [_, _], _ => rfl⟩
theorem ok_session : dfC (tbOf dfs cls glo) q_session d_session = true ∧ BdOk q_session d_session := ⟨by kernel_rfl, fun _ _ _ _ _ _ us hl => match us, hl with | [_, _, _], _ => rfl⟩
theorem ok_looked_at : dfC (tbOf dfs cls glo) q_looked_at d_looked_at = true ∧ BdOk q_looked_at d_looked_at := ⟨by kernel_rfl, fun _ _ _ _ _ _ us hl => match us, hl with | [_], _ => rfl⟩
theorem ok_taken_codes : dfC (tbOf dfs cls glo) q_taken_codes d_taken_codes = true ∧ BdOk q_taken_codes d_taken_codes := ⟨by kernel_rfl, fun _ _ _ _ _ _ us hl => match us, hl with | [_], _ => rfl⟩
theorem ok_is_clear_by : dfC (tbOf dfs cls glo) q_is_clear_by d_is_clear_by = true ∧ BdOk q_is_clear_by d_is_clear_by := ⟨by kernel_rfl, fun _ _ _ _ _ _ us hl => match us, hl with | [_], _ => rfl⟩
theorem ok_is_clear : dfC (tbOf dfs cls glo) q_is_clear d_is_clear = true ∧ BdOk q_is_clear d_is_clear := ⟨by kernel_rfl, fun _ _ _ _ _ _ us hl => match us, hl with | [_], _ => rfl⟩
theorem ok_most_shows : dfC (tbOf dfs cls glo) q_most_shows d_most_shows = true ∧ BdOk q_most_shows d_most_shows := ⟨by kernel_rfl, fun _ _ _ _ _ _ us hl => match us, hl with | [_], _ => rfl⟩
theorem ok_is_key_checkcodes : dfC (tbOf dfs cls glo) q_is_key_checkcodes d_is_key_checkcodes = true ∧ BdOk q_is_key_checkcodes d_is_key_checkcodes := ⟨by kernel_rfl, fun _ _ _ _ _ _ us hl => match us, hl with | [_], _ => rfl⟩
theorem ok_is_code_checkcodes : dfC (tbOf dfs cls glo) q_is_code_checkcodes d_is_code_checkcodes = true ∧ BdOk q_is_code_checkcodes d_is_code_checkcodes := ⟨by kernel_rfl, fun _ _ _ _ _ _ us hl => match us, hl with | [_, _], _ => rfl⟩
theorem ok_shows : dfC (tbOf dfs cls glo) q_shows d_shows = true ∧ BdOk q_shows d_shows := ⟨by kernel_rfl, fun _ _ _ _ _ _ us hl => match us, hl with | [_, _, _], _ => rfl⟩
theorem ok_takes_repeat : dfC (tbOf dfs cls glo) q_takes_repeat d_takes_repeat = true ∧ BdOk q_takes_repeat d_takes_repeat := ⟨by kernel_rfl, fun _ _ _ _ _ _ us hl => match us, hl with | [_, _, _], _ => rfl⟩
theorem ok_need_judge : dfC (tbOf dfs cls glo) q_need_judge d_need_judge = true ∧ BdOk q_need_judge d_need_judge := ⟨by kernel_rfl, fun _ _ _ _ _ _ us hl => match us, hl with | [_], _ => rfl⟩
theorem ok_takes_met : dfC (tbOf dfs cls glo) q_takes_met d_takes_met = true ∧ BdOk q_takes_met d_takes_met := ⟨by kernel_rfl, fun _ _ _ _ _ _ us hl => match us, hl with | [_, _, _], _ => rfl⟩
theorem ok_fits : dfC (tbOf dfs cls glo) q_fits d_fits = true ∧ BdOk q_fits d_fits := ⟨by kernel_rfl, fun _ _ _ _ _ _ us hl => match us, hl with | [_, _, _], _ => rfl⟩
theorem ok_takes_beat : dfC (tbOf dfs cls glo) q_takes_beat d_takes_beat = true ∧ BdOk q_takes_beat d_takes_beat := ⟨by kernel_rfl, fun _ _ _ _ _ _ us hl => match us, hl with | [_, _, _], _ => rfl⟩
theorem ok__law_draws : dfC (tbOf dfs cls glo) q__law_draws d__law_draws = true ∧ BdOk q__law_draws d__law_draws := ⟨by kernel_rfl, fun _ _ _ _ _ _ us hl => match us, hl with | [_], _ => rfl⟩
theorem ok__law_take : dfC (tbOf dfs cls glo) q__law_take d__law_take = true ∧ BdOk q__law_take d__law_take := ⟨by kernel_rfl, fun _ _ _ _ _ _ us hl => match us, hl with | [_, _], _ => rfl⟩
theorem ok__law_pick : dfC (tbOf dfs cls glo) q__law_pick d__law_pick = true ∧ BdOk q__law_pick d__law_pick := ⟨by kernel_rfl, fun _ _ _ _ _ _ us hl => match us, hl with | [_, _], _ => rfl⟩
theorem ok__law_same : dfC (tbOf dfs cls glo) q__law_same d__law_same = true ∧ BdOk q__law_same d__law_same := ⟨by kernel_rfl, fun _ _ _ _ _ _ us hl => match us, hl with | [_, _], _ => rfl⟩
theorem ok__law_key : dfC (tbOf dfs cls glo) q__law_key d__law_key = true ∧ BdOk q__law_key d__law_key := ⟨by kernel_rfl, fun _ _ _ _ _ _ us hl => match us, hl with | [_], _ => rfl⟩
theorem ok__law_value : dfC (tbOf dfs cls glo) q__law_value d__law_value = true ∧ BdOk q__law_value d__law_value := ⟨by kernel_rfl, fun _ _ _ _ _ _ us hl => match us, hl with | [_, _], _ => rfl⟩
theorem ok__law_code : dfC (tbOf dfs cls glo) q__law_code d__law_code = true ∧ BdOk q__law_code d__law_code := ⟨by kernel_rfl, fun _ _ _ _ _ _ us hl => match us, hl with | [_, _], _ => rfl⟩
theorem ok__law_first_repeat : dfC (tbOf dfs cls glo) q__law_first_repeat d__law_first_repeat = true ∧ BdOk q__law_first_repeat d__law_first_repeat := ⟨by kernel_rfl, fun _ _ _ _ _ _ us hl => match us, hl with | [_, _], _ => rfl⟩
theorem ok__law_met : dfC (tbOf dfs cls glo) q__law_met d__law_met = true ∧ BdOk q__law_met d__law_met := ⟨by kernel_rfl, fun _ _ _ _ _ _ us hl => match us, hl with | [_, _], _ => rfl⟩
theorem ok__law_most : dfC (tbOf dfs cls glo) q__law_most d__law_most = true ∧ BdOk q__law_most d__law_most := ⟨by kernel_rfl, fun _ _ _ _ _ _ us hl => match us, hl with | [_], _ => rfl⟩
theorem ok__law_are_keys : dfC (tbOf dfs cls glo) q__law_are_keys d__law_are_keys = true ∧ BdOk q__law_are_keys d__law_are_keys := ⟨by kernel_rfl, fun _ _ _ _ _ _ us hl => match us, hl with | [_, _], _ => rfl⟩
theorem ok__law_are_sessions : dfC (tbOf dfs cls glo) q__law_are_sessions d__law_are_sessions = true ∧ BdOk q__law_are_sessions d__law_are_sessions := ⟨by kernel_rfl, fun _ _ _ _ _ _ us hl => match us, hl with | [_, _], _ => rfl⟩
theorem ok_law : dfC (tbOf dfs cls glo) q_law d_law = true ∧ BdOk q_law d_law := ⟨by kernel_rfl, fun _ _ _ _ _ _ us hl => match us, hl with | [_], _ => rfl⟩
theorem okAll : AllOk (tbOf dfs cls glo) fnd dfs := ⟨ok_is_integer, ⟨ok_is_within, ⟨ok_check, ⟨ok_is_count, ⟨ok_power, ⟨ok_is_key_keys, ⟨ok_check_key, ⟨ok_are_figures, ⟨ok_is_code_keys, ⟨ok_value_by, ⟨ok_told, ⟨ok_code_by, ⟨ok_value_at, ⟨ok_code_at, ⟨ok_codes_from, ⟨ok_check_span, ⟨ok_counts_of, ⟨ok_first_repeat, ⟨ok_tell, ⟨ok_is_count_judge, ⟨ok_is_device, ⟨ok_check_judge, ⟨ok_check_code, ⟨ok_met_by, ⟨ok_met_count, ⟨ok_moved, ⟨ok_judged_by, ⟨ok_judged, ⟨ok_beat_found, ⟨ok_shown, ⟨ok_check_both, ⟨ok_apart, ⟨ok_session, ⟨ok_looked_at, ⟨ok_taken_codes, ⟨ok_is_clear_by, ⟨ok_is_clear, ⟨ok_most_shows, ⟨ok_is_key_checkcodes, ⟨ok_is_code_checkcodes, ⟨ok_shows, ⟨ok_takes_repeat, ⟨ok_need_judge, ⟨ok_takes_met, ⟨ok_fits, ⟨ok_takes_beat, ⟨ok__law_draws, ⟨ok__law_take, ⟨ok__law_pick, ⟨ok__law_same, ⟨ok__law_key, ⟨ok__law_value, ⟨ok__law_code, ⟨ok__law_first_repeat, ⟨ok__law_met, ⟨ok__law_most, ⟨ok__law_are_keys, ⟨ok__law_are_sessions, ⟨ok_law, trivial⟩⟩⟩⟩⟩⟩⟩⟩⟩⟩⟩⟩⟩⟩⟩⟩⟩⟩⟩⟩⟩⟩⟩⟩⟩⟩⟩⟩⟩⟩⟩⟩⟩⟩⟩⟩⟩⟩⟩⟩⟩⟩⟩⟩⟩⟩⟩⟩⟩⟩⟩⟩⟩⟩⟩⟩⟩⟩⟩
end Ev.W

end
section
set_option maxHeartbeats 1000000
namespace Ev.W
open PySem PySem.Spec PyProof.Rows L2 Ev
theorem appFI (d : D) (xs : List D) : appF d xs = if xs.length < 16777216 then some (xs ++ [d]) else none := (rfl)
theorem op_catI (xs ys : List D) : op2 .Add (.lst xs) (.lst ys) = if xs.length + ys.length ≤ 16777216 then some (.lst (xs ++ ys)) else none := (rfl)
theorem catRI (xs ys : List D) (ρ : En) : catR (.lst xs) (.lst ys) ρ = if xs.length + ys.length ≤ 16777216 then .ok (xs ++ ys) ρ else .bad := (rfl)
theorem fewI (xs : List D) (ρ : En) : few xs ρ = if xs.length ≤ 16777216 then .ok xs ρ else .bad := (rfl)
theorem op_rep01 (d : D) (b : Bool) : op2 .Mult (.lst [d]) (.int (if b = true then 1 else 0)) = some (.lst (if b = true then [d] else [])) := by
  cases b
  · exact op_rep1 d 0 (by omega) (by omega)
  · exact op_rep1 d 1 (by omega) (by omega)
theorem b1_maxI (ns : List Int) : b1 .max (.lst (ns.map D.int)) = (maxI ns).map .int := by
  show (ints? _).bind _ = _
  rw [ints_map]; rfl
theorem in_ints (i : Int) (ns : List Int) : inD (.int i) (ns.map D.int) = some (decide (i ∈ ns)) := by
  unfold inD
  rw [if_pos ⟨rfl, by rw [List.all_map, List.all_eq_true]; intro x _; rfl⟩]
  congr 1
  rw [Bool.eq_iff_iff, List.any_eq_true, decide_eq_true_eq]
  constructor
  · rintro ⟨y, hy, e⟩
    obtain ⟨m, hm, rfl⟩ := List.mem_map.mp hy
    have : (m == i) = true := e
    rw [beq_iff_eq] at this
    rw [← this]; exact hm
  · intro h
    exact ⟨.int i, List.mem_map.mpr ⟨i, h, rfl⟩, by show (i == i) = true; simp⟩
theorem cmp_inT (i : Int) (ns : List Int) : cmpD .In (.int i) (.tup (ns.map D.int)) = some (decide (i ∈ ns)) := in_ints i ns
theorem cmp_inL (i : Int) (ns : List Int) : cmpD .In (.int i) (.lst (ns.map D.int)) = some (decide (i ∈ ns)) := in_ints i ns
theorem cmp_ninL (i : Int) (ns : List Int) : cmpD .NotIn (.int i) (.lst (ns.map D.int)) = some (!decide (i ∈ ns)) := by
  show (inD _ _).map _ = _
  rw [in_ints]; rfl
theorem sortD_ints (ns : List Int) : sortD (.lst (ns.map D.int)) = some ((sortZ ns).map D.int) := by
  show (some (ns.map D.int)).bind _ = _
  rw [Option.bind_some, ints_map]; rfl
section
variable {n : Nat}
@[simp] theorem r_is_integer (i : Int) : (gs dfs (n + 1)).dD n_is_integer [.int i] = .ok (.bl true) := by
  show endD (evSs (gs dfs n) b_is_integer [.va (.int i)]) = _
  simp [b_is_integer, rdL, isiD]
@[simp] theorem r_is_within (i lo hi : Int) : (gs dfs (n + 2)).dD n_is_within [.int i, .int lo, .int hi] = .ok (.bl (decide (lo ≤ i) && decide (i ≤ hi))) := by
  show endD (evSs (gs dfs (n + 1)) b_is_within [.va (.int i), .va (.int lo), .va (.int hi)]) = _
  simp [b_is_within, rdV]
  by_cases h : lo ≤ i <;> simp [h]
@[simp] theorem r_check : (gs dfs (n + 1)).dD n_check [.bl true] = .ok .non := by
  show endD (evSs (gs dfs n) b_check [.va (.bl true)]) = _
  simp [b_check, rdL]
@[simp] theorem r_checkF : (gs dfs (n + 1)).dD n_check [.bl false] = .err 1 := by
  show endD (evSs (gs dfs n) b_check [.va (.bl false)]) = _
  simp [b_check, rdL]
@[simp] theorem r_is_count (i : Int) : (gs dfs (n + 2)).dD n_is_count [.int i] = .ok (.bl (decide (0 ≤ i))) := by
  show endD (evSs (gs dfs (n + 1)) b_is_count [.va (.int i)]) = _
  simp [b_is_count, rdV]
/-! ### ascending -/
def ascB (ns : List Int) : Bool := (List.zip ns ns.tail).all fun q => decide (q.1 < q.2)
theorem asc_of : ∀ {ns : List Int}, ns.Pairwise (· < ·) → ascB ns = true
  | [], _ => rfl
  | [_], _ => rfl
  | a :: b :: ns, h => by
    have ih := asc_of (ns := b :: ns) (List.pairwise_cons.mp h).2
    have hab := (List.pairwise_cons.mp h).1 b List.mem_cons_self
    unfold ascB at ih ⊢
    simp only [List.tail_cons, List.zip_cons_cons, List.all_cons, Bool.and_eq_true, decide_eq_true_eq] at ih ⊢
    exact ⟨hab, ih⟩
theorem zip_T (ns : List Int) : zipD (.tup (ns.map D.int)) (.tup (ns.map D.int).tail) = some ((List.zip ns ns.tail).map fun q => .tup [.int q.1, .int q.2]) := by
  rw [← List.map_tail]
  show some (List.zipWith _ _ _) = _
  rw [List.zipWith_map, List.zip, List.map_zipWith]
end
section
variable {n : Nat}
/-! ### draws -/
def tk (ns : List Int) (b : Int) : Int := match ns.getLast? with
  | some i => i % b
  | none => 0
def tr (ns : List Int) : List Int := ns.dropLast
theorem tk_lo (ns : List Int) (b : Int) (h : 0 < b) : 0 ≤ tk ns b := by
  unfold tk
  split
  · exact Int.emod_nonneg _ (by omega)
  · omega
theorem tk_hi (ns : List Int) (b : Int) (h : 0 < b) : tk ns b < b := by
  unfold tk
  split
  · exact Int.emod_lt_of_pos _ h
  · exact h
theorem r_take (ns : List Int) (b : Int) (h : 0 < b) : (gs dfs (n + 1)).dM n__law_take (ns.map D.int) [.int b] = .ok (.int (tk ns b), (tr ns).map D.int) := by
  show endM (evSs (gs dfs n) b__law_take [.ow true (ns.map D.int), .va (.int b)]) = _
  rcases List.eq_nil_or_concat ns with rfl | ⟨ms, i, rfl⟩
  · simp [b__law_take, rdL, tk, tr]
  · have z : (((ms.length : Int) + 1) == 0) = false := by rw [beq_eq_false_iff_ne]; omega
    have p : popR 0 [.ow true ((ms ++ [i]).map D.int), .va (.int b)] = .ok (.int i) [.ow true (ms.map D.int), .va (.int b)] := by
      simp [popR]
    simp only [List.map_append, List.map_cons, List.map_nil] at p
    simp [b__law_take, rdL, rdV, z, p, tk, tr, op_mod _ b h]
theorem r_pick (ns : List Int) (ds : List D) (h : 0 < ds.length) (h2 : ds.length ≤ 1000000) : (gs dfs (n + 2)).dM n__law_pick (ns.map D.int) [.lst ds] = .ok (ds.getD (tk ns ds.length).toNat .non, (tr ns).map D.int) := by
  show endM (evSs (gs dfs (n + 1)) b__law_pick [.ow true (ns.map D.int), .va (.lst ds)]) = _
  have a := tk_lo ns ds.length (by omega)
  have b := tk_hi ns ds.length (by omega)
  have ix : ixD (.lst ds) (.int (tk ns ds.length)) = some (ds.getD (tk ns ds.length).toNat .non) := by
    have q := ixD_lst ds (tk ns ds.length).toNat (ds.getD (tk ns ds.length).toNat .non) (by rw [List.getD_eq_getElem?_getD, List.getElem?_eq_getElem (show (tk ns ds.length).toNat < ds.length by omega)]; rfl) (by rw [Int.toNat_of_nonneg a]; omega)
    rw [Int.toNat_of_nonneg a] at q
    exact q
  simp [b__law_pick, rdL, rdO, Ev.callM, r_take ns ds.length (by omega), ix]
end
section
variable {n : Nat}
/-! ### the same -/
def sm : Nat → D → Prop
  | _, .non => True
  | _, .bl _ => True
  | _, .int _ => True
  | _, .str _ => True
  | k + 1, .tup xs => xs.length ≤ 1000000 ∧ ∀ x ∈ xs, sm k x
  | k + 1, .lst xs => xs.length ≤ 1000000 ∧ ∀ x ∈ xs, sm k x
  | _, _ => False
theorem same_list (G : Gs) (d : D) (xs : List D) (len : b1 .len d = some (.int xs.length)) (ix : ∀ (j : Nat) (x : D), xs[j]? = some x → ixD d (.int j) = some x) (hl : xs.length ≤ 1000000) (hg : ∀ x ∈ xs, G.dD n__law_same [x, x] = .ok (.bl true)) :
    compR (.nm 3) (evJ G (.r1 (.b1 .len (.lk 1)))) (evC G .no) (evE G (.call n__law_same 2 (.cons (.ixV 0 (.var 3)) (.cons (.ixV 1 (.var 3)) .nil)))) [3] [.va d, .va d, .un, .un] = .ok ((List.range xs.length).map fun _ => .bl true) [.va d, .va d, .un, .un] := by
  have hi : evJ G (.r1 (.b1 .len (.lk 1))) [.va d, .va d, .un, .un] = .ok ((List.range xs.length).map fun j : Nat => D.int (0 + (j : Int))) [.va d, .va d, .un, .un] := by
    unfold evJ
    simp [rdL, len, rng_1 (xs.length : Int) ⟨by omega, by omega⟩]
    rw [few_ok _ _ (by rw [nums_len]; omega)]
    simp [nums]
  refine compR_all (fun _ => .bl true) (List.range xs.length) hi rfl rfl fun j hj => ?_
  have hj := List.mem_range.mp hj
  have e : xs[j]? = some xs[j] := List.getElem?_eq_getElem hj
  have i := ix j _ e
  have g := hg xs[j] (List.getElem_mem hj)
  refine ⟨[.va d, .va d, .un, .va (.int (0 + (j : Int)))], by simp [wipeR], by simp, [.va d, .va d, .un, .va (.int (0 + (j : Int)))], ?_, rfl⟩
  rw [Int.zero_add]
  simp [rdL, rdV, i, g]
end
section
variable {n : Nat}
theorem all_true (k : Nat) : b1 .all (.lst ((List.range k).map fun _ => .bl true)) = some (.bl true) := by
  have e : ((List.range k).map fun _ => D.bl true) = (List.replicate k true).map D.bl := by
    apply List.ext_getElem
    · simp
    · intro i h1 h2
      simp
  rw [e, b1_all]
  simp
theorem r_same (k : Nat) : ∀ (n : Nat) (d : D), sm k d → (gs dfs (n + k + 1)).dD n__law_same [d, d] = .ok (.bl true) := by
  have base : ∀ (m : Nat) (d : D), (match d with | .non => True | .bl _ => True | .int _ => True | .str _ => True | _ => False) → (gs dfs (m + 1)).dD n__law_same [d, d] = .ok (.bl true) := by
    intro m d h
    show endD (evSs (gs dfs m) b__law_same [.va d, .va d, .un, .un]) = _
    cases d with
    | non => simp [b__law_same, rdL, rdV, isiD]
    | bl b => simp [b__law_same, rdL, rdV, isiD]
    | int i => simp [b__law_same, rdL, rdV, isiD]
    | str x => simp [b__law_same, rdL, rdV, isiD, cmp_eqS]
    | _ => exact h.elim
  induction k with
  | zero =>
    intro n d h
    refine base n d ?_
    cases d <;> first | trivial | (simp [sm] at h)
  | succ k ih =>
    intro n d h
    have e : n + (k + 1) + 1 = (n + k + 1) + 1 := by omega
    cases d with
    | tup xs =>
      simp only [sm] at h
      have c := same_list (gs dfs (n + k + 1)) (.tup xs) xs rfl (ixD_tup xs) h.1 fun x hx => ih n x (h.2 x hx)
      rw [e]
      show endD (evSs (gs dfs (n + k + 1)) b__law_same [.va (.tup xs), .va (.tup xs), .un, .un]) = _
      simp [b__law_same, rdL, rdV, isiD, c, all_true]
    | lst xs =>
      simp only [sm] at h
      have c := same_list (gs dfs (n + k + 1)) (.lst xs) xs rfl (ixD_ls xs) h.1 fun x hx => ih n x (h.2 x hx)
      rw [e]
      show endD (evSs (gs dfs (n + k + 1)) b__law_same [.va (.lst xs), .va (.lst xs), .un, .un]) = _
      simp [b__law_same, rdL, rdV, isiD, c, all_true]
    | fn => simp [sm] at h
    | dK => simp [sm] at h
    | dT => simp [sm] at h
    | scr => simp [sm] at h
    | _ => rw [e]; exact base _ _ trivial
end
section
variable {n : Nat}
theorem r_takeX (ns : List Int) (b : Int) (h : 0 < b) : ∃ (v : Int) (ms : List Int), (gs dfs (n + 1)).dM n__law_take (ns.map D.int) [.int b] = .ok (.int v, ms.map D.int) ∧ 0 ≤ v ∧ v < b :=
  ⟨_, _, r_take ns b h, tk_lo ns b h, tk_hi ns b h⟩
theorem r_pickX (ns : List Int) (ds : List D) (h : 0 < ds.length) (h2 : ds.length ≤ 1000000) : ∃ (d : D) (ms : List Int), (gs dfs (n + 2)).dM n__law_pick (ns.map D.int) [.lst ds] = .ok (d, ms.map D.int) ∧ d ∈ ds := by
  have a := tk_lo ns ds.length (by omega)
  have b := tk_hi ns ds.length (by omega)
  refine ⟨_, _, r_pick ns ds h h2, ?_⟩
  rw [List.getD_eq_getElem?_getD, List.getElem?_eq_getElem (show (tk ns ds.length).toNat < ds.length by omega)]
  exact List.getElem_mem _
theorem rng1n (k : Nat) (h : (k : Int) < 2 ^ 62) : rng [.int k] = some (nums 0 k) := by
  have q := rng_1 (k : Int) ⟨by omega, h⟩
  rwa [Int.toNat_natCast] at q
end
section
variable {n : Nat}
theorem draws_in {G : Gs} (s0 c sd f : Sl) : ∀ (k : Nat) (a x : Int) (acc : List Int) (s : Sl), Nt s → 0 ≤ x → acc.length + k ≤ 1000000 →
    ∃ (acc' : List Int) (x' : Int) (s' : Sl), acc'.length ≤ acc.length + k ∧ Nt s' ∧ forL (asgT (.nm 4)) (evSs G l1__law_draws) (nums a k) [s0, .ow false (acc.map D.int), c, sd, s, .va (.int x), f] =
      .ok .nx [s0, .ow false (acc'.map D.int), c, sd, s', .va (.int x'), f]
  | 0, a, x, acc, s, h, _, _ => ⟨acc, x, s, Nat.le_refl _, h, by simp [forL_nil]⟩
  | k + 1, a, x, acc, s, h, h0, hl => by
    by_cases p : 0 < x
    · obtain ⟨acc', x', s', r1, r2, e⟩ := draws_in s0 c sd f k (a + 1) (x / 997) (acc ++ [x % 997]) (.va (.int a)) trivial (Int.ediv_nonneg h0 (by omega)) (by rw [List.length_append, List.length_singleton]; omega)
      refine ⟨acc', x', s', by rw [List.length_append, List.length_singleton] at r1; omega, r2, ?_⟩
      have hap := appF_ok (.int (x % 997)) (acc.map D.int) (by rw [List.length_map]; omega)
      rw [nums_succ, forL_one (ρ1 := [s0, .ow false (acc.map D.int), c, sd, .va (.int a), .va (.int x), f]) (ρ2 := [s0, .ow false ((acc ++ [x % 997]).map D.int), c, sd, .va (.int a), .va (.int (x / 997)), f])
        (by simp [h]) (by simp [l1__law_draws, rdV, rdL, rdO, p, op_mod x 997 (by omega), op_fdiv x 997 ⟨by omega, by omega⟩, hap]), e]
    · obtain ⟨acc', x', s', r1, r2, e⟩ := draws_in s0 c sd f k (a + 1) x acc (.va (.int a)) trivial h0 (by omega)
      refine ⟨acc', x', s', by omega, r2, ?_⟩
      rw [nums_succ, forL_one (ρ1 := [s0, .ow false (acc.map D.int), c, sd, .va (.int a), .va (.int x), f]) (ρ2 := [s0, .ow false (acc.map D.int), c, sd, .va (.int a), .va (.int x), f])
        (by simp [h]) (by simp [l1__law_draws, rdV, p]), e]
theorem draws_out {G : Gs} (s0 sd : Sl) : ∀ (cs : List Int) (acc : List Int) (s2 s4 s5 s6 : Sl), Nt s2 → Nt s4 → Nt s5 → Nt s6 → acc.length + 62 * cs.length ≤ 900000 →
    ∃ (acc' : List Int) (a b c d : Sl), Nt a ∧ Nt b ∧ Nt c ∧ Nt d ∧ acc'.length ≤ acc.length + 62 * cs.length ∧ forL (asgT (.nm 2)) (evSs G l2__law_draws) (cs.map D.int) [s0, .ow false (acc.map D.int), s2, sd, s4, s5, s6] =
      .ok .nx [s0, .ow false (acc'.map D.int), a, sd, b, c, d]
  | [], acc, s2, s4, s5, s6, h2, h4, h5, h6, _ => ⟨acc, s2, s4, s5, s6, h2, h4, h5, h6, Nat.le_refl _, by simp [forL_nil]⟩
  | x :: cs, acc, s2, s4, s5, s6, h2, h4, h5, h6, hl => by
    rw [List.length_cons] at hl
    have ax : 0 ≤ (if x < 0 then -x else x) := by split <;> omega
    generalize hy : (if x < 0 then -x else x) = y at ax
    by_cases p : y < 1000000000000000000
    · have l1 := appF_ok (.int (((y * 48271 + 11) % 2147483647 * 69621 + y) % 2147483629)) (acc.map D.int) (by rw [List.length_map]; omega)
      have l2 := appF_ok (.int (((y * 48271 + 11) % 2147483647 + y / 7) % 1000003)) (acc.map D.int ++ [.int (((y * 48271 + 11) % 2147483647 * 69621 + y) % 2147483629)]) (by rw [List.length_append, List.length_map, List.length_singleton]; omega)
      obtain ⟨acc1, x1, s1, r1, r2, e1⟩ := draws_in (G := G) s0 (.va (.int x)) sd (.va (.int ((y * 48271 + 11) % 2147483647))) 60 0 0 (acc ++ [((y * 48271 + 11) % 2147483647 * 69621 + y) % 2147483629, ((y * 48271 + 11) % 2147483647 + y / 7) % 1000003]) s4 h4 (by omega) (by rw [List.length_append]; simp; omega)
      rw [List.length_append] at r1
      simp only [List.length_cons, List.length_nil] at r1
      obtain ⟨acc', a, b, c, d, q1, q2, q3, q4, q5, e⟩ := draws_out s0 sd cs acc1 (.va (.int x)) s1 (.va (.int x1)) (.va (.int ((y * 48271 + 11) % 2147483647))) trivial r2 trivial trivial (by omega)
      refine ⟨acc', a, b, c, d, q1, q2, q3, q4, by rw [List.length_cons]; omega, ?_⟩
      simp only [List.map_append, List.map_cons, List.map_nil] at e1
      rw [List.map_cons, forL_one (ρ1 := [s0, .ow false (acc.map D.int), .va (.int x), sd, s4, s5, s6]) (ρ2 := [s0, .ow false (acc1.map D.int), .va (.int x), sd, s1, .va (.int x1), .va (.int ((y * 48271 + 11) % 2147483647))])
        (by simp [h2]) ?_, e]
      have pw : op2 .Pow (.int 10) (.int 18) = some (.int (10 ^ 18)) := rfl
      simp [l2__law_draws, rdV, rdL, rdO, hy, pw, p, h5, h6, op_mul y 48271 (mulOk_r _ _ ⟨by omega, by omega⟩), op_mod _ 2147483647 (by omega), op_mul _ 69621 (mulOk_r _ _ ⟨by omega, by omega⟩), op_mod _ 2147483629 (by omega), op_mod _ 1000003 (by omega), op_fdiv y 7 ⟨by omega, by omega⟩, l1, l2, rng_1 60 ⟨by omega, by omega⟩, e1]
    · obtain ⟨acc1, x1, s1, r1, r2, e1⟩ := draws_in (G := G) s0 (.va (.int x)) sd s6 60 0 y acc s4 h4 ax (by omega)
      obtain ⟨acc', a, b, c, d, q1, q2, q3, q4, q5, e⟩ := draws_out s0 sd cs acc1 (.va (.int x)) s1 (.va (.int x1)) s6 trivial r2 trivial h6 (by omega)
      refine ⟨acc', a, b, c, d, q1, q2, q3, q4, by rw [List.length_cons]; omega, ?_⟩
      rw [List.map_cons, forL_one (ρ1 := [s0, .ow false (acc.map D.int), .va (.int x), sd, s4, s5, s6]) (ρ2 := [s0, .ow false (acc1.map D.int), .va (.int x), sd, s1, .va (.int x1), s6])
        (by simp [h2]) ?_, e]
      have pw : op2 .Pow (.int 10) (.int 18) = some (.int (10 ^ 18)) := rfl
      simp [l2__law_draws, rdV, rdL, rdO, hy, pw, p, h5, rng_1 60 ⟨by omega, by omega⟩, e1]
theorem draws_seed {G : Gs} (s0 c s5 s6 : Sl) : ∀ (k : Nat) (a x : Int) (acc : List Int) (s : Sl), Nt s → acc.length + k ≤ 1000000 →
    ∃ (acc' : List Int) (x' : Int) (s' : Sl), forL (asgT (.nm 4)) (evSs G l3__law_draws) (nums a k) [s0, .ow false (acc.map D.int), c, .va (.int x), s, s5, s6] =
      .ok .nx [s0, .ow false (acc'.map D.int), c, .va (.int x'), s', s5, s6]
  | 0, a, x, acc, s, h, _ => ⟨acc, x, s, by simp [forL_nil]⟩
  | k + 1, a, x, acc, s, h, hl => by
    obtain ⟨acc', x', s', e⟩ := draws_seed s0 c s5 s6 k (a + 1) ((x * 48271 + 69621) % 2147483647) (acc ++ [(x * 48271 + 69621) % 2147483647 / 5]) (.va (.int a)) trivial (by rw [List.length_append, List.length_singleton]; omega)
    refine ⟨acc', x', s', ?_⟩
    have hap := appF_ok (.int ((x * 48271 + 69621) % 2147483647 / 5)) (acc.map D.int) (by rw [List.length_map]; omega)
    rw [nums_succ, forL_one (ρ1 := [s0, .ow false (acc.map D.int), c, .va (.int x), .va (.int a), s5, s6]) (ρ2 := [s0, .ow false ((acc ++ [(x * 48271 + 69621) % 2147483647 / 5]).map D.int), c, .va (.int ((x * 48271 + 69621) % 2147483647)), .va (.int a), s5, s6])
      (by simp [h]) (by simp [l3__law_draws, rdV, rdL, rdO, op_mul x 48271 (mulOk_r _ _ ⟨by omega, by omega⟩), op_mod _ 2147483647 (by omega), op_fdiv _ 5 ⟨by omega, by omega⟩, hap]), e]
theorem r_draws (ns : List Int) (hl : ns.length ≤ 63) : ∃ ms : List Int, (gs dfs (n + 1)).dF n__law_draws [.scr ns] = .ok (ms.map D.int) := by
  obtain ⟨acc', a, b, c, d, q1, q2, q3, q4, q5, e⟩ := draws_out (G := gs dfs n) (.va (.scr ns)) .un ns [] .un .un .un .un trivial trivial trivial trivial (by simp; omega)
  simp only [List.length_nil] at q5
  have fin : ∀ x : Int, ∃ ms : List Int, endF ((forL (asgT (.nm 4)) (evSs (gs dfs n) l3__law_draws) (nums 0 9000) [.va (.scr ns), .ow false (acc'.map D.int), a, .va (.int x), b, c, d]).bind (thenS (evSs (gs dfs n) (.cons (.retF (.listRev (.lk 1))) .nil)))) = .ok (ms.map D.int) := fun x => by
    obtain ⟨acc2, x2, s2, e2⟩ := draws_seed (G := gs dfs n) (.va (.scr ns)) a c d 9000 0 x acc' b q2 (by omega)
    refine ⟨acc2.reverse, ?_⟩
    rw [e2]
    have rv : revD (.lst (acc2.map D.int)) = some (acc2.reverse.map D.int) := by
      show some (acc2.map D.int).reverse = _
      rw [List.map_reverse]
    simp [rdL, revD]
  have un : (gs dfs (n + 1)).dF n__law_draws [.scr ns] = endF (evSs (gs dfs n) b__law_draws [.va (.scr ns), .un, .un, .un, .un, .un, .un]) := rfl
  simp only [List.map_nil] at e
  rw [un]
  cases ns with
  | nil =>
    obtain ⟨ms, em⟩ := fin 1
    refine ⟨ms, ?_⟩
    rw [← em]
    have le : b1 .len (.scr []) = some (.int 0) := rfl
    simp only [List.map_nil] at e
    simp [b__law_draws, rdV, rdL, le, e, rng_1 9000 ⟨by omega, by omega⟩]
  | cons x ns =>
    have ix : ixD (.scr (x :: ns)) (.int 0) = some (.int x) := by
      show (L2.atI (x :: ns) ((0 : Nat) : Int)).map D.int = _
      rw [atI_get _ 0 x rfl]
      rfl
    obtain ⟨ms, em⟩ := fin (1 + (if x < 0 then -x else x))
    refine ⟨ms, ?_⟩
    rw [← em]
    have p : (0 : Int) < (ns.length : Int) + 1 := by omega
    have le : b1 .len (.scr (x :: ns)) = some (.int ((ns.length : Int) + 1)) := rfl
    simp only [List.map_cons] at e
    simp [b__law_draws, rdV, rdL, le, ix, e, p, rng_1 9000 ⟨by omega, by omega⟩]
end
theorem sm_int (k : Nat) (i : Int) : sm k (.int i) := by cases k <;> trivial
theorem sm_bl (k : Nat) (b : Bool) : sm k (.bl b) := by cases k <;> trivial
theorem sm_str (k : Nat) (b : Str) : sm k (.str b) := by cases k <;> trivial
theorem sm_non (k : Nat) : sm k .non := by cases k <;> trivial
theorem sm_lst (k : Nat) (xs : List D) (h : xs.length ≤ 1000000) (h2 : ∀ x ∈ xs, sm k x) : sm (k + 1) (.lst xs) := ⟨h, h2⟩
theorem sm_tup (k : Nat) (xs : List D) (h : xs.length ≤ 1000000) (h2 : ∀ x ∈ xs, sm k x) : sm (k + 1) (.tup xs) := ⟨h, h2⟩
theorem sm_map {α : Type} (k : Nat) (f : α → D) (xs : List α) (h : xs.length ≤ 1000000) (h2 : ∀ x, sm k (f x)) : sm (k + 1) (.lst (xs.map f)) := by
  refine sm_lst k _ (by rw [List.length_map]; exact h) fun x hx => ?_
  obtain ⟨y, _, rfl⟩ := List.mem_map.mp hx
  exact h2 y
theorem sm_mapT {α : Type} (k : Nat) (f : α → D) (xs : List α) (h : xs.length ≤ 1000000) (h2 : ∀ x, sm k (f x)) : sm (k + 1) (.tup (xs.map f)) := by
  refine sm_tup k _ (by rw [List.length_map]; exact h) fun x hx => ?_
  obtain ⟨y, _, rfl⟩ := List.mem_map.mp hx
  exact h2 y
theorem sm_up : ∀ (k : Nat) (d : D), sm k d → sm (k + 1) d
  | 0, d, h => by cases d <;> first | trivial | exact h.elim
  | k + 1, d, h => by
    cases d with
    | tup xs => exact ⟨h.1, fun x hx => sm_up k x (h.2 x hx)⟩
    | lst xs => exact ⟨h.1, fun x hx => sm_up k x (h.2 x hx)⟩
    | _ => first | trivial | exact h.elim
theorem sm_le {k m : Nat} (h : k ≤ m) {d : D} (hd : sm k d) : sm m d := by
  obtain ⟨i, rfl⟩ := Nat.exists_eq_add_of_le h
  clear h
  induction i with
  | zero => exact hd
  | succ i ih => exact sm_up _ _ ih
theorem eqDs_of {P : D → Prop} (ih : ∀ d, P d → eqD d d = true) : ∀ (xs : List D), (∀ x ∈ xs, P x) → eqDs xs xs = true
  | [], _ => rfl
  | x :: xs, h => by
    show (eqD x x && eqDs xs xs) = true
    rw [ih x (h x List.mem_cons_self), eqDs_of ih xs fun y hy => h y (List.mem_cons_of_mem _ hy)]
    rfl
theorem eqD_sm : ∀ (k : Nat) (d : D), sm k d → eqD d d = true
  | 0, d, h => by cases d <;> first | rfl | exact h.elim | (show (_ == _) = true; simp)
  | k + 1, d, h => by
    cases d with
    | tup xs => exact eqDs_of (P := sm k) (eqD_sm k) xs h.2
    | lst xs => exact eqDs_of (P := sm k) (eqD_sm k) xs h.2
    | _ => first | rfl | exact h.elim | (show (_ == _) = true; simp)
theorem shp_sm : ∀ (k : Nat) (d : D), sm k d → shp k d = true
  | 0, d, h => by cases d <;> first | rfl | exact h.elim
  | k + 1, d, h => by
    cases d with
    | tup xs => exact List.all_eq_true.mpr fun x hx => shp_sm k x (h.2 x hx)
    | lst xs => exact List.all_eq_true.mpr fun x hx => shp_sm k x (h.2 x hx)
    | _ => first | rfl | exact h.elim
theorem cmp_eq_same (d : D) (h : sm 4 d) : cmpD .Eq d d = some true := by
  have s := shp_sm 60 d (sm_le (by omega) h)
  show (if shp 60 d = true ∧ shp 60 d = true then some (eqD d d) else none) = _
  rw [if_pos ⟨s, s⟩, eqD_sm 4 d h]
theorem cmp_ne_same (d : D) (h : sm 4 d) : cmpD .NotEq d d = some false := by
  have s := shp_sm 60 d (sm_le (by omega) h)
  show (if shp 60 d = true ∧ shp 60 d = true then some (!eqD d d) else none) = _
  rw [if_pos ⟨s, s⟩, eqD_sm 4 d h]
  rfl
theorem same4 {n : Nat} (d : D) (h : sm 4 d) : (gs dfs (n + 8)).dD n__law_same [d, d] = .ok (.bl true) := r_same 4 (n + 3) d h
end Ev.W

end
section
set_option maxHeartbeats 1000000
namespace Ev.W
open PySem PySem.Spec PyProof.Rows L2 Ev
/-! ### judges by counts, in plain words -/
structure Cj where
  k : Ky
  st : Int
  wi : Int
  wd : Int
def Cj.D (j : Cj) : D := .tup [j.k.D, .int j.st, .int j.wi, .int j.wd]
structure Cj.Ok (j : Cj) : Prop where
  s0 : 0 ≤ j.st
  s1 : j.st ≤ 1000000000000000
  w0 : 0 ≤ j.wi
  w1 : j.wi ≤ 1000
  d0 : j.wi ≤ j.wd
  d1 : j.wd ≤ 20000
  k : j.k.Ok
def hasB (k : Ky) (w : Nat) (n : Int) : Bool := decide (k.s n = dg k.d w)
def Cj.met (j : Cj) (w : Nat) : Option Int := ((rgI j.st (j.wi.toNat + 1)).filter (hasB j.k w)).head?
def Cj.mv (j : Cj) (s : Int) : Cj := { j with st := s }
def Cj.aft (j : Cj) : Option Int → Cj
  | none => j
  | some n => j.mv (n + 1)
def Cj.codes (j : Cj) : List Str := (rgI j.st (j.wi.toNat + 1)).map fun n => Sx (j.k.s n)
def rowB (k : Ky) (ws : List Nat) (n : Int) : Bool := (List.range ws.length).all fun i => decide (k.s (n + (i : Int)) = dg k.d (ws.getD i 0))
def Cj.beat (j : Cj) (ws : List Nat) : Option Int := ((rgI j.st (j.wd.toNat + 1)).filter (rowB j.k ws)).head?
theorem head_mem {α : Type} {p : α → Bool} {xs : List α} {x : α} (h : (xs.filter p).head? = some x) : x ∈ xs ∧ p x = true := List.mem_filter.mp (List.mem_of_head? h)
theorem met_mem {j : Cj} {w : Nat} {n : Int} (h : j.met w = some n) (hw : 0 ≤ j.wi) : j.st ≤ n ∧ n ≤ j.st + j.wi ∧ j.k.s n = dg j.k.d w := by
  obtain ⟨h1, h2⟩ := head_mem h
  have := mem_rgI.mp h1
  exact ⟨this.1, by omega, of_decide_eq_true h2⟩
theorem beat_mem {j : Cj} {ws : List Nat} {n : Int} (h : j.beat ws = some n) (hw : 0 ≤ j.wd) : j.st ≤ n ∧ n ≤ j.st + j.wd ∧ rowB j.k ws n = true := by
  obtain ⟨h1, h2⟩ := head_mem h
  have := mem_rgI.mp h1
  exact ⟨this.1, by omega, h2⟩
/-- none ahead of the first -/
theorem first_least {p : Int → Bool} : ∀ (n : Nat) (a x : Int), ((rgI a n).filter p).head? = some x → ∀ m, a ≤ m → m < x → p m = false
  | 0, a, x, h, _, _, _ => by simp [rgI] at h
  | n + 1, a, x, h, m, h1, h2 => by
    rw [rgI_cons] at h
    cases hp : p a with
    | true =>
      rw [List.filter_cons_of_pos hp] at h
      cases h
      omega
    | false =>
      rw [List.filter_cons_of_neg (by simp [hp])] at h
      by_cases e : m = a
      · rw [e]; exact hp
      · exact first_least n (a + 1) x h m (by omega) h2
theorem first_is {p : Int → Bool} {x : Int} : ∀ (n : Nat) (a : Int), a ≤ x → x < a + n → p x = true → (∀ m, a ≤ m → m < x → p m = false) → ((rgI a n).filter p).head? = some x
  | 0, a, h1, h2, _, _ => by omega
  | n + 1, a, h1, h2, hp, hn => by
    rw [rgI_cons]
    by_cases e : x = a
    · subst e
      rw [List.filter_cons_of_pos hp]
      rfl
    · rw [List.filter_cons_of_neg (by simp [hn a (by omega) (by omega)])]
      exact first_is n (a + 1) (by omega) (by omega) hp fun m h3 h4 => hn m (by omega) h4
theorem first_none {p : Int → Bool} {a : Int} {n : Nat} (h : ((rgI a n).filter p).head? = none) : ∀ m, a ≤ m → m < a + n → p m = false := by
  intro m h1 h2
  rw [List.head?_eq_none_iff, List.filter_eq_nil_iff] at h
  have := h m (mem_rgI.mpr ⟨h1, h2⟩)
  simpa using this
/-- the checker: a count that fits, none ahead of it -/
theorem takes_first {p : Int → Bool} {a x : Int} {n : Nat} (h1 : a ≤ x) (h2 : x < a + n) : (p x && !(rgI a (x - a).toNat).any p) = decide (((rgI a n).filter p).head? = some x) := by
  rw [Bool.eq_iff_iff, decide_eq_true_eq, Bool.and_eq_true, Bool.not_eq_true', List.any_eq_false]
  constructor
  · rintro ⟨h3, h4⟩
    refine first_is n a h1 h2 h3 fun m h5 h6 => ?_
    have := h4 m (mem_rgI.mpr ⟨h5, by omega⟩)
    simpa using this
  · intro h
    obtain ⟨h3, h4⟩ := head_mem h
    refine ⟨h4, fun m hm => ?_⟩
    have hm := mem_rgI.mp hm
    rw [first_least n a x h m hm.1 (by omega)]
    simp
/-! ### the first repeat -/
def frep : List Str → List Str → Option (Nat × Nat)
  | _, [] => none
  | pre, c :: cs => if c ∈ pre then some (pre.idxOf c, pre.length) else frep (pre ++ [c]) cs
theorem frep_facts : ∀ (cs pre : List Str) (i k : Nat), frep pre cs = some (i, k) → i < k ∧ k < (pre ++ cs).length ∧ (pre ++ cs)[i]? = (pre ++ cs)[k]?
  | [], _, _, _, h => by cases h
  | c :: cs, pre, i, k, h => by
    unfold frep at h
    split at h
    · rename_i hc
      cases h
      have il := List.idxOf_lt_length_iff.mpr hc
      refine ⟨il, by simp, ?_⟩
      rw [List.getElem?_append_left il, List.getElem?_append_right (Nat.le_refl _), Nat.sub_self, List.getElem?_cons_zero, List.getElem?_eq_getElem il, List.getElem_idxOf]
    · have := frep_facts cs (pre ++ [c]) i k h
      rwa [List.append_assoc] at this
theorem lkp_at (low : Int) : ∀ (pre : List Str) (c : Str) (a : Nat), c ∈ pre → lkp (pre.map (Sum.inr : Str → Key)) ((rgI (low + a) pre.length).map D.int) (Sum.inr c) = some (.int (low + a + (pre.idxOf c : Nat)))
  | [], c, a, h => by cases h
  | x :: pre, c, a, h => by
    rw [List.map_cons, List.length_cons, rgI_cons, List.map_cons]
    unfold lkp
    by_cases e : x = c
    · subst e
      simp
    · rw [if_neg (fun z => e (Sum.inr.inj z))]
      have hc : c ∈ pre := by
        rcases List.mem_cons.mp h with h | h
        · exact absurd h.symm e
        · exact h
      have ih := lkp_at low pre c (a + 1) hc
      rw [show low + ((a + 1 : Nat) : Int) = low + a + 1 by omega] at ih
      rw [ih, List.idxOf_cons, show (x == c) = false by simpa using e]
      simp only [cond_false]
      congr 2
      omega
theorem lkp_none : ∀ (pre : List Str) (vs : List D) (c : Str), c ∉ pre → lkp (pre.map (Sum.inr : Str → Key)) vs (Sum.inr c) = none
  | [], _, _, _ => by unfold lkp; rfl
  | x :: pre, [], c, _ => by rw [List.map_cons]; rfl
  | x :: pre, v :: vs, c, h => by
    rw [List.map_cons]
    unfold lkp
    rw [if_neg (fun z => h (by cases z; exact List.mem_cons_self))]
    exact lkp_none pre vs c fun z => h (List.mem_cons_of_mem _ z)
end Ev.W

end
section
set_option maxHeartbeats 1000000
namespace Ev.W
open PySem PySem.Spec PyProof.Rows L2 Ev
section
variable {n : Nat}
theorem r_power (b : Int) (k : Nat) (hb : -(2 ^ 64) < b ∧ b < 2 ^ 64) (hk : k ≤ 1000000) : (gs dfs (n + 1)).dD n_power [.int b, .int (k : Int)] = .ok (.int (b ^ k)) := by
  have un : ∀ x y : D, (gs dfs (n + 1)).dD n_power [x, y] = endD (evSs (gs dfs n) b_power [.va x, .va y, .un, .un]) := fun _ _ => rfl
  rw [un]
  refine endD_wp ?_
  simp [b_power, rdV, rng1n k (by omega)]
  refine wp_forU (fun m ρ => ρ = [.va (.int b), .va (.int (k : Int)), .va (.int (b ^ m)), .un]) ⟨_, rfl, by simp⟩ ?_ ?_
  · rintro J uJ hJ m ρ hm rfl
    simp [l1_power, rdV, rdL, aop_mul _ b (.inr hb)]
    exact hJ _ _ _ rfl (by simp [Int.pow_succ])
  · rintro ρ rfl
    simp [rdV]
theorem p10 (d : Nat) (h : d ≤ 12) : (10 : Int) ^ d = ((10 ^ d : Nat) : Int) := (Int.natCast_pow 10 d).symm
theorem cut3 (a b c d : D) : slD (.tup [a, b, c, d]) none (some 3) = some (.tup [a, b, c]) := rfl
theorem ix_k3 (k : Ky) : ixD k.D (.int 3) = some (.int (k.d : Int)) := rfl
theorem len_k (k : Ky) : b1 .len k.D = some (.int 4) := rfl
theorem isi_k (k : Ky) : isiD .tuple k.D = some true := rfl
@[simp] theorem r_is_key (k : Ky) (h : k.Ok) : (gs dfs (n + 3)).dD n_is_key_keys [k.D] = .ok (.bl true) := by
  show endD (evSs (gs dfs (n + 2)) b_is_key_keys [.va k.D, .un]) = _
  have c : slD k.D none (some 3) = some (.tup [.int k.a, .int k.b, .int k.c]) := rfl
  have h0 := h.d0
  have h1 := h.d1
  have e1 : (1 : Int) ≤ (k.d : Int) := by omega
  have e2 : (k.d : Int) ≤ 6 := by omega
  have a1 := h.a1
  have b1 := h.b1
  have c1 := h.c1
  have a2 : k.a ≤ 1000002 := by omega
  have b2 : k.b ≤ 1000002 := by omega
  have c2 : k.c ≤ 1000002 := by omega
  have al : Ev.b1 .all (.lst [.bl true, .bl true, .bl true]) = some (.bl true) := rfl
  simp [b_is_key_keys, rdL, rdV, ix_k3, len_k, isi_k, e1, e2, compR_u, compL_c, evJ, wipeR, backR, partD, c, h.a0, h.b0, h.c0, a2, b2, c2, al, fewI]
theorem tup4 (k : Ky) (i j l m : Nat) (ρ : En) : Ev.asgT (.tup [i, j, l, m]) k.D ρ = (setV i (.int k.a) ρ).bind fun ρ => (setV j (.int k.b) ρ).bind fun ρ => (setV l (.int k.c) ρ).bind fun ρ => (setV m (.int (k.d : Int)) ρ) := by
  show (setV i (.int k.a) ρ).bind (fun ρ => (setV j (.int k.b) ρ).bind fun ρ => (setV l (.int k.c) ρ).bind fun ρ => (setV m (.int (k.d : Int)) ρ).bind some) = _
  simp
theorem val_ops (k : Ky) (h : k.Ok) (x : Int) (hx : 0 ≤ x ∧ x < 2 ^ 63) : op2 .Mult (.int k.a) (.int x) = some (.int (k.a * x)) ∧ op2 .Mult (.int (k.a * x)) (.int x) = some (.int (k.a * x * x)) ∧
    op2 .Mult (.int (k.a * x * x)) (.int x) = some (.int (k.a * x * x * x)) ∧ op2 .Mult (.int k.b) (.int x) = some (.int (k.b * x)) :=
  ⟨op_mul _ _ (mulOk_r _ _ ⟨by omega, by omega⟩), op_mul _ _ (mulOk_r _ _ ⟨by omega, by omega⟩), op_mul _ _ (mulOk_r _ _ ⟨by omega, by omega⟩), op_mul _ _ (mulOk_r _ _ ⟨by omega, by omega⟩)⟩
@[simp] theorem r_value (k : Ky) (h : k.Ok) (x : Int) (hx : 0 ≤ x ∧ x < 2 ^ 63) : (gs dfs (n + 1)).dD n_value_by [k.D, .int x] = .ok (.int (k.w x : Int)) := by
  show endD (evSs (gs dfs n) b_value_by [.va k.D, .va (.int x), .un, .un, .un, .un]) = _
  obtain ⟨o1, o2, o3, o4⟩ := val_ops k h x hx
  rw [← k.vw]
  simp [b_value_by, rdV, tup4, o1, o2, o3, o4, op_mod _ 1000003 (by omega), Ky.v]
theorem pow_lt (d : Nat) (h : d ≤ 12) : 10 ^ d ≤ 1000000000000 := Nat.pow_le_pow_right (n := 10) (by decide) h
@[simp] theorem r_told (v d : Nat) (hd : d ≤ 12) : (gs dfs (n + 2)).dD n_told [.int (v : Int), .int (d : Int)] = .ok (.str (Sx (dg d v))) := by
  have un : ∀ x y : D, (gs dfs (n + 2)).dD n_told [x, y] = endD (evSs (gs dfs (n + 1)) b_told [.va x, .va y]) := fun _ _ => rfl
  rw [un]
  have p0 : 0 < 10 ^ d := Nat.pow_pos (by decide)
  have pl := pow_lt d hd
  have e : (v : Int) % ((10 ^ d : Nat) : Int) + ((10 ^ d : Nat) : Int) = ((v % 10 ^ d + 10 ^ d : Nat) : Int) := by push_cast; rfl
  have m := Nat.mod_lt v p0
  have s : Ev.b1 .str (.int ((v % 10 ^ d + 10 ^ d : Nat) : Int)) = some (.str (Sx (49 :: dg d v))) := by
    rw [b1_strN _ (Nat.lt_of_lt_of_le (show v % 10 ^ d + 10 ^ d < 2 ^ 64 by omega) (Nat.pow_le_pow_right (by decide) (by decide))), numL_dg]
  have c : slD (.str (Sx (49 :: dg d v))) (some 1) none = some (.str (Sx (dg d v))) := sl_strF (49 :: dg d v) 1 (by rw [List.length_cons, dg_len]; omega)
  have om := op_mod (v : Int) ((10 ^ d : Nat) : Int) (by omega)
  have pw := r_power (n := n) 10 d ⟨by omega, by omega⟩ (by omega)
  rw [p10 d hd] at pw
  generalize 10 ^ d = P at *
  rw [← e] at s
  simp [b_told, rdV, rdL, pw, om, s, c, partD]
@[simp] theorem r_code (k : Ky) (h : k.Ok) (x : Int) (hx : 0 ≤ x ∧ x < 2 ^ 63) : (gs dfs (n + 3)).dD n_code_by [k.D, .int x] = .ok (.str (Sx (k.s x))) := by
  show endD (evSs (gs dfs (n + 2)) b_code_by [.va k.D, .va (.int x)]) = _
  have := h.d1
  simp [b_code_by, rdV, rdL, r_value k h x hx, ix_k3, r_told _ k.d (show k.d ≤ 12 by omega), Ky.s]
end
end Ev.W

end
section
set_option maxHeartbeats 1000000
namespace Ev.W
open PySem PySem.Spec PyProof.Rows L2 Ev
def oI : Option Int → D
  | none => .non
  | some i => .int i
@[simp] theorem oI_n : oI none = .non := rfl
@[simp] theorem oI_s (i : Int) : oI (some i) = .int i := rfl
theorem oI_isn (m : Option Int) : cmpD .IsNot (oI m) .non = some m.isSome := by cases m <;> rfl
theorem oI_is (m : Option Int) : cmpD .Is (oI m) .non = some (!m.isSome) := by cases m <;> rfl
theorem sm_oI (k : Nat) (m : Option Int) : sm k (oI m) := by cases m <;> cases k <;> trivial
theorem sm_ky (k : Nat) (y : Ky) : sm (k + 1) y.D := sm_tup k _ (by simp) (by simp [sm_int])
theorem sm_cj (k : Nat) (j : Cj) : sm (k + 2) j.D := sm_tup (k + 1) _ (by simp) (by simp [sm_int, sm_ky])
theorem ix_c0 (j : Cj) : ixD j.D (.int 0) = some j.k.D := rfl
theorem ix_c1 (j : Cj) : ixD j.D (.int 1) = some (.int j.st) := rfl
theorem ix_c2 (j : Cj) : ixD j.D (.int 2) = some (.int j.wi) := rfl
theorem ix_c3 (j : Cj) : ixD j.D (.int 3) = some (.int j.wd) := rfl
theorem len_c (j : Cj) : b1 .len j.D = some (.int 4) := rfl
theorem isi_c (j : Cj) : isiD .tuple j.D = some true := rfl
theorem tup4c (j : Cj) (a b c d : Nat) (ρ : En) : Ev.asgT (.tup [a, b, c, d]) j.D ρ = (setV a j.k.D ρ).bind fun ρ => (setV b (.int j.st) ρ).bind fun ρ => (setV c (.int j.wi) ρ).bind fun ρ => (setV d (.int j.wd) ρ) := by
  show (setV a j.k.D ρ).bind (fun ρ => (setV b (.int j.st) ρ).bind fun ρ => (setV c (.int j.wi) ρ).bind fun ρ => (setV d (.int j.wd) ρ).bind some) = _
  simp
def cdS (k : Ky) (w : Nat) : D := .str (Sx (dg k.d w))
/-- a device -/
def dvD (k : Ky) (n : Int) : D := .tup [k.D, .int n]
def juD (j : Cj) (m : Option Int) : D := .tup [.bl m.isSome, (j.aft m).D]
section
variable {n : Nat}
theorem r_are_figures (d w : Nat) (hd : d ≤ 600) : (gs dfs (n + 1)).dD n_are_figures [.str (Sx (dg d w)), .int (d : Int)] = .ok (.bl true) := by
  have un : ∀ x y : D, (gs dfs (n + 1)).dD n_are_figures [x, y] = endD (evSs (gs dfs n) b_are_figures [.va x, .va y, .un]) := fun _ _ => rfl
  rw [un]
  have hl := dg_len d w
  have le : b1 .len (.str (Sx (dg d w))) = some (.int (d : Int)) := by rw [b1_len_str _ (by omega), hl]
  have hc : compR (.nm 2) (evJ (gs dfs n) (.sq (.var 0))) (evC (gs dfs n) .no) (evE (gs dfs n) (.chn .LtE .LtE (.con (.str "0")) (.var 2) (.con (.str "9")))) [2] [.va (.str (Sx (dg d w))), .va (.int (d : Int)), .un] = .ok ((dg d w).map fun _ => .bl true) [.va (.str (Sx (dg d w))), .va (.int (d : Int)), .un] := by
    refine compR_all (f := fun k : Nat => D.str ⟨#[k]⟩) (ρ1 := [.va (.str (Sx (dg d w))), .va (.int (d : Int)), .un]) (fun _ => .bl true) (dg d w) ?_ rfl rfl fun k hk => ?_
    · have lm : ((dg d w).map fun k : Nat => D.str ⟨#[k]⟩).length ≤ 16777216 := by rw [List.length_map]; omega
      simp [evJ, rdV, itD_strI, itN_strI, fewI, hl, show d ≤ 16777216 by omega]
    · have hk := dg_all d w k hk
      exact ⟨[.va (.str (Sx (dg d w))), .va (.int (d : Int)), .va (.str ⟨#[k]⟩)], by simp [wipeR], by simp, [.va (.str (Sx (dg d w))), .va (.int (d : Int)), .va (.str ⟨#[k]⟩)], by simp [rdV, fig_lo, fig_hi, hk.1, hk.2], rfl⟩
  simp [b_are_figures, rdL, rdV, isiD, le, hc, all_T]
@[simp] theorem r_is_keyC (k : Ky) (h : k.Ok) : (gs dfs (n + 3)).dD n_is_key_checkcodes [k.D] = .ok (.bl true) := by
  show endD (evSs (gs dfs (n + 2)) b_is_key_checkcodes [.va k.D, .un]) = _
  have c : slD k.D none (some 3) = some (.tup [.int k.a, .int k.b, .int k.c]) := rfl
  have h0 := h.d0
  have h1 := h.d1
  have e1 : (1 : Int) ≤ (k.d : Int) := by omega
  have e2 : (k.d : Int) ≤ 6 := by omega
  have a1 := h.a1
  have b1 := h.b1
  have c1 := h.c1
  have a2 : k.a ≤ 1000002 := by omega
  have b2 : k.b ≤ 1000002 := by omega
  have c2 : k.c ≤ 1000002 := by omega
  have al : Ev.b1 .all (.lst [.bl true, .bl true, .bl true]) = some (.bl true) := rfl
  simp [b_is_key_checkcodes, rdL, rdV, ix_k3, len_k, isi_k, e1, e2, compR_u, compL_c, evJ, wipeR, backR, partD, c, h.a0, h.b0, h.c0, a2, b2, c2, al, fewI]
theorem r_is_code (k : Ky) (hk : k.Ok) (w : Nat) : (gs dfs (n + 1)).dD n_is_code_checkcodes [k.D, .str (Sx (dg k.d w))] = .ok (.bl true) := by
  have un : ∀ x y : D, (gs dfs (n + 1)).dD n_is_code_checkcodes [x, y] = endD (evSs (gs dfs n) b_is_code_checkcodes [.va x, .va y, .un]) := fun _ _ => rfl
  rw [un]
  have hl := dg_len k.d w
  have hd := hk.d1
  have le : b1 .len (.str (Sx (dg k.d w))) = some (.int (k.d : Int)) := by rw [b1_len_str _ (by omega), hl]
  have hc : compR (.nm 2) (evJ (gs dfs n) (.sq (.var 1))) (evC (gs dfs n) .no) (evE (gs dfs n) (.cmp .In (.var 2) (.con (.str "0123456789")))) [2] [.va k.D, .va (.str (Sx (dg k.d w))), .un] = .ok ((dg k.d w).map fun _ => .bl true) [.va k.D, .va (.str (Sx (dg k.d w))), .un] := by
    refine compR_all (f := fun k : Nat => D.str ⟨#[k]⟩) (ρ1 := [.va k.D, .va (.str (Sx (dg k.d w))), .un]) (fun _ => .bl true) (dg k.d w) ?_ rfl rfl fun x hx => ?_
    · simp [evJ, rdV, itD_strI, itN_strI, fewI, hl, show k.d ≤ 16777216 by omega]
    · have hx := dg_all k.d w x hx
      exact ⟨[.va k.D, .va (.str (Sx (dg k.d w))), .va (.str ⟨#[x]⟩)], by simp [wipeR], by simp, [.va k.D, .va (.str (Sx (dg k.d w))), .va (.str ⟨#[x]⟩)], by simp [rdV, in_figs x hx], rfl⟩
  simp [b_is_code_checkcodes, rdL, rdV, isiD, le, hc, all_T, ix_k3]
theorem r_shows (k : Ky) (hk : k.Ok) (x : Int) (hx : 0 ≤ x ∧ x < 2 ^ 63) (w : Nat) : (gs dfs (n + 2)).dD n_shows [k.D, .int x, .str (Sx (dg k.d w))] = .ok (.bl (decide (k.s x = dg k.d w))) := by
  have un : ∀ x y z : D, (gs dfs (n + 2)).dD n_shows [x, y, z] = endD (evSs (gs dfs (n + 1)) b_shows [.va x, .va y, .va z, .un, .un, .un, .un]) := fun _ _ _ => rfl
  rw [un]
  obtain ⟨o1, o2, o3, o4⟩ := val_ops k hk x hx
  have d0 := hk.d0
  have d1 := hk.d1
  have pw := r_power (n := n) 10 k.d ⟨by omega, by omega⟩ (by omega)
  rw [p10 k.d (by omega)] at pw
  have it := b1_int_dg k.d w (by omega) (by omega)
  have p0 : 0 < 10 ^ k.d := Nat.pow_pos (by decide)
  have ev : (k.a * x * x * x + k.b * x + k.c) % 1000003 = ((k.w x : Nat) : Int) := k.vw x
  have eq : k.s x = dg k.d w ↔ (k.w x) % 10 ^ k.d = w % 10 ^ k.d := dg_eq
  generalize 10 ^ k.d = P at *
  have om := op_mod (k.w x : Int) (P : Int) (by omega)
  have z : ((k.w x : Int) % (P : Int) == ((w % P : Nat) : Int)) = decide (k.s x = dg k.d w) := by
    rw [Bool.eq_iff_iff, beq_iff_eq, decide_eq_true_eq, eq]
    omega
  push_cast at it z
  simp [b_shows, rdV, rdL, tup4, o1, o2, o3, o4, op_mod _ 1000003 (by omega), ev, pw, om, it, z]

theorem cj_b {j : Cj} (h : j.Ok) {m : Nat} (hm : (m : Int) ≤ 30000) {x : Int} (hx : x ∈ rgI j.st m) : 0 ≤ x ∧ x < 2 ^ 63 := by
  have := mem_rgI.mp hx
  have a := h.s0
  have b := h.s1
  omega
theorem r_value_at (k : Ky) (h : k.Ok) (x : Int) (hx : 0 ≤ x ∧ x < 2 ^ 63) : (gs dfs (n + 5)).dD n_value_at [k.D, .int x] = .ok (.int (k.w x : Int)) := by
  show endD (evSs (gs dfs (n + 4)) b_value_at [.va k.D, .va (.int x)]) = _
  have ck : (gs dfs (n + 4)).dD n_check_key [k.D] = .ok .non := by
    show endD (evSs (gs dfs (n + 3)) b_check_key [.va k.D]) = _
    simp [b_check_key, rdV, r_is_key k h]
  simp [b_value_at, rdV, ck, hx.1, r_value k h x hx]
theorem r_check_key (k : Ky) (h : k.Ok) : (gs dfs (n + 4)).dD n_check_key [k.D] = .ok .non := by
  show endD (evSs (gs dfs (n + 3)) b_check_key [.va k.D]) = _
  simp [b_check_key, rdV, r_is_key k h]
theorem r_code_at (k : Ky) (h : k.Ok) (x : Int) (hx : 0 ≤ x ∧ x < 2 ^ 63) : (gs dfs (n + 5)).dD n_code_at [k.D, .int x] = .ok (.str (Sx (k.s x))) := by
  show endD (evSs (gs dfs (n + 4)) b_code_at [.va k.D, .va (.int x)]) = _
  simp [b_code_at, rdV, r_check_key k h, hx.1, r_code k h x hx]
theorem r_codes_from (k : Ky) (h : k.Ok) (x : Int) (m : Nat) (hx : 0 ≤ x) (hx2 : x ≤ 2 ^ 62 - 200000) (hm : m ≤ 100000) : (gs dfs (n + 5)).dD n_codes_from [k.D, .int x, .int (m : Int)] = .ok (.lst (((rgI x m).map fun y => Sx (k.s y)).map D.str)) := by
  have un : ∀ x y z : D, (gs dfs (n + 5)).dD n_codes_from [x, y, z] = endD (evSs (gs dfs (n + 4)) b_codes_from [.va x, .va y, .va z, .un]) := fun _ _ _ => rfl
  rw [un]
  have hm2 : (m : Int) ≤ 100000 := by omega
  have hc : compR (.nm 3) (evJ (gs dfs (n + 4)) (.r2 (.var 1) (.bin .Add (.var 1) (.var 2)))) (evC (gs dfs (n + 4)) .no) (evE (gs dfs (n + 4)) (.call n_code_by 2 (.cons (.var 0) (.cons (.var 3) .nil)))) [3] [.va k.D, .va (.int x), .va (.int (m : Int)), .un] = .ok (((rgI x m).map fun y => Sx (k.s y)).map D.str) [.va k.D, .va (.int x), .va (.int (m : Int)), .un] := by
    rw [List.map_map]
    refine compR_all (f := D.int) (ρ1 := [.va k.D, .va (.int x), .va (.int (m : Int)), .un]) _ (rgI x m) ?_ rfl rfl fun y hy => ?_
    · simp [evJ, rdV]
      rw [rng_2 _ _ ⟨by omega, by omega, by omega, by omega⟩, nums_rgI, show (x + (m : Int) - x).toNat = m by omega]
      simp
      rw [fewI, if_pos (by rw [List.length_map, rgI_len]; omega)]
    · have hy := mem_rgI.mp hy
      exact ⟨[.va k.D, .va (.int x), .va (.int (m : Int)), .va (.int y)], by simp [wipeR], by simp, [.va k.D, .va (.int x), .va (.int (m : Int)), .va (.int y)], by simp [rdV, r_code (n := n + 1) k h y ⟨by omega, by omega⟩], rfl⟩
  simp [b_codes_from, rdV, r_check_key k h, hx, hm2, hc]
theorem r_counts_of (k : Ky) (h : k.Ok) (w : Nat) (x : Int) (m : Nat) (hx : 0 ≤ x) (hx2 : x ≤ 2 ^ 62 - 200000) (hm : m ≤ 100000) (h1 : 1 ≤ m) : (gs dfs (n + 5)).dD n_counts_of [k.D, cdS k w, .int x, .int (x + (m : Int) - 1)] = .ok (.lst (((rgI x m).filter (hasB k w)).map D.int)) := by
  have un : ∀ x y z u : D, (gs dfs (n + 5)).dD n_counts_of [x, y, z, u] = endD (evSs (gs dfs (n + 4)) b_counts_of [.va x, .va y, .va z, .va u, .un]) := fun _ _ _ _ => rfl
  rw [un]
  have d1 := h.d1
  have cs : (gs dfs (n + 4)).dD n_check_span [.int x, .int (x + (m : Int) - 1)] = .ok .non := by
    show endD (evSs (gs dfs (n + 3)) b_check_span [.va (.int x), .va (.int (x + (m : Int) - 1))]) = _
    have : ¬ (200000 ≤ x + (m : Int) - 1 - x) := by omega
    simp [b_check_span, rdV, this]
  have hc : compR (.nm 4) (evJ (gs dfs (n + 4)) (.r2 (.var 2) (.bin .Add (.var 3) (.con (.int 1))))) (evC (gs dfs (n + 4)) (.one (.cmp .Eq (.call n_code_by 2 (.cons (.var 0) (.cons (.var 4) .nil))) (.var 1)))) (evE (gs dfs (n + 4)) (.var 4)) [4] [.va k.D, .va (cdS k w), .va (.int x), .va (.int (x + (m : Int) - 1)), .un] = .ok (((rgI x m).filter (hasB k w)).map D.int) [.va k.D, .va (cdS k w), .va (.int x), .va (.int (x + (m : Int) - 1)), .un] := by
    refine compR_ok (f := D.int) (ρ1 := [.va k.D, .va (cdS k w), .va (.int x), .va (.int (x + (m : Int) - 1)), .un]) (hasB k w) D.int (rgI x m) ?_ rfl rfl fun y hy => ?_
    · simp [evJ, rdV]
      rw [rng_2 _ _ ⟨by omega, by omega, by omega, by omega⟩, nums_rgI, show (x + (m : Int) - x).toNat = m by omega]
      simp
      rw [fewI, if_pos (by rw [List.length_map, rgI_len]; omega)]
    · have hy := mem_rgI.mp hy
      exact ⟨[.va k.D, .va (cdS k w), .va (.int x), .va (.int (x + (m : Int) - 1)), .va (.int y)], by simp [wipeR], by simp [rdV, r_code (n := n + 1) k h y ⟨by omega, by omega⟩, cdS, cmp_eqSx, hasB], fun _ => ⟨[.va k.D, .va (cdS k w), .va (.int x), .va (.int (x + (m : Int) - 1)), .va (.int y)], by simp [rdV], rfl⟩, fun _ => rfl⟩
  have p : 1 ≤ x + (m : Int) := by omega
  have fg := r_are_figures (n := n + 3) k.d w (by omega)
  simp only [cdS] at hc ⊢
  simp [b_counts_of, rdV, rdL, ix_k3, r_check_key k h, hx, p, fg, cs, hc]
theorem r_first_repeat (k : Ky) (h : k.Ok) (x : Int) (m : Nat) (hx : 0 ≤ x) (hx2 : x ≤ 2 ^ 62 - 200000) (hm : m ≤ 100000) (h1 : 1 ≤ m) : (gs dfs (n + 5)).dD n_first_repeat [k.D, .int x, .int (x + (m : Int) - 1)] = .ok (match frep [] ((rgI x m).map fun y => Sx (k.s y)) with | none => .non | some (i, j) => .tup [.int (x + (i : Int)), .int (x + (j : Int))]) := by
  have un : ∀ x y z : D, (gs dfs (n + 5)).dD n_first_repeat [x, y, z] = endD (evSs (gs dfs (n + 4)) b_first_repeat [.va x, .va y, .va z, .un, .un, .un]) := fun _ _ _ => rfl
  rw [un]
  have cs : (gs dfs (n + 4)).dD n_check_span [.int x, .int (x + (m : Int) - 1)] = .ok .non := by
    show endD (evSs (gs dfs (n + 3)) b_check_span [.va (.int x), .va (.int (x + (m : Int) - 1))]) = _
    have : ¬ (200000 ≤ x + (m : Int) - 1 - x) := by omega
    simp [b_check_span, rdV, this]
  have p : 1 ≤ x + (m : Int) := by omega
  refine endD_wp ?_
  simp [b_first_repeat, rdV, r_check_key k h, hx, p, cs]
  rw [rng_2 _ _ ⟨by omega, by omega, by omega, by omega⟩, nums_rgI, show (x + (m : Int) - x).toNat = m by omega]
  simp
  refine wp_forUL (f := D.int) (fun us ρ => ∃ pre : List Str, ρ = [.va k.D, .va (.int x), .va (.int (x + (m : Int) - 1)), .ow false (.dK (pre.map Sum.inr) ((rgI (x + ((0 : Nat) : Int)) pre.length).map D.int)), .un, .un] ∧ us = rgI (x + (pre.length : Int)) us.length ∧ pre.length + us.length = m ∧ frep pre (us.map fun y => Sx (k.s y)) = frep [] ((rgI x m).map fun y => Sx (k.s y)))
    ⟨_, ⟨[], rfl, by simp [rgI_len], by simp [rgI_len], rfl⟩, by simp [rgI]⟩ ?_ ?_
  · rintro J uJ hJ y us ρ ⟨pre, rfl, hu, hl, e⟩
    rw [List.length_cons, rgI_cons] at hu
    obtain ⟨hy, hu⟩ := List.cons.inj hu
    rw [List.length_cons] at hl
    have rc := r_code (n := n + 1) k h y ⟨by omega, by omega⟩
    rw [List.map_cons, frep] at e
    have kd : keyD (.str (Sx (k.s y))) = some (Sum.inr (Sx (k.s y))) := rfl
    by_cases c : Sx (k.s y) ∈ pre
    · rw [if_pos c] at e
      have lk := lkp_at x pre (Sx (k.s y)) 0 c
      have ii : isinD false (.str (Sx (k.s y))) (.dK (pre.map Sum.inr) ((rgI (x + ((0 : Nat) : Int)) pre.length).map D.int)) = some true := by
        rw [isin_K kd, lk]; rfl
      have ix : ixD (.dK (pre.map Sum.inr) ((rgI (x + ((0 : Nat) : Int)) pre.length).map D.int)) (.str (Sx (k.s y))) = some (.int (x + ((0 : Nat) : Int) + (pre.idxOf (Sx (k.s y)) : Nat))) := by
        rw [ix_K kd, lk]
      simp only [show x + ((0 : Nat) : Int) = x by omega] at ii ix ⊢
      simp [l1_first_repeat, rdV, rdL, rc, ii, ix, ← e]
      rw [hy]
    · rw [if_neg c] at e
      have lk := lkp_none pre ((rgI (x + ((0 : Nat) : Int)) pre.length).map D.int) (Sx (k.s y)) c
      have ii : isinD false (.str (Sx (k.s y))) (.dK (pre.map Sum.inr) ((rgI (x + ((0 : Nat) : Int)) pre.length).map D.int)) = some false := by
        rw [isin_K kd, lk]; rfl
      have pk := putB_K (pre.map Sum.inr) ((rgI (x + ((0 : Nat) : Int)) pre.length).map D.int) (.str (Sx (k.s y))) (.inr (Sx (k.s y))) (.int y) rfl (by rw [List.length_map]; omega)
      unfold putL at pk
      rw [if_neg (fun z => by obtain ⟨q, hq, e⟩ := List.mem_map.mp z; cases e; exact c hq)] at pk
      dsimp only at pk
      simp only [show x + ((0 : Nat) : Int) = x by omega] at ii pk ⊢
      simp [l1_first_repeat, rdV, rdL, rc, ii, rdB_of (ρ := [.va k.D, .va (.int x), .va (.int (x + (m : Int) - 1)), .ow false (.dK (pre.map Sum.inr) ((rgI x pre.length).map D.int)), .va (.int y), .va (.str (Sx (k.s y)))]) (i := 3) rfl, pk]
      refine hJ _ _ _ ⟨pre ++ [Sx (k.s y)], rfl, ?_, by simp; omega, e⟩ ?_
      · rw [List.length_append, List.length_singleton, show x + ((pre.length + 1 : Nat) : Int) = x + (pre.length : Int) + 1 by omega]
        exact hu
      · simp [rgI_succ, hy]
  · rintro ρ ⟨pre, rfl, hu, hl, e⟩
    rw [List.map_nil, frep] at e
    simp [← e]
theorem r_tell (v : Nat) : (gs dfs (n + 3)).dD n_tell [.int (v : Int), .int 4] = .ok (.str (Sx (dg 4 v))) := by
  have un : ∀ x y : D, (gs dfs (n + 3)).dD n_tell [x, y] = endD (evSs (gs dfs (n + 2)) b_tell [.va x, .va y]) := fun _ _ => rfl
  rw [un]
  have t := r_told (n := n) v 4 (by omega)
  have v0 : 0 ≤ (v : Int) := by omega
  simp only [show ((4 : Nat) : Int) = 4 from rfl] at t
  simp [b_tell, rdV, v0, t]
end
end Ev.W

end
section
set_option maxHeartbeats 1000000
namespace Ev.W
open PySem PySem.Spec PyProof.Rows L2 Ev
theorem Cj.Ok.aft {j : Cj} (h : j.Ok) (hs : j.st ≤ 100000000000000) {w : Nat} : (j.aft (j.met w)).Ok ∧ (j.aft (j.met w)).st ≤ j.st + 1001 := by
  have s0 := h.s0
  have w1 := h.w1
  cases e : j.met w with
  | none => exact ⟨h, by show j.st ≤ _; omega⟩
  | some n =>
    have := met_mem e h.w0
    exact ⟨⟨by show 0 ≤ n + 1; omega, by show n + 1 ≤ _; omega, h.w0, h.w1, h.d0, h.d1, h.k⟩, by show n + 1 ≤ _; omega⟩
theorem aft_k (j : Cj) (m : Option Int) : (j.aft m).k = j.k := by cases m <;> rfl
theorem aft_wi (j : Cj) (m : Option Int) : (j.aft m).wi = j.wi := by cases m <;> rfl
theorem aft_wd (j : Cj) (m : Option Int) : (j.aft m).wd = j.wd := by cases m <;> rfl
/-- a session: for each send if it was taken -/
def sess : Cj → Int → List Bool → List Bool × Cj
  | j, _, [] => ([], j)
  | j, n, true :: bs => ((j.met (j.k.w n)).isSome :: (sess (j.aft (j.met (j.k.w n))) (n + 1) bs).1, (sess (j.aft (j.met (j.k.w n))) (n + 1) bs).2)
  | j, n, false :: bs => sess j (n + 1) bs
def wdD (b : Bool) : D := .str (if b = true then "send" else "show")
section
variable {n : Nat}
theorem r_is_codeK (k : Ky) (h : k.Ok) (w : Nat) : (gs dfs (n + 5)).dD n_is_code_keys [k.D, cdS k w] = .ok (.bl true) := by
  have un : ∀ x y : D, (gs dfs (n + 5)).dD n_is_code_keys [x, y] = endD (evSs (gs dfs (n + 4)) b_is_code_keys [.va x, .va y]) := fun _ _ => rfl
  rw [un]
  have := h.d1
  have f := r_are_figures (n := n + 3) k.d w (by omega)
  simp only [cdS]
  simp [b_is_code_keys, rdV, rdL, r_check_key k h, ix_k3, f]
theorem r_is_codeBad (k : Ky) (h : k.Ok) (cs : List Nat) (hl : cs.length ≠ k.d) (hl2 : cs.length ≤ 1000) : (gs dfs (n + 5)).dD n_is_code_keys [k.D, .str (Sx cs)] = .ok (.bl false) := by
  have un : ∀ x y : D, (gs dfs (n + 5)).dD n_is_code_keys [x, y] = endD (evSs (gs dfs (n + 4)) b_is_code_keys [.va x, .va y]) := fun _ _ => rfl
  rw [un]
  have f : (gs dfs (n + 4)).dD n_are_figures [.str (Sx cs), .int (k.d : Int)] = .ok (.bl false) := by
    have un2 : ∀ x y : D, (gs dfs (n + 4)).dD n_are_figures [x, y] = endD (evSs (gs dfs (n + 3)) b_are_figures [.va x, .va y, .un]) := fun _ _ => rfl
    rw [un2]
    have le := b1_len_str cs (by omega)
    have ne : ((cs.length : Int) == (k.d : Int)) = false := by rw [beq_eq_false_iff_ne]; omega
    simp [b_are_figures, rdL, rdV, isiD, le, ne]
  simp [b_is_code_keys, rdV, rdL, r_check_key k h, ix_k3, f]
theorem r_is_cj (j : Cj) (h : j.Ok) : (gs dfs (n + 4)).dD n_is_count_judge [j.D] = .ok (.bl true) := by
  show endD (evSs (gs dfs (n + 3)) b_is_count_judge [.va j.D]) = _
  simp [b_is_count_judge, rdL, rdV, len_c, isi_c, ix_c0, ix_c1, ix_c2, ix_c3, r_is_key j.k h.k, h.s0, h.w0, h.w1, h.d0, h.d1]
theorem r_check_judge (j : Cj) (h : j.Ok) : (gs dfs (n + 5)).dD n_check_judge [j.D] = .ok .non := by
  show endD (evSs (gs dfs (n + 4)) b_check_judge [.va j.D]) = _
  simp [b_check_judge, rdV, r_is_cj j h]
theorem r_is_device (k : Ky) (h : k.Ok) (x : Int) (hx : 0 ≤ x) : (gs dfs (n + 4)).dD n_is_device [dvD k x] = .ok (.bl true) := by
  have un : ∀ y : D, (gs dfs (n + 4)).dD n_is_device [y] = endD (evSs (gs dfs (n + 3)) b_is_device [.va y]) := fun _ => rfl
  rw [un]
  have i0 : ixD (dvD k x) (.int 0) = some k.D := rfl
  have i1 : ixD (dvD k x) (.int 1) = some (.int x) := rfl
  have l : b1 .len (dvD k x) = some (.int 2) := rfl
  have s : isiD .tuple (dvD k x) = some true := rfl
  simp [b_is_device, rdL, rdV, i0, i1, l, s, r_is_key k h, hx]
theorem r_check_code (j : Cj) (h : j.Ok) (w : Nat) : (gs dfs (n + 6)).dD n_check_code [j.D, cdS j.k w] = .ok .non := by
  have un : ∀ x y : D, (gs dfs (n + 6)).dD n_check_code [x, y] = endD (evSs (gs dfs (n + 5)) b_check_code [.va x, .va y]) := fun _ _ => rfl
  rw [un]
  have := h.k.d1
  have f := r_are_figures (n := n + 4) j.k.d w (by omega)
  simp only [cdS]
  simp [b_check_code, rdV, rdL, r_check_judge j h, ix_c0, ix_k3, f]
theorem r_met_by (j : Cj) (h : j.Ok) (w : Nat) : (gs dfs (n + 4)).dD n_met_by [j.D, cdS j.k w] = .ok (oI (j.met w)) := by
  have un : ∀ x y : D, (gs dfs (n + 4)).dD n_met_by [x, y] = endD (evSs (gs dfs (n + 3)) b_met_by [.va x, .va y, .un, .un, .un, .un, .un]) := fun _ _ => rfl
  rw [un]
  have s0 := h.s0
  have s1 := h.s1
  have w0 := h.w0
  have w1 := h.w1
  refine endD_wp ?_
  simp only [cdS]
  simp [b_met_by, rdV, tup4c]
  rw [rng_2 _ _ ⟨by omega, by omega, by omega, by omega⟩, nums_rgI, show (j.st + j.wi + 1 - j.st).toNat = j.wi.toNat + 1 by omega]
  simp
  refine wp_forUL (f := D.int) (fun us ρ => ρ = [.va j.D, .va (.str (Sx (dg j.k.d w))), .un, .va j.k.D, .va (.int j.st), .va (.int j.wi), .va (.int j.wd)] ∧ (∀ x ∈ us, x ∈ rgI j.st (j.wi.toNat + 1)) ∧ (us.filter (hasB j.k w)).head? = j.met w) ⟨_, ⟨rfl, fun _ h => h, rfl⟩, by simp⟩ ?_ ?_
  · rintro J uJ hJ x us ρ ⟨rfl, hu, e⟩
    have xb := cj_b h (m := j.wi.toNat + 1) (by omega) (hu x List.mem_cons_self)
    have rc := r_code (n := n) j.k h.k x xb
    simp [l1_met_by, rdV, rc, cmp_eqSx]
    cases hp : hasB j.k w x with
    | true =>
      rw [List.filter_cons_of_pos hp] at e
      have hp2 : j.k.s x = dg j.k.d w := of_decide_eq_true hp
      simp [hp2, rdV, ← e]
    | false =>
      rw [List.filter_cons_of_neg (by simp [hp])] at e
      have hp2 : ¬ (j.k.s x = dg j.k.d w) := of_decide_eq_false hp
      simp [hp2]
      exact hJ _ _ _ ⟨rfl, fun y hy => hu y (List.mem_cons_of_mem _ hy), e⟩ (by simp)
  · rintro ρ ⟨rfl, _, e⟩
    simp at e
    simp [← e]
theorem r_met_count (j : Cj) (h : j.Ok) (w : Nat) : (gs dfs (n + 7)).dD n_met_count [j.D, cdS j.k w] = .ok (oI (j.met w)) := by
  have un : ∀ x y : D, (gs dfs (n + 7)).dD n_met_count [x, y] = endD (evSs (gs dfs (n + 6)) b_met_count [.va x, .va y]) := fun _ _ => rfl
  rw [un]
  simp [b_met_count, rdV, r_check_code j h w, r_met_by j h w]
theorem r_moved (j : Cj) (s : Int) : (gs dfs (n + 1)).dD n_moved [j.D, .int s] = .ok (j.mv s).D := by
  show endD (evSs (gs dfs n) b_moved [.va j.D, .va (.int s)]) = _
  rw [show (j.mv s).D = .tup [j.k.D, .int s, .int j.wi, .int j.wd] from rfl]
  simp [b_moved, rdV, rdL, ix_c0, ix_c2, ix_c3]
theorem r_judged_by (j : Cj) (h : j.Ok) (w : Nat) : (gs dfs (n + 5)).dD n_judged_by [j.D, cdS j.k w] = .ok (juD j (j.met w)) := by
  have un : ∀ x y : D, (gs dfs (n + 5)).dD n_judged_by [x, y] = endD (evSs (gs dfs (n + 4)) b_judged_by [.va x, .va y, .un]) := fun _ _ => rfl
  rw [un]
  simp [b_judged_by, rdV, r_met_by j h w]
  cases e : j.met w with
  | none => simp [juD, Cj.aft]
  | some m => simp [juD, Cj.aft, rdV, r_moved]
theorem r_judged (j : Cj) (h : j.Ok) (w : Nat) : (gs dfs (n + 7)).dD n_judged [j.D, cdS j.k w] = .ok (juD j (j.met w)) := by
  have un : ∀ x y : D, (gs dfs (n + 7)).dD n_judged [x, y] = endD (evSs (gs dfs (n + 6)) b_judged [.va x, .va y]) := fun _ _ => rfl
  rw [un]
  simp [b_judged, rdV, r_check_code j h w, r_judged_by j h w]
theorem r_shown (k : Ky) (h : k.Ok) (x : Int) (hx : 0 ≤ x ∧ x < 2 ^ 63) : (gs dfs (n + 5)).dD n_shown [dvD k x] = .ok (.tup [cdS k (k.w x), dvD k (x + 1)]) := by
  have un : ∀ y : D, (gs dfs (n + 5)).dD n_shown [y] = endD (evSs (gs dfs (n + 4)) b_shown [.va y, .un, .un]) := fun _ => rfl
  rw [un]
  have t : ∀ ρ : En, Ev.asgT (.tup [1, 2]) (dvD k x) ρ = (setV 1 k.D ρ).bind fun ρ => setV 2 (.int x) ρ := by
    intro ρ
    show (setV 1 k.D ρ).bind (fun ρ => (setV 2 (.int x) ρ).bind some) = _
    simp
  have dv := r_is_device (n := n) k h x hx.1
  have rc := r_code (n := n + 1) k h x hx
  unfold dvD at *
  simp [b_shown, rdV, dv, t, rc, cdS, Ky.s]
theorem r_check_both (j : Cj) (h : j.Ok) (x : Int) (hx : 0 ≤ x) : (gs dfs (n + 6)).dD n_check_both [j.D, dvD j.k x] = .ok .non := by
  have un : ∀ y z : D, (gs dfs (n + 6)).dD n_check_both [y, z] = endD (evSs (gs dfs (n + 5)) b_check_both [.va y, .va z]) := fun _ _ => rfl
  rw [un]
  simp [b_check_both, rdV, r_check_judge j h, r_is_device j.k h.k x hx]
theorem r_apart (j : Cj) (h : j.Ok) (x : Int) (hx : 0 ≤ x) : (gs dfs (n + 7)).dD n_apart [j.D, dvD j.k x] = .ok (.int (x - j.st)) := by
  have un : ∀ y z : D, (gs dfs (n + 7)).dD n_apart [y, z] = endD (evSs (gs dfs (n + 6)) b_apart [.va y, .va z]) := fun _ _ => rfl
  rw [un]
  have i0 : ixD (dvD j.k x) (.int 0) = some j.k.D := rfl
  have i1 : ixD (dvD j.k x) (.int 1) = some (.int x) := rfl
  have ne := cmp_ne_same j.k.D (sm_ky 3 j.k)
  simp [b_apart, rdV, rdL, r_check_both j h x hx, i0, i1, ix_c0, ix_c1, ne]
theorem in_words (b : Bool) : cmpD .In (wdD b) (.tup [.str "show", .str "send"]) = some true := by cases b <;> rfl
theorem eq_send (b : Bool) : cmpD .Eq (wdD b) (.str "send") = some b := by cases b <;> rfl
theorem r_session (j : Cj) (h : j.Ok) (x : Int) (hx : 0 ≤ x ∧ x ≤ 1000000) (bs : List Bool) (hb : bs.length ≤ 1000) (hs : j.st ≤ 10000000) : (gs dfs (n + 7)).dD n_session [j.D, dvD j.k x, .lst (bs.map wdD)] = .ok (.tup [.lst ((sess j x bs).1.map D.bl), (sess j x bs).2.D, dvD j.k (x + (bs.length : Int))]) := by
  have un : ∀ y z u : D, (gs dfs (n + 7)).dD n_session [y, z, u] = endD (evSs (gs dfs (n + 6)) b_session [.va y, .va z, .va u, .un, .un, .un, .un]) := fun _ _ _ => rfl
  rw [un]
  have i0 : ixD (dvD j.k x) (.int 0) = some j.k.D := rfl
  have eq := cmp_eq_same j.k.D (sm_ky 3 j.k)
  have hc : compR (.nm 4) (evJ (gs dfs (n + 6)) (.sq (.var 2))) (evC (gs dfs (n + 6)) .no) (evE (gs dfs (n + 6)) (.cmp .In (.var 4) (.tup (.cons (.glo (.str "show")) (.cons (.glo (.str "send")) .nil))))) [4] [.va j.D, .va (dvD j.k x), .va (.lst (bs.map wdD)), .un, .un, .un, .un] = .ok (bs.map fun _ => .bl true) [.va j.D, .va (dvD j.k x), .va (.lst (bs.map wdD)), .un, .un, .un, .un] := by
    refine compR_all (f := wdD) (ρ1 := [.va j.D, .va (dvD j.k x), .va (.lst (bs.map wdD)), .un, .un, .un, .un]) _ bs ?_ rfl rfl fun b _ => ?_
    · simp [evJ, rdV, fewI]; omega
    · exact ⟨[.va j.D, .va (dvD j.k x), .va (.lst (bs.map wdD)), .un, .va (wdD b), .un, .un], by simp [wipeR], by simp, [.va j.D, .va (dvD j.k x), .va (.lst (bs.map wdD)), .un, .va (wdD b), .un, .un], by simp [rdV, in_words], rfl⟩
  refine endD_wp ?_
  simp [b_session, rdV, rdL, r_check_both j h x hx.1, hc, all_T, ix_c0, i0, eq]
  refine wp_forUL (f := wdD) (fun us ρ => ∃ (j' : Cj) (y : Int) (ds : List Bool), ρ = [.va j'.D, .va (dvD j.k y), .va (.lst (bs.map wdD)), .ow false (.lst (ds.map D.bl)), .un, .un, .un] ∧ j'.Ok ∧ j'.k = j.k ∧ ds.length + us.length ≤ 1000 ∧ j'.st ≤ 10000000 + 1001 * ((bs.length : Int) - us.length) ∧ us.length ≤ bs.length ∧ y + (us.length : Int) = x + (bs.length : Int) ∧ x ≤ y ∧ (ds ++ (sess j' y us).1, (sess j' y us).2) = sess j x bs)
    ⟨_, ⟨j, x, [], rfl, h, rfl, by simpa using hb, by omega, Nat.le_refl _, rfl, Int.le_refl _, rfl⟩, by simp⟩ ?_ ?_
  · rintro J uJ hJ b us ρ ⟨j', y, ds, rfl, h', hk, hl, hst, hu, hy, hxy, e⟩
    rw [List.length_cons] at hl hst hu hy
    have sh := r_shown (n := n + 1) j.k h.k y ⟨by omega, by omega⟩
    cases b with
    | true =>
      have jb := r_judged_by (n := n + 1) j' h' (j'.k.w y)
      rw [hk] at jb
      have af := h'.aft (by omega) (w := j'.k.w y)
      have q : (evSs (gs dfs (n + 6)) l1_session [.va j'.D, .va (dvD j.k y), .va (.lst (bs.map wdD)), .ow false (.lst (ds.map D.bl)), .va (wdD true), .un, .un]) = .ok .nx [.va (j'.aft (j'.met (j.k.w y))).D, .va (dvD j.k (y + 1)), .va (.lst (bs.map wdD)), .ow false (.lst (ds.map D.bl ++ [.bl (j'.met (j.k.w y)).isSome])), .va (wdD true), .va (cdS j.k (j.k.w y)), .va (.bl (j'.met (j.k.w y)).isSome)] := by
        simp [l1_session, rdV, rdL, rdO, sh, eq_send, jb, juD]
        rw [appFI, if_pos (by rw [List.length_map]; omega)]
        simp
      simp [q]
      rw [hk] at af
      refine hJ _ _ _ ⟨j'.aft (j'.met (j.k.w y)), y + 1, ds ++ [(j'.met (j.k.w y)).isSome], rfl, af.1, by rw [aft_k, hk], by simp; omega, by omega, by omega, by omega, by omega, ?_⟩ (by simp)
      rw [← e]
      simp [sess, hk]
    | false =>
      have q : (evSs (gs dfs (n + 6)) l1_session [.va j'.D, .va (dvD j.k y), .va (.lst (bs.map wdD)), .ow false (.lst (ds.map D.bl)), .va (wdD false), .un, .un]) = .ok .nx [.va j'.D, .va (dvD j.k (y + 1)), .va (.lst (bs.map wdD)), .ow false (.lst (ds.map D.bl)), .va (wdD false), .va (cdS j.k (j.k.w y)), .un] := by
        simp [l1_session, rdV, rdL, rdO, sh, eq_send]
      simp [q]
      exact hJ _ _ _ ⟨j', y + 1, ds, rfl, h', hk, by omega, by omega, by omega, by omega, by omega, by rw [← e]; rfl⟩ (by simp)
  · rintro ρ ⟨j', y, ds, rfl, h', hk, hl, hst, hu, hy, hxy, e⟩
    simp only [sess, List.append_nil] at e
    have yy : y = x + (bs.length : Int) := by simpa using hy
    simp [rdV, ← e, yy]
end
end Ev.W

end
section
set_option maxHeartbeats 1000000
namespace Ev.W
open PySem PySem.Spec PyProof.Rows L2 Ev
theorem codes_len (j : Cj) : j.codes.length = j.wi.toNat + 1 := by unfold Cj.codes; rw [List.length_map, rgI_len]
def clear (j : Cj) : Bool := decide j.codes.Nodup
theorem mapIdx_codes (k : Ky) (ws : List Nat) : enumD (.lst (ws.map (cdS k))) = some ((List.range ws.length).map fun i => .tup [.int (i : Int), cdS k (ws.getD i 0)]) := by
  show some (List.mapIdx _ _) = _
  congr 1
  apply List.ext_getElem
  · simp
  · intro i h1 h2
    have hi : i < ws.length := by simpa using h2
    simp [List.getD_eq_getElem?_getD, List.getElem?_eq_getElem hi]
section
variable {n : Nat}
/-- {code: True for code in codes} -/
theorem dict_codes (G : Gs) (cs : List Str) (fi : En → R (List D)) (i : Nat) (hi2 : i < 3) (hl : cs.length ≤ 5000) (ρ : En) (hρ : ρ.length = 3) (h1 : fi ρ = .ok (cs.map D.str) ρ) (hu : ρ[i]? = some .un) :
    Wp (compDR false (.nm i) fi (evC G .no) (evE G (.var i)) (evE G (.con (.bl true))) [i] ρ) fun b ρ' => ρ' = ρ ∧ ∃ (ks : List Str) (vs : List D), b = .dK (ks.map Sum.inr) vs ∧ ks.Nodup ∧ ∀ s, s ∈ ks ↔ s ∈ cs := by
  have key : ∀ ρ : En, ρ.length = 3 → ρ[i]? = some .un → fi ρ = .ok (cs.map D.str) ρ → ∃ s0 s1 s2 : Sl, ρ = [s0, s1, s2] := by
    intro ρ hl _ _
    match ρ, hl with
    | [a, b, c], _ => exact ⟨a, b, c, rfl⟩
  obtain ⟨s0, s1, s2, rfl⟩ := key ρ hρ hu h1
  have wi : wipeR [s0, s1, s2] [i] = [s0, s1, s2] := by
    show [s0, s1, s2].set i .un = _
    match i, hi2, hu with
    | 0, _, hu => simp at hu; subst hu; rfl
    | 1, _, hu => simp at hu; subst hu; rfl
    | 2, _, hu => simp at hu; subst hu; rfl
  refine wp_compDR (f := D.str) (xs := cs) (ρ1 := [s0, s1, s2]) (fun b us ρ => ρ = [s0, s1, s2] ∧ ∃ (ks : List Str) (vs : List D), b = .dK (ks.map Sum.inr) vs ∧ ks.Nodup ∧ ks.length + us.length ≤ 5000 ∧ ∀ s, s ∈ cs ↔ s ∈ ks ∨ s ∈ us) h1 ⟨wi, [], [], rfl, List.nodup_nil, by simpa using hl, fun s => by simp⟩ ?_ ?_
  · rintro J hJ b x us ρ ⟨rfl, ks, vs, rfl, nd, hl, hm⟩
    rw [List.length_cons] at hl
    have pk := putB_K (ks.map Sum.inr) vs (.str x) (.inr x) (.bl true) rfl (by rw [List.length_map]; omega)
    have st : Ev.asgT (.nm i) (.str x) [s0, s1, s2] = some ([s0, s1, s2].set i (.va (.str x))) := by
      match i, hi2, hu with
      | 0, _, hu => simp at hu; subst hu; rfl
      | 1, _, hu => simp at hu; subst hu; rfl
      | 2, _, hu => simp at hu; subst hu; rfl
    have rd : evE G (.var i) ([s0, s1, s2].set i (.va (.str x))) = .ok (.str x) ([s0, s1, s2].set i (.va (.str x))) := by
      match i, hi2 with
      | 0, _ => rfl
      | 1, _ => rfl
      | 2, _ => rfl
    have rd2 : evC G .no ([s0, s1, s2].set i (.va (.str x))) = .ok true ([s0, s1, s2].set i (.va (.str x))) := rfl
    have rd3 : evE G (.con (.bl true)) ([s0, s1, s2].set i (.va (.str x))) = .ok (.bl true) ([s0, s1, s2].set i (.va (.str x))) := rfl
    have wi2 : wipeR ([s0, s1, s2].set i (.va (.str x))) [i] = [s0, s1, s2] := by
      show ([s0, s1, s2].set i (.va (.str x))).set i .un = _
      rw [List.set_set]
      exact wi
    rw [st, oW_some, rd2, Wp_ok, if_pos rfl, rd, Wp_ok, rd3, Wp_ok, pk, wi2]
    refine hJ _ _ _ ⟨rfl, ?_⟩
    unfold putL
    by_cases c : x ∈ ks
    · rw [if_pos (List.mem_map.mpr ⟨_, c, rfl⟩)]
      refine ⟨ks, _, rfl, nd, by omega, fun s => ?_⟩
      rw [hm, List.mem_cons]
      constructor
      · rintro (h | rfl | h)
        · exact .inl h
        · exact .inl c
        · exact .inr h
      · rintro (h | h)
        · exact .inl h
        · exact .inr (.inr h)
    · rw [if_neg (fun z => by obtain ⟨y, hy, e⟩ := List.mem_map.mp z; cases e; exact c hy)]
      refine ⟨ks ++ [x], vs ++ [.bl true], by simp, ?_, by simp; omega, fun s => ?_⟩
      · rw [List.nodup_append]
        refine ⟨nd, by simp, fun a ha b hb e => ?_⟩
        rw [List.mem_singleton] at hb
        subst hb e
        exact c ha
      · rw [hm, List.mem_cons, List.mem_append, List.mem_singleton, or_assoc]
  · rintro b ρ ⟨rfl, ks, vs, rfl, nd, hl, hm⟩
    refine ⟨?_, ks, vs, rfl, nd, fun s => by simpa using (hm s).symm⟩
    show [s0, s1, s2].set i (match ([s0, s1, s2] : List Sl)[i]? with | some (.va d) => .va d | _ => .un) = _
    rw [hu]
    exact wi
theorem r_looked_at (j : Cj) (h : j.Ok) : (gs dfs (n + 4)).dD n_looked_at [j.D] = .ok (.lst (j.codes.map D.str)) := by
  show endD (evSs (gs dfs (n + 3)) b_looked_at [.va j.D, .un]) = _
  have s0 := h.s0
  have s1 := h.s1
  have w0 := h.w0
  have w1 := h.w1
  have hc : compR (.nm 1) (evJ (gs dfs (n + 3)) (.r2 (.ixV 0 (.con (.int 1))) (.bin .Add (.bin .Add (.ixV 0 (.con (.int 1))) (.ixV 0 (.con (.int 2)))) (.con (.int 1))))) (evC (gs dfs (n + 3)) .no) (evE (gs dfs (n + 3)) (.call n_code_by 2 (.cons (.ixV 0 (.con (.int 0))) (.cons (.var 1) .nil)))) [1] [.va j.D, .un] = .ok (j.codes.map D.str) [.va j.D, .un] := by
    unfold Cj.codes
    rw [List.map_map]
    refine compR_all (f := D.int) (ρ1 := [.va j.D, .un]) _ (rgI j.st (j.wi.toNat + 1)) ?_ rfl rfl fun y hy => ?_
    · simp [evJ, rdV, rdL, ix_c1, ix_c2]
      rw [rng_2 _ _ ⟨by omega, by omega, by omega, by omega⟩, nums_rgI, show (j.st + j.wi + 1 - j.st).toNat = j.wi.toNat + 1 by omega]
      simp
      rw [fewI, if_pos (by rw [List.length_map, rgI_len]; omega)]
    · have yb := cj_b h (m := j.wi.toNat + 1) (by omega) hy
      exact ⟨[.va j.D, .va (.int y)], by simp [wipeR], by simp, [.va j.D, .va (.int y)], by simp [rdV, rdL, ix_c0, r_code (n := n) j.k h.k y yb], rfl⟩
  simp [b_looked_at, hc]
theorem r_taken (j : Cj) (h : j.Ok) : (gs dfs (n + 6)).dD n_taken_codes [j.D] = .ok (.lst ((sortT (dd j.codes)).map D.str)) := by
  show endD (evSs (gs dfs (n + 5)) b_taken_codes [.va j.D, .un]) = _
  have w1 := h.w1
  have cl := codes_len j
  refine endD_wp ?_
  simp [b_taken_codes, rdV, r_check_judge j h]
  refine wp_compDR (f := D.str) (xs := j.codes) (ρ1 := [.va j.D, .un]) (fun b us ρ => ρ = [.va j.D, .un] ∧ ∃ (ks : List Str) (vs : List D), b = .dK (ks.map Sum.inr) vs ∧ ks.Nodup ∧ ks.length + us.length ≤ 5000 ∧ ∀ s, s ∈ j.codes ↔ s ∈ ks ∨ s ∈ us) ?_ ⟨rfl, [], [], rfl, List.nodup_nil, by simp; omega, fun s => by simp⟩ ?_ ?_
  · simp [rdV, r_looked_at (n := n + 1) j h]
  · rintro J hJ b x us ρ ⟨rfl, ks, vs, rfl, nd, hl, hm⟩
    rw [List.length_cons] at hl
    have pk := putB_K (ks.map Sum.inr) vs (.str x) (.inr x) (.bl true) rfl (by rw [List.length_map]; omega)
    simp [rdV, pk, wipeR]
    refine hJ _ _ _ ⟨rfl, ?_⟩
    unfold putL
    by_cases c : x ∈ ks
    · rw [if_pos (List.mem_map.mpr ⟨_, c, rfl⟩)]
      refine ⟨ks, _, rfl, nd, by omega, fun s => ?_⟩
      rw [hm, List.mem_cons]
      constructor
      · rintro (h | rfl | h)
        · exact .inl h
        · exact .inl c
        · exact .inr h
      · rintro (h | h)
        · exact .inl h
        · exact .inr (.inr h)
    · rw [if_neg (fun z => by obtain ⟨y, hy, e⟩ := List.mem_map.mp z; cases e; exact c hy)]
      refine ⟨ks ++ [x], vs ++ [.bl true], by simp, ?_, by simp; omega, fun s => ?_⟩
      · rw [List.nodup_append]
        refine ⟨nd, by simp, fun a ha b hb e => ?_⟩
        rw [List.mem_singleton] at hb
        subst hb e
        exact c ha
      · rw [hm, List.mem_cons, List.mem_append, List.mem_singleton, or_assoc]
  · rintro b ρ ⟨rfl, ks, vs, rfl, nd, hl, hm⟩
    have so := sortKD_ok ks vs (by simp at hl; omega)
    have e := sortT_dd (ks := ks) (cs := j.codes) nd fun k => by simpa using (hm k).symm
    simp [backR, so, e]
theorem r_is_clear_by (j : Cj) (h : j.Ok) : (gs dfs (n + 5)).dD n_is_clear_by [j.D] = .ok (.bl (clear j)) := by
  show endD (evSs (gs dfs (n + 4)) b_is_clear_by [.va j.D, .un, .un]) = _
  have w1 := h.w1
  have cl := codes_len j
  have dc := dict_codes (gs dfs (n + 4)) j.codes (evI (gs dfs (n + 4)) (.sq (.var 1))) 2 (by omega) (by omega) [.va j.D, .va (.lst (j.codes.map D.str)), .un] rfl (by simp [rdV]) rfl
  refine endD_wp ?_
  simp [b_is_clear_by, rdV, r_looked_at j h]
  refine dc.imp ?_
  rintro b ρ ⟨rfl, ks, vs, rfl, nd, hm⟩
  have kl : (ks.length : Int) = (dd j.codes).length := by
    have := (sortT_dd (cs := j.codes) nd hm)
    have l := congrArg List.length this
    rw [(sortT_perm _).length_eq, (sortT_perm _).length_eq] at l
    omega
  have ln : b1 .len (.dK (ks.map Sum.inr) vs) = some (.int ks.length) := by
    show some (D.int ((ks.map Sum.inr).length : Nat)) = _
    rw [List.length_map]
  simp [rdL, ln, kl]
  unfold clear
  rw [Bool.eq_iff_iff, beq_iff_eq, decide_eq_true_eq, ← dd_len_eq]
  omega
theorem r_is_clear (j : Cj) (h : j.Ok) : (gs dfs (n + 6)).dD n_is_clear [j.D] = .ok (.bl (clear j)) := by
  show endD (evSs (gs dfs (n + 5)) b_is_clear [.va j.D]) = _
  simp [b_is_clear, rdV, r_check_judge j h, r_is_clear_by j h]
theorem r_most (j : Cj) (h : j.Ok) : (gs dfs (n + 6)).dD n_most_shows [j.D] = if clear j = true then .ok (.int j.wi) else .err 2 := by
  show endD (evSs (gs dfs (n + 5)) b_most_shows [.va j.D]) = _
  cases c : clear j <;> simp [b_most_shows, rdV, rdL, r_check_judge j h, r_is_clear_by j h, c, ix_c2]
/-- the beat -/
theorem r_beat (j : Cj) (h : j.Ok) (ws : List Nat) (h2 : 2 ≤ ws.length) (h10 : ws.length ≤ 10) : (gs dfs (n + 6)).dD n_beat_found [j.D, .lst (ws.map (cdS j.k))] = .ok (match j.beat ws with | none => .non | some m => .tup [.int m, (j.mv (m + (ws.length : Int))).D]) := by
  have un : ∀ x y : D, (gs dfs (n + 6)).dD n_beat_found [x, y] = endD (evSs (gs dfs (n + 5)) b_beat_found [.va x, .va y, .un, .un, .un, .un, .un, .un, .un]) := fun _ _ => rfl
  rw [un]
  have s0 := h.s0
  have s1 := h.s1
  have w0 := h.w0
  have w1 := h.w1
  have d0 := h.d0
  have d1 := h.d1
  have kd := h.k.d1
  have l2 : (2 : Int) ≤ (ws.length : Int) := by omega
  have l10 : (ws.length : Int) ≤ 10 := by omega
  have hc : compR (.nm 7) (evJ (gs dfs (n + 5)) (.sq (.var 1))) (evC (gs dfs (n + 5)) .no) (evE (gs dfs (n + 5)) (.call n_are_figures 2 (.cons (.var 7) (.cons (.ix (.ixV 0 (.con (.int 0))) (.con (.int 3))) .nil)))) [7] [.va j.D, .va (.lst (ws.map (cdS j.k))), .un, .un, .un, .un, .un, .un, .un] = .ok (ws.map fun _ => .bl true) [.va j.D, .va (.lst (ws.map (cdS j.k))), .un, .un, .un, .un, .un, .un, .un] := by
    refine compR_all (f := cdS j.k) (ρ1 := [.va j.D, .va (.lst (ws.map (cdS j.k))), .un, .un, .un, .un, .un, .un, .un]) _ ws ?_ rfl rfl fun w _ => ?_
    · simp [evJ, rdV, fewI]; omega
    · have f := r_are_figures (n := n + 4) j.k.d w (by omega)
      exact ⟨[.va j.D, .va (.lst (ws.map (cdS j.k))), .un, .un, .un, .un, .un, .va (cdS j.k w), .un], by simp [wipeR], by simp, [.va j.D, .va (.lst (ws.map (cdS j.k))), .un, .un, .un, .un, .un, .va (cdS j.k w), .un], by simp [rdV, rdL, ix_c0, ix_k3, cdS, f], rfl⟩
  refine endD_wp ?_
  simp [b_beat_found, rdV, rdL, r_check_judge j h, isiD, l2, l10, hc, all_T, tup4c]
  rw [rng_2 _ _ ⟨by omega, by omega, by omega, by omega⟩, nums_rgI, show (j.st + j.wd + 1 - j.st).toNat = j.wd.toNat + 1 by omega]
  simp
  refine wp_forUL (f := D.int) (fun us ρ => ρ = [.va j.D, .va (.lst (ws.map (cdS j.k))), .un, .va j.k.D, .va (.int j.st), .va (.int j.wi), .va (.int j.wd), .un, .un] ∧ (∀ x ∈ us, x ∈ rgI j.st (j.wd.toNat + 1)) ∧ (us.filter (rowB j.k ws)).head? = j.beat ws) ⟨_, ⟨rfl, fun _ h => h, rfl⟩, by simp⟩ ?_ ?_
  · rintro J uJ hJ x us ρ ⟨rfl, hu, e⟩
    have xb := mem_rgI.mp (hu x List.mem_cons_self)
    have hc2 : compR (.tup [8, 7]) (evJ (gs dfs (n + 5)) (.enum (.var 1))) (evC (gs dfs (n + 5)) .no) (evE (gs dfs (n + 5)) (.cmp .Eq (.call n_code_by 2 (.cons (.var 3) (.cons (.bin .Add (.var 2) (.var 8)) .nil))) (.var 7))) [8, 7]
        [.va j.D, .va (.lst (ws.map (cdS j.k))), .va (.int x), .va j.k.D, .va (.int j.st), .va (.int j.wi), .va (.int j.wd), .un, .un] = .ok ((List.range ws.length).map fun (i : Nat) => .bl (decide (j.k.s (x + (i : Int)) = dg j.k.d (ws.getD i 0))))
        [.va j.D, .va (.lst (ws.map (cdS j.k))), .va (.int x), .va j.k.D, .va (.int j.st), .va (.int j.wi), .va (.int j.wd), .un, .un] := by
      refine compR_all (f := fun i : Nat => .tup [.int (i : Int), cdS j.k (ws.getD i 0)]) (ρ1 := [.va j.D, .va (.lst (ws.map (cdS j.k))), .va (.int x), .va j.k.D, .va (.int j.st), .va (.int j.wi), .va (.int j.wd), .un, .un]) _ (List.range ws.length) ?_ rfl rfl fun i hi => ?_
      · simp [evJ, rdV, mapIdx_codes, fewI]; omega
      · have hi := List.mem_range.mp hi
        exact ⟨[.va j.D, .va (.lst (ws.map (cdS j.k))), .va (.int x), .va j.k.D, .va (.int j.st), .va (.int j.wi), .va (.int j.wd), .va (cdS j.k (ws.getD i 0)), .va (.int (i : Int))], by simp [wipeR], by simp, [.va j.D, .va (.lst (ws.map (cdS j.k))), .va (.int x), .va j.k.D, .va (.int j.st), .va (.int j.wi), .va (.int j.wd), .va (cdS j.k (ws.getD i 0)), .va (.int (i : Int))], by simp [rdV, r_code (n := n + 2) j.k h.k (x + (i : Int)) ⟨by omega, by omega⟩, cdS, cmp_eqSx], rfl⟩
    have ap := all_P (List.range ws.length) fun (i : Nat) => decide (j.k.s (x + (i : Int)) = dg j.k.d (ws.getD i 0))
    rw [show ((List.range ws.length).all fun (i : Nat) => decide (j.k.s (x + (i : Int)) = dg j.k.d (ws.getD i 0))) = rowB j.k ws x from rfl] at ap
    generalize ((List.range ws.length).map fun (i : Nat) => D.bl (decide (j.k.s (x + (i : Int)) = dg j.k.d (ws.getD i 0)))) = BS at hc2 ap
    simp [l1_beat_found, hc2, ap]
    cases hp : rowB j.k ws x with
    | true =>
      rw [List.filter_cons_of_pos hp] at e
      simp [rdV, rdL, r_moved, ← e]
    | false =>
      rw [List.filter_cons_of_neg (by simp [hp])] at e
      simp
      exact hJ _ _ _ ⟨rfl, fun y hy => hu y (List.mem_cons_of_mem _ hy), e⟩ (by simp)
  · rintro ρ ⟨rfl, _, e⟩
    simp at e
    simp [← e]
end
end Ev.W

end
section
set_option maxHeartbeats 1000000
namespace Ev.W
open PySem PySem.Spec PyProof.Rows L2 Ev
section
variable {n : Nat}
theorem r_takes_rep (k : Ky) (h : k.Ok) (x y : Int) (hx : 0 ≤ x ∧ x < 2 ^ 63) (hy : 0 ≤ y ∧ y < 2 ^ 63) (hs : k.s x = k.s y) : (gs dfs (n + 5)).dD n_takes_repeat [k.D, .int x, .int y] = .ok (.bl (decide (x < y))) := by
  have un : ∀ x y z : D, (gs dfs (n + 5)).dD n_takes_repeat [x, y, z] = endD (evSs (gs dfs (n + 4)) b_takes_repeat [.va x, .va y, .va z, .un, .un, .un, .un, .un, .un]) := fun _ _ _ => rfl
  rw [un]
  obtain ⟨o1, o2, o3, o4⟩ := val_ops k h x hx
  obtain ⟨q1, q2, q3, q4⟩ := val_ops k h y hy
  have d1 := h.d1
  have pw := r_power (n := n + 3) 10 k.d ⟨by omega, by omega⟩ (by omega)
  rw [p10 k.d (by omega)] at pw
  have p0 : 0 < 10 ^ k.d := Nat.pow_pos (by decide)
  have ex : (k.a * x * x * x + k.b * x + k.c) % 1000003 = ((k.w x : Nat) : Int) := k.vw x
  have ey : (k.a * y * y * y + k.b * y + k.c) % 1000003 = ((k.w y : Nat) : Int) := k.vw y
  have eq : (k.w x) % 10 ^ k.d = (k.w y) % 10 ^ k.d := dg_eq.mp hs
  generalize 10 ^ k.d = P at *
  have om := fun v : Nat => op_mod (v : Int) (P : Int) (by omega)
  have eq2 : (k.w x : Int) % (P : Int) = (k.w y : Int) % (P : Int) := by exact_mod_cast congrArg (fun z : Nat => (z : Int)) eq
  have i0 : ∀ a b : D, ixD (.lst [a, b]) (.int 0) = some a := fun _ _ => rfl
  have i1 : ∀ a b : D, ixD (.lst [a, b]) (.int 1) = some b := fun _ _ => rfl
  by_cases c : x < y
  · have c2 : ¬ (y ≤ x) := by omega
    simp [b_takes_repeat, rdV, rdL, r_is_keyC k h, hx.1, hy.1, c, c2, tup4, compR_u, compL_c, evJ, wipeR, backR, fewI, o1, o2, o3, o4, q1, q2, q3, q4, op_mod _ 1000003 (by omega), ex, ey, pw, om, i0, i1, eq2]
  · have c2 : y ≤ x := by omega
    simp [b_takes_repeat, rdV, rdL, r_is_keyC k h, hx.1, hy.1, c, c2]
theorem r_need (j : Cj) (h : j.Ok) : (gs dfs (n + 4)).dD n_need_judge [j.D] = .ok .non := by
  show endD (evSs (gs dfs (n + 3)) b_need_judge [.va j.D]) = _
  simp [b_need_judge, rdV, rdL, len_c, isi_c, ix_c0, ix_c1, ix_c2, ix_c3, r_is_keyC j.k h.k, h.s0, h.w0, h.w1, h.d0, h.d1]
theorem r_takes_met (j : Cj) (h : j.Ok) (w : Nat) (x : Int) : (gs dfs (n + 5)).dD n_takes_met [j.D, cdS j.k w, .int x] = .ok (.bl (decide (j.met w = some x))) := by
  have un : ∀ x y z : D, (gs dfs (n + 5)).dD n_takes_met [x, y, z] = endD (evSs (gs dfs (n + 4)) b_takes_met [.va x, .va y, .va z, .un, .un, .un, .un, .un]) := fun _ _ _ => rfl
  rw [un]
  have s0 := h.s0
  have s1 := h.s1
  have w0 := h.w0
  have w1 := h.w1
  have ic := r_is_code (n := n + 3) j.k h.k w
  by_cases c : j.st ≤ x ∧ x ≤ j.st + j.wi
  · obtain ⟨c1, c2⟩ := c
    have hc : compR (.nm 7) (evJ (gs dfs (n + 4)) (.r2 (.var 4) (.var 2))) (evC (gs dfs (n + 4)) .no) (evE (gs dfs (n + 4)) (.call n_shows 3 (.cons (.var 3) (.cons (.var 7) (.cons (.var 1) .nil))))) [7] [.va j.D, .va (.str (Sx (dg j.k.d w))), .va (.int x), .va j.k.D, .va (.int j.st), .va (.int j.wi), .va (.int j.wd), .un] = .ok ((rgI j.st (x - j.st).toNat).map fun y => .bl (hasB j.k w y)) [.va j.D, .va (.str (Sx (dg j.k.d w))), .va (.int x), .va j.k.D, .va (.int j.st), .va (.int j.wi), .va (.int j.wd), .un] := by
      refine compR_all (f := D.int) (ρ1 := [.va j.D, .va (.str (Sx (dg j.k.d w))), .va (.int x), .va j.k.D, .va (.int j.st), .va (.int j.wi), .va (.int j.wd), .un]) _ (rgI j.st (x - j.st).toNat) ?_ rfl rfl fun y hy => ?_
      · simp [evJ, rdV]
        rw [rng_2 _ _ ⟨by omega, by omega, by omega, by omega⟩, nums_rgI]
        simp
        rw [fewI, if_pos (by rw [List.length_map, rgI_len]; omega)]
      · have hy := mem_rgI.mp hy
        exact ⟨[.va j.D, .va (.str (Sx (dg j.k.d w))), .va (.int x), .va j.k.D, .va (.int j.st), .va (.int j.wi), .va (.int j.wd), .va (.int y)], by simp [wipeR], by simp, [.va j.D, .va (.str (Sx (dg j.k.d w))), .va (.int x), .va j.k.D, .va (.int j.st), .va (.int j.wi), .va (.int j.wd), .va (.int y)], by simp [rdV, r_shows (n := n + 2) j.k h.k y ⟨by omega, by omega⟩ w, hasB], rfl⟩
    have sx := r_shows (n := n + 2) j.k h.k x ⟨by omega, by omega⟩ w
    have tf := takes_first (p := hasB j.k w) (a := j.st) (x := x) (n := j.wi.toNat + 1) c1 (by omega)
    have ap := any_P (rgI j.st (x - j.st).toNat) (hasB j.k w)
    have nb : ∀ b : Bool, notV (.bl b) = some (.bl !b) := fun _ => rfl
    rw [show decide (j.k.s x = dg j.k.d w) = hasB j.k w x from rfl] at sx
    simp only [cdS]
    simp [b_takes_met, rdV, rdL, r_need (n := n) j h, tup4c, ic, c1, c2, sx, hc, ap]
    cases hp : hasB j.k w x with
    | true =>
      rw [hp, Bool.true_and] at tf
      simp [tf, Cj.met]
    | false =>
      rw [hp, Bool.false_and] at tf
      simp
      exact of_decide_eq_false tf.symm
  · have nm : ¬ (j.met w = some x) := fun e => by
      have := met_mem e w0
      exact c ⟨this.1, this.2.1⟩
    simp only [cdS]
    by_cases c1 : j.st ≤ x
    · have c2 : ¬ (x ≤ j.st + j.wi) := fun z => c ⟨c1, z⟩
      simp [b_takes_met, rdV, rdL, r_need (n := n) j h, tup4c, ic, c1, c2, nm]
    · simp [b_takes_met, rdV, rdL, r_need (n := n) j h, tup4c, ic, c1, nm]
theorem r_fits (k : Ky) (h : k.Ok) (ws : List Nat) (x : Int) (hx : 0 ≤ x ∧ x ≤ 2 ^ 62) (hl : ws.length ≤ 1000) : (gs dfs (n + 3)).dD n_fits [k.D, .int x, .lst (ws.map (cdS k))] = .ok (.bl (rowB k ws x)) := by
  have un : ∀ x y z : D, (gs dfs (n + 3)).dD n_fits [x, y, z] = endD (evSs (gs dfs (n + 2)) b_fits [.va x, .va y, .va z, .un, .un]) := fun _ _ _ => rfl
  rw [un]
  have hc : compR (.tup [3, 4]) (evJ (gs dfs (n + 2)) (.enum (.var 2))) (evC (gs dfs (n + 2)) .no) (evE (gs dfs (n + 2)) (.call n_shows 3 (.cons (.var 0) (.cons (.bin .Add (.var 1) (.var 3)) (.cons (.var 4) .nil))))) [3, 4]
      [.va k.D, .va (.int x), .va (.lst (ws.map (cdS k))), .un, .un] = .ok ((List.range ws.length).map fun (i : Nat) => .bl (decide (k.s (x + (i : Int)) = dg k.d (ws.getD i 0)))) [.va k.D, .va (.int x), .va (.lst (ws.map (cdS k))), .un, .un] := by
    refine compR_all (f := fun i : Nat => .tup [.int (i : Int), cdS k (ws.getD i 0)]) (ρ1 := [.va k.D, .va (.int x), .va (.lst (ws.map (cdS k))), .un, .un]) _ (List.range ws.length) ?_ rfl rfl fun i hi => ?_
    · simp [evJ, rdV, mapIdx_codes, fewI]; omega
    · have hi := List.mem_range.mp hi
      have sh := r_shows (n := n) k h (x + (i : Int)) ⟨by omega, by omega⟩ (ws.getD i 0)
      exact ⟨[.va k.D, .va (.int x), .va (.lst (ws.map (cdS k))), .va (.int (i : Int)), .va (cdS k (ws.getD i 0))], by simp [wipeR], by simp, [.va k.D, .va (.int x), .va (.lst (ws.map (cdS k))), .va (.int (i : Int)), .va (cdS k (ws.getD i 0))], by
        generalize ws.getD i 0 = w at *
        simp [rdV, cdS, sh], rfl⟩
  have ap := all_P (List.range ws.length) fun (i : Nat) => decide (k.s (x + (i : Int)) = dg k.d (ws.getD i 0))
  rw [show ((List.range ws.length).all fun (i : Nat) => decide (k.s (x + (i : Int)) = dg k.d (ws.getD i 0))) = rowB k ws x from rfl] at ap
  generalize ((List.range ws.length).map fun (i : Nat) => D.bl (decide (k.s (x + (i : Int)) = dg k.d (ws.getD i 0)))) = BS at hc ap
  simp [b_fits, hc, ap]
theorem r_takes_beat (j : Cj) (h : j.Ok) (ws : List Nat) (h2 : 2 ≤ ws.length) (h10 : ws.length ≤ 10) (x : Int) : (gs dfs (n + 5)).dD n_takes_beat [j.D, .lst (ws.map (cdS j.k)), .int x] = .ok (.bl (decide (j.beat ws = some x))) := by
  have un : ∀ x y z : D, (gs dfs (n + 5)).dD n_takes_beat [x, y, z] = endD (evSs (gs dfs (n + 4)) b_takes_beat [.va x, .va y, .va z, .un, .un, .un, .un, .un, .un]) := fun _ _ _ => rfl
  rw [un]
  have s0 := h.s0
  have s1 := h.s1
  have w0 := h.w0
  have d0 := h.d0
  have d1 := h.d1
  have l2 : (2 : Int) ≤ (ws.length : Int) := by omega
  have l10 : (ws.length : Int) ≤ 10 := by omega
  have hc1 : compR (.nm 7) (evJ (gs dfs (n + 4)) (.sq (.var 1))) (evC (gs dfs (n + 4)) .no) (evE (gs dfs (n + 4)) (.call n_is_code_checkcodes 2 (.cons (.var 3) (.cons (.var 7) .nil)))) [7] [.va j.D, .va (.lst (ws.map (cdS j.k))), .va (.int x), .va j.k.D, .va (.int j.st), .va (.int j.wi), .va (.int j.wd), .un, .un] = .ok (ws.map fun _ => .bl true) [.va j.D, .va (.lst (ws.map (cdS j.k))), .va (.int x), .va j.k.D, .va (.int j.st), .va (.int j.wi), .va (.int j.wd), .un, .un] := by
    refine compR_all (f := cdS j.k) (ρ1 := [.va j.D, .va (.lst (ws.map (cdS j.k))), .va (.int x), .va j.k.D, .va (.int j.st), .va (.int j.wi), .va (.int j.wd), .un, .un]) _ ws ?_ rfl rfl fun w _ => ?_
    · simp [evJ, rdV, fewI]; omega
    · have ic := r_is_code (n := n + 3) j.k h.k w
      exact ⟨[.va j.D, .va (.lst (ws.map (cdS j.k))), .va (.int x), .va j.k.D, .va (.int j.st), .va (.int j.wi), .va (.int j.wd), .va (cdS j.k w), .un], by simp [wipeR], by simp, [.va j.D, .va (.lst (ws.map (cdS j.k))), .va (.int x), .va j.k.D, .va (.int j.st), .va (.int j.wi), .va (.int j.wd), .va (cdS j.k w), .un], by simp [rdV, cdS, ic], rfl⟩
  by_cases c : j.st ≤ x ∧ x ≤ j.st + j.wd
  · obtain ⟨c1, c2⟩ := c
    have hc : compR (.nm 8) (evJ (gs dfs (n + 4)) (.r2 (.var 4) (.var 2))) (evC (gs dfs (n + 4)) .no) (evE (gs dfs (n + 4)) (.call n_fits 3 (.cons (.var 3) (.cons (.var 8) (.cons (.var 1) .nil))))) [8] [.va j.D, .va (.lst (ws.map (cdS j.k))), .va (.int x), .va j.k.D, .va (.int j.st), .va (.int j.wi), .va (.int j.wd), .un, .un] = .ok ((rgI j.st (x - j.st).toNat).map fun y => .bl (rowB j.k ws y)) [.va j.D, .va (.lst (ws.map (cdS j.k))), .va (.int x), .va j.k.D, .va (.int j.st), .va (.int j.wi), .va (.int j.wd), .un, .un] := by
      refine compR_all (f := D.int) (ρ1 := [.va j.D, .va (.lst (ws.map (cdS j.k))), .va (.int x), .va j.k.D, .va (.int j.st), .va (.int j.wi), .va (.int j.wd), .un, .un]) _ (rgI j.st (x - j.st).toNat) ?_ rfl rfl fun y hy => ?_
      · simp [evJ, rdV]
        rw [rng_2 _ _ ⟨by omega, by omega, by omega, by omega⟩, nums_rgI]
        simp
        rw [fewI, if_pos (by rw [List.length_map, rgI_len]; omega)]
      · have hy := mem_rgI.mp hy
        exact ⟨[.va j.D, .va (.lst (ws.map (cdS j.k))), .va (.int x), .va j.k.D, .va (.int j.st), .va (.int j.wi), .va (.int j.wd), .un, .va (.int y)], by simp [wipeR], by simp, [.va j.D, .va (.lst (ws.map (cdS j.k))), .va (.int x), .va j.k.D, .va (.int j.st), .va (.int j.wi), .va (.int j.wd), .un, .va (.int y)], by simp [rdV, r_fits (n := n + 1) j.k h.k ws y ⟨by omega, by omega⟩ (by omega)], rfl⟩
    have sx := r_fits (n := n + 1) j.k h.k ws x ⟨by omega, by omega⟩ (by omega)
    have tf := takes_first (p := rowB j.k ws) (a := j.st) (x := x) (n := j.wd.toNat + 1) c1 (by omega)
    have ap := any_P (rgI j.st (x - j.st).toNat) (rowB j.k ws)
    simp [b_takes_beat, rdV, rdL, r_need (n := n) j h, tup4c, isiD, l2, l10, hc1, all_T, c1, c2, sx, hc, ap]
    cases hp : rowB j.k ws x with
    | true =>
      rw [hp, Bool.true_and] at tf
      simp [tf, Cj.beat]
    | false =>
      rw [hp, Bool.false_and] at tf
      simp
      exact of_decide_eq_false tf.symm
  · have nm : ¬ (j.beat ws = some x) := fun e => by
      have := beat_mem e (by omega)
      exact c ⟨this.1, this.2.1⟩
    by_cases c1 : j.st ≤ x
    · have c2 : ¬ (x ≤ j.st + j.wd) := fun z => c ⟨c1, z⟩
      simp [b_takes_beat, rdV, rdL, r_need (n := n) j h, tup4c, isiD, l2, l10, hc1, all_T, c1, c2, nm]
    · simp [b_takes_beat, rdV, rdL, r_need (n := n) j h, tup4c, isiD, l2, l10, hc1, all_T, c1, nm]
end
end Ev.W

end
section
set_option maxHeartbeats 1000000
namespace Ev.W
open PySem PySem.Spec PyProof.Rows L2 Ev
theorem rep12 : op2 .Mult (.str "0") (.int 12) = some (.str (Sx (List.replicate 12 48))) := by
  show some (D.str (repS "0" 12)) = _
  rw [show repS "0" 12 = Sx (List.replicate 12 48) by decide +kernel]
theorem cmp_neN (xs : List Int) : cmpD .NotEq (.lst (xs.map D.int)) (.lst []) = some (!decide (xs = [])) := cmp_neIL xs []
theorem strs_ix (cs : List Str) (i : Nat) (h : i < cs.length) : ixD (.lst (cs.map D.str)) (.int (i : Int)) = some (.str cs[i]) := by
  refine ixD_ls _ i _ ?_
  rw [List.getElem?_map, List.getElem?_eq_getElem h]
  rfl
def repD (low : Int) : Option (Nat × Nat) → D
  | none => .non
  | some (i, k) => .tup [.int (low + (i : Int)), .int (low + (k : Int))]
theorem sm_rep (k : Nat) (low : Int) (o : Option (Nat × Nat)) : sm (k + 1) (repD low o) := by
  cases o with
  | none => trivial
  | some q => exact sm_tup k _ (by simp) (by simp [sm_int])
section
variable {n : Nat}
theorem r_law_value (k : Ky) (h : k.Ok) (x : Int) (hx : 0 ≤ x ∧ x < 2 ^ 63) : (gs dfs (n + 1)).dD n__law_value [k.D, .int x] = .ok (.int (k.w x : Int)) := by
  show endD (evSs (gs dfs n) b__law_value [.va k.D, .va (.int x)]) = _
  obtain ⟨o1, o2, o3, o4⟩ := val_ops k h x hx
  have i0 : ixD k.D (.int 0) = some (.int k.a) := rfl
  have i1 : ixD k.D (.int 1) = some (.int k.b) := rfl
  have i2 : ixD k.D (.int 2) = some (.int k.c) := rfl
  rw [← k.vw]
  simp [b__law_value, rdV, rdL, i0, i1, i2, o1, o2, o3, o4, op_mod _ 1000003 (by omega), Ky.v]
theorem numL_w (k : Ky) (x : Int) : (TL.numL (k.w x)).length ≤ 7 := TL.numL_len (by decide) (Nat.lt_of_lt_of_le (k.w_lt x) (by decide))
theorem r_law_code (k : Ky) (h : k.Ok) (x : Int) (hx : 0 ≤ x ∧ x < 2 ^ 63) : (gs dfs (n + 2)).dD n__law_code [k.D, .int x] = .ok (.str (Sx (k.s x))) := by
  show endD (evSs (gs dfs (n + 1)) b__law_code [.va k.D, .va (.int x), .un]) = _
  have d0 := h.d0
  have d1 := h.d1
  have nl := numL_w k x
  have wl := k.w_lt x
  have st : b1 .str (.int (k.w x : Int)) = some (.str (Sx (TL.numL (k.w x)))) := b1_strN _ (Nat.lt_of_lt_of_le (show k.w x < 2 ^ 64 by omega) (Nat.pow_le_pow_right (by decide) (by decide)))
  have ca := op_catS (List.replicate 12 48) (TL.numL (k.w x)) (by rw [List.length_replicate]; omega)
  have ld := last_dg k.d 12 (k.w x) (by omega)
  have r12 := rep12
  have rl : (List.replicate 12 48).length = 12 := List.length_replicate
  generalize List.replicate 12 48 = Z at *
  generalize hT : Z ++ TL.numL (k.w x) = T at ca ld
  have tl : T.length = 12 + (TL.numL (k.w x)).length := by rw [← hT, List.length_append, rl]
  have le := b1_len_str T (by omega)
  have sl := sl_strF T (T.length - k.d) (by omega)
  rw [ld, show ((T.length - k.d : Nat) : Int) = (T.length : Int) - (k.d : Int) by omega] at sl
  simp [b__law_code, rdV, rdL, r12, r_law_value k h x hx, st, ca, le, ix_k3, partD, sl, Ky.s]
theorem r_law_key (ns : List Int) : ∃ (k : Ky) (ms : List Int), (gs dfs (n + 3)).dM n__law_key (ns.map D.int) [] = .ok (k.D, ms.map D.int) ∧ k.Ok := by
  have un : (gs dfs (n + 3)).dM n__law_key (ns.map D.int) [] = endM (evSs (gs dfs (n + 2)) b__law_key [.ow true (.lst (ns.map D.int)), .un, .un]) := rfl
  rw [un]
  obtain ⟨d, n1, e1, d0, d1⟩ := r_takeX (n := n + 1) ns 6 (by omega)
  obtain ⟨s, n2, e2, hs⟩ := r_pickX (n := n) n1 [.int 2, .int 10, .int 1000003] (by simp) (by simp)
  obtain ⟨sm, rfl, s0, s1⟩ : ∃ m : Int, s = .int m ∧ 1 ≤ m ∧ m ≤ 1000003 := by
    simp only [List.mem_cons, List.not_mem_nil, or_false] at hs
    rcases hs with rfl | rfl | rfl
    · exact ⟨_, rfl, by omega, by omega⟩
    · exact ⟨_, rfl, by omega, by omega⟩
    · exact ⟨_, rfl, by omega, by omega⟩
  obtain ⟨a, n3, e3, a0, a1⟩ := r_takeX (n := n + 1) n2 sm (by omega)
  obtain ⟨a', n4, e4, ha⟩ := r_pickX (n := n) n3 [.int 0, .int a] (by simp) (by simp)
  obtain ⟨av, rfl, av0, av1⟩ : ∃ m : Int, a' = .int m ∧ 0 ≤ m ∧ m < 1000003 := by
    simp only [List.mem_cons, List.not_mem_nil, or_false] at ha
    rcases ha with rfl | rfl
    · exact ⟨_, rfl, by omega, by omega⟩
    · exact ⟨_, rfl, by omega, by omega⟩
  obtain ⟨b, n5, e5, b0, b1⟩ := r_takeX (n := n + 1) n4 sm (by omega)
  obtain ⟨c, n6, e6, c0, c1⟩ := r_takeX (n := n + 1) n5 1000003 (by omega)
  refine ⟨⟨av, b, c, (1 + d).toNat⟩, n6, ?_, ⟨av0, av1, b0, by show b < 1000003; omega, c0, c1, by show 1 ≤ (1 + d).toNat; omega, by show (1 + d).toNat ≤ 6; omega⟩⟩
  have kd : (Ky.D ⟨av, b, c, (1 + d).toNat⟩) = .tup [.int av, .int b, .int c, .int (1 + d)] := by
    show D.tup [.int av, .int b, .int c, .int ((1 + d).toNat : Int)] = _
    rw [Int.toNat_of_nonneg (by omega)]
  rw [kd]
  simp [b__law_key, rdV, rdO, e1, e2, e3, e4, e5, e6]
theorem r_law_first (cs : List Str) (low : Int) (hl : cs.length ≤ 5000) : (gs dfs (n + 1)).dD n__law_first_repeat [.lst (cs.map D.str), .int low] = .ok (repD low (frep [] cs)) := by
  have un : ∀ x y : D, (gs dfs (n + 1)).dD n__law_first_repeat [x, y] = endD (evSs (gs dfs n) b__law_first_repeat [.va x, .va y, .un, .un]) := fun _ _ => rfl
  rw [un]
  refine endD_wp ?_
  simp [b__law_first_repeat, rdL, rng1n cs.length (by omega)]
  refine wp_forU (fun i ρ => ∃ pre : List Str, ρ = [.va (.lst (cs.map D.str)), .va (.int low), .ow false (.dK (pre.map Sum.inr) ((rgI (0 + ((0 : Nat) : Int)) pre.length).map D.int)), .un] ∧ pre = cs.take i ∧ i ≤ cs.length ∧ frep pre (cs.drop i) = frep [] cs)
    ⟨_, ⟨[], rfl, by simp, by omega, rfl⟩, by simp [rgI]⟩ ?_ ?_
  · rintro J uJ hJ i ρ hi ⟨pre, rfl, hp, _, e⟩
    have pl : pre.length = i := by rw [hp, List.length_take]; omega
    have ix := strs_ix cs i hi
    rw [List.drop_eq_getElem_cons hi, frep] at e
    have ht : cs.take (i + 1) = pre ++ [cs[i]] := by rw [hp, List.take_append_getElem hi]
    generalize cs[i] = c at *
    have kd : keyD (.str c) = some (Sum.inr c) := rfl
    by_cases m : c ∈ pre
    · rw [if_pos m] at e
      have lk := lkp_at 0 pre c 0 m
      have ii : isinD false (.str c) (.dK (pre.map Sum.inr) ((rgI (0 + ((0 : Nat) : Int)) pre.length).map D.int)) = some true := by
        rw [isin_K kd, lk]; rfl
      have ixx : ixD (.dK (pre.map Sum.inr) ((rgI (0 + ((0 : Nat) : Int)) pre.length).map D.int)) (.str c) = some (.int ((pre.idxOf c : Nat))) := by
        rw [ix_K kd, lk]
        congr 2
        omega
      simp only [show (0 : Int) + ((0 : Nat) : Int) = 0 by omega] at ii ixx ⊢
      rw [pl] at e
      generalize ((rgI 0 pre.length).map D.int) = V at *
      simp [l1__law_first_repeat, rdV, rdL, ix, ii, ixx, ← e, repD]
    · rw [if_neg m] at e
      have lk := lkp_none pre ((rgI (0 + ((0 : Nat) : Int)) pre.length).map D.int) c m
      have ii : isinD false (.str c) (.dK (pre.map Sum.inr) ((rgI (0 + ((0 : Nat) : Int)) pre.length).map D.int)) = some false := by
        rw [isin_K kd, lk]; rfl
      have pk := putB_K (pre.map Sum.inr) ((rgI (0 + ((0 : Nat) : Int)) pre.length).map D.int) (.str c) (.inr c) (.int (i : Int)) rfl (by rw [List.length_map]; omega)
      unfold putL at pk
      rw [if_neg (fun z => by obtain ⟨q, hq, e⟩ := List.mem_map.mp z; cases e; exact m hq)] at pk
      dsimp only at pk
      simp only [show (0 : Int) + ((0 : Nat) : Int) = 0 by omega] at ii pk ⊢
      simp [l1__law_first_repeat, rdV, rdL, ix, ii, rdB_of (ρ := [.va (.lst (cs.map D.str)), .va (.int low), .ow false (.dK (pre.map Sum.inr) ((rgI 0 pre.length).map D.int)), .va (.int (i : Int))]) (i := 2) rfl, pk]
      exact hJ _ _ _ ⟨pre ++ [c], rfl, ht.symm, by omega, e⟩ (by simp [rgI_succ, pl])
  · rintro ρ ⟨pre, rfl, hp, _, e⟩
    rw [List.drop_length, frep] at e
    simp [← e, repD]
theorem r_law_met (j : Cj) (h : j.Ok) (w : Nat) : (gs dfs (n + 3)).dD n__law_met [j.D, cdS j.k w] = .ok (oI (j.met w)) := by
  have un : ∀ x y : D, (gs dfs (n + 3)).dD n__law_met [x, y] = endD (evSs (gs dfs (n + 2)) b__law_met [.va x, .va y, .un, .un, .un, .un, .un, .un]) := fun _ _ => rfl
  rw [un]
  have s0 := h.s0
  have s1 := h.s1
  have w0 := h.w0
  have w1 := h.w1
  have hc : compR (.nm 7) (evJ (gs dfs (n + 2)) (.r2 (.var 4) (.bin .Add (.bin .Add (.var 4) (.var 5)) (.con (.int 1))))) (evC (gs dfs (n + 2)) (.one (.cmp .Eq (.call n__law_code 2 (.cons (.var 3) (.cons (.var 7) .nil))) (.var 1)))) (evE (gs dfs (n + 2)) (.var 7)) [7]
      [.va j.D, .va (cdS j.k w), .un, .va j.k.D, .va (.int j.st), .va (.int j.wi), .va (.int j.wd), .un] = .ok (((rgI j.st (j.wi.toNat + 1)).filter (hasB j.k w)).map D.int) [.va j.D, .va (cdS j.k w), .un, .va j.k.D, .va (.int j.st), .va (.int j.wi), .va (.int j.wd), .un] := by
    refine compR_ok (f := D.int) (ρ1 := [.va j.D, .va (cdS j.k w), .un, .va j.k.D, .va (.int j.st), .va (.int j.wi), .va (.int j.wd), .un]) (hasB j.k w) D.int (rgI j.st (j.wi.toNat + 1)) ?_ rfl rfl fun x hx => ?_
    · simp [evJ, rdV]
      rw [rng_2 _ _ ⟨by omega, by omega, by omega, by omega⟩, nums_rgI, show (j.st + j.wi + 1 - j.st).toNat = j.wi.toNat + 1 by omega]
      simp
      rw [fewI, if_pos (by rw [List.length_map, rgI_len]; omega)]
    · have xb := cj_b h (m := j.wi.toNat + 1) (by omega) hx
      exact ⟨[.va j.D, .va (cdS j.k w), .un, .va j.k.D, .va (.int j.st), .va (.int j.wi), .va (.int j.wd), .va (.int x)], by simp [wipeR], by simp [rdV, r_law_code (n := n) j.k h.k x xb, cdS, cmp_eqSx, hasB],
        fun _ => ⟨[.va j.D, .va (cdS j.k w), .un, .va j.k.D, .va (.int j.st), .va (.int j.wi), .va (.int j.wd), .va (.int x)], by simp [rdV], rfl⟩, fun _ => rfl⟩
  unfold Cj.met
  generalize (rgI j.st (j.wi.toNat + 1)).filter (hasB j.k w) = F at hc ⊢
  simp [b__law_met, tup4c, rdV, hc, cmp_neN]
  cases F with
  | nil => simp
  | cons x xs => simp [rdL, head_ix]
theorem r_law_most (j : Cj) (h : j.Ok) : (gs dfs (n + 7)).dD n__law_most [j.D] = .ok (if clear j = true then .int j.wi else .non) := by
  show endD (evSs (gs dfs (n + 6)) b__law_most [.va j.D]) = _
  have m := r_most (n := n) j h
  cases c : clear j with
  | true => rw [c, if_pos rfl] at m; simp [b__law_most, rdV, m]
  | false =>
    rw [c, if_neg Bool.false_ne_true] at m
    simp [b__law_most, rdV, m]
    rfl
end
end Ev.W

end
section
set_option maxHeartbeats 1000000
namespace Ev.W
open PySem PySem.Spec PyProof.Rows L2 Ev
theorem rgI_shift (a : Int) (n : Nat) : rgI a n = (rgI 0 n).map fun k => a + k := by
  unfold rgI
  rw [List.map_map]
  apply List.map_congr_left
  intro i _
  simp
theorem v_mod (k : Ky) (n t : Int) : k.v (n + 1000003 * t) = k.v n := by
  have e : (n + 1000003 * t) % 1000003 = n % 1000003 := by omega
  unfold Ky.v
  have q : ∀ x : Int, (k.a * x * x * x + k.b * x + k.c) % 1000003 = (k.a * (x % 1000003) * (x % 1000003) * (x % 1000003) + k.b * (x % 1000003) + k.c) % 1000003 := by
    intro x
    simp [Int.add_emod, Int.mul_emod]
  rw [q (n + 1000003 * t), q n, e]
theorem s_mod (k : Ky) (n t : Int) : k.s (n + 1000003 * t) = k.s n := by unfold Ky.s Ky.w; rw [v_mod]
theorem zero1 : ("0" : Str) = Sx [48] := by decide +kernel
theorem zero4 : ("0000" : Str) = Sx (List.replicate 4 48) := by decide +kernel
theorem strs_ixR (k : Ky) (low : Int) (m i : Nat) (h : i < m) : ixD (.lst (((rgI low m).map fun y => Sx (k.s y)).map D.str)) (.int (i : Int)) = some (cdS k (k.w (low + (i : Int)))) := by
  have q := strs_ix ((rgI low m).map fun y => Sx (k.s y)) i (by rw [List.length_map, rgI_len]; exact h)
  rw [q]
  congr 2
  unfold rgI
  simp [Ky.s]
section
variable {n : Nat}
theorem r_are_keys (k : Ky) (h : k.Ok) (ns : List Int) : ∃ ms : List Int, (gs dfs (n + 8)).dM n__law_are_keys (ns.map D.int) [k.D] = .ok (.bl true, ms.map D.int) := by
  have un : (gs dfs (n + 8)).dM n__law_are_keys (ns.map D.int) [k.D] = endM (evSs (gs dfs (n + 7)) b__law_are_keys [.ow true (.lst (ns.map D.int)), .va k.D, .un, .un, .un, .un, .un, .un, .un, .un]) := rfl
  rw [un]
  obtain ⟨a, n1, e1, a0, a1⟩ := r_takeX (n := n + 6) ns 5000 (by omega)
  obtain ⟨b, n2, e2, b0, b1⟩ := r_takeX (n := n + 6) n1 99 (by omega)
  obtain ⟨ld, n3, e3, hl⟩ := r_pickX (n := n + 5) n2 [.int 0, .int a, .int (1000000000000 + b)] (by simp) (by simp)
  obtain ⟨low, rfl, l0, l1⟩ : ∃ m : Int, ld = .int m ∧ 0 ≤ m ∧ m ≤ 2000000000000 := by
    simp only [List.mem_cons, List.not_mem_nil, or_false] at hl
    rcases hl with rfl | rfl | rfl <;> exact ⟨_, rfl, by omega, by omega⟩
  obtain ⟨m', n4, e4, m0, m1⟩ := r_takeX (n := n + 6) n3 299 (by omega)
  obtain ⟨m, hm⟩ : ∃ m : Nat, (m : Int) = 1 + m' := ⟨(1 + m').toNat, by omega⟩
  obtain ⟨t, n5, e5, t0, t1⟩ := r_takeX (n := n + 6) n4 9 (by omega)
  have d0 := h.d0
  have d1 := h.d1
  have p12 : op2 .Pow (.int 10) (.int 12) = some (.int 1000000000000) := rfl
  have p9 : op2 .Pow (.int 10) (.int 9) = some (.int 1000000000) := rfl
  obtain ⟨CS, hCS⟩ : ∃ CS, CS = (rgI low m).map fun y => Sx (k.s y) := ⟨_, rfl⟩
  have cl : CS.length = m := by rw [hCS, List.length_map, rgI_len]
  have ixC : ∀ i : Nat, i < m → ixD (.lst (CS.map D.str)) (.int (i : Int)) = some (cdS k (k.w (low + (i : Int)))) := fun i hi => by rw [hCS]; exact strs_ixR k low m i hi
  have hc1 : compR (.nm 9) (evJ (gs dfs (n + 7)) (.r1 (.var 3))) (evC (gs dfs (n + 7)) .no) (evE (gs dfs (n + 7)) (.call n__law_code 2 (.cons (.var 1) (.cons (.bin .Add (.var 2) (.var 9)) .nil)))) [9]
      [.ow true (.lst (n4.map D.int)), .va k.D, .va (.int low), .va (.int (m : Int)), .un, .un, .un, .un, .un, .un] = .ok (CS.map D.str) [.ow true (.lst (n4.map D.int)), .va k.D, .va (.int low), .va (.int (m : Int)), .un, .un, .un, .un, .un, .un] := by
    rw [hCS, rgI_shift, List.map_map, List.map_map]
    refine compR_all (f := D.int) (ρ1 := [.ow true (.lst (n4.map D.int)), .va k.D, .va (.int low), .va (.int (m : Int)), .un, .un, .un, .un, .un, .un]) _ (rgI 0 m) ?_ rfl rfl fun x hx => ?_
    · simp [evJ, rdV, rng1n m (by omega), nums_rgI, fewI, rgI_len]; omega
    · have hx := mem_rgI.mp hx
      exact ⟨[.ow true (.lst (n4.map D.int)), .va k.D, .va (.int low), .va (.int (m : Int)), .un, .un, .un, .un, .un, .va (.int x)], by simp [wipeR], by simp, [.ow true (.lst (n4.map D.int)), .va k.D, .va (.int low), .va (.int (m : Int)), .un, .un, .un, .un, .un, .va (.int x)], by simp [rdV, r_law_code (n := n + 5) k h (low + x) ⟨by omega, by omega⟩], rfl⟩
  have g1 := r_codes_from (n := n + 2) k h low m l0 (by omega) (by omega)
  rw [← hCS] at g1
  have g1e := cmp_ne_same (.lst (CS.map D.str)) (sm_map 3 _ _ (by omega) fun x => sm_str _ x)
  have g2 := r_value_at (n := n + 2) k h low ⟨l0, by omega⟩
  have g3 := r_law_value (n := n + 6) k h low ⟨l0, by omega⟩
  have g4 := r_code_at (n := n + 2) k h (low + 1000003 * t) ⟨by omega, by omega⟩
  have g5 := r_law_code (n := n + 5) k h low ⟨l0, by omega⟩
  rw [s_mod] at g4
  have g4e := cmp_ne_same (.str (Sx (k.s low))) (sm_str _ _)
  have ap : op2 .Add (.lst (CS.map D.str)) (.lst [.str (Sx (k.s low))]) = some (.lst (CS.map D.str ++ [.str (Sx (k.s low))])) := by
    rw [op_catI, if_pos (by simp; omega)]
  obtain ⟨cd, n6, e6, hcd⟩ := r_pickX (n := n + 5) n5 (CS.map D.str ++ [.str (Sx (k.s low))]) (by simp) (by simp; omega)
  obtain ⟨w, rfl⟩ : ∃ w : Nat, cd = cdS k w := by
    rcases List.mem_append.mp hcd with hcd | hcd
    · obtain ⟨x, hx, rfl⟩ := List.mem_map.mp hcd
      rw [hCS] at hx
      obtain ⟨y, _, rfl⟩ := List.mem_map.mp hx
      exact ⟨k.w y, rfl⟩
    · rw [List.mem_singleton] at hcd
      exact ⟨k.w low, hcd⟩
  have g6 := r_counts_of (n := n + 2) k h w low m l0 (by omega) (by omega) (by omega)
  have g7 := r_is_codeK (n := n + 2) k h w
  have g8 := r_is_codeBad (n := n + 2) k h (dg k.d w ++ [48]) (by simp [dg_len]) (by simp [dg_len]; omega)
  have ca : op2 .Add (cdS k w) (.str "0") = some (.str (Sx (dg k.d w ++ [48]))) := by
    rw [zero1]
    exact op_catS (dg k.d w) [48] (by rw [dg_len]; simp; omega)
  have eqc : ∀ y : Int, cmpD .Eq (cdS k (k.w y)) (cdS k w) = some (hasB k w y) := fun y => cmp_eqSx _ _
  obtain ⟨FS, hFS⟩ : ∃ FS, FS = (rgI low m).filter (hasB k w) := ⟨_, rfl⟩
  have hc2 : compR (.nm 9) (evJ (gs dfs (n + 7)) (.r1 (.var 3))) (evC (gs dfs (n + 7)) (.one (.cmp .Eq (.ixV 4 (.var 9)) (.var 5)))) (evE (gs dfs (n + 7)) (.bin .Add (.var 2) (.var 9))) [9]
      [.ow true (.lst (n6.map D.int)), .va k.D, .va (.int low), .va (.int (m : Int)), .va (.lst (CS.map D.str)), .va (cdS k w), .va (.int (low + (m : Int) - 1)), .un, .un, .un] = .ok (FS.map D.int) [.ow true (.lst (n6.map D.int)), .va k.D, .va (.int low), .va (.int (m : Int)), .va (.lst (CS.map D.str)), .va (cdS k w), .va (.int (low + (m : Int) - 1)), .un, .un, .un] := by
    rw [hFS, rgI_shift, List.filter_map, List.map_map]
    refine compR_ok (f := D.int) (ρ1 := [.ow true (.lst (n6.map D.int)), .va k.D, .va (.int low), .va (.int (m : Int)), .va (.lst (CS.map D.str)), .va (cdS k w), .va (.int (low + (m : Int) - 1)), .un, .un, .un]) _ _ (rgI 0 m) ?_ rfl rfl fun x hx => ?_
    · simp [evJ, rdV, rng1n m (by omega), nums_rgI, fewI, rgI_len]; omega
    · have hx := mem_rgI.mp hx
      obtain ⟨i, rfl⟩ := Int.eq_ofNat_of_zero_le hx.1
      have ix := ixC i (by omega)
      exact ⟨[.ow true (.lst (n6.map D.int)), .va k.D, .va (.int low), .va (.int (m : Int)), .va (.lst (CS.map D.str)), .va (cdS k w), .va (.int (low + (m : Int) - 1)), .un, .un, .va (.int (i : Int))], by simp [wipeR], by simp [rdV, rdL, ix, eqc], fun _ => ⟨[.ow true (.lst (n6.map D.int)), .va k.D, .va (.int low), .va (.int (m : Int)), .va (.lst (CS.map D.str)), .va (cdS k w), .va (.int (low + (m : Int) - 1)), .un, .un, .va (.int (i : Int))], by simp [rdV], rfl⟩, fun _ => rfl⟩
  rw [← hFS] at g6
  have fsl : FS.length ≤ m := by
    rw [hFS]
    refine Nat.le_trans (List.length_filter_le _ _) ?_
    rw [rgI_len]; exact Nat.le_refl _
  have g6e := cmp_ne_same (.lst (FS.map D.int)) (sm_map 3 _ _ (by omega) fun x => sm_int _ x)
  have g9 := r_law_first (n := n + 6) CS low (by omega)
  have g10 := r_first_repeat (n := n + 2) k h low m l0 (by omega) (by omega) (by omega)
  rw [← hCS] at g10
  have g10b : (gs dfs (n + 7)).dD n_first_repeat [k.D, .int low, .int (low + (m : Int) - 1)] = .ok (repD low (frep [] CS)) := by
    rw [show n + 7 = n + 2 + 5 by omega, g10]
    cases frep [] CS with
    | none => rfl
    | some q => rfl
  have sa : (gs dfs (n + 7)).dD n__law_same [repD low (frep [] CS), repD low (frep [] CS)] = .ok (.bl true) := r_same 1 (n + 5) _ (sm_rep 0 low _)
  obtain ⟨v', n7, e7, v0, v1⟩ := r_takeX (n := n + 6) n6 1000000000 (by omega)
  obtain ⟨v, rfl⟩ := Int.eq_ofNat_of_zero_le v0
  have g11 := r_tell (n := n + 4) v
  have st : Ev.b1 .str (.int (v : Int)) = some (.str (Sx (TL.numL v))) := b1_strN _ (Nat.lt_of_lt_of_le (show v < 2 ^ 64 by omega) (Nat.pow_le_pow_right (by decide) (by decide)))
  have nl : (TL.numL v).length ≤ 20 := TL.numL_len (by decide) (Nat.lt_of_lt_of_le (show v < 10 ^ 10 by omega) (by decide))
  have c4 := op_catS (List.replicate 4 48) (TL.numL v) (by rw [List.length_replicate]; omega)
  rw [← zero4] at c4
  have ld := last_dg 4 4 v (by omega)
  generalize hT : List.replicate 4 48 ++ TL.numL v = T at c4 ld
  have tl : T.length = 4 + (TL.numL v).length := by rw [← hT, List.length_append, List.length_replicate]
  have sl := sl_strL T 4 (by omega) (by omega) (by omega)
  rw [ld, show (-((4 : Nat) : Int)) = -4 from rfl] at sl
  have eqt := cmp_eq_same (.str (Sx (dg 4 v))) (sm_str _ _)
  have fin : endM (evSs (gs dfs (n + 7)) (.cons m11__law_are_keys <| .cons m12__law_are_keys <| .nil) [.ow true (.lst (n6.map D.int)), .va k.D, .va (.int low), .va (.int (m : Int)), .va (.lst (CS.map D.str)), .va (cdS k w), .va (.int (low + (m : Int) - 1)), .va (repD low (frep [] CS)), .un, .un]) = .ok (.bl true, n7.map D.int) := by
    simp [m11__law_are_keys, rdO, p9, e7]
    simp [m12__law_are_keys, rdV, rdL, g11, st, c4, partD, sl, eqt]
  refine ⟨n7, ?_⟩
  rw [← fin]
  simp [b__law_are_keys, m1__law_are_keys, rdO, e1, p12, e2, e3]
  simp [m2__law_are_keys, rdO, e4]
  rw [← hm]
  simp [m3__law_are_keys, hc1]
  simp [m4__law_are_keys, rdV, rdO, g1, g1e, g2, g3, e5, op_mul 1000003 t (mulOk_l _ _ ⟨by omega, by omega⟩), g4, g5, g4e]
  simp [m5__law_are_keys, rdV, rdO, g5, ap, e6]
  simp [m6__law_are_keys, rdV]
  simp [m7__law_are_keys, rdV, g6, hc2, g6e, g7, ca, g8, cmp_isnB]
  simp [m8__law_are_keys, rdV, g9]
  simp [m9__law_are_keys, rdV, g10b, sa]
  cases hr : frep [] CS with
  | none => simp [m10__law_are_keys, rdV, repD]
  | some q =>
    obtain ⟨i, j⟩ := q
    obtain ⟨f1, f2, f3⟩ := frep_facts CS [] i j hr
    rw [List.nil_append] at f2 f3
    rw [cl] at f2
    have se : k.s (low + (i : Int)) = k.s (low + (j : Int)) := by
      have gi : ∀ i : Nat, i < m → CS[i]? = some (Sx (k.s (low + (i : Int)))) := by
        intro i hi
        rw [hCS, List.getElem?_map]
        unfold rgI
        rw [List.getElem?_map, List.getElem?_range hi]
        rfl
      rw [gi i (by omega), gi j f2] at f3
      exact Sx_inj (Option.some.inj f3)
    have r1 := r_takes_rep (n := n + 2) k h (low + (i : Int)) (low + (j : Int)) ⟨by omega, by omega⟩ ⟨by omega, by omega⟩ se
    have r2 := r_takes_rep (n := n + 2) k h (low + (j : Int)) (low + (i : Int)) ⟨by omega, by omega⟩ ⟨by omega, by omega⟩ se.symm
    rw [decide_eq_true (by omega)] at r1
    rw [decide_eq_false (by omega)] at r2
    have i0 : ∀ a b : D, ixD (.tup [a, b]) (.int 0) = some a := fun _ _ => rfl
    have i1 : ∀ a b : D, ixD (.tup [a, b]) (.int 1) = some b := fun _ _ => rfl
    simp [m10__law_are_keys, rdV, rdL, repD, i0, i1, r1, r2, cmp_isnB]
end
end Ev.W

end
section
set_option maxHeartbeats 2000000
namespace Ev.W
open PySem PySem.Spec PyProof.Rows L2 Ev
theorem nodup_inj {α β : Type} {f : α → β} : ∀ {xs : List α}, (xs.map f).Nodup → ∀ a ∈ xs, ∀ b ∈ xs, f a = f b → a = b
  | [], _, a, h, _, _, _ => by cases h
  | x :: xs, nd, a, ha, b, hb, e => by
    rw [List.map_cons, List.nodup_cons] at nd
    rcases List.mem_cons.mp ha with rfl | ha1
    · rcases List.mem_cons.mp hb with rfl | hb1
      · rfl
      · exact absurd (List.mem_map.mpr ⟨b, hb1, e.symm⟩) nd.1
    · rcases List.mem_cons.mp hb with rfl | hb1
      · exact absurd (List.mem_map.mpr ⟨a, ha1, e⟩) nd.1
      · exact nodup_inj nd.2 a ha1 b hb1 e
theorem clear_met {j : Cj} (hc : clear j = true) {x : Int} (h1 : j.st ≤ x) (h2 : x ≤ j.st + j.wi) : j.met (j.k.w x) = some x := by
  unfold Cj.met
  have hx : x ∈ rgI j.st (j.wi.toNat + 1) := mem_rgI.mpr ⟨h1, by omega⟩
  refine first_is _ _ h1 (by omega) (by unfold hasB Ky.s; exact decide_eq_true rfl) fun m h3 h4 => ?_
  unfold hasB
  rw [decide_eq_false_iff_not]
  intro e
  have := nodup_inj (of_decide_eq_true hc) m (mem_rgI.mpr ⟨h3, by omega⟩) x hx (by show Sx _ = Sx _; rw [e]; rfl)
  omega
theorem start_row (k : Ky) (s : Int) (m : Nat) : rowB k ((rgI s m).map k.w) s = true := by
  unfold rowB
  rw [List.all_eq_true]
  intro i hi
  rw [List.length_map, rgI_len] at hi
  have hi := List.mem_range.mp hi
  rw [decide_eq_true_eq]
  unfold rgI
  simp [List.getD_eq_getElem?_getD, hi, Ky.s]
theorem cmp_eqN (xs : List Int) : cmpD .Eq (.lst (xs.map D.int)) (.lst []) = some (decide (xs = [])) := cmp_eqIL xs []
theorem ne_oI (x : Int) : cmpD .NotEq (.int x) (.int x) = some false := by rw [cmp_neI]; simp
section
variable {n : Nat}
/-- a turn's judge and device -/
structure JD (j : Cj) (x : Int) : Prop where
  st : j.st ≤ 2000
  wi : j.wi ≤ 300
  wd : j.wd ≤ 700
  x0 : j.st ≤ x
  x1 : x ≤ 3000
  j : j.Ok
theorem turnA (rest : Ss) (k : Ky) (h : k.Ok) (ns : List Int) (Q : Fl → En → Prop) [Up Q] (hK : ∀ (ms : List Int) (j : Cj) (x : Int) (bs : List Bool), j.k = k → JD j x → bs.length ≤ 60 → Wp (evSs (gs dfs (n + 8)) rest [.ow true (.lst (ms.map D.int)), .va j.k.D, .va (.int j.wi), .va j.D, .va (.lst (bs.map wdD)), .va (.int x), .un, .un, .un, .un, .un, .un, .un, .va (dvD j.k x), .va j.D, .ow false (.lst []), .un, .un, .un, .un, .un, .un]) Q) :
    Wp (evSs (gs dfs (n + 8)) (.cons m1__law_are_sessions <| .cons m2__law_are_sessions <| .cons m3__law_are_sessions <| .cons m4__law_are_sessions <| .cons m5__law_are_sessions rest) [.ow true (.lst (ns.map D.int)), .va k.D, .un, .un, .un, .un, .un, .un, .un, .un, .un, .un, .un, .un, .un, .un, .un, .un, .un, .un, .un, .un]) Q := by
  obtain ⟨bd, n1, e1, hb⟩ := r_pickX (n := n + 6) ns [.int 3, .int 30, .int 300] (by simp) (by simp)
  obtain ⟨b, rfl, b0, b1⟩ : ∃ m : Int, bd = .int m ∧ 1 ≤ m ∧ m ≤ 300 := by
    simp only [List.mem_cons, List.not_mem_nil, or_false] at hb
    rcases hb with rfl | rfl | rfl <;> exact ⟨_, rfl, by omega, by omega⟩
  obtain ⟨W, n2, e2, w0, w1⟩ := r_takeX (n := n + 7) n1 b (by omega)
  obtain ⟨s, n3, e3, s0, s1⟩ := r_takeX (n := n + 7) n2 2000 (by omega)
  obtain ⟨u, n4, e4, u0, u1⟩ := r_takeX (n := n + 7) n3 300 (by omega)
  obtain ⟨v, n5, e5, v0, v1⟩ := r_takeX (n := n + 7) n4 (W + 2) (by omega)
  obtain ⟨c', n6, e6, c0, c1⟩ := r_takeX (n := n + 7) n5 60 (by omega)
  obtain ⟨c, rfl⟩ := Int.eq_ofNat_of_zero_le c0
  obtain ⟨j, hj⟩ : ∃ j : Cj, j = ⟨k, s, W, W + u⟩ := ⟨_, rfl⟩
  have jd : (D.tup [k.D, .int s, .int W, .int (W + u)]) = j.D := by rw [hj]; rfl
  have i1 : ixD j.D (.int 1) = some (.int s) := by rw [hj]; rfl
  have ok : JD j (s + v) := by
    rw [hj]
    exact ⟨by show s ≤ 2000; omega, by show W ≤ 300; omega, by show W + u ≤ 700; omega, by show s ≤ s + v; omega, by show s + v ≤ 3000; omega, ⟨s0, by show s ≤ _; omega, w0, by show W ≤ 1000; omega, by show W ≤ W + u; omega, by show W + u ≤ 20000; omega, h⟩⟩
  have jk : j.k = k := by rw [hj]
  have jw : j.wi = W := by rw [hj]
  have dv : (D.tup [k.D, .int (s + v)]) = dvD j.k (s + v) := by rw [jk]; rfl
  simp [m1__law_are_sessions, rdO, e1, e2]
  simp [m2__law_are_sessions, rdV, rdO, e3, e4]
  rw [jd]
  simp [m3__law_are_sessions, rdV, rdL, rdO, i1, e5]
  rw [dv]
  simp [m4__law_are_sessions]
  refine wp_comp (f := D.int) (xs := rgI 0 c) (ρ1 := [.ow true (.lst (n6.map D.int)), .va k.D, .va (.int W), .va j.D, .un, .un, .un, .un, .un, .un, .un, .un, .un, .va (dvD j.k (s + v)), .va j.D, .ow false (.lst []), .un, .un, .un, .un, .un, .un])
    (fun ds us ρ => ∃ (ms : List Int) (bs : List Bool), ρ = [.ow true (.lst (ms.map D.int)), .va k.D, .va (.int W), .va j.D, .un, .un, .un, .un, .un, .un, .un, .un, .un, .va (dvD j.k (s + v)), .va j.D, .ow false (.lst []), .un, .un, .un, .un, .un, .un] ∧ ds = bs.map wdD ∧ bs.length + us.length ≤ 60) ?_ ⟨n6, [], rfl, rfl, by simp [rgI_len]; omega⟩ ?_ ?_
  · simp [evJ, rdO, e6, rng1n c (by omega), nums_rgI, fewI, rgI_len]
    omega
  · rintro J hJ ds y us ρ ⟨ms, bs, rfl, rfl, hl⟩
    rw [List.length_cons] at hl
    obtain ⟨wd, n7, e7, hw⟩ := r_pickX (n := n + 6) ms [.str "show", .str "send", .str "send"] (by simp) (by simp)
    obtain ⟨bb, rfl⟩ : ∃ bb : Bool, wd = wdD bb := by
      simp only [List.mem_cons, List.not_mem_nil, or_false] at hw
      rcases hw with rfl | rfl | rfl
      · exact ⟨false, rfl⟩
      · exact ⟨true, rfl⟩
      · exact ⟨true, rfl⟩
    simp [rdO, e7, wipeR]
    exact hJ _ _ _ ⟨n7, bs ++ [bb], rfl, by simp, by simp; omega⟩
  · rintro ds ρ ⟨ms, bs, rfl, rfl, hl⟩
    have ix : ixD (dvD j.k (s + v)) (.int 1) = some (.int (s + v)) := rfl
    have w := hK ms j (s + v) bs jk ok (by simpa using hl)
    simp [backR, m5__law_are_sessions, rdL, ix]
    rw [← jk, ← jw]
    exact w
theorem turnB (rest : Ss) (j : Cj) (x : Int) (h : JD j x) (bs : List Bool) (hb : bs.length ≤ 60) (ns : List Int) (Q : Fl → En → Prop) [Up Q] (hK : Wp (evSs (gs dfs (n + 8)) rest [.ow true (.lst (ns.map D.int)), .va j.k.D, .va (.int j.wi), .va j.D, .un, .un, .un, .un, .un, .un, .un, .un, .un, .va (dvD j.k x), .un, .un, .un, .un, .un, .un, .un, .un]) Q) :
    Wp (evSs (gs dfs (n + 8)) (.cons m6__law_are_sessions <| .cons m7__law_are_sessions rest) [.ow true (.lst (ns.map D.int)), .va j.k.D, .va (.int j.wi), .va j.D, .va (.lst (bs.map wdD)), .va (.int x), .un, .un, .un, .un, .un, .un, .un, .va (dvD j.k x), .va j.D, .ow false (.lst []), .un, .un, .un, .un, .un, .un]) Q := by
  have st := h.st
  have x0 := h.x0
  have x1 := h.x1
  have s0 := h.j.s0
  have g1 := r_session (n := n + 1) j h.j x ⟨by omega, by omega⟩ bs (by omega) (by omega)
  have g2 := r_apart (n := n + 1) j h.j x (by omega)
  have sa := same4 (n := n) (.tup [.lst ((sess j x bs).1.map D.bl), (sess j x bs).2.D, dvD j.k (x + (bs.length : Int))]) (sm_tup 3 _ (by simp) (by
    intro y hy
    simp only [List.mem_cons, List.not_mem_nil, or_false] at hy
    rcases hy with rfl | rfl | rfl
    · refine sm_map 2 _ _ ?_ fun b => sm_bl _ b
      have : ∀ (bs : List Bool) (j : Cj) (x : Int), (sess j x bs).1.length ≤ bs.length := by
        intro bs
        induction bs with
        | nil => intro j x; exact Nat.le_refl _
        | cons b bs ih =>
          intro j x
          cases b with
          | true => have := ih (j.aft (j.met (j.k.w x))) (x + 1); simp [sess]; omega
          | false => have := ih j (x + 1); simp [sess]; omega
      have := this bs j x
      omega
    · exact sm_cj 1 _
    · exact sm_tup 2 _ (by simp) (by simp [sm_int, sm_ky])))
  have i1 : ixD (dvD j.k x) (.int 1) = some (.int x) := rfl
  simp [m6__law_are_sessions, rdV]
  refine wp_forUL (f := wdD) (fun us ρ => ∃ (j' : Cj) (y : Int) (ds : List Bool), ρ = [.ow true (.lst (ns.map D.int)), .va j.k.D, .va (.int j.wi), .va j.D, .va (.lst (bs.map wdD)), .va (.int y), .un, .un, .un, .un, .un, .un, .un, .va (dvD j.k x), .va j'.D, .ow false (.lst (ds.map D.bl)), .un, .un, .un, .un, .un, .un] ∧ j'.Ok ∧ j'.k = j.k ∧ ds.length + us.length ≤ 60 ∧ j'.st ≤ 2000 + 1001 * ((bs.length : Int) - us.length) ∧ us.length ≤ bs.length ∧ y + (us.length : Int) = x + (bs.length : Int) ∧ x ≤ y ∧ (ds ++ (sess j' y us).1, (sess j' y us).2) = sess j x bs)
    ⟨_, ⟨j, x, [], rfl, h.j, rfl, by simpa using hb, by omega, Nat.le_refl _, rfl, Int.le_refl _, rfl⟩, by simp⟩ ?_ ?_
  · rintro J uJ hJ b us ρ ⟨j', y, ds, rfl, h', hk, hl, hst, hu, hy, hxy, e⟩
    rw [List.length_cons] at hl hst hu hy
    cases b with
    | false =>
      simp [l1__law_are_sessions, rdV, eq_send]
      exact hJ _ _ _ ⟨j', y + 1, ds, rfl, h', hk, by omega, by omega, by omega, by omega, by omega, by rw [← e]; rfl⟩ (by simp)
    | true =>
      have lm := r_law_met (n := n + 5) j' h' (j'.k.w y)
      rw [hk] at lm
      have lc := r_law_code (n := n + 6) j.k h.j.k y ⟨by omega, by omega⟩
      unfold Ky.s at lc
      have af := h'.aft (by omega) (w := j'.k.w y)
      rw [hk] at af
      have nx : J us [.ow true (.lst (ns.map D.int)), .va j.k.D, .va (.int j.wi), .va j.D, .va (.lst (bs.map wdD)), .va (.int (y + 1)), .va (wdD true), .un, .un, .va (oI (j'.met (j.k.w y))), .un, .un, .un, .va (dvD j.k x), .va (j'.aft (j'.met (j.k.w y))).D, .ow false (.lst ((ds ++ [(j'.met (j.k.w y)).isSome]).map D.bl)), .un, .un, .un, .un, .un, .un] := hJ _ _ _ ⟨j'.aft (j'.met (j.k.w y)), y + 1, ds ++ [(j'.met (j.k.w y)).isSome], rfl, af.1, by rw [aft_k, hk], by simp; omega, by omega, by omega, by omega, by omega, by rw [← e]; simp [sess, hk]⟩ (by simp)
      simp [l1__law_are_sessions, rdV, rdL, eq_send, lc]
      simp only [cdS] at lm
      simp [lm, rdV, rdO, oI_isn, -cmp_isnN]
      rw [appFI, if_pos (by rw [List.length_map]; omega)]
      simp [rdV, oI_isn, -cmp_isnN]
      cases em : j'.met (j.k.w y) with
      | none =>
        rw [em] at nx
        simp [Cj.aft] at nx
        simp [rdV]
        exact nx
      | some q =>
        rw [em] at nx
        rw [show (j'.aft (some q)).D = .tup [j'.k.D, .int (q + 1), .int j'.wi, .int j'.wd] from rfl, hk] at nx
        simp at nx
        simp [rdV, rdL, ix_c2, ix_c3]
        exact nx
  · rintro ρ ⟨j', y, ds, rfl, h', hk, hl, hst, hu, hy, hxy, e⟩
    simp only [sess, List.append_nil] at e
    have yy : y = x + (bs.length : Int) := by simpa using hy
    have e1 : ds = (sess j x bs).1 := congrArg Prod.fst e
    have e2 : j' = (sess j x bs).2 := congrArg Prod.snd e
    rw [← e1, ← e2] at g1 sa
    have dv : (D.tup [j.k.D, .int (x + (bs.length : Int))]) = dvD j.k (x + (bs.length : Int)) := rfl
    subst yy
    simp [m7__law_are_sessions, rdV, rdL, g1, dv, sa, g2, i1, ix_c1, ne_oI]
    exact wp_forget [.ow true (.lst (ns.map D.int)), .va j.k.D, .va (.int j.wi), .va j.D, .un, .un, .un, .un, .un, .un, .un, .un, .un, .va (dvD j.k x), .un, .un, .un, .un, .un, .un, .un, .un] (by simp) hK
theorem turnC (rest : Ss) (j : Cj) (x : Int) (h : JD j x) (ns : List Int) (Q : Fl → En → Prop) [Up Q] (hK : Wp (evSs (gs dfs (n + 8)) rest [.ow true (.lst (ns.map D.int)), .va j.k.D, .va (.int j.wi), .va j.D, .un, .un, .un, .un, .va (.bl (clear j)), .un, .un, .un, .un, .va (dvD j.k x), .un, .un, .un, .un, .un, .un, .un, .un]) Q) :
    Wp (evSs (gs dfs (n + 8)) (.cons m8__law_are_sessions <| .cons m9__law_are_sessions <| .cons m10__law_are_sessions rest) [.ow true (.lst (ns.map D.int)), .va j.k.D, .va (.int j.wi), .va j.D, .un, .un, .un, .un, .un, .un, .un, .un, .un, .va (dvD j.k x), .un, .un, .un, .un, .un, .un, .un, .un]) Q := by
  have s0 := h.j.s0
  have st := h.st
  have w0 := h.j.w0
  have wi := h.wi
  have cl := codes_len j
  have hc : compR (.nm 21) (evJ (gs dfs (n + 8)) (.r2 (.ixV 3 (.con (.int 1))) (.bin .Add (.bin .Add (.ixV 3 (.con (.int 1))) (.var 2)) (.con (.int 1))))) (evC (gs dfs (n + 8)) .no) (evE (gs dfs (n + 8)) (.call n__law_code 2 (.cons (.var 1) (.cons (.var 21) .nil)))) [21] [.ow true (.lst (ns.map D.int)), .va j.k.D, .va (.int j.wi), .va j.D, .un, .un, .un, .un, .un, .un, .un, .un, .un, .va (dvD j.k x), .un, .un, .un, .un, .un, .un, .un, .un] = .ok (j.codes.map D.str) [.ow true (.lst (ns.map D.int)), .va j.k.D, .va (.int j.wi), .va j.D, .un, .un, .un, .un, .un, .un, .un, .un, .un, .va (dvD j.k x), .un, .un, .un, .un, .un, .un, .un, .un] := by
    unfold Cj.codes
    rw [List.map_map]
    refine compR_all (f := D.int) (ρ1 := [.ow true (.lst (ns.map D.int)), .va j.k.D, .va (.int j.wi), .va j.D, .un, .un, .un, .un, .un, .un, .un, .un, .un, .va (dvD j.k x), .un, .un, .un, .un, .un, .un, .un, .un]) _ (rgI j.st (j.wi.toNat + 1)) ?_ rfl rfl fun y hy => ?_
    · simp [evJ, rdV, rdL, ix_c1]
      rw [rng_2 _ _ ⟨by omega, by omega, by omega, by omega⟩, nums_rgI, show (j.st + j.wi + 1 - j.st).toNat = j.wi.toNat + 1 by omega]
      simp
      rw [fewI, if_pos (by rw [List.length_map, rgI_len]; omega)]
    · have yb := cj_b h.j (m := j.wi.toNat + 1) (by omega) hy
      exact ⟨[.ow true (.lst (ns.map D.int)), .va j.k.D, .va (.int j.wi), .va j.D, .un, .un, .un, .un, .un, .un, .un, .un, .un, .va (dvD j.k x), .un, .un, .un, .un, .un, .un, .un, .va (.int y)], by simp [wipeR], by simp, [.ow true (.lst (ns.map D.int)), .va j.k.D, .va (.int j.wi), .va j.D, .un, .un, .un, .un, .un, .un, .un, .un, .un, .va (dvD j.k x), .un, .un, .un, .un, .un, .un, .un, .va (.int y)], by simp [rdV, r_law_code (n := n + 6) j.k h.j.k y yb], rfl⟩
  have lss := lenSS_ok j.codes (by omega)
  have cs := sortSS_ok j.codes (by omega)
  have csl : (sortT (dd j.codes)).length ≤ 1000000 := by
    rw [(sortT_perm _).length_eq]
    have : (dd j.codes).length ≤ j.codes.length := nodup_len _ _ (nd_dd j.codes) fun y hy => (mem_dd y j.codes).mp hy
    omega
  have nd : (((dd j.codes).length : Int) == (j.codes.length : Int)) = clear j := by
    rw [Bool.eq_iff_iff, beq_iff_eq]
    unfold clear
    rw [decide_eq_true_eq, ← dd_len_eq]
    omega
  have q1 := r_taken (n := n + 2) j h.j
  have q2 := r_is_clear (n := n + 2) j h.j
  have q3 := r_law_most (n := n + 1) j h.j
  have sa := same4 (n := n) (.lst [.lst ((sortT (dd j.codes)).map D.str), .bl (clear j), if clear j = true then .int j.wi else .non]) (sm_lst 3 _ (by simp) (by
    intro y hy
    simp only [List.mem_cons, List.not_mem_nil, or_false] at hy
    rcases hy with rfl | rfl | rfl
    · exact sm_map 2 _ _ csl fun i => sm_str _ i
    · exact sm_bl _ _
    · split
      · exact sm_int _ _
      · exact sm_non _))
  simp [m8__law_are_sessions, hc]
  simp [m9__law_are_sessions, rdL, lss]
  rw [nd]
  have fin := wp_forget (G := gs dfs (n + 8)) (r := rest) (Q := Q) (ρ := [.ow true (.lst (ns.map D.int)), .va j.k.D, .va (.int j.wi), .va j.D, .un, .un, .un, .va (.lst (j.codes.map D.str)), .va (.bl (clear j)), .un, .un, .un, .un, .va (dvD j.k x), .un, .un, .un, .un, .un, .un, .un, .un]) [.ow true (.lst (ns.map D.int)), .va j.k.D, .va (.int j.wi), .va j.D, .un, .un, .un, .un, .va (.bl (clear j)), .un, .un, .un, .un, .va (dvD j.k x), .un, .un, .un, .un, .un, .un, .un, .un] (by simp) hK
  cases hc : clear j with
  | true =>
    rw [hc] at sa q2 q3 fin
    simp at sa q3
    simp [m10__law_are_sessions, rdV, rdL, q1, q2, q3, cs, sa]
    exact fin
  | false =>
    rw [hc] at sa q2 q3 fin
    simp at sa q3
    simp [m10__law_are_sessions, rdV, rdL, q1, q2, q3, cs, sa]
    exact fin
theorem turnD (rest : Ss) (j : Cj) (x : Int) (h : JD j x) (ns : List Int) (Q : Fl → En → Prop) [Up Q] (hK : Wp (evSs (gs dfs (n + 8)) rest [.ow true (.lst (ns.map D.int)), .va j.k.D, .va (.int j.wi), .va j.D, .un, .un, .un, .un, .un, .un, .un, .un, .un, .va (dvD j.k x), .un, .un, .un, .un, .un, .un, .un, .un]) Q) :
    Wp (evSs (gs dfs (n + 8)) (.cons m11__law_are_sessions <| .cons m12__law_are_sessions <| .cons m13__law_are_sessions <| .cons m14__law_are_sessions <| .cons m15__law_are_sessions rest) [.ow true (.lst (ns.map D.int)), .va j.k.D, .va (.int j.wi), .va j.D, .un, .un, .un, .un, .va (.bl (clear j)), .un, .un, .un, .un, .va (dvD j.k x), .un, .un, .un, .un, .un, .un, .un, .un]) Q := by
  have s0 := h.j.s0
  have st := h.st
  have w0 := h.j.w0
  have wi := h.wi
  have x0 := h.x0
  have x1 := h.x1
  have i1 : ixD (dvD j.k x) (.int 1) = some (.int x) := rfl
  have sh := r_shown (n := n + 3) j.k h.j.k x ⟨by omega, by omega⟩
  have lc := r_law_code (n := n + 6) j.k h.j.k x ⟨by omega, by omega⟩
  have lm := r_law_met (n := n + 5) j h.j (j.k.w x)
  have mc := r_met_count (n := n + 1) j h.j (j.k.w x)
  have ju := r_judged (n := n + 1) j h.j (j.k.w x)
  have tk := r_takes_met (n := n + 3) j h.j (j.k.w x)
  have ne := cmp_ne_same (.tup [cdS j.k (j.k.w x), dvD j.k (x + 1)]) (sm_tup 3 _ (by simp) (by
    intro y hy
    simp only [List.mem_cons, List.not_mem_nil, or_false] at hy
    rcases hy with rfl | rfl
    · exact sm_str _ _
    · exact sm_tup 2 _ (by simp) (by simp [sm_int, sm_ky])))
  rw [show (D.str (Sx (j.k.s x))) = cdS j.k (j.k.w x) from rfl] at lc
  have dv : (D.tup [j.k.D, .int (x + 1)]) = dvD j.k (x + 1) := rfl
  have sa := same4 (n := n) (oI (j.met (j.k.w x))) (sm_oI _ _)
  have sb := same4 (n := n) (juD j (j.met (j.k.w x))) (sm_tup 3 _ (by simp) (by simp [sm_bl, sm_cj]))
  simp [m11__law_are_sessions, rdV, sh]
  simp [m12__law_are_sessions, rdV, lm]
  simp [m13__law_are_sessions, rdV, rdL, i1, lc, dv, ne, mc, sa]
  have c1 := fun hc : clear j = true => fun hx : x ≤ j.st + j.wi => clear_met hc x0 hx
  have t0 := tk x
  cases em : j.met (j.k.w x) with
  | none =>
    have ncl : clear j = true → ¬ (x ≤ j.st + j.wi) := fun hc hx => by
      have := c1 hc hx
      rw [em] at this
      cases this
    rw [em] at ju sb
    rw [show juD j none = .tup [.bl false, j.D] from rfl] at ju sb
    simp [m14__law_are_sessions, rdV, ju, sb]
    have fin := wp_forget (G := gs dfs (n + 8)) (r := rest) (Q := Q) (ρ := [.ow true (.lst (ns.map D.int)), .va j.k.D, .va (.int j.wi), .va j.D, .un, .un, .un, .un, .va (.bl (clear j)), .va .non, .un, .un, .un, .va (dvD j.k x), .un, .un, .va (cdS j.k (j.k.w x)), .va (dvD j.k (x + 1)), .un, .un, .un, .un]) [.ow true (.lst (ns.map D.int)), .va j.k.D, .va (.int j.wi), .va j.D, .un, .un, .un, .un, .un, .un, .un, .un, .un, .va (dvD j.k x), .un, .un, .un, .un, .un, .un, .un, .un] (by simp) hK
    cases hc : clear j with
    | true =>
      have nx := ncl hc
      rw [hc] at fin
      simp [m15__law_are_sessions, rdV, rdL, i1, ix_c1, nx]
      exact fin
    | false =>
      rw [hc] at fin
      simp [m15__law_are_sessions, rdV, rdL]
      exact fin
  | some q =>
    have t1 := tk q
    have t2 := tk (q + 1)
    rw [em] at t1 t2 ju sb
    rw [decide_eq_true rfl] at t1
    rw [decide_eq_false (by simp; omega)] at t2
    rw [show juD j (some q) = .tup [.bl true, .tup [j.k.D, .int (q + 1), .int j.wi, .int j.wd]] from rfl] at ju sb
    simp [m14__law_are_sessions, rdV, rdL, ju, ix_c2, ix_c3, sb]
    have fin := wp_forget (G := gs dfs (n + 8)) (r := rest) (Q := Q) (ρ := [.ow true (.lst (ns.map D.int)), .va j.k.D, .va (.int j.wi), .va j.D, .un, .un, .un, .un, .va (.bl (clear j)), .va (.int q), .un, .un, .un, .va (dvD j.k x), .un, .un, .va (cdS j.k (j.k.w x)), .va (dvD j.k (x + 1)), .un, .un, .un, .un]) [.ow true (.lst (ns.map D.int)), .va j.k.D, .va (.int j.wi), .va j.D, .un, .un, .un, .un, .un, .un, .un, .un, .un, .va (dvD j.k x), .un, .un, .un, .un, .un, .un, .un, .un] (by simp) hK
    cases hc : clear j with
    | true =>
      rw [hc] at fin
      by_cases hx : x ≤ j.st + j.wi
      · have := c1 hc hx
        rw [em] at this
        cases this
        simp [m15__law_are_sessions, rdV, rdL, i1, ix_c1, t1, t2, cmp_isnB, hx]
        exact fin
      · simp [m15__law_are_sessions, rdV, rdL, i1, ix_c1, t1, t2, cmp_isnB, hx]
        exact fin
    | false =>
      rw [hc] at fin
      simp [m15__law_are_sessions, rdV, rdL, t1, t2, cmp_isnB]
      exact fin
theorem turnE (j : Cj) (x : Int) (h : JD j x) (ns : List Int) (JJ : D → List D → Prop) (hK : ∀ ms : List Int, JJ (.bl true) (ms.map D.int)) :
    Wp (evSs (gs dfs (n + 8)) (.cons m16__law_are_sessions <| .cons m17__law_are_sessions <| .cons m18__law_are_sessions <| .cons m19__law_are_sessions <| .cons m20__law_are_sessions <| .cons m21__law_are_sessions .nil) [.ow true (.lst (ns.map D.int)), .va j.k.D, .va (.int j.wi), .va j.D, .un, .un, .un, .un, .un, .un, .un, .un, .un, .va (dvD j.k x), .un, .un, .un, .un, .un, .un, .un, .un]) (retM JJ) := by
  have s0 := h.j.s0
  have st := h.st
  have w0 := h.j.w0
  have d0 := h.j.d0
  have wd := h.wd
  obtain ⟨a, n1, e1, a0, a1⟩ := r_takeX (n := n + 7) ns 5 (by omega)
  obtain ⟨b, n2, e2, b0, b1⟩ := r_takeX (n := n + 7) n1 (j.wd + 20) (by omega)
  obtain ⟨m, hm⟩ : ∃ m : Nat, (m : Int) = 2 + a := ⟨(2 + a).toNat, by omega⟩
  obtain ⟨s, hs⟩ : ∃ s : Int, s = j.st + b := ⟨_, rfl⟩
  obtain ⟨ws, hws⟩ : ∃ ws, ws = (rgI s m).map j.k.w := ⟨_, rfl⟩
  have wl : ws.length = m := by rw [hws, List.length_map, rgI_len]
  have hc1 : compR (.nm 20) (evJ (gs dfs (n + 8)) (.r1 (.var 18))) (evC (gs dfs (n + 8)) .no) (evE (gs dfs (n + 8)) (.call n__law_code 2 (.cons (.var 1) (.cons (.bin .Add (.var 19) (.var 20)) .nil)))) [20] [.ow true (.lst (n2.map D.int)), .va j.k.D, .va (.int j.wi), .va j.D, .un, .un, .un, .un, .un, .un, .un, .un, .un, .va (dvD j.k x), .un, .un, .un, .un, .va (.int (m : Int)), .va (.int s), .un, .un] = .ok (ws.map (cdS j.k)) [.ow true (.lst (n2.map D.int)), .va j.k.D, .va (.int j.wi), .va j.D, .un, .un, .un, .un, .un, .un, .un, .un, .un, .va (dvD j.k x), .un, .un, .un, .un, .va (.int (m : Int)), .va (.int s), .un, .un] := by
    rw [hws, rgI_shift, List.map_map, List.map_map]
    refine compR_all (f := D.int) (ρ1 := [.ow true (.lst (n2.map D.int)), .va j.k.D, .va (.int j.wi), .va j.D, .un, .un, .un, .un, .un, .un, .un, .un, .un, .va (dvD j.k x), .un, .un, .un, .un, .va (.int (m : Int)), .va (.int s), .un, .un]) _ (rgI 0 m) ?_ rfl rfl fun y hy => ?_
    · simp [evJ, rdV, rng1n m (by omega), nums_rgI, fewI, rgI_len]; omega
    · have hy := mem_rgI.mp hy
      have rc : (gs dfs (n + 8)).dD n__law_code [j.k.D, .int (s + y)] = .ok (cdS j.k (j.k.w (s + y))) := r_law_code (n := n + 6) j.k h.j.k (s + y) ⟨by omega, by omega⟩
      exact ⟨[.ow true (.lst (n2.map D.int)), .va j.k.D, .va (.int j.wi), .va j.D, .un, .un, .un, .un, .un, .un, .un, .un, .un, .va (dvD j.k x), .un, .un, .un, .un, .va (.int (m : Int)), .va (.int s), .va (.int y), .un], by simp [wipeR], by simp, [.ow true (.lst (n2.map D.int)), .va j.k.D, .va (.int j.wi), .va j.D, .un, .un, .un, .un, .un, .un, .un, .un, .un, .va (dvD j.k x), .un, .un, .un, .un, .va (.int (m : Int)), .va (.int s), .va (.int y), .un], by simp [rdV, rc], rfl⟩
  have ixw : ∀ i : Nat, i < m → ixD (.lst (ws.map (cdS j.k))) (.int (i : Int)) = some (cdS j.k (ws.getD i 0)) := by
    intro i hi
    refine ixD_ls _ i _ ?_
    rw [List.getElem?_map, List.getElem?_eq_getElem (show i < ws.length by omega), List.getD_eq_getElem?_getD, List.getElem?_eq_getElem (show i < ws.length by omega)]
    rfl
  have hc3 : ∀ y : Int, 0 ≤ y → y ≤ 100000 → compR (.nm 20) (evJ (gs dfs (n + 8)) (.r1 (.var 18))) (evC (gs dfs (n + 8)) .no) (evE (gs dfs (n + 8)) (.cmp .Eq (.call n__law_code 2 (.cons (.var 1) (.cons (.bin .Add (.var 21) (.var 20)) .nil))) (.ixV 10 (.var 20)))) [20] [.ow true (.lst (n2.map D.int)), .va j.k.D, .va (.int j.wi), .va j.D, .un, .un, .un, .un, .un, .un, .va (.lst (ws.map (cdS j.k))), .un, .un, .va (dvD j.k x), .un, .un, .un, .un, .va (.int (m : Int)), .va (.int s), .un, .va (.int y)] = .ok ((List.range ws.length).map fun (i : Nat) => .bl (decide (j.k.s (y + (i : Int)) = dg j.k.d (ws.getD i 0)))) [.ow true (.lst (n2.map D.int)), .va j.k.D, .va (.int j.wi), .va j.D, .un, .un, .un, .un, .un, .un, .va (.lst (ws.map (cdS j.k))), .un, .un, .va (dvD j.k x), .un, .un, .un, .un, .va (.int (m : Int)), .va (.int s), .un, .va (.int y)] := by
    intro y y0 y1
    refine compR_all (f := fun i : Nat => .int (i : Int)) (ρ1 := [.ow true (.lst (n2.map D.int)), .va j.k.D, .va (.int j.wi), .va j.D, .un, .un, .un, .un, .un, .un, .va (.lst (ws.map (cdS j.k))), .un, .un, .va (dvD j.k x), .un, .un, .un, .un, .va (.int (m : Int)), .va (.int s), .un, .va (.int y)]) _ (List.range ws.length) ?_ rfl rfl fun i hi => ?_
    · simp [evJ, rdV, rng1n m (by omega), fewI, wl, nums0]; omega
    · have hi := List.mem_range.mp hi
      have ix := ixw i (by omega)
      generalize ws.getD i 0 = w at *
      exact ⟨[.ow true (.lst (n2.map D.int)), .va j.k.D, .va (.int j.wi), .va j.D, .un, .un, .un, .un, .un, .un, .va (.lst (ws.map (cdS j.k))), .un, .un, .va (dvD j.k x), .un, .un, .un, .un, .va (.int (m : Int)), .va (.int s), .va (.int (i : Int)), .va (.int y)], by simp [wipeR], by simp, [.ow true (.lst (n2.map D.int)), .va j.k.D, .va (.int j.wi), .va j.D, .un, .un, .un, .un, .un, .un, .va (.lst (ws.map (cdS j.k))), .un, .un, .va (dvD j.k x), .un, .un, .un, .un, .va (.int (m : Int)), .va (.int s), .va (.int (i : Int)), .va (.int y)], by simp [rdV, rdL, r_law_code (n := n + 6) j.k h.j.k (y + (i : Int)) ⟨by omega, by omega⟩, ix, cdS, cmp_eqSx], rfl⟩
  have ap : ∀ y : Int, Ev.b1 .all (.lst ((List.range ws.length).map fun (i : Nat) => D.bl (decide (j.k.s (y + (i : Int)) = dg j.k.d (ws.getD i 0))))) = some (.bl (rowB j.k ws y)) := fun y => all_P (List.range ws.length) fun (i : Nat) => decide (j.k.s (y + (i : Int)) = dg j.k.d (ws.getD i 0))
  obtain ⟨FS, hFS⟩ : ∃ FS, FS = (rgI j.st (j.wd.toNat + 1)).filter (rowB j.k ws) := ⟨_, rfl⟩
  have hc2 : compR (.nm 21) (evJ (gs dfs (n + 8)) (.r2 (.ixV 3 (.con (.int 1))) (.bin .Add (.bin .Add (.ixV 3 (.con (.int 1))) (.ixV 3 (.con (.int 3)))) (.con (.int 1))))) (evC (gs dfs (n + 8)) (.one (.tr (.vl (.b1 .all (.vl (.fr (.comp (.nm 20) (.r1 (.var 18)) .no (.cmp .Eq (.call n__law_code 2 (.cons (.var 1) (.cons (.bin .Add (.var 21) (.var 20)) .nil))) (.ixV 10 (.var 20))) [20])))))))) (evE (gs dfs (n + 8)) (.var 21)) [21] [.ow true (.lst (n2.map D.int)), .va j.k.D, .va (.int j.wi), .va j.D, .un, .un, .un, .un, .un, .un, .va (.lst (ws.map (cdS j.k))), .un, .un, .va (dvD j.k x), .un, .un, .un, .un, .va (.int (m : Int)), .va (.int s), .un, .un] = .ok (FS.map D.int) [.ow true (.lst (n2.map D.int)), .va j.k.D, .va (.int j.wi), .va j.D, .un, .un, .un, .un, .un, .un, .va (.lst (ws.map (cdS j.k))), .un, .un, .va (dvD j.k x), .un, .un, .un, .un, .va (.int (m : Int)), .va (.int s), .un, .un] := by
    rw [hFS]
    refine compR_ok (f := D.int) (ρ1 := [.ow true (.lst (n2.map D.int)), .va j.k.D, .va (.int j.wi), .va j.D, .un, .un, .un, .un, .un, .un, .va (.lst (ws.map (cdS j.k))), .un, .un, .va (dvD j.k x), .un, .un, .un, .un, .va (.int (m : Int)), .va (.int s), .un, .un]) (rowB j.k ws) D.int (rgI j.st (j.wd.toNat + 1)) ?_ rfl rfl fun y hy => ?_
    · simp [evJ, rdV, rdL, ix_c1, ix_c3]
      rw [rng_2 _ _ ⟨by omega, by omega, by omega, by omega⟩, nums_rgI, show (j.st + j.wd + 1 - j.st).toNat = j.wd.toNat + 1 by omega]
      simp
      rw [fewI, if_pos (by rw [List.length_map, rgI_len]; omega)]
    · have hy := mem_rgI.mp hy
      have c3 := hc3 y (by omega) (by omega)
      have a3 := ap y
      generalize ((List.range ws.length).map fun (i : Nat) => D.bl (decide (j.k.s (y + (i : Int)) = dg j.k.d (ws.getD i 0)))) = BS at c3 a3
      exact ⟨[.ow true (.lst (n2.map D.int)), .va j.k.D, .va (.int j.wi), .va j.D, .un, .un, .un, .un, .un, .un, .va (.lst (ws.map (cdS j.k))), .un, .un, .va (dvD j.k x), .un, .un, .un, .un, .va (.int (m : Int)), .va (.int s), .un, .va (.int y)], by simp [wipeR], by simp [c3, a3], fun _ => ⟨[.ow true (.lst (n2.map D.int)), .va j.k.D, .va (.int j.wi), .va j.D, .un, .un, .un, .un, .un, .un, .va (.lst (ws.map (cdS j.k))), .un, .un, .va (dvD j.k x), .un, .un, .un, .un, .va (.int (m : Int)), .va (.int s), .un, .va (.int y)], by simp [rdV], rfl⟩, fun _ => rfl⟩
  have bt : j.beat ws = FS.head? := by rw [hFS]; rfl
  have bf := r_beat (n := n + 2) j h.j ws (by omega) (by omega)
  have tb := r_takes_beat (n := n + 3) j h.j ws (by omega) (by omega)
  have sd : s ≤ j.st + j.wd → FS ≠ [] := fun hh e => by
    have : s ∈ FS := by
      rw [hFS, List.mem_filter]
      exact ⟨mem_rgI.mpr ⟨by omega, by omega⟩, by rw [hws]; exact start_row j.k s m⟩
    rw [e] at this
    cases this
  rw [bt] at bf tb
  have lo : seqD (.lst (ws.map (cdS j.k))) = some (ws.map (cdS j.k)) := rfl
  simp [m16__law_are_sessions, rdV, rdL, rdO, ix_c1, ix_c3, e1, e2]
  rw [← hm, ← hs]
  simp [m17__law_are_sessions, hc1]
  simp [m18__law_are_sessions, hc2]
  simp [m19__law_are_sessions, rdV, rdL, cmp_eqN]
  cases FS with
  | nil =>
    have nsd : ¬ (s ≤ j.st + j.wd) := fun hh => sd hh rfl
    have sa := same4 (n := n) .non (sm_non _)
    simp at bf
    simp [m20__law_are_sessions, rdV, rdL, lo, bf, sa, ix_c1, ix_c3, nsd]
    simp [m21__law_are_sessions, rdV]
    exact hK n2
  | cons q qs =>
    simp at bf
    have t1 := tb q
    have t2 := tb (q + 1)
    rw [List.head?_cons] at t1 t2
    rw [decide_eq_true rfl] at t1
    rw [decide_eq_false (by simp; omega)] at t2
    rw [show (j.mv (q + (ws.length : Int))).D = .tup [j.k.D, .int (q + (ws.length : Int)), .int j.wi, .int j.wd] from rfl, wl] at bf
    have sa := same4 (n := n) (.tup [.int q, .tup [j.k.D, .int (q + (m : Int)), .int j.wi, .int j.wd]]) (sm_tup 3 _ (by simp) (by
      intro y hy
      simp only [List.mem_cons, List.not_mem_nil, or_false] at hy
      rcases hy with rfl | rfl
      · exact sm_int _ _
      · exact sm_tup 2 _ (by simp) (by simp [sm_int, sm_ky])))
    have i0 : ∀ a b : D, ixD (.tup [a, b]) (.int 0) = some a := fun _ _ => rfl
    simp [rdV, rdL, head_ix, ix_c2, ix_c3]
    have mm : ∀ (rest : Ss) (Q : Fl → En → Prop), Wp (evSs (gs dfs (n + 8)) rest [.ow true (.lst (n2.map D.int)), .va j.k.D, .va (.int j.wi), .va j.D, .un, .un, .un, .un, .un, .un, .va (.lst (ws.map (cdS j.k))), .va (.lst (.int q :: qs.map D.int)), .va (.tup [.int q, .tup [j.k.D, .int (q + (m : Int)), .int j.wi, .int j.wd]]), .va (dvD j.k x), .un, .un, .un, .un, .va (.int (m : Int)), .va (.int s), .un, .un]) Q → Wp (evS (gs dfs (n + 8)) m20__law_are_sessions [.ow true (.lst (n2.map D.int)), .va j.k.D, .va (.int j.wi), .va j.D, .un, .un, .un, .un, .un, .un, .va (.lst (ws.map (cdS j.k))), .va (.lst (.int q :: qs.map D.int)), .va (.tup [.int q, .tup [j.k.D, .int (q + (m : Int)), .int j.wi, .int j.wd]]), .va (dvD j.k x), .un, .un, .un, .un, .va (.int (m : Int)), .va (.int s), .un, .un]) (fun a ρ => Wp (thenS (evSs (gs dfs (n + 8)) rest) a ρ) Q) := by
      intro rest Q hw
      by_cases hh : s ≤ j.st + j.wd
      · simp [m20__law_are_sessions, rdV, rdL, lo, bf, sa, ix_c1, ix_c3, hh]
        exact hw
      · simp [m20__law_are_sessions, rdV, rdL, lo, bf, sa, ix_c1, ix_c3, hh]
        exact hw
    refine mm _ _ ?_
    simp [m21__law_are_sessions, rdV, rdL, lo, i0, t1, t2, cmp_isB]
    exact hK n2
theorem r_are_sessions (k : Ky) (h : k.Ok) (ns : List Int) : ∃ ms : List Int, (gs dfs (n + 9)).dM n__law_are_sessions (ns.map D.int) [k.D] = .ok (.bl true, ms.map D.int) := by
  have un : (gs dfs (n + 9)).dM n__law_are_sessions (ns.map D.int) [k.D] = endM (evSs (gs dfs (n + 8)) b__law_are_sessions [.ow true (.lst (ns.map D.int)), .va k.D, .un, .un, .un, .un, .un, .un, .un, .un, .un, .un, .un, .un, .un, .un, .un, .un, .un, .un, .un, .un]) := rfl
  rw [un]
  have : ∃ d ys, endM (evSs (gs dfs (n + 8)) b__law_are_sessions [.ow true (.lst (ns.map D.int)), .va k.D, .un, .un, .un, .un, .un, .un, .un, .un, .un, .un, .un, .un, .un, .un, .un, .un, .un, .un, .un, .un]) = .ok (d, ys) ∧ (d = .bl true ∧ ∃ ms : List Int, ys = ms.map D.int) := by
    refine endM_J fun P hP => ?_
    unfold b__law_are_sessions
    refine turnA _ k h ns _ fun n1 j x bs hk hj hb => ?_
    refine turnB _ j x hj bs hb n1 _ ?_
    refine turnC _ j x hj n1 _ ?_
    refine turnD _ j x hj n1 _ ?_
    exact turnE j x hj n1 _ fun ms => hP _ _ ⟨rfl, ms, rfl⟩
  obtain ⟨d, ys, e, rfl, ms, rfl⟩ := this
  exact ⟨ms, e⟩
end
end Ev.W

end
section
set_option maxHeartbeats 2000000
namespace Ev.W
open PySem PySem.Spec PyProof.Rows L2 Ev
def ck5 : Ky := ⟨0, 1, 5, 6⟩
theorem ck5_ok : ck5.Ok := ⟨by decide, by decide, by decide, by decide, by decide, by decide, by decide, by decide⟩
theorem ck5_inj {m n : Int} (hm : 0 ≤ m ∧ m ≤ 900000) (hn : 0 ≤ n ∧ n ≤ 900000) (h : ck5.s m = ck5.s n) : m = n := by
  have e := dg_eq.mp h
  have w : ∀ x : Int, 0 ≤ x ∧ x ≤ 900000 → (ck5.w x : Int) = x + 5 := fun x hx => by
    rw [← Ky.vw]
    unfold Ky.v ck5
    rw [show (0 : Int) * x * x * x + 1 * x + 5 = x + 5 by rw [Int.zero_mul, Int.zero_mul, Int.zero_mul, Int.one_mul, Int.zero_add]]
    omega
  have wm := w m hm
  have wn := w n hn
  rw [show (10 : Nat) ^ ck5.d = 1000000 from rfl] at e
  omega
def j5 (s : Int) : Cj := ⟨ck5, s, 50, 200⟩
theorem j5_ok {s : Int} (h : 0 ≤ s ∧ s ≤ 100000) : (j5 s).Ok := ⟨h.1, by show s ≤ _; omega, by show (0 : Int) ≤ 50; omega, by show (50 : Int) ≤ 1000; omega, by show (50 : Int) ≤ 200; omega, by show (200 : Int) ≤ 20000; omega, ck5_ok⟩
theorem j5_met {s x : Int} (hs : 0 ≤ s ∧ s ≤ 100000) (hx : 0 ≤ x ∧ x ≤ 200000) : (j5 s).met (ck5.w x) = if s ≤ x ∧ x ≤ s + 50 then some x else none := by
  cases e : (j5 s).met (ck5.w x) with
  | some m =>
    obtain ⟨h1, h2, h3⟩ := met_mem e (by show (0 : Int) ≤ 50; omega)
    have h1 : s ≤ m := h1
    have h2 : m ≤ s + 50 := h2
    have : m = x := ck5_inj ⟨by omega, by omega⟩ ⟨by omega, by omega⟩ h3
    subst this
    rw [if_pos ⟨h1, h2⟩]
  | none =>
    by_cases c : s ≤ x ∧ x ≤ s + 50
    · have := first_none e x c.1 (by show x < s + (((50 : Int).toNat + 1 : Nat) : Int); omega)
      unfold hasB Ky.s at this
      exact absurd rfl (of_decide_eq_false this)
    · rw [if_neg c]
theorem law_gen (n : Nat) (ns : List Int) (hl : ns.length ≤ 63) : (gs dfs (n + 10)).dD n_law [.scr ns] = .ok (.bl true) := by
  show endD (evSs (gs dfs (n + 9)) b_law ([.va (.scr ns)] ++ List.replicate 7 .un)) = _
  obtain ⟨n1, e1⟩ := r_draws (n := n + 8) ns hl
  refine endD_wp ?_
  simp [b_law, rdV, e1, rng_1 3 ⟨by omega, by omega⟩]
  refine wp_forU (fun k ρ => ∃ ms : List Int, ρ = [.va (.scr ns), .ow false (.lst (ms.map D.int)), .un, .un, .un, .un, .un, .un]) ⟨_, ⟨n1, rfl⟩, by simp⟩ ?_ ?_
  · rintro J uJ hJ k ρ hk ⟨ms, rfl⟩
    obtain ⟨y, n2, e2, hy⟩ := r_law_key (n := n + 6) ms
    obtain ⟨n3, e3⟩ := r_are_keys (n := n + 1) y hy n2
    obtain ⟨n4, e4⟩ := r_are_sessions (n := n) y hy n3
    simp [l1_law, rdV, rdO, e2, e3, e4]
    exact hJ _ _ _ ⟨n4, rfl⟩ (by simp)
  · rintro ρ ⟨ms, rfl⟩
    obtain ⟨s, n2, e2, s0, s1⟩ := r_takeX (n := n + 8) ms 1000 (by omega)
    have jd : ∀ s : Int, (D.tup [.tup [.int 0, .int 1, .int 5, .int 6], .int s, .int 50, .int 200]) = (j5 s).D := fun _ => rfl
    simp [rdO, e2, rng_1 30 ⟨by omega, by omega⟩]
    rw [jd]
    refine wp_forU (fun k ρ => ∃ (ms us : List Int) (s : Int), ρ = [.va (.scr ns), .ow false (.lst (ms.map D.int)), .un, .va (j5 s).D, .va (.lst (us.map D.int)), .un, .un, .un] ∧ 0 ≤ s ∧ s ≤ 1000 + 60 * (k : Int) ∧ us.length ≤ k ∧ ∀ u ∈ us, 0 ≤ u ∧ u < s) ⟨_, ⟨n2, [], s, rfl, s0, by omega, by simp, by simp⟩, by simp⟩ ?_ ?_
    · rintro J uJ hJ k ρ hk ⟨ms, us, s, rfl, s0, s1, ul, ub⟩
      have hk : k < 30 := hk
      obtain ⟨a, n3, e3, a0, a1⟩ := r_takeX (n := n + 8) ms 60 (by omega)
      have i0 : ixD (j5 s).D (.int 0) = some ck5.D := rfl
      have i1 : ixD (j5 s).D (.int 1) = some (.int s) := rfl
      obtain ⟨x, hx⟩ : ∃ x, x = s + a - 8 := ⟨_, rfl⟩
      simp [l2_law, rdV, rdL, rdO, i1, e3]
      rw [← hx]
      by_cases x0 : 0 ≤ x
      · have z8 : 8 ≤ s + a := by omega
        have ca := r_code_at (n := n + 4) ck5 ck5_ok x ⟨x0, by omega⟩
        have ju := r_judged (n := n + 2) (j5 s) (j5_ok ⟨s0, by omega⟩) (ck5.w x)
        rw [show (j5 s).k = ck5 from rfl, j5_met ⟨s0, by omega⟩ ⟨x0, by omega⟩] at ju
        have cs : cdS ck5 (ck5.w x) = .str (Sx (ck5.s x)) := rfl
        rw [cs] at ju
        by_cases c : s ≤ x ∧ x ≤ s + 50
        · have nin : x ∉ us := fun z => by have := ub x z; omega
          rw [if_pos c, show juD (j5 s) (some x) = .tup [.bl true, (j5 (x + 1)).D] from rfl] at ju
          have rp := op_rep1 (.int x) 1 (by omega) (by omega)
          rw [show Int.toNat 1 = 1 from rfl, List.replicate_one] at rp
          have ct := op_cat (us.map D.int) [.int x] (by simp; omega)
          simp [z8, rdV, rdL, i0, ca, ju, cmp_inL, nin, rp, ct]
          refine hJ _ _ _ ⟨n3, us ++ [x], x + 1, rfl, by omega, by push_cast; omega, by simp; omega, ?_⟩ (by simp)
          intro u hu
          rcases List.mem_append.mp hu with hu | hu
          · have := ub u hu; omega
          · rw [List.mem_singleton] at hu; omega
        · rw [if_neg c, show juD (j5 s) none = .tup [.bl false, (j5 s).D] from rfl] at ju
          have rp := op_rep1 (.int x) 0 (by omega) (by omega)
          rw [show Int.toNat 0 = 0 from rfl, List.replicate_zero] at rp
          have ct := op_cat (us.map D.int) [] (by simp; omega)
          simp [z8, rdV, rdL, i0, ca, ju, rp, ct]
          exact hJ _ _ _ ⟨n3, us, s, rfl, s0, by push_cast; omega, by omega, ub⟩ (by simp)
      · have z8 : ¬ (8 ≤ s + a) := by omega
        simp [z8]
        exact hJ _ _ _ ⟨n3, us, s, rfl, s0, by push_cast; omega, by omega, ub⟩ (by simp)
    · rintro ρ ⟨ms, us, s, rfl, s0, s1, ul, ub⟩
      have s1 : s ≤ 1000 + 60 * 30 := s1
      have ul : us.length ≤ 30 := ul
      have i0 : ixD (j5 s).D (.int 0) = some ck5.D := rfl
      have hc : compR (.nm 6) (evJ (gs dfs (n + 9)) (.sq (.var 4))) (evC (gs dfs (n + 9)) .no) (evE (gs dfs (n + 9)) (.cmp .Is (.call n_met_count 2 (.cons (.var 3) (.cons (.call n_code_at 2 (.cons (.ixV 3 (.con (.int 0))) (.cons (.var 6) .nil))) .nil))) (.con .non))) [6]
          [.va (.scr ns), .ow false (.lst (ms.map D.int)), .un, .va (j5 s).D, .va (.lst (us.map D.int)), .un, .un, .un] = .ok (us.map fun _ => .bl true) [.va (.scr ns), .ow false (.lst (ms.map D.int)), .un, .va (j5 s).D, .va (.lst (us.map D.int)), .un, .un, .un] := by
        refine compR_all (f := D.int) (ρ1 := [.va (.scr ns), .ow false (.lst (ms.map D.int)), .un, .va (j5 s).D, .va (.lst (us.map D.int)), .un, .un, .un]) _ us ?_ rfl rfl fun x hx => ?_
        · simp [evJ, rdV, fewI]; omega
        · have xb := ub x hx
          have ca := r_code_at (n := n + 4) ck5 ck5_ok x ⟨xb.1, by omega⟩
          have mc := r_met_count (n := n + 2) (j5 s) (j5_ok ⟨s0, by omega⟩) (ck5.w x)
          rw [show (j5 s).k = ck5 from rfl, j5_met ⟨s0, by omega⟩ ⟨xb.1, by omega⟩, if_neg (by omega), show cdS ck5 (ck5.w x) = .str (Sx (ck5.s x)) from rfl] at mc
          exact ⟨[.va (.scr ns), .ow false (.lst (ms.map D.int)), .un, .va (j5 s).D, .va (.lst (us.map D.int)), .un, .va (.int x), .un], by simp [wipeR], by simp, [.va (.scr ns), .ow false (.lst (ms.map D.int)), .un, .va (j5 s).D, .va (.lst (us.map D.int)), .un, .va (.int x), .un], by simp [rdV, rdL, i0, ca, mc], rfl⟩
      simp [hc, all_T]
theorem law_true (ns : List Int) (hl : ns.length ≤ 63) : (gs dfs 60).dD n_law [.scr ns] = .ok (.bl true) := law_gen 50 ns hl
end Ev.W

end
section
set_option maxHeartbeats 0
namespace Ev.W
open PySem PySem.Spec PyProof.Rows L2 Ev
abbrev Rw : PySem.W.OpenRow := PySem.W.OpenLaw.row PySem.Challenge.rw_oncecodes_k32_whole_great_keys_and_count
abbrev fal : List He.Fa := faOf dfs cls glo
abbrev pE : PySem.W.Frag → Bool := excB cls
abbrev hk : PySem.W.Hook := hookP 4 fal fnd pE
def ob (s : PySem.W.SharedT) : He.AlD × Bool := obsPG 4 fal fnd pE (HandSHeadRun.getT s)
theorem ob_eq (s : PySem.W.SharedT) : ob s = hk.obs s.abs := obsPG_eq (HandSHeadRun.getT_eq s)
def loose0 : List Str := ["CodeError", "NotRight", "NoAnswer", "TooLarge", "is_integer", "is_within", "check", "is_count", "power", "PRIME_keys", "MOST_DIGITS", "LONGEST", "MOST_CODES", "MOST_COUNTS", "is_key", "is_key_keys", "check_key", "are_figures", "is_code", "is_code_keys", "value_by", "told", "code_by", "value_at", "code_at", "codes_from", "check_span", "counts_of", "first_repeat", "tell"]
def loose1 : List Str := ["WIDEST", "MOST_WIDE", "MOST_ROW", "SHOW", "SEND", "is_count_judge", "is_device", "check_judge", "check_code", "met_by", "met_count", "moved", "judged_by", "judged", "beat_found", "shown", "check_both", "apart", "session", "looked_at", "taken_codes", "is_clear_by", "is_clear", "most_shows", "PRIME_checkcodes", "is_key_checkcodes", "is_code_checkcodes", "shows", "takes_repeat", "need_judge"]
def loose2 : List Str := ["takes_met", "fits", "takes_beat", "_law_draws", "_law_take", "_law_pick", "_law_same", "_law_key", "_law_value", "_law_code", "_law_first_repeat", "_law_met", "_law_most", "_law_are_keys", "_law_are_sessions"]
def loose : List Str := loose0 ++ loose1 ++ loose2
theorem headRun (w : World) : HandSHeadRun.RunEq Rw (PySem.W.view Rw.prog [82]) hk ob 4000 loose w := by
  intro os
  kernel_rfl
theorem headFacts (lt : ∀ ns : List Int, ns.length ≤ 63 → (gs dfs 60).dD n_law [.scr ns] = .ok (.bl true)) {P : Program} {w : World} {K : PySem.W.Frag} {h : Heap} {mg : Str → Option Value} {f : Addr} (X : K.In h) (G : h.Ns mainGlobals mg) (hfa : mg ("law" : Str) = some (.ref f)) (c : He.SaysD fal fnd K) (hE : pE K = true) :
    ∃ fd : FuncData, (∀ (s : Shared) (v : Value), BindsTo s fd ⟨[v], []⟩ [("script", v)]) ∧ ∀ base : Heap, K.In base → base.Ns mainGlobals mg → FnOk P w K mg base (CXu P) 60 f fd ["script"] (spD (cnOf K dfs cls) 1 ((gs dfs 60).dD n_law)) := by
  obtain ⟨fd, F⟩ := c.def_ n_law (d := q_law) rfl
  have e := hfa.symm.trans (He.glo_ok X G (fact_mem c (f := .glo "law") (List.mem_append_right _ (List.mem_append_left _ (List.mem_map.mpr ⟨d_law, List.mem_of_getElem? (i := n_law) rfl, rfl⟩)))))
  cases e
  have b := FunD.bindsA (ps := ["script"]) F fun _ _ _ _ _ _ us hl => match us, hl with | [_], _ => rfl
  refine ⟨fd, fun s v => b s [v] rfl, fun base _ _ => ?_⟩
  exact wideCX <| lawAt (ds := dfs) (cls := cls) (glo := glo) X G c okAll rfl hE P w base 59 (k := n_law) (d := d_law) (q := q_law) rfl rfl F
end Ev.W
open PySem PySem.W PySem.Calls PyProof.Rows
theorem holds_of (lt : ∀ ns : List Int, ns.length ≤ 63 → (Ev.gs Ev.W.dfs 60).dD Ev.W.n_law [.scr ns] = .ok (.bl true)) : PySem.Challenge.rw_oncecodes_k32_whole_great_keys_and_count.Holds := by
  w_on; o_law
  refine HandSHeadRun.head_any (r := Ev.W.Rw) (q := view Ev.W.Rw.prog [82]) (H := Ev.W.hk) (ob := Ev.W.ob) (M := 4000) (loose := Ev.W.loose) (d := HandSHeadRun.topDef Ev.W.Rw.prog 82) (kwd := []) Ev.W.ob_eq
    (by kernel_rfl) (fun s => by kernel_rfl) Ev.W.headRun (by kernel_rfl) (by kernel_rfl) (by kernel_rfl) (by rfl) (by first | assumption | decide +kernel) (by decide +kernel) ⟨rfl, rfl, rfl, rfl, rfl, by decide +kernel⟩ ?hw ?hc
  case hw => w_witness2
  case hc =>
    refine L2.walk_ofE (l := PySem.Challenge.rw_oncecodes_k32_whole_great_keys_and_count) (n := 63) (k := 60) (x := "script") (CX := Ev.CXu PySem.Challenge.rw_oncecodes_k32_whole_great_keys_and_count.prog) rfl (by decide) (by kernel_rfl) ⟨rfl, by decide, by decide⟩ ?F Ev.noCX
    intro w mg fa h Y G hmg0
    obtain ⟨K, KX, c, hE⟩ := Y
    have hmg : mg ("law" : PySem.Str) = some (.ref fa) := by
      have e : (HandSHeadRun.topDef Ev.W.Rw.prog 82).name = ("law" : PySem.Str) := by kernel_rfl
      rw [← e]
      exact hmg0
    obtain ⟨fd, hb, hF⟩ := Ev.W.headFacts lt (P := PySem.Challenge.rw_oncecodes_k32_whole_great_keys_and_count.prog) (w := w) KX G hmg c hE
    exact ⟨K, fd, _, KX, hb, fun H a ns hl _ hS => Ev.lawSp hS (lt ns hl), hF⟩

end
theorem PySem.Challenge.cw_oncecodes_k32_whole_great_keys_and_count_holds : PySem.Challenge.rw_oncecodes_k32_whole_great_keys_and_count.Holds := by
  exact holds_of Ev.W.law_true
